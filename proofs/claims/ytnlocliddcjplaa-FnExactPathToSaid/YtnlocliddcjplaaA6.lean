/- Lemmas, part 6. -/
import Derived.Test.YtnlocliddcjplaaA5
import Derived.RangeFuncLeaves
import Derived.RangeFuncRecord
import Derived.RangeFuncSeq
import Derived.RangeFuncBound
import Derived.RangeFuncBox
import Derived.Shelf.Abstract
import Derived.WalkKit
import Derived.OwnWalkIn
import Derived.TacticsInMore
import Derived.LoopNIn
import Derived.LoopIn
import Derived.Test.YtnlocliddcjplaaProg
set_option linter.unusedVariables false
set_option linter.unusedSimpArgs false
namespace Go.Av
open Go Go.Proofs Go.Sort
set_option maxRecDepth 10000
theorem hb58 : hasBody Try.prog 58 = true := by kernel_rfl
theorem hb64 : hasBody Try.prog 64 = true := by kernel_rfl
theorem hb70 : hasBody Try.prog 70 = true := by kernel_rfl

theorem isNaNi_c (a : Int) : ACall Try.prog 83 [.int .i64 a] [] (.bool false) [] := by
  refine ACall.intro Try.func83 rfl (N := 6) rfl (by decide) (by simp) ?_
  refine a_seq ?_
  refine a_region ?_
  refine r_val (v := .bool _) (v_assign (.inl rfl) (noOwn_flat rfl)) rfl rfl (by decide) ?_
  refine r_nil ?_
  refine a_seq ?_
  refine a_region ?_
  refine r_val (v := .int _ _) (v_move (.inl rfl) (noOwn_flat rfl)) rfl rfl (by decide) ?_
  refine r_val (v := .int _ _) (v_move (.inl rfl) (noOwn_flat rfl)) rfl rfl (by decide) ?_
  refine r_val (v := .bool _) (v_neq (.inl rfl) (.inl rfl)) rfl rfl (by decide) ?_
  refine r_val (v := .bool _) (v_assign (.inl rfl) (noOwn_flat rfl)) rfl rfl (by decide) ?_
  refine r_nil ?_
  refine a_ret ?_
  refine ret1 Try.results83 (by decide) (by decide) (Weak.of_eq (bool_eq ?_)) rfl Leaves.nil
  simp

theorem lessi_c (a b : Int) : ACall Try.prog 70 [.int .i64 a, .int .i64 b] [] (.bool (decide (a < b))) [] := by
  refine ACall.intro Try.func70 rfl (N := 17) rfl (by decide) (by simp) ?_
  refine a_seq ?_
  refine a_region ?_
  refine r_val (v := .bool _) (v_assign (.inl rfl) (noOwn_flat rfl)) rfl rfl (by decide) ?_
  refine r_nil ?_
  refine a_seq ?_
  refine a_region ?_
  refine r_val (v := .int _ _) (v_move (.inl rfl) (noOwn_flat rfl)) rfl rfl (by decide) ?_
  refine r_new (v := .bool _) (q_call (vs := [.int _ _]) (args := [.int .i64 _]) hb83 ⟨.inl rfl, trivial⟩ rfl (fun hA => isNaNi_c _) rfl rfl) rfl rfl (by decide) ?_
  refine r_val (v := .bool _) (v_move (.inl rfl) (noOwn_flat rfl)) rfl rfl (by decide) ?_
  refine r_gval (v := .int _ _) (v_move (.inl rfl) (noOwn_flat rfl)) rfl rfl rfl (by decide) (.inl ⟨_, rfl, rfl⟩) rfl (by decide) ?_
  refine r_guard (v := .bool _) (q_call (vs := [.int _ _]) (args := [.int .i64 _]) hb83 ⟨.inr ⟨_, rfl, fun h => h⟩, trivial⟩ rfl (fun hA => isNaNi_c _) rfl rfl) rfl rfl rfl (by decide) (.inl ⟨_, rfl, rfl⟩) rfl (by decide) ?_
  refine r_gval (v := .bool _) (v_not (.inr ⟨_, rfl, fun h => h⟩)) rfl rfl rfl (by decide) (.inl ⟨_, rfl, rfl⟩) rfl (by decide) ?_
  refine r_val (v := .bool _) (v_pick (.inl rfl) (.inr ⟨_, rfl, fun h h2 => by simp_all⟩) (.inl rfl)) rfl rfl (by decide) ?_
  refine r_val (v := .bool _) (v_move (.inl rfl) (noOwn_flat rfl)) rfl rfl (by decide) ?_
  refine r_gval (v := .int _ _) (v_move (.inl rfl) (noOwn_flat rfl)) rfl rfl rfl (by decide) (.inl ⟨_, rfl, rfl⟩) rfl (by decide) ?_
  refine r_gval (v := .int _ _) (v_move (.inl rfl) (noOwn_flat rfl)) rfl rfl rfl (by decide) (.inl ⟨_, rfl, rfl⟩) rfl (by decide) ?_
  refine r_gval (v := .bool _) (v_lss (.inr ⟨_, rfl, fun h => h⟩) (.inr ⟨_, rfl, fun h => h⟩)) rfl rfl rfl (by decide) (.inl ⟨_, rfl, rfl⟩) rfl (by decide) ?_
  refine r_val (v := .bool _) (v_pick (.inl rfl) (.inl rfl) (.inr ⟨_, rfl, fun h h2 => by simp_all⟩)) rfl rfl (by decide) ?_
  refine r_val (v := .bool _) (v_assign (.inl rfl) (noOwn_flat rfl)) rfl rfl (by decide) ?_
  refine r_nil ?_
  refine a_ret ?_
  refine ret1 Try.results70 (by decide) (by decide) (Weak.of_eq (bool_eq ?_)) rfl Leaves.nil
  simp

theorem insertO_c (d : Array Int) (n a b : Nat) (hd : d.size = n) (hab : a ≤ b ∧ b ≤ n) (hn : n ≤ 4611686018427387904) : ACall Try.prog 64 [.rsl (INH, []) 1 0 n none, .int .i64 ((a : Nat) : Int), .int .i64 ((b : Nat) : Int)] [.osl 1 (acells d) n none] (.tup []) [.osl 1 (acells (insertionSort (fun x y : Int => decide (x < y)) d a b)) n none] := by
  refine ACall.intro Try.func64 rfl (N := 49) rfl (by decide) (by simp) ?_
  refine a_seq ?_
  refine a_region ?_
  refine r_val (v := .int _ _) (v_move (.inl rfl) (noOwn_flat rfl)) rfl rfl (by decide) ?_
  refine r_val (v := .int _ _) (v_add (.inl rfl) (.inl rfl) (fun _ => by omega)) rfl rfl (by decide) ?_
  refine r_val (v := .int _ _) (v_assign (.inl rfl) (noOwn_flat rfl)) rfl rfl (by decide) ?_
  refine r_nil ?_
  refine a_block ?_
  refine a_loop (X := (Nat × Array Int)) (fun x => look [(0, .rsl (INH, []) 1 0 n none), (1, .int .i64 ((a : Nat) : Int)), (2, .int .i64 ((b : Nat) : Int)), (6, .int .i64 ((x.1 : Nat) : Int)), (INH, .osl 1 (acells x.2) n none)]) (fun x => a + 1 ≤ x.1 ∧ x.2.size = n ∧ insOuter (fun x y : Int => decide (x < y)) a b x.1 x.2 = insertionSort (fun x y : Int => decide (x < y)) d a b) (fun x => b - x.1) (a + 1, d) (ent_look ⟨Weak.of_eq rfl, Weak.of_eq rfl, Weak.of_eq rfl, Weak.of_eq (int_eq (by omega)), Weak.of_eq rfl, trivial⟩) ⟨Nat.le_refl _, hd, rfl⟩ (fun x hG => ?_)
  obtain ⟨g1, g2, g3⟩ := hG
  refine a_seq ?_
  refine a_seq ?_
  refine a_region ?_
  refine r_val (v := .int _ _) (v_move (.inl rfl) (noOwn_flat rfl)) rfl rfl (by decide) ?_
  refine r_val (v := .int _ _) (v_move (.inl rfl) (noOwn_flat rfl)) rfl rfl (by decide) ?_
  refine r_val (v := .bool _) (v_lss (.inl rfl) (.inl rfl)) rfl rfl (by decide) ?_
  refine r_nil ?_
  refine a_cond rfl (fun ht12 => ?_) (fun ht12 => ?_)
  ·
    skip
    refine a_skip ?_
    refine a_seq ?_
    refine a_block ?_
    refine a_seq ?_
    have hxb : x.1 < b := (by simpa using ht12)
    refine a_region ?_
    refine r_val (v := .int _ _) (v_move (.inl rfl) (noOwn_flat rfl)) rfl rfl (by decide) ?_
    refine r_val (v := .int _ _) (v_assign (.inl rfl) (noOwn_flat rfl)) rfl rfl (by decide) ?_
    refine r_nil ?_
    refine a_block ?_
    refine a_loop (X := (Nat × Array Int)) (fun y => look [(0, .rsl (INH, []) 1 0 n none), (1, .int .i64 ((a : Nat) : Int)), (2, .int .i64 ((b : Nat) : Int)), (6, .int .i64 ((x.1 : Nat) : Int)), (7, .int .i64 ((y.1 : Nat) : Int)), (INH, .osl 1 (acells y.2) n none)]) (fun y => a ≤ y.1 ∧ y.1 ≤ x.1 ∧ y.2.size = n ∧ insInner (fun x y : Int => decide (x < y)) a y.1 y.2 = insInner (fun x y : Int => decide (x < y)) a x.1 x.2) (fun y => y.1) (x.1, x.2) (ent_look ⟨Weak.of_eq rfl, Weak.of_eq rfl, Weak.of_eq rfl, Weak.of_eq rfl, Weak.of_eq rfl, Weak.of_eq rfl, trivial⟩) ⟨by omega, Nat.le_refl _, g2, rfl⟩ (fun y hG => ?_)
    obtain ⟨k1, k2, k3, k4⟩ := hG
    refine a_seq ?_
    refine a_seq ?_
    refine a_region_any mixed (by kernel_rfl) ?_
    refine y_val (v := .int _ _) (v_move (.inl rfl) (noOwn_flat rfl)) rfl rfl (by decide) (by kernel_rfl) ?_
    refine y_val (v := .int _ _) (v_move (.inl rfl) (noOwn_flat rfl)) rfl rfl (by decide) (by kernel_rfl) ?_
    refine y_val (v := .bool _) (v_gtr (.inl rfl) (.inl rfl)) rfl rfl (by decide) (by kernel_rfl) ?_
    refine y_val (v := .bool _) (v_move (.inl rfl) (noOwn_flat rfl)) rfl rfl (by decide) (by kernel_rfl) ?_
    refine y_guard (v := .rsl _ _ _ _ _) (v_move (.inl rfl) (noOwn_flat rfl)).quiet rfl rfl rfl (by decide) (.inl ⟨_, rfl, rfl⟩) rfl (by decide) (by kernel_rfl) ?_
    refine y_guard (v := .int _ _) (v_move (.inl rfl) (noOwn_flat rfl)).quiet rfl rfl rfl (by decide) (.inl ⟨_, rfl, rfl⟩) rfl (by decide) (by kernel_rfl) ?_
    refine y_guard (v := .rp _ _) (v_indexAddr_rsl0 es28 (.inr ⟨_, rfl, fun h => h⟩) (.inr ⟨_, rfl, fun h => h⟩) (fun hA => by simp at hA; omega)).quiet rfl rfl rfl (by decide) (.inl ⟨_, rfl, rfl⟩) rfl (by decide) (by kernel_rfl) ?_
    refine y_guard (v := .int .i64 y.2[y.1]!) (v_load_rp1 ta3 (.inr ⟨_, rfl, fun h => h⟩) rfl (fun hA => by simp at hA; rw [Nat.mul_one]; exact acells_get (by omega)) rfl).quiet rfl rfl rfl (by decide) (.inl ⟨_, rfl, rfl⟩) rfl (by decide) (by kernel_rfl) ?_
    refine y_guard (v := .rsl _ _ _ _ _) (v_move (.inl rfl) (noOwn_flat rfl)).quiet rfl rfl rfl (by decide) (.inl ⟨_, rfl, rfl⟩) rfl (by decide) (by kernel_rfl) ?_
    refine y_guard (v := .int _ _) (v_move (.inl rfl) (noOwn_flat rfl)).quiet rfl rfl rfl (by decide) (.inl ⟨_, rfl, rfl⟩) rfl (by decide) (by kernel_rfl) ?_
    refine y_guard (v := .int _ _) (v_sub (.inr ⟨_, rfl, fun h => h⟩) (.inl rfl) (fun hA => by simp at hA; omega)).quiet rfl rfl rfl (by decide) (.inl ⟨_, rfl, rfl⟩) rfl (by decide) (by kernel_rfl) ?_
    refine y_guard (v := .rp _ _) (v_indexAddr_rsl0 es28 (.inr ⟨_, rfl, fun h => h⟩) (.inr ⟨_, rfl, fun h => h⟩) (fun hA => by simp at hA; omega)).quiet rfl rfl rfl (by decide) (.inl ⟨_, rfl, rfl⟩) rfl (by decide) (by kernel_rfl) ?_
    refine y_guard (v := .int .i64 y.2[y.1 - 1]!) (v_load_rp1 ta3 (.inr ⟨_, rfl, fun h => h⟩) rfl (fun hA => by simp at hA; rw [show ((y.1 : Int) - 1).toNat = y.1 - 1 by omega, Nat.mul_one]; exact acells_get (by omega)) rfl).quiet rfl rfl rfl (by decide) (.inl ⟨_, rfl, rfl⟩) rfl (by decide) (by kernel_rfl) ?_
    refine y_guard (v := .bool _) (q_call (vs := [.int _ _, .int _ _]) (args := [.int .i64 _, .int .i64 _]) hb70 ⟨.inr ⟨_, rfl, fun h => h⟩, .inr ⟨_, rfl, fun h => h⟩, trivial⟩ rfl (fun hA => lessi_c _ _) rfl rfl) rfl rfl rfl (by decide) (.inl ⟨_, rfl, rfl⟩) rfl (by decide) (by kernel_rfl) ?_
    refine y_val (v := .bool _) (v_pick (.inl rfl) (.inr ⟨_, rfl, fun h h2 => by simp_all⟩) (.inl rfl)) rfl rfl (by decide) (by kernel_rfl) ?_
    refine y_nil ?_
    refine a_cond rfl (fun ht30 => ?_) (fun ht30 => ?_)
    ·
      skip
      refine a_skip ?_
      refine a_seq ?_
      refine a_block ?_
      have hjl : a < y.1 ∧ (fun x y : Int => decide (x < y)) y.2[y.1]! y.2[y.1 - 1]! = true := (by simpa using ht30)
      obtain ⟨hj, hl⟩ := hjl
      have hp1 : y.1 * 1 + 1 ≤ (acells y.2).length := (by rw [acells_length]; omega)
      have hp2 : (y.1 - 1) * 1 + 1 ≤ ((acells y.2).set (y.1 * 1) (.int .i64 y.2[(y.1 - 1)]!)).length := (by rw [List.length_set, acells_length]; omega)
      have hset : ((acells y.2).set (y.1 * 1) (.int .i64 y.2[(y.1 - 1)]!)).set ((y.1 - 1) * 1) (.int .i64 y.2[y.1]!) = acells (swp y.2 y.1 (y.1 - 1)) := (by rw [Nat.mul_one, Nat.mul_one]; exact acells_swp _ _ _)
      refine a_region_w [(33, true), (34, true), (35, true), (36, true), (37, true), (38, true), (39, true), (40, true), (41, true), (42, true), (43, true), (44, true), (45, true), (46, true), (47, true), (INH, false), (48, true), (INH, false)] mixed (by kernel_rfl) ?_
      refine w_val (v := .rsl _ _ _ _ _) (v_move (.inl rfl) (noOwn_flat rfl)) rfl rfl (by decide) rfl (by kernel_rfl) ?_
      refine w_val (v := .int _ _) (v_move (.inl rfl) (noOwn_flat rfl)) rfl rfl (by decide) rfl (by kernel_rfl) ?_
      refine w_val (v := .rsl _ _ _ _ _) (v_move (.inl rfl) (noOwn_flat rfl)) rfl rfl (by decide) rfl (by kernel_rfl) ?_
      refine w_val (v := .int _ _) (v_move (.inl rfl) (noOwn_flat rfl)) rfl rfl (by decide) rfl (by kernel_rfl) ?_
      refine w_val (v := .int .i64 ((y.1 - 1 : Nat) : Int)) ((v_sub (.inl rfl) (.inl rfl) (fun _ => by omega)).cast (int_eq (by omega))) rfl rfl (by decide) rfl (by kernel_rfl) ?_
      refine w_val (v := .rsl _ _ _ _ _) (v_move (.inl rfl) (noOwn_flat rfl)) rfl rfl (by decide) rfl (by kernel_rfl) ?_
      refine w_val (v := .int _ _) (v_move (.inl rfl) (noOwn_flat rfl)) rfl rfl (by decide) rfl (by kernel_rfl) ?_
      refine w_val (v := .int .i64 ((y.1 - 1 : Nat) : Int)) ((v_sub (.inl rfl) (.inl rfl) (fun _ => by omega)).cast (int_eq (by omega))) rfl rfl (by decide) rfl (by kernel_rfl) ?_
      refine w_val (v := .rp _ _) (v_indexAddr_rsl0 es28 (.inl rfl) (.inl rfl) (fun _ => by omega)) rfl rfl (by decide) rfl (by kernel_rfl) ?_
      refine w_val (v := .int .i64 y.2[y.1 - 1]!) (v_load_rp1 ta3 (.inl rfl) rfl (fun _ => by rw [Nat.mul_one]; exact acells_get (by omega)) rfl) rfl rfl (by decide) rfl (by kernel_rfl) ?_
      refine w_val (v := .rsl _ _ _ _ _) (v_move (.inl rfl) (noOwn_flat rfl)) rfl rfl (by decide) rfl (by kernel_rfl) ?_
      refine w_val (v := .int _ _) (v_move (.inl rfl) (noOwn_flat rfl)) rfl rfl (by decide) rfl (by kernel_rfl) ?_
      refine w_val (v := .rp _ _) (v_indexAddr_rsl0 es28 (.inl rfl) (.inl rfl) (fun _ => by omega)) rfl rfl (by decide) rfl (by kernel_rfl) ?_
      refine w_val (v := .int .i64 y.2[y.1]!) (v_load_rp1 ta3 (.inl rfl) rfl (fun _ => by rw [Nat.mul_one]; exact acells_get (by omega)) rfl) rfl rfl (by decide) rfl (by kernel_rfl) ?_
      refine w_val (v := .rp _ _) (v_indexAddr_rsl0 es28 (.inl rfl) (.inl rfl) (fun _ => by omega)) rfl rfl (by decide) rfl (by kernel_rfl) ?_
      refine w_store (v := .int _ _) (y' := .osl _ _ _ _) rfl rfl rfl ta3 (.inl rfl) (.inl rfl) rfl rfl rfl rfl rfl rfl hp1 (by decide) rfl rfl rfl (by kernel_rfl) ?_
      refine w_val (v := .rp _ _) (v_indexAddr_rsl0 es28 (.inl rfl) (.inl rfl) (fun _ => by omega)) rfl rfl (by decide) rfl (by kernel_rfl) ?_
      refine w_store (v := .int _ _) (y' := .osl _ _ _ _) rfl rfl rfl ta3 (.inl rfl) (.inl rfl) rfl rfl rfl rfl rfl rfl hp2 (by decide) rfl (congrArg (fun c => AV.osl 1 c n none) hset) rfl (by kernel_rfl) ?_
      refine w_nil ?_
      refine a_pre (ent_look (L := [(0, .rsl _ _ _ _ _), (1, .int _ _), (2, .int _ _), (6, .int _ _), (7, .int _ _), (INH, .osl _ _ _ _)]) ⟨Weak.rfl, Weak.rfl, Weak.rfl, Weak.rfl, Weak.rfl, Weak.rfl, trivial⟩) ?_
      refine a_region ?_
      refine r_val (v := .int _ _) (v_move (.inl rfl) (noOwn_flat rfl)) rfl rfl (by decide) ?_
      refine r_val (v := .int _ _) (v_sub (.inl rfl) (.inl rfl) (fun _ => by omega)) rfl rfl (by decide) ?_
      refine r_val (v := .int _ _) (v_assign (.inl rfl) (noOwn_flat rfl)) rfl rfl (by decide) ?_
      refine r_nil ?_
      refine ⟨(y.1 - 1, swp y.2 y.1 (y.1 - 1)), ent_look ⟨Weak.of_eq rfl, Weak.of_eq rfl, Weak.of_eq rfl, Weak.of_eq rfl, Weak.of_eq (int_eq (by omega)), Weak.of_eq rfl, trivial⟩, ⟨by omega, by omega, by rw [swp_size]; exact k3, by rw [← k4, insInner_more hj hl]⟩, by omega⟩
    ·
      skip
      refine a_exit ?_
      have hdone : insInner (fun x y : Int => decide (x < y)) a y.1 y.2 = y.2 := insInner_stop (by simpa using ht30)
      refine a_region ?_
      refine r_val (v := .int _ _) (v_move (.inl rfl) (noOwn_flat rfl)) rfl rfl (by decide) ?_
      refine r_val (v := .int _ _) (v_add (.inl rfl) (.inl rfl) (fun _ => by omega)) rfl rfl (by decide) ?_
      refine r_val (v := .int _ _) (v_assign (.inl rfl) (noOwn_flat rfl)) rfl rfl (by decide) ?_
      refine r_nil ?_
      refine ⟨(x.1 + 1, y.2), ent_look ⟨Weak.of_eq rfl, Weak.of_eq rfl, Weak.of_eq rfl, Weak.of_eq (int_eq (by omega)), Weak.of_eq rfl, trivial⟩, ⟨by omega, k3, by rw [← g3, insOuter.eq_1 _ _ _ x.1, if_pos hxb, ← k4, hdone]⟩, by omega⟩
  ·
    skip
    refine a_exit ?_
    refine ret0_look Try.results64 (by decide) ?_ rfl
    exact Weak.of_eq (osl_eq (by rw [← g3, insOuter.eq_1 _ _ _ x.1, if_neg (by simpa using ht12)]))

theorem pdqO_c (d : Array Int) (n : Nat) (lim : Int) (hd : d.size = n) (hn : n ≤ 12) : ACall Try.prog 58 [.rsl (INH, []) 1 0 n none, .int .i64 ((0 : Nat) : Int), .int .i64 ((n : Nat) : Int), .int .i64 lim] [.osl 1 (acells d) n none] (.tup []) [.osl 1 (acells (insertionSort (fun x y : Int => decide (x < y)) d 0 n)) n none] := by
  refine ACall.intro Try.func58 rfl (N := 134) rfl (by decide) (by simp) ?_
  refine a_seq ?_
  refine a_region ?_
  refine r_val (v := .bool _) (v_assign (.inl rfl) (noOwn_flat rfl)) rfl rfl (by decide) ?_
  refine r_nil ?_
  refine a_seq ?_
  refine a_region ?_
  refine r_val (v := .bool _) (v_assign (.inl rfl) (noOwn_flat rfl)) rfl rfl (by decide) ?_
  refine r_nil ?_
  refine a_block ?_
  refine a_loop (X := Unit) (fun _u => look [(0, .rsl (INH, []) 1 0 n none), (1, .int .i64 ((0 : Nat) : Int)), (2, .int .i64 ((n : Nat) : Int)), (3, .int .i64 lim), (8, .bool true), (9, .bool true), (INH, .osl 1 (acells d) n none)]) (fun _u => True) (fun _u => 0) () (ent_look ⟨Weak.of_eq rfl, Weak.of_eq rfl, Weak.of_eq rfl, Weak.of_eq rfl, Weak.of_eq rfl, Weak.of_eq rfl, Weak.of_eq rfl, trivial⟩) trivial (fun _u hG => ?_)
  refine a_block ?_
  refine a_seq ?_
  refine a_region ?_
  refine r_val (v := .int _ _) (v_move (.inl rfl) (noOwn_flat rfl)) rfl rfl (by decide) ?_
  refine r_val (v := .int _ _) (v_move (.inl rfl) (noOwn_flat rfl)) rfl rfl (by decide) ?_
  refine r_val (v := .int _ _) (v_sub (.inl rfl) (.inl rfl) (fun _ => by omega)) rfl rfl (by decide) ?_
  refine r_val (v := .int _ _) (v_assign (.inl rfl) (noOwn_flat rfl)) rfl rfl (by decide) ?_
  refine r_nil ?_
  refine a_seq ?_
  refine a_seq ?_
  refine a_region ?_
  refine r_val (v := .int _ _) (v_move (.inl rfl) (noOwn_flat rfl)) rfl rfl (by decide) ?_
  refine r_val (v := .bool _) (v_leq (.inl rfl) (.inl rfl)) rfl rfl (by decide) ?_
  refine r_nil ?_
  refine a_cond rfl (fun ht23 => ?_) (fun ht23 => ?_)
  ·
    skip
    refine a_seq ?_
    refine a_region ?_
    refine r_val (v := .rsl _ _ _ _ _) (v_move (.inl rfl) (noOwn_flat rfl)) rfl rfl (by decide) ?_
    refine r_val (v := .int _ _) (v_move (.inl rfl) (noOwn_flat rfl)) rfl rfl (by decide) ?_
    refine r_val (v := .int _ _) (v_move (.inl rfl) (noOwn_flat rfl)) rfl rfl (by decide) ?_
    refine r_step rfl (o_callIO (q := (INH, [])) (vs := [.rsl _ _ _ _ _, .int _ _, .int _ _]) (args := [.rsl (INH, []) _ _ _ _, .int .i64 _, .int .i64 _]) (x0 := .osl _ _ _ _) (x1 := .osl _ _ _ _) (res := .tup []) rfl hb64 rfl (by decide) ⟨.inl rfl, .inl rfl, .inl rfl, trivial⟩ rfl rfl (insertO_c d n 0 n hd (by omega) (by omega)) rfl rfl rfl (ac_noSh _) (ac_noRef _) (Nat.le_of_ble_eq_true rfl) (by decide) rfl) ?_
    refine r_nil ?_
    refine a_ret ?_
    refine ret0_look Try.results58 (by decide) ?_ rfl
    exact Weak.of_eq rfl
  ·
    skip
    refine a_skip ?_
    refine a_seq ?_
    refine a_seq ?_
    exfalso
    simp at ht23; omega

theorem sortO_c (d : Array Int) (n : Nat) (hd : d.size = n) (hn : n ≤ 12) : ACall Try.prog 52 [.rsl (INH, []) 1 0 n none] [.osl 1 (acells d) n none] (.tup []) [.osl 1 (acells (insertionSort (fun x y : Int => decide (x < y)) d 0 n)) n none] := by
  have hbl : bitsLen n ≤ 61 := (bitsLen_le_iff _ _).2 (by omega)
  refine ACall.intro Try.func52 rfl (N := 11) rfl (by decide) (by simp) ?_
  refine a_seq ?_
  refine a_region ?_
  refine r_val (v := .rsl _ _ _ _ _) (v_move (.inl rfl) (noOwn_flat rfl)) rfl rfl (by decide) ?_
  refine r_val (v := .int _ _) (v_len_rsl sl28 (.inl rfl)) rfl rfl (by decide) ?_
  refine r_val (v := .int _ _) (v_assign (.inl rfl) (noOwn_flat rfl)) rfl rfl (by decide) ?_
  refine r_nil ?_
  refine a_region ?_
  refine r_val (v := .rsl _ _ _ _ _) (v_move (.inl rfl) (noOwn_flat rfl)) rfl rfl (by decide) ?_
  refine r_val (v := .int _ _) (v_move (.inl rfl) (noOwn_flat rfl)) rfl rfl (by decide) ?_
  refine r_val (v := .int _ _) (v_move (.inl rfl) (noOwn_flat rfl)) rfl rfl (by decide) ?_
  refine r_val (v := .int .u64 ((n : Nat) : Int)) ((v_conv iss3 uni76 (.inl rfl) (fun _ => IntWalk.u64_in _ (by omega))).cast (int_eq rfl)) rfl rfl (by decide) ?_
  refine r_new (v := .int _ _) (q_call (vs := [.int _ _]) (args := [.int .u64 ((_ : Nat) : Int)]) hb59 ⟨.inl rfl, trivial⟩ rfl (fun hA => len_c n (by omega)) rfl rfl) rfl rfl (by decide) ?_
  refine r_step rfl (o_callIO (q := (INH, [])) (vs := [.rsl _ _ _ _ _, .int _ _, .int _ _, .int _ _]) (args := [.rsl (INH, []) _ _ _ _, .int .i64 _, .int .i64 _, .int .i64 _]) (x0 := .osl _ _ _ _) (x1 := .osl _ _ _ _) (res := .tup []) rfl hb58 rfl (by decide) ⟨.inl rfl, .inl rfl, .inl rfl, .inl rfl, trivial⟩ rfl rfl (pdqO_c d n _ hd hn) rfl rfl rfl (ac_noSh _) (ac_noRef _) (Nat.le_of_ble_eq_true rfl) (by decide) rfl) ?_
  refine r_nil ?_
  refine ret0_look Try.results52 (by decide) ?_ rfl
  exact Weak.of_eq rfl
end Go.Av
namespace Go.Av
open Go Go.Proofs Go.Sort
set_option maxRecDepth 10000



end Go.Av
namespace Go.Av
open Go Go.Proofs Go.Sort
set_option maxRecDepth 10000



end Go.Av
namespace Go.Av
open Go Go.Proofs Go.Sort
set_option maxRecDepth 10000



end Go.Av
namespace Go.Av
open Go Go.Proofs Go.Sort
set_option maxRecDepth 10000



end Go.Av
namespace Go.Av
open Go Go.Proofs Go.Sort
set_option maxRecDepth 10000
theorem hb52 : hasBody Try.prog 52 = true := by kernel_rfl

theorem absI_c (x : Int) (h : -4611686018427387904 ≤ x ∧ x ≤ 4611686018427387904) : ACall Try.prog 51 [.int .i64 x] [] (.int .i64 (max x (-x))) [] := by
  refine ACall.intro Try.func51 rfl (N := 7) rfl (by decide) (by simp) ?_
  refine a_seq ?_
  refine a_region ?_
  refine r_val (v := .int _ _) (v_assign (.inl rfl) (noOwn_flat rfl)) rfl rfl (by decide) ?_
  refine r_nil ?_
  refine a_seq ?_
  refine a_region ?_
  refine r_val (v := .int _ _) (v_move (.inl rfl) (noOwn_flat rfl)) rfl rfl (by decide) ?_
  refine r_val (v := .int _ _) (v_move (.inl rfl) (noOwn_flat rfl)) rfl rfl (by decide) ?_
  refine r_val (v := .int _ _) (v_neg (.inl rfl) (fun _ => by omega)) rfl rfl (by decide) ?_
  refine r_val (v := .int _ _) (v_max (.inl rfl) (.inl rfl)) rfl rfl (by decide) ?_
  refine r_val (v := .int _ _) (v_assign (.inl rfl) (noOwn_flat rfl)) rfl rfl (by decide) ?_
  refine r_nil ?_
  refine a_ret ?_
  refine ret1 Try.results51 (by decide) (by decide) (Weak.of_eq (int_eq ?_)) rfl Leaves.nil
  rfl

theorem varsOf1_c (p : List Int) (hp : p.length ≤ 12) (hs : SmI p) : ACall Try.prog 39 [.sl [.sl (icells p) p.length] 1] [] (.osl 1 (icells (dedN (insertionSort (fun x y : Int => decide (x < y)) (p.map fun x => max x (-x)).toArray 0 (p.map fun x => max x (-x)).length) (p.map fun x => max x (-x)).length)) (dedN (insertionSort (fun x y : Int => decide (x < y)) (p.map fun x => max x (-x)).toArray 0 (p.map fun x => max x (-x)).length) (p.map fun x => max x (-x)).length).length none) [] := by
  refine ACall.intro Try.func39 rfl (N := 31) rfl (by decide) (by simp) ?_
  refine a_seq ?_
  refine a_region ?_
  refine r_val (v := .nils) (v_assign (.inl rfl) (noOwn_flat rfl)) rfl rfl (by decide) ?_
  refine r_nil ?_
  refine a_seq ?_
  refine a_region ?_
  refine r_val (v := .nils) (v_assign (.inl rfl) (noOwn_flat rfl)) rfl rfl (by decide) ?_
  refine r_nil ?_
  refine a_seq ?_
  refine a_seq ?_
  refine a_region ?_
  refine r_val (v := .sl _ _) (v_move (.inl rfl) (noOwn_flat rfl)) rfl rfl (by decide) ?_
  refine r_val (v := .int _ _) (v_len_sl sl22 (.inl rfl)) rfl rfl (by decide) ?_
  refine r_val (v := .int _ _) (v_move (.inl rfl) (noOwn_flat rfl)) rfl rfl (by decide) ?_
  refine r_nil ?_
  refine a_block ?_
  refine a_pre (ent_nil (t := 3) (sz := 1) (cap := none) (.inl rfl) (fun _ h => by cases h)) ?_
  refine a_loop (X := Nat) (fun q => look [(3, .osl 1 (icells ((p.take (q * p.length)).map fun x => max x (-x))) ((p.take (q * p.length)).map fun x => max x (-x)).length none), (8, .sl [.sl (icells p) p.length] 1), (9, .int .i64 ((1 : Nat) : Int)), (10, .int .i64 ((q : Nat) : Int))]) (fun q => q ≤ 1) (fun q => 1 - q) 0 (ent_look ⟨Weak.osl (by simp [icells]) (by simp), Weak.of_eq rfl, Weak.of_eq rfl, Weak.of_eq rfl, trivial⟩) (by omega) (fun q hG => ?_)
  refine a_seq ?_
  refine a_region ?_
  refine r_val (v := .bool _) (v_lss (.inl rfl) (.inl rfl)) rfl rfl (by decide) ?_
  refine r_nil ?_
  refine a_seq ?_
  refine a_cond rfl (fun ht11 => ?_) (fun ht11 => ?_)
  ·
    skip
    refine a_skip ?_
    refine a_seq ?_
    refine a_block ?_
    refine a_seq ?_
    have hq0 : q = 0 := (by simp at ht11; omega)
    refine a_region ?_
    refine r_val (v := .pp _ _) (v_indexAddr_sl es22 (.inl rfl) (.inl rfl) (fun _ => ⟨by omega, by omega, by simp⟩)) rfl rfl (by decide) ?_
    refine r_val (v := .sl (icells p) p.length) (v_load_pp ta28 (.inl rfl) (fun _ => by rw [hq0]; rfl) rfl) rfl rfl (by decide) ?_
    refine r_val (v := .sl _ _) (v_assign (.inl rfl) (noOwn_flat rfl)) rfl rfl (by decide) ?_
    refine r_nil ?_
    refine a_seq ?_
    refine a_region ?_
    refine r_val (v := .sl _ _) (v_move (.inl rfl) (noOwn_flat rfl)) rfl rfl (by decide) ?_
    refine r_val (v := .int _ _) (v_len_sl sl28 (.inl rfl)) rfl rfl (by decide) ?_
    refine r_val (v := .int _ _) (v_move (.inl rfl) (noOwn_flat rfl)) rfl rfl (by decide) ?_
    refine r_nil ?_
    refine a_block ?_
    refine a_loop (X := Nat) (fun i => look [(3, .osl 1 (icells ((p.take i).map fun x => max x (-x))) ((p.take i).map fun x => max x (-x)).length none), (8, .sl [.sl (icells p) p.length] 1), (9, .int .i64 ((1 : Nat) : Int)), (10, .int .i64 ((q : Nat) : Int)), (14, .sl (icells p) p.length), (15, .int .i64 ((p.length : Nat) : Int)), (16, .int .i64 ((i : Nat) : Int))]) (fun i => i ≤ p.length) (fun i => p.length - i) 0 (ent_look ⟨Weak.osl (by rw [hq0, Nat.zero_mul]) (by rw [hq0, Nat.zero_mul]), Weak.of_eq rfl, Weak.of_eq rfl, Weak.of_eq rfl, Weak.of_eq rfl, Weak.of_eq rfl, Weak.of_eq rfl, trivial⟩) (Nat.zero_le _) (fun i hG => ?_)
    refine a_seq ?_
    refine a_region ?_
    refine r_val (v := .bool _) (v_lss (.inl rfl) (.inl rfl)) rfl rfl (by decide) ?_
    refine r_nil ?_
    refine a_seq ?_
    refine a_cond rfl (fun ht17 => ?_) (fun ht17 => ?_)
    ·
      skip
      refine a_skip ?_
      refine a_seq ?_
      refine a_block ?_
      refine a_seq ?_
      have hi : i < p.length := (by simp at ht17; omega)
      have hti : p.take (i + 1) = p.take i ++ [gd p i] := (by unfold gd; rw [List.take_succ_eq_append_getElem hi, List.getElem?_eq_getElem hi]; rfl)
      have hsx := hs i
      refine a_region ?_
      refine r_val (v := .pp _ _) (v_indexAddr_sl es28 (.inl rfl) (.inl rfl) (fun _ => ⟨by omega, by omega, icells_ne hi⟩)) rfl rfl (by decide) ?_
      refine r_val (v := .int .i64 (gd p i)) (v_load_pp ta3 (.inl rfl) (fun _ => by rw [Nat.mul_one]; exact icells_get (gd_get hi)) rfl) rfl rfl (by decide) ?_
      refine r_val (v := .int _ _) (v_assign (.inl rfl) (noOwn_flat rfl)) rfl rfl (by decide) ?_
      refine r_nil ?_
      refine a_region ?_
      refine r_val (v := .rsl _ _ _ _ _) (v_move (.inl rfl) (noOwn_flat rfl)) rfl rfl (by decide) ?_
      refine r_val (v := .int _ _) (v_move (.inl rfl) (noOwn_flat rfl)) rfl rfl (by decide) ?_
      refine r_new (v := .int _ _) (q_call (vs := [.int _ _]) (args := [.int .i64 _]) hb51 ⟨.inl rfl, trivial⟩ rfl (fun hA => absI_c _ (by omega)) rfl rfl) rfl rfl (by decide) ?_
      refine r_new (v := .osl _ _ _ _) (q_sliceLit (n := 1) (parts := [(0, .tmp 22)]) lt28 rfl rfl rfl rfl) rfl rfl (by decide) ?_
      refine r_pre (ent_reloc_sl (t := 20) rfl rfl) ?_
      refine r_step rfl (o_append rfl ap28 rfl (by decide) (by decide) rfl (src_lit (.inl rfl) rfl rfl rfl) rfl (by simp [icells_length]) (by simp; omega)) ?_
      refine r_val (v := .rsl _ _ _ _ _) (v_assign (.inl rfl) (noOwn_flat rfl)) rfl rfl (by decide) ?_
      refine r_pre (ent_reloc_sl (t := 3) rfl rfl) ?_
      refine r_nil ?_
      refine a_region ?_
      refine r_val (v := .int _ _) (v_add (.inl rfl) (.inl rfl) (fun _ => by omega)) rfl rfl (by decide) ?_
      refine r_val (v := .int _ _) (v_move (.inl rfl) (noOwn_flat rfl)) rfl rfl (by decide) ?_
      refine r_nil ?_
      refine ⟨i + 1, ent_look ⟨Weak.osl (by rw [hti, List.map_append, icells_append]; rfl) (by rw [hti, List.map_append, List.length_append]; rfl), Weak.of_eq rfl, Weak.of_eq rfl, Weak.of_eq rfl, Weak.of_eq rfl, Weak.of_eq rfl, Weak.of_eq (int_eq (by omega)), trivial⟩, (by omega), by omega⟩
    ·
      skip
      refine a_exit ?_
      refine a_region ?_
      refine r_val (v := .int _ _) (v_add (.inl rfl) (.inl rfl) (fun _ => by omega)) rfl rfl (by decide) ?_
      refine r_val (v := .int _ _) (v_move (.inl rfl) (noOwn_flat rfl)) rfl rfl (by decide) ?_
      refine r_nil ?_
      refine ⟨q + 1, ent_look ⟨Weak.osl (by rw [show i = p.length by simp at ht17; omega, hq0, Nat.zero_add, Nat.one_mul]) (by rw [show i = p.length by simp at ht17; omega, hq0, Nat.zero_add, Nat.one_mul]), Weak.of_eq rfl, Weak.of_eq rfl, Weak.of_eq (int_eq (by omega)), trivial⟩, (by omega), by omega⟩
  ·
    skip
    refine a_exit ?_
    refine a_seq ?_
    have hq1 : q = 1 := (by simp at ht11; omega)
    refine a_pre (ent_eq (t := 3) (v' := .osl 1 (acells (p.map fun x => max x (-x)).toArray) (p.map fun x => max x (-x)).length none) (Weak.osl (by rw [hq1, Nat.one_mul, List.take_of_length_le (Nat.le_refl _)]; rfl) (by rw [hq1, Nat.one_mul, List.take_of_length_le (Nat.le_refl _)]))) ?_
    refine a_region ?_
    refine r_val (v := .rsl _ _ _ _ _) (v_move (.inl rfl) (noOwn_flat rfl)) rfl rfl (by decide) ?_
    refine r_step rfl (o_callIO (q := (3, [])) (vs := [.rsl _ _ _ _ _]) (args := [.rsl (INH, []) _ _ _ _]) (x0 := .osl _ _ _ _) (x1 := .osl _ _ _ _) (res := .tup []) rfl hb52 rfl (by decide) ⟨.inl rfl, trivial⟩ rfl rfl (sortO_c (p.map fun x => max x (-x)).toArray (p.map fun x => max x (-x)).length (by simp) (by simp; omega)) rfl rfl rfl (ac_noSh _) (ac_noRef _) (Nat.le_of_ble_eq_true rfl) (by decide) rfl) ?_
    refine r_nil ?_
    refine a_seq ?_
    refine a_region ?_
    refine r_val (v := .rsl _ _ _ _ _) (v_move (.inl rfl) (noOwn_flat rfl)) rfl rfl (by decide) ?_
    refine r_step rfl (o_callIO (q := (3, [])) (vs := [.rsl _ _ _ _ _]) (args := [.rsl (INH, []) _ _ _ _]) (x0 := .osl _ _ _ _) (x1 := .undef) (res := .osl _ _ _ _) rfl hb53 rfl (by decide) ⟨.inl rfl, trivial⟩ rfl rfl (compact_c (insertionSort (fun x y : Int => decide (x < y)) (p.map fun x => max x (-x)).toArray 0 (p.map fun x => max x (-x)).length) (p.map fun x => max x (-x)).length (by rw [insertionSort_size]; simp) (by simp; omega)) rfl (ic_noSh _) (ic_noRef _) rfl rfl (Nat.le_of_ble_eq_true rfl) (by decide) rfl) ?_
    refine r_val (v := .rsl _ _ _ _ _) (v_assign (.inl rfl) (noOwn_flat rfl)) rfl rfl (by decide) ?_
    refine r_pre (ent_reloc_sl (t := 2) rfl rfl) ?_
    refine r_nil ?_
    refine a_ret ?_
    refine ret1 Try.results39 (by decide) (by decide) (Weak.osl ?_ ?_) rfl Leaves.nil
    all_goals rfl
end Go.Av
namespace Go.Av
open Go Go.Proofs Go.Sort
set_option maxRecDepth 10000



end Go.Av
namespace Go.Av
open Go Go.Proofs Go.Sort
set_option maxRecDepth 10000



end Go.Av
namespace Go.Av
open Go Go.Proofs Go.Sort
set_option maxRecDepth 10000



end Go.Av
namespace Go.Av
open Go Go.Proofs Go.Sort
set_option maxRecDepth 10000



end Go.Av
namespace Go.Av
open Go Go.Proofs Go.Sort
set_option maxRecDepth 10000
theorem idx_mem (xs : List Int) (v : Int) : decide (fidx (fun i => decide (v = gd xs i)) xs.length ≥ 0) = decide (v ∈ xs) := by
  rw [show decide (fidx (fun i => decide (v = gd xs i)) xs.length ≥ 0) = decide (0 ≤ fidx (fun i => decide (v = gd xs i)) xs.length) from rfl, fidx_any, Bool.eq_iff_iff, decide_eq_true_iff]
  constructor
  · intro h
    obtain ⟨i, hi, hx⟩ := List.any_eq_true.1 h
    rw [of_decide_eq_true hx]; exact gd_mem (by simpa using hi)
  · intro h
    obtain ⟨j, hj, hx⟩ := mem_gd h
    exact List.any_eq_true.2 ⟨j, by simpa using hj, by simp [hx]⟩
theorem hb50 : hasBody Try.prog 50 = true := by kernel_rfl

theorem index_c (xs : List Int) (v : Int) (hl : xs.length ≤ 1048576) : ACall Try.prog 50 [.sl (icells xs) xs.length, .int .i64 v] [] (.int .i64 (fidx (fun i => decide (v = gd xs i)) xs.length)) [] := by
  refine ACall.intro Try.func50 rfl (N := 19) rfl (by decide) (by simp) ?_
  refine a_seq ?_
  refine a_region ?_
  refine r_val (v := .int _ _) (v_assign (.inl rfl) (noOwn_flat rfl)) rfl rfl (by decide) ?_
  refine r_nil ?_
  refine a_seq ?_
  refine a_seq ?_
  refine a_region ?_
  refine r_val (v := .sl _ _) (v_move (.inl rfl) (noOwn_flat rfl)) rfl rfl (by decide) ?_
  refine r_val (v := .int _ _) (v_len_sl sl28 (.inl rfl)) rfl rfl (by decide) ?_
  refine r_val (v := .int _ _) (v_move (.inl rfl) (noOwn_flat rfl)) rfl rfl (by decide) ?_
  refine r_nil ?_
  refine a_block ?_
  refine a_loop (X := Nat) (fun i => look [(0, .sl (icells xs) xs.length), (1, .int .i64 v), (7, .int .i64 ((xs.length : Nat) : Int)), (8, .int .i64 ((i : Nat) : Int))]) (fun i => i ≤ xs.length ∧ ∀ j, j < i → decide (v = gd xs j) = false) (fun i => xs.length - i) 0 (ent_look ⟨Weak.of_eq rfl, Weak.of_eq rfl, Weak.of_eq rfl, Weak.of_eq rfl, trivial⟩) ⟨Nat.zero_le _, fun j h => by omega⟩ (fun i hG => ?_)
  obtain ⟨h1, h2⟩ := hG
  refine a_seq ?_
  refine a_region ?_
  refine r_val (v := .bool _) (v_lss (.inl rfl) (.inl rfl)) rfl rfl (by decide) ?_
  refine r_nil ?_
  refine a_seq ?_
  refine a_cond rfl (fun ht9 => ?_) (fun ht9 => ?_)
  ·
    skip
    refine a_skip ?_
    refine a_seq ?_
    refine a_block ?_
    refine a_seq ?_
    have hi : i < xs.length := (by simp at ht9; omega)
    refine a_region ?_
    refine r_val (v := .int _ _) (v_move (.inl rfl) (noOwn_flat rfl)) rfl rfl (by decide) ?_
    refine r_val (v := .int _ _) (v_assign (.inl rfl) (noOwn_flat rfl)) rfl rfl (by decide) ?_
    refine r_nil ?_
    refine a_seq ?_
    refine a_region ?_
    refine r_val (v := .int _ _) (v_move (.inl rfl) (noOwn_flat rfl)) rfl rfl (by decide) ?_
    refine r_val (v := .sl _ _) (v_move (.inl rfl) (noOwn_flat rfl)) rfl rfl (by decide) ?_
    refine r_val (v := .int _ _) (v_move (.inl rfl) (noOwn_flat rfl)) rfl rfl (by decide) ?_
    refine r_val (v := .pp _ _) (v_indexAddr_sl es28 (.inl rfl) (.inl rfl) (fun _ => ⟨by omega, by omega, icells_ne hi⟩)) rfl rfl (by decide) ?_
    refine r_val (v := .int .i64 (gd xs i)) (v_load_pp ta3 (.inl rfl) (fun _ => by rw [Nat.mul_one]; exact icells_get (gd_get hi)) rfl) rfl rfl (by decide) ?_
    refine r_val (v := .bool _) (v_eql (.inl rfl) (.inl rfl)) rfl rfl (by decide) ?_
    refine r_nil ?_
    refine a_cond rfl (fun ht16 => ?_) (fun ht16 => ?_)
    ·
      skip
      refine a_seq ?_
      refine a_region ?_
      refine r_val (v := .int _ _) (v_move (.inl rfl) (noOwn_flat rfl)) rfl rfl (by decide) ?_
      refine r_val (v := .int _ _) (v_assign (.inl rfl) (noOwn_flat rfl)) rfl rfl (by decide) ?_
      refine r_nil ?_
      refine a_ret ?_
      refine ret1 Try.results50 (by decide) (by decide) (Weak.of_eq (int_eq ?_)) rfl Leaves.nil
      exact (fidx_found (p := fun j => decide (v = gd xs j)) hi (by simpa using ht16) h2).symm
    ·
      skip
      refine a_skip ?_
      refine a_region ?_
      refine r_val (v := .int _ _) (v_add (.inl rfl) (.inl rfl) (fun _ => by omega)) rfl rfl (by decide) ?_
      refine r_val (v := .int _ _) (v_move (.inl rfl) (noOwn_flat rfl)) rfl rfl (by decide) ?_
      refine r_nil ?_
      refine ⟨i + 1, ent_look ⟨Weak.of_eq rfl, Weak.of_eq rfl, Weak.of_eq rfl, Weak.of_eq (int_eq (by omega)), trivial⟩, ⟨by omega, ok_stepF (p := fun j => decide (v = gd xs j)) h2 (by simpa using ht16)⟩, by omega⟩
  ·
    skip
    refine a_exit ?_
    refine a_seq ?_
    refine a_region ?_
    refine r_val (v := .int _ _) (v_assign (.inl rfl) (noOwn_flat rfl)) rfl rfl (by decide) ?_
    refine r_nil ?_
    refine a_ret ?_
    refine ret1 Try.results50 (by decide) (by decide) (Weak.of_eq (int_eq ?_)) rfl Leaves.nil
    simp at ht9; exact (fidx_none (p := fun j => decide (v = gd xs j)) (fun j hj => h2 j (by omega))).symm

theorem contains_c (xs : List Int) (v : Int) (hl : xs.length ≤ 1048576) : ACall Try.prog 38 [.sl (icells xs) xs.length, .int .i64 v] [] (.bool (decide (v ∈ xs))) [] := by
  refine ACall.intro Try.func38 rfl (N := 9) rfl (by decide) (by simp) ?_
  refine a_seq ?_
  refine a_region ?_
  refine r_val (v := .bool _) (v_assign (.inl rfl) (noOwn_flat rfl)) rfl rfl (by decide) ?_
  refine r_nil ?_
  refine a_seq ?_
  refine a_region ?_
  refine r_val (v := .sl _ _) (v_move (.inl rfl) (noOwn_flat rfl)) rfl rfl (by decide) ?_
  refine r_val (v := .int _ _) (v_move (.inl rfl) (noOwn_flat rfl)) rfl rfl (by decide) ?_
  refine r_new (v := .int _ _) (q_call (vs := [.sl _ _, .int _ _]) (args := [.sl _ _, .int .i64 _]) hb50 ⟨.inl rfl, .inl rfl, trivial⟩ rfl (fun hA => index_c xs v hl) rfl rfl) rfl rfl (by decide) ?_
  refine r_val (v := .bool _) (v_geq (.inl rfl) (.inl rfl)) rfl rfl (by decide) ?_
  refine r_val (v := .bool _) (v_assign (.inl rfl) (noOwn_flat rfl)) rfl rfl (by decide) ?_
  refine r_nil ?_
  refine a_ret ?_
  refine ret1 Try.results38 (by decide) (by decide) (Weak.of_eq (bool_eq ?_)) rfl Leaves.nil
  exact idx_mem xs v
end Go.Av
namespace Go.Av
open Go Go.Proofs Go.Sort
set_option maxRecDepth 10000



end Go.Av
namespace Go.Av
open Go Go.Proofs Go.Sort
set_option maxRecDepth 10000



end Go.Av
namespace Go.Av
open Go Go.Proofs Go.Sort
set_option maxRecDepth 10000



end Go.Av
namespace Go.Av
open Go Go.Proofs Go.Sort
set_option maxRecDepth 10000



end Go.Av
namespace Go.Av
open Go Go.Proofs Go.Sort
set_option maxRecDepth 10000



end Go.Av
namespace Go.Av
open Go Go.Proofs Go.Sort
set_option maxRecDepth 10000


end Go.Av
namespace Go.Av
open Go Go.Proofs Go.Sort
set_option maxRecDepth 10000
theorem fo48_0 : fieldOff Try.prog 48 0 = some 0 := by kernel_rfl
theorem fo48_1 : fieldOff Try.prog 48 1 = some 1 := by kernel_rfl
theorem fo48_2 : fieldOff Try.prog 48 2 = some 2 := by kernel_rfl
theorem fo48_3 : fieldOff Try.prog 48 3 = some 3 := by kernel_rfl
theorem hb31 : hasBody Try.prog 31 = true := by kernel_rfl
theorem hb48 : hasBody Try.prog 48 = true := by kernel_rfl
theorem ta48 : tyAgg Try.prog 48 = some (true, 4) := by kernel_rfl

theorem leaf_c (x : TN) : ACall Try.prog 31 [.agg [.int .i64 x.1, .int .i64 x.2.1, .int .i64 x.2.2.1, .int .i64 x.2.2.2]] [] (.bool (decide (x.1 = 0))) [] := by
  refine ACall.intro Try.func31 rfl (N := 6) rfl (by decide) (by simp) ?_
  refine a_seq ?_
  refine a_region ?_
  refine r_new (v := .op [.int _ _, .int _ _, .int _ _, .int _ _]) (q_box (.inl rfl) rfl rfl) rfl rfl (by decide) ?_
  refine r_val (v := .bool _) (v_assign (.inl rfl) (noOwn_flat rfl)) rfl rfl (by decide) ?_
  refine r_nil ?_
  refine a_seq ?_
  refine a_region ?_
  refine r_val (v := .rp _ _) (v_fieldAddr_rp fo48_0 (.inl rfl)) rfl rfl (by decide) ?_
  refine r_val (v := .int _ _) (v_load_rp1 ta3 (.inl rfl) rfl (fun _ => rfl) rfl) rfl rfl (by decide) ?_
  refine r_val (v := .bool _) (v_eql (.inl rfl) (.inl rfl)) rfl rfl (by decide) ?_
  refine r_val (v := .bool _) (v_assign (.inl rfl) (noOwn_flat rfl)) rfl rfl (by decide) ?_
  refine r_nil ?_
  refine a_ret ?_
  refine ret1 Try.results31 (by decide) (by decide) (Weak.of_eq (bool_eq ?_)) rfl Leaves.nil
  rfl

theorem nodeOk_c (vars : Int) (L : List (List Int)) (x : TN) (i : Int) (hL : (L.length : Int) ≤ 1000000) (hi : 0 ≤ i ∧ i ≤ 1000000) : ACall Try.prog 36 [.agg [.int .i64 vars, .sl (sls L) L.length], .int .i64 i, .agg [.int .i64 x.1, .int .i64 x.2.1, .int .i64 x.2.2.1, .int .i64 x.2.2.2]] [] (.bool (nodeB vars L.length i x)) [] := by
  refine ACall.intro Try.func36 rfl (N := 58) rfl (by decide) (by simp) ?_
  refine a_seq ?_
  refine a_region ?_
  refine r_new (v := .op [.int _ _, .sl _ _]) (q_box (.inl rfl) rfl rfl) rfl rfl (by decide) ?_
  refine r_new (v := .op [.int _ _, .int _ _, .int _ _, .int _ _]) (q_box (.inl rfl) rfl rfl) rfl rfl (by decide) ?_
  refine r_val (v := .bool _) (v_assign (.inl rfl) (noOwn_flat rfl)) rfl rfl (by decide) ?_
  refine r_nil ?_
  refine a_seq ?_
  refine a_seq ?_
  refine a_region ?_
  refine r_val (v := .rp _ _) (v_fieldAddr_rp fo48_0 (.inl rfl)) rfl rfl (by decide) ?_
  refine r_val (v := .int _ _) (v_load_rp1 ta3 (.inl rfl) rfl (fun _ => rfl) rfl) rfl rfl (by decide) ?_
  refine r_val (v := .bool _) (v_eql (.inl rfl) (.inl rfl)) rfl rfl (by decide) ?_
  refine r_nil ?_
  refine a_cond rfl (fun ht9 => ?_) (fun ht9 => ?_)
  ·
    skip
    refine a_seq ?_
    refine a_region ?_
    refine r_val (v := .rp _ _) (v_fieldAddr_rp fo48_1 (.inl rfl)) rfl rfl (by decide) ?_
    refine r_val (v := .int _ _) (v_load_rp1 ta3 (.inl rfl) rfl (fun _ => rfl) rfl) rfl rfl (by decide) ?_
    refine r_val (v := .bool _) (v_eql (.inl rfl) (.inl rfl)) rfl rfl (by decide) ?_
    refine r_val (v := .bool _) (v_move (.inl rfl) (noOwn_flat rfl)) rfl rfl (by decide) ?_
    refine r_gval (v := .rp _ _) (v_fieldAddr_rp fo48_2 (.inl rfl)) rfl rfl rfl (by decide) (.inl ⟨_, rfl, rfl⟩) rfl (by decide) ?_
    refine r_gval (v := .int _ _) (v_load_rp1 ta3 (.inr ⟨_, rfl, fun h => h⟩) rfl (fun _ => rfl) rfl) rfl rfl rfl (by decide) (.inl ⟨_, rfl, rfl⟩) rfl (by decide) ?_
    refine r_gval (v := .bool _) (v_eql (.inr ⟨_, rfl, fun h => h⟩) (.inl rfl)) rfl rfl rfl (by decide) (.inl ⟨_, rfl, rfl⟩) rfl (by decide) ?_
    refine r_val (v := .bool _) (v_pick (.inl rfl) (.inr ⟨_, rfl, fun h h2 => by simp_all⟩) (.inl rfl)) rfl rfl (by decide) ?_
    refine r_val (v := .bool _) (v_move (.inl rfl) (noOwn_flat rfl)) rfl rfl (by decide) ?_
    refine r_gval (v := .rp _ _) (v_fieldAddr_rp fo48_3 (.inl rfl)) rfl rfl rfl (by decide) (.inl ⟨_, rfl, rfl⟩) rfl (by decide) ?_
    refine r_gval (v := .int _ _) (v_load_rp1 ta3 (.inr ⟨_, rfl, fun h => h⟩) rfl (fun _ => rfl) rfl) rfl rfl rfl (by decide) (.inl ⟨_, rfl, rfl⟩) rfl (by decide) ?_
    refine r_gval (v := .rp _ _) (v_fieldAddr_rp fo31_1 (.inl rfl)) rfl rfl rfl (by decide) (.inl ⟨_, rfl, rfl⟩) rfl (by decide) ?_
    refine r_gval (v := .sl _ _) (v_load_rp1 ta22 (.inr ⟨_, rfl, fun h => h⟩) rfl (fun _ => rfl) rfl) rfl rfl rfl (by decide) (.inl ⟨_, rfl, rfl⟩) rfl (by decide) ?_
    refine r_gval (v := .int _ _) (v_len_sl sl22 (.inr ⟨_, rfl, fun h => h⟩)) rfl rfl rfl (by decide) (.inl ⟨_, rfl, rfl⟩) rfl (by decide) ?_
    refine r_gval (v := .int _ _) (v_sub (.inr ⟨_, rfl, fun h => h⟩) (.inl rfl) (fun hA => by simp at hA; omega)) rfl rfl rfl (by decide) (.inl ⟨_, rfl, rfl⟩) rfl (by decide) ?_
    refine r_guard (v := .bool _) (q_call (vs := [.int _ _, .int _ _, .int _ _]) (args := [.int .i64 _, .int .i64 _, .int .i64 _]) hb23 ⟨.inr ⟨_, rfl, fun h => h⟩, .inl rfl, .inr ⟨_, rfl, fun h => h⟩, trivial⟩ rfl (fun hA => within_c _ _ _) rfl rfl) rfl rfl rfl (by decide) (.inl ⟨_, rfl, rfl⟩) rfl (by decide) ?_
    refine r_val (v := .bool _) (v_pick (.inl rfl) (.inr ⟨_, rfl, fun h h2 => by simp_all⟩) (.inl rfl)) rfl rfl (by decide) ?_
    refine r_val (v := .bool _) (v_assign (.inl rfl) (noOwn_flat rfl)) rfl rfl (by decide) ?_
    refine r_nil ?_
    refine a_ret ?_
    refine ret1 Try.results36 (by decide) (by decide) (Weak.of_eq (bool_eq ?_)) rfl Leaves.nil
    all_goals (unfold nodeB; rw [if_pos (by simpa using ht9)]; simp [Bool.and_assoc]; done)
  ·
    skip
    refine a_skip ?_
    refine a_seq ?_
    refine a_region ?_
    refine r_val (v := .rp _ _) (v_fieldAddr_rp fo31_0 (.inl rfl)) rfl rfl (by decide) ?_
    refine r_val (v := .int _ _) (v_load_rp1 ta3 (.inl rfl) rfl (fun _ => rfl) rfl) rfl rfl (by decide) ?_
    refine r_val (v := .rp _ _) (v_fieldAddr_rp fo48_0 (.inl rfl)) rfl rfl (by decide) ?_
    refine r_val (v := .int _ _) (v_load_rp1 ta3 (.inl rfl) rfl (fun _ => rfl) rfl) rfl rfl (by decide) ?_
    refine r_new (v := .bool _) (q_call (vs := [.int _ _, .int _ _]) (args := [.int .i64 _, .int .i64 _]) hb48 ⟨.inl rfl, .inl rfl, trivial⟩ rfl (fun hA => isVar_c _ _) rfl rfl) rfl rfl (by decide) ?_
    refine r_val (v := .bool _) (v_move (.inl rfl) (noOwn_flat rfl)) rfl rfl (by decide) ?_
    refine r_gval (v := .rp _ _) (v_fieldAddr_rp fo48_1 (.inl rfl)) rfl rfl rfl (by decide) (.inl ⟨_, rfl, rfl⟩) rfl (by decide) ?_
    refine r_gval (v := .int _ _) (v_load_rp1 ta3 (.inr ⟨_, rfl, fun h => h⟩) rfl (fun _ => rfl) rfl) rfl rfl rfl (by decide) (.inl ⟨_, rfl, rfl⟩) rfl (by decide) ?_
    refine r_gval (v := .rp _ _) (v_fieldAddr_rp fo48_2 (.inl rfl)) rfl rfl rfl (by decide) (.inl ⟨_, rfl, rfl⟩) rfl (by decide) ?_
    refine r_gval (v := .int _ _) (v_load_rp1 ta3 (.inr ⟨_, rfl, fun h => h⟩) rfl (fun _ => rfl) rfl) rfl rfl rfl (by decide) (.inl ⟨_, rfl, rfl⟩) rfl (by decide) ?_
    refine r_gval (v := .bool _) (v_neq (.inr ⟨_, rfl, fun h => h⟩) (.inr ⟨_, rfl, fun h => h⟩)) rfl rfl rfl (by decide) (.inl ⟨_, rfl, rfl⟩) rfl (by decide) ?_
    refine r_val (v := .bool _) (v_pick (.inl rfl) (.inr ⟨_, rfl, fun h h2 => by simp_all⟩) (.inl rfl)) rfl rfl (by decide) ?_
    refine r_val (v := .bool _) (v_move (.inl rfl) (noOwn_flat rfl)) rfl rfl (by decide) ?_
    refine r_gval (v := .rp _ _) (v_fieldAddr_rp fo48_1 (.inl rfl)) rfl rfl rfl (by decide) (.inl ⟨_, rfl, rfl⟩) rfl (by decide) ?_
    refine r_gval (v := .int _ _) (v_load_rp1 ta3 (.inr ⟨_, rfl, fun h => h⟩) rfl (fun _ => rfl) rfl) rfl rfl rfl (by decide) (.inl ⟨_, rfl, rfl⟩) rfl (by decide) ?_
    refine r_gval (v := .int _ _) (v_move (.inl rfl) (noOwn_flat rfl)) rfl rfl rfl (by decide) (.inl ⟨_, rfl, rfl⟩) rfl (by decide) ?_
    refine r_gval (v := .int _ _) (v_sub (.inr ⟨_, rfl, fun h => h⟩) (.inl rfl) (fun hA => by simp at hA; omega)) rfl rfl rfl (by decide) (.inl ⟨_, rfl, rfl⟩) rfl (by decide) ?_
    refine r_guard (v := .bool _) (q_call (vs := [.int _ _, .int _ _, .int _ _]) (args := [.int .i64 _, .int .i64 _, .int .i64 _]) hb23 ⟨.inr ⟨_, rfl, fun h => h⟩, .inl rfl, .inr ⟨_, rfl, fun h => h⟩, trivial⟩ rfl (fun hA => within_c _ _ _) rfl rfl) rfl rfl rfl (by decide) (.inl ⟨_, rfl, rfl⟩) rfl (by decide) ?_
    refine r_val (v := .bool _) (v_pick (.inl rfl) (.inr ⟨_, rfl, fun h h2 => by simp_all⟩) (.inl rfl)) rfl rfl (by decide) ?_
    refine r_val (v := .bool _) (v_move (.inl rfl) (noOwn_flat rfl)) rfl rfl (by decide) ?_
    refine r_gval (v := .rp _ _) (v_fieldAddr_rp fo48_2 (.inl rfl)) rfl rfl rfl (by decide) (.inl ⟨_, rfl, rfl⟩) rfl (by decide) ?_
    refine r_gval (v := .int _ _) (v_load_rp1 ta3 (.inr ⟨_, rfl, fun h => h⟩) rfl (fun _ => rfl) rfl) rfl rfl rfl (by decide) (.inl ⟨_, rfl, rfl⟩) rfl (by decide) ?_
    refine r_gval (v := .int _ _) (v_move (.inl rfl) (noOwn_flat rfl)) rfl rfl rfl (by decide) (.inl ⟨_, rfl, rfl⟩) rfl (by decide) ?_
    refine r_gval (v := .int _ _) (v_sub (.inr ⟨_, rfl, fun h => h⟩) (.inl rfl) (fun hA => by simp at hA; omega)) rfl rfl rfl (by decide) (.inl ⟨_, rfl, rfl⟩) rfl (by decide) ?_
    refine r_guard (v := .bool _) (q_call (vs := [.int _ _, .int _ _, .int _ _]) (args := [.int .i64 _, .int .i64 _, .int .i64 _]) hb23 ⟨.inr ⟨_, rfl, fun h => h⟩, .inl rfl, .inr ⟨_, rfl, fun h => h⟩, trivial⟩ rfl (fun hA => within_c _ _ _) rfl rfl) rfl rfl rfl (by decide) (.inl ⟨_, rfl, rfl⟩) rfl (by decide) ?_
    refine r_val (v := .bool _) (v_pick (.inl rfl) (.inr ⟨_, rfl, fun h h2 => by simp_all⟩) (.inl rfl)) rfl rfl (by decide) ?_
    refine r_val (v := .bool _) (v_move (.inl rfl) (noOwn_flat rfl)) rfl rfl (by decide) ?_
    refine r_gval (v := .rp _ _) (v_fieldAddr_rp fo48_3 (.inl rfl)) rfl rfl rfl (by decide) (.inl ⟨_, rfl, rfl⟩) rfl (by decide) ?_
    refine r_gval (v := .int _ _) (v_load_rp1 ta3 (.inr ⟨_, rfl, fun h => h⟩) rfl (fun _ => rfl) rfl) rfl rfl rfl (by decide) (.inl ⟨_, rfl, rfl⟩) rfl (by decide) ?_
    refine r_gval (v := .bool _) (v_eql (.inr ⟨_, rfl, fun h => h⟩) (.inl rfl)) rfl rfl rfl (by decide) (.inl ⟨_, rfl, rfl⟩) rfl (by decide) ?_
    refine r_val (v := .bool _) (v_pick (.inl rfl) (.inr ⟨_, rfl, fun h h2 => by simp_all⟩) (.inl rfl)) rfl rfl (by decide) ?_
    refine r_val (v := .bool _) (v_assign (.inl rfl) (noOwn_flat rfl)) rfl rfl (by decide) ?_
    refine r_nil ?_
    refine a_ret ?_
    refine ret1 Try.results36 (by decide) (by decide) (Weak.of_eq (bool_eq ?_)) rfl Leaves.nil
    all_goals (unfold nodeB; rw [if_neg (by simpa using ht9)]; cases h1 : inR x.1 1 vars <;> cases h2 : inR x.2.1 0 (i - 1) <;> cases h3 : inR x.2.2.1 0 (i - 1) <;> simp_all <;> (cases h4 : decide (x.2.1 = x.2.2.1) <;> simp_all))

theorem node9_c (vars : Int) (L : List (List Int)) (x : TN) (i : Int) (hL : (L.length : Int) ≤ 1000000) (hi : 0 ≤ i ∧ i ≤ 1000000) : ACall Try.prog 30 [.agg [.int .i64 vars, .sl (sls L) L.length], .agg [.int .i64 x.1, .int .i64 x.2.1, .int .i64 x.2.2.1, .int .i64 x.2.2.2], .int .i64 i] [] (.bool (nodeB vars L.length i x)) [] := by
  refine ACall.intro Try.func30 rfl (N := 57) rfl (by decide) (by simp) ?_
  refine a_seq ?_
  refine a_region ?_
  refine r_new (v := .op [.int _ _, .sl _ _]) (q_box (.inl rfl) rfl rfl) rfl rfl (by decide) ?_
  refine r_new (v := .op [.int _ _, .int _ _, .int _ _, .int _ _]) (q_box (.inl rfl) rfl rfl) rfl rfl (by decide) ?_
  refine r_val (v := .bool _) (v_assign (.inl rfl) (noOwn_flat rfl)) rfl rfl (by decide) ?_
  refine r_nil ?_
  refine a_seq ?_
  refine a_seq ?_
  refine a_region ?_
  refine r_val (v := .agg [.int _ _, .int _ _, .int _ _, .int _ _]) (v_load_rpa1 ta48 (.inl rfl) rfl rfl (fun _ => rfl) rfl) rfl rfl (by decide) ?_
  refine r_new (v := .bool _) (q_call (vs := [.agg [.int _ _, .int _ _, .int _ _, .int _ _]]) (args := [.agg [.int .i64 _, .int .i64 _, .int .i64 _, .int .i64 _]]) hb31 ⟨.inl rfl, trivial⟩ rfl (fun hA => leaf_c _) rfl rfl) rfl rfl (by decide) ?_
  refine r_nil ?_
  refine a_cond rfl (fun ht8 => ?_) (fun ht8 => ?_)
  ·
    skip
    refine a_seq ?_
    refine a_region ?_
    refine r_val (v := .rp _ _) (v_fieldAddr_rp fo48_1 (.inl rfl)) rfl rfl (by decide) ?_
    refine r_val (v := .int _ _) (v_load_rp1 ta3 (.inl rfl) rfl (fun _ => rfl) rfl) rfl rfl (by decide) ?_
    refine r_val (v := .bool _) (v_eql (.inl rfl) (.inl rfl)) rfl rfl (by decide) ?_
    refine r_val (v := .bool _) (v_move (.inl rfl) (noOwn_flat rfl)) rfl rfl (by decide) ?_
    refine r_gval (v := .rp _ _) (v_fieldAddr_rp fo48_2 (.inl rfl)) rfl rfl rfl (by decide) (.inl ⟨_, rfl, rfl⟩) rfl (by decide) ?_
    refine r_gval (v := .int _ _) (v_load_rp1 ta3 (.inr ⟨_, rfl, fun h => h⟩) rfl (fun _ => rfl) rfl) rfl rfl rfl (by decide) (.inl ⟨_, rfl, rfl⟩) rfl (by decide) ?_
    refine r_gval (v := .bool _) (v_eql (.inr ⟨_, rfl, fun h => h⟩) (.inl rfl)) rfl rfl rfl (by decide) (.inl ⟨_, rfl, rfl⟩) rfl (by decide) ?_
    refine r_val (v := .bool _) (v_pick (.inl rfl) (.inr ⟨_, rfl, fun h h2 => by simp_all⟩) (.inl rfl)) rfl rfl (by decide) ?_
    refine r_val (v := .bool _) (v_move (.inl rfl) (noOwn_flat rfl)) rfl rfl (by decide) ?_
    refine r_gval (v := .rp _ _) (v_fieldAddr_rp fo48_3 (.inl rfl)) rfl rfl rfl (by decide) (.inl ⟨_, rfl, rfl⟩) rfl (by decide) ?_
    refine r_gval (v := .int _ _) (v_load_rp1 ta3 (.inr ⟨_, rfl, fun h => h⟩) rfl (fun _ => rfl) rfl) rfl rfl rfl (by decide) (.inl ⟨_, rfl, rfl⟩) rfl (by decide) ?_
    refine r_gval (v := .rp _ _) (v_fieldAddr_rp fo31_1 (.inl rfl)) rfl rfl rfl (by decide) (.inl ⟨_, rfl, rfl⟩) rfl (by decide) ?_
    refine r_gval (v := .sl _ _) (v_load_rp1 ta22 (.inr ⟨_, rfl, fun h => h⟩) rfl (fun _ => rfl) rfl) rfl rfl rfl (by decide) (.inl ⟨_, rfl, rfl⟩) rfl (by decide) ?_
    refine r_gval (v := .int _ _) (v_len_sl sl22 (.inr ⟨_, rfl, fun h => h⟩)) rfl rfl rfl (by decide) (.inl ⟨_, rfl, rfl⟩) rfl (by decide) ?_
    refine r_gval (v := .int _ _) (v_sub (.inr ⟨_, rfl, fun h => h⟩) (.inl rfl) (fun hA => by simp at hA; omega)) rfl rfl rfl (by decide) (.inl ⟨_, rfl, rfl⟩) rfl (by decide) ?_
    refine r_guard (v := .bool _) (q_call (vs := [.int _ _, .int _ _, .int _ _]) (args := [.int .i64 _, .int .i64 _, .int .i64 _]) hb19 ⟨.inr ⟨_, rfl, fun h => h⟩, .inl rfl, .inr ⟨_, rfl, fun h => h⟩, trivial⟩ rfl (fun hA => l1In_c _ _ _) rfl rfl) rfl rfl rfl (by decide) (.inl ⟨_, rfl, rfl⟩) rfl (by decide) ?_
    refine r_val (v := .bool _) (v_pick (.inl rfl) (.inr ⟨_, rfl, fun h h2 => by simp_all⟩) (.inl rfl)) rfl rfl (by decide) ?_
    refine r_val (v := .bool _) (v_assign (.inl rfl) (noOwn_flat rfl)) rfl rfl (by decide) ?_
    refine r_nil ?_
    refine a_ret ?_
    refine ret1 Try.results30 (by decide) (by decide) (Weak.of_eq (bool_eq ?_)) rfl Leaves.nil
    all_goals (unfold nodeB; rw [if_pos (by simpa using ht8)]; simp [Bool.and_assoc]; done)
  ·
    skip
    refine a_skip ?_
    refine a_seq ?_
    refine a_region ?_
    refine r_val (v := .rp _ _) (v_fieldAddr_rp fo48_0 (.inl rfl)) rfl rfl (by decide) ?_
    refine r_val (v := .int _ _) (v_load_rp1 ta3 (.inl rfl) rfl (fun _ => rfl) rfl) rfl rfl (by decide) ?_
    refine r_val (v := .rp _ _) (v_fieldAddr_rp fo31_0 (.inl rfl)) rfl rfl (by decide) ?_
    refine r_val (v := .int _ _) (v_load_rp1 ta3 (.inl rfl) rfl (fun _ => rfl) rfl) rfl rfl (by decide) ?_
    refine r_new (v := .bool _) (q_call (vs := [.int _ _, .int _ _, .int _ _]) (args := [.int .i64 _, .int .i64 _, .int .i64 _]) hb19 ⟨.inl rfl, .inl rfl, .inl rfl, trivial⟩ rfl (fun hA => l1In_c _ _ _) rfl rfl) rfl rfl (by decide) ?_
    refine r_val (v := .bool _) (v_move (.inl rfl) (noOwn_flat rfl)) rfl rfl (by decide) ?_
    refine r_gval (v := .rp _ _) (v_fieldAddr_rp fo48_1 (.inl rfl)) rfl rfl rfl (by decide) (.inl ⟨_, rfl, rfl⟩) rfl (by decide) ?_
    refine r_gval (v := .int _ _) (v_load_rp1 ta3 (.inr ⟨_, rfl, fun h => h⟩) rfl (fun _ => rfl) rfl) rfl rfl rfl (by decide) (.inl ⟨_, rfl, rfl⟩) rfl (by decide) ?_
    refine r_gval (v := .int _ _) (v_move (.inl rfl) (noOwn_flat rfl)) rfl rfl rfl (by decide) (.inl ⟨_, rfl, rfl⟩) rfl (by decide) ?_
    refine r_gval (v := .int _ _) (v_sub (.inr ⟨_, rfl, fun h => h⟩) (.inl rfl) (fun hA => by simp at hA; omega)) rfl rfl rfl (by decide) (.inl ⟨_, rfl, rfl⟩) rfl (by decide) ?_
    refine r_guard (v := .bool _) (q_call (vs := [.int _ _, .int _ _, .int _ _]) (args := [.int .i64 _, .int .i64 _, .int .i64 _]) hb19 ⟨.inr ⟨_, rfl, fun h => h⟩, .inl rfl, .inr ⟨_, rfl, fun h => h⟩, trivial⟩ rfl (fun hA => l1In_c _ _ _) rfl rfl) rfl rfl rfl (by decide) (.inl ⟨_, rfl, rfl⟩) rfl (by decide) ?_
    refine r_val (v := .bool _) (v_pick (.inl rfl) (.inr ⟨_, rfl, fun h h2 => by simp_all⟩) (.inl rfl)) rfl rfl (by decide) ?_
    refine r_val (v := .bool _) (v_move (.inl rfl) (noOwn_flat rfl)) rfl rfl (by decide) ?_
    refine r_gval (v := .rp _ _) (v_fieldAddr_rp fo48_2 (.inl rfl)) rfl rfl rfl (by decide) (.inl ⟨_, rfl, rfl⟩) rfl (by decide) ?_
    refine r_gval (v := .int _ _) (v_load_rp1 ta3 (.inr ⟨_, rfl, fun h => h⟩) rfl (fun _ => rfl) rfl) rfl rfl rfl (by decide) (.inl ⟨_, rfl, rfl⟩) rfl (by decide) ?_
    refine r_gval (v := .int _ _) (v_move (.inl rfl) (noOwn_flat rfl)) rfl rfl rfl (by decide) (.inl ⟨_, rfl, rfl⟩) rfl (by decide) ?_
    refine r_gval (v := .int _ _) (v_sub (.inr ⟨_, rfl, fun h => h⟩) (.inl rfl) (fun hA => by simp at hA; omega)) rfl rfl rfl (by decide) (.inl ⟨_, rfl, rfl⟩) rfl (by decide) ?_
    refine r_guard (v := .bool _) (q_call (vs := [.int _ _, .int _ _, .int _ _]) (args := [.int .i64 _, .int .i64 _, .int .i64 _]) hb19 ⟨.inr ⟨_, rfl, fun h => h⟩, .inl rfl, .inr ⟨_, rfl, fun h => h⟩, trivial⟩ rfl (fun hA => l1In_c _ _ _) rfl rfl) rfl rfl rfl (by decide) (.inl ⟨_, rfl, rfl⟩) rfl (by decide) ?_
    refine r_val (v := .bool _) (v_pick (.inl rfl) (.inr ⟨_, rfl, fun h h2 => by simp_all⟩) (.inl rfl)) rfl rfl (by decide) ?_
    refine r_val (v := .bool _) (v_move (.inl rfl) (noOwn_flat rfl)) rfl rfl (by decide) ?_
    refine r_gval (v := .rp _ _) (v_fieldAddr_rp fo48_1 (.inl rfl)) rfl rfl rfl (by decide) (.inl ⟨_, rfl, rfl⟩) rfl (by decide) ?_
    refine r_gval (v := .int _ _) (v_load_rp1 ta3 (.inr ⟨_, rfl, fun h => h⟩) rfl (fun _ => rfl) rfl) rfl rfl rfl (by decide) (.inl ⟨_, rfl, rfl⟩) rfl (by decide) ?_
    refine r_gval (v := .rp _ _) (v_fieldAddr_rp fo48_2 (.inl rfl)) rfl rfl rfl (by decide) (.inl ⟨_, rfl, rfl⟩) rfl (by decide) ?_
    refine r_gval (v := .int _ _) (v_load_rp1 ta3 (.inr ⟨_, rfl, fun h => h⟩) rfl (fun _ => rfl) rfl) rfl rfl rfl (by decide) (.inl ⟨_, rfl, rfl⟩) rfl (by decide) ?_
    refine r_gval (v := .bool _) (v_neq (.inr ⟨_, rfl, fun h => h⟩) (.inr ⟨_, rfl, fun h => h⟩)) rfl rfl rfl (by decide) (.inl ⟨_, rfl, rfl⟩) rfl (by decide) ?_
    refine r_val (v := .bool _) (v_pick (.inl rfl) (.inr ⟨_, rfl, fun h h2 => by simp_all⟩) (.inl rfl)) rfl rfl (by decide) ?_
    refine r_val (v := .bool _) (v_move (.inl rfl) (noOwn_flat rfl)) rfl rfl (by decide) ?_
    refine r_gval (v := .rp _ _) (v_fieldAddr_rp fo48_3 (.inl rfl)) rfl rfl rfl (by decide) (.inl ⟨_, rfl, rfl⟩) rfl (by decide) ?_
    refine r_gval (v := .int _ _) (v_load_rp1 ta3 (.inr ⟨_, rfl, fun h => h⟩) rfl (fun _ => rfl) rfl) rfl rfl rfl (by decide) (.inl ⟨_, rfl, rfl⟩) rfl (by decide) ?_
    refine r_gval (v := .bool _) (v_eql (.inr ⟨_, rfl, fun h => h⟩) (.inl rfl)) rfl rfl rfl (by decide) (.inl ⟨_, rfl, rfl⟩) rfl (by decide) ?_
    refine r_val (v := .bool _) (v_pick (.inl rfl) (.inr ⟨_, rfl, fun h h2 => by simp_all⟩) (.inl rfl)) rfl rfl (by decide) ?_
    refine r_val (v := .bool _) (v_assign (.inl rfl) (noOwn_flat rfl)) rfl rfl (by decide) ?_
    refine r_nil ?_
    refine a_ret ?_
    refine ret1 Try.results30 (by decide) (by decide) (Weak.of_eq (bool_eq ?_)) rfl Leaves.nil
    all_goals (unfold nodeB; rw [if_neg (by simpa using ht8)]; cases h1 : inR x.1 1 vars <;> cases h2 : inR x.2.1 0 (i - 1) <;> cases h3 : inR x.2.2.1 0 (i - 1) <;> simp_all <;> (cases h4 : decide (x.2.1 = x.2.2.1) <;> simp_all))
end Go.Av
namespace Go.Av
open Go Go.Proofs Go.Sort
set_option maxRecDepth 10000
theorem es25 : elemSize Try.prog 25 = some 4 := by kernel_rfl
theorem es33 : elemSize Try.prog 33 = some 4 := by kernel_rfl
theorem fo50_0 : fieldOff Try.prog 50 0 = some 0 := by kernel_rfl
theorem fo50_1 : fieldOff Try.prog 50 1 = some 1 := by kernel_rfl
theorem fo50_2 : fieldOff Try.prog 50 2 = some 2 := by kernel_rfl
theorem fo50_3 : fieldOff Try.prog 50 3 = some 3 := by kernel_rfl
theorem hb21 : hasBody Try.prog 21 = true := by kernel_rfl
theorem hb26 : hasBody Try.prog 26 = true := by kernel_rfl
theorem sb48 : (Try.prog.info? 48).map (fun i => (i.size, i.bytes)) = some (4, 32) := by kernel_rfl
theorem sl25 : isSlice Try.prog 25 = true := by kernel_rfl
theorem sl33 : isSlice Try.prog 33 = true := by kernel_rfl
theorem ta50 : tyAgg Try.prog 50 = some (true, 4) := by kernel_rfl
theorem us33 : Try.prog.underlying 33 = some (.slice 48) := by kernel_rfl
theorem zc48 : zeroCells Try.prog 48 = some [.int .i64 0, .int .i64 0, .int .i64 0, .int .i64 0] := by kernel_rfl

theorem szTN_c (xs : List TN) (left : Int) (h : (xs.length : Int) ≤ 9223372036854775807 ∧ 0 ≤ left ∧ left ≤ 9223372036854775807) : ACall Try.prog 5 [.sl (tncells xs) xs.length, .int .i64 left] [] (.int .i64 (if left - xs.length < 0 then -1 else left - xs.length)) [] := by
  refine ACall.intro Try.func5 rfl (N := 12) rfl (by decide) (by simp) ?_
  refine a_seq ?_
  refine a_region ?_
  refine r_val (v := .int _ _) (v_assign (.inl rfl) (noOwn_flat rfl)) rfl rfl (by decide) ?_
  refine r_nil ?_
  refine a_seq ?_
  refine a_region ?_
  refine r_val (v := .int _ _) (v_move (.inl rfl) (noOwn_flat rfl)) rfl rfl (by decide) ?_
  refine r_val (v := .sl _ _) (v_move (.inl rfl) (noOwn_flat rfl)) rfl rfl (by decide) ?_
  refine r_val (v := .int _ _) (v_len_sl sl25 (.inl rfl)) rfl rfl (by decide) ?_
  refine r_val (v := .int _ _) (v_sub (.inl rfl) (.inl rfl) (fun _ => by omega)) rfl rfl (by decide) ?_
  refine r_val (v := .int _ _) (v_assign (.inl rfl) (noOwn_flat rfl)) rfl rfl (by decide) ?_
  refine r_nil ?_
  refine a_seq ?_
  refine a_seq ?_
  refine a_region ?_
  refine r_val (v := .int _ _) (v_move (.inl rfl) (noOwn_flat rfl)) rfl rfl (by decide) ?_
  refine r_val (v := .bool _) (v_lss (.inl rfl) (.inl rfl)) rfl rfl (by decide) ?_
  refine r_nil ?_
  refine a_cond rfl (fun ht10 => ?_) (fun ht10 => ?_)
  ·
    skip
    refine a_seq ?_
    refine a_region ?_
    refine r_val (v := .int _ _) (v_assign (.inl rfl) (noOwn_flat rfl)) rfl rfl (by decide) ?_
    refine r_nil ?_
    refine a_ret ?_
    refine ret1 Try.results5 (by decide) (by decide) (Weak.of_eq (int_eq ?_)) rfl Leaves.nil
    simp at ht10; rw [if_pos (by omega)]
  ·
    skip
    refine a_skip ?_
    refine a_seq ?_
    refine a_region ?_
    refine r_val (v := .int _ _) (v_move (.inl rfl) (noOwn_flat rfl)) rfl rfl (by decide) ?_
    refine r_val (v := .int _ _) (v_assign (.inl rfl) (noOwn_flat rfl)) rfl rfl (by decide) ?_
    refine r_nil ?_
    refine a_ret ?_
    refine ret1 Try.results5 (by decide) (by decide) (Weak.of_eq (int_eq ?_)) rfl Leaves.nil
    simp at ht10; rw [if_neg (by omega)]

theorem toTN_c (x : TN) : ACall Try.prog 21 [.agg [.int .i64 x.1, .int .i64 x.2.1, .int .i64 x.2.2.1, .int .i64 x.2.2.2]] [] (.agg [.int .i64 x.1, .int .i64 x.2.1, .int .i64 x.2.2.1, .int .i64 x.2.2.2]) [] := by
  refine ACall.intro Try.func21 rfl (N := 17) rfl (by decide) (by simp) ?_
  refine a_seq ?_
  refine a_region ?_
  refine r_new (v := .op [.int _ _, .int _ _, .int _ _, .int _ _]) (q_box (.inl rfl) rfl rfl) rfl rfl (by decide) ?_
  refine r_new (v := .op [.int _ _, .int _ _, .int _ _, .int _ _]) (q_alloc zc48) rfl rfl (by decide) ?_
  refine r_nil ?_
  refine a_seq ?_
  refine a_region ?_
  refine r_new (v := .op [.int _ _, .int _ _, .int _ _, .int _ _]) (q_alloc zc48) rfl rfl (by decide) ?_
  refine r_nil ?_
  refine a_seq ?_
  refine a_region ?_
  refine r_val (v := .rp _ _) (v_fieldAddr_rp fo50_0 (.inl rfl)) rfl rfl (by decide) ?_
  refine r_val (v := .int _ _) (v_load_rp1 ta3 (.inl rfl) rfl (fun _ => rfl) rfl) rfl rfl (by decide) ?_
  refine r_val (v := .rp _ _) (v_fieldAddr_rp fo48_0 (.inl rfl)) rfl rfl (by decide) ?_
  refine r_step rfl (o_store (v := .int _ _) (y' := .op [.int _ _, .int _ _, .int _ _, .int _ _]) rfl rfl ta3 (.inl rfl) (.inl rfl) rfl rfl rfl rfl rfl rfl (Nat.le_of_ble_eq_true rfl) (by decide) rfl rfl) ?_
  refine r_nil ?_
  refine a_seq ?_
  refine a_region ?_
  refine r_val (v := .rp _ _) (v_fieldAddr_rp fo50_1 (.inl rfl)) rfl rfl (by decide) ?_
  refine r_val (v := .int _ _) (v_load_rp1 ta3 (.inl rfl) rfl (fun _ => rfl) rfl) rfl rfl (by decide) ?_
  refine r_val (v := .rp _ _) (v_fieldAddr_rp fo48_1 (.inl rfl)) rfl rfl (by decide) ?_
  refine r_step rfl (o_store (v := .int _ _) (y' := .op [.int _ _, .int _ _, .int _ _, .int _ _]) rfl rfl ta3 (.inl rfl) (.inl rfl) rfl rfl rfl rfl rfl rfl (Nat.le_of_ble_eq_true rfl) (by decide) rfl rfl) ?_
  refine r_nil ?_
  refine a_seq ?_
  refine a_region ?_
  refine r_val (v := .rp _ _) (v_fieldAddr_rp fo50_2 (.inl rfl)) rfl rfl (by decide) ?_
  refine r_val (v := .int _ _) (v_load_rp1 ta3 (.inl rfl) rfl (fun _ => rfl) rfl) rfl rfl (by decide) ?_
  refine r_val (v := .rp _ _) (v_fieldAddr_rp fo48_2 (.inl rfl)) rfl rfl (by decide) ?_
  refine r_step rfl (o_store (v := .int _ _) (y' := .op [.int _ _, .int _ _, .int _ _, .int _ _]) rfl rfl ta3 (.inl rfl) (.inl rfl) rfl rfl rfl rfl rfl rfl (Nat.le_of_ble_eq_true rfl) (by decide) rfl rfl) ?_
  refine r_nil ?_
  refine a_seq ?_
  refine a_region ?_
  refine r_val (v := .rp _ _) (v_fieldAddr_rp fo50_3 (.inl rfl)) rfl rfl (by decide) ?_
  refine r_val (v := .int _ _) (v_load_rp1 ta3 (.inl rfl) rfl (fun _ => rfl) rfl) rfl rfl (by decide) ?_
  refine r_val (v := .rp _ _) (v_fieldAddr_rp fo48_3 (.inl rfl)) rfl rfl (by decide) ?_
  refine r_step rfl (o_store (v := .int _ _) (y' := .op [.int _ _, .int _ _, .int _ _, .int _ _]) rfl rfl ta3 (.inl rfl) (.inl rfl) rfl rfl rfl rfl rfl rfl (Nat.le_of_ble_eq_true rfl) (by decide) rfl rfl) ?_
  refine r_nil ?_
  refine a_seq ?_
  refine a_region ?_
  refine r_val (v := .agg [.int _ _, .int _ _, .int _ _, .int _ _]) (v_load_rpa1 ta48 (.inl rfl) rfl rfl (fun _ => rfl) rfl) rfl rfl (by decide) ?_
  refine r_step rfl (o_store (v := .agg [.int _ _, .int _ _, .int _ _, .int _ _]) (y' := .op [.int _ _, .int _ _, .int _ _, .int _ _]) rfl rfl ta48 (.inl rfl) (.inl rfl) rfl rfl rfl rfl rfl rfl (Nat.le_of_ble_eq_true rfl) (by decide) rfl rfl) ?_
  refine r_nil ?_
  refine a_ret ?_
  refine retC1 (r := .cell 2 48) Try.results21 ⟨by decide, _, cell_agg rfl ta48, rfl⟩ (by decide) (Weak.of_eq (agg_eq (l4_eq (int_eq ?_) (int_eq ?_) (int_eq ?_) (int_eq ?_)))) rfl Leaves.nil
  all_goals rfl

theorem toTNS_c (xs : List TN) (hl : (xs.length : Int) ≤ 1048576) : ACall Try.prog 8 [.sl (tncells xs) xs.length] [] (.osl 4 (tncells xs) xs.length none) [] := by
  refine ACall.intro Try.func8 rfl (N := 23) rfl (by decide) (by simp) ?_
  refine a_seq ?_
  refine a_region ?_
  refine r_val (v := .nils) (v_assign (.inl rfl) (noOwn_flat rfl)) rfl rfl (by decide) ?_
  refine r_nil ?_
  refine a_seq ?_
  refine a_region ?_
  refine r_val (v := .sl _ _) (v_move (.inl rfl) (noOwn_flat rfl)) rfl rfl (by decide) ?_
  refine r_val (v := .int _ _) (v_len_sl sl25 (.inl rfl)) rfl rfl (by decide) ?_
  refine r_new (v := .osl _ _ _ _) (q_makeSlice us33 sb48 zc48 rfl (by decide) (.inl rfl) (.inl rfl) (fun _ => by omega)) rfl rfl (by decide) ?_
  refine r_val (v := .rsl _ _ _ _ _) (v_assign (.inl rfl) (noOwn_flat rfl)) rfl rfl (by decide) ?_
  refine r_pre (ent_reloc_sl (t := 3) rfl rfl) ?_
  refine r_nil ?_
  refine a_seq ?_
  refine a_seq ?_
  refine a_region ?_
  refine r_val (v := .int _ _) (v_assign (.inl rfl) (noOwn_flat rfl)) rfl rfl (by decide) ?_
  refine r_nil ?_
  refine a_block ?_
  refine a_loop (X := Nat) (fun i => look [(0, .sl (tncells xs) xs.length), (3, .osl 4 (tncells (partN xs i)) xs.length (some xs.length)), (4, .int .i64 ((i : Nat) : Int))]) (fun i => i ≤ xs.length) (fun i => xs.length - i) 0 (ent_look ⟨Weak.of_eq rfl, Weak.of_eq (osl_eq (partN_zero xs).symm), Weak.of_eq rfl, trivial⟩) (Nat.zero_le _) (fun i hG => ?_)
  refine a_seq ?_
  refine a_seq ?_
  refine a_region ?_
  refine r_val (v := .int _ _) (v_move (.inl rfl) (noOwn_flat rfl)) rfl rfl (by decide) ?_
  refine r_val (v := .sl _ _) (v_move (.inl rfl) (noOwn_flat rfl)) rfl rfl (by decide) ?_
  refine r_val (v := .int _ _) (v_len_sl sl25 (.inl rfl)) rfl rfl (by decide) ?_
  refine r_val (v := .bool _) (v_lss (.inl rfl) (.inl rfl)) rfl rfl (by decide) ?_
  refine r_nil ?_
  refine a_cond rfl (fun ht11 => ?_) (fun ht11 => ?_)
  ·
    skip
    refine a_skip ?_
    refine a_seq ?_
    refine a_block ?_
    have hi : i < xs.length := (by simp at ht11; omega)
    have hpl : i * 4 + 4 ≤ (tncells (partN xs i)).length := (by rw [tncells_length, partN_len (by omega)]; omega)
    have hset := partN_set hi
    refine a_region ?_
    refine r_val (v := .rsl _ _ _ _ _) (v_move (.inl rfl) (noOwn_flat rfl)) rfl rfl (by decide) ?_
    refine r_val (v := .int _ _) (v_move (.inl rfl) (noOwn_flat rfl)) rfl rfl (by decide) ?_
    refine r_val (v := .sl _ _) (v_move (.inl rfl) (noOwn_flat rfl)) rfl rfl (by decide) ?_
    refine r_val (v := .int _ _) (v_move (.inl rfl) (noOwn_flat rfl)) rfl rfl (by decide) ?_
    refine r_val (v := .pp _ _) (v_indexAddr_sl es25 (.inl rfl) (.inl rfl) (fun _ => ⟨by omega, by omega, tn_ne hi⟩)) rfl rfl (by decide) ?_
    refine r_val (v := .agg [.int .i64 (gn xs i).1, .int .i64 (gn xs i).2.1, .int .i64 (gn xs i).2.2.1, .int .i64 (gn xs i).2.2.2]) (v_load_ppa1 ta50 (.inl rfl) rfl (fun _ => tn_four hi) rfl) rfl rfl (by decide) ?_
    refine r_new (v := .agg [.int _ _, .int _ _, .int _ _, .int _ _]) (q_call (vs := [.agg [.int _ _, .int _ _, .int _ _, .int _ _]]) (args := [.agg [.int .i64 _, .int .i64 _, .int .i64 _, .int .i64 _]]) hb21 ⟨.inl rfl, trivial⟩ rfl (fun hA => toTN_c _) rfl rfl) rfl rfl (by decide) ?_
    refine r_val (v := .rp _ _) (v_indexAddr_rsl0 es33 (.inl rfl) (.inl rfl) (fun _ => by omega)) rfl rfl (by decide) ?_
    refine r_step rfl (o_store (v := .agg [.int _ _, .int _ _, .int _ _, .int _ _]) (y' := .osl _ _ _ _) rfl rfl ta48 (.inl rfl) (.inl rfl) rfl rfl rfl rfl rfl rfl hpl (by decide) rfl (congrArg (fun c => AV.osl 4 c xs.length (some xs.length)) hset)) ?_
    refine r_nil ?_
    refine a_region ?_
    refine r_val (v := .int _ _) (v_move (.inl rfl) (noOwn_flat rfl)) rfl rfl (by decide) ?_
    refine r_val (v := .int _ _) (v_add (.inl rfl) (.inl rfl) (fun _ => by omega)) rfl rfl (by decide) ?_
    refine r_val (v := .int _ _) (v_assign (.inl rfl) (noOwn_flat rfl)) rfl rfl (by decide) ?_
    refine r_nil ?_
    refine ⟨i + 1, ent_look ⟨Weak.of_eq rfl, Weak.of_eq rfl, Weak.of_eq (int_eq (by omega)), trivial⟩, by omega, by omega⟩
  ·
    skip
    refine a_exit ?_
    refine a_seq ?_
    refine a_region ?_
    refine r_val (v := .rsl _ _ _ _ _) (v_move (.inl rfl) (noOwn_flat rfl)) rfl rfl (by decide) ?_
    refine r_val (v := .rsl _ _ _ _ _) (v_assign (.inl rfl) (noOwn_flat rfl)) rfl rfl (by decide) ?_
    refine r_pre (ent_reloc_sl (t := 2) rfl rfl) ?_
    refine r_nil ?_
    refine a_ret ?_
    refine ret1 Try.results8 (by decide) (by decide) (Weak.osl ?_ ?_) rfl Leaves.nil
    · simp at ht11; rw [partN_full (by omega)]
    · rfl

theorem eqTN_c (x y : TN) : ACall Try.prog 26 [.agg [.int .i64 x.1, .int .i64 x.2.1, .int .i64 x.2.2.1, .int .i64 x.2.2.2], .agg [.int .i64 y.1, .int .i64 y.2.1, .int .i64 y.2.2.1, .int .i64 y.2.2.2]] [] (.bool (decide (x = y))) [] := by
  refine ACall.intro Try.func26 rfl (N := 25) rfl (by decide) (by simp) ?_
  refine a_seq ?_
  refine a_region ?_
  refine r_new (v := .op [.int _ _, .int _ _, .int _ _, .int _ _]) (q_box (.inl rfl) rfl rfl) rfl rfl (by decide) ?_
  refine r_new (v := .op [.int _ _, .int _ _, .int _ _, .int _ _]) (q_box (.inl rfl) rfl rfl) rfl rfl (by decide) ?_
  refine r_val (v := .bool _) (v_assign (.inl rfl) (noOwn_flat rfl)) rfl rfl (by decide) ?_
  refine r_nil ?_
  refine a_seq ?_
  refine a_seq ?_
  refine a_region ?_
  refine r_val (v := .rp _ _) (v_fieldAddr_rp fo48_0 (.inl rfl)) rfl rfl (by decide) ?_
  refine r_val (v := .int _ _) (v_load_rp1 ta3 (.inl rfl) rfl (fun _ => rfl) rfl) rfl rfl (by decide) ?_
  refine r_val (v := .rp _ _) (v_fieldAddr_rp fo48_0 (.inl rfl)) rfl rfl (by decide) ?_
  refine r_val (v := .int _ _) (v_load_rp1 ta3 (.inl rfl) rfl (fun _ => rfl) rfl) rfl rfl (by decide) ?_
  refine r_val (v := .bool _) (v_neq (.inl rfl) (.inl rfl)) rfl rfl (by decide) ?_
  refine r_nil ?_
  refine a_cond rfl (fun ht9 => ?_) (fun ht9 => ?_)
  ·
    skip
    refine a_seq ?_
    refine a_region ?_
    refine r_val (v := .bool _) (v_assign (.inl rfl) (noOwn_flat rfl)) rfl rfl (by decide) ?_
    refine r_nil ?_
    refine a_ret ?_
    refine ret1 Try.results26 (by decide) (by decide) (Weak.of_eq (bool_eq ?_)) rfl Leaves.nil
    exact (decide_eq_false (fun h => by subst h; simp at ht9)).symm
  ·
    skip
    refine a_skip ?_
    refine a_seq ?_
    refine a_seq ?_
    refine a_region ?_
    refine r_val (v := .rp _ _) (v_fieldAddr_rp fo48_1 (.inl rfl)) rfl rfl (by decide) ?_
    refine r_val (v := .int _ _) (v_load_rp1 ta3 (.inl rfl) rfl (fun _ => rfl) rfl) rfl rfl (by decide) ?_
    refine r_val (v := .rp _ _) (v_fieldAddr_rp fo48_1 (.inl rfl)) rfl rfl (by decide) ?_
    refine r_val (v := .int _ _) (v_load_rp1 ta3 (.inl rfl) rfl (fun _ => rfl) rfl) rfl rfl (by decide) ?_
    refine r_val (v := .bool _) (v_neq (.inl rfl) (.inl rfl)) rfl rfl (by decide) ?_
    refine r_nil ?_
    refine a_cond rfl (fun ht14 => ?_) (fun ht14 => ?_)
    ·
      skip
      refine a_seq ?_
      refine a_region ?_
      refine r_val (v := .bool _) (v_assign (.inl rfl) (noOwn_flat rfl)) rfl rfl (by decide) ?_
      refine r_nil ?_
      refine a_ret ?_
      refine ret1 Try.results26 (by decide) (by decide) (Weak.of_eq (bool_eq ?_)) rfl Leaves.nil
      exact (decide_eq_false (fun h => by subst h; simp at ht14)).symm
    ·
      skip
      refine a_skip ?_
      refine a_seq ?_
      refine a_seq ?_
      refine a_region ?_
      refine r_val (v := .rp _ _) (v_fieldAddr_rp fo48_2 (.inl rfl)) rfl rfl (by decide) ?_
      refine r_val (v := .int _ _) (v_load_rp1 ta3 (.inl rfl) rfl (fun _ => rfl) rfl) rfl rfl (by decide) ?_
      refine r_val (v := .rp _ _) (v_fieldAddr_rp fo48_2 (.inl rfl)) rfl rfl (by decide) ?_
      refine r_val (v := .int _ _) (v_load_rp1 ta3 (.inl rfl) rfl (fun _ => rfl) rfl) rfl rfl (by decide) ?_
      refine r_val (v := .bool _) (v_neq (.inl rfl) (.inl rfl)) rfl rfl (by decide) ?_
      refine r_nil ?_
      refine a_cond rfl (fun ht19 => ?_) (fun ht19 => ?_)
      ·
        skip
        refine a_seq ?_
        refine a_region ?_
        refine r_val (v := .bool _) (v_assign (.inl rfl) (noOwn_flat rfl)) rfl rfl (by decide) ?_
        refine r_nil ?_
        refine a_ret ?_
        refine ret1 Try.results26 (by decide) (by decide) (Weak.of_eq (bool_eq ?_)) rfl Leaves.nil
        exact (decide_eq_false (fun h => by subst h; simp at ht19)).symm
      ·
        skip
        refine a_skip ?_
        refine a_seq ?_
        refine a_seq ?_
        refine a_region ?_
        refine r_val (v := .rp _ _) (v_fieldAddr_rp fo48_3 (.inl rfl)) rfl rfl (by decide) ?_
        refine r_val (v := .int _ _) (v_load_rp1 ta3 (.inl rfl) rfl (fun _ => rfl) rfl) rfl rfl (by decide) ?_
        refine r_val (v := .rp _ _) (v_fieldAddr_rp fo48_3 (.inl rfl)) rfl rfl (by decide) ?_
        refine r_val (v := .int _ _) (v_load_rp1 ta3 (.inl rfl) rfl (fun _ => rfl) rfl) rfl rfl (by decide) ?_
        refine r_val (v := .bool _) (v_neq (.inl rfl) (.inl rfl)) rfl rfl (by decide) ?_
        refine r_nil ?_
        refine a_cond rfl (fun ht24 => ?_) (fun ht24 => ?_)
        ·
          skip
          refine a_seq ?_
          refine a_region ?_
          refine r_val (v := .bool _) (v_assign (.inl rfl) (noOwn_flat rfl)) rfl rfl (by decide) ?_
          refine r_nil ?_
          refine a_ret ?_
          refine ret1 Try.results26 (by decide) (by decide) (Weak.of_eq (bool_eq ?_)) rfl Leaves.nil
          exact (decide_eq_false (fun h => by subst h; simp at ht24)).symm
        ·
          skip
          refine a_skip ?_
          refine a_seq ?_
          refine a_region ?_
          refine r_val (v := .bool _) (v_assign (.inl rfl) (noOwn_flat rfl)) rfl rfl (by decide) ?_
          refine r_nil ?_
          refine a_ret ?_
          refine ret1 Try.results26 (by decide) (by decide) (Weak.of_eq (bool_eq ?_)) rfl Leaves.nil
          exact (decide_eq_true (Prod.ext (by simpa using ht9) (Prod.ext (by simpa using ht14) (Prod.ext (by simpa using ht19) (by simpa using ht24))))).symm

theorem eqTNS_c (xs ys : List TN) (hl : (xs.length : Int) ≤ 9223372036854775807) (hl2 : (ys.length : Int) ≤ 9223372036854775807) : ACall Try.prog 12 [.sl (tncells xs) xs.length, .sl (tncells ys) ys.length] [] (.bool (decide (xs = ys))) [] := by
  refine ACall.intro Try.func12 rfl (N := 27) rfl (by decide) (by simp) ?_
  refine a_seq ?_
  refine a_region ?_
  refine r_val (v := .bool _) (v_assign (.inl rfl) (noOwn_flat rfl)) rfl rfl (by decide) ?_
  refine r_nil ?_
  refine a_seq ?_
  refine a_seq ?_
  refine a_region ?_
  refine r_val (v := .sl _ _) (v_move (.inl rfl) (noOwn_flat rfl)) rfl rfl (by decide) ?_
  refine r_val (v := .int _ _) (v_len_sl sl33 (.inl rfl)) rfl rfl (by decide) ?_
  refine r_val (v := .sl _ _) (v_move (.inl rfl) (noOwn_flat rfl)) rfl rfl (by decide) ?_
  refine r_val (v := .int _ _) (v_len_sl sl33 (.inl rfl)) rfl rfl (by decide) ?_
  refine r_val (v := .bool _) (v_neq (.inl rfl) (.inl rfl)) rfl rfl (by decide) ?_
  refine r_nil ?_
  refine a_cond rfl (fun ht10 => ?_) (fun ht10 => ?_)
  ·
    skip
    refine a_seq ?_
    refine a_region ?_
    refine r_val (v := .bool _) (v_assign (.inl rfl) (noOwn_flat rfl)) rfl rfl (by decide) ?_
    refine r_nil ?_
    refine a_ret ?_
    refine ret1 Try.results12 (by decide) (by decide) (Weak.of_eq (bool_eq ?_)) rfl Leaves.nil
    simp at ht10; exact (decide_eq_false (fun h => ht10 (by rw [h]))).symm
  ·
    skip
    refine a_skip ?_
    refine a_seq ?_
    refine a_seq ?_
    refine a_region ?_
    refine r_val (v := .int _ _) (v_assign (.inl rfl) (noOwn_flat rfl)) rfl rfl (by decide) ?_
    refine r_nil ?_
    refine a_block ?_
    refine a_loop (X := Nat) (fun i => look [(0, .sl (tncells xs) xs.length), (1, .sl (tncells ys) ys.length), (5, .int .i64 ((i : Nat) : Int))]) (fun i => i ≤ xs.length ∧ xs.length = ys.length ∧ xs.take i = ys.take i) (fun i => xs.length - i) 0 (ent_look ⟨Weak.of_eq rfl, Weak.of_eq rfl, Weak.of_eq rfl, trivial⟩) ⟨Nat.zero_le _, by simp at ht10; omega, rfl⟩ (fun i hG => ?_)
    obtain ⟨g1, g2, g3⟩ := hG
    refine a_seq ?_
    refine a_seq ?_
    refine a_region ?_
    refine r_val (v := .int _ _) (v_move (.inl rfl) (noOwn_flat rfl)) rfl rfl (by decide) ?_
    refine r_val (v := .sl _ _) (v_move (.inl rfl) (noOwn_flat rfl)) rfl rfl (by decide) ?_
    refine r_val (v := .int _ _) (v_len_sl sl33 (.inl rfl)) rfl rfl (by decide) ?_
    refine r_val (v := .bool _) (v_lss (.inl rfl) (.inl rfl)) rfl rfl (by decide) ?_
    refine r_nil ?_
    refine a_cond rfl (fun ht14 => ?_) (fun ht14 => ?_)
    ·
      skip
      refine a_skip ?_
      refine a_seq ?_
      refine a_block ?_
      refine a_seq ?_
      have hi : i < xs.length := (by simp at ht14; omega)
      refine a_region_any mixed (by kernel_rfl) ?_
      refine y_val (v := .sl _ _) (v_move (.inl rfl) (noOwn_flat rfl)) rfl rfl (by decide) (by kernel_rfl) ?_
      refine y_val (v := .int _ _) (v_move (.inl rfl) (noOwn_flat rfl)) rfl rfl (by decide) (by kernel_rfl) ?_
      refine y_val (v := .pp _ _) (v_indexAddr_sl es33 (.inl rfl) (.inl rfl) (fun _ => ⟨by omega, by omega, tn_ne hi⟩)) rfl rfl (by decide) (by kernel_rfl) ?_
      refine y_val (v := .agg [.int .i64 (gn xs i).1, .int .i64 (gn xs i).2.1, .int .i64 (gn xs i).2.2.1, .int .i64 (gn xs i).2.2.2]) (v_load_ppa1 ta48 (.inl rfl) rfl (fun _ => tn_four hi) rfl) rfl rfl (by decide) (by kernel_rfl) ?_
      refine y_val (v := .sl _ _) (v_move (.inl rfl) (noOwn_flat rfl)) rfl rfl (by decide) (by kernel_rfl) ?_
      refine y_val (v := .int _ _) (v_move (.inl rfl) (noOwn_flat rfl)) rfl rfl (by decide) (by kernel_rfl) ?_
      refine y_val (v := .pp _ _) (v_indexAddr_sl es33 (.inl rfl) (.inl rfl) (fun _ => ⟨by omega, by omega, tn_ne (xs := ys) (i := i) (by omega)⟩)) rfl rfl (by decide) (by kernel_rfl) ?_
      refine y_val (v := .agg [.int .i64 (gn ys i).1, .int .i64 (gn ys i).2.1, .int .i64 (gn ys i).2.2.1, .int .i64 (gn ys i).2.2.2]) (v_load_ppa1 ta48 (.inl rfl) rfl (fun _ => tn_four (xs := ys) (by omega)) rfl) rfl rfl (by decide) (by kernel_rfl) ?_
      refine y_new (v := .bool _) (q_call (vs := [.agg [.int _ _, .int _ _, .int _ _, .int _ _], .agg [.int _ _, .int _ _, .int _ _, .int _ _]]) (args := [.agg [.int .i64 _, .int .i64 _, .int .i64 _, .int .i64 _], .agg [.int .i64 _, .int .i64 _, .int .i64 _, .int .i64 _]]) hb26 ⟨.inl rfl, .inl rfl, trivial⟩ rfl (fun hA => eqTN_c (gn xs i) (gn ys i)) rfl rfl) rfl rfl (by decide) (by kernel_rfl) ?_
      refine y_val (v := .bool _) (v_not (.inl rfl)) rfl rfl (by decide) (by kernel_rfl) ?_
      refine y_nil ?_
      refine a_cond rfl (fun ht26 => ?_) (fun ht26 => ?_)
      ·
        skip
        refine a_seq ?_
        refine a_region ?_
        refine r_val (v := .bool _) (v_assign (.inl rfl) (noOwn_flat rfl)) rfl rfl (by decide) ?_
        refine r_nil ?_
        refine a_ret ?_
        refine ret1 Try.results12 (by decide) (by decide) (Weak.of_eq (bool_eq ?_)) rfl Leaves.nil
        simp at ht26; refine (decide_eq_false (fun h => ?_)).symm
        subst h
        simp at ht26
      ·
        skip
        refine a_skip ?_
        refine a_region ?_
        refine r_val (v := .int _ _) (v_move (.inl rfl) (noOwn_flat rfl)) rfl rfl (by decide) ?_
        refine r_val (v := .int _ _) (v_add (.inl rfl) (.inl rfl) (fun _ => by omega)) rfl rfl (by decide) ?_
        refine r_val (v := .int _ _) (v_assign (.inl rfl) (noOwn_flat rfl)) rfl rfl (by decide) ?_
        refine r_nil ?_
        refine ⟨i + 1, ent_look ⟨Weak.of_eq rfl, Weak.of_eq rfl, Weak.of_eq (int_eq (by omega)), trivial⟩, ⟨by omega, g2, gn_take hi (by omega) g3 (by simpa using ht26)⟩, by omega⟩
    ·
      skip
      refine a_exit ?_
      refine a_seq ?_
      refine a_region ?_
      refine r_val (v := .bool _) (v_assign (.inl rfl) (noOwn_flat rfl)) rfl rfl (by decide) ?_
      refine r_nil ?_
      refine a_ret ?_
      refine ret1 Try.results12 (by decide) (by decide) (Weak.of_eq (bool_eq ?_)) rfl Leaves.nil
      simp at ht14; refine (decide_eq_true ?_).symm
      rw [List.take_of_length_le (by omega), List.take_of_length_le (by omega)] at g3; exact g3
end Go.Av
namespace Go.Av
open Go

section
variable {e : Ctx} {σ σ' : Sig} {val val' : Nat → Value} {w w' : World} {β β' : Place → Option (Nat × Nat)} {F F' : Nat → Prop} {ds : List Deferred}

/-- The context that begins here. -/
def Ctx.here (w : World) (σ : Sig) (β : Place → Option (Nat × Nat)) (F : Nat → Prop) (ds : List Deferred) : Ctx := ⟨w, fun b => ∃ q s, OwnAt σ q ∧ β q = some (b, s), F, ds⟩
theorem Inv.here (h : Inv e σ val w β F) (ds : List Deferred) : Inv (Ctx.here w σ β F ds) σ val w β F where
  rep := h.rep
  disj := h.disj
  sep q b s hq hb := ⟨(h.sep q b s hq hb).1, .inr ⟨q, s, hq, hb⟩⟩
  fr b hb := ⟨(h.fr b hb).1, fun _ => hb⟩
  kept _ _ _ := rfl
  grow := Nat.le_refl _
  tame := Tame.refl' w fun b arr t fz ⟨q, s, hq, hb⟩ hh => h.tame.2.2 b arr t fz (h.sep q b s hq hb).2 hh

theorem Inv.unbase (h : Inv e σ val w β F) (h' : Inv (Ctx.here w σ β F ds) σ' val' w' β' F') : Inv e σ' val' w' β' F' where
  rep := h'.rep
  disj := h'.disj
  sep q b s hq hb := ⟨(h'.sep q b s hq hb).1, by
    rcases (h'.sep q b s hq hb).2 with hl | ⟨q0, s0, ho, hb0⟩
    · exact .inl (Nat.le_trans h.grow hl)
    · exact (h.sep q0 b s0 ho hb0).2⟩
  fr b hb := ⟨(h'.fr b hb).1, fun hlt => (h.fr b ((h'.fr b hb).2 (Nat.lt_of_lt_of_le hlt h.grow))).2 hlt⟩
  kept b hb hi := (h'.kept b (Nat.lt_of_lt_of_le hb h.grow) fun ⟨q, s, ho, hb0⟩ => by
    rcases (h.sep q b s ho hb0).2 with hl | hl
    · omega
    · exact hi hl).trans (h.kept b hb hi)
  grow := Nat.le_trans h.grow h'.grow
  tame := h.tame.trans' h'.tame fun b hb hn => h'.kept b hb hn

theorem Inv.own_cells (h : Inv e σ val w β F) {q : Place} {b s : Nat} (ho : OwnAt σ q) (hb : β q = some (b, s)) : ∃ arr t fz, w.heap[b]? = some (.cells arr t fz) := by
  obtain ⟨x, hx, ho⟩ := ho
  obtain ⟨u, hu⟩ := (h.rep q.1).sub hx
  have hb' : β (q.1, [] ++ q.2) = some (b, s) := by simpa using hb
  cases x <;> simp [AV.isOwn] at ho <;> simp only [Rep] at hu
  · rcases hu with ⟨h0, _⟩ | ⟨_, b', _, _, _, h0, _, _, _, hh, _⟩
    · rw [h0] at hb'; cases hb'
    · rw [h0] at hb'; cases hb'; exact ⟨_, _, _, hh⟩
  · obtain ⟨_, b', _, _, h0, _, hh, _⟩ := hu
    rw [h0] at hb'; cases hb'; exact ⟨_, _, _, hh⟩

def nonCells : Obj → Prop
  | .cells .. => False
  | _ => True

/-- What is no cells stays. -/
theorem Inv.kept_other (h : Inv e σ val w β F) (h' : Inv (Ctx.here w σ β F ds) σ' val' w' β' F') {b : Nat} {o : Obj} (ho : w.heap[b]? = some o) (hc : nonCells o) : w'.heap[b]? = some o := by
  have hlt : b < w.heap.size := (Array.getElem?_eq_some_iff.1 ho).1
  refine (h'.kept b hlt fun ⟨q, s, hq, hb⟩ => ?_).trans ho
  obtain ⟨arr, t, fz, hh⟩ := h.own_cells hq hb
  rw [ho] at hh; cases hh; exact hc
/-- What is frozen stays. -/
theorem Inv.kept_fr (h : Inv e σ val w β F) (h' : Inv (Ctx.here w σ β F ds) σ' val' w' β' F') {b : Nat} (hF : F b) : w'.heap[b]? = w.heap[b]? :=
  h'.kept b (h.fr b hF).1 fun ⟨q, s, hq, hb⟩ => (h.sep q b s hq hb).1 hF
/-- What was frozen may be held so on. -/
theorem Inv.unionF (h : Inv e σ val w β F) (h' : Inv (Ctx.here w σ β F ds) σ' val' w' β' F') : Inv (Ctx.here w σ β F ds) σ' val' w' β' (fun b => F' b ∨ F b) :=
  h'.moreF (fun b hb => .inl hb) (fun b hb => by
    rcases hb with hb | hb
    · exact h'.fr b hb
    · exact ⟨Nat.lt_of_lt_of_le (h.fr b hb).1 h'.grow, fun _ => hb⟩) (fun q b s hq hb hF => by
    rcases hF with hF | hF
    · exact (h'.sep q b s hq hb).1 hF
    · rcases (h'.sep q b s hq hb).2 with hl | ⟨q0, s0, ho, hb0⟩
      · have := (h.fr b hF).1
        exact Nat.lt_irrefl _ (Nat.lt_of_lt_of_le this hl)
      · exact (h.sep q0 b s0 ho hb0).1 hF)
theorem here_fr (h' : Inv (Ctx.here w σ β F ds) σ' val' w' β' F') {b : Nat} (hlt : b < w.heap.size) (hF : ¬ F b) : ¬ F' b := fun hb => hF ((h'.fr b hb).2 hlt)

theorem Inv.putObj (h : Inv e σ val w β F) {l : Nat} {o o' : Obj} (hl : w.heap[l]? = some o) (hc : nonCells o) (hc' : nonCells o') (hF : ¬ F l) (hk : e.w0.heap.size ≤ l) : Inv e σ val (w.putObj l o') β F := by
  have hlt : l < w.heap.size := (Array.getElem?_eq_some_iff.1 hl).1
  refine h.ext (fun b hb => World.putObj_heap_other (fun e => by subst e; exact hF hb)) (fun q b s hq hb => World.putObj_heap_other fun e => ?_) (fun b hb _ => World.putObj_heap_other (by omega)) (by simp) ?_
  · subst e
    obtain ⟨arr, t, fz, hh⟩ := h.own_cells hq hb
    rw [hl] at hh; cases hh; exact hc
  · refine ⟨h.tame.1, h.tame.2.1, fun b arr t fz hb hh => ?_⟩
    by_cases hbl : b = l
    · subst hbl
      rw [World.putObj_heap_same hlt] at hh
      cases hh; exact hc'.elim
    · rw [World.putObj_heap_other hbl] at hh
      exact h.tame.2.2 b arr t fz hb hh

/-- A slot's value moves to another slot of the same value; the slot then refers there. -/
def mvSig (s d : Nat) (σ : Sig) : Sig := fun i => if i = d then σ s else if i = s then refd (d, []) (σ s) else purgeV s (purgeV d (σ i))
theorem purge_own {d : Nat} {x : AV} {r : List Nat} {y : AV} (hy : node (purgeV d x) r = some y) (ho : y.isOwn = true) : node x r = some y := by
  rw [purgeV_eq] at hy
  split at hy
  · cases r with
    | nil => simp [node] at hy; subst hy; simp [AV.isOwn] at ho
    | cons j r => simp [node, kids] at hy
  · exact hy
theorem Inv.mv (h : Inv e σ val w β F) {s d : Nat} (hne : s ≠ d) (hv : val d = val s) (hnr : noRef (σ s) = true) : ∃ β', Inv e (mvSig s d σ) val w β' F := by
  have hφ : ∀ q, OwnAt (mvSig s d σ) q → OwnAt σ (if q.1 = d then (s, q.2) else q) ∧ (q.1 ≠ s) := fun q ⟨y, hy, ho⟩ => by
    unfold mvSig at hy
    by_cases h1 : q.1 = d
    · rw [if_pos h1] at hy ⊢; exact ⟨⟨y, hy, ho⟩, by omega⟩
    · rw [if_neg h1] at hy ⊢
      by_cases h2 : q.1 = s
      · rw [if_pos h2] at hy; rw [noOwn_refd _ _ _ _ hy] at ho; cases ho
      · rw [if_neg h2] at hy; exact ⟨⟨y, purge_own (purge_own hy ho) ho, ho⟩, h2⟩
  refine ⟨fun q => β (if q.1 = d then (s, q.2) else q), fun i => ?_, fun q q' b m m' hq hq' hb hb' => ?_, fun q b m hq hb => h.sep _ b m (hφ q hq).1 hb, h.fr, h.kept, h.grow, h.tame⟩
  · have hd : Rep (fun q => β (if q.1 = d then (s, q.2) else q)) F w (σ s) (d, []) (val s) := by
      refine (h.rep s).tr _ (fun b hb => ⟨hb, rfl⟩) (fun r y _ _ => ⟨by simp, fun _ _ _ => rfl⟩) (fun q hq => by rw [refs_of_noRef _ hnr] at hq; cases hq)
    unfold mvSig
    by_cases h1 : i = d
    · subst h1; rw [if_pos rfl, hv]; exact hd
    · rw [if_neg h1]
      by_cases h2 : i = s
      · subst h2; rw [if_pos rfl]; exact hd.refd
      · rw [if_neg h2]
        have h3 : Rep β F w (purgeV s (purgeV d (σ i))) (i, []) (val i) := ((h.purge d).purge s).rep i
        refine h3.tr _ (fun b hb => ⟨hb, rfl⟩) (fun r y _ _ => ⟨by simp [h1], fun _ _ _ => rfl⟩) (fun q hq => ?_)
        have h4 : q.1 ≠ d := by
          rw [purgeV_eq] at hq
          split at hq
          · simp [refs] at hq
          · exact refs_purge q hq
        simp [h4]
  · have h1 := h.disj _ _ b m m' (hφ q hq).1 (hφ q' hq').1 hb hb'
    have h2 := (hφ q hq).2
    have h3 := (hφ q' hq').2
    obtain ⟨q1, q2⟩ := q
    obtain ⟨p1, p2⟩ := q'
    dsimp only at h1 h2 h3
    by_cases ha : q1 = d <;> by_cases hb : p1 = d
    · rw [if_pos ha, if_pos hb] at h1; rw [ha, hb]; exact congrArg (Prod.mk d) (congrArg Prod.snd h1)
    · rw [if_pos ha, if_neg hb] at h1; exact absurd (congrArg Prod.fst h1).symm h3
    · rw [if_neg ha, if_pos hb] at h1; exact absurd (congrArg Prod.fst h1) h2
    · rw [if_neg ha, if_neg hb] at h1; exact h1
end

/-- From here on stand the slots that variables of the frame are lent to. -/
def LND : Nat := 2000000
/-- The slots from LND on are given up. -/
def cutS (σ : Sig) : Sig := fun i => if i < LND then σ i else .undef
def lendS : List Nat → Sig → Sig
  | [], σ => σ
  | s :: S, σ => lendS S (mvSig s (LND + s) σ)
def lendOk (N : Nat) : List Nat → Sig → Bool
  | [], _ => true
  | s :: S, σ => decide (s < N) && noRef (σ s) && lendOk N S (mvSig s (LND + s) σ)
def unlendS : List Nat → Sig → Sig
  | [], σ => σ
  | s :: S, σ => unlendS S (mvSig (LND + s) s σ)
def unlendOk (N : Nat) : List Nat → Sig → Bool
  | [], _ => true
  | s :: S, σ => decide (s < N) && noRef (σ (LND + s)) && unlendOk N S (mvSig (LND + s) s σ)
/-- The values of the slots that are lent to. -/
def gvL (N : Nat) (gv : Nat → Value) (a : Act) : Nat → Value := fun j => if LND ≤ j ∧ j - LND < N then a.tmps.getD (j - LND) undef else gv j

section
variable {N : Nat} {e : Ctx} {σ σ' : Sig} {w w' : World} {β β' : Place → Option (Nat × Nat)} {F F' : Nat → Prop} {gv : Nat → Value} {a a' : Act}
theorem gvL_link (hN : N ≤ INH) {s : Nat} (hs : s < N) : valOf N (gvL N gv a) a (LND + s) = valOf N (gvL N gv a) a s := by
  have h1 : ¬ LND + s < N := by simp [LND, INH] at *; omega
  simp only [valOf, if_neg h1, if_pos hs, gvL, Nat.le_add_right, Nat.add_sub_cancel_left, hs, and_self, if_true]
theorem own_cut {q : Place} (h : OwnAt (cutS σ) q) : OwnAt σ q := by
  obtain ⟨y, hy, ho⟩ := h
  unfold cutS at hy
  split at hy
  · exact ⟨y, hy, ho⟩
  · cases hr : q.2 with
    | nil => rw [hr] at hy; simp [node] at hy; subst hy; simp [AV.isOwn] at ho
    | cons j r => rw [hr] at hy; simp [node, kids] at hy
theorem Inv.cutG (h : Inv e σ (valOf N gv a) w β F) {gv' : Nat → Value} (hg : ∀ i, i < LND → gv' i = gv i) : Inv e (cutS σ) (valOf N gv' a) w β F := by
  refine ⟨fun i => ?_, fun q q' b s s' hq hq' => h.disj q q' b s s' (own_cut hq) (own_cut hq'), fun q b s hq => h.sep q b s (own_cut hq), h.fr, h.kept, h.grow, h.tame⟩
  unfold cutS
  by_cases hi : i < LND
  · rw [if_pos hi]
    have : valOf N gv' a i = valOf N gv a i := by
      simp only [valOf]; split
      · rfl
      · exact hg i hi
    rw [this]; exact h.rep i
  · rw [if_neg hi]; simp [Rep]
theorem gvL_lt {i : Nat} (h : i < LND) : gvL N gv a i = gv i := by unfold gvL; rw [if_neg (by omega)]
theorem Inv.lend (hN : N ≤ INH) : ∀ {S : List Nat} {σ : Sig} {β : Place → Option (Nat × Nat)}, lendOk N S σ = true → Inv e σ (valOf N (gvL N gv a) a) w β F → ∃ β', Inv e (lendS S σ) (valOf N (gvL N gv a) a) w β' F
  | [], _, β, _, h => ⟨β, h⟩
  | s :: S, σ, β, hk, h => by
    simp only [lendOk, Bool.and_eq_true, decide_eq_true_eq] at hk
    obtain ⟨β1, h1⟩ := h.mv (s := s) (d := LND + s) (fun h => by unfold LND at h; omega) (gvL_link hN hk.1.1) hk.1.2
    exact Inv.lend (S := S) hN hk.2 h1
theorem Inv.unlend (hN : N ≤ INH) : ∀ {S : List Nat} {σ : Sig} {β : Place → Option (Nat × Nat)}, unlendOk N S σ = true → Inv e σ (valOf N (gvL N gv a) a) w β F → ∃ β', Inv e (unlendS S σ) (valOf N (gvL N gv a) a) w β' F
  | [], _, β, _, h => ⟨β, h⟩
  | s :: S, σ, β, hk, h => by
    simp only [unlendOk, Bool.and_eq_true, decide_eq_true_eq] at hk
    obtain ⟨β1, h1⟩ := h.mv (s := LND + s) (d := s) (fun h => by unfold LND at h; omega) (gvL_link hN hk.1.1).symm hk.1.2
    exact Inv.unlend (S := S) hN hk.2 h1

/-- The frame's slots: pure ones, and ones that refer to what they are lent to. -/
def BaseOk (N : Nat) (τ : Sig) : List (Nat × AV) → Prop
  | [] => True
  | (i, v) :: L => (i < N ∧ (pureV v = true ∨ v = refd (LND + i, []) (τ (LND + i)))) ∧ BaseOk N τ L
theorem BaseOk.get {τ : Sig} : ∀ {L : List (Nat × AV)}, BaseOk N τ L → ∀ i, (look L i = .undef ∧ True) ∨ (i < N ∧ (pureV (look L i) = true ∨ look L i = refd (LND + i, []) (τ (LND + i))))
  | [], _, i => .inl ⟨rfl, trivial⟩
  | (d, v) :: L, h, i => by
    obtain ⟨⟨h1, h2⟩, h3⟩ := h
    simp only [look, upd]
    split
    · rename_i he; subst he; exact .inr ⟨h1, h2⟩
    · exact h3.get i
/-- Keys behind the frame. -/
def keysFrom (N : Nat) : List (Nat × AV) → Bool
  | [] => true
  | (i, _) :: L => decide (N ≤ i) && keysFrom N L
def keysBelow (N : Nat) : List (Nat × AV) → Bool
  | [] => true
  | (i, _) :: L => decide (i < N) && keysBelow N L
theorem look_from : ∀ {L : List (Nat × AV)}, keysFrom N L = true → ∀ i, i < N → look L i = .undef
  | [], _, _, _ => rfl
  | (d, v) :: L, h, i, hi => by
    simp only [keysFrom, Bool.and_eq_true, decide_eq_true_eq] at h
    simp only [look, upd]
    rw [if_neg (by omega)]
    exact look_from h.2 i hi
theorem BaseOk.below {τ : Sig} : ∀ {L : List (Nat × AV)}, BaseOk N τ L → keysBelow N L = true
  | [], _ => rfl
  | (d, v) :: L, h => by
    obtain ⟨⟨h1, _⟩, h3⟩ := h
    simp only [keysBelow, Bool.and_eq_true, decide_eq_true_eq]
    exact ⟨h1, h3.below⟩
theorem look_app_lt : ∀ {L M : List (Nat × AV)} {i : Nat}, look M i = .undef → look (L ++ M) i = look L i
  | [], _, _, h => h
  | (d, v) :: L, M, i, h => by
    simp only [List.cons_append, look, upd]
    split
    · rfl
    · exact look_app_lt h
theorem look_app_ge : ∀ {L M : List (Nat × AV)} {i : Nat}, keysBelow N L = true → N ≤ i → look (L ++ M) i = look M i
  | [], _, _, _, _ => rfl
  | (d, v) :: L, M, i, h, hi => by
    simp only [keysBelow, Bool.and_eq_true, decide_eq_true_eq] at h
    simp only [List.cons_append, look, upd]
    rw [if_neg (by omega)]
    exact look_app_ge h.2 hi
theorem node_undef {r : List Nat} {y : AV} (h : node .undef r = some y) : y = .undef := by
  cases r with
  | nil => simpa [node] using h.symm
  | cons j r => simp [node, kids] at h
theorem own_base {τ : Sig} {LB LP : List (Nat × AV)} (hB : BaseOk N τ LB) (hP : keysFrom N LP = true) {q : Place} (h : OwnAt (look (LB ++ LP)) q) : OwnAt (look LP) q := by
  obtain ⟨y, hy, ho⟩ := h
  rcases Nat.lt_or_ge q.1 N with hq | hq
  · rw [look_app_lt (look_from hP _ hq)] at hy
    rcases hB.get q.1 with ⟨h1, _⟩ | ⟨_, h1 | h1⟩
    · rw [h1] at hy; rw [node_undef hy] at ho; cases ho
    · rw [pure_own h1 hy] at ho; cases ho
    · rw [h1] at hy; rw [noOwn_refd _ _ _ _ hy] at ho; cases ho
  · rw [look_app_ge hB.below hq] at hy; exact ⟨y, hy, ho⟩

/-- Behind a round the frame stands as it stood, over what the round has left. -/
theorem Inv.reframe (hN : N ≤ INH) {LB LP LP' : List (Nat × AV)} (hB : BaseOk N (look LP) LB) (hB' : BaseOk N (look LP') LB) (hP : keysFrom N LP = true) (hP' : keysFrom N LP' = true)
    (h : Inv e (look (LB ++ LP)) (valOf N (gvL N gv a) a) w β F) (h' : Inv e (look LP') (valOf N (gvL N gv a) a') w' β' F') (hF : ∀ b, F b → F' b ∧ w'.heap[b]? = w.heap[b]?) :
    Inv e (look (LB ++ LP')) (valOf N (gvL N gv a) a) w' β' F' := by
  refine ⟨fun i => ?_, fun q q' b s s' hq hq' => h'.disj q q' b s s' (own_base hB' hP' hq) (own_base hB' hP' hq'), fun q b s hq => h'.sep q b s (own_base hB' hP' hq), h'.fr, h'.kept, h'.grow, h'.tame⟩
  rcases Nat.lt_or_ge i N with hi | hi
  · rw [look_app_lt (look_from hP' _ hi)]
    have h1 := h.rep i
    rw [look_app_lt (look_from hP _ hi)] at h1
    rcases hB'.get i with ⟨h2, _⟩ | ⟨_, h2 | h2⟩
    · rw [h2]; simp [Rep]
    · exact h1.tr _ hF (fun r y hy ho => by rw [pure_own h2 hy] at ho; cases ho) (fun q hq => by rw [refs_pure h2] at hq; cases hq)
    · rw [h2]
      have h3 := h'.rep (LND + i)
      have h4 := gvL_link (gv := gv) (a := a) hN hi
      have h5 : valOf N (gvL N gv a) a' (LND + i) = valOf N (gvL N gv a) a (LND + i) := by
        have : ¬ LND + i < N := by simp [LND, INH] at *; omega
        simp only [valOf, if_neg this]
      rw [h5, h4] at h3
      exact h3.refd
  · rw [look_app_ge hB'.below hi]
    have h3 := h'.rep i
    have h5 : valOf N (gvL N gv a) a' i = valOf N (gvL N gv a) a i := by
      have : ¬ i < N := by omega
      simp only [valOf, if_neg this]
    rw [h5] at h3
    exact h3
end
end Go.Av
namespace Go.Av
open Go
/-- The mark that a loop over an iterator leaves among the deferred calls. -/
def MkOk (e : Ctx) (ds : List Deferred) (w : World) (F : Nat → Prop) : Prop :=
  ds = [] ∨ ∃ D, ds = [{ target := .collected D, args := #[] }] ∧ w.heap[D]? = some (.deferred (some [])) ∧ e.w0.heap.size ≤ D ∧ ¬ F D
structure AllM (N : Nat) (gv : Nat → Value) (e : Ctx) (σ : Sig) (a : Act) (w : World) : Prop where
  size : a.tmps.size = N
  inv : ∃ β F, MkOk e a.defers w F ∧ Inv e σ (valOf N gv a) w β F
/-- Code of a function's own frame: a loop over an iterator may stand in it (m: or ahead of it). -/
def BCode (P : Program) (N : Nat) (m : Bool) (c : Code) (σ : Sig) (Φ : Exit → Sig → Prop) : Prop :=
  ∀ (gv : Nat → Value) (e : Ctx) (a : Act) (w : World), (m = false → a.defers = []) → AllM N gv e σ a w → ∀ Q : Exit → Act → World → Prop, (∀ x a' w' σ', Φ x σ' → AllM N gv e σ' a' w' → Q x a' w') → c.wp P Q a w

section
variable {P : Program} {N : Nat} {m : Bool} {σ σ' : Sig} {Φ : Exit → Sig → Prop} {c c' : Code}
theorem b_pre (h : Ent σ σ') (hc : BCode P N m c σ' Φ) : BCode P N m c σ Φ := fun gv e a w hm ⟨hsz, β, F, hk, hi⟩ Q hQ => by
  obtain ⟨β', hi'⟩ := h _ _ _ _ _ hi
  exact hc gv e a w hm ⟨hsz, β', F, hk, hi'⟩ Q hQ
theorem lift_core (h : ACode P N c σ Φ) {gv : Nat → Value} {e : Ctx} {a : Act} {w : World} (ha : AllM N gv e σ a w) {Q : Exit → Act → World → Prop} (hQ : ∀ x a' w' σ', Φ x σ' → AllM N gv e σ' a' w' → a'.defers = a.defers → Q x a' w') : c.wp P Q a w := by
  obtain ⟨hsz, β, F, hk, hi⟩ := ha
  refine SWp.wp (h gv (Ctx.here w σ β F a.defers) a w ⟨rfl, hsz, β, F, hi.here _⟩ Q fun x a' w' σ' hx ha' => ?_)
  obtain ⟨hdf, hsz', β', F', hi'⟩ := ha'
  have hdf' : a'.defers = a.defers := hdf
  refine hQ x a' w' σ' hx ⟨hsz', β', F', ?_, hi.unbase hi'⟩ hdf'
  rw [hdf']
  rcases hk with hk | ⟨D, h1, h2, h3, h4⟩
  · exact .inl hk
  · exact .inr ⟨D, h1, hi.kept_other hi' h2 trivial, h3, here_fr hi' (Array.getElem?_eq_some_iff.1 h2).1 h4⟩
theorem b_lift (h : ACode P N c σ Φ) : BCode P N m c σ Φ := fun gv e a w _ ha Q hQ => lift_core h ha fun x a' w' σ' hx ha' _ => hQ x a' w' σ' hx ha'
theorem b_seqA (h : ACode P N c σ (fun x s => match x with | .normal => BCode P N m c' s Φ | x => Φ x s)) : BCode P N m (.seq c c') σ Φ := fun gv e a w hm ha Q hQ =>
  wp_seq (lift_core h ha fun x a' w' σ' hx ha' hd => by
    cases x <;> simp only [Exit.then] <;> first | exact hx gv e a' w' (fun h => hd.trans (hm h)) ha' Q hQ | exact hQ _ _ _ _ hx ha')
theorem b_seqB (h : BCode P N m c σ (fun x s => match x with | .normal => BCode P N true c' s Φ | x => Φ x s)) : BCode P N m (.seq c c') σ Φ := fun gv e a w hm ha Q hQ =>
  wp_seq (h gv e a w hm ha _ fun x a' w' σ' hx ha' => by
    cases x <;> simp only [Exit.then] <;> first | exact hx gv e a' w' (fun h => by cases h) ha' Q hQ | exact hQ _ _ _ _ hx ha')
theorem b_block {id : Nat} (h : BCode P N m c σ (fun x s => match x with | .exit i => if i = id then Φ .normal s else Φ (.exit i) s | x => Φ x s)) : BCode P N m (.block id c) σ Φ := fun gv e a w hm ha Q hQ =>
  wp_block (h gv e a w hm ha _ fun x a' w' s hx ha' => by
    cases x <;> simp only [Exit.inBlock] <;> try exact hQ _ _ _ _ hx ha'
    dsimp only at hx
    split
    · rename_i h; rw [if_pos h] at hx; exact hQ _ _ _ _ hx ha'
    · rename_i h; rw [if_neg h] at hx; exact hQ _ _ _ _ hx ha')

/-- A function's contract out of its code, where a loop over an iterator stands in it. -/
theorem BCall.intro {f : FuncId} {fn : Func} {args objs objs2 : List AV} {res : AV} (hf : P.funcs[f]? = some fn) (hb : fn.body = some c) (hN : fn.ntmps = N) (hNI : N < INH) (ha : args.length ≤ N)
    (h : BCode P N false c (argSig args objs) (fun x s => match x with | .normal => Returns P fn N s res objs2 | .ret => Returns P fn N s res objs2 | _ => False)) : ACall P f args objs res objs2 := by
  intro e vs val w β F hl hval hi
  refine (callsIn_wide (n := 1)).1 (callsIn_of_wp_marks hf hb trivial (wpIn_wide.2 ?_))
  have hsz : (vs.toArray ++ Array.replicate (fn.ntmps - vs.toArray.size) undef).size = N := by simp [hN]; omega
  refine h (fun i => val i) e _ w (fun _ => rfl) ⟨hsz, β, F, .inl rfl, ?_⟩ _ fun x a' w' s hx ha' => ?_
  · refine ⟨fun i => ?_, hi.disj, hi.sep, hi.fr, hi.kept, hi.grow, hi.tame⟩
    by_cases hlt : i < vs.length
    · have := hi.rep i
      rw [hval i hlt] at this
      have e1 : valOf N (fun i => val i) { tmps := vs.toArray ++ Array.replicate (fn.ntmps - vs.toArray.size) undef, defers := [] } i = vs.getD i undef := by
        have : i < N := by omega
        simp only [valOf, this, if_true]
        rw [Array.getD_eq_getD_getElem?, Array.getElem?_append_left (by simpa using hlt)]
        simp
      rw [e1]; exact this
    · by_cases hN' : i < N
      · have : argSig args objs i = .undef := by
          have h1 : i < INH := by omega
          have h2 : args[i]? = none := List.getElem?_eq_none (by omega)
          simp [argSig, h1, h2]
        rw [this]; simp [Rep]
      · have := hi.rep i
        simpa [valOf, hN'] using this
  · have key : ∀ (_ : Returns P fn N s res objs2), LeavesInM Fence.wide 1 P fn a'.tmps (fun en w' => ∃ v β' F', en = .returned v ∧ Inv e (argSig [res] objs2) (upd val 0 v) w' β' F') a'.defers .returning w' := by
      intro hret
      obtain ⟨hsz', β', F', hk, hi'⟩ := ha'
      rcases hk with hk | ⟨D, h1, h2, h3, h4⟩
      · obtain ⟨v, hr, β'', F'', hi''⟩ := hret (fun i => val i) { e with ds := [] } a' w' ⟨hk, hsz', β', F', ⟨hi'.rep, hi'.disj, hi'.sep, hi'.fr, hi'.kept, hi'.grow, hi'.tame⟩⟩
        rw [hk]
        exact ⟨v, hr, v, β'', F'', rfl, ⟨hi''.rep, hi''.disj, hi''.sep, hi''.fr, hi''.kept, hi''.grow, hi''.tame⟩⟩
      · rw [h1]
        have hi2 : Inv e s (valOf N (fun i => val i) a') (w'.putObj D (.deferred none)) β' F' := hi'.putObj h2 trivial trivial h4 h3
        obtain ⟨v, hr, β'', F'', hi''⟩ := hret (fun i => val i) { e with ds := a'.defers } a' _ ⟨rfl, hsz', β', F', ⟨hi2.rep, hi2.disj, hi2.sep, hi2.fr, hi2.kept, hi2.grow, hi2.tame⟩⟩
        refine ⟨by simp, .inl ⟨D, _, rfl, run_takeDeferred h2, ?_⟩⟩
        exact ⟨v, hr, v, β'', F'', rfl, ⟨hi''.rep, hi''.disj, hi''.sep, hi''.fr, hi''.kept, hi''.grow, hi''.tame⟩⟩
    cases x <;> simp only at hx
    · exact key hx
    · exact key hx
end
end Go.Av
namespace Go.Av
open Go

/-- Called with a loop's yield the function hands out n elements, each with its index, from the last to the first, until a round says no. -/
def BackIter (P : Program) (gf : FuncId) (lb : Array Value) (w1 : World) (Fz : Nat → Prop) (n : Nat) (ev : Nat → Value) : Prop :=
  ∀ (l : Nat) (J : Nat → World → Prop) (Jx : World → Prop),
    (∀ k W, J k W → ∀ b, Fz b → W.heap[b]? = w1.heap[b]?) →
    (∀ k W, k < n → J (k + 1) W → ∀ m, YieldAt Fence.wide m P l #[.int .i64 (k : Int), ev k] W fun e W' => (e = .returned (.bool true) ∧ J k W') ∨ (e = .returned (.bool false) ∧ Jx W')) →
    ∀ W, J n W → Calls P gf (#[.func (.yield l) #[] #[]] ++ lb) W fun e W' => (∃ v, e = .returned v) ∧ (J 0 W' ∨ Jx W')

/-- The state behind the loop. -/
def endSig (S : List Nat) (LB LP : List (Nat × AV)) : Sig := cutS (unlendS S (look (LB ++ LP)))
def NrAll (τ : Sig) : List Nat → Prop
  | [] => True
  | s :: S => noRef (τ (LND + s)) = true ∧ NrAll τ S
theorem NrAll.get {τ : Sig} : ∀ {S : List Nat}, NrAll τ S → ∀ s ∈ S, noRef (τ (LND + s)) = true
  | [], _, s, hs => by cases hs
  | x :: S, h, s, hs => by
    rcases List.mem_cons.1 hs with rfl | hs
    · exact h.1
    · exact h.2.get s hs
def lentB (N : Nat) : List Nat → Bool
  | [] => true
  | s :: S => decide (s < N) && !S.contains s && lentB N S
structure LpOk (N : Nat) (S : List Nat) (LB LP : List (Nat × AV)) : Prop where
  keys : keysFrom N LP = true
  base : BaseOk N (look LP) LB
  nr : NrAll (look LP) S
theorem purge_noRef {d : Nat} {x : AV} (h : noRef x = true) : purgeV d x = x := by rw [purgeV_eq, refs_of_noRef x h]; rfl
theorem unlend_ok {N : Nat} (hN : N ≤ INH) : ∀ {S : List Nat} {σ : Sig}, lentB N S = true → (∀ s ∈ S, noRef (σ (LND + s)) = true) → unlendOk N S σ = true
  | [], _, _, _ => rfl
  | s :: S, σ, h, hn => by
    simp only [lentB, Bool.and_eq_true, decide_eq_true_eq, Bool.not_eq_true'] at h
    simp only [unlendOk, Bool.and_eq_true, decide_eq_true_eq]
    refine ⟨⟨h.1.1, hn s (by simp)⟩, unlend_ok hN h.2 fun s' hs' => ?_⟩
    have h1 : s' ≠ s := fun e => by subst e; have := h.1.2; rw [List.contains_iff_mem.2 hs'] at this; cases this
    have h2 := hn s' (by simp [hs'])
    have h3 : s < LND := by have := h.1.1; unfold LND; unfold INH at hN; omega
    unfold mvSig
    rw [if_neg (by omega), if_neg (by omega), purge_noRef h2, purge_noRef h2]
    exact h2
theorem lend_ok {N : Nat} (hN : N ≤ INH) : ∀ {S : List Nat} {σ : Sig}, lentB N S = true → (∀ s ∈ S, noRef (σ s) = true) → lendOk N S σ = true
  | [], _, _, _ => rfl
  | s :: S, σ, h, hn => by
    simp only [lentB, Bool.and_eq_true, decide_eq_true_eq, Bool.not_eq_true'] at h
    simp only [lendOk, Bool.and_eq_true, decide_eq_true_eq]
    refine ⟨⟨h.1.1, hn s (by simp)⟩, lend_ok hN h.2 fun s' hs' => ?_⟩
    have h1 : s' ≠ s := fun e => by subst e; have := h.1.2; rw [List.contains_iff_mem.2 hs'] at this; cases this
    have h2 := hn s' (by simp [hs'])
    have h3 : ∀ (S : List Nat), lentB N S = true → ∀ s ∈ S, s < N := fun S => by
      induction S with
      | nil => intro _ s hs; cases hs
      | cons x S ih =>
        intro h s hs
        simp only [lentB, Bool.and_eq_true, decide_eq_true_eq] at h
        rcases List.mem_cons.1 hs with rfl | hs
        · exact h.1.1
        · exact ih h.2 s hs
    have h4 := h3 S h.2 s' hs'
    have h5 : N ≤ LND := by unfold LND; unfold INH at hN; omega
    unfold mvSig
    rw [if_neg (by omega), if_neg h1, purge_noRef h2, purge_noRef h2]
    exact h2
def NrFr (τ : Sig) : List Nat → Prop
  | [] => True
  | s :: S => noRef (τ s) = true ∧ NrFr τ S
theorem NrFr.get {τ : Sig} : ∀ {S : List Nat}, NrFr τ S → ∀ s ∈ S, noRef (τ s) = true
  | [], _, s, hs => by cases hs
  | x :: S, h, s, hs => by
    rcases List.mem_cons.1 hs with rfl | hs
    · exact h.1
    · exact h.2.get s hs
theorem Returns.pre {P : Program} {fn : Func} {N : Nat} {σ σ' : Sig} {res : AV} {objs2 : List AV} (h : Ent σ σ') (hr : Returns P fn N σ' res objs2) : Returns P fn N σ res objs2 :=
  fun gv e a w ha => hr gv e a w (h.all ha)

section
variable {P : Program} {N : Nat} {σ : Sig} {Φ : Exit → Sig → Prop}
theorem b_range {assign body : Code} {g p0 p1 : Nat} {gf : FuncId} {caps : List AV} {n : Nat} {ev : Nat → Value} (el : Nat → AV) (S : List Nat) (LB : List (Nat × AV)) (LP : Nat → List (Nat × AV)) (G : Nat → Prop)
    (hN : N ≤ INH) (hg : g < N) (hσ : σ g = .fn gf [] caps) (hb : hasBody P gf = true)
    (hit : ∀ β F w v p, Rep β F w (.fn gf [] caps) p v → ∃ lb, v = .func (.func gf) #[] lb ∧ BackIter P gf lb w F n ev)
    (hel : ∀ k, k < n → pureV (el k) = true ∧ ∀ β F w p, Rep β F w (el k) p (ev k)) (hp : p0 < N ∧ p1 < N ∧ p0 ≠ p1)
    (hS : lentB N S = true) (hlend : NrFr (cutS σ) S) (h0 : Ent (lendS S (cutS σ)) (look (LB ++ LP n))) (hG : G n) (hLP : ∀ k, k ≤ n → LpOk N S LB (LP k))
    (round : ∀ k, k < n → G (k + 1) → ACode P N assign (look ((p1, el k) :: (p0, .int .i64 (k : Int)) :: (LB ++ LP (k + 1)))) fun x s => x = .normal ∧
      ACode P N body s fun x s => match x with
        | .normal => Ent s (look (LP k)) ∧ G k
        | .ret => ∃ L, Ent s (look L) ∧ LpOk N S LB L ∧ Φ .ret (endSig S LB L)
        | _ => False)
    (done : G 0 → Φ .normal (endSig S LB (LP 0))) : BCode P N false (.rangeFunc (.tmp g) #[p0, p1] assign body) σ Φ := by
  intro gv e a w hm ⟨hsz, β, F, hk, hi⟩ Q hQ
  have hdf := hm rfl
  have hNL : N ≤ LND := by unfold LND; unfold INH at hN; omega
  -- the iterator's value
  have hgr := hi.rep g
  rw [hσ] at hgr
  obtain ⟨lb, hgv, hiter⟩ := hit _ _ _ _ _ hgr
  have hge : a.eval (.tmp g) = .func (.func gf) #[] lb := by rw [← hgv]; simp [Act.eval, valOf, hg]
  -- the frame's variables are lent
  have hc0 := hi.cutG (gv' := gvL N gv a) (fun i h => gvL_lt h)
  obtain ⟨β1, hl1⟩ := Inv.lend hN (lend_ok hN hS hlend.get) hc0
  obtain ⟨β2, hb2⟩ := h0 _ _ _ _ _ hl1
  have hend : ∀ (D : Nat) (L : List (Nat × AV)) (β' : Place → Option (Nat × Nat)) (F' : Nat → Prop) (W : World), w.heap.size ≤ D → LpOk N S LB L → Inv (Ctx.here w (look (LB ++ LP n)) β2 F []) (look (LB ++ L)) (valOf N (gvL N gv a) a) W β' F' → ¬ F' D → W.heap[D]? = some (.deferred (some [])) →
      AllM N gv e (endSig S LB L) { a with defers := [{ target := .collected D, args := #[] }] } W := fun D L β' F' W hD hL h hFD hWD => by
    have h1 := hb2.unbase h
    have hback : ∀ s ∈ S, noRef (look (LB ++ L) (LND + s)) = true := fun s hs => by rw [look_app_ge hL.base.below (by omega)]; exact hL.nr.get s hs
    obtain ⟨β3, h3⟩ := Inv.unlend hN (unlend_ok hN hS hback) h1
    have h4 := h3.cutG (gv' := gv) (fun i h => (gvL_lt h).symm)
    exact ⟨hsz, β3, F', .inr ⟨D, rfl, hWD, Nat.le_trans hi.grow hD, hFD⟩, h4⟩
  refine (wpIn_wide (n := 2)).1 (wpIn_rangeFunc ?_)
  intro fn hfn
  obtain ⟨rec, hrec⟩ : ∃ rec : LoopState → Option Code → Loop, rec = fun st pe => { state := st, pending := pe, fn, tmps := a.tmps, params := #[p0, p1], assign, body, defers := w.heap.size } := ⟨_, rfl⟩
  obtain ⟨W1, hW1⟩ : ∃ W1, (w.alloc (.deferred (some []))).alloc (.loop (rec .ready none)) = W1 := ⟨_, rfl⟩
  have hL1 : W1.heap[w.heap.size + 1]? = some (.loop (rec .ready none)) := by
    rw [← hW1]; have := World.alloc_heap_new (w.alloc (.deferred (some []))) (.loop (rec .ready none)); rwa [World.size_alloc] at this
  have hK1 : W1.heap[w.heap.size]? = some (.deferred (some [])) := by
    rw [← hW1, heap_alloc_lt (by simp)]; exact World.alloc_heap_new w _
  -- between two rounds
  obtain ⟨I, hI⟩ : ∃ I : List (Nat × AV) → LoopState → Option Code → World → Prop, I = fun L st pe W => ∃ β' F', Inv (Ctx.here w (look (LB ++ LP n)) β2 F []) (look (LB ++ L)) (valOf N (gvL N gv a) a) W β' F' ∧ (∀ b, F b → F' b) ∧ ¬ F' w.heap.size ∧ ¬ F' (w.heap.size + 1) ∧
      W.heap[w.heap.size + 1]? = some (.loop (rec st pe)) ∧ W.heap[w.heap.size]? = some (.deferred (some [])) ∧ (∀ b, F b → W.heap[b]? = w.heap[b]?) := ⟨_, rfl⟩
  have hFn : ∀ b, F b → b < w.heap.size := fun b hb => (hi.fr b hb).1
  have hI0 : I (LP n) .ready none W1 := by
    rw [hI]
    have h1 := (hb2.here []).alloc (.deferred (some [])) (fun _ _ _ h => by cases h)
    have h2 := h1.alloc (.loop (rec .ready none)) (fun _ _ _ h => by cases h)
    rw [hW1] at h2
    refine ⟨β2, F, h2, fun b hb => hb, fun h => by have := hFn _ h; omega, fun h => by have := hFn _ h; omega, hL1, hK1, fun b hb => ?_⟩
    rw [← hW1, heap_alloc_lt (by simp; have := hFn b hb; omega), heap_alloc_lt (hFn b hb)]
  refine ⟨w.heap.size + 1, [{ target := .collected w.heap.size, args := #[] }], W1, { target := .fn (.func gf) lb, args := #[.func (.yield (w.heap.size + 1)) #[] #[]] }, W1, gf,
    #[.func (.yield (w.heap.size + 1)) #[] #[]] ++ lb, W1, ?_, ?_, fun _ _ => trivial, ?_, fun h => by simp [Fence.wide] at h, ?_⟩
  · rw [← hW1, hrec]; exact run_enterLoop_outer _ _ _ _ _
  · simp only [resolve, hge]
    simp [go_sem]
  · simp [invoke, go_sem, run_callFunc_body hb]
  · refine callsIn_wide.2 ((hiter (w.heap.size + 1) (fun k W => G k ∧ k ≤ n ∧ I (LP k) .ready none W) (fun W => ∃ L, LpOk N S LB L ∧ Φ .ret (endSig S LB L) ∧ I L .done (some .ret) W)
      (fun k W ⟨_, _, h⟩ b hb => by rw [hI] at h; obtain ⟨_, _, _, _, _, _, _, _, h⟩ := h; exact h b hb) (fun k W hk ⟨hGk, hkn, hIk⟩ m => ?_) W1 ⟨hG, Nat.le_refl _, hI0⟩).mono ?_)
    · -- one round
      have hIk0 := hIk
      rw [hI] at hIk
      obtain ⟨β3, F3, h3, hF3, hD3, hl3, hrl, hrd, hkp3⟩ := hIk
      have hltD : w.heap.size < W.heap.size := (Array.getElem?_eq_some_iff.1 hrd).1
      have hltl : w.heap.size + 1 < W.heap.size := (Array.getElem?_eq_some_iff.1 hrl).1
      have hy := run_yield (P := P) (args := #[.int .i64 (k : Int), ev k]) hrl (by rw [hrec]; rfl)
      rw [hrec] at hy
      refine ⟨fn, _, assign, body, hy, roundIn_of_wpIn hfn ?_⟩
      have htm : ((#[p0, p1] : Array Tmp).zip #[.int .i64 (k : Int), ev k]).foldl (fun t (p, v) => t.setIfInBounds p v) a.tmps = (a.tmps.setIfInBounds p0 (.int .i64 (k : Int))).setIfInBounds p1 (ev k) := by simp
      dsimp only
      rw [htm]
      obtain ⟨ar, har⟩ : ∃ ar : Act, ar = { tmps := (a.tmps.setIfInBounds p0 (.int .i64 (k : Int))).setIfInBounds p1 (ev k), defers := [] } := ⟨_, rfl⟩
      rw [← har]
      have har0 : ar = ({ a with defers := [] }.put (some p0) (.int .i64 (k : Int))).put (some p1) (ev k) := har
      have hszr : ar.tmps.size = N := by rw [har]; simp [hsz]
      have hval : valOf N (gvL N gv a) ar = upd (upd (valOf N (gvL N gv a) a) p0 (.int .i64 (k : Int))) p1 (ev k) := by
        rw [har0, valOf_put (by rw [size_put]; exact hsz) hp.2.1, valOf_put (a := { a with defers := [] }) hsz hp.1]; rfl
      have hst : Inv (Ctx.here w (look (LB ++ LP n)) β2 F []) (look ((p1, el k) :: (p0, .int .i64 (k : Int)) :: (LB ++ LP (k + 1)))) (valOf N (gvL N gv a) ar) W β3 F3 := by
        rw [hval]
        exact (h3.set p0 (by simp [Rep]) (noOwn_scalar rfl)).set p1 ((hel k hk).2 _ _ _ _) (fun r y hy => pure_own (hel k hk).1 hy)
      refine round k hk hGk (gvL N gv a) (Ctx.here W _ β3 F3 []) ar W ⟨by rw [har]; rfl, hszr, β3, F3, hst.here []⟩ _ (fun x a1 w1 s1 hx ha1 => ?_) (some (w.heap.size + 1)) m
      obtain ⟨rfl, hbody⟩ := hx
      obtain ⟨hdf1, hsz1, β4, F4, h4⟩ := ha1
      have h4u := hst.unionF h4
      have hrl4 := hst.kept_other h4 hrl trivial
      have hrd4 := hst.kept_other h4 hrd trivial
      have hu4 := hst.unbase h4u
      have hl4 : ¬ (F4 (w.heap.size + 1) ∨ F3 (w.heap.size + 1)) := fun h => h.elim (here_fr h4 hltl hl3) hl3
      have hD4 : ¬ (F4 w.heap.size ∨ F3 w.heap.size) := fun h => h.elim (here_fr h4 hltD hD3) hD3
      refine ⟨_, run_beginRound hrl4 (by rw [hrec]), ?_⟩
      obtain ⟨w2, hw2⟩ : ∃ w2, w2 = w1.putObj (w.heap.size + 1) (.loop { rec .ready none with state := .busy }) := ⟨_, rfl⟩
      rw [← hw2]
      have hlt1 : w.heap.size + 1 < w1.heap.size := (Array.getElem?_eq_some_iff.1 hrl4).1
      have hu5 : Inv (Ctx.here w (look (LB ++ LP n)) β2 F []) s1 (valOf N (gvL N gv a) a1) w2 β4 (fun b => F4 b ∨ F3 b) := by
        rw [hw2]; exact hu4.putObj hrl4 trivial trivial hl4 (by show w.heap.size ≤ _; omega)
      have hrl5 : w2.heap[w.heap.size + 1]? = some (.loop { rec .ready none with state := .busy }) := by rw [hw2]; exact World.putObj_heap_same hlt1
      have hrd5 : w2.heap[w.heap.size]? = some (.deferred (some [])) := by rw [hw2]; exact (World.putObj_heap_other (by omega)).trans hrd4
      have hlt2 : w.heap.size + 1 < w2.heap.size := (Array.getElem?_eq_some_iff.1 hrl5).1
      refine hbody (gvL N gv a) (Ctx.here w2 _ β4 (fun b => F4 b ∨ F3 b) []) a1 w2 ⟨hdf1, hsz1, β4, _, hu5.here []⟩ _ (fun x a3 w3 s3 hx ha3 => ?_) (some (w.heap.size + 1)) m
      obtain ⟨hdf3, hsz3, β6, F6, h6⟩ := ha3
      have hrl6 := hu5.kept_other h6 hrl5 trivial
      have hrd6 := hu5.kept_other h6 hrd5 trivial
      have hkk : ∀ b, F3 b → w3.heap[b]? = W.heap[b]? := fun b hb => by
        have e1 := hst.kept_fr h4 hb
        have e3 := hu5.kept_fr h6 (b := b) (.inr hb)
        have hne : b ≠ w.heap.size + 1 := fun h => by subst h; exact hl3 hb
        have e2 : w2.heap[b]? = w1.heap[b]? := by rw [hw2]; exact World.putObj_heap_other hne
        exact e3.trans (e2.trans e1)
      have fin : ∀ (st : LoopState) (jump : Option Code) (L : List (Nat × AV)), LpOk N S LB L → Ent s3 (look L) → I L st jump (w3.putObj (w.heap.size + 1) (.loop (rec st jump))) := fun st jump L hL hent => by
        obtain ⟨β7, h7⟩ := hent _ _ _ _ _ h6
        have h7u := hu5.unionF h7
        have h8 := hu5.unbase h7u
        have hl8 : ¬ (F6 (w.heap.size + 1) ∨ F4 (w.heap.size + 1) ∨ F3 (w.heap.size + 1)) := fun h => h.elim (here_fr h6 hlt2 hl4) hl4
        have hD8 : ¬ (F6 w.heap.size ∨ F4 w.heap.size ∨ F3 w.heap.size) := fun h => h.elim (here_fr h6 (by omega) hD4) hD4
        have h9 := Inv.reframe hN (hLP (k + 1) hk).base hL.base (hLP (k + 1) hk).keys hL.keys h3 h8 (fun b hb => ⟨.inr (.inr hb), hkk b hb⟩)
        have hlt3 : w.heap.size + 1 < w3.heap.size := (Array.getElem?_eq_some_iff.1 hrl6).1
        rw [hI]
        refine ⟨β7, _, h9.putObj hrl6 trivial trivial hl8 (by show w.heap.size ≤ _; omega), fun b hb => .inr (.inr (hF3 b hb)), hD8, hl8, World.putObj_heap_same hlt3, (World.putObj_heap_other (by omega)).trans hrd6, fun b hb => ?_⟩
        have hne : b ≠ w.heap.size + 1 := fun h => by subst h; have := hFn _ hb; omega
        exact (World.putObj_heap_other hne).trans ((hkk b (hF3 b hb)).trans (hkp3 b hb))
      have erun : ∀ jump : Option Code, (Instr.endRound (w.heap.size + 1) jump).run P w3 = .ok (.bool jump.isNone) (w3.putObj (w.heap.size + 1) (.loop (rec (if jump.isNone then .ready else .done) jump))) := fun jump => by
        have := run_endRound (P := P) jump hrl6
        rw [hrec] at this ⊢
        exact this
      cases x with
      | normal =>
        obtain ⟨hent, hG'⟩ := hx
        exact ⟨_, _, erun none, .inl ⟨rfl, hG', by omega, fin .ready none (LP k) (hLP k (by omega)) hent⟩⟩
      | ret =>
        obtain ⟨L, hent, hL, hΦ⟩ := hx
        exact ⟨_, _, erun (some .ret), .inr ⟨rfl, L, hL, hΦ, fin .done (some .ret) L hL hent⟩⟩
      | exit id => exact hx.elim
      | goto t => exact hx.elim
      | panic ch => exact hx.elim
      | outgrown => exact hx.elim
    · -- behind the iterator
      have close : ∀ (st : LoopState) (pe : Option Code) (L : List (Nat × AV)) (W : World), st ≠ .busy → LpOk N S LB L → I L st pe W → ∃ W', (Instr.endLoop (w.heap.size + 1)).run P W = .ok pe W' ∧ AllM N gv e (endSig S LB L) { a with defers := [{ target := .collected w.heap.size, args := #[] }] ++ a.defers } W' := fun st pe L W hst hL h => by
        rw [hI] at h
        obtain ⟨β3, F3, h3, hF3, hD3, hl3, hrl, hrd, _⟩ := h
        have hlt : w.heap.size + 1 < W.heap.size := (Array.getElem?_eq_some_iff.1 hrl).1
        have := run_endLoop (P := P) hrl (by rw [hrec]; exact hst)
        rw [hrec] at this
        refine ⟨_, this, ?_⟩
        rw [hdf]
        have h4 := h3.putObj hrl (o' := .loop { rec st pe with state := .exhausted }) trivial trivial hl3 (by show w.heap.size ≤ _; omega)
        rw [hrec] at h4
        exact hend _ L _ _ _ (Nat.le_refl _) hL h4 hD3 ((World.putObj_heap_other (by omega)).trans hrd)
      rintro en W2 ⟨⟨v, rfl⟩, (⟨hG0, _, h⟩ | ⟨L, hL, hΦ, h⟩)⟩
      · obtain ⟨W', h1, h2⟩ := close _ _ _ _ (by simp) (hLP 0 (Nat.zero_le _)) h
        exact ⟨none, W', h1, hQ _ _ _ _ (done hG0) h2⟩
      · obtain ⟨W', h1, h2⟩ := close _ _ _ _ (by simp) hL h
        exact ⟨some .ret, W', h1, wpIn_ret (hQ _ _ _ _ hΦ h2)⟩
end
end Go.Av
namespace Go.Av
open Go
section
variable {P : Program} {N : Nat} {A : Bool} {σ : Sig} {ty : TypeId} {x : Operand}
theorem q_boxZ {t : Nat} {v : AV} (hx : RdTo N A σ x v) (hb : boxable v = true) (hp : pureL (cellsOf v) = true) : QSem P N A (.box t x) ty σ (slots x) (.pp (shL (cellsOf v)) 0) := by
  intro hA σ' hD gv e a w β F hi d o ho hty K Q hK
  have ex := hx.rep hA hD hi (0, [])
  obtain ⟨hl, hr⟩ := cells_of ex hb hp
  obtain ⟨β', h'⟩ := hi.new_op hl hr hp t d
  have hfz := h'.freeze (fun r y b s hy hyo hb => by
    cases r with
    | nil =>
      have hrep := h'.rep d
      rw [upd_same, upd_same] at hrep
      simp only [Rep] at hrep
      obtain ⟨_, b', _, _, h1, h2, _⟩ := hrep
      rw [h1] at hb; cases hb
      simp only [Value.pointer.injEq, Option.some.injEq, Addr.mk.injEq] at h2
      have := hi.grow
      omega
    | cons j r =>
      simp only [node, kids] at hy
      cases hc : (cellsOf v)[j]? with
      | none => rw [hc] at hy; cases hy
      | some c =>
        rw [hc] at hy
        rw [pure_own (pureL_mem hp (List.mem_of_getElem? hc)) hy] at hyo; cases hyo)
  refine wp_value (v := .pointer (some ⟨w.heap.size, 0, none⟩)) (w' := w.alloc (.cells (a.eval x).cells t)) ?_ (hK _ _ ⟨β', _, by simpa [sh] using hfz⟩)
  simp [execOp, ho, Instr.box, newVar, newRow]
end
end Go.Av
namespace Go.Av
open Go
section
variable {P : Program} {N : Nat} {A : Bool} {σ : Sig} {ty : TypeId} {x : Operand}
/-- A slice literal of one element, frozen; the element may stand under a guard. -/
theorem q_sliceLit1Z {t sz : Nat} {zs cs : List AV} {v : AV} (hx : RdTo N A σ x v) (hno : NoOwn v) (h : litTy P t = some (sz, zs)) (hsm : Nat.ble (1 * sz) 16777216 = true)
    (hf : fillA (fun i => some (i * sz, sz)) (rep 1 zs) [(0, v)] = some cs) (hl : Nat.beq cs.length (1 * sz) = true) (hp : pureL cs = true) :
    QSem P N A (sliceLit t 1 [(0, x)]) ty σ (slotsL [x]) (.sl (shL cs) 1) := by
  intro hA σ' hD gv e a w β F hi d o ho hty K Q hK
  obtain ⟨el, arr0, harr, hrun⟩ := run_lit h (Nat.le_of_ble_eq_true hsm)
  have ex := hx.rep hA (fun i hi' => hD i (by simpa [slotsL] using hi')) hi (0, [])
  obtain ⟨cells, he, hc1, hc2, hc3⟩ := fill_spec (β := β) (F := F) (w := w) [(0, v)] [(0, a.eval x)] _ arr0 cs (harr β F w) (by simp)
      (fun j i u hj => by
        cases j with
        | zero => simp at hj; obtain ⟨rfl, rfl⟩ := hj; exact ⟨hno, a.eval x, (0, []), rfl, ex⟩
        | succ j => simp at hj) hf
  have hr := hrun [(0, a.eval x)].toArray cells w (by simpa using he)
  obtain ⟨β', h'⟩ := hi.new_osl (us := cells.toList) (by simpa using hc1) hc3 hp el d (arr := cells) (sz := sz) (n := 1) (capv := 1) (cap := some 1) (fun j x hx => hx) (by rw [hc1]; exact Nat.eq_of_beq_eq_true hl) (Nat.le_refl _) (fun c hc => by cases hc; rfl)
  have hfz := h'.freeze (fun r y b s hy hyo hb => by
    cases r with
    | nil =>
      have hrep := h'.rep d
      rw [upd_same, upd_same] at hrep
      simp only [Rep] at hrep
      rcases hrep with ⟨h1, _⟩ | ⟨_, b', _, _, _, h1, h2, _⟩
      · rw [h1] at hb; cases hb
      · rw [h1] at hb; cases hb
        simp only [Value.slice.injEq, Option.some.injEq, Addr.mk.injEq] at h2
        have := hi.grow
        omega
    | cons j r =>
      simp only [node, kids] at hy
      cases hc : cs[j]? with
      | none => rw [hc] at hy; cases hy
      | some c =>
        rw [hc] at hy
        rw [pure_own (pureL_mem hp (List.mem_of_getElem? hc)) hy] at hyo; cases hyo)
  refine wp_value (v := .slice (some ⟨w.heap.size, 0, none⟩) 1 1) (w' := w.alloc (.cells cells el)) ?_ (hK _ _ ⟨β', _, hfz⟩)
  simp only [execOp, ho, sliceLit, List.map_toArray, List.map_cons, List.map_nil, hr, Sem.run_bind, Sem.run_pure, Result.andThen_ok]
end
end Go.Av
namespace Go.Av
open Go Go.Sort
def trP (xs : List TN) (k : Nat) : List (List Int) := (trI xs k).getD []
def trQ (xs : List TN) (k : Nat) : List (List Int) := (trS xs k).getD []
section
variable {vars m : Int} {xs : List TN} {k : Nat}
theorem tr_get (h : (trI xs k).isSome = true) : trI xs k = some (trP xs k) := by
  unfold trP; cases he : trI xs k with
  | none => rw [he] at h; cases h
  | some P => rfl
theorem tr_ok (hv : 0 ≤ vars ∧ vars ≤ 12) (ha : allN vars m xs = true) (h : (trI xs k).isSome = true) : PathsOk vars xs (trP xs k) := trI_ok hv ha (tr_get h)
theorem tr_next (hk : k < xs.length) (h : (trI xs (k + 1)).isSome = true) : trI xs k = stepI xs k (trP xs (k + 1)) := by rw [trI_step hk, tr_get h]; rfl
theorem tr_top (xs : List TN) : trP xs xs.length = List.replicate xs.length [] := by unfold trP; rw [trI_top]; rfl
theorem tr_none (hk : k < xs.length) (h : (trI xs (k + 1)).isSome = true) (hs : stepI xs k (trP xs (k + 1)) = none) : (trI xs 0).isSome = false := by
  rw [trI_none (k := k) (by omega) (by rw [tr_next hk h, hs])]; rfl
theorem tr_unseen (hk : k < xs.length) (h : (trI xs (k + 1)).isSome = true) (hs : seenB xs (k + 1) k = false) : (trI xs 0).isSome = false :=
  tr_none hk h (by unfold stepI; rw [if_pos hs])
theorem tr_leaf (hk : k < xs.length) (h : (trI xs (k + 1)).isSome = true) (hs : seenB xs (k + 1) k = true) (hv : nV xs k = 0) : trP xs k = trP xs (k + 1) ∧ (trI xs k).isSome = true := by
  have e : trI xs k = some (trP xs (k + 1)) := by rw [tr_next hk h]; unfold stepI; rw [hs, if_neg (by simp), if_pos hv]
  exact ⟨by unfold trP; rw [e]; rfl, by rw [e]; rfl⟩
theorem tr_bad (hk : k < xs.length) (h : (trI xs (k + 1)).isSome = true) (hv : nV xs k ≠ 0)
    (hb : (seenB xs (k + 1) (nLo xs k) || seenB xs (k + 1) (nHi xs k) || trOn xs k (trP xs (k + 1))) = true) : (trI xs 0).isSome = false :=
  tr_none hk h (by unfold stepI; rw [if_neg hv, if_pos hb]; split <;> rfl)
theorem tr_good (hk : k < xs.length) (h : (trI xs (k + 1)).isSome = true) (hs : seenB xs (k + 1) k = true) (hv : nV xs k ≠ 0)
    (hb : (seenB xs (k + 1) (nLo xs k) || seenB xs (k + 1) (nHi xs k) || trOn xs k (trP xs (k + 1))) = false) : trP xs k = trPut xs k (trP xs (k + 1)) ∧ (trI xs k).isSome = true := by
  have e : trI xs k = some (trPut xs k (trP xs (k + 1))) := by rw [tr_next hk h]; unfold stepI; rw [hs, if_neg (by simp), if_neg hv, hb]; rfl
  exact ⟨by unfold trP; rw [e]; rfl, by rw [e]; rfl⟩
theorem ts_get (h : (trS xs k).isSome = true) : trS xs k = some (trQ xs k) := by
  unfold trQ; cases he : trS xs k with
  | none => rw [he] at h; cases h
  | some P => rfl
theorem ts_ok (hv : 0 ≤ vars ∧ vars ≤ 12) (ha : allN vars m xs = true) (h : (trS xs k).isSome = true) : PathsOk vars xs (trQ xs k) := trS_ok hv ha (ts_get h)
theorem ts_next (hk : k < xs.length) (h : (trS xs (k + 1)).isSome = true) : trS xs k = stepP xs k (trQ xs (k + 1)) := by rw [trS_step hk, ts_get h]; rfl
theorem ts_top (xs : List TN) : trQ xs xs.length = List.replicate xs.length [] := by unfold trQ; rw [trS_top]; rfl
theorem ts_leaf (hk : k < xs.length) (h : (trS xs (k + 1)).isSome = true) (hv : nV xs k = 0) : trQ xs k = trQ xs (k + 1) ∧ (trS xs k).isSome = true := by
  have e : trS xs k = some (trQ xs (k + 1)) := by rw [ts_next hk h]; unfold stepP; rw [if_pos hv]
  exact ⟨by unfold trQ; rw [e]; rfl, by rw [e]; rfl⟩
theorem ts_bad (hk : k < xs.length) (h : (trS xs (k + 1)).isSome = true) (hv : nV xs k ≠ 0) (hb : trOn xs k (trQ xs (k + 1)) = true) : (trS xs 0).isSome = false := by
  rw [trS_none (k := k) (by omega) (by rw [ts_next hk h]; unfold stepP; rw [if_neg hv, if_pos hb])]; rfl
theorem ts_good (hk : k < xs.length) (h : (trS xs (k + 1)).isSome = true) (hv : nV xs k ≠ 0) (hb : trOn xs k (trQ xs (k + 1)) = false) : trQ xs k = trPut xs k (trQ xs (k + 1)) ∧ (trS xs k).isSome = true := by
  have e : trS xs k = some (trPut xs k (trQ xs (k + 1))) := by rw [ts_next hk h]; unfold stepP; rw [if_neg hv, hb]; rfl
  exact ⟨by unfold trQ; rw [e]; rfl, by rw [e]; rfl⟩
theorem tr_isSome (ha : allN vars m xs = true) (h0 : 0 < xs.length) : (trI xs 0).isSome = (onceB xs && (trS xs 0).isSome) := by
  rw [trI_eq ha h0]; cases onceB xs <;> rfl
theorem tr_val (ha : allN vars m xs = true) (h0 : 0 < xs.length) (h : (trI xs 0).isSome = true) : trP xs 0 = trQ xs 0 := by
  have h1 := h
  rw [tr_isSome ha h0] at h1
  simp only [Bool.and_eq_true] at h1
  unfold trP trQ; rw [trI_eq ha h0, if_pos h1.1]
end
theorem ded_on {p : List Int} {v : Int} (hv : 1 ≤ v) : decide (v ∈ dedN (insertionSort (fun x y : Int => decide (x < y)) (p.map fun x => max x (-x)).toArray 0 (p.map fun x => max x (-x)).length) (p.map fun x => max x (-x)).length) = (decide (v ∈ p) || decide (-v ∈ p)) := by
  have h := (ins_facts (p.map fun x => max x (-x))).1 v
  rw [Bool.eq_iff_iff]
  simp only [decide_eq_true_eq, Bool.or_eq_true]
  rw [h, List.mem_map]
  constructor
  · rintro ⟨x, hx, he⟩
    by_cases h2 : x = v
    · exact .inl (h2 ▸ hx)
    · have : x = -v := by omega
      exact .inr (this ▸ hx)
  · rintro (hx | hx)
    · exact ⟨v, hx, by omega⟩
    · exact ⟨-v, hx, by omega⟩
theorem ded_few9 {p : List Int} (h : p.length ≤ 12) : (dedN (insertionSort (fun x y : Int => decide (x < y)) (p.map fun x => max x (-x)).toArray 0 (p.map fun x => max x (-x)).length) (p.map fun x => max x (-x)).length).length ≤ 1048576 :=
  Nat.le_trans (dedN_le _ _) (by simp; omega)
theorem weakL_nils : ∀ (n : Nat), WeakL (rep n [.nils]) (rep n [.sl [] 0])
  | 0 => trivial
  | n + 1 => by
    have e1 : rep (n + 1) [AV.nils] = .nils :: rep n [.nils] := by simp [rep, List.replicate_succ]
    have e2 : rep (n + 1) [AV.sl [] 0] = .sl [] 0 :: rep n [.sl [] 0] := by simp [rep, List.replicate_succ]
    rw [e1, e2]; exact ⟨Weak.nils_sl, weakL_nils n⟩
theorem weak_rows {n : Nat} {cap : Option Nat} : Weak (.osl 1 (rep n [.nils]) n cap) (.osl 1 (sls (List.replicate n [])) n none) := by
  rw [rep_nils]
  exact Weak.oslL (weakL_nils n) (by rw [← rep_nils]; exact noRefL_pure _ (sls_pureL _)) rfl
theorem nr_rows {L : List (List Int)} {n : Nat} {cap : Option Nat} : noRef (.op [.osl 1 (sls L) n cap]) = true := by simp [noRef, noRefL, sls_noRef]
theorem nr_bools {B : List Bool} {n : Nat} {cap : Option Nat} : noRef (.op [.osl 1 (blcells B) n cap]) = true := by simp [noRef, noRefL, bl_noRef]
end Go.Av
namespace Go.Av
open Go
/-- The paths; none where a test fails. -/
def pthL (xs : List TN) : List (List Int) := trP xs 0
theorem pth_none {xs : List TN} (h : (trI xs 0).isSome = false) : pthL xs = [] := by
  unfold pthL trP; cases he : trI xs 0 with
  | none => rfl
  | some P => rw [he] at h; cases h
end Go.Av
namespace Go.Proofs
open Go.RowKit Go.Shelf
attribute [local go_sem] Oper.semAt_some
set_option maxRecDepth 100000 in
set_option maxHeartbeats 2000000 in
theorem back_loop (F : Fence) (n : Nat) (h7 : F.fn 49) (hro : F.round = none) (hn : 1 ≤ n) (l Bs Bo b off len cap : Nat) (f0 f1 f2 f3 : Nat → Int) (hreach : len ≤ 1000000) (J : Nat → World → Prop) (Jx : World → Prop)
    (hBs : ∀ k W, J k W → W.cell? ⟨Bs, Bo, none⟩ = some (.slice (some ⟨b, off, none⟩) len cap))
    (hc : ∀ k W, J k W → ∀ j, j < len → W.cell? ⟨b, off + j * 4, none⟩ = some (.int .i64 (f0 j)) ∧ W.cell? ⟨b, off + j * 4 + 1, none⟩ = some (.int .i64 (f1 j)) ∧ W.cell? ⟨b, off + j * 4 + 2, none⟩ = some (.int .i64 (f2 j)) ∧ W.cell? ⟨b, off + j * 4 + 3, none⟩ = some (.int .i64 (f3 j)))
    (hY : ∀ k W, k < len → J (k + 1) W → YieldAt F (n - 1) Try.prog l #[.int .i64 (k : Int), .agg #[.int .i64 (f0 k), .int .i64 (f1 k), .int .i64 (f2 k), .int .i64 (f3 k)]] W fun e W' =>
      (e = .returned (.bool true) ∧ J k W') ∨ (e = .returned (.bool false) ∧ Jx W'))
    (W : World) (h0 : J len W) :
    CallsIn F n Try.prog 49 #[.func (.yield l) #[] #[], .pointer (some ⟨Bs, Bo, none⟩)] W fun e W' => (∃ v, e = .returned v) ∧ (J 0 W' ∨ Jx W') := by
  refine callsIn_of_wp Try.func49 rfl h7 ?_ hro
  simp only [Try.ntmps49, List.size_toArray, List.length_cons, List.length_nil, Nat.reduceAdd, Nat.reduceSub, Array.replicate_succ, Array.replicate_zero, List.push_toArray, List.append_toArray, List.nil_append, List.cons_append]
  have hB0 := hBs _ _ h0
  gi_wp2
  gi_loopw [3] (fun i wr => ∃ k : Nat, k ≤ len ∧ i = .int .i64 ((k : Int) - 1) ∧ J k wr)
    (fun i _ => (intOf i + 1).toNat)
  case atStart => exact ⟨len, Nat.le_refl _, rfl, h0⟩
  case round =>
    obtain ⟨k, hk, rfl, hJs⟩ := hrel
    by_cases hlt : 0 < k
    · obtain ⟨m, rfl⟩ : ∃ m, k = m + 1 := ⟨k - 1, by omega⟩
      obtain ⟨fn, tmps, assign, body, hy, hR⟩ := hY m wr (by omega) hJs
      have hBk := hBs _ _ hJs
      obtain ⟨c0, c1, c2, c3⟩ := hc _ _ hJs m (by omega)
      gi_wp2
      refine hR.mono ?_
      rintro e W3 (⟨rfl, hJ3⟩ | ⟨rfl, hJx3⟩)
      · gi_wp2
        go_roundw
        case rel => exact ⟨m, by omega, by simp, hJ3⟩
        case measure => simp [intOf]
      · gi_wp2
        refine bodyPost_ret (results_none rfl _ _ _) rfl ?_
        exact ⟨⟨_, rfl⟩, .inr hJx3⟩
    · obtain rfl : k = 0 := by omega
      gi_wp2
      go_end0
      exact ⟨⟨_, rfl⟩, .inl hJs⟩
end Go.Proofs
namespace Go.Av
open Go Go.Proofs
theorem repL_at {β : Place → Option (Nat × Nat)} {F : Nat → Prop} {w : World} {cs : List AV} {p : Place} {vs : List Value} (h : RepL β F w cs p 0 vs) {i : Nat} {n : Int} (hi : cs[i]? = some (.int .i64 n)) : vs[i]? = some (.int .i64 n) := by
  obtain ⟨u, hu, hr⟩ := RepL_iff.1 h i _ hi
  simp only [Rep] at hr
  rw [hu, hr]
theorem back_it {xs : List TN} (h0 : 0 < xs.length) (hl : xs.length ≤ 1000000) (β : Place → Option (Nat × Nat)) (F : Nat → Prop) (w : World) (v : Value) (p : Place) (h : Rep β F w (.fn 49 [] [.pp [.sl (tncells xs) xs.length] 0]) p v) :
    ∃ lb, v = .func (.func 49) #[] lb ∧ BackIter Try.prog 49 lb w F xs.length (fun k => tnv (gn xs k)) := by
  simp only [Rep] at h
  obtain ⟨us, vs, rfl, hu, hv, _, _, _, h⟩ := h
  obtain rfl : us = [] := by simpa using hu
  obtain ⟨vp, rfl⟩ : ∃ vp, vs = [vp] := by
    match vs, hv with
    | [x], _ => exact ⟨x, rfl⟩
  simp only [RepL, Rep] at h
  obtain ⟨⟨_, b, o, arr, t, fz, rfl, hFb, hh, hr⟩, _⟩ := h
  refine ⟨_, rfl, ?_⟩
  cases hd : arr.toList.drop o with
  | nil => rw [hd] at hr; simp [RepL] at hr
  | cons sv rest =>
    rw [hd] at hr
    simp only [RepL, Rep] at hr
    obtain ⟨⟨_, a, cap, rfl, hn, hc⟩, _⟩ := hr
    obtain ⟨b2, off, arr2, t2, fz2, rfl, hF2, hh2, hr2⟩ := hc (by intro h; have := tncells_length xs; rw [h] at this; simp at this; omega)
    intro l J Jx hFz hY W hJ
    have hs : arr[o]? = some (.slice (some ⟨b2, off, none⟩) xs.length cap) := by
      have : (arr.toList.drop o)[0]? = some (.slice (some ⟨b2, off, none⟩) xs.length cap) := by rw [hd]; rfl
      simpa using this
    have e1 : ∀ k W, J k W → W.heap[b]? = some (.cells arr t fz) := fun k W h => (hFz k W h b hFb).trans hh
    have e2 : ∀ k W, J k W → W.heap[b2]? = some (.cells arr2 t2 fz2) := fun k W h => (hFz k W h b2 hF2).trans hh2
    have hg : ∀ (i : Nat) (n : Int), (tncells xs)[i]? = some (.int .i64 n) → ∀ k W, J k W → W.cell? ⟨b2, off + i, none⟩ = some (.int .i64 n) := fun i n hi k W h => by
      have := repL_at hr2 hi
      rw [List.getElem?_drop] at this
      simp only [World.cell?, e2 k W h]
      simpa using this
    refine callsIn_wide.1 (Go.Proofs.back_loop Fence.wide 1 trivial rfl (Nat.le_refl _) l b (o + 0) b2 off xs.length cap (fun k => (gn xs k).1) (fun k => (gn xs k).2.1) (fun k => (gn xs k).2.2.1) (fun k => (gn xs k).2.2.2) hl J Jx
      (fun k W h => by simp only [World.cell?, e1 k W h]; simpa using hs) (fun k W h j hj => ?_) (fun k W hk h => hY k W hk h _) W hJ)
    obtain ⟨g0, g1, g2, g3⟩ := tncells_get hj
    exact ⟨hg _ _ g0 k W h, hg _ _ g1 k W h, hg _ _ g2 k W h, hg _ _ g3 k W h⟩
end Go.Av
namespace Go.Av
open Go Go.Proofs Go.Sort
set_option maxRecDepth 10000



end Go.Av
namespace Go.Av
open Go Go.Proofs Go.Sort
set_option maxRecDepth 10000
theorem es62 : elemSize Try.prog 62 = some 1 := by kernel_rfl
theorem hb37 : hasBody Try.prog 37 = true := by kernel_rfl
theorem hb38 : hasBody Try.prog 38 = true := by kernel_rfl
theorem hb39 : hasBody Try.prog 39 = true := by kernel_rfl
theorem hb40 : hasBody Try.prog 40 = true := by kernel_rfl
theorem hb49 : hasBody Try.prog 49 = true := by kernel_rfl
theorem lt22 : litTy Try.prog 22 = some (1, [.nils]) := by kernel_rfl
theorem sb4 : (Try.prog.info? 4).map (fun i => (i.size, i.bytes)) = some (1, 1) := by kernel_rfl
theorem ta4 : tyAgg Try.prog 4 = some (false, 1) := by kernel_rfl
theorem ta62 : tyAgg Try.prog 62 = some (false, 1) := by kernel_rfl
theorem us62 : Try.prog.underlying 62 = some (.slice 4) := by kernel_rfl
theorem zc22 : zeroCells Try.prog 22 = some [.nils] := by kernel_rfl
theorem zc4 : zeroCells Try.prog 4 = some [.bool false] := by kernel_rfl
theorem zc62 : zeroCells Try.prog 62 = some [.nils] := by kernel_rfl

theorem back_c (xs : List TN) : ACall Try.prog 37 [.sl (tncells xs) xs.length] [] (.fn 49 [] [.pp [.sl (tncells xs) xs.length] 0]) [] := by
  refine ACall.intro Try.func37 rfl (N := 4) rfl (by decide) (by simp) ?_
  refine a_seq ?_
  refine a_region ?_
  refine r_new (v := .pp _ _) (QSem.cast (q_boxZ (.inl rfl) rfl rfl) (rfl)) rfl rfl (by decide) ?_
  refine r_val (v := .undef) (v_assign (.inl rfl) (noOwn_flat rfl)) rfl rfl (by decide) ?_
  refine r_nil ?_
  refine a_seq ?_
  refine a_region ?_
  refine r_val (v := .fn _ _ _) (v_makeFunc (first := []) (caps := [.tmp 1]) rfl rfl) rfl rfl (by decide) ?_
  refine r_val (v := .fn _ _ _) (v_as rfl) rfl rfl (by decide) ?_
  refine r_nil ?_
  refine a_ret ?_
  refine ret1 Try.results37 (by decide) (by decide) (Weak.of_eq ?_) rfl Leaves.nil
  rfl

theorem iPaths_c (vars m : Int) (xs : List TN) (hv : 0 ≤ vars ∧ vars ≤ 12) (h0 : 0 < xs.length) (hl : xs.length ≤ 199) (ha : allN vars m xs = true) : ACall Try.prog 24 [.sl (tncells xs) xs.length] [] (.tup [.osl 1 (sls (pthL xs)) (pthL xs).length none, .bool (trI xs 0).isSome]) [] := by
  refine BCall.intro Try.func24 rfl (N := 86) rfl (by decide) (by simp) ?_
  refine b_seqA ?_
  refine a_region ?_
  refine r_new (v := .op [.nils]) (q_alloc zc22) rfl rfl (by decide) ?_
  refine r_new (v := .op [.bool _]) (q_alloc zc4) rfl rfl (by decide) ?_
  refine r_nil ?_
  refine b_seqA ?_
  refine a_region ?_
  refine r_val (v := .sl _ _) (v_move (.inl rfl) (noOwn_flat rfl)) rfl rfl (by decide) ?_
  refine r_val (v := .int _ _) (v_len_sl sl33 (.inl rfl)) rfl rfl (by decide) ?_
  refine r_new (v := .osl _ _ _ _) (q_makeSlice us22 sb28 zc28 rfl (by decide) (.inl rfl) (.inl rfl) (fun _ => by omega)) rfl rfl (by decide) ?_
  refine r_new (v := .op [.nils]) (q_alloc zc22) rfl rfl (by decide) ?_
  refine r_pre (ent_eq (t := 10) (v' := .osl 1 (sls (List.replicate xs.length [])) xs.length none) weak_rows) ?_
  refine r_step rfl (o_store_own (v := .osl _ _ _ _) (y' := .op [.osl _ _ _ _]) rfl rfl ta22 (.inl rfl) (by decide) rfl (by decide) rfl (by simp [cellsOf, noRefL, noRef, sls_noRef]) rfl rfl rfl rfl rfl (Nat.le_of_ble_eq_true rfl) rfl rfl) ?_
  refine r_nil ?_
  refine b_seqA ?_
  refine a_region ?_
  refine r_val (v := .sl _ _) (v_move (.inl rfl) (noOwn_flat rfl)) rfl rfl (by decide) ?_
  refine r_val (v := .int _ _) (v_len_sl sl33 (.inl rfl)) rfl rfl (by decide) ?_
  refine r_new (v := .osl _ _ _ _) (q_makeSlice us62 sb4 zc4 rfl (by decide) (.inl rfl) (.inl rfl) (fun _ => by omega)) rfl rfl (by decide) ?_
  refine r_new (v := .op [.nils]) (q_alloc zc62) rfl rfl (by decide) ?_
  refine r_pre (ent_eq (t := 13) (v' := .osl 1 (blcells (List.replicate xs.length false)) xs.length none) (Weak.osl (bl_rep _).symm rfl)) ?_
  refine r_step rfl (o_store_own (v := .osl _ _ _ _) (y' := .op [.osl _ _ _ _]) rfl rfl ta62 (.inl rfl) (by decide) rfl (by decide) rfl (by simp [cellsOf, noRefL, noRef, bl_noRef]) rfl rfl rfl rfl rfl (Nat.le_of_ble_eq_true rfl) rfl rfl) ?_
  refine r_nil ?_
  refine b_seqA ?_
  have hpl : (((xs.length : Int) - 1).toNat) * 1 + 1 ≤ (blcells (List.replicate xs.length false)).length := (by rw [bl_len]; simp; omega)
  have hset : (blcells (List.replicate xs.length false)).set (((xs.length : Int) - 1).toNat * 1) (.bool true) = blcells (seenL xs xs.length) := (by rw [Nat.mul_one, bl_set, seen_top, show ((xs.length : Int) - 1).toNat = xs.length - 1 by omega])
  refine a_region ?_
  refine r_val (v := .rsl _ _ _ _ _) (v_load_rp (c := .osl _ _ _ _) ta62 (.inl rfl) rfl (fun _ => rfl)) rfl rfl (by decide) ?_
  refine r_val (v := .sl _ _) (v_move (.inl rfl) (noOwn_flat rfl)) rfl rfl (by decide) ?_
  refine r_val (v := .int _ _) (v_len_sl sl33 (.inl rfl)) rfl rfl (by decide) ?_
  refine r_val (v := .int _ _) (v_sub (.inl rfl) (.inl rfl) (fun _ => by omega)) rfl rfl (by decide) ?_
  refine r_val (v := .rp _ _) (v_indexAddr_rsl0 es62 (.inl rfl) (.inl rfl) (fun _ => by omega)) rfl rfl (by decide) ?_
  refine r_step rfl (o_store (v := .bool _) (y' := .op [.osl _ _ _ _]) rfl rfl ta4 (.inl rfl) (.inl rfl) rfl rfl rfl rfl rfl rfl hpl (by decide) rfl (congrArg (fun c => AV.op [AV.osl 1 c xs.length none]) hset)) ?_
  refine r_nil ?_
  refine b_seqB ?_
  refine b_seqA ?_
  refine a_region ?_
  refine r_val (v := .sl _ _) (v_move (.inl rfl) (noOwn_flat rfl)) rfl rfl (by decide) ?_
  refine r_new (v := .fn _ _ _) (q_callF (vs := [.sl _ _]) (args := [.sl _ _]) hb37 ⟨.inl rfl, trivial⟩ rfl (fun hA => back_c xs) rfl rfl) rfl rfl (by decide) ?_
  refine r_nil ?_
  refine b_block ?_
  refine b_pre (ent_look (L := [(2, .op [.nils]), (3, .op [.bool _]), (4, .op [.osl _ _ _ _]), (5, .op [.osl _ _ _ _]), (20, .fn _ _ _)]) ⟨Weak.rfl, Weak.rfl, Weak.rfl, Weak.rfl, Weak.rfl, trivial⟩) ?_
  refine b_range (fun k => .agg [.int .i64 (gn xs k).1, .int .i64 (gn xs k).2.1, .int .i64 (gn xs k).2.2.1, .int .i64 (gn xs k).2.2.2]) [2, 3, 4, 5] [(2, .rp (2000002, []) 0), (3, .rp (2000003, []) 0), (4, .rp (2000004, []) 0), (5, .rp (2000005, []) 0)] (fun k => [(2000002, .op [.nils]), (2000003, .op [.bool false]), (2000004, .op [.osl 1 (sls (trP xs k)) xs.length none]), (2000005, .op [.osl 1 (blcells (seenL xs k)) xs.length none])]) (fun k => (trI xs k).isSome = true) (by decide) (by decide) rfl hb49 (back_it h0 (by omega)) (fun k hk => ⟨rfl, fun β F w p => tn_rep β F w p⟩) ⟨by decide, by decide, by decide⟩ rfl ⟨rfl, rfl, nr_rows, nr_bools, trivial⟩ (ent_look ⟨Weak.rfl, Weak.rfl, Weak.rfl, Weak.rfl, Weak.rfl, Weak.rfl, Weak.of_eq (congrArg (fun P => AV.op [AV.osl 1 (sls P) xs.length none]) (tr_top xs).symm), Weak.rfl, trivial⟩) (by rw [trI_top]; rfl) (fun k hk => ⟨rfl, ⟨⟨by decide, .inr rfl⟩, ⟨by decide, .inr rfl⟩, ⟨by decide, .inr rfl⟩, ⟨by decide, .inr rfl⟩, trivial⟩, ⟨rfl, rfl, nr_rows, nr_bools, trivial⟩⟩) (fun k hk hG => ?_) (fun hG => ?_)
  ·
    skip
    have hPo := tr_ok hv ha hG
    refine a_pre (ent_look (L := [(22, .agg [.int .i64 (gn xs k).1, .int .i64 (gn xs k).2.1, .int .i64 (gn xs k).2.2.1, .int .i64 (gn xs k).2.2.2]), (21, .int .i64 ((k : Nat) : Int)), (2, .rp (2000002, []) 0), (3, .rp (2000003, []) 0), (4, .rp (2000004, []) 0), (5, .rp (2000005, []) 0), (2000002, .op [.nils]), (2000003, .op [.bool false]), (2000004, .op [.osl 1 (sls (trP xs (k + 1))) xs.length none]), (2000005, .op [.osl 1 (blcells (seenL xs (k + 1))) xs.length none])]) ⟨Weak.rfl, Weak.rfl, Weak.rfl, Weak.rfl, Weak.rfl, Weak.rfl, Weak.rfl, Weak.rfl, Weak.rfl, Weak.rfl, trivial⟩) ?_
    refine a_seq ?_
    refine a_region ?_
    refine r_val (v := .int _ _) (v_assign (.inl rfl) (noOwn_flat rfl)) rfl rfl (by decide) ?_
    refine r_nil ?_
    refine a_region ?_
    refine r_new (v := .op [.int _ _, .int _ _, .int _ _, .int _ _]) (q_alloc zc48) rfl rfl (by decide) ?_
    refine r_step rfl (o_store (v := .agg [.int _ _, .int _ _, .int _ _, .int _ _]) (y' := .op [.int _ _, .int _ _, .int _ _, .int _ _]) rfl rfl ta48 (.inl rfl) (.inl rfl) rfl rfl rfl rfl rfl rfl (Nat.le_of_ble_eq_true rfl) (by decide) rfl rfl) ?_
    refine r_nil ?_
    refine ⟨rfl, ?_⟩
    refine a_block ?_
    refine a_seq ?_
    refine a_seq ?_
    refine a_region ?_
    refine r_val (v := .rsl _ _ _ _ _) (v_load_rp (c := .osl _ _ _ _) ta62 (.inl rfl) rfl (fun _ => rfl)) rfl rfl (by decide) ?_
    refine r_val (v := .int _ _) (v_move (.inl rfl) (noOwn_flat rfl)) rfl rfl (by decide) ?_
    refine r_val (v := .rp _ _) (v_indexAddr_rsl0 es62 (.inl rfl) (.inl rfl) (fun _ => by omega)) rfl rfl (by decide) ?_
    refine r_val (v := .bool (seenB xs (k + 1) k)) (v_load_rp1 ta4 (.inl rfl) rfl (fun _ => by rw [Nat.mul_one]; exact bl_get (seenL_get hk)) rfl) rfl rfl (by decide) ?_
    refine r_val (v := .bool _) (v_not (.inl rfl)) rfl rfl (by decide) ?_
    refine r_nil ?_
    refine a_cond rfl (fun ht27 => ?_) (fun ht27 => ?_)
    ·
      skip
      refine a_seq ?_
      have hun := tr_unseen hk hG (by simpa using ht27)
      refine a_region ?_
      refine r_step rfl (o_store (v := .nils) (y' := .op [.nils]) rfl rfl ta22 (.inl rfl) (.inl rfl) rfl rfl rfl rfl rfl rfl (Nat.le_of_ble_eq_true rfl) (by decide) rfl rfl) ?_
      refine r_step rfl (o_store (v := .bool _) (y' := .op [.bool _]) rfl rfl ta4 (.inl rfl) (.inl rfl) rfl rfl rfl rfl rfl rfl (Nat.le_of_ble_eq_true rfl) (by decide) rfl rfl) ?_
      refine r_nil ?_
      refine a_pre (ent_nil_at (t := 2000002) (r := [0]) (sz := 1) rfl (.inl rfl) rfl rfl) ?_
      refine a_ret ?_
      refine ⟨[(2000002, .op [.osl 1 [] 0 none]), (2000003, .op [.bool false]), (2000004, .op [.osl 1 (sls (trP xs (k + 1))) xs.length none]), (2000005, .op [.osl 1 (blcells (seenL xs (k + 1))) xs.length none])], ent_look ⟨Weak.rfl, Weak.rfl, Weak.rfl, Weak.rfl, trivial⟩, ⟨rfl, ⟨⟨by decide, .inr rfl⟩, ⟨by decide, .inr rfl⟩, ⟨by decide, .inr rfl⟩, ⟨by decide, .inr rfl⟩, trivial⟩, ⟨rfl, rfl, nr_rows, nr_bools, trivial⟩⟩, ?_⟩
      refine Returns.pre (ent_look (L := [(2, .op [.osl 1 [] 0 none]), (3, .op [.bool false]), (4, .op [.osl 1 (sls (trP xs (k + 1))) xs.length none]), (5, .op [.osl 1 (blcells (seenL xs (k + 1))) xs.length none])]) ⟨Weak.rfl, Weak.rfl, Weak.rfl, Weak.rfl, trivial⟩) ?_
      refine retL (rs := [.cell 2 22, .cell 3 4]) [(2, .op [.osl _ _ _ none]), (3, .op [.bool _])] ⟨Weak.rfl, Weak.rfl, trivial⟩ rfl Try.results24 (by decide) ⟨by decide, .osl _ _ _ none, cell_one rfl ta22, by decide, .bool _, cell_one rfl ta4, rfl⟩ (by decide) (by decide) (l2_eq (osl_eq2 ?_ ?_) (bool_eq ?_)) rfl
      all_goals (first | exact hun.symm | (rw [pth_none hun]; rfl))
    ·
      skip
      refine a_skip ?_
      refine a_seq ?_
      refine a_seq ?_
      have hse : seenB xs (k + 1) k = true := (by simpa using ht27)
      refine a_region ?_
      refine r_val (v := .rp _ _) (v_fieldAddr_rp fo48_0 (.inl rfl)) rfl rfl (by decide) ?_
      refine r_val (v := .int _ _) (v_load_rp1 ta3 (.inl rfl) rfl (fun _ => rfl) rfl) rfl rfl (by decide) ?_
      refine r_val (v := .bool _) (v_eql (.inl rfl) (.inl rfl)) rfl rfl (by decide) ?_
      refine r_nil ?_
      refine a_cond rfl (fun ht30 => ?_) (fun ht30 => ?_)
      ·
        skip
        refine a_exit ?_
        exact ⟨ent_look ⟨Weak.of_eq rfl, Weak.of_eq rfl, Weak.of_eq (congrArg (fun P => AV.op [AV.osl 1 (sls P) xs.length none]) (tr_leaf hk hG hse (by simpa [nV] using ht30)).1.symm), Weak.of_eq (congrArg (fun B => AV.op [AV.osl 1 (blcells B) xs.length none]) (seen_leaf hk (by simpa [nV] using ht30)).symm), trivial⟩, (tr_leaf hk hG hse (by simpa [nV] using ht30)).2⟩
      ·
        skip
        refine a_skip ?_
        refine a_seq ?_
        refine a_seq ?_
        have hvn : nV xs k ≠ 0 := (by simpa [nV] using ht30)
        have hin := inner_spec (allN_spec ha k hk) hvn
        have hde := ded_on (p := gl (trP xs (k + 1)) k) (v := (gn xs k).1) (by unfold nV at hin; omega)
        have hpc := clB_len (hPo.2 k)
        have hps := clB_sm (hPo.2 k)
        refine a_region_any mixed (by kernel_rfl) ?_
        refine y_val (v := .rsl _ _ _ _ _) (v_load_rp (c := .osl _ _ _ _) ta62 (.inl rfl) rfl (fun _ => rfl)) rfl rfl (by decide) (by kernel_rfl) ?_
        refine y_val (v := .rp _ _) (v_fieldAddr_rp fo48_1 (.inl rfl)) rfl rfl (by decide) (by kernel_rfl) ?_
        refine y_val (v := .int _ _) (v_load_rp1 ta3 (.inl rfl) rfl (fun _ => rfl) rfl) rfl rfl (by decide) (by kernel_rfl) ?_
        refine y_val (v := .rp _ _) (v_indexAddr_rsl0 es62 (.inl rfl) (.inl rfl) (fun _ => by omega)) rfl rfl (by decide) (by kernel_rfl) ?_
        refine y_val (v := .bool (seenB xs (k + 1) (nLo xs k))) (v_load_rp1 ta4 (.inl rfl) rfl (fun _ => by rw [Nat.mul_one]; exact bl_get (seenL_get (show nLo xs k < xs.length by omega))) rfl) rfl rfl (by decide) (by kernel_rfl) ?_
        refine y_val (v := .bool _) (v_move (.inl rfl) (noOwn_flat rfl)) rfl rfl (by decide) (by kernel_rfl) ?_
        refine y_guard (v := .rsl _ _ _ _ _) (v_load_rp (c := .osl _ _ _ _) ta62 (.inl rfl) rfl (fun _ => rfl)).quiet rfl rfl rfl (by decide) (.inl ⟨_, rfl, rfl⟩) rfl (by decide) (by kernel_rfl) ?_
        refine y_guard (v := .rp _ _) (v_fieldAddr_rp fo48_2 (.inl rfl)).quiet rfl rfl rfl (by decide) (.inl ⟨_, rfl, rfl⟩) rfl (by decide) (by kernel_rfl) ?_
        refine y_guard (v := .int _ _) (v_load_rp1 ta3 (.inr ⟨_, rfl, fun h => h⟩) rfl (fun _ => rfl) rfl).quiet rfl rfl rfl (by decide) (.inl ⟨_, rfl, rfl⟩) rfl (by decide) (by kernel_rfl) ?_
        refine y_guard (v := .rp _ _) (v_indexAddr_rsl0 es62 (.inr ⟨_, rfl, fun h => h⟩) (.inr ⟨_, rfl, fun h => h⟩) (fun _ => by omega)).quiet rfl rfl rfl (by decide) (.inl ⟨_, rfl, rfl⟩) rfl (by decide) (by kernel_rfl) ?_
        refine y_guard (v := .bool (seenB xs (k + 1) (nHi xs k))) (v_load_rp1 ta4 (.inr ⟨_, rfl, fun h => h⟩) rfl (fun _ => by rw [Nat.mul_one]; exact bl_get (seenL_get (show nHi xs k < xs.length by omega))) rfl).quiet rfl rfl rfl (by decide) (.inl ⟨_, rfl, rfl⟩) rfl (by decide) (by kernel_rfl) ?_
        refine y_val (v := .bool _) (v_pick (.inl rfl) (.inl rfl) (.inr ⟨_, rfl, fun h h2 => by simp_all⟩)) rfl rfl (by decide) (by kernel_rfl) ?_
        refine y_val (v := .bool _) (v_move (.inl rfl) (noOwn_flat rfl)) rfl rfl (by decide) (by kernel_rfl) ?_
        refine y_guard (v := .rsl _ _ _ _ _) (v_load_rp (c := .osl _ _ _ _) ta22 (.inl rfl) rfl (fun _ => rfl)).quiet rfl rfl rfl (by decide) (.inl ⟨_, rfl, rfl⟩) rfl (by decide) (by kernel_rfl) ?_
        refine y_guard (v := .int _ _) (v_move (.inl rfl) (noOwn_flat rfl)).quiet rfl rfl rfl (by decide) (.inl ⟨_, rfl, rfl⟩) rfl (by decide) (by kernel_rfl) ?_
        refine y_guard (v := .rp _ _) (v_indexAddr_rsl0 es22 (.inr ⟨_, rfl, fun h => h⟩) (.inr ⟨_, rfl, fun h => h⟩) (fun _ => by omega)).quiet rfl rfl rfl (by decide) (.inl ⟨_, rfl, rfl⟩) rfl (by decide) (by kernel_rfl) ?_
        refine y_guard (v := .sl (icells (gl (trP xs (k + 1)) k)) (gl (trP xs (k + 1)) k).length) (v_load_rp1 ta28 (.inr ⟨_, rfl, fun h => h⟩) rfl (fun _ => by rw [Nat.mul_one]; exact sls_get (show k < (trP xs (k + 1)).length by rw [hPo.1]; exact hk)) rfl).quiet rfl rfl rfl (by decide) (.inl ⟨_, rfl, rfl⟩) rfl (by decide) (by kernel_rfl) ?_
        refine y_guard (v := .sl [.sl (icells (gl (trP xs (k + 1)) k)) (gl (trP xs (k + 1)) k).length] 1) ((q_sliceLit1Z (v := .sl _ _) (cs := [.sl (icells (gl (trP xs (k + 1)) k)) (gl (trP xs (k + 1)) k).length]) (.inr ⟨_, rfl, fun h => h⟩) (noOwn_flat rfl) lt22 rfl rfl rfl rfl).cast (by first | rfl | rw [shL_id _ (ic_pure _).1 (ic_pure _).2])) rfl rfl rfl (by decide) (.inl ⟨_, rfl, rfl⟩) rfl (by decide) (by kernel_rfl) ?_
        refine y_guard (v := .sl _ _) (QSem.cast (q_callZ (vs := [.sl _ _]) (args := [.sl _ _]) hb39 ⟨.inr ⟨_, rfl, fun h => h⟩, trivial⟩ rfl (fun hA => varsOf1_c (gl (trP xs (k + 1)) k) hpc hps) (ic_noSh _) (ic_noRef _)) (sl_shZ (ic_pure _))) rfl rfl rfl (by decide) (.inl ⟨_, rfl, rfl⟩) rfl (by decide) (by kernel_rfl) ?_
        refine y_guard (v := .rp _ _) (v_fieldAddr_rp fo48_0 (.inl rfl)).quiet rfl rfl rfl (by decide) (.inl ⟨_, rfl, rfl⟩) rfl (by decide) (by kernel_rfl) ?_
        refine y_guard (v := .int _ _) (v_load_rp1 ta3 (.inr ⟨_, rfl, fun h => h⟩) rfl (fun _ => rfl) rfl).quiet rfl rfl rfl (by decide) (.inl ⟨_, rfl, rfl⟩) rfl (by decide) (by kernel_rfl) ?_
        refine y_guard (v := .bool _) (q_call (vs := [.sl _ _, .int _ _]) (args := [.sl _ _, .int .i64 _]) hb38 ⟨.inr ⟨_, rfl, fun h => h⟩, .inr ⟨_, rfl, fun h => h⟩, trivial⟩ rfl (fun hA => contains_c (dedN (insertionSort (fun x y : Int => decide (x < y)) ((gl (trP xs (k + 1)) k).map fun x => max x (-x)).toArray 0 ((gl (trP xs (k + 1)) k).map fun x => max x (-x)).length) ((gl (trP xs (k + 1)) k).map fun x => max x (-x)).length) _ (ded_few9 hpc)) rfl rfl) rfl rfl rfl (by decide) (.inl ⟨_, rfl, rfl⟩) rfl (by decide) (by kernel_rfl) ?_
        refine y_val (v := .bool _) (v_pick (.inl rfl) (.inl rfl) (.inr ⟨_, rfl, fun h h2 => by simp_all⟩)) rfl rfl (by decide) (by kernel_rfl) ?_
        refine y_nil ?_
        refine a_cond rfl (fun ht53 => ?_) (fun ht53 => ?_)
        ·
          skip
          refine a_seq ?_
          refine a_pre (ent_look (L := [(2, .rp _ _), (3, .rp _ _), (4, .rp _ _), (5, .rp _ _), (6, .int _ _), (7, .op [.int _ _, .int _ _, .int _ _, .int _ _]), (2000002, .op [.nils]), (2000003, .op [.bool _]), (2000004, .op [.osl _ _ _ _]), (2000005, .op [.osl _ _ _ _])]) ⟨Weak.rfl, Weak.rfl, Weak.rfl, Weak.rfl, Weak.rfl, Weak.rfl, Weak.rfl, Weak.rfl, Weak.rfl, Weak.rfl, trivial⟩) ?_
          have hbad := tr_bad hk hG hvn (by rw [hde] at ht53; unfold trOn nV; revert ht53; cases seenB xs (k + 1) (nLo xs k) <;> cases seenB xs (k + 1) (nHi xs k) <;> simp)
          refine a_region ?_
          refine r_step rfl (o_store (v := .nils) (y' := .op [.nils]) rfl rfl ta22 (.inl rfl) (.inl rfl) rfl rfl rfl rfl rfl rfl (Nat.le_of_ble_eq_true rfl) (by decide) rfl rfl) ?_
          refine r_step rfl (o_store (v := .bool _) (y' := .op [.bool _]) rfl rfl ta4 (.inl rfl) (.inl rfl) rfl rfl rfl rfl rfl rfl (Nat.le_of_ble_eq_true rfl) (by decide) rfl rfl) ?_
          refine r_nil ?_
          refine a_pre (ent_nil_at (t := 2000002) (r := [0]) (sz := 1) rfl (.inl rfl) rfl rfl) ?_
          refine a_ret ?_
          refine ⟨[(2000002, .op [.osl 1 [] 0 none]), (2000003, .op [.bool false]), (2000004, .op [.osl 1 (sls (trP xs (k + 1))) xs.length none]), (2000005, .op [.osl 1 (blcells (seenL xs (k + 1))) xs.length none])], ent_look ⟨Weak.rfl, Weak.rfl, Weak.rfl, Weak.rfl, trivial⟩, ⟨rfl, ⟨⟨by decide, .inr rfl⟩, ⟨by decide, .inr rfl⟩, ⟨by decide, .inr rfl⟩, ⟨by decide, .inr rfl⟩, trivial⟩, ⟨rfl, rfl, nr_rows, nr_bools, trivial⟩⟩, ?_⟩
          refine Returns.pre (ent_look (L := [(2, .op [.osl 1 [] 0 none]), (3, .op [.bool false]), (4, .op [.osl 1 (sls (trP xs (k + 1))) xs.length none]), (5, .op [.osl 1 (blcells (seenL xs (k + 1))) xs.length none])]) ⟨Weak.rfl, Weak.rfl, Weak.rfl, Weak.rfl, trivial⟩) ?_
          refine retL (rs := [.cell 2 22, .cell 3 4]) [(2, .op [.osl _ _ _ none]), (3, .op [.bool _])] ⟨Weak.rfl, Weak.rfl, trivial⟩ rfl Try.results24 (by decide) ⟨by decide, .osl _ _ _ none, cell_one rfl ta22, by decide, .bool _, cell_one rfl ta4, rfl⟩ (by decide) (by decide) (l2_eq (osl_eq2 ?_ ?_) (bool_eq ?_)) rfl
          all_goals (first | exact hbad.symm | (rw [pth_none hbad]; rfl))
        ·
          skip
          refine a_skip ?_
          refine a_seq ?_
          refine a_pre (ent_look (L := [(2, .rp _ _), (3, .rp _ _), (4, .rp _ _), (5, .rp _ _), (6, .int _ _), (7, .op [.int _ _, .int _ _, .int _ _, .int _ _]), (2000002, .op [.nils]), (2000003, .op [.bool _]), (2000004, .op [.osl _ _ _ _]), (2000005, .op [.osl _ _ _ _])]) ⟨Weak.rfl, Weak.rfl, Weak.rfl, Weak.rfl, Weak.rfl, Weak.rfl, Weak.rfl, Weak.rfl, Weak.rfl, Weak.rfl, trivial⟩) ?_
          have hgo : (seenB xs (k + 1) (nLo xs k) || seenB xs (k + 1) (nHi xs k) || trOn xs k (trP xs (k + 1))) = false := (by rw [hde] at ht53; unfold trOn nV; revert ht53; cases seenB xs (k + 1) (nLo xs k) <;> cases seenB xs (k + 1) (nHi xs k) <;> simp)
          have hgood := tr_good hk hG hse hvn hgo
          have hon := trOn_no (by simp at hgo; exact hgo.2)
          have hl1 : litB vars (nV xs k) = true := litB_spec.2 ⟨by omega, by omega⟩
          have hl2 : litB vars (-(nV xs k)) = true := litB_spec.2 ⟨by omega, by omega⟩
          have hp1 : (nLo xs k) * 1 + 1 ≤ (blcells (seenL xs (k + 1))).length := (by rw [bl_len]; simp [seenL_len]; omega)
          have hs1 : (blcells (seenL xs (k + 1))).set ((nLo xs k) * 1) (.bool true) = blcells ((seenL xs (k + 1)).set (nLo xs k) true) := (by rw [Nat.mul_one, bl_set])
          have hp2 : (nHi xs k) * 1 + 1 ≤ (blcells ((seenL xs (k + 1)).set (nLo xs k) true)).length := (by rw [bl_len]; simp [seenL_len]; omega)
          have hs2 : (blcells ((seenL xs (k + 1)).set (nLo xs k) true)).set ((nHi xs k) * 1) (.bool true) = blcells (((seenL xs (k + 1)).set (nLo xs k) true).set (nHi xs k) true) := (by rw [Nat.mul_one, bl_set])
          have hp3 : (nLo xs k) * 1 + 1 ≤ (sls (trP xs (k + 1))).length := (by rw [sls_length]; simp [hPo.1]; omega)
          have hs3 : (sls (trP xs (k + 1))).set ((nLo xs k) * 1) (.sl (icells (setLit (gl (trP xs (k + 1)) k) (-(nV xs k)))) (setLit (gl (trP xs (k + 1)) k) (-(nV xs k))).length) = sls ((trP xs (k + 1)).set (nLo xs k) (setLit (gl (trP xs (k + 1)) k) (-(nV xs k)))) := (by rw [Nat.mul_one, sls_set])
          have hp4 : (nHi xs k) * 1 + 1 ≤ (sls ((trP xs (k + 1)).set (nLo xs k) (setLit (gl (trP xs (k + 1)) k) (-(nV xs k))))).length := (by rw [sls_length]; simp [hPo.1]; omega)
          have hs4 : (sls ((trP xs (k + 1)).set (nLo xs k) (setLit (gl (trP xs (k + 1)) k) (-(nV xs k))))).set ((nHi xs k) * 1) (.sl (icells (setLit (gl (trP xs (k + 1)) k) (nV xs k))) (setLit (gl (trP xs (k + 1)) k) (nV xs k)).length) = sls (((trP xs (k + 1)).set (nLo xs k) (setLit (gl (trP xs (k + 1)) k) (-(nV xs k)))).set (nHi xs k) (setLit (gl (trP xs (k + 1)) k) (nV xs k))) := (by rw [Nat.mul_one, sls_set])
          have hrow : gl ((trP xs (k + 1)).set (nLo xs k) (setLit (gl (trP xs (k + 1)) k) (-(nV xs k)))) k = gl (trP xs (k + 1)) k := (by rw [gl_set, if_neg (by omega)])
          have hPf : ((trP xs (k + 1)).set (nLo xs k) (setLit (gl (trP xs (k + 1)) k) (-(nV xs k)))).set (nHi xs k) (setLit (gl (trP xs (k + 1)) k) (nV xs k)) = trP xs k := (by rw [hgood.1]; unfold trPut; rw [set_put hon.1 hon.2, set_put hon.2 (by rw [Int.neg_neg]; exact hon.1)])
          refine a_region ?_
          refine r_val (v := .rsl _ _ _ _ _) (v_load_rp (c := .osl _ _ _ _) ta62 (.inl rfl) rfl (fun _ => rfl)) rfl rfl (by decide) ?_
          refine r_val (v := .rp _ _) (v_fieldAddr_rp fo48_1 (.inl rfl)) rfl rfl (by decide) ?_
          refine r_val (v := .int _ _) (v_load_rp1 ta3 (.inl rfl) rfl (fun _ => rfl) rfl) rfl rfl (by decide) ?_
          refine r_val (v := .rp _ _) (v_indexAddr_rsl0 es62 (.inl rfl) (.inl rfl) (fun _ => by omega)) rfl rfl (by decide) ?_
          refine r_step rfl (o_store (v := .bool _) (y' := .op [.osl _ _ _ _]) rfl rfl ta4 (.inl rfl) (.inl rfl) rfl rfl rfl rfl rfl rfl hp1 (by decide) rfl (congrArg (fun c => AV.op [AV.osl 1 c xs.length none]) hs1)) ?_
          refine r_nil ?_
          refine a_seq ?_
          refine a_region ?_
          refine r_val (v := .rsl _ _ _ _ _) (v_load_rp (c := .osl _ _ _ _) ta62 (.inl rfl) rfl (fun _ => rfl)) rfl rfl (by decide) ?_
          refine r_val (v := .rp _ _) (v_fieldAddr_rp fo48_2 (.inl rfl)) rfl rfl (by decide) ?_
          refine r_val (v := .int _ _) (v_load_rp1 ta3 (.inl rfl) rfl (fun _ => rfl) rfl) rfl rfl (by decide) ?_
          refine r_val (v := .rp _ _) (v_indexAddr_rsl0 es62 (.inl rfl) (.inl rfl) (fun _ => by omega)) rfl rfl (by decide) ?_
          refine r_step rfl (o_store (v := .bool _) (y' := .op [.osl _ _ _ _]) rfl rfl ta4 (.inl rfl) (.inl rfl) rfl rfl rfl rfl rfl rfl hp2 (by decide) rfl (congrArg (fun c => AV.op [AV.osl 1 c xs.length none]) hs2)) ?_
          refine r_nil ?_
          refine a_seq ?_
          refine a_region_z (n := 12) [[(62, true)], [(63, true)], [(64, true)], [(65, true)], [(66, true)], [(67, true)], [(68, true)], [(69, true)], [(70, true)], [(71, true)], [(72, true)], [(73, true)]] mixed (by kernel_rfl) ?_
          refine z_val (v := .rsl _ _ _ _ _) (v_load_rp (c := .osl _ _ _ _) ta22 (.inl rfl) rfl (fun _ => rfl)) rfl rfl (by decide) rfl (by kernel_rfl) ?_
          refine z_val (v := .rp _ _) (v_fieldAddr_rp fo48_1 (.inl rfl)) rfl rfl (by decide) rfl (by kernel_rfl) ?_
          refine z_val (v := .int _ _) (v_load_rp1 ta3 (.inl rfl) rfl (fun _ => rfl) rfl) rfl rfl (by decide) rfl (by kernel_rfl) ?_
          refine z_val (v := .rsl _ _ _ _ _) (v_load_rp (c := .osl _ _ _ _) ta22 (.inl rfl) rfl (fun _ => rfl)) rfl rfl (by decide) rfl (by kernel_rfl) ?_
          refine z_val (v := .int _ _) (v_move (.inl rfl) (noOwn_flat rfl)) rfl rfl (by decide) rfl (by kernel_rfl) ?_
          refine z_val (v := .rp _ _) (v_indexAddr_rsl0 es22 (.inl rfl) (.inl rfl) (fun _ => by omega)) rfl rfl (by decide) rfl (by kernel_rfl) ?_
          refine z_val (v := .sl (icells (gl (trP xs (k + 1)) k)) (gl (trP xs (k + 1)) k).length) (v_load_rp1 ta28 (.inl rfl) rfl (fun _ => by rw [Nat.mul_one]; exact sls_get (show k < (trP xs (k + 1)).length by rw [hPo.1]; exact hk)) rfl) rfl rfl (by decide) rfl (by kernel_rfl) ?_
          refine z_val (v := .rp _ _) (v_fieldAddr_rp fo48_0 (.inl rfl)) rfl rfl (by decide) rfl (by kernel_rfl) ?_
          refine z_val (v := .int _ _) (v_load_rp1 ta3 (.inl rfl) rfl (fun _ => rfl) rfl) rfl rfl (by decide) rfl (by kernel_rfl) ?_
          refine z_val (v := .int _ _) (v_neg (.inl rfl) (fun _ => by unfold nV at hin; omega)) rfl rfl (by decide) rfl (by kernel_rfl) ?_
          refine z_new (v := .sl _ _) (QSem.cast (q_callZ (vs := [.sl _ _, .int _ _]) (args := [.sl _ _, .int .i64 _]) hb40 ⟨.inl rfl, .inl rfl, trivial⟩ rfl (fun hA => set_c vars (gl (trP xs (k + 1)) k) (-(nV xs k)) (hPo.2 k) hl2) (ic_noSh _) (ic_noRef _)) (sl_shZ (ic_pure _))) rfl rfl (by decide) rfl (by kernel_rfl) ?_
          refine z_val (v := .rp _ _) (v_indexAddr_rsl0 es22 (.inl rfl) (.inl rfl) (fun _ => by omega)) rfl rfl (by decide) rfl (by kernel_rfl) ?_
          refine z_nil ?_
          refine r_step rfl (o_store (v := .sl _ _) (y' := .op [.osl _ _ _ _]) rfl rfl ta28 (.inl rfl) (.inl rfl) rfl rfl rfl rfl rfl rfl hp3 (by decide) rfl (congrArg (fun c => AV.op [AV.osl 1 c xs.length none]) hs3)) ?_
          refine r_nil ?_
          refine a_pre (ent_look (L := [(2, .rp _ _), (3, .rp _ _), (4, .rp _ _), (5, .rp _ _), (6, .int _ _), (7, .op [.int _ _, .int _ _, .int _ _, .int _ _]), (2000002, .op [.nils]), (2000003, .op [.bool _]), (2000004, .op [.osl _ _ _ _]), (2000005, .op [.osl _ _ _ _])]) ⟨Weak.rfl, Weak.rfl, Weak.rfl, Weak.rfl, Weak.rfl, Weak.rfl, Weak.rfl, Weak.rfl, Weak.rfl, Weak.rfl, trivial⟩) ?_
          refine a_region_z (n := 11) [[(74, true)], [(75, true)], [(76, true)], [(77, true)], [(78, true)], [(79, true)], [(80, true)], [(81, true)], [(82, true)], [(83, true)], [(84, true)]] mixed (by kernel_rfl) ?_
          refine z_val (v := .rsl _ _ _ _ _) (v_load_rp (c := .osl _ _ _ _) ta22 (.inl rfl) rfl (fun _ => rfl)) rfl rfl (by decide) rfl (by kernel_rfl) ?_
          refine z_val (v := .rp _ _) (v_fieldAddr_rp fo48_2 (.inl rfl)) rfl rfl (by decide) rfl (by kernel_rfl) ?_
          refine z_val (v := .int _ _) (v_load_rp1 ta3 (.inl rfl) rfl (fun _ => rfl) rfl) rfl rfl (by decide) rfl (by kernel_rfl) ?_
          refine z_val (v := .rsl _ _ _ _ _) (v_load_rp (c := .osl _ _ _ _) ta22 (.inl rfl) rfl (fun _ => rfl)) rfl rfl (by decide) rfl (by kernel_rfl) ?_
          refine z_val (v := .int _ _) (v_move (.inl rfl) (noOwn_flat rfl)) rfl rfl (by decide) rfl (by kernel_rfl) ?_
          refine z_val (v := .rp _ _) (v_indexAddr_rsl0 es22 (.inl rfl) (.inl rfl) (fun _ => by omega)) rfl rfl (by decide) rfl (by kernel_rfl) ?_
          refine z_val (v := .sl (icells (gl (trP xs (k + 1)) k)) (gl (trP xs (k + 1)) k).length) (v_load_rp1 ta28 (.inl rfl) rfl (fun _ => by rw [Nat.mul_one]; have := sls_get (L := ((trP xs (k + 1)).set (nLo xs k) (setLit (gl (trP xs (k + 1)) k) (-(nV xs k))))) (i := k) (by rw [List.length_set, hPo.1]; exact hk); rw [hrow] at this; exact this) rfl) rfl rfl (by decide) rfl (by kernel_rfl) ?_
          refine z_val (v := .rp _ _) (v_fieldAddr_rp fo48_0 (.inl rfl)) rfl rfl (by decide) rfl (by kernel_rfl) ?_
          refine z_val (v := .int _ _) (v_load_rp1 ta3 (.inl rfl) rfl (fun _ => rfl) rfl) rfl rfl (by decide) rfl (by kernel_rfl) ?_
          refine z_new (v := .sl _ _) (QSem.cast (q_callZ (vs := [.sl _ _, .int _ _]) (args := [.sl _ _, .int .i64 _]) hb40 ⟨.inl rfl, .inl rfl, trivial⟩ rfl (fun hA => set_c vars (gl (trP xs (k + 1)) k) (nV xs k) (hPo.2 k) hl1) (ic_noSh _) (ic_noRef _)) (sl_shZ (ic_pure _))) rfl rfl (by decide) rfl (by kernel_rfl) ?_
          refine z_val (v := .rp _ _) (v_indexAddr_rsl0 es22 (.inl rfl) (.inl rfl) (fun _ => by omega)) rfl rfl (by decide) rfl (by kernel_rfl) ?_
          refine z_nil ?_
          refine r_step rfl (o_store (v := .sl _ _) (y' := .op [.osl _ _ _ _]) rfl rfl ta28 (.inl rfl) (.inl rfl) rfl rfl rfl rfl rfl rfl hp4 (by decide) rfl (congrArg (fun c => AV.op [AV.osl 1 c xs.length none]) hs4)) ?_
          refine r_nil ?_
          exact ⟨ent_look ⟨Weak.of_eq rfl, Weak.of_eq rfl, Weak.of_eq (congrArg (fun P => AV.op [AV.osl 1 (sls P) xs.length none]) hPf), Weak.of_eq (congrArg (fun B => AV.op [AV.osl 1 (blcells B) xs.length none]) (seen_inner hk hvn)), trivial⟩, hgood.2⟩
  ·
    skip
    refine b_pre (ent_look (L := [(2, .op [.nils]), (3, .op [.bool false]), (4, .op [.osl 1 (sls (trP xs 0)) xs.length none]), (5, .op [.osl 1 (blcells (seenL xs 0)) xs.length none])]) ⟨Weak.rfl, Weak.rfl, Weak.rfl, Weak.rfl, trivial⟩) ?_
    refine b_lift ?_
    refine a_seq ?_
    refine a_region ?_
    refine r_val (v := .rsl _ _ _ _ _) (v_load_rp (c := .osl _ _ _ _) ta22 (.inl rfl) rfl (fun _ => rfl)) rfl rfl (by decide) ?_
    refine r_pre (ent_reloc_sl (t := 85) rfl rfl) ?_
    refine r_step rfl (o_store_own (v := .osl _ _ _ _) (y' := .op [.osl _ _ _ _]) rfl rfl ta22 (.inl rfl) (by decide) rfl (by decide) rfl (by simp [cellsOf, noRefL, noRef, sls_noRef]) rfl rfl rfl rfl rfl (Nat.le_of_ble_eq_true rfl) rfl rfl) ?_
    refine r_step rfl (o_store (v := .bool _) (y' := .op [.bool _]) rfl rfl ta4 (.inl rfl) (.inl rfl) rfl rfl rfl rfl rfl rfl (Nat.le_of_ble_eq_true rfl) (by decide) rfl rfl) ?_
    refine r_nil ?_
    refine a_ret ?_
    refine retL (rs := [.cell 2 22, .cell 3 4]) [(2, .op [.osl _ _ _ none]), (3, .op [.bool _])] ⟨Weak.rfl, Weak.rfl, trivial⟩ rfl Try.results24 (by decide) ⟨by decide, .osl _ _ _ none, cell_one rfl ta22, by decide, .bool _, cell_one rfl ta4, rfl⟩ (by decide) (by decide) (l2_eq (osl_eq2 ?_ ?_) (bool_eq ?_)) rfl
    all_goals (first | rfl | exact hG.symm | exact (tr_ok hv ha hG).1.symm)
end Go.Av
namespace Go.Av
open Go Go.Sort
def treeB (vars : Int) (L : List (List Int)) (xs : List TN) : Bool := cnfB vars L && inR xs.length 1 199 && allN vars L.length xs && (trI xs 0).isSome
def pthT (vars : Int) (L : List (List Int)) (xs : List TN) : List (List Int) := if treeB vars L xs then trP xs 0 else []
section
variable {vars : Int} {L : List (List Int)} {xs : List TN}
theorem treeB_spec (h : treeB vars L xs = true) : cnfB vars L = true ∧ (0 < xs.length ∧ xs.length ≤ 199) ∧ allN vars L.length xs = true ∧ (trI xs 0).isSome = true := by
  unfold treeB at h
  simp only [Bool.and_eq_true, inR, decide_eq_true_eq] at h
  exact ⟨h.1.1.1, by omega, h.1.2, h.2⟩
theorem treeB_len (h : (cnfB vars L && inR xs.length 1 199) = false) : treeB vars L xs = false := by unfold treeB; rw [h]; rfl
theorem treeB_node (h : allN vars L.length xs = false) : treeB vars L xs = false := by unfold treeB; rw [h]; simp
theorem treeB_yes (h1 : cnfB vars L = true) (h2 : 0 < xs.length ∧ xs.length ≤ 199) (h3 : allN vars L.length xs = true) : treeB vars L xs = (trI xs 0).isSome := by
  unfold treeB; rw [h1, h3]; simp [inR]; omega
theorem treeB_once (h2 : 0 < xs.length ∧ xs.length ≤ 199) (h3 : allN vars L.length xs = true) (h : onceB xs = false) : treeB vars L xs = false := by
  unfold treeB; rw [tr_isSome h3 h2.1, h]; simp
theorem treeB_path (h2 : 0 < xs.length ∧ xs.length ≤ 199) (h3 : allN vars L.length xs = true) (h : (trS xs 0).isSome = false) : treeB vars L xs = false := by
  unfold treeB; rw [tr_isSome h3 h2.1, h]; simp
theorem treeB_ok (h1 : cnfB vars L = true) (h2 : 0 < xs.length ∧ xs.length ≤ 199) (h3 : allN vars L.length xs = true) (ho : onceB xs = true) (h : (trS xs 0).isSome = true) : treeB vars L xs = true ∧ pthT vars L xs = trQ xs 0 := by
  have h4 : treeB vars L xs = true := by rw [treeB_yes h1 h2 h3, tr_isSome h3 h2.1, ho, h]; rfl
  refine ⟨h4, ?_⟩
  unfold pthT; rw [h4, if_pos rfl]
  exact tr_val h3 h2.1 (treeB_spec h4).2.2.2
theorem pthT_no (h : treeB vars L xs = false) : pthT vars L xs = [] := by unfold pthT; rw [h]; rfl
theorem pthT_yes (h : treeB vars L xs = true) : pthT vars L xs = pthL xs := by unfold pthT; rw [h]; rfl
theorem pth_ok (h : treeB vars L xs = true) : PathsOk vars xs (pthL xs) := by
  obtain ⟨h1, _, h3, h4⟩ := treeB_spec h
  exact tr_ok (cnfB_spec h1).1 h3 h4
theorem rep_set {n i : Nat} : (List.replicate n ([] : List Int)).set i [] = List.replicate n [] := by
  apply List.ext_getElem
  · simp
  · intro j h1 h2; simp [List.getElem_set]
end
end Go.Av
namespace Go.Av
open Go
/-- The slots off ds are as they were. -/
def Kept (ds : List Nat) (a a' : Act) : Prop := ∀ i, i ∉ ds → a'.tmps.getD i undef = a.tmps.getD i undef
theorem Kept.put {ds : List Nat} {a a' : Act} {o : Option Nat} {v : Value} (h : Kept ds a a') (ho : ∀ d, o = some d → d ∈ ds) : Kept ds a (a'.put o v) := fun i hi => by
  rw [← h i hi]
  cases o with
  | none => rfl
  | some d =>
    have hne : d ≠ i := fun e => hi (by rw [← e]; exact ho d rfl)
    simp only [Act.put, Array.getD_eq_getD_getElem?]
    rw [Array.getElem?_setIfInBounds_ne hne]
section
variable {P : Program} {N : Nat} {ds : List Nat} {a0 : Act} {Q : Exit → Act → World → Prop}
def QK (ds : List Nat) (a0 : Act) (Q : Exit → Act → World → Prop) : Exit → Act → World → Prop := fun x a w => Q x a w ∧ (x = .normal → Kept ds a0 a)
theorem qk_out (h : ¬ LetsOut Q) : ¬ LetsOut (QK ds a0 Q) := fun ⟨a, w, h1⟩ => h ⟨a, w, h1.1⟩
theorem out_qk (h : LetsOut Q) : LetsOut (QK ds a0 Q) := by
  obtain ⟨a, w, h⟩ := h
  exact ⟨a, w, h, fun h => by cases h⟩
theorem wpop_kept {o : Oper} {a : Act} {w : World} {K K' : Act → World → Prop} (ho : ∀ d, o.dst = some d → d ∈ ds) (ha : Kept ds a0 a) (hK : ∀ a' w', K a' w' → Kept ds a0 a' → K' a' w') (h : o.wp P a w K Q) : o.wp P a w K' (QK ds a0 Q) := by
  unfold Oper.wp at *
  generalize (execOp a.eval o).run P w = r at *
  cases r with
  | ok n w' =>
    cases n <;> simp only [Oper.upon] at h ⊢ <;>
      first
        | exact hK _ _ h (ha.put ho)
        | exact hK _ _ h (Kept.put (a' := { a with defers := _ }) ha ho)
        | exact Calls.mono h (fun e w'' he => by cases e <;> first | exact hK _ _ he (ha.put ho) | exact out_qk he | exact ⟨he, fun h => by cases h⟩)
        | exact Rows.mono h (fun _ _ he => hK _ _ he (ha.put ho))
        | exact h
  | halt x w' => cases x <;> simp only [Oper.upon] at h ⊢ <;> first | exact ⟨h, fun h => by cases h⟩ | exact h
theorem wpAny_kept {md : Region.Mode} {ops : Array Oper} (hd : ∀ o ∈ ops.toList, ∀ d, o.dst = some d → d ∈ ds) : ∀ {fuel : Nat} {listed : Array Bool} {a : Act} {w : World}, Kept ds a0 a →
    wpAny P md ops Q fuel listed a w → wpAny P md ops (QK ds a0 Q) fuel listed a w
  | 0, _, _, _, ha, h => ⟨h.1, h.2, fun _ => ha⟩
  | fuel + 1, listed, a, w, ha, h => by
    refine ⟨fun hr => ⟨h.1 hr, fun _ => ha⟩, fun i hi => ?_⟩
    have h1 := h.2 i hi
    unfold wpOp at h1 ⊢
    cases hop : ops[i]? with
    | none => rw [hop] at h1; exact wpAny_kept hd ha h1
    | some o =>
      rw [hop] at h1
      have ho : ∀ d, o.dst = some d → d ∈ ds := hd o (by rw [Array.getElem?_eq_some_iff] at hop; obtain ⟨hlt, rfl⟩ := hop; simp)
      simp only at h1 ⊢
      split
      · rename_i hw
        rw [if_pos hw] at h1
        rcases h1 with h1 | ⟨h1, h2⟩
        · exact .inl (wpop_kept ho ha (fun a' w' hk ha' => wpAny_kept hd ha' hk) h1)
        · exact .inr ⟨h1, out_qk h2⟩
      · rename_i hw
        rw [if_neg hw] at h1
        exact wpAny_kept hd (ha.put ho) h1
end
section
variable {P : Program} {N : Nat} {gv : Nat → Value} {e e' : Ctx} {a : Act} {w : World} {K : Sig → Prop} {Q : Exit → Act → World → Prop}
theorem sw_region_anyV {id : Nat} {l : List Oper} (hm : P.follows .mixedOrders = true) (hnd : noDefer l = true) (hQ : ∀ a' w' σ', K σ' → All N gv e' σ' a' w' → Kept (l.filterMap (·.dst)) a a' → Q .normal a' w')
    (h : ∀ Q : Exit → Act → World → Prop, (∀ (_ : Unit) a' w' σ', K σ' → All N gv e' σ' a' w' → Q .normal a' w') →
      wpAny P .any l.toArray Q l.toArray.size (Array.replicate l.toArray.size false) a { w with drawn := w.drawn + 1 }) : SWp P (.region id l.toArray true) Q a w := fun r n =>
  wpIn_mono (wpIn_region_any hm (wpAny_in (qk_out NQ_out) (by simpa using noDefer_mem hnd) (wpAny_kept (ds := l.filterMap (·.dst)) (a0 := a) (fun o ho d hd => List.mem_filterMap.2 ⟨o, by simpa using ho, hd⟩) (fun _ _ => rfl) (h (NQ N gv e' K) fun _ a' w' σ' h1 h2 => ⟨rfl, σ', h1, h2⟩))))
    fun x a' w' ⟨⟨hx, σ', h1, h2⟩, hk⟩ => by rw [hx]; exact hQ _ _ _ h1 h2 (hk hx)
end
section
variable {P : Program} {N : Nat} {σ : Sig} {l : List Oper}
/-- What the slots show, taken for frozen. -/
def ViewL (N : Nat) (σ : Sig) : List (Nat × AV) → Prop
  | [] => True
  | (i, v) :: L => (i < N ∧ snapV σ (rd N σ (.tmp i)) = v) ∧ ViewL N σ L
theorem view_rep {e : Ctx} {gv : Nat → Value} {a : Act} {w : World} {β β0 : Place → Option (Nat × Nat)} {F : Nat → Prop} (hi : Inv e σ (valOf N gv a) w β F) : ∀ {L : List (Nat × AV)}, ViewL N σ L → ∀ i p,
    pureV (look L i) = true ∧ Rep β0 (lent σ β F) w (look L i) p (valOf N gv a i)
  | [], _, i, p => ⟨rfl, by simp [look, Rep]⟩
  | (j, v) :: L, h, i, p => by
    by_cases hij : i = j
    · subst hij
      rw [show look ((i, v) :: L) i = v from upd_same _ _ _, ← h.1.2]
      have h1 := hi.snap (β0 := β0) (rd N σ (.tmp i)) (p' := p) (rd_rep hi (.tmp i) (0, [])) (noOwn_rd _)
      rw [show valOf N gv a i = a.eval (.tmp i) by simp [valOf, h.1.1, Act.eval]]
      exact ⟨pure_snap _ _, h1⟩
    · rw [show look ((j, v) :: L) i = look L i from upd_other _ _ hij]
      exact view_rep hi h.2 i p
theorem noOwn_look {L : List (Nat × AV)} (h : ∀ i, pureV (look L i) = true) (q : Place) : ¬ OwnAt (look L) q := by
  rintro ⟨y, hy, ho⟩
  rw [noOwn_pure (h q.1) hy] at ho; cases ho

/-- A drawn region that only looks. -/
theorem a_region_anyV {id d : Nat} {b : Bool} {Φ : Exit → Sig → Prop} (L : List (Nat × AV)) (hm : P.follows .mixedOrders = true) (hB : anyOk l = true) (hdN : d < N) (hL : ViewL N σ L)
    (h : AQuiet P N l l 0 (fun i => purgeD (l.filterMap (·.dst)) (look L i)) (fun s => s d = .bool b)) (hc : Φ .normal (upd (fun i => if (l.filterMap (·.dst)).contains i then .undef else σ i) d (.bool b)))
    (hnd : noDefer l = true := by kernel_rfl) : ACode P N (.region id l.toArray true) σ Φ := fun gv e a w ha Q0 hQ0 => by
  obtain ⟨hdf, hsz, β, F, hi⟩ := ha
  have hv := fun i => view_rep (β0 := fun _ => none) hi hL i
  have hinv : Inv ⟨w, fun _ => False, lent σ β F, e.ds⟩ (look L) (valOf N gv a) w (fun _ => none) (lent σ β F) := by
    refine ⟨fun i => (hv i _).2, fun q q' b s s' hq => (noOwn_look (fun i => (hv i (0, [])).1) q hq).elim, fun q b s hq => (noOwn_look (fun i => (hv i (0, [])).1) q hq).elim, fun b hb => ⟨?_, fun _ => hb⟩, fun _ _ _ => rfl, Nat.le_refl _, Tame.refl _⟩
    rcases hb with hb | ⟨q, s, hq, hb⟩
    · exact (hi.fr b hb).1
    · exact hi.own_lt hq hb
  have hall : All N gv ⟨w, fun _ => False, lent σ β F, e.ds⟩ (look L) a w := ⟨hdf, hsz, _, _, hinv⟩
  refine sw_region_anyV (K := fun s => s d = .bool b) (e' := ⟨w, fun _ => False, lent σ β F, e.ds⟩) (gv := gv) (N := N) hm hnd (fun a' w' σ' hs ha' hk => ?_) fun Q hQ => ?_
  · obtain ⟨hdf', hsz', β', F', hi'⟩ := ha'
    have hkept : ∀ b, b < w.heap.size → w'.heap[b]? = w.heap[b]? := fun b hb => hi'.kept b hb (fun h => h)
    have hI := hi.more hkept hi'.grow (hi.tame.trans hi'.tame hkept)
    refine hQ0 _ _ _ _ hc ⟨hdf', hsz', β, F, ?_⟩
    have own : ∀ q, OwnAt (upd (fun i => if (l.filterMap (·.dst)).contains i then .undef else σ i) d (.bool b)) q → OwnAt σ q := fun q hq => by
      obtain ⟨y, hy, ho⟩ := hq
      by_cases hqd : q.1 = d
      · rw [hqd, upd_same] at hy
        rw [noOwn_pure (x := .bool b) rfl hy] at ho; cases ho
      · rw [upd_other _ _ hqd] at hy
        split at hy
        · rw [noOwn_pure (x := .undef) rfl hy] at ho; cases ho
        · exact ⟨y, hy, ho⟩
    refine ⟨fun i => ?_, fun q q' b s s' hq hq' => hI.disj q q' b s s' (own q hq) (own q' hq'), fun q b s hq hb => hI.sep q b s (own q hq) hb, hI.fr, hI.kept, hI.grow, hI.tame⟩
    by_cases hid : i = d
    · subst hid
      rw [upd_same]
      have := hi'.rep i
      rw [hs] at this
      simpa [Rep] using this
    · rw [upd_other _ _ hid]
      split
      · simp [Rep]
      · rename_i hni
        have hni' : i ∉ l.filterMap (·.dst) := fun hm => hni (by simpa using hm)
        have hval : valOf N gv a' i = valOf N gv a i := by
          unfold valOf; split
          · exact hk i hni'
          · rfl
        rw [hval]; exact hI.rep i
  · have hB' := hB
    simp only [anyOk, Bool.and_eq_true] at hB'
    obtain ⟨st, hl, hst, hK⟩ := AQuiet.steps l 0 _ (distinct_spec hB'.1) h
    have ha' := (ent_purgeD (l.filterMap (·.dst)) (look L)).all hall
    obtain ⟨hdf, hsz, β, F, hi⟩ := ha'
    refine any_core hB hl (fun i q hq p hp he => ?_) (fun k o ho => by
      obtain ⟨d, x, D, h1, h2, h3, h4, h5⟩ := hst k o ho
      exact ⟨d, x, D, h1, h2, h3, h4, by simpa using h5⟩) (fun a w ha => hQ () _ _ _ hK ha) _ _ a _ (by simp) ?_ ?_ ?_
    · obtain ⟨k, hk⟩ := List.getElem?_of_mem hp
      have hkl : k < l.length := by
        rcases Nat.lt_or_ge k st.length with h | h
        · omega
        · rw [List.getElem?_eq_none h] at hk; cases hk
      obtain ⟨d, x, D, h1, h2, _⟩ := hst k l[k] (List.getElem?_eq_getElem hkl)
      rw [hk] at h1; simp at h1; subst h1
      simp only [purgeD_eq] at hq
      split at hq
      · simp [refs] at hq
      · rename_i hany
        simp only [List.any_eq_true, not_exists, not_and] at hany
        refine hany q hq ?_
        rw [List.contains_iff_mem, List.mem_filterMap]
        exact ⟨l[k], List.getElem_mem hkl, by rw [h2]; exact congrArg some he⟩
    · simp
    · intro i o ho hi
      rcases Nat.lt_or_ge i l.length with h | h
      · simp [h] at hi
      · simp [h] at hi
    · rw [mix_none _ _ _ (fun k => by
        rcases Nat.lt_or_ge k l.length with h | h
        · simp [h]
        · simp [h])]
      exact ⟨hdf, hsz, β, F, hi.same rfl rfl rfl⟩
end
section
variable {P : Program} {N : Nat} {A : Bool} {σ : Sig} {ty : TypeId} {o : Oper} {d : Nat}
/-- The same; references to places that lie not behind the one that is stored to are kept. -/
theorem o_store_ownU {t off s y : Nat} {g : Bool} {q : Place} {x : Operand} {z v y' : AV} (ho : o.op = .store t x (.tmp y)) (hd : o.dst = none) (ht : tyAgg P t = some (g, s)) (hx : RdTo N true σ x (.rp q off)) (hyN : y < N) (hy : σ y = v)
    (hyq : Nat.beq y q.1 = false) (hv : bigV v = true) (hn : noRefL (cellsOf v) = true) (hrv : refs v = [])
    (hz : node (σ q.1) q.2 = some z) (hzo : z.isOwn = true) (hc : cellL (cellsOf v) = true) (hs : (cellsOf v).length = s) (hl : off + s ≤ (kids z).length)
    (hr : refs (σ q.1) = []) (hres : setNode (σ q.1) q.2 (setKids z (setL (kids z) off (cellsOf v))) = y') : OStep P N o σ (upd (fun i => purgeU q (upd σ y .undef i)) q.1 y') := by
  intro gv e a w ⟨hdf, hsz, β, F, hi⟩ K Q hK
  have hyq' : y ≠ q.1 := fun h => by subst h; simp at hyq
  have ex := hx.rep rfl (fun _ _ => rfl) hi (0, [])
  obtain ⟨hi1, hd1⟩ := hi.detach_slot (t := y) (by rw [hy]; exact hrv)
  rw [hy] at hd1
  have hval : valOf N gv a y = a.eval (.tmp y) := by simp [valOf, hyN, Act.eval]
  rw [hval] at hd1
  obtain ⟨δ', hd2⟩ := hd1.cellsOf hv hn
  have hul := hd2.repL.1
  have hur := hd2.repL.2
  have hz1 : node (upd σ y .undef q.1) q.2 = some z := by rw [upd_other _ _ (Ne.symm hyq')]; exact hz
  have hr1 : refs (upd σ y .undef q.1) = [] := by rw [upd_other _ _ (Ne.symm hyq')]; exact hr
  have hq : blk (upd σ y .undef) q = some (kids z) := by
    unfold blk; rw [hz1]
    cases z <;> simp [AV.isOwn] at hzo <;> rfl
  simp only [Rep] at ex
  obtain ⟨b, s1, hb1, ex⟩ := ex
  rcases hi1.block hq with ⟨hb2, _⟩ | ⟨b2, s2, arr, tt, hb2, hh, hrc, hnr⟩
  · rw [hb1] at hb2; cases hb2
  · rw [hb1] at hb2
    simp only [Option.some.injEq, Prod.mk.injEq] at hb2
    obtain ⟨rfl, rfl⟩ := hb2
    have hcl := hrc.len
    simp only [Array.length_toList] at hcl
    have hrun := run_storeAt (b := b) (off := off) ht (v := a.eval (.tmp y)) (hul.trans hs) hh (by omega) (ones_of hur hul hc)
    obtain ⟨β', h⟩ := hi1.store (ns := cellsOf v) (off := off) (cs := kids z) hz1 hzo rfl hb1 hh hr1 hd2 hn hnr (by rw [← hul]; omega) (σ1 := fun i => purgeU q (upd σ y .undef i)) (fun i _ => purge_under i)
    rw [upd_other _ _ (Ne.symm hyq'), hres] at h
    refine wp_unit (w' := w.setRow b (spliceV arr.toList off (a.eval (.tmp y)).cells.toList).toArray) ?_ (hK _ _ ⟨?_, ?_, β', F, ?_⟩)
    · simp only [execOp, ho, ex, hrun, Sem.run_bind, Sem.run_pure, Result.andThen_ok]
    · rw [hd]; exact hdf
    · rw [hd]; exact hsz
    · rw [hd]; exact h
end
end Go.Av
namespace Go.Av
open Go
theorem bl_pureO (B : List Bool) : pureL (blcells B) = true ∧ noNilL (blcells B) = true := by
  constructor
  · refine pureL_iff.2 fun c hc => ?_
    obtain ⟨n, _, rfl⟩ := List.mem_map.1 hc; rfl
  · induction B with
    | nil => rfl
    | cons x xs ih => simp only [blcells, List.map_cons, noNilL, noNil, Bool.true_and]; exact ih
theorem nr_rowsO {L : List (List Int)} {n : Nat} {cap : Option Nat} : noRef (.op [.osl 1 (osls L) n cap]) = true := by simp [noRef, noRefL, osls_noRef]
theorem snap_row {σ : Sig} {q : Place} {n : Nat} {cs : List AV} (h : node (σ q.1) q.2 = some (.osl 1 cs n none)) (hp : pureL cs = true ∧ noNilL cs = true) : snapV σ (.rsl q 1 0 n none) = .sl cs n := by
  simp only [snapV, blk, h, List.drop_zero, shL_id cs hp.1 hp.2]
theorem rep_nils_get {n i : Nat} (h : i < n) : (rep n [AV.nils])[i]? = some .nils := by
  unfold rep; induction n generalizing i with
  | zero => omega
  | succ n ih =>
    rw [List.replicate_succ, List.flatten_cons]
    cases i with
    | zero => rfl
    | succ i => simpa using ih (i := i) (by omega)
theorem osls_rep_get {n i : Nat} {c : AV} (h : (osls (List.replicate n []))[i]? = some c) : i < n ∧ c = .osl 1 [] 0 none := by
  unfold osls at h
  rw [List.getElem?_map] at h
  by_cases hi : i < n
  · rw [List.getElem?_replicate_of_lt hi] at h
    exact ⟨hi, (Option.some.inj h).symm⟩
  · rw [List.getElem?_eq_none (by simp; omega)] at h; simp at h
/-- A new list of nil rows owns its rows. -/
theorem ent_rows {σ : Sig} {t n : Nat} {cap : Option Nat} (h : σ t = .osl 1 (rep n [.nils]) n cap) : Ent σ (upd (fun i => purgeV t (σ i)) t (.osl 1 (osls (List.replicate n [])) n none)) := fun e val w β F hi => by
  have hroot : ∀ q b s, OwnAt (upd (fun i => purgeV t (σ i)) t (.osl 1 (osls (List.replicate n [])) n none)) q → (if q.1 = t ∧ q.2 ≠ [] then none else β q) = some (b, s) → OwnAt σ q ∧ β q = some (b, s) := fun q b s hq hb => by
    split at hb
    · cases hb
    · rename_i hn
      refine ⟨?_, hb⟩
      obtain ⟨y, hy, ho⟩ := hq
      by_cases hq1 : q.1 = t
      · have hq2 : q.2 = [] := Classical.byContradiction fun h => hn ⟨hq1, h⟩
        exact ⟨σ t, by rw [hq1, hq2]; rfl, by rw [h]; rfl⟩
      · rw [upd_other _ _ hq1, purgeV_eq] at hy
        split at hy
        · rw [noOwn_pure (x := .undef) rfl hy] at ho; cases ho
        · exact ⟨y, hy, ho⟩
  refine ⟨fun q => if q.1 = t ∧ q.2 ≠ [] then none else β q, fun i => ?_, fun q q' b s s' hq hq' hb hb' => hi.disj q q' b s s' (hroot q b s hq hb).1 (hroot q' b s' hq' hb').1 (hroot q b s hq hb).2 (hroot q' b s' hq' hb').2,
    fun q b s hq hb => hi.sep q b s (hroot q b s hq hb).1 (hroot q b s hq hb).2, hi.fr, hi.kept, hi.grow, hi.tame⟩
  by_cases hit : i = t
  · subst hit
    rw [upd_same]
    have hr := hi.rep i
    rw [h] at hr
    simp only [Rep] at hr ⊢
    rcases hr with ⟨h1, h2, h3, h4, _⟩ | ⟨_, b, capv, arr, tt, h1, h2, h3, _, h5, h6, h7⟩
    · exact .inl ⟨by simpa using h1, h2, by subst h4; rfl, h4, fun c hc => by cases hc⟩
    · refine .inr ⟨osls_noRef _, b, capv, arr, tt, by simpa using h1, h2, h3, nofun, h5, h6, ?_⟩
      rw [RepL_iff]
      intro j c hc
      obtain ⟨hj, rfl⟩ := osls_rep_get hc
      obtain ⟨u, hu, hru⟩ := RepL_iff.1 h7 j _ (rep_nils_get hj)
      refine ⟨u, hu, ?_⟩
      simp only [Rep] at hru ⊢
      exact .inl ⟨by simp, ⟨none, hru⟩, trivial, trivial, fun c hc => by cases hc⟩
  · rw [upd_other _ _ hit, purgeV_eq]
    split
    · simp [Rep]
    · rename_i hany
      refine (hi.rep i).tr _ (fun b hb => ⟨hb, rfl⟩) (fun r y _ _ => ⟨by simp [hit], fun _ _ _ => rfl⟩) (fun q hq => ?_)
      have : q.1 ≠ t := fun he => hany (List.any_eq_true.2 ⟨q, hq, by simp [he]⟩)
      simp [this]
end Go.Av
namespace Go.Av
open Go
def ptOk (vars : Int) (L : List (List Int)) (xs : List TN) (i : Int) : Bool := treeB vars L xs && inR i 0 ((xs.length : Int) - 1)
def ptR (vars : Int) (L : List (List Int)) (xs : List TN) (i : Int) : List Int := if ptOk vars L xs i then gl (pthL xs) i.toNat else []
theorem ptR_no {vars : Int} {L : List (List Int)} {xs : List TN} {i : Int} (h : ptOk vars L xs i = false) : ptR vars L xs i = [] := by unfold ptR; rw [h]; rfl
theorem ptR_yes {vars : Int} {L : List (List Int)} {xs : List TN} {i : Int} (h : ptOk vars L xs i = true) : ptR vars L xs i = gl (pthL xs) i.toNat := by unfold ptR; rw [h]; rfl
theorem ptOk_spec {vars : Int} {L : List (List Int)} {xs : List TN} {i : Int} (h : ptOk vars L xs i = true) : treeB vars L xs = true ∧ ∃ m : Nat, i = m ∧ m < xs.length := by
  unfold ptOk at h
  simp only [Bool.and_eq_true, inR_spec] at h
  exact ⟨h.1, i.toNat, by omega, by omega⟩
theorem ptR_len (vars : Int) (L : List (List Int)) (xs : List TN) (i : Int) : (ptR vars L xs i).length ≤ 12 := by
  cases h : ptOk vars L xs i with
  | false => rw [ptR_no h]; simp
  | true => rw [ptR_yes h]; exact clB_len ((pth_ok (ptOk_spec h).1).2 _)
end Go.Av
namespace Go.Av
open Go Go.Proofs Go.Sort
set_option maxRecDepth 10000


theorem iPathsO_c (vars m : Int) (xs : List TN) (hv : 0 ≤ vars ∧ vars ≤ 12) (h0 : 0 < xs.length) (hl : xs.length ≤ 199) (ha : allN vars m xs = true) : ACall Try.prog 24 [.sl (tncells xs) xs.length] [] (.tup [.osl 1 (osls (pthL xs)) (pthL xs).length none, .bool (trI xs 0).isSome]) [] := by
  refine BCall.intro Try.func24 rfl (N := 86) rfl (by decide) (by simp) ?_
  refine b_seqA ?_
  refine a_region ?_
  refine r_new (v := .op [.nils]) (q_alloc zc22) rfl rfl (by decide) ?_
  refine r_new (v := .op [.bool _]) (q_alloc zc4) rfl rfl (by decide) ?_
  refine r_nil ?_
  refine b_seqA ?_
  refine a_region ?_
  refine r_val (v := .sl _ _) (v_move (.inl rfl) (noOwn_flat rfl)) rfl rfl (by decide) ?_
  refine r_val (v := .int _ _) (v_len_sl sl33 (.inl rfl)) rfl rfl (by decide) ?_
  refine r_new (v := .osl _ _ _ _) (q_makeSlice us22 sb28 zc28 rfl (by decide) (.inl rfl) (.inl rfl) (fun _ => by omega)) rfl rfl (by decide) ?_
  refine r_new (v := .op [.nils]) (q_alloc zc22) rfl rfl (by decide) ?_
  refine r_pre (ent_rows (t := 10) rfl) ?_
  refine r_step rfl (o_store_own (v := .osl _ _ _ _) (y' := .op [.osl _ _ _ _]) rfl rfl ta22 (.inl rfl) (by decide) rfl (by decide) rfl (by simp [cellsOf, noRefL, noRef, osls_noRef]) rfl rfl rfl rfl rfl (Nat.le_of_ble_eq_true rfl) rfl rfl) ?_
  refine r_nil ?_
  refine b_seqA ?_
  refine a_region ?_
  refine r_val (v := .sl _ _) (v_move (.inl rfl) (noOwn_flat rfl)) rfl rfl (by decide) ?_
  refine r_val (v := .int _ _) (v_len_sl sl33 (.inl rfl)) rfl rfl (by decide) ?_
  refine r_new (v := .osl _ _ _ _) (q_makeSlice us62 sb4 zc4 rfl (by decide) (.inl rfl) (.inl rfl) (fun _ => by omega)) rfl rfl (by decide) ?_
  refine r_new (v := .op [.nils]) (q_alloc zc62) rfl rfl (by decide) ?_
  refine r_pre (ent_eq (t := 13) (v' := .osl 1 (blcells (List.replicate xs.length false)) xs.length none) (Weak.osl (bl_rep _).symm rfl)) ?_
  refine r_step rfl (o_store_own (v := .osl _ _ _ _) (y' := .op [.osl _ _ _ _]) rfl rfl ta62 (.inl rfl) (by decide) rfl (by decide) rfl (by simp [cellsOf, noRefL, noRef, bl_noRef]) rfl rfl rfl rfl rfl (Nat.le_of_ble_eq_true rfl) rfl rfl) ?_
  refine r_nil ?_
  refine b_seqA ?_
  have hpl : (((xs.length : Int) - 1).toNat) * 1 + 1 ≤ (blcells (List.replicate xs.length false)).length := (by rw [bl_len]; simp; omega)
  have hset : (blcells (List.replicate xs.length false)).set (((xs.length : Int) - 1).toNat * 1) (.bool true) = blcells (seenL xs xs.length) := (by rw [Nat.mul_one, bl_set, seen_top, show ((xs.length : Int) - 1).toNat = xs.length - 1 by omega])
  refine a_region ?_
  refine r_val (v := .rsl _ _ _ _ _) (v_load_rp (c := .osl _ _ _ _) ta62 (.inl rfl) rfl (fun _ => rfl)) rfl rfl (by decide) ?_
  refine r_val (v := .sl _ _) (v_move (.inl rfl) (noOwn_flat rfl)) rfl rfl (by decide) ?_
  refine r_val (v := .int _ _) (v_len_sl sl33 (.inl rfl)) rfl rfl (by decide) ?_
  refine r_val (v := .int _ _) (v_sub (.inl rfl) (.inl rfl) (fun _ => by omega)) rfl rfl (by decide) ?_
  refine r_val (v := .rp _ _) (v_indexAddr_rsl0 es62 (.inl rfl) (.inl rfl) (fun _ => by omega)) rfl rfl (by decide) ?_
  refine r_step rfl (o_store (v := .bool _) (y' := .op [.osl _ _ _ _]) rfl rfl ta4 (.inl rfl) (.inl rfl) rfl rfl rfl rfl rfl rfl hpl (by decide) rfl (congrArg (fun c => AV.op [AV.osl 1 c xs.length none]) hset)) ?_
  refine r_nil ?_
  refine b_seqB ?_
  refine b_seqA ?_
  refine a_region ?_
  refine r_val (v := .sl _ _) (v_move (.inl rfl) (noOwn_flat rfl)) rfl rfl (by decide) ?_
  refine r_new (v := .fn _ _ _) (q_callF (vs := [.sl _ _]) (args := [.sl _ _]) hb37 ⟨.inl rfl, trivial⟩ rfl (fun hA => back_c xs) rfl rfl) rfl rfl (by decide) ?_
  refine r_nil ?_
  refine b_block ?_
  refine b_pre (ent_look (L := [(2, .op [.nils]), (3, .op [.bool _]), (4, .op [.osl _ _ _ _]), (5, .op [.osl _ _ _ _]), (20, .fn _ _ _)]) ⟨Weak.rfl, Weak.rfl, Weak.rfl, Weak.rfl, Weak.rfl, trivial⟩) ?_
  refine b_range (fun k => .agg [.int .i64 (gn xs k).1, .int .i64 (gn xs k).2.1, .int .i64 (gn xs k).2.2.1, .int .i64 (gn xs k).2.2.2]) [2, 3, 4, 5] [(2, .rp (2000002, []) 0), (3, .rp (2000003, []) 0), (4, .rp (2000004, []) 0), (5, .rp (2000005, []) 0)] (fun k => [(2000002, .op [.nils]), (2000003, .op [.bool false]), (2000004, .op [.osl 1 (osls (trP xs k)) xs.length none]), (2000005, .op [.osl 1 (blcells (seenL xs k)) xs.length none])]) (fun k => (trI xs k).isSome = true) (by decide) (by decide) rfl hb49 (back_it h0 (by omega)) (fun k hk => ⟨rfl, fun β F w p => tn_rep β F w p⟩) ⟨by decide, by decide, by decide⟩ rfl ⟨rfl, rfl, nr_rowsO, nr_bools, trivial⟩ (ent_look ⟨Weak.rfl, Weak.rfl, Weak.rfl, Weak.rfl, Weak.rfl, Weak.rfl, Weak.of_eq (congrArg (fun P => AV.op [AV.osl 1 (osls P) xs.length none]) (tr_top xs).symm), Weak.rfl, trivial⟩) (by rw [trI_top]; rfl) (fun k hk => ⟨rfl, ⟨⟨by decide, .inr rfl⟩, ⟨by decide, .inr rfl⟩, ⟨by decide, .inr rfl⟩, ⟨by decide, .inr rfl⟩, trivial⟩, ⟨rfl, rfl, nr_rowsO, nr_bools, trivial⟩⟩) (fun k hk hG => ?_) (fun hG => ?_)
  ·
    skip
    have hPo := tr_ok hv ha hG
    refine a_pre (ent_look (L := [(22, .agg [.int .i64 (gn xs k).1, .int .i64 (gn xs k).2.1, .int .i64 (gn xs k).2.2.1, .int .i64 (gn xs k).2.2.2]), (21, .int .i64 ((k : Nat) : Int)), (2, .rp (2000002, []) 0), (3, .rp (2000003, []) 0), (4, .rp (2000004, []) 0), (5, .rp (2000005, []) 0), (2000002, .op [.nils]), (2000003, .op [.bool false]), (2000004, .op [.osl 1 (osls (trP xs (k + 1))) xs.length none]), (2000005, .op [.osl 1 (blcells (seenL xs (k + 1))) xs.length none])]) ⟨Weak.rfl, Weak.rfl, Weak.rfl, Weak.rfl, Weak.rfl, Weak.rfl, Weak.rfl, Weak.rfl, Weak.rfl, Weak.rfl, trivial⟩) ?_
    refine a_seq ?_
    refine a_region ?_
    refine r_val (v := .int _ _) (v_assign (.inl rfl) (noOwn_flat rfl)) rfl rfl (by decide) ?_
    refine r_nil ?_
    refine a_region ?_
    refine r_new (v := .op [.int _ _, .int _ _, .int _ _, .int _ _]) (q_alloc zc48) rfl rfl (by decide) ?_
    refine r_step rfl (o_store (v := .agg [.int _ _, .int _ _, .int _ _, .int _ _]) (y' := .op [.int _ _, .int _ _, .int _ _, .int _ _]) rfl rfl ta48 (.inl rfl) (.inl rfl) rfl rfl rfl rfl rfl rfl (Nat.le_of_ble_eq_true rfl) (by decide) rfl rfl) ?_
    refine r_nil ?_
    refine ⟨rfl, ?_⟩
    refine a_block ?_
    refine a_seq ?_
    refine a_seq ?_
    refine a_region ?_
    refine r_val (v := .rsl _ _ _ _ _) (v_load_rp (c := .osl _ _ _ _) ta62 (.inl rfl) rfl (fun _ => rfl)) rfl rfl (by decide) ?_
    refine r_val (v := .int _ _) (v_move (.inl rfl) (noOwn_flat rfl)) rfl rfl (by decide) ?_
    refine r_val (v := .rp _ _) (v_indexAddr_rsl0 es62 (.inl rfl) (.inl rfl) (fun _ => by omega)) rfl rfl (by decide) ?_
    refine r_val (v := .bool (seenB xs (k + 1) k)) (v_load_rp1 ta4 (.inl rfl) rfl (fun _ => by rw [Nat.mul_one]; exact bl_get (seenL_get hk)) rfl) rfl rfl (by decide) ?_
    refine r_val (v := .bool _) (v_not (.inl rfl)) rfl rfl (by decide) ?_
    refine r_nil ?_
    refine a_cond rfl (fun ht27 => ?_) (fun ht27 => ?_)
    ·
      skip
      refine a_seq ?_
      have hun := tr_unseen hk hG (by simpa using ht27)
      refine a_region ?_
      refine r_step rfl (o_store (v := .nils) (y' := .op [.nils]) rfl rfl ta22 (.inl rfl) (.inl rfl) rfl rfl rfl rfl rfl rfl (Nat.le_of_ble_eq_true rfl) (by decide) rfl rfl) ?_
      refine r_step rfl (o_store (v := .bool _) (y' := .op [.bool _]) rfl rfl ta4 (.inl rfl) (.inl rfl) rfl rfl rfl rfl rfl rfl (Nat.le_of_ble_eq_true rfl) (by decide) rfl rfl) ?_
      refine r_nil ?_
      refine a_pre (ent_nil_at (t := 2000002) (r := [0]) (sz := 1) rfl (.inl rfl) rfl rfl) ?_
      refine a_ret ?_
      refine ⟨[(2000002, .op [.osl 1 [] 0 none]), (2000003, .op [.bool false]), (2000004, .op [.osl 1 (osls (trP xs (k + 1))) xs.length none]), (2000005, .op [.osl 1 (blcells (seenL xs (k + 1))) xs.length none])], ent_look ⟨Weak.rfl, Weak.rfl, Weak.rfl, Weak.rfl, trivial⟩, ⟨rfl, ⟨⟨by decide, .inr rfl⟩, ⟨by decide, .inr rfl⟩, ⟨by decide, .inr rfl⟩, ⟨by decide, .inr rfl⟩, trivial⟩, ⟨rfl, rfl, nr_rowsO, nr_bools, trivial⟩⟩, ?_⟩
      refine Returns.pre (ent_look (L := [(2, .op [.osl 1 [] 0 none]), (3, .op [.bool false]), (4, .op [.osl 1 (osls (trP xs (k + 1))) xs.length none]), (5, .op [.osl 1 (blcells (seenL xs (k + 1))) xs.length none])]) ⟨Weak.rfl, Weak.rfl, Weak.rfl, Weak.rfl, trivial⟩) ?_
      refine retL (rs := [.cell 2 22, .cell 3 4]) [(2, .op [.osl _ _ _ none]), (3, .op [.bool _])] ⟨Weak.rfl, Weak.rfl, trivial⟩ rfl Try.results24 (by decide) ⟨by decide, .osl _ _ _ none, cell_one rfl ta22, by decide, .bool _, cell_one rfl ta4, rfl⟩ (by decide) (by decide) (l2_eq (osl_eq2 ?_ ?_) (bool_eq ?_)) rfl
      all_goals (first | exact hun.symm | (rw [pth_none hun]; rfl))
    ·
      skip
      refine a_skip ?_
      refine a_seq ?_
      refine a_seq ?_
      have hse : seenB xs (k + 1) k = true := (by simpa using ht27)
      refine a_region ?_
      refine r_val (v := .rp _ _) (v_fieldAddr_rp fo48_0 (.inl rfl)) rfl rfl (by decide) ?_
      refine r_val (v := .int _ _) (v_load_rp1 ta3 (.inl rfl) rfl (fun _ => rfl) rfl) rfl rfl (by decide) ?_
      refine r_val (v := .bool _) (v_eql (.inl rfl) (.inl rfl)) rfl rfl (by decide) ?_
      refine r_nil ?_
      refine a_cond rfl (fun ht30 => ?_) (fun ht30 => ?_)
      ·
        skip
        refine a_exit ?_
        exact ⟨ent_look ⟨Weak.of_eq rfl, Weak.of_eq rfl, Weak.of_eq (congrArg (fun P => AV.op [AV.osl 1 (osls P) xs.length none]) (tr_leaf hk hG hse (by simpa [nV] using ht30)).1.symm), Weak.of_eq (congrArg (fun B => AV.op [AV.osl 1 (blcells B) xs.length none]) (seen_leaf hk (by simpa [nV] using ht30)).symm), trivial⟩, (tr_leaf hk hG hse (by simpa [nV] using ht30)).2⟩
      ·
        skip
        refine a_skip ?_
        refine a_seq ?_
        refine a_seq ?_
        refine a_pre (ent_look (L := [(2, .rp _ _), (3, .rp _ _), (4, .rp _ _), (5, .rp _ _), (6, .int _ _), (7, .op [.int _ _, .int _ _, .int _ _, .int _ _]), (2000002, .op [.nils]), (2000003, .op [.bool _]), (2000004, .op [.osl _ _ _ _]), (2000005, .op [.osl _ _ _ _])]) ⟨Weak.rfl, Weak.rfl, Weak.rfl, Weak.rfl, Weak.rfl, Weak.rfl, Weak.rfl, Weak.rfl, Weak.rfl, Weak.rfl, trivial⟩) ?_
        have hvn : nV xs k ≠ 0 := (by simpa [nV] using ht30)
        have hin := inner_spec (allN_spec ha k hk) hvn
        have hde := ded_on (p := gl (trP xs (k + 1)) k) (v := (gn xs k).1) (by unfold nV at hin; omega)
        have hpc := clB_len (hPo.2 k)
        have hps := clB_sm (hPo.2 k)
        refine a_region_anyV (d := 53) (b := (bif (bif seenB xs (k + 1) (nLo xs k) then true else seenB xs (k + 1) (nHi xs k)) then true else decide ((gn xs k).1 ∈ (dedN (insertionSort (fun x y : Int => decide (x < y)) ((gl (trP xs (k + 1)) k).map fun x => max x (-x)).toArray 0 ((gl (trP xs (k + 1)) k).map fun x => max x (-x)).length) ((gl (trP xs (k + 1)) k).map fun x => max x (-x)).length)))) [(4, .pp [.sl (sls (trP xs (k + 1))) xs.length] 0), (5, .pp [.sl (blcells (seenL xs (k + 1))) xs.length] 0), (6, .int .i64 ((k : Nat) : Int)), (7, .pp [.int .i64 (gn xs k).1, .int .i64 (gn xs k).2.1, .int .i64 (gn xs k).2.2.1, .int .i64 (gn xs k).2.2.2] 0)] mixed (by kernel_rfl) (by decide) ⟨⟨by decide, (by show AV.pp [AV.sl (shL (osls _)) _] 0 = _; rw [shL_osls])⟩, ⟨by decide, (by show AV.pp [AV.sl (shL (blcells _)) _] 0 = _; rw [shL_id _ (bl_pureO _).1 (bl_pureO _).2])⟩, ⟨by decide, rfl⟩, ⟨by decide, rfl⟩, trivial⟩ ?_ ?_
        · skip
          refine y_val (v := .sl _ _) (v_load_pp ta62 (.inl rfl) (fun _ => rfl) rfl) rfl rfl (by decide) (by kernel_rfl) ?_
          refine y_val (v := .pp _ _) (v_fieldAddr_pp fo48_1 (.inl rfl)) rfl rfl (by decide) (by kernel_rfl) ?_
          refine y_val (v := .int _ _) (v_load_pp ta3 (.inl rfl) (fun _ => rfl) rfl) rfl rfl (by decide) (by kernel_rfl) ?_
          refine y_val (v := .pp _ _) (v_indexAddr_sl es62 (.inl rfl) (.inl rfl) (fun _ => ⟨by omega, by omega, bl_ne (by rw [seenL_len]; omega)⟩)) rfl rfl (by decide) (by kernel_rfl) ?_
          refine y_val (v := .bool (seenB xs (k + 1) (nLo xs k))) (v_load_pp ta4 (.inl rfl) (fun _ => by rw [Nat.mul_one]; exact bl_get (seenL_get (show nLo xs k < xs.length by omega))) rfl) rfl rfl (by decide) (by kernel_rfl) ?_
          refine y_val (v := .bool _) (v_move (.inl rfl) (noOwn_flat rfl)) rfl rfl (by decide) (by kernel_rfl) ?_
          refine y_guard (v := .sl _ _) (v_load_pp ta62 (.inl rfl) (fun _ => rfl) rfl).quiet rfl rfl rfl (by decide) (.inl ⟨_, rfl, rfl⟩) rfl (by decide) (by kernel_rfl) ?_
          refine y_guard (v := .pp _ _) (v_fieldAddr_pp fo48_2 (.inl rfl)).quiet rfl rfl rfl (by decide) (.inl ⟨_, rfl, rfl⟩) rfl (by decide) (by kernel_rfl) ?_
          refine y_guard (v := .int _ _) (v_load_pp ta3 (.inr ⟨_, rfl, fun h => h⟩) (fun _ => rfl) rfl).quiet rfl rfl rfl (by decide) (.inl ⟨_, rfl, rfl⟩) rfl (by decide) (by kernel_rfl) ?_
          refine y_guard (v := .pp _ _) (v_indexAddr_sl es62 (.inr ⟨_, rfl, fun h => h⟩) (.inr ⟨_, rfl, fun h => h⟩) (fun _ => ⟨by omega, by omega, bl_ne (by rw [seenL_len]; omega)⟩)).quiet rfl rfl rfl (by decide) (.inl ⟨_, rfl, rfl⟩) rfl (by decide) (by kernel_rfl) ?_
          refine y_guard (v := .bool (seenB xs (k + 1) (nHi xs k))) (v_load_pp ta4 (.inr ⟨_, rfl, fun h => h⟩) (fun _ => by rw [Nat.mul_one]; exact bl_get (seenL_get (show nHi xs k < xs.length by omega))) rfl).quiet rfl rfl rfl (by decide) (.inl ⟨_, rfl, rfl⟩) rfl (by decide) (by kernel_rfl) ?_
          refine y_val (v := .bool _) (v_pick (.inl rfl) (.inl rfl) (.inr ⟨_, rfl, fun h h2 => by simp_all⟩)) rfl rfl (by decide) (by kernel_rfl) ?_
          refine y_val (v := .bool _) (v_move (.inl rfl) (noOwn_flat rfl)) rfl rfl (by decide) (by kernel_rfl) ?_
          refine y_guard (v := .sl _ _) (v_load_pp ta22 (.inl rfl) (fun _ => rfl) rfl).quiet rfl rfl rfl (by decide) (.inl ⟨_, rfl, rfl⟩) rfl (by decide) (by kernel_rfl) ?_
          refine y_guard (v := .int _ _) (v_move (.inl rfl) (noOwn_flat rfl)).quiet rfl rfl rfl (by decide) (.inl ⟨_, rfl, rfl⟩) rfl (by decide) (by kernel_rfl) ?_
          refine y_guard (v := .pp _ _) (v_indexAddr_sl es22 (.inr ⟨_, rfl, fun h => h⟩) (.inr ⟨_, rfl, fun h => h⟩) (fun _ => ⟨by omega, by omega, sls_ne (show k < (trP xs (k + 1)).length by rw [hPo.1]; exact hk)⟩)).quiet rfl rfl rfl (by decide) (.inl ⟨_, rfl, rfl⟩) rfl (by decide) (by kernel_rfl) ?_
          refine y_guard (v := .sl (icells (gl (trP xs (k + 1)) k)) (gl (trP xs (k + 1)) k).length) (v_load_pp ta28 (.inr ⟨_, rfl, fun h => h⟩) (fun _ => by rw [Nat.mul_one]; exact sls_get (show k < (trP xs (k + 1)).length by rw [hPo.1]; exact hk)) rfl).quiet rfl rfl rfl (by decide) (.inl ⟨_, rfl, rfl⟩) rfl (by decide) (by kernel_rfl) ?_
          refine y_guard (v := .sl [.sl (icells (gl (trP xs (k + 1)) k)) (gl (trP xs (k + 1)) k).length] 1) ((q_sliceLit1Z (v := .sl _ _) (cs := [.sl (icells (gl (trP xs (k + 1)) k)) (gl (trP xs (k + 1)) k).length]) (.inr ⟨_, rfl, fun h => h⟩) (noOwn_flat rfl) lt22 rfl rfl rfl rfl).cast (by first | rfl | rw [shL_id _ (ic_pure _).1 (ic_pure _).2])) rfl rfl rfl (by decide) (.inl ⟨_, rfl, rfl⟩) rfl (by decide) (by kernel_rfl) ?_
          refine y_guard (v := .sl _ _) (QSem.cast (q_callZ (vs := [.sl _ _]) (args := [.sl _ _]) hb39 ⟨.inr ⟨_, rfl, fun h => h⟩, trivial⟩ rfl (fun hA => varsOf1_c (gl (trP xs (k + 1)) k) hpc hps) (ic_noSh _) (ic_noRef _)) (sl_shZ (ic_pure _))) rfl rfl rfl (by decide) (.inl ⟨_, rfl, rfl⟩) rfl (by decide) (by kernel_rfl) ?_
          refine y_guard (v := .pp _ _) (v_fieldAddr_pp fo48_0 (.inl rfl)).quiet rfl rfl rfl (by decide) (.inl ⟨_, rfl, rfl⟩) rfl (by decide) (by kernel_rfl) ?_
          refine y_guard (v := .int _ _) (v_load_pp ta3 (.inr ⟨_, rfl, fun h => h⟩) (fun _ => rfl) rfl).quiet rfl rfl rfl (by decide) (.inl ⟨_, rfl, rfl⟩) rfl (by decide) (by kernel_rfl) ?_
          refine y_guard (v := .bool _) (q_call (vs := [.sl _ _, .int _ _]) (args := [.sl _ _, .int .i64 _]) hb38 ⟨.inr ⟨_, rfl, fun h => h⟩, .inr ⟨_, rfl, fun h => h⟩, trivial⟩ rfl (fun hA => contains_c (dedN (insertionSort (fun x y : Int => decide (x < y)) ((gl (trP xs (k + 1)) k).map fun x => max x (-x)).toArray 0 ((gl (trP xs (k + 1)) k).map fun x => max x (-x)).length) ((gl (trP xs (k + 1)) k).map fun x => max x (-x)).length) _ (ded_few9 hpc)) rfl rfl) rfl rfl rfl (by decide) (.inl ⟨_, rfl, rfl⟩) rfl (by decide) (by kernel_rfl) ?_
          refine y_val (v := .bool _) (v_pick (.inl rfl) (.inl rfl) (.inr ⟨_, rfl, fun h h2 => by simp_all⟩)) rfl rfl (by decide) (by kernel_rfl) ?_
          refine y_nil ?_
          rfl
        refine a_cond rfl (fun ht53 => ?_) (fun ht53 => ?_)
        ·
          skip
          refine a_seq ?_
          refine a_pre (ent_look (L := [(2, .rp _ _), (3, .rp _ _), (4, .rp _ _), (5, .rp _ _), (6, .int _ _), (7, .op [.int _ _, .int _ _, .int _ _, .int _ _]), (2000002, .op [.nils]), (2000003, .op [.bool _]), (2000004, .op [.osl _ _ _ _]), (2000005, .op [.osl _ _ _ _])]) ⟨Weak.rfl, Weak.rfl, Weak.rfl, Weak.rfl, Weak.rfl, Weak.rfl, Weak.rfl, Weak.rfl, Weak.rfl, Weak.rfl, trivial⟩) ?_
          have hbad := tr_bad hk hG hvn (by rw [hde] at ht53; unfold trOn nV; revert ht53; cases seenB xs (k + 1) (nLo xs k) <;> cases seenB xs (k + 1) (nHi xs k) <;> simp)
          refine a_region ?_
          refine r_step rfl (o_store (v := .nils) (y' := .op [.nils]) rfl rfl ta22 (.inl rfl) (.inl rfl) rfl rfl rfl rfl rfl rfl (Nat.le_of_ble_eq_true rfl) (by decide) rfl rfl) ?_
          refine r_step rfl (o_store (v := .bool _) (y' := .op [.bool _]) rfl rfl ta4 (.inl rfl) (.inl rfl) rfl rfl rfl rfl rfl rfl (Nat.le_of_ble_eq_true rfl) (by decide) rfl rfl) ?_
          refine r_nil ?_
          refine a_pre (ent_nil_at (t := 2000002) (r := [0]) (sz := 1) rfl (.inl rfl) rfl rfl) ?_
          refine a_ret ?_
          refine ⟨[(2000002, .op [.osl 1 [] 0 none]), (2000003, .op [.bool false]), (2000004, .op [.osl 1 (osls (trP xs (k + 1))) xs.length none]), (2000005, .op [.osl 1 (blcells (seenL xs (k + 1))) xs.length none])], ent_look ⟨Weak.rfl, Weak.rfl, Weak.rfl, Weak.rfl, trivial⟩, ⟨rfl, ⟨⟨by decide, .inr rfl⟩, ⟨by decide, .inr rfl⟩, ⟨by decide, .inr rfl⟩, ⟨by decide, .inr rfl⟩, trivial⟩, ⟨rfl, rfl, nr_rowsO, nr_bools, trivial⟩⟩, ?_⟩
          refine Returns.pre (ent_look (L := [(2, .op [.osl 1 [] 0 none]), (3, .op [.bool false]), (4, .op [.osl 1 (osls (trP xs (k + 1))) xs.length none]), (5, .op [.osl 1 (blcells (seenL xs (k + 1))) xs.length none])]) ⟨Weak.rfl, Weak.rfl, Weak.rfl, Weak.rfl, trivial⟩) ?_
          refine retL (rs := [.cell 2 22, .cell 3 4]) [(2, .op [.osl _ _ _ none]), (3, .op [.bool _])] ⟨Weak.rfl, Weak.rfl, trivial⟩ rfl Try.results24 (by decide) ⟨by decide, .osl _ _ _ none, cell_one rfl ta22, by decide, .bool _, cell_one rfl ta4, rfl⟩ (by decide) (by decide) (l2_eq (osl_eq2 ?_ ?_) (bool_eq ?_)) rfl
          all_goals (first | exact hbad.symm | (rw [pth_none hbad]; rfl))
        ·
          skip
          refine a_skip ?_
          refine a_seq ?_
          refine a_pre (ent_look (L := [(2, .rp _ _), (3, .rp _ _), (4, .rp _ _), (5, .rp _ _), (6, .int _ _), (7, .op [.int _ _, .int _ _, .int _ _, .int _ _]), (2000002, .op [.nils]), (2000003, .op [.bool _]), (2000004, .op [.osl _ _ _ _]), (2000005, .op [.osl _ _ _ _])]) ⟨Weak.rfl, Weak.rfl, Weak.rfl, Weak.rfl, Weak.rfl, Weak.rfl, Weak.rfl, Weak.rfl, Weak.rfl, Weak.rfl, trivial⟩) ?_
          have hgo : (seenB xs (k + 1) (nLo xs k) || seenB xs (k + 1) (nHi xs k) || trOn xs k (trP xs (k + 1))) = false := (by rw [hde] at ht53; unfold trOn nV; revert ht53; cases seenB xs (k + 1) (nLo xs k) <;> cases seenB xs (k + 1) (nHi xs k) <;> simp)
          have hgood := tr_good hk hG hse hvn hgo
          have hon := trOn_no (by simp at hgo; exact hgo.2)
          have hl1 : litB vars (nV xs k) = true := litB_spec.2 ⟨by omega, by omega⟩
          have hl2 : litB vars (-(nV xs k)) = true := litB_spec.2 ⟨by omega, by omega⟩
          have hp1 : (nLo xs k) * 1 + 1 ≤ (blcells (seenL xs (k + 1))).length := (by rw [bl_len]; simp [seenL_len]; omega)
          have hs1 : (blcells (seenL xs (k + 1))).set ((nLo xs k) * 1) (.bool true) = blcells ((seenL xs (k + 1)).set (nLo xs k) true) := (by rw [Nat.mul_one, bl_set])
          have hp2 : (nHi xs k) * 1 + 1 ≤ (blcells ((seenL xs (k + 1)).set (nLo xs k) true)).length := (by rw [bl_len]; simp [seenL_len]; omega)
          have hs2 : (blcells ((seenL xs (k + 1)).set (nLo xs k) true)).set ((nHi xs k) * 1) (.bool true) = blcells (((seenL xs (k + 1)).set (nLo xs k) true).set (nHi xs k) true) := (by rw [Nat.mul_one, bl_set])
          have hp3 : (nLo xs k) * 1 + 1 ≤ (osls (trP xs (k + 1))).length := (by rw [osls_length]; simp [hPo.1]; omega)
          have hs3 : (osls (trP xs (k + 1))).set ((nLo xs k) * 1) (.osl 1 (icells (setLit (gl (trP xs (k + 1)) k) (-(nV xs k)))) (setLit (gl (trP xs (k + 1)) k) (-(nV xs k))).length none) = osls ((trP xs (k + 1)).set (nLo xs k) (setLit (gl (trP xs (k + 1)) k) (-(nV xs k)))) := (by rw [Nat.mul_one, osls_set])
          have hp4 : (nHi xs k) * 1 + 1 ≤ (osls ((trP xs (k + 1)).set (nLo xs k) (setLit (gl (trP xs (k + 1)) k) (-(nV xs k))))).length := (by rw [osls_length]; simp [hPo.1]; omega)
          have hs4 : (osls ((trP xs (k + 1)).set (nLo xs k) (setLit (gl (trP xs (k + 1)) k) (-(nV xs k))))).set ((nHi xs k) * 1) (.osl 1 (icells (setLit (gl (trP xs (k + 1)) k) (nV xs k))) (setLit (gl (trP xs (k + 1)) k) (nV xs k)).length none) = osls (((trP xs (k + 1)).set (nLo xs k) (setLit (gl (trP xs (k + 1)) k) (-(nV xs k)))).set (nHi xs k) (setLit (gl (trP xs (k + 1)) k) (nV xs k))) := (by rw [Nat.mul_one, osls_set])
          have hz1 : (osls (trP xs (k + 1)))[k]? = some (.osl 1 (icells (gl (trP xs (k + 1)) k)) (gl (trP xs (k + 1)) k).length none) := osls_get (by rw [hPo.1]; exact hk)
          have hrow : gl ((trP xs (k + 1)).set (nLo xs k) (setLit (gl (trP xs (k + 1)) k) (-(nV xs k)))) k = gl (trP xs (k + 1)) k := (by rw [gl_set, if_neg (by omega)])
          have hz2 : (osls ((trP xs (k + 1)).set (nLo xs k) (setLit (gl (trP xs (k + 1)) k) (-(nV xs k)))))[k]? = some (.osl 1 (icells (gl (trP xs (k + 1)) k)) (gl (trP xs (k + 1)) k).length none) := (by rw [osls_get (by rw [List.length_set, hPo.1]; exact hk), hrow])
          have hPf : ((trP xs (k + 1)).set (nLo xs k) (setLit (gl (trP xs (k + 1)) k) (-(nV xs k)))).set (nHi xs k) (setLit (gl (trP xs (k + 1)) k) (nV xs k)) = trP xs k := (by rw [hgood.1]; unfold trPut; rw [set_put hon.1 hon.2, set_put hon.2 (by rw [Int.neg_neg]; exact hon.1)])
          refine a_region ?_
          refine r_val (v := .rsl _ _ _ _ _) (v_load_rp (c := .osl _ _ _ _) ta62 (.inl rfl) rfl (fun _ => rfl)) rfl rfl (by decide) ?_
          refine r_val (v := .rp _ _) (v_fieldAddr_rp fo48_1 (.inl rfl)) rfl rfl (by decide) ?_
          refine r_val (v := .int _ _) (v_load_rp1 ta3 (.inl rfl) rfl (fun _ => rfl) rfl) rfl rfl (by decide) ?_
          refine r_val (v := .rp _ _) (v_indexAddr_rsl0 es62 (.inl rfl) (.inl rfl) (fun _ => by omega)) rfl rfl (by decide) ?_
          refine r_step rfl (o_store (v := .bool _) (y' := .op [.osl _ _ _ _]) rfl rfl ta4 (.inl rfl) (.inl rfl) rfl rfl rfl rfl rfl rfl hp1 (by decide) rfl (congrArg (fun c => AV.op [AV.osl 1 c xs.length none]) hs1)) ?_
          refine r_nil ?_
          refine a_seq ?_
          refine a_region ?_
          refine r_val (v := .rsl _ _ _ _ _) (v_load_rp (c := .osl _ _ _ _) ta62 (.inl rfl) rfl (fun _ => rfl)) rfl rfl (by decide) ?_
          refine r_val (v := .rp _ _) (v_fieldAddr_rp fo48_2 (.inl rfl)) rfl rfl (by decide) ?_
          refine r_val (v := .int _ _) (v_load_rp1 ta3 (.inl rfl) rfl (fun _ => rfl) rfl) rfl rfl (by decide) ?_
          refine r_val (v := .rp _ _) (v_indexAddr_rsl0 es62 (.inl rfl) (.inl rfl) (fun _ => by omega)) rfl rfl (by decide) ?_
          refine r_step rfl (o_store (v := .bool _) (y' := .op [.osl _ _ _ _]) rfl rfl ta4 (.inl rfl) (.inl rfl) rfl rfl rfl rfl rfl rfl hp2 (by decide) rfl (congrArg (fun c => AV.op [AV.osl 1 c xs.length none]) hs2)) ?_
          refine r_nil ?_
          refine a_seq ?_
          refine a_region_z (n := 12) [[(62, true)], [(63, true)], [(64, true)], [(65, true)], [(66, true)], [(67, true)], [(68, true)], [(69, true)], [(70, true)], [(71, true)], [(72, true)], [(73, true)]] mixed (by kernel_rfl) ?_
          refine z_val (v := .rsl _ _ _ _ _) (v_load_rp (c := .osl _ _ _ _) ta22 (.inl rfl) rfl (fun _ => rfl)) rfl rfl (by decide) rfl (by kernel_rfl) ?_
          refine z_val (v := .rp _ _) (v_fieldAddr_rp fo48_1 (.inl rfl)) rfl rfl (by decide) rfl (by kernel_rfl) ?_
          refine z_val (v := .int _ _) (v_load_rp1 ta3 (.inl rfl) rfl (fun _ => rfl) rfl) rfl rfl (by decide) rfl (by kernel_rfl) ?_
          refine z_val (v := .rsl _ _ _ _ _) (v_load_rp (c := .osl _ _ _ _) ta22 (.inl rfl) rfl (fun _ => rfl)) rfl rfl (by decide) rfl (by kernel_rfl) ?_
          refine z_val (v := .int _ _) (v_move (.inl rfl) (noOwn_flat rfl)) rfl rfl (by decide) rfl (by kernel_rfl) ?_
          refine z_val (v := .rp _ _) (v_indexAddr_rsl0 es22 (.inl rfl) (.inl rfl) (fun _ => by omega)) rfl rfl (by decide) rfl (by kernel_rfl) ?_
          refine z_val (v := .rsl (2000004, [0, k]) 1 0 (gl (trP xs (k + 1)) k).length none) ((v_load_rp (c := .osl _ _ _ _) ta28 (.inl rfl) rfl (fun _ => by rw [Nat.mul_one]; exact hz1)).cast ((by show AV.rsl (2000004, [0] ++ [(k : Int).toNat * 1]) 1 0 _ none = _; rw [Nat.mul_one]; rfl))) rfl rfl (by decide) rfl (by kernel_rfl) ?_
          refine z_val (v := .rp _ _) (v_fieldAddr_rp fo48_0 (.inl rfl)) rfl rfl (by decide) rfl (by kernel_rfl) ?_
          refine z_val (v := .int _ _) (v_load_rp1 ta3 (.inl rfl) rfl (fun _ => rfl) rfl) rfl rfl (by decide) rfl (by kernel_rfl) ?_
          refine z_val (v := .int _ _) (v_neg (.inl rfl) (fun _ => by unfold nV at hin; omega)) rfl rfl (by decide) rfl (by kernel_rfl) ?_
          refine z_new (v := .osl _ _ _ _) (q_call (vs := [.rsl _ _ _ _ _, .int _ _]) (args := [.sl _ _, .int .i64 _]) hb40 ⟨.inl rfl, .inl rfl, trivial⟩ (l2_eq (snap_row (by show (match (osls (trP xs (k + 1)))[k]? with | some y => node y [] | none => none) = _; rw [hz1]; rfl) (ic_pure _)) rfl) (fun hA => set_c vars (gl (trP xs (k + 1)) k) (-(nV xs k)) (hPo.2 k) hl2) (ic_noSh _) (ic_noRef _)) rfl rfl (by decide) rfl (by kernel_rfl) ?_
          refine z_val (v := .rp _ _) (v_indexAddr_rsl0 es22 (.inl rfl) (.inl rfl) (fun _ => by omega)) rfl rfl (by decide) rfl (by kernel_rfl) ?_
          refine z_nil ?_
          refine r_step rfl (o_store_ownU (v := .osl _ _ _ _) (y' := .op [.osl _ _ _ _]) rfl rfl ta28 (.inl rfl) (by decide) rfl (by decide) rfl (by simp [cellsOf, noRefL, noRef, ic_noRef]) rfl rfl rfl rfl rfl hp3 rfl (congrArg (fun c => AV.op [AV.osl 1 c xs.length none]) hs3)) ?_
          refine r_nil ?_
          refine a_pre (ent_look (L := [(2, .rp _ _), (3, .rp _ _), (4, .rp _ _), (5, .rp _ _), (6, .int _ _), (7, .op [.int _ _, .int _ _, .int _ _, .int _ _]), (2000002, .op [.nils]), (2000003, .op [.bool _]), (2000004, .op [.osl _ _ _ _]), (2000005, .op [.osl _ _ _ _])]) ⟨Weak.rfl, Weak.rfl, Weak.rfl, Weak.rfl, Weak.rfl, Weak.rfl, Weak.rfl, Weak.rfl, Weak.rfl, Weak.rfl, trivial⟩) ?_
          refine a_region_z (n := 11) [[(74, true)], [(75, true)], [(76, true)], [(77, true)], [(78, true)], [(79, true)], [(80, true)], [(81, true)], [(82, true)], [(83, true)], [(84, true)]] mixed (by kernel_rfl) ?_
          refine z_val (v := .rsl _ _ _ _ _) (v_load_rp (c := .osl _ _ _ _) ta22 (.inl rfl) rfl (fun _ => rfl)) rfl rfl (by decide) rfl (by kernel_rfl) ?_
          refine z_val (v := .rp _ _) (v_fieldAddr_rp fo48_2 (.inl rfl)) rfl rfl (by decide) rfl (by kernel_rfl) ?_
          refine z_val (v := .int _ _) (v_load_rp1 ta3 (.inl rfl) rfl (fun _ => rfl) rfl) rfl rfl (by decide) rfl (by kernel_rfl) ?_
          refine z_val (v := .rsl _ _ _ _ _) (v_load_rp (c := .osl _ _ _ _) ta22 (.inl rfl) rfl (fun _ => rfl)) rfl rfl (by decide) rfl (by kernel_rfl) ?_
          refine z_val (v := .int _ _) (v_move (.inl rfl) (noOwn_flat rfl)) rfl rfl (by decide) rfl (by kernel_rfl) ?_
          refine z_val (v := .rp _ _) (v_indexAddr_rsl0 es22 (.inl rfl) (.inl rfl) (fun _ => by omega)) rfl rfl (by decide) rfl (by kernel_rfl) ?_
          refine z_val (v := .rsl (2000004, [0, k]) 1 0 (gl (trP xs (k + 1)) k).length none) ((v_load_rp (c := .osl _ _ _ _) ta28 (.inl rfl) rfl (fun _ => by rw [Nat.mul_one]; exact hz2)).cast ((by show AV.rsl (2000004, [0] ++ [(k : Int).toNat * 1]) 1 0 _ none = _; rw [Nat.mul_one]; rfl))) rfl rfl (by decide) rfl (by kernel_rfl) ?_
          refine z_val (v := .rp _ _) (v_fieldAddr_rp fo48_0 (.inl rfl)) rfl rfl (by decide) rfl (by kernel_rfl) ?_
          refine z_val (v := .int _ _) (v_load_rp1 ta3 (.inl rfl) rfl (fun _ => rfl) rfl) rfl rfl (by decide) rfl (by kernel_rfl) ?_
          refine z_new (v := .osl _ _ _ _) (q_call (vs := [.rsl _ _ _ _ _, .int _ _]) (args := [.sl _ _, .int .i64 _]) hb40 ⟨.inl rfl, .inl rfl, trivial⟩ (l2_eq (snap_row (by show (match (osls ((trP xs (k + 1)).set (nLo xs k) (setLit (gl (trP xs (k + 1)) k) (-(nV xs k)))))[k]? with | some y => node y [] | none => none) = _; rw [hz2]; rfl) (ic_pure _)) rfl) (fun hA => set_c vars (gl (trP xs (k + 1)) k) (nV xs k) (hPo.2 k) hl1) (ic_noSh _) (ic_noRef _)) rfl rfl (by decide) rfl (by kernel_rfl) ?_
          refine z_val (v := .rp _ _) (v_indexAddr_rsl0 es22 (.inl rfl) (.inl rfl) (fun _ => by omega)) rfl rfl (by decide) rfl (by kernel_rfl) ?_
          refine z_nil ?_
          refine r_step rfl (o_store_ownU (v := .osl _ _ _ _) (y' := .op [.osl _ _ _ _]) rfl rfl ta28 (.inl rfl) (by decide) rfl (by decide) rfl (by simp [cellsOf, noRefL, noRef, ic_noRef]) rfl rfl rfl rfl rfl hp4 rfl (congrArg (fun c => AV.op [AV.osl 1 c xs.length none]) hs4)) ?_
          refine r_nil ?_
          exact ⟨ent_look ⟨Weak.of_eq rfl, Weak.of_eq rfl, Weak.of_eq (congrArg (fun P => AV.op [AV.osl 1 (osls P) xs.length none]) hPf), Weak.of_eq (congrArg (fun B => AV.op [AV.osl 1 (blcells B) xs.length none]) (seen_inner hk hvn)), trivial⟩, hgood.2⟩
  ·
    skip
    refine b_pre (ent_look (L := [(2, .op [.nils]), (3, .op [.bool false]), (4, .op [.osl 1 (osls (trP xs 0)) xs.length none]), (5, .op [.osl 1 (blcells (seenL xs 0)) xs.length none])]) ⟨Weak.rfl, Weak.rfl, Weak.rfl, Weak.rfl, trivial⟩) ?_
    refine b_lift ?_
    refine a_seq ?_
    refine a_region ?_
    refine r_val (v := .rsl _ _ _ _ _) (v_load_rp (c := .osl _ _ _ _) ta22 (.inl rfl) rfl (fun _ => rfl)) rfl rfl (by decide) ?_
    refine r_pre (ent_reloc_sl (t := 85) rfl rfl) ?_
    refine r_step rfl (o_store_own (v := .osl _ _ _ _) (y' := .op [.osl _ _ _ _]) rfl rfl ta22 (.inl rfl) (by decide) rfl (by decide) rfl (by simp [cellsOf, noRefL, noRef, osls_noRef]) rfl rfl rfl rfl rfl (Nat.le_of_ble_eq_true rfl) rfl rfl) ?_
    refine r_step rfl (o_store (v := .bool _) (y' := .op [.bool _]) rfl rfl ta4 (.inl rfl) (.inl rfl) rfl rfl rfl rfl rfl rfl (Nat.le_of_ble_eq_true rfl) (by decide) rfl rfl) ?_
    refine r_nil ?_
    refine a_ret ?_
    refine retL (rs := [.cell 2 22, .cell 3 4]) [(2, .op [.osl _ _ _ none]), (3, .op [.bool _])] ⟨Weak.rfl, Weak.rfl, trivial⟩ rfl Try.results24 (by decide) ⟨by decide, .osl _ _ _ none, cell_one rfl ta22, by decide, .bool _, cell_one rfl ta4, rfl⟩ (by decide) (by decide) (l2_eq (osl_eq2 ?_ ?_) (bool_eq ?_)) rfl
    all_goals (first | rfl | exact hG.symm | exact (tr_ok hv ha hG).1.symm)
end Go.Av
namespace Go.Av
open Go Go.Proofs Go.Sort
set_option maxRecDepth 10000
theorem hb24 : hasBody Try.prog 24 = true := by kernel_rfl
theorem hb35 : hasBody Try.prog 35 = true := by kernel_rfl
theorem hb36 : hasBody Try.prog 36 = true := by kernel_rfl

theorem isTree_c (vars : Int) (L : List (List Int)) (xs : List TN) (hk : CnfOk vars L) (hl : xs.length ≤ 1048576) : ACall Try.prog 22 [.agg [.int .i64 vars, .sl (sls L) L.length], .sl (tncells xs) xs.length] [] (.bool (treeB vars L xs)) [] := by
  refine ACall.intro Try.func22 rfl (N := 37) rfl (by decide) (by simp) ?_
  refine a_seq ?_
  refine a_region ?_
  refine r_new (v := .op [.int _ _, .sl _ _]) (q_box (.inl rfl) rfl rfl) rfl rfl (by decide) ?_
  refine r_val (v := .bool _) (v_assign (.inl rfl) (noOwn_flat rfl)) rfl rfl (by decide) ?_
  refine r_nil ?_
  refine a_seq ?_
  refine a_seq ?_
  refine a_region ?_
  refine r_val (v := .agg [.int _ _, .sl _ _]) (v_load_rpa1 ta31 (.inl rfl) rfl rfl (fun _ => rfl) rfl) rfl rfl (by decide) ?_
  refine r_new (v := .bool _) (q_call (vs := [.agg [.int _ _, .sl _ _]]) (args := [.agg [.int .i64 _, .sl _ _]]) hb35 ⟨.inl rfl, trivial⟩ rfl (fun hA => isCnf_c vars L hk) rfl rfl) rfl rfl (by decide) ?_
  refine r_val (v := .bool _) (v_not (.inl rfl)) rfl rfl (by decide) ?_
  refine r_val (v := .bool _) (v_move (.inl rfl) (noOwn_flat rfl)) rfl rfl (by decide) ?_
  refine r_gval (v := .sl _ _) (v_move (.inl rfl) (noOwn_flat rfl)) rfl rfl rfl (by decide) (.inl ⟨_, rfl, rfl⟩) rfl (by decide) ?_
  refine r_gval (v := .int _ _) (v_len_sl sl33 (.inr ⟨_, rfl, fun h => h⟩)) rfl rfl rfl (by decide) (.inl ⟨_, rfl, rfl⟩) rfl (by decide) ?_
  refine r_guard (v := .bool _) (q_call (vs := [.int _ _, .int _ _, .int _ _]) (args := [.int .i64 _, .int .i64 _, .int .i64 _]) hb23 ⟨.inr ⟨_, rfl, fun h => h⟩, .inl rfl, .inl rfl, trivial⟩ rfl (fun hA => within_c _ _ _) rfl rfl) rfl rfl rfl (by decide) (.inl ⟨_, rfl, rfl⟩) rfl (by decide) ?_
  refine r_gval (v := .bool _) (v_not (.inr ⟨_, rfl, fun h => h⟩)) rfl rfl rfl (by decide) (.inl ⟨_, rfl, rfl⟩) rfl (by decide) ?_
  refine r_val (v := .bool _) (v_pick (.inl rfl) (.inl rfl) (.inr ⟨_, rfl, fun h h2 => by simp_all⟩)) rfl rfl (by decide) ?_
  refine r_nil ?_
  refine a_cond rfl (fun ht17 => ?_) (fun ht17 => ?_)
  ·
    skip
    refine a_seq ?_
    have hno : (cnfB vars L && inR xs.length 1 199) = false := (by cases h1 : cnfB vars L <;> cases h2 : inR xs.length 1 199 <;> simp_all)
    have htn := treeB_len hno
    refine a_region ?_
    refine r_val (v := .bool _) (v_assign (.inl rfl) (noOwn_flat rfl)) rfl rfl (by decide) ?_
    refine r_nil ?_
    refine a_ret ?_
    refine ret1 Try.results22 (by decide) (by decide) (Weak.of_eq (bool_eq ?_)) rfl Leaves.nil
    exact htn.symm
  ·
    skip
    refine a_skip ?_
    refine a_seq ?_
    refine a_seq ?_
    have hyes : cnfB vars L = true ∧ inR xs.length 1 199 = true := (by cases h1 : cnfB vars L <;> cases h2 : inR xs.length 1 199 <;> simp_all)
    have hcs := cnfB_spec hyes.1
    have hrg : 0 < xs.length ∧ xs.length ≤ 199 := (by have := hyes.2; simp [inR] at this; omega)
    have hLl : (L.length : Int) ≤ 1000000 := (by omega)
    refine a_region ?_
    refine r_val (v := .sl _ _) (v_move (.inl rfl) (noOwn_flat rfl)) rfl rfl (by decide) ?_
    refine r_val (v := .int _ _) (v_len_sl sl33 (.inl rfl)) rfl rfl (by decide) ?_
    refine r_val (v := .int _ _) (v_move (.inl rfl) (noOwn_flat rfl)) rfl rfl (by decide) ?_
    refine r_nil ?_
    refine a_block ?_
    refine a_loop (X := Nat) (fun i => look [(1, .sl (tncells xs) xs.length), (2, .op [.int .i64 vars, .sl (sls L) L.length]), (18, .sl (tncells xs) xs.length), (19, .int .i64 ((xs.length : Nat) : Int)), (20, .int .i64 ((i : Nat) : Int))]) (fun i => i ≤ xs.length ∧ ∀ j : Nat, j < i → nodeB vars L.length j (gn xs j) = true) (fun i => xs.length - i) 0 (ent_look ⟨Weak.of_eq rfl, Weak.of_eq rfl, Weak.of_eq rfl, Weak.of_eq rfl, Weak.of_eq rfl, trivial⟩) ⟨Nat.zero_le _, fun j h => by omega⟩ (fun i hG => ?_)
    obtain ⟨g1, g2⟩ := hG
    refine a_seq ?_
    refine a_region ?_
    refine r_val (v := .bool _) (v_lss (.inl rfl) (.inl rfl)) rfl rfl (by decide) ?_
    refine r_nil ?_
    refine a_seq ?_
    refine a_cond rfl (fun ht21 => ?_) (fun ht21 => ?_)
    ·
      skip
      refine a_skip ?_
      refine a_seq ?_
      refine a_block ?_
      refine a_seq ?_
      have hi : i < xs.length := (by simp at ht21; omega)
      refine a_region ?_
      refine r_val (v := .int _ _) (v_move (.inl rfl) (noOwn_flat rfl)) rfl rfl (by decide) ?_
      refine r_val (v := .pp _ _) (v_indexAddr_sl es33 (.inl rfl) (.inl rfl) (fun _ => ⟨by omega, by omega, tn_ne hi⟩)) rfl rfl (by decide) ?_
      refine r_val (v := .agg [.int .i64 (gn xs i).1, .int .i64 (gn xs i).2.1, .int .i64 (gn xs i).2.2.1, .int .i64 (gn xs i).2.2.2]) (v_load_ppa1 ta48 (.inl rfl) rfl (fun _ => tn_four hi) rfl) rfl rfl (by decide) ?_
      refine r_new (v := .op [.int _ _, .int _ _, .int _ _, .int _ _]) (q_alloc zc48) rfl rfl (by decide) ?_
      refine r_val (v := .int _ _) (v_assign (.inl rfl) (noOwn_flat rfl)) rfl rfl (by decide) ?_
      refine r_step rfl (o_store (v := .agg [.int _ _, .int _ _, .int _ _, .int _ _]) (y' := .op [.int _ _, .int _ _, .int _ _, .int _ _]) rfl rfl ta48 (.inl rfl) (.inl rfl) rfl rfl rfl rfl rfl rfl (Nat.le_of_ble_eq_true rfl) (by decide) rfl rfl) ?_
      refine r_nil ?_
      refine a_seq ?_
      refine a_region ?_
      refine r_val (v := .agg [.int _ _, .sl _ _]) (v_load_rpa1 ta31 (.inl rfl) rfl rfl (fun _ => rfl) rfl) rfl rfl (by decide) ?_
      refine r_val (v := .int _ _) (v_move (.inl rfl) (noOwn_flat rfl)) rfl rfl (by decide) ?_
      refine r_val (v := .agg [.int _ _, .int _ _, .int _ _, .int _ _]) (v_load_rpa1 ta48 (.inl rfl) rfl rfl (fun _ => rfl) rfl) rfl rfl (by decide) ?_
      refine r_new (v := .bool _) (q_call (vs := [.agg [.int _ _, .sl _ _], .int _ _, .agg [.int _ _, .int _ _, .int _ _, .int _ _]]) (args := [.agg [.int .i64 _, .sl _ _], .int .i64 _, .agg [.int .i64 _, .int .i64 _, .int .i64 _, .int .i64 _]]) hb36 ⟨.inl rfl, .inl rfl, .inl rfl, trivial⟩ rfl (fun hA => nodeOk_c vars L (gn xs i) i hLl (by omega)) rfl rfl) rfl rfl (by decide) ?_
      refine r_val (v := .bool _) (v_not (.inl rfl)) rfl rfl (by decide) ?_
      refine r_nil ?_
      refine a_cond rfl (fun ht29 => ?_) (fun ht29 => ?_)
      ·
        skip
        refine a_seq ?_
        have htn := treeB_node (L := L) (allN_no hi (by simpa using ht29))
        refine a_region ?_
        refine r_val (v := .bool _) (v_assign (.inl rfl) (noOwn_flat rfl)) rfl rfl (by decide) ?_
        refine r_nil ?_
        refine a_ret ?_
        refine ret1 Try.results22 (by decide) (by decide) (Weak.of_eq (bool_eq ?_)) rfl Leaves.nil
        exact htn.symm
      ·
        skip
        refine a_skip ?_
        refine a_region ?_
        refine r_val (v := .int _ _) (v_add (.inl rfl) (.inl rfl) (fun _ => by omega)) rfl rfl (by decide) ?_
        refine r_val (v := .int _ _) (v_move (.inl rfl) (noOwn_flat rfl)) rfl rfl (by decide) ?_
        refine r_nil ?_
        refine ⟨i + 1, ent_look ⟨Weak.of_eq rfl, Weak.of_eq rfl, Weak.of_eq rfl, Weak.of_eq rfl, Weak.of_eq (int_eq (by omega)), trivial⟩, ⟨by omega, fun j h1 => by rcases Nat.lt_or_ge j i with h | h; exact g2 j h; (obtain rfl : j = i := by omega); simpa using ht29⟩, by omega⟩
    ·
      skip
      refine a_exit ?_
      refine a_seq ?_
      have hie : i = xs.length := (by simp at ht21; omega)
      have hall : allN vars L.length xs = true := allN_yes (fun j hj => g2 j (by omega))
      refine a_region ?_
      refine r_val (v := .sl _ _) (v_move (.inl rfl) (noOwn_flat rfl)) rfl rfl (by decide) ?_
      refine r_new (v := .tup [.osl _ _ _ _, .bool _]) (q_callF (vs := [.sl _ _]) (args := [.sl _ _]) hb24 ⟨.inl rfl, trivial⟩ rfl (fun hA => iPaths_c vars L.length xs hcs.1 hrg.1 hrg.2 hall) rfl (by simp [noRef, noRefL, sls_noRef])) rfl rfl (by decide) ?_
      refine r_val (v := .tup [.rsl _ _ _ _ _, .bool _]) (v_mv rfl) rfl rfl (by decide) ?_
      refine r_val (v := .rsl _ _ _ _ _) (v_extract rfl rfl) rfl rfl (by decide) ?_
      refine r_val (v := .bool _) (v_extract rfl rfl) rfl rfl (by decide) ?_
      refine r_val (v := .rsl _ _ _ _ _) (v_assign (.inl rfl) (noOwn_flat rfl)) rfl rfl (by decide) ?_
      refine r_pre (ent_reloc_sl (t := 7) rfl rfl) ?_
      refine r_val (v := .bool _) (v_assign (.inl rfl) (noOwn_flat rfl)) rfl rfl (by decide) ?_
      refine r_nil ?_
      refine a_seq ?_
      refine a_region ?_
      refine r_val (v := .bool _) (v_move (.inl rfl) (noOwn_flat rfl)) rfl rfl (by decide) ?_
      refine r_val (v := .bool _) (v_assign (.inl rfl) (noOwn_flat rfl)) rfl rfl (by decide) ?_
      refine r_nil ?_
      refine a_ret ?_
      refine ret1 Try.results22 (by decide) (by decide) (Weak.of_eq (bool_eq ?_)) rfl Leaves.nil
      exact (treeB_yes hyes.1 hrg hall).symm
end Go.Av
namespace Go.Av
open Go Go.Proofs Go.Sort
set_option maxRecDepth 10000
theorem hb29 : hasBody Try.prog 29 = true := by kernel_rfl
theorem hb30 : hasBody Try.prog 30 = true := by kernel_rfl
theorem hb32 : hasBody Try.prog 32 = true := by kernel_rfl
theorem hb33 : hasBody Try.prog 33 = true := by kernel_rfl

end Go.Av
