/- Lemmas, part 5. -/
import Derived.Test.YtciapnffpjmggaaGreatA4
import Derived.RangeFuncLeaves
import Derived.RangeFuncRecord
import Derived.RangeFuncSeq
import Derived.RangeFuncBound
set_option linter.unusedVariables false
set_option linter.unusedSimpArgs false
namespace Go.Av
open Go Go.Proofs Go.Sort
set_option maxRecDepth 10000
theorem hb32 : hasBody Tryz.prog 32 = true := by kernel_rfl
theorem hb34 : hasBody Tryz.prog 34 = true := by kernel_rfl
theorem has_c (c : List Int) (n : Nat) (l : Int) (hl : c.length = n ∧ n ≤ 9223372036854775807) : ACall Tryz.prog 32 [.sl (icells c) n, .int .i64 l] [] (.bool (decide (l ∈ c))) [] := by
  refine ACall.intro Tryz.func32 rfl (N := 18) rfl (by decide) (by simp) ?_
  refine a_seq ?_
  refine a_region ?_
  refine rv (v := .bool _) (v_assign (.inl rfl) nf) ?_
  refine r_nil ?_
  refine a_seq ?_
  refine a_seq ?_
  refine a_region ?_
  refine rv (v := .int _ _) (v_assign (.inl rfl) nf) ?_
  refine r_nil ?_
  refine a_block ?_
  refine a_loop (X := Nat) (fun i => look [(0, .sl (icells c) n), (1, .int .i64 l), (5, .int .i64 ((i : Nat) : Int))]) (fun i => i ≤ n ∧ ∀ j, j < i → gd c j ≠ l) (fun i => n - i) 0 (ent_look ⟨Weak.of_eq rfl, Weak.of_eq rfl, Weak.of_eq rfl, trivial⟩) ⟨Nat.zero_le _, fun j h => by omega⟩ (fun i hG => ?_)
  obtain ⟨g1, g2⟩ := hG
  refine a_seq ?_
  refine a_seq ?_
  refine a_region ?_
  refine rv (v := .int _ _) (v_move (.inl rfl) nf) ?_
  refine rv (v := .sl _ _) (v_move (.inl rfl) nf) ?_
  refine rv (v := .int _ _) (v_len_sl sl25 (.inl rfl)) ?_
  refine rv (v := .bool _) (v_lss (.inl rfl) (.inl rfl)) ?_
  refine r_nil ?_
  refine a_cond rfl (fun ht9 => ?_) (fun ht9 => ?_)
  ·
    skip
    refine a_skip ?_
    refine a_seq ?_
    refine a_block ?_
    refine a_seq ?_
    have hi : i < c.length := (by simp at ht9; omega)
    refine a_region ?_
    refine rv (v := .sl _ _) (v_move (.inl rfl) nf) ?_
    refine rv (v := .int _ _) (v_move (.inl rfl) nf) ?_
    refine rv (v := .pp _ _) (v_indexAddr_sl es25 (.inl rfl) (.inl rfl) (fun _ => ⟨by omega, by omega, icells_ne hi⟩)) ?_
    refine rv (v := .int .i64 (gd c i)) (v_load_pp ta3 (.inl rfl) (fun _ => by rw [Nat.mul_one]; exact icells_get (gd_get hi)) rfl) ?_
    refine rv (v := .int _ _) (v_move (.inl rfl) nf) ?_
    refine rv (v := .bool _) (v_eql (.inl rfl) (.inl rfl)) ?_
    refine r_nil ?_
    refine a_cond rfl (fun ht17 => ?_) (fun ht17 => ?_)
    ·
      skip
      refine a_seq ?_
      refine a_region ?_
      refine rv (v := .bool _) (v_assign (.inl rfl) nf) ?_
      refine r_nil ?_
      refine a_ret ?_
      refine ret1 Tryz.results32 (by decide) (by decide) (Weak.of_eq (bool_eq ?_)) rfl Leaves.nil
      rw [decide_eq_true]; rw [← of_decide_eq_true ht17]; exact gd_mem hi
    ·
      skip
      refine a_skip ?_
      refine a_region ?_
      refine rv (v := .int _ _) (v_move (.inl rfl) nf) ?_
      refine rv (v := .int _ _) (v_add (.inl rfl) (.inl rfl) (fun _ => by omega)) ?_
      refine rv (v := .int _ _) (v_assign (.inl rfl) nf) ?_
      refine r_nil ?_
      refine ⟨i + 1, ent_look ⟨Weak.of_eq rfl, Weak.of_eq rfl, Weak.of_eq (int_eq (by omega)), trivial⟩, ⟨by omega, fun j h1 => by rcases Nat.lt_or_ge j i with h | h; exact g2 j h; (obtain rfl : j = i := by omega); simpa using ht17⟩, by omega⟩
  ·
    skip
    refine a_exit ?_
    refine a_seq ?_
    refine a_region ?_
    refine rv (v := .bool _) (v_assign (.inl rfl) nf) ?_
    refine r_nil ?_
    refine a_ret ?_
    refine ret1 Tryz.results32 (by decide) (by decide) (Weak.of_eq (bool_eq ?_)) rfl Leaves.nil
    simp; intro h; obtain ⟨j, hj, hx⟩ := mem_gd h; exact g2 j (by simp at ht9; omega) hx
theorem has2_c (c : List Int) (n : Nat) (l : Int) (hl : c.length = n ∧ n ≤ 9223372036854775807) : ACall Tryz.prog 20 [.sl (icells c) n, .int .i64 l] [] (.bool (decide (l ∈ c))) [] := by
  refine ACall.intro Tryz.func20 rfl (N := 8) rfl (by decide) (by simp) ?_
  refine a_seq ?_
  refine a_region ?_
  refine rv (v := .bool _) (v_assign (.inl rfl) nf) ?_
  refine r_nil ?_
  refine a_seq ?_
  refine a_region ?_
  refine rv (v := .sl _ _) (v_move (.inl rfl) nf) ?_
  refine rv (v := .int _ _) (v_move (.inl rfl) nf) ?_
  refine rn (v := .bool _) (q_call (vs := [.sl _ _, .int _ _]) (args := [.sl _ _, .int .i64 _]) hb32 ⟨.inl rfl, .inl rfl, trivial⟩ rfl (fun hA => has_c _ _ _ hl) rfl rfl) ?_
  refine rv (v := .bool _) (v_assign (.inl rfl) nf) ?_
  refine r_nil ?_
  refine a_ret ?_
  refine ret1 Tryz.results20 (by decide) (by decide) (Weak.of_eq (bool_eq ?_)) rfl Leaves.nil
  rfl
theorem put_c (c : List Int) (n : Nat) (l : Int) (hl : c.length = n ∧ n ≤ 1048576) (hs : SmI c) (hb : -4611686018427387904 ≤ l ∧ l ≤ 4611686018427387904) : ACall Tryz.prog 21 [.sl (icells c) n, .int .i64 l] [] (.osl 1 (icells (putL c l)) (n + 1) none) [] := by
  refine ACall.intro Tryz.func21 rfl (N := 33) rfl (by decide) (by simp) ?_
  refine a_seq ?_
  refine a_region ?_
  refine rv (v := .nils) (v_assign (.inl rfl) nf) ?_
  refine r_nil ?_
  refine a_seq ?_
  refine a_region ?_
  refine rv (v := .int _ _) (v_assign (.inl rfl) nf) ?_
  refine r_nil ?_
  refine a_seq ?_
  refine a_block ?_
  refine a_loop (X := Nat) (fun i => look [(0, .sl (icells c) n), (1, .int .i64 l), (5, .int .i64 ((i : Nat) : Int))]) (fun i => i ≤ n ∧ c.take i ++ putL (c.drop i) l = putL c l) (fun i => n - i) 0 (ent_look ⟨Weak.of_eq rfl, Weak.of_eq rfl, Weak.of_eq rfl, trivial⟩) ⟨Nat.zero_le _, rfl⟩ (fun i hG => ?_)
  obtain ⟨g1, g2⟩ := hG
  have hsi := hs i
  refine a_seq ?_
  refine a_seq ?_
  refine a_region ?_
  refine rv (v := .int _ _) (v_move (.inl rfl) nf) ?_
  refine rv (v := .sl _ _) (v_move (.inl rfl) nf) ?_
  refine rv (v := .int _ _) (v_len_sl sl25 (.inl rfl)) ?_
  refine rv (v := .bool _) (v_lss (.inl rfl) (.inl rfl)) ?_
  refine rv (v := .bool _) (v_move (.inl rfl) nf) ?_
  refine r_gval (v := .sl _ _) (v_move (.inl rfl) nf) rfl rfl rfl (by decide) (.inl ⟨_, rfl, rfl⟩) rfl (by decide) ?_
  refine r_gval (v := .int _ _) (v_move (.inl rfl) nf) rfl rfl rfl (by decide) (.inl ⟨_, rfl, rfl⟩) rfl (by decide) ?_
  refine r_gval (v := .pp _ _) (v_indexAddr_sl es25 (.inr ⟨_, rfl, fun h => h⟩) (.inr ⟨_, rfl, fun h => h⟩) (fun hA => by simp at hA; exact ⟨by omega, by omega, icells_ne (show i < c.length by omega)⟩)) rfl rfl rfl (by decide) (.inl ⟨_, rfl, rfl⟩) rfl (by decide) ?_
  refine r_gval (v := .int .i64 (gd c i)) (v_load_pp ta3 (.inr ⟨_, rfl, fun h => h⟩) (fun hA => by simp at hA; rw [Nat.mul_one]; exact icells_get (gd_get (by omega))) rfl) rfl rfl rfl (by decide) (.inl ⟨_, rfl, rfl⟩) rfl (by decide) ?_
  refine r_guard (v := .int _ _) (q_call (vs := [.int _ _]) (args := [.int .i64 _]) hb33 ⟨.inr ⟨_, rfl, fun h => h⟩, trivial⟩ rfl (fun hA => l2Var_c _ (by omega)) rfl rfl) rfl rfl rfl (by decide) (.inl ⟨_, rfl, rfl⟩) rfl (by decide) ?_
  refine r_gval (v := .int _ _) (v_move (.inl rfl) nf) rfl rfl rfl (by decide) (.inl ⟨_, rfl, rfl⟩) rfl (by decide) ?_
  refine r_guard (v := .int _ _) (q_call (vs := [.int _ _]) (args := [.int .i64 _]) hb33 ⟨.inr ⟨_, rfl, fun h => h⟩, trivial⟩ rfl (fun hA => l2Var_c _ (by omega)) rfl rfl) rfl rfl rfl (by decide) (.inl ⟨_, rfl, rfl⟩) rfl (by decide) ?_
  refine r_gval (v := .bool _) (v_lss (.inr ⟨_, rfl, fun h => h⟩) (.inr ⟨_, rfl, fun h => h⟩)) rfl rfl rfl (by decide) (.inl ⟨_, rfl, rfl⟩) rfl (by decide) ?_
  refine rv (v := .bool _) (v_pick (.inl rfl) (.inr ⟨_, rfl, fun h h2 => by simp_all⟩) (.inl rfl)) ?_
  refine r_nil ?_
  refine a_cond rfl (fun ht19 => ?_) (fun ht19 => ?_)
  ·
    skip
    refine a_skip ?_
    refine a_block ?_
    refine a_region ?_
    refine rv (v := .int _ _) (v_move (.inl rfl) nf) ?_
    refine rv (v := .int _ _) (v_add (.inl rfl) (.inl rfl) (fun _ => by omega)) ?_
    refine rv (v := .int _ _) (v_assign (.inl rfl) nf) ?_
    refine r_nil ?_
    refine ⟨i + 1, ent_look ⟨Weak.of_eq rfl, Weak.of_eq rfl, Weak.of_eq (int_eq (by omega)), trivial⟩, ⟨by simp at ht19; omega, by simp at ht19; rw [put_more (by omega) ht19.2, g2]⟩, by simp at ht19; omega⟩
  ·
    skip
    refine a_exit ?_
    refine a_seq ?_
    have hst : putL (c.drop i) l = l :: c.drop i := put_stop (fun h => by simp at ht19; exact Int.not_lt.2 (ht19 (by omega)))
    refine a_region_x [[(22, true)], [(23, true)], [(24, true)], [(25, true)], [(26, true)], [(27, true)], [(25, false), (28, true)], [(29, true)], [(30, true)], [(31, true)], [(28, false), (32, true)], [(4, true)]] mixed (by kernel_rfl) ?_
    refine x_val (v := .sl _ _) (v_move (.inl rfl) nf) rfl rfl (by decide) rfl (by kernel_rfl) ?_
    refine x_val (v := .int _ _) (v_move (.inl rfl) nf) rfl rfl (by decide) rfl (by kernel_rfl) ?_
    refine x_val (v := .sl (icells (c.take i)) i) ((v_slice_sl (l := 0) (h := i) es25 (.inl rfl) (.inl ⟨rfl, rfl⟩) (.inr ⟨_, _, rfl, .inl rfl⟩) (fun _ => by omega)).cast (sl_eq2 (by simp [icells]) rfl)) rfl rfl (by decide) rfl (by kernel_rfl) ?_
    refine x_new (v := .osl _ _ _ _) (q_call (vs := [.sl _ _]) (args := [.sl _ _]) hb34 ⟨.inl rfl, trivial⟩ rfl (fun hA => l1Own_c (c.take i) i ⟨by rw [List.length_take]; omega, by omega⟩) (ic_noSh _) (ic_noRef _)) rfl rfl (by decide) rfl (by kernel_rfl) ?_
    refine x_val (v := .int _ _) (v_move (.inl rfl) nf) rfl rfl (by decide) rfl (by kernel_rfl) ?_
    refine x_new (v := .osl 1 (icells [l]) 1 (some 1)) (q_sliceLit (n := 1) (parts := [(0, .tmp 26)]) lt25 rfl rfl rfl rfl) rfl rfl (by decide) rfl (by kernel_rfl) ?_
    refine x_append rfl rfl ap25 rfl (by decide) (by decide) (by decide) rfl (src_lit (.inl rfl) rfl rfl (ic_pureL _)) (ic_cell _) (by rw [icells_length, List.length_take]; omega) (by omega) rfl (by kernel_rfl) ?_
    refine x_val (v := .sl _ _) (v_move (.inl rfl) nf) rfl rfl (by decide) rfl (by kernel_rfl) ?_
    refine x_val (v := .int _ _) (v_move (.inl rfl) nf) rfl rfl (by decide) rfl (by kernel_rfl) ?_
    refine x_val (v := .sl (icells (c.drop i)) (n - i)) ((v_slice_sl (l := i) (h := n) es25 (.inl rfl) (.inr ⟨_, _, rfl, .inl rfl⟩) (.inl ⟨rfl, rfl⟩) (fun _ => by omega)).cast (sl_eq2 (by rw [Nat.mul_one, Nat.mul_one, icells_drop, List.take_of_length_le (by rw [icells_length, List.length_drop]; omega)]) rfl)) rfl rfl (by decide) rfl (by kernel_rfl) ?_
    refine x_append rfl rfl ap25 rfl (by decide) (by decide) (by decide) rfl (src_sl (.inl rfl) (fun _ => by rw [icells_length, List.length_drop]; omega) (ic_pureL _)) (ic_cell _) (by rw [List.length_append, icells_length, icells_length, List.length_take]; simp; omega) (by omega) rfl (by kernel_rfl) ?_
    refine x_val (v := .rsl _ _ _ _ _) (v_assign (.inl rfl) nf) rfl rfl (by decide) rfl (by kernel_rfl) ?_
    refine x_nil ?_
    refine a_pre (ent_reloc_sl (t := 4) rfl rfl) ?_
    refine a_ret ?_
    refine ret1 Tryz.results21 (by decide) (by decide) (Weak.osl ?_ ?_) rfl Leaves.nil
    · rw [← g2, hst]; simp [icells]
    · omega
end Go.Av
namespace Go.Av
open Go Go.Proofs Go.Sort
set_option maxRecDepth 10000
end Go.Av
namespace Go.Av
open Go Go.Proofs Go.Sort
set_option maxRecDepth 10000
end Go.Av
namespace Go.Av
open Go Go.Proofs Go.Sort
set_option maxRecDepth 10000
end Go.Av
namespace Go.Av
open Go Go.Proofs Go.Sort
set_option maxRecDepth 10000
end Go.Av
namespace Go.Av
open Go Go.Proofs Go.Sort
set_option maxRecDepth 10000
end Go.Av
namespace Go.Av
open Go Go.Proofs Go.Sort
set_option maxRecDepth 10000
theorem hb87 : hasBody Tryz.prog 87 = true := by kernel_rfl
theorem del_c (f : Nat) (caps : List AV) (hf : hasBody Tryz.prog f = true) (hcap : capOk caps = true) (xs : List Int) (n : Nat) (p : Int → Bool) (hl : xs.length = n ∧ n ≤ 9223372036854775807) (hc : ∀ i, i < n → ACall Tryz.prog f (.int .i64 (gd xs i) :: caps) [] (.bool (p (gd xs i))) []) : ACall Tryz.prog 61 [.rsl (INH, []) 1 0 n none, .fn f [] caps] [.osl 1 (icells xs) n none] (.osl 1 (icells (xs.filter fun x => !p x)) (xs.filter fun x => !p x).length none) [.undef] := by
  obtain ⟨rfl, hn⟩ := hl
  refine ACall.intro Tryz.func61 rfl (N := 42) rfl (by decide) (by simp) ?_
  refine a_seq ?_
  refine a_region ?_
  refine rv (v := .nils) (v_assign (.inl rfl) nf) ?_
  refine r_nil ?_
  refine a_seq ?_
  refine a_region ?_
  refine rv (v := .rsl _ _ _ _ _) (v_move (.inl rfl) nf) ?_
  refine rv (v := .fn _ _ _) (v_mv rfl) ?_
  refine rn (v := .int _ _) (q_call (vs := [.rsl _ _ _ _ _, .fn _ _ _]) (args := [.sl _ _, .fn _ _ _]) hb87 ⟨.inl rfl, .inl rfl, trivial⟩ (l2_eq (sl_sh (ic_pure _)) (snap_fn hcap)) (fun hA => idxI_c f caps hf hcap xs (fun i => p (gd xs i)) (by omega) (fun i hi => hc i hi)) rfl rfl) ?_
  refine rv (v := .int _ _) (v_assign (.inl rfl) nf) ?_
  refine r_nil ?_
  refine a_seq ?_
  refine a_seq ?_
  refine a_region ?_
  refine rv (v := .int _ _) (v_move (.inl rfl) nf) ?_
  refine rv (v := .bool _) (v_eql (.inl rfl) (.inl rfl)) ?_
  refine r_nil ?_
  refine a_cond rfl (fun ht12 => ?_) (fun ht12 => ?_)
  ·
    skip
    refine a_seq ?_
    have hnone := dlt_none (xs := xs) rfl (of_decide_eq_true ht12)
    refine a_region ?_
    refine rv (v := .rsl _ _ _ _ _) (v_move (.inl rfl) nf) ?_
    refine rv (v := .rsl _ _ _ _ _) (v_assign (.inl rfl) nf) ?_
    refine r_nil ?_
    refine a_pre (ent_reloc_sl (t := 4) rfl rfl) ?_
    refine a_ret ?_
    refine ret1 Tryz.results61 (by decide) (by decide) (Weak.osl ?_ ?_) rfl (Leaves.one Weak.undef rfl)
    · rw [hnone]
    · rw [hnone]
  ·
    skip
    refine a_skip ?_
    refine a_seq ?_
    refine a_seq ?_
    obtain ⟨i0, hi0, e0, p0, n0⟩ := fidx_spec (of_decide_eq_false ht12)
    refine a_region ?_
    refine rv (v := .int _ _) (v_move (.inl rfl) nf) ?_
    refine rv (v := .int _ _) (v_add (.inl rfl) (.inl rfl) (fun _ => by omega)) ?_
    refine rv (v := .int _ _) (v_assign (.inl rfl) nf) ?_
    refine r_nil ?_
    refine a_block ?_
    refine a_loop (X := (Nat × Nat × List Int)) (fun x => look [(0, .rsl (INH, []) 1 0 xs.length none), (1, .fn f [] caps), (5, .int .i64 ((x.2.1 : Nat) : Int)), (6, .int .i64 ((x.1 : Nat) : Int)), (INH, .osl 1 (icells x.2.2) xs.length none)]) (fun x => Dlt p xs x.1 x.2.1 x.2.2) (fun x => xs.length - x.1) (i0 + 1, i0, xs) (ent_look ⟨Weak.of_eq rfl, (Weak.of_eq (purge_fn hcap)), Weak.of_eq (int_eq e0), Weak.of_eq (int_eq (by rw [e0]; rfl)), Weak.of_eq rfl, trivial⟩) (Dlt.first hi0 n0 p0) (fun x hG => ?_)
    have hD := hG
    obtain ⟨d1, d2, d3, d4, d5⟩ := hG
    refine a_seq ?_
    refine a_seq ?_
    refine a_region ?_
    refine rv (v := .int _ _) (v_move (.inl rfl) nf) ?_
    refine rv (v := .rsl _ _ _ _ _) (v_move (.inl rfl) nf) ?_
    refine rv (v := .int _ _) (v_len_rsl sl25 (.inl rfl)) ?_
    refine rv (v := .bool _) (v_lss (.inl rfl) (.inl rfl)) ?_
    refine r_nil ?_
    refine a_cond rfl (fun ht19 => ?_) (fun ht19 => ?_)
    ·
      skip
      refine a_skip ?_
      refine a_seq ?_
      refine a_block ?_
      refine a_seq ?_
      have hj : x.1 < xs.length := (by simp at ht19; omega)
      refine a_region ?_
      refine rv (v := .rsl _ _ _ _ _) (v_move (.inl rfl) nf) ?_
      refine rv (v := .int _ _) (v_move (.inl rfl) nf) ?_
      refine rv (v := .rp _ _) (v_indexAddr_rsl0 es25 (.inl rfl) (.inl rfl) (fun _ => by omega)) ?_
      refine rv (v := .int .i64 (gd xs x.1)) (v_load_rp1 ta3 (.inl rfl) rfl (fun _ => by rw [Nat.mul_one]; exact icells_get (gd_get2 d5 (by omega))) rfl) ?_
      refine rv (v := .int _ _) (v_assign (.inl rfl) nf) ?_
      refine r_nil ?_
      refine a_seq ?_
      refine a_region ?_
      refine rv (v := .fn _ _ _) (v_mv rfl) ?_
      refine rv (v := .int _ _) (v_move (.inl rfl) nf) ?_
      refine rn (v := .bool _) (q_clo (vs := [.int _ _]) (args := (.int .i64 _ :: caps)) hf (.inl rfl) ⟨.inl rfl, trivial⟩ (snap_clo1 hcap rfl) (fun hA => hc x.1 hj) rfl rfl) ?_
      refine rv (v := .bool _) (v_not (.inl rfl)) ?_
      refine r_nil ?_
      refine a_cond rfl (fun ht29 => ?_) (fun ht29 => ?_)
      ·
        skip
        refine a_seq ?_
        have hpl : x.2.1 * 1 + 1 ≤ (icells x.2.2).length := (by rw [icells_length]; omega)
        have hset : (icells x.2.2).set (x.2.1 * 1) (.int .i64 (gd xs x.1)) = icells (x.2.2.set x.2.1 (gd xs x.1)) := (by rw [Nat.mul_one, icells_set])
        refine a_region ?_
        refine rv (v := .rsl _ _ _ _ _) (v_move (.inl rfl) nf) ?_
        refine rv (v := .int _ _) (v_move (.inl rfl) nf) ?_
        refine rv (v := .int _ _) (v_move (.inl rfl) nf) ?_
        refine rv (v := .rp _ _) (v_indexAddr_rsl0 es25 (.inl rfl) (.inl rfl) (fun _ => by omega)) ?_
        refine r_step rfl (o_store (v := .int _ _) (y' := .osl _ _ _ _) rfl rfl ta3 (.inl rfl) (.inl rfl) rfl rfl rfl rfl rfl rfl hpl (by decide) rfl (congrArg (fun c => AV.osl 1 c xs.length none) hset)) ?_
        refine r_nil ?_
        refine a_region ?_
        refine rv (v := .int _ _) (v_move (.inl rfl) nf) ?_
        refine rv (v := .int _ _) (v_add (.inl rfl) (.inl rfl) (fun _ => by omega)) ?_
        refine rv (v := .int _ _) (v_assign (.inl rfl) nf) ?_
        refine r_nil ?_
        refine a_region ?_
        refine rv (v := .int _ _) (v_move (.inl rfl) nf) ?_
        refine rv (v := .int _ _) (v_add (.inl rfl) (.inl rfl) (fun _ => by omega)) ?_
        refine rv (v := .int _ _) (v_assign (.inl rfl) nf) ?_
        refine r_nil ?_
        refine ⟨(x.1 + 1, x.2.1 + 1, x.2.2.set x.2.1 (gd xs x.1)), ent_look ⟨Weak.of_eq rfl, (Weak.of_eq (purge_fn hcap)), Weak.of_eq (int_eq (by dsimp only; omega)), Weak.of_eq (int_eq (by dsimp only; omega)), Weak.of_eq rfl, trivial⟩, hD.keep hj (by simpa using ht29), by dsimp only; omega⟩
      ·
        skip
        refine a_skip ?_
        refine a_region ?_
        refine rv (v := .int _ _) (v_move (.inl rfl) nf) ?_
        refine rv (v := .int _ _) (v_add (.inl rfl) (.inl rfl) (fun _ => by omega)) ?_
        refine rv (v := .int _ _) (v_assign (.inl rfl) nf) ?_
        refine r_nil ?_
        refine ⟨(x.1 + 1, x.2.1, x.2.2), ent_look ⟨Weak.of_eq rfl, (Weak.of_eq (purge_fn hcap)), Weak.of_eq rfl, Weak.of_eq (int_eq (by dsimp only; omega)), Weak.of_eq rfl, trivial⟩, hD.drop hj (by simpa using ht29), by dsimp only; omega⟩
    ·
      skip
      refine a_exit ?_
      refine a_seq ?_
      have hje : x.1 = xs.length := (by simp at ht19; omega)
      have hdn := Dlt.done (p := p) (xs := xs) (ys := x.2.2) (i := x.2.1) (n := xs.length) (hje ▸ hD) rfl
      refine a_region ?_
      refine rv (v := .rsl _ _ _ _ _) (v_move (.inl rfl) nf) ?_
      refine rv (v := .int _ _) (v_move (.inl rfl) nf) ?_
      refine rv (v := .rsl (INH, []) 1 (0 + x.2.1 * 1) (xs.length - x.2.1) none) ((v_slice_rsl (l := x.2.1) (h := xs.length) es25 (.inl rfl) (.inr ⟨_, _, rfl, .inl rfl⟩) (.inl ⟨rfl, rfl⟩) (fun _ => by omega)).cast (rfl)) ?_
      refine r_step rfl (o_clear rfl rfl us25 zc3 rfl (.inl rfl) rfl (by rw [icells_length]; omega) rfl rfl) ?_
      refine r_nil ?_
      refine a_seq ?_
      refine a_region ?_
      refine rv (v := .rsl _ _ _ _ _) (v_move (.inl rfl) nf) ?_
      refine rv (v := .int _ _) (v_move (.inl rfl) nf) ?_
      refine rv (v := .rsl (INH, []) 1 0 x.2.1 none) ((v_slice_rsl (l := 0) (h := x.2.1) es25 (.inl rfl) (.inl ⟨rfl, rfl⟩) (.inr ⟨_, _, rfl, .inl rfl⟩) (fun _ => by omega)).cast (rfl)) ?_
      refine rv (v := .rsl _ _ _ _ _) (v_assign (.inl rfl) nf) ?_
      refine r_nil ?_
      refine a_pre (ent_reloc_sl (t := 4) rfl rfl) ?_
      refine a_ret ?_
      refine ret1 Tryz.results61 (by decide) (by decide) (Weak.osl_take (ds := List.replicate (xs.length - x.2.1) (.int .i64 0)) ?_ ?_) rfl (Leaves.one Weak.undef rfl)
      · exact hdn.1
      · exact hdn.2
end Go.Av
namespace Go.Av
open Go Go.Proofs Go.Sort
set_option maxRecDepth 10000
theorem hb60 : hasBody Tryz.prog 60 = true := by kernel_rfl
theorem hb61 : hasBody Tryz.prog 61 = true := by kernel_rfl
theorem hb63 : hasBody Tryz.prog 63 = true := by kernel_rfl
theorem withoutVar1_c (x v : Int) : ACall Tryz.prog 63 [.int .i64 x, .pp [.int .i64 v] 0] [] (.bool (decide (absA x = v))) [] := by
  refine ACall.intro Tryz.func63 rfl (N := 8) rfl (by decide) (by simp) ?_
  refine a_seq ?_
  refine a_region ?_
  refine rv (v := .bool _) (v_assign (.inl rfl) nf) ?_
  refine r_nil ?_
  refine a_seq ?_
  refine a_region_any mixed (by kernel_rfl) ?_
  refine yv (v := .int _ _) (v_move (.inl rfl) nf) ?_
  refine y_new (v := .int _ _) (q_call (vs := [.int _ _]) (args := [.int .i64 _]) hb43 ⟨.inl rfl, trivial⟩ rfl (fun hA => absA_c _) rfl rfl) rfl rfl (by decide) (by kernel_rfl) ?_
  refine yv (v := .int _ _) (v_load_pp ta3 (.inl rfl) (fun _ => rfl) rfl) ?_
  refine yv (v := .bool _) (v_eql (.inl rfl) (.inl rfl)) ?_
  refine yv (v := .bool _) (v_assign (.inl rfl) nf) ?_
  refine y_nil ?_
  refine a_ret ?_
  refine ret1 Tryz.results63 (by decide) (by decide) (Weak.of_eq (bool_eq ?_)) rfl Leaves.nil
  rfl
theorem withoutVar_c (c : List Int) (v : Int) (hl : c.length ≤ 1048576) : ACall Tryz.prog 42 [.sl (icells c) c.length, .int .i64 v] [] (.osl 1 (icells (wov c v)) (wov c v).length none) [] := by
  have hbW := hb63
  refine ACall.intro Tryz.func42 rfl (N := 9) rfl (by decide) (by simp) ?_
  refine a_seq ?_
  refine a_region ?_
  refine rn (v := .op [.int _ _]) (q_box (.inl rfl) rfl rfl) ?_
  refine rv (v := .nils) (v_assign (.inl rfl) nf) ?_
  refine r_nil ?_
  refine a_seq ?_
  refine a_region ?_
  refine rv (v := .sl _ _) (v_move (.inl rfl) nf) ?_
  refine rn (v := .osl _ _ _ _) (q_call (vs := [.sl _ _]) (args := [.sl _ _]) hb62 ⟨.inl rfl, trivial⟩ rfl (fun hA => cloneI_c _ _ ⟨rfl, by omega⟩) (ic_noSh _) (ic_noRef _)) ?_
  refine rv (v := .fn _ _ _) (v_makeFunc (first := []) (caps := [.tmp 3]) rfl rfl) ?_
  refine r_step rfl (o_callIO (q := (6, [])) (vs := [.rsl _ _ _ _ _, .fn _ _ _]) (args := [.rsl (INH, []) _ _ _ _, .fn _ _ _]) (x0 := .osl _ _ _ _) (x1 := .undef) (res := .osl _ _ _ _) rfl hb61 rfl (by decide) ⟨.inl rfl, .inl rfl, trivial⟩ rfl rfl (del_c 63 [.pp [.int .i64 v] 0] hbW rfl c _ (fun x => decide (absA x = v)) ⟨rfl, by omega⟩ (fun i hi => withoutVar1_c _ v)) rfl (ic_noSh _) (ic_noRef _) rfl rfl (Nat.le_of_ble_eq_true rfl) (by decide) rfl) ?_
  refine rv (v := .rsl _ _ _ _ _) (v_assign (.inl rfl) nf) ?_
  refine r_pre (ent_reloc_sl (t := 4) rfl rfl) ?_
  refine r_nil ?_
  refine a_ret ?_
  refine ret1 Tryz.results42 (by decide) (by decide) (Weak.osl ?_ ?_) rfl Leaves.nil
  · rfl
  · rfl
theorem mustClause_c (l : List Int) (hn : l.length ≤ 1048576) : ACall Tryz.prog 41 [.sl (icells l) l.length] [] (.osl 1 (icells ((clR l).getD [])) ((clR l).getD []).length none) [] := by
  refine ACall.intro Tryz.func41 rfl (N := 11) rfl (by decide) (by simp) ?_
  refine a_seq ?_
  refine a_region ?_
  refine rv (v := .nils) (v_assign (.inl rfl) nf) ?_
  refine r_nil ?_
  refine a_seq ?_
  refine a_region ?_
  refine rv (v := .sl _ _) (v_move (.inl rfl) nf) ?_
  refine rn (v := .tup [.osl _ _ _ _, .bool _]) (q_call (vs := [.sl _ _]) (args := [.sl _ _]) hb60 ⟨.inl rfl, trivial⟩ rfl (fun hA => clause_c l hn) (by simp [noSh, noShL, ic_noSh]) (by simp [noRef, noRefL, ic_noRef])) ?_
  refine rv (v := .tup [.rsl _ _ _ _ _, .bool _]) (v_mv rfl) ?_
  refine rv (v := .rsl _ _ _ _ _) (v_extract rfl rfl) ?_
  refine rv (v := .bool _) (v_extract rfl rfl) ?_
  refine rv (v := .rsl _ _ _ _ _) (v_assign (.inl rfl) nf) ?_
  refine r_pre (ent_reloc_sl (t := 3) rfl rfl) ?_
  refine rv (v := .bool _) (v_assign (.inl rfl) nf) ?_
  refine r_nil ?_
  refine a_seq ?_
  refine a_region ?_
  refine rv (v := .rsl _ _ _ _ _) (v_move (.inl rfl) nf) ?_
  refine rv (v := .rsl _ _ _ _ _) (v_assign (.inl rfl) nf) ?_
  refine r_pre (ent_reloc_sl (t := 2) rfl rfl) ?_
  refine r_nil ?_
  refine a_ret ?_
  refine ret1 Tryz.results41 (by decide) (by decide) (Weak.osl ?_ ?_) rfl Leaves.nil
  · rfl
  · rfl
theorem l2Without_c (c : List Int) (v : Int) (hl : c.length ≤ 1048576) (hs : SmI c) : ACall Tryz.prog 70 [.sl (icells c) c.length, .int .i64 v] [] (.osl 1 (icells (woS c v)) (woS c v).length none) [] := by
  refine ACall.intro Tryz.func70 rfl (N := 29) rfl (by decide) (by simp) ?_
  refine a_seq ?_
  refine a_region ?_
  refine rv (v := .nils) (v_assign (.inl rfl) nf) ?_
  refine r_nil ?_
  refine a_seq ?_
  refine a_region ?_
  refine rn (v := .osl _ _ _ _) (q_sliceLit (n := 0) (parts := []) lt25 rfl rfl rfl rfl) ?_
  refine rv (v := .rsl _ _ _ _ _) (v_assign (.inl rfl) nf) ?_
  refine r_pre (ent_reloc_sl (t := 5) rfl rfl) ?_
  refine r_nil ?_
  refine a_seq ?_
  refine a_seq ?_
  refine a_region ?_
  refine rv (v := .int _ _) (v_assign (.inl rfl) nf) ?_
  refine r_nil ?_
  refine a_block ?_
  refine a_loop (X := Nat) (fun i => look [(0, .sl (icells c) c.length), (1, .int .i64 v), (5, .osl 1 (icells (woS (c.take i) v)) (woS (c.take i) v).length none), (6, .int .i64 ((i : Nat) : Int))]) (fun i => i ≤ c.length) (fun i => c.length - i) 0 (ent_look ⟨Weak.of_eq rfl, Weak.of_eq rfl, Weak.osl rfl rfl, Weak.of_eq rfl, trivial⟩) (Nat.zero_le _) (fun i hG => ?_)
  have hsi := hs i
  have hwl := woS_len (c.take i) v
  have htk : (c.take i).length ≤ c.length := (by rw [List.length_take]; omega)
  refine a_seq ?_
  refine a_seq ?_
  refine a_region ?_
  refine rv (v := .int _ _) (v_move (.inl rfl) nf) ?_
  refine rv (v := .sl _ _) (v_move (.inl rfl) nf) ?_
  refine rv (v := .int _ _) (v_len_sl sl25 (.inl rfl)) ?_
  refine rv (v := .bool _) (v_lss (.inl rfl) (.inl rfl)) ?_
  refine r_nil ?_
  refine a_cond rfl (fun ht11 => ?_) (fun ht11 => ?_)
  ·
    skip
    refine a_skip ?_
    refine a_seq ?_
    refine a_block ?_
    refine a_seq ?_
    have hi : i < c.length := (by simp at ht11; omega)
    refine a_region ?_
    refine rv (v := .sl _ _) (v_move (.inl rfl) nf) ?_
    refine rv (v := .int _ _) (v_move (.inl rfl) nf) ?_
    refine rv (v := .pp _ _) (v_indexAddr_sl es25 (.inl rfl) (.inl rfl) (fun _ => ⟨by omega, by omega, icells_ne hi⟩)) ?_
    refine rv (v := .int .i64 (gd c i)) (v_load_pp ta3 (.inl rfl) (fun _ => by rw [Nat.mul_one]; exact icells_get (gd_get hi)) rfl) ?_
    refine rn (v := .int _ _) (q_call (vs := [.int _ _]) (args := [.int .i64 _]) hb33 ⟨.inl rfl, trivial⟩ rfl (fun hA => l2Var_c _ (by omega)) rfl rfl) ?_
    refine rv (v := .int _ _) (v_move (.inl rfl) nf) ?_
    refine rv (v := .bool _) (v_neq (.inl rfl) (.inl rfl)) ?_
    refine r_nil ?_
    refine a_cond rfl (fun ht20 => ?_) (fun ht20 => ?_)
    ·
      skip
      refine a_region ?_
      refine rv (v := .rsl _ _ _ _ _) (v_move (.inl rfl) nf) ?_
      refine rv (v := .sl _ _) (v_move (.inl rfl) nf) ?_
      refine rv (v := .int _ _) (v_move (.inl rfl) nf) ?_
      refine rv (v := .pp _ _) (v_indexAddr_sl es25 (.inl rfl) (.inl rfl) (fun _ => ⟨by omega, by omega, icells_ne hi⟩)) ?_
      refine rv (v := .int .i64 (gd c i)) (v_load_pp ta3 (.inl rfl) (fun _ => by rw [Nat.mul_one]; exact icells_get (gd_get hi)) rfl) ?_
      refine rn (v := .osl 1 (icells [gd c i]) 1 (some 1)) (q_sliceLit (n := 1) (parts := [(0, .tmp 25)]) lt25 rfl rfl rfl rfl) ?_
      refine r_pre (ent_reloc_sl (t := 21) rfl rfl) ?_
      refine r_step rfl (o_append rfl ap25 rfl (by decide) (by decide) rfl (src_lit (.inl rfl) rfl rfl (ic_pureL _)) (ic_cell _) (by rw [icells_length]; omega) (by omega)) ?_
      refine rv (v := .rsl _ _ _ _ _) (v_assign (.inl rfl) nf) ?_
      refine r_pre (ent_reloc_sl (t := 5) rfl rfl) ?_
      refine r_nil ?_
      refine a_region ?_
      refine rv (v := .int _ _) (v_move (.inl rfl) nf) ?_
      refine rv (v := .int _ _) (v_add (.inl rfl) (.inl rfl) (fun _ => by omega)) ?_
      refine rv (v := .int _ _) (v_assign (.inl rfl) nf) ?_
      refine r_nil ?_
      refine ⟨i + 1, ent_look ⟨Weak.of_eq rfl, Weak.of_eq rfl, Weak.osl (by rw [woS_more hi, if_pos (by simpa using ht20), icells_append]) (by rw [woS_more hi, if_pos (by simpa using ht20)]; simp), Weak.of_eq (int_eq (by omega)), trivial⟩, by omega, by omega⟩
    ·
      skip
      refine a_skip ?_
      refine a_region ?_
      refine rv (v := .int _ _) (v_move (.inl rfl) nf) ?_
      refine rv (v := .int _ _) (v_add (.inl rfl) (.inl rfl) (fun _ => by omega)) ?_
      refine rv (v := .int _ _) (v_assign (.inl rfl) nf) ?_
      refine r_nil ?_
      refine ⟨i + 1, ent_look ⟨Weak.of_eq rfl, Weak.of_eq rfl, Weak.osl (by rw [woS_more hi, if_neg (by simpa using ht20)]) (by rw [woS_more hi, if_neg (by simpa using ht20)]), Weak.of_eq (int_eq (by omega)), trivial⟩, by omega, by omega⟩
  ·
    skip
    refine a_exit ?_
    refine a_seq ?_
    refine a_region ?_
    refine rv (v := .rsl _ _ _ _ _) (v_move (.inl rfl) nf) ?_
    refine rv (v := .rsl _ _ _ _ _) (v_assign (.inl rfl) nf) ?_
    refine r_pre (ent_reloc_sl (t := 4) rfl rfl) ?_
    refine r_nil ?_
    refine a_ret ?_
    refine ret1 Tryz.results70 (by decide) (by decide) (Weak.osl ?_ ?_) rfl Leaves.nil
    · simp at ht11; rw [List.take_of_length_le (by omega)]
    · simp at ht11; rw [List.take_of_length_le (by omega)]
end Go.Av
namespace Go.Av
open Go Go.Proofs Go.Sort
set_option maxRecDepth 10000
theorem hb41 : hasBody Tryz.prog 41 = true := by kernel_rfl
theorem hb42 : hasBody Tryz.prog 42 = true := by kernel_rfl
theorem hb50 : hasBody Tryz.prog 50 = true := by kernel_rfl
theorem hb73 : hasBody Tryz.prog 73 = true := by kernel_rfl
theorem l3Good_c (vars : Int) (c : List Int) (hv : -9223372036854775808 ≤ vars ∧ vars ≤ 9223372036854775807) (hl : (c.length : Int) ≤ 9223372036854775807) (hb : ∀ j, -9223372036854775808 ≤ gd c j ∧ gd c j ≤ 9223372036854775807) : ACall Tryz.prog 30 [.int .i64 vars, .sl (icells c) c.length] [] (.bool (clB vars c)) [] := by
  refine ACall.intro Tryz.func30 rfl (N := 8) rfl (by decide) (by simp) ?_
  refine a_seq ?_
  refine a_region ?_
  refine rv (v := .bool _) (v_assign (.inl rfl) nf) ?_
  refine r_nil ?_
  refine a_seq ?_
  refine a_region ?_
  refine rv (v := .int _ _) (v_move (.inl rfl) nf) ?_
  refine rv (v := .sl _ _) (v_move (.inl rfl) nf) ?_
  refine rn (v := .bool _) (q_call (vs := [.int _ _, .sl _ _]) (args := [.int .i64 _, .sl _ _]) hb50 ⟨.inl rfl, .inl rfl, trivial⟩ rfl (fun hA => l2Clause_c _ _ hv hl hb) rfl rfl) ?_
  refine rv (v := .bool _) (v_assign (.inl rfl) nf) ?_
  refine r_nil ?_
  refine a_ret ?_
  refine ret1 Tryz.results30 (by decide) (by decide) (Weak.of_eq (bool_eq ?_)) rfl Leaves.nil
  rfl
theorem isAsg_c (vars : Int) (c : List Int) (hv : -9223372036854775808 ≤ vars ∧ vars ≤ 9223372036854775807) (hl : (c.length : Int) ≤ 9223372036854775807) (hb : ∀ j, -9223372036854775808 ≤ gd c j ∧ gd c j ≤ 9223372036854775807) : ACall Tryz.prog 52 [.int .i64 vars, .sl (icells c) c.length] [] (.bool (clB vars c)) [] := by
  refine ACall.intro Tryz.func52 rfl (N := 8) rfl (by decide) (by simp) ?_
  refine a_seq ?_
  refine a_region ?_
  refine rv (v := .bool _) (v_assign (.inl rfl) nf) ?_
  refine r_nil ?_
  refine a_seq ?_
  refine a_region ?_
  refine rv (v := .int _ _) (v_move (.inl rfl) nf) ?_
  refine rv (v := .sl _ _) (v_move (.inl rfl) nf) ?_
  refine rn (v := .bool _) (q_call (vs := [.int _ _, .sl _ _]) (args := [.int .i64 _, .sl _ _]) hb73 ⟨.inl rfl, .inl rfl, trivial⟩ rfl (fun hA => isClause_c _ _ hv hl hb) rfl rfl) ?_
  refine rv (v := .bool _) (v_assign (.inl rfl) nf) ?_
  refine r_nil ?_
  refine a_ret ?_
  refine ret1 Tryz.results52 (by decide) (by decide) (Weak.of_eq (bool_eq ?_)) rfl Leaves.nil
  rfl
theorem set_c (vars : Int) (a : List Int) (l : Int) (hc : clB vars a = true) (hl : litB vars l = true) : ACall Tryz.prog 26 [.sl (icells a) a.length, .int .i64 l] [] (.osl 1 (icells (setLit a l)) (setLit a l).length none) [] := by
  have hln := clB_len hc
  have hsm := clB_sm hc
  have hll : -4611686018427387904 ≤ l ∧ l ≤ 4611686018427387904 := (by have := litB_spec.1 hl; have := (clB_spec hc).1; omega)
  have hab := absA_of hll
  have hwl := woS_len a (vr l)
  refine ACall.intro Tryz.func26 rfl (N := 13) rfl (by decide) (by simp) ?_
  refine a_seq ?_
  refine a_region ?_
  refine rv (v := .nils) (v_assign (.inl rfl) nf) ?_
  refine r_nil ?_
  refine a_seq ?_
  refine a_region ?_
  refine rv (v := .sl _ _) (v_move (.inl rfl) nf) ?_
  refine rv (v := .int _ _) (v_move (.inl rfl) nf) ?_
  refine rn (v := .int _ _) (q_call (vs := [.int _ _]) (args := [.int .i64 _]) hb43 ⟨.inl rfl, trivial⟩ rfl (fun hA => absA_c _) rfl rfl) ?_
  refine rn (v := .osl _ _ _ _) (q_call (vs := [.sl _ _, .int _ _]) (args := [.sl _ _, .int .i64 _]) hb42 ⟨.inl rfl, .inl rfl, trivial⟩ rfl (fun hA => withoutVar_c a (absA l) (by omega)) (ic_noSh _) (ic_noRef _)) ?_
  refine rv (v := .int _ _) (v_move (.inl rfl) nf) ?_
  refine r_pre (ent_eq (t := 8) (v' := .osl 1 (icells (woS a (vr l))) (woS a (vr l)).length none) (Weak.osl (by rw [hab, wov_eq hsm]) (by rw [hab, wov_eq hsm]))) ?_
  refine rn (v := .osl 1 (icells [l]) 1 (some 1)) (q_sliceLit (n := 1) (parts := [(0, .tmp 9)]) lt25 rfl rfl rfl rfl) ?_
  refine r_step rfl (o_append rfl ap25 rfl (by decide) (by decide) rfl (src_lit (.inl rfl) rfl rfl (ic_pureL _)) (ic_cell _) (by rw [icells_length]; omega) (by omega)) ?_
  refine r_pre (ent_eq (t := 11) (v' := .osl 1 (icells (woS a (vr l) ++ [l])) (woS a (vr l) ++ [l]).length none) (Weak.osl (by rw [icells_append]) (by simp))) ?_
  refine rn (v := .osl _ _ _ _) (q_call (vs := [.rsl _ _ _ _ _]) (args := [.sl _ _]) hb41 ⟨.inl rfl, trivial⟩ (l1_eq (sl_sh (ic_pure (woS a (vr l) ++ [l])))) (fun hA => mustClause_c (woS a (vr l) ++ [l]) (by simp; omega)) (ic_noSh _) (ic_noRef _)) ?_
  refine rv (v := .rsl _ _ _ _ _) (v_assign (.inl rfl) nf) ?_
  refine r_pre (ent_reloc_sl (t := 4) rfl rfl) ?_
  refine r_nil ?_
  refine a_ret ?_
  refine ret1 Tryz.results26 (by decide) (by decide) (Weak.osl ?_ ?_) rfl Leaves.nil
  · rw [setLit_impl hc hl]
  · rw [setLit_impl hc hl]
end Go.Av
namespace Go.Av
open Go Go.Proofs Go.Sort
set_option maxRecDepth 10000
end Go.Av
namespace Go.Av
open Go Go.Proofs Go.Sort
set_option maxRecDepth 10000
theorem es22 : elemSize Tryz.prog 22 = some 1 := by kernel_rfl
theorem fo24_0 : fieldOff Tryz.prog 24 0 = some 0 := by kernel_rfl
theorem fo24_1 : fieldOff Tryz.prog 24 1 = some 1 := by kernel_rfl
theorem fo30_0 : fieldOff Tryz.prog 30 0 = some 0 := by kernel_rfl
theorem fo30_1 : fieldOff Tryz.prog 30 1 = some 1 := by kernel_rfl
theorem hb11 : hasBody Tryz.prog 11 = true := by kernel_rfl
theorem hb13 : hasBody Tryz.prog 13 = true := by kernel_rfl
theorem hb18 : hasBody Tryz.prog 18 = true := by kernel_rfl
theorem hb5 : hasBody Tryz.prog 5 = true := by kernel_rfl
theorem hb8 : hasBody Tryz.prog 8 = true := by kernel_rfl
theorem hb9 : hasBody Tryz.prog 9 = true := by kernel_rfl
theorem sb25 : (Tryz.prog.info? 25).map (fun i => (i.size, i.bytes)) = some (1, 24) := by kernel_rfl
theorem sl22 : isSlice Tryz.prog 22 = true := by kernel_rfl
theorem ta22 : tyAgg Tryz.prog 22 = some (false, 1) := by kernel_rfl
theorem ta25 : tyAgg Tryz.prog 25 = some (false, 1) := by kernel_rfl
theorem ta30 : tyAgg Tryz.prog 30 = some (true, 2) := by kernel_rfl
theorem us22 : Tryz.prog.underlying 22 = some (.slice 25) := by kernel_rfl
theorem zc25 : zeroCells Tryz.prog 25 = some [.nils] := by kernel_rfl
theorem zc30 : zeroCells Tryz.prog 30 = some [.int .i64 0, .nils] := by kernel_rfl
theorem szIntS_c (c : List Int) (left : Int) (hl : 0 ≤ left ∧ left ≤ 1000000000) (hc : (c.length : Int) ≤ 9223372036854775807) : ACall Tryz.prog 18 [.sl (icells c) c.length, .int .i64 left] [] (.int .i64 (szR left c.length)) [] := by
  refine ACall.intro Tryz.func18 rfl (N := 12) rfl (by decide) (by simp) ?_
  refine a_seq ?_
  refine a_region ?_
  refine rv (v := .int _ _) (v_assign (.inl rfl) nf) ?_
  refine r_nil ?_
  refine a_seq ?_
  refine a_region ?_
  refine rv (v := .int _ _) (v_move (.inl rfl) nf) ?_
  refine rv (v := .sl _ _) (v_move (.inl rfl) nf) ?_
  refine rv (v := .int _ _) (v_len_sl sl25 (.inl rfl)) ?_
  refine rv (v := .int _ _) (v_sub (.inl rfl) (.inl rfl) (fun _ => by omega)) ?_
  refine rv (v := .int _ _) (v_assign (.inl rfl) nf) ?_
  refine r_nil ?_
  refine a_seq ?_
  refine a_seq ?_
  refine a_region ?_
  refine rv (v := .int _ _) (v_move (.inl rfl) nf) ?_
  refine rv (v := .bool _) (v_lss (.inl rfl) (.inl rfl)) ?_
  refine r_nil ?_
  refine a_cond rfl (fun ht10 => ?_) (fun ht10 => ?_)
  ·
    skip
    refine a_seq ?_
    refine a_region ?_
    refine rv (v := .int _ _) (v_assign (.inl rfl) nf) ?_
    refine r_nil ?_
    refine a_ret ?_
    refine ret1 Tryz.results18 (by decide) (by decide) (Weak.of_eq (int_eq ?_)) rfl Leaves.nil
    unfold szR; rw [if_pos (by simpa using ht10)]
  ·
    skip
    refine a_skip ?_
    refine a_seq ?_
    refine a_region ?_
    refine rv (v := .int _ _) (v_move (.inl rfl) nf) ?_
    refine rv (v := .int _ _) (v_assign (.inl rfl) nf) ?_
    refine r_nil ?_
    refine a_ret ?_
    refine ret1 Tryz.results18 (by decide) (by decide) (Weak.of_eq (int_eq ?_)) rfl Leaves.nil
    unfold szR; rw [if_neg (by simpa using ht10)]
theorem szIntSS_c (L : List (List Int)) (left : Int) (hl : 0 ≤ left ∧ left ≤ 1000000000) (hlen : ∀ i, ((gl L i).length : Int) ≤ 9223372036854775807) (hL : (L.length : Int) ≤ 9223372036854775807) : ACall Tryz.prog 5 [.sl (sls L) L.length, .int .i64 left] [] (.int .i64 (szR left ((L.length + tot L L.length : Nat) : Int))) [] := by
  refine ACall.intro Tryz.func5 rfl (N := 27) rfl (by decide) (by simp) ?_
  refine a_seq ?_
  refine a_region ?_
  refine rv (v := .int _ _) (v_assign (.inl rfl) nf) ?_
  refine r_nil ?_
  refine a_seq ?_
  refine a_region ?_
  refine rv (v := .int _ _) (v_move (.inl rfl) nf) ?_
  refine rv (v := .sl _ _) (v_move (.inl rfl) nf) ?_
  refine rv (v := .int _ _) (v_len_sl sl22 (.inl rfl)) ?_
  refine rv (v := .int _ _) (v_sub (.inl rfl) (.inl rfl) (fun _ => by omega)) ?_
  refine rv (v := .int _ _) (v_assign (.inl rfl) nf) ?_
  refine r_nil ?_
  refine a_seq ?_
  refine a_seq ?_
  refine a_region ?_
  refine rv (v := .int _ _) (v_move (.inl rfl) nf) ?_
  refine rv (v := .bool _) (v_lss (.inl rfl) (.inl rfl)) ?_
  refine r_nil ?_
  refine a_cond rfl (fun ht11 => ?_) (fun ht11 => ?_)
  ·
    skip
    refine a_seq ?_
    refine a_region ?_
    refine rv (v := .int _ _) (v_assign (.inl rfl) nf) ?_
    refine r_nil ?_
    refine a_ret ?_
    refine ret1 Tryz.results5 (by decide) (by decide) (Weak.of_eq (int_eq ?_)) rfl Leaves.nil
    unfold szR; rw [if_pos (by simp at ht11; omega)]
  ·
    skip
    refine a_skip ?_
    refine a_seq ?_
    refine a_seq ?_
    refine a_region ?_
    refine rv (v := .int _ _) (v_assign (.inl rfl) nf) ?_
    refine r_nil ?_
    refine a_block ?_
    refine a_loop (X := Nat) (fun i => look [(0, .sl (sls L) L.length), (1, .int .i64 (left - L.length - (tot L i : Nat))), (5, .int .i64 ((i : Nat) : Int))]) (fun i => i ≤ L.length ∧ 0 ≤ left - L.length - (tot L i : Nat)) (fun i => L.length - i) 0 (ent_look ⟨Weak.of_eq rfl, Weak.of_eq (int_eq (by simp [tot_zero])), Weak.of_eq rfl, trivial⟩) ⟨Nat.zero_le _, by simp [tot_zero]; simpa using ht11⟩ (fun i hG => ?_)
    obtain ⟨g1, g2⟩ := hG
    have hli := hlen i
    have htl := tot_le L i
    have htl1 := tot_le L (i + 1)
    refine a_seq ?_
    refine a_seq ?_
    refine a_region ?_
    refine rv (v := .int _ _) (v_move (.inl rfl) nf) ?_
    refine rv (v := .sl _ _) (v_move (.inl rfl) nf) ?_
    refine rv (v := .int _ _) (v_len_sl sl22 (.inl rfl)) ?_
    refine rv (v := .bool _) (v_lss (.inl rfl) (.inl rfl)) ?_
    refine r_nil ?_
    refine a_cond rfl (fun ht15 => ?_) (fun ht15 => ?_)
    ·
      skip
      refine a_skip ?_
      refine a_seq ?_
      refine a_block ?_
      refine a_seq ?_
      have hi : i < L.length := (by simp at ht15; omega)
      have hgt := tot_more hi
      refine a_region ?_
      refine rv (v := .sl _ _) (v_move (.inl rfl) nf) ?_
      refine rv (v := .int _ _) (v_move (.inl rfl) nf) ?_
      refine rv (v := .pp _ _) (v_indexAddr_sl es22 (.inl rfl) (.inl rfl) (fun _ => ⟨by omega, by omega, sls_ne hi⟩)) ?_
      refine rv (v := .sl (icells (gl L i)) (gl L i).length) (v_load_pp ta25 (.inl rfl) (fun _ => by rw [Nat.mul_one]; exact sls_get hi) rfl) ?_
      refine rv (v := .int _ _) (v_move (.inl rfl) nf) ?_
      refine rn (v := .int _ _) (q_call (vs := [.sl _ _, .int _ _]) (args := [.sl _ _, .int .i64 _]) hb18 ⟨.inl rfl, .inl rfl, trivial⟩ rfl (fun hA => szIntS_c (gl L i) _ (by omega) (by omega)) rfl rfl) ?_
      refine rv (v := .int _ _) (v_assign (.inl rfl) nf) ?_
      refine r_nil ?_
      refine a_seq ?_
      refine a_region ?_
      refine rv (v := .int _ _) (v_move (.inl rfl) nf) ?_
      refine rv (v := .bool _) (v_lss (.inl rfl) (.inl rfl)) ?_
      refine r_nil ?_
      refine a_cond rfl (fun ht25 => ?_) (fun ht25 => ?_)
      ·
        skip
        refine a_seq ?_
        have hneg : left - L.length - (tot L i : Nat) - ((gl L i).length : Int) < 0 := (by have h25 := of_decide_eq_true ht25; unfold szR at h25; split at h25 <;> omega)
        refine a_region ?_
        refine rv (v := .int _ _) (v_assign (.inl rfl) nf) ?_
        refine r_nil ?_
        refine a_ret ?_
        refine ret1 Tryz.results5 (by decide) (by decide) (Weak.of_eq (int_eq ?_)) rfl Leaves.nil
        unfold szR; rw [if_pos (by omega)]
      ·
        skip
        refine a_skip ?_
        refine a_region ?_
        refine rv (v := .int _ _) (v_move (.inl rfl) nf) ?_
        refine rv (v := .int _ _) (v_add (.inl rfl) (.inl rfl) (fun _ => by omega)) ?_
        refine rv (v := .int _ _) (v_assign (.inl rfl) nf) ?_
        refine r_nil ?_
        have hge : ¬ left - L.length - (tot L i : Nat) - ((gl L i).length : Int) < 0 := (by intro h; simp [szR, h] at ht25)
        refine ⟨i + 1, ent_look ⟨Weak.of_eq rfl, Weak.of_eq (int_eq (by unfold szR; rw [if_neg (by omega), hgt]; omega)), Weak.of_eq (int_eq (by omega)), trivial⟩, ⟨by omega, by omega⟩, by omega⟩
    ·
      skip
      refine a_exit ?_
      refine a_seq ?_
      have hie : i = L.length := (by simp at ht15; omega)
      refine a_region ?_
      refine rv (v := .int _ _) (v_move (.inl rfl) nf) ?_
      refine rv (v := .int _ _) (v_assign (.inl rfl) nf) ?_
      refine r_nil ?_
      refine a_ret ?_
      refine ret1 Tryz.results5 (by decide) (by decide) (Weak.of_eq (int_eq ?_)) rfl Leaves.nil
      unfold szR; subst hie; rw [if_neg (by omega)]; omega
theorem szCnf_c (vars : Int) (L : List (List Int)) (left : Int) (hl : 0 ≤ left ∧ left ≤ 1000000000) (hlen : ∀ i, ((gl L i).length : Int) ≤ 9223372036854775807) (hL : (L.length : Int) ≤ 9223372036854775807) : ACall Tryz.prog 4 [.agg [.int .i64 vars, .sl (sls L) L.length], .int .i64 left] [] (.int .i64 (szR left ((L.length + tot L L.length : Nat) : Int))) [] := by
  refine ACall.intro Tryz.func4 rfl (N := 12) rfl (by decide) (by simp) ?_
  refine a_seq ?_
  refine a_region ?_
  refine rn (v := .op [.int _ _, .sl _ _]) (q_box (.inl rfl) rfl rfl) ?_
  refine rv (v := .int _ _) (v_assign (.inl rfl) nf) ?_
  refine r_nil ?_
  refine a_seq ?_
  refine a_region ?_
  refine rv (v := .rp _ _) (v_fieldAddr_rp fo24_1 (.inl rfl)) ?_
  refine rv (v := .sl _ _) (v_load_rp1 ta22 (.inl rfl) rfl (fun _ => rfl) rfl) ?_
  refine rv (v := .int _ _) (v_move (.inl rfl) nf) ?_
  refine rn (v := .int _ _) (q_call (vs := [.sl _ _, .int _ _]) (args := [.sl _ _, .int .i64 _]) hb5 ⟨.inl rfl, .inl rfl, trivial⟩ rfl (fun hA => szIntSS_c L left hl hlen hL) rfl rfl) ?_
  refine rv (v := .int _ _) (v_assign (.inl rfl) nf) ?_
  refine r_nil ?_
  refine a_seq ?_
  refine a_seq ?_
  refine a_region ?_
  refine rv (v := .int _ _) (v_move (.inl rfl) nf) ?_
  refine rv (v := .bool _) (v_lss (.inl rfl) (.inl rfl)) ?_
  refine r_nil ?_
  refine a_cond rfl (fun ht10 => ?_) (fun ht10 => ?_)
  ·
    skip
    refine a_seq ?_
    refine a_region ?_
    refine rv (v := .int _ _) (v_assign (.inl rfl) nf) ?_
    refine r_nil ?_
    refine a_ret ?_
    refine ret1 Tryz.results4 (by decide) (by decide) (Weak.of_eq (int_eq ?_)) rfl Leaves.nil
    have h10 := of_decide_eq_true ht10; unfold szR at h10 ⊢; split at h10 <;> rename_i hh; rw [if_pos hh]; omega
  ·
    skip
    refine a_skip ?_
    refine a_seq ?_
    refine a_region ?_
    refine rv (v := .int _ _) (v_move (.inl rfl) nf) ?_
    refine rv (v := .int _ _) (v_assign (.inl rfl) nf) ?_
    refine r_nil ?_
    refine a_ret ?_
    refine ret1 Tryz.results4 (by decide) (by decide) (Weak.of_eq (int_eq ?_)) rfl Leaves.nil
    rfl
theorem toIntSS_c (L : List (List Int)) (hL : L.length ≤ 1048576) (ht : tot L L.length ≤ 1048576) : ACall Tryz.prog 8 [.sl (sls L) L.length] [] (.osl 1 (osls L) L.length none) [] := by
  refine ACall.intro Tryz.func8 rfl (N := 23) rfl (by decide) (by simp) ?_
  refine a_seq ?_
  refine a_region ?_
  refine rv (v := .nils) (v_assign (.inl rfl) nf) ?_
  refine r_nil ?_
  refine a_seq ?_
  refine a_region ?_
  refine rv (v := .sl _ _) (v_move (.inl rfl) nf) ?_
  refine rv (v := .int _ _) (v_len_sl sl22 (.inl rfl)) ?_
  refine rn (v := .osl _ _ _ _) (q_makeSlice us22 sb25 zc25 rfl (by decide) (.inl rfl) (.inl rfl) (fun _ => by omega)) ?_
  refine rv (v := .rsl _ _ _ _ _) (v_assign (.inl rfl) nf) ?_
  refine r_pre (ent_reloc_sl (t := 3) rfl rfl) ?_
  refine r_nil ?_
  refine a_seq ?_
  refine a_seq ?_
  refine a_region ?_
  refine rv (v := .int _ _) (v_assign (.inl rfl) nf) ?_
  refine r_nil ?_
  refine a_block ?_
  refine a_loop (X := Nat) (fun i => look [(0, .sl (sls L) L.length), (3, .osl 1 (partO L i) L.length (some L.length)), (4, .int .i64 ((i : Nat) : Int))]) (fun i => i ≤ L.length) (fun i => L.length - i) 0 (ent_look ⟨Weak.of_eq rfl, Weak.of_eq (osl_eq (by rw [partO_zero])), Weak.of_eq rfl, trivial⟩) (Nat.zero_le _) (fun i hG => ?_)
  refine a_seq ?_
  refine a_seq ?_
  refine a_region ?_
  refine rv (v := .int _ _) (v_move (.inl rfl) nf) ?_
  refine rv (v := .sl _ _) (v_move (.inl rfl) nf) ?_
  refine rv (v := .int _ _) (v_len_sl sl22 (.inl rfl)) ?_
  refine rv (v := .bool _) (v_lss (.inl rfl) (.inl rfl)) ?_
  refine r_nil ?_
  refine a_cond rfl (fun ht11 => ?_) (fun ht11 => ?_)
  ·
    skip
    refine a_skip ?_
    refine a_seq ?_
    refine a_block ?_
    have hi : i < L.length := (by simp at ht11; omega)
    have hle := len_tot (L := L) (i := i)
    have hpl : i * 1 + 1 ≤ (partO L i).length := (by rw [partO_length (by omega)]; omega)
    have hset : (partO L i).set (i * 1) (.osl 1 (icells (gl L i)) (gl L i).length none) = partO L (i + 1) := (by rw [Nat.mul_one, partO_set hi])
    refine a_region ?_
    refine rv (v := .rsl _ _ _ _ _) (v_move (.inl rfl) nf) ?_
    refine rv (v := .int _ _) (v_move (.inl rfl) nf) ?_
    refine rv (v := .sl _ _) (v_move (.inl rfl) nf) ?_
    refine rv (v := .int _ _) (v_move (.inl rfl) nf) ?_
    refine rv (v := .pp _ _) (v_indexAddr_sl es22 (.inl rfl) (.inl rfl) (fun _ => ⟨by omega, by omega, sls_ne hi⟩)) ?_
    refine rv (v := .sl (icells (gl L i)) (gl L i).length) (v_load_pp ta25 (.inl rfl) (fun _ => by rw [Nat.mul_one]; exact sls_get hi) rfl) ?_
    refine rn (v := .osl _ _ _ _) (q_call (vs := [.sl _ _]) (args := [.sl _ _]) hb9 ⟨.inl rfl, trivial⟩ rfl (fun hA => toIntS_c (gl L i) (by omega)) (ic_noSh _) (ic_noRef _)) ?_
    refine rv (v := .rp _ _) (v_indexAddr_rsl0 es22 (.inl rfl) (.inl rfl) (fun _ => by omega)) ?_
    refine r_step rfl (o_store_own (v := .osl _ _ _ _) (y' := .osl 1 (partO L (i + 1)) L.length (some L.length)) rfl rfl ta25 (.inl rfl) (by decide) rfl (by decide) rfl (by simp [cellsOf, noRefL, noRef, ic_noRef]) rfl rfl rfl rfl rfl hpl rfl (congrArg (fun c => AV.osl 1 c L.length (some L.length)) hset)) ?_
    refine r_nil ?_
    refine a_region ?_
    refine rv (v := .int _ _) (v_move (.inl rfl) nf) ?_
    refine rv (v := .int _ _) (v_add (.inl rfl) (.inl rfl) (fun _ => by omega)) ?_
    refine rv (v := .int _ _) (v_assign (.inl rfl) nf) ?_
    refine r_nil ?_
    refine ⟨i + 1, ent_look ⟨Weak.of_eq rfl, Weak.of_eq rfl, Weak.of_eq (int_eq (by omega)), trivial⟩, by omega, by omega⟩
  ·
    skip
    refine a_exit ?_
    refine a_seq ?_
    refine a_region ?_
    refine rv (v := .rsl _ _ _ _ _) (v_move (.inl rfl) nf) ?_
    refine rv (v := .rsl _ _ _ _ _) (v_assign (.inl rfl) nf) ?_
    refine r_pre (ent_reloc_sl (t := 2) rfl rfl) ?_
    refine r_nil ?_
    refine a_ret ?_
    refine ret1 Tryz.results8 (by decide) (by decide) (Weak.osl ?_ ?_) rfl Leaves.nil
    · simp at ht11; rw [partO_full (by omega)]
    · rfl
theorem toCnf_c (vars : Int) (L : List (List Int)) (hL : L.length ≤ 1048576) (ht : tot L L.length ≤ 1048576) : ACall Tryz.prog 7 [.agg [.int .i64 vars, .sl (sls L) L.length]] [] (.agg [.int .i64 vars, .osl 1 (osls L) L.length none]) [] := by
  refine ACall.intro Tryz.func7 rfl (N := 12) rfl (by decide) (by simp) ?_
  refine a_seq ?_
  refine a_region ?_
  refine rn (v := .op [.int _ _, .sl _ _]) (q_box (.inl rfl) rfl rfl) ?_
  refine rn (v := .op [.int _ _, .nils]) (q_alloc zc30) ?_
  refine r_nil ?_
  refine a_seq ?_
  refine a_region ?_
  refine rn (v := .op [.int _ _, .nils]) (q_alloc zc30) ?_
  refine r_nil ?_
  refine a_seq ?_
  refine a_region ?_
  refine rv (v := .rp _ _) (v_fieldAddr_rp fo24_0 (.inl rfl)) ?_
  refine rv (v := .int _ _) (v_load_rp1 ta3 (.inl rfl) rfl (fun _ => rfl) rfl) ?_
  refine rv (v := .rp _ _) (v_fieldAddr_rp fo30_0 (.inl rfl)) ?_
  refine r_step rfl (o_store (v := .int _ _) (y' := .op [.int _ _, .nils]) rfl rfl ta3 (.inl rfl) (.inl rfl) rfl rfl rfl rfl rfl rfl (Nat.le_of_ble_eq_true rfl) (by decide) rfl rfl) ?_
  refine r_nil ?_
  refine a_seq ?_
  refine a_region ?_
  refine rv (v := .rp _ _) (v_fieldAddr_rp fo24_1 (.inl rfl)) ?_
  refine rv (v := .sl _ _) (v_load_rp1 ta22 (.inl rfl) rfl (fun _ => rfl) rfl) ?_
  refine rn (v := .osl _ _ _ _) (q_call (vs := [.sl _ _]) (args := [.sl _ _]) hb8 ⟨.inl rfl, trivial⟩ rfl (fun hA => toIntSS_c L hL ht) (osls_noSh _) (osls_noRef _)) ?_
  refine rv (v := .rp _ _) (v_fieldAddr_rp fo30_1 (.inl rfl)) ?_
  refine r_step rfl (o_store_own (v := .osl _ _ _ _) (y' := .op [.int _ _, .osl _ _ _ _]) rfl rfl ta22 (.inl rfl) (by decide) rfl (by decide) rfl (by simp [cellsOf, noRefL, noRef, osls_noRef]) rfl rfl rfl rfl rfl (Nat.le_of_ble_eq_true rfl) rfl rfl) ?_
  refine r_nil ?_
  refine a_seq ?_
  refine a_region ?_
  refine rv (v := .agg [.int _ _, .rsl _ _ _ _ _]) (v_load_rpa (xs := [.int _ _, .osl _ _ _ _]) ta30 (.inl rfl) rfl rfl (fun _ => take_get rfl)) ?_
  refine r_pre (ent_reloc_at_sl (t := 11) (r := [1]) rfl (by decide) rfl rfl) ?_
  refine r_step rfl (o_store_own (v := .agg [.int _ _, .osl _ _ _ _]) (y' := .op [.int _ _, .osl _ _ _ _]) rfl rfl ta30 (.inl rfl) (by decide) rfl (by decide) rfl (by simp [cellsOf, noRefL, noRef, osls_noRef]) rfl rfl rfl rfl rfl (Nat.le_of_ble_eq_true rfl) rfl rfl) ?_
  refine r_nil ?_
  refine a_ret ?_
  refine retC1 (r := .cell 2 30) Tryz.results7 ⟨by decide, _, cell_agg rfl ta30, rfl⟩ (by decide) (Weak.of_eq (agg_eq (l2_eq (int_eq ?_) (osl_eq2 ?_ ?_)))) rfl Leaves.nil
  all_goals rfl
theorem eqIntSS_c (L M : List (List Int)) (hL : (L.length : Int) ≤ 9223372036854775807) (hM : (M.length : Int) ≤ 9223372036854775807) (hlen : ∀ i, ((gl L i).length : Int) ≤ 9223372036854775807) : ACall Tryz.prog 13 [.sl (sls L) L.length, .sl (sls M) M.length] [] (.bool (decide (L = M))) [] := by
  refine ACall.intro Tryz.func13 rfl (N := 27) rfl (by decide) (by simp) ?_
  refine a_seq ?_
  refine a_region ?_
  refine rv (v := .bool _) (v_assign (.inl rfl) nf) ?_
  refine r_nil ?_
  refine a_seq ?_
  refine a_seq ?_
  refine a_region ?_
  refine rv (v := .sl _ _) (v_move (.inl rfl) nf) ?_
  refine rv (v := .int _ _) (v_len_sl sl22 (.inl rfl)) ?_
  refine rv (v := .sl _ _) (v_move (.inl rfl) nf) ?_
  refine rv (v := .int _ _) (v_len_sl sl22 (.inl rfl)) ?_
  refine rv (v := .bool _) (v_neq (.inl rfl) (.inl rfl)) ?_
  refine r_nil ?_
  refine a_cond rfl (fun ht10 => ?_) (fun ht10 => ?_)
  ·
    skip
    refine a_seq ?_
    refine a_region ?_
    refine rv (v := .bool _) (v_assign (.inl rfl) nf) ?_
    refine r_nil ?_
    refine a_ret ?_
    refine ret1 Tryz.results13 (by decide) (by decide) (Weak.of_eq (bool_eq ?_)) rfl Leaves.nil
    simp at ht10; exact (decide_eq_false (fun h => ht10 (by rw [h]))).symm
  ·
    skip
    refine a_skip ?_
    refine a_seq ?_
    refine a_seq ?_
    refine a_region ?_
    refine rv (v := .int _ _) (v_assign (.inl rfl) nf) ?_
    refine r_nil ?_
    refine a_block ?_
    refine a_loop (X := Nat) (fun i => look [(0, .sl (sls L) L.length), (1, .sl (sls M) M.length), (5, .int .i64 ((i : Nat) : Int))]) (fun i => i ≤ L.length ∧ L.length = M.length ∧ L.take i = M.take i) (fun i => L.length - i) 0 (ent_look ⟨Weak.of_eq rfl, Weak.of_eq rfl, Weak.of_eq rfl, trivial⟩) ⟨Nat.zero_le _, by simp at ht10; omega, rfl⟩ (fun i hG => ?_)
    obtain ⟨g1, g2, g3⟩ := hG
    refine a_seq ?_
    refine a_seq ?_
    refine a_region ?_
    refine rv (v := .int _ _) (v_move (.inl rfl) nf) ?_
    refine rv (v := .sl _ _) (v_move (.inl rfl) nf) ?_
    refine rv (v := .int _ _) (v_len_sl sl22 (.inl rfl)) ?_
    refine rv (v := .bool _) (v_lss (.inl rfl) (.inl rfl)) ?_
    refine r_nil ?_
    refine a_cond rfl (fun ht14 => ?_) (fun ht14 => ?_)
    ·
      skip
      refine a_skip ?_
      refine a_seq ?_
      refine a_block ?_
      refine a_seq ?_
      have hi : i < L.length := (by simp at ht14; omega)
      refine a_region_any mixed (by kernel_rfl) ?_
      refine yv (v := .sl _ _) (v_move (.inl rfl) nf) ?_
      refine yv (v := .int _ _) (v_move (.inl rfl) nf) ?_
      refine yv (v := .pp _ _) (v_indexAddr_sl es22 (.inl rfl) (.inl rfl) (fun _ => ⟨by omega, by omega, sls_ne hi⟩)) ?_
      refine yv (v := .sl (icells (gl L i)) (gl L i).length) (v_load_pp ta25 (.inl rfl) (fun _ => by rw [Nat.mul_one]; exact sls_get hi) rfl) ?_
      refine yv (v := .sl _ _) (v_move (.inl rfl) nf) ?_
      refine yv (v := .int _ _) (v_move (.inl rfl) nf) ?_
      refine yv (v := .pp _ _) (v_indexAddr_sl es22 (.inl rfl) (.inl rfl) (fun _ => ⟨by omega, by omega, sls_ne (L := M) (i := i) (by omega)⟩)) ?_
      refine yv (v := .sl (icells (gl M i)) (gl M i).length) (v_load_pp ta25 (.inl rfl) (fun _ => by rw [Nat.mul_one]; exact sls_get (by omega)) rfl) ?_
      refine y_new (v := .bool _) (q_call (vs := [.sl _ _, .sl _ _]) (args := [.sl _ _, .sl _ _]) hb11 ⟨.inl rfl, .inl rfl, trivial⟩ rfl (fun hA => eqIntS_c (gl L i) (gl M i) (hlen i)) rfl rfl) rfl rfl (by decide) (by kernel_rfl) ?_
      refine yv (v := .bool _) (v_not (.inl rfl)) ?_
      refine y_nil ?_
      refine a_cond rfl (fun ht26 => ?_) (fun ht26 => ?_)
      ·
        skip
        refine a_seq ?_
        refine a_region ?_
        refine rv (v := .bool _) (v_assign (.inl rfl) nf) ?_
        refine r_nil ?_
        refine a_ret ?_
        refine ret1 Tryz.results13 (by decide) (by decide) (Weak.of_eq (bool_eq ?_)) rfl Leaves.nil
        simp at ht26; refine (decide_eq_false (fun h => ?_)).symm
        subst h
        simp at ht26
      ·
        skip
        refine a_skip ?_
        refine a_region ?_
        refine rv (v := .int _ _) (v_move (.inl rfl) nf) ?_
        refine rv (v := .int _ _) (v_add (.inl rfl) (.inl rfl) (fun _ => by omega)) ?_
        refine rv (v := .int _ _) (v_assign (.inl rfl) nf) ?_
        refine r_nil ?_
        refine ⟨i + 1, ent_look ⟨Weak.of_eq rfl, Weak.of_eq rfl, Weak.of_eq (int_eq (by omega)), trivial⟩, ⟨by omega, g2, gl_take hi (by omega) g3 (by simpa using ht26)⟩, by omega⟩
    ·
      skip
      refine a_exit ?_
      refine a_seq ?_
      refine a_region ?_
      refine rv (v := .bool _) (v_assign (.inl rfl) nf) ?_
      refine r_nil ?_
      refine a_ret ?_
      refine ret1 Tryz.results13 (by decide) (by decide) (Weak.of_eq (bool_eq ?_)) rfl Leaves.nil
      simp at ht14; refine (decide_eq_true ?_).symm
      rw [List.take_of_length_le (by omega), List.take_of_length_le (by omega)] at g3; exact g3
theorem eqCnf_c (vars v2 : Int) (L M : List (List Int)) (hL : (L.length : Int) ≤ 9223372036854775807) (hM : (M.length : Int) ≤ 9223372036854775807) (hlen : ∀ i, ((gl L i).length : Int) ≤ 9223372036854775807) : ACall Tryz.prog 12 [.agg [.int .i64 vars, .sl (sls L) L.length], .agg [.int .i64 v2, .sl (sls M) M.length]] [] (.bool (decide (vars = v2) && decide (L = M))) [] := by
  refine ACall.intro Tryz.func12 rfl (N := 16) rfl (by decide) (by simp) ?_
  refine a_seq ?_
  refine a_region ?_
  refine rn (v := .op [.int _ _, .sl _ _]) (q_box (.inl rfl) rfl rfl) ?_
  refine rn (v := .op [.int _ _, .sl _ _]) (q_box (.inl rfl) rfl rfl) ?_
  refine rv (v := .bool _) (v_assign (.inl rfl) nf) ?_
  refine r_nil ?_
  refine a_seq ?_
  refine a_seq ?_
  refine a_region ?_
  refine rv (v := .rp _ _) (v_fieldAddr_rp fo30_0 (.inl rfl)) ?_
  refine rv (v := .int _ _) (v_load_rp1 ta3 (.inl rfl) rfl (fun _ => rfl) rfl) ?_
  refine rv (v := .rp _ _) (v_fieldAddr_rp fo30_0 (.inl rfl)) ?_
  refine rv (v := .int _ _) (v_load_rp1 ta3 (.inl rfl) rfl (fun _ => rfl) rfl) ?_
  refine rv (v := .bool _) (v_neq (.inl rfl) (.inl rfl)) ?_
  refine r_nil ?_
  refine a_cond rfl (fun ht9 => ?_) (fun ht9 => ?_)
  ·
    skip
    refine a_seq ?_
    refine a_region ?_
    refine rv (v := .bool _) (v_assign (.inl rfl) nf) ?_
    refine r_nil ?_
    refine a_ret ?_
    refine ret1 Tryz.results12 (by decide) (by decide) (Weak.of_eq (bool_eq ?_)) rfl Leaves.nil
    simp at ht9; simp [ht9]
  ·
    skip
    refine a_skip ?_
    refine a_seq ?_
    refine a_seq ?_
    refine a_region ?_
    refine rv (v := .rp _ _) (v_fieldAddr_rp fo30_1 (.inl rfl)) ?_
    refine rv (v := .sl _ _) (v_load_rp1 ta22 (.inl rfl) rfl (fun _ => rfl) rfl) ?_
    refine rv (v := .rp _ _) (v_fieldAddr_rp fo30_1 (.inl rfl)) ?_
    refine rv (v := .sl _ _) (v_load_rp1 ta22 (.inl rfl) rfl (fun _ => rfl) rfl) ?_
    refine rn (v := .bool _) (q_call (vs := [.sl _ _, .sl _ _]) (args := [.sl _ _, .sl _ _]) hb13 ⟨.inl rfl, .inl rfl, trivial⟩ rfl (fun hA => eqIntSS_c L M hL hM hlen) rfl rfl) ?_
    refine rv (v := .bool _) (v_not (.inl rfl)) ?_
    refine r_nil ?_
    refine a_cond rfl (fun ht15 => ?_) (fun ht15 => ?_)
    ·
      skip
      refine a_seq ?_
      refine a_region ?_
      refine rv (v := .bool _) (v_assign (.inl rfl) nf) ?_
      refine r_nil ?_
      refine a_ret ?_
      refine ret1 Tryz.results12 (by decide) (by decide) (Weak.of_eq (bool_eq ?_)) rfl Leaves.nil
      simp at ht15; simp [ht15]
    ·
      skip
      refine a_skip ?_
      refine a_seq ?_
      refine a_region ?_
      refine rv (v := .bool _) (v_assign (.inl rfl) nf) ?_
      refine r_nil ?_
      refine a_ret ?_
      refine ret1 Tryz.results12 (by decide) (by decide) (Weak.of_eq (bool_eq ?_)) rfl Leaves.nil
      simp at ht9 ht15; simp [ht9, ht15]
theorem isCnf_c (vars : Int) (L : List (List Int)) (hk : CnfOk vars L) : ACall Tryz.prog 51 [.agg [.int .i64 vars, .sl (sls L) L.length]] [] (.bool (cnfB vars L)) [] := by
  have hk1 := hk.1
  have hk2 := hk.2.1
  have hk3 := hk.2.2.1
  refine ACall.intro Tryz.func51 rfl (N := 27) rfl (by decide) (by simp) ?_
  refine a_seq ?_
  refine a_region ?_
  refine rn (v := .op [.int _ _, .sl _ _]) (q_box (.inl rfl) rfl rfl) ?_
  refine rv (v := .bool _) (v_assign (.inl rfl) nf) ?_
  refine r_nil ?_
  refine a_seq ?_
  refine a_seq ?_
  refine a_region ?_
  refine rv (v := .rp _ _) (v_fieldAddr_rp fo30_1 (.inl rfl)) ?_
  refine rv (v := .sl _ _) (v_load_rp1 ta22 (.inl rfl) rfl (fun _ => rfl) rfl) ?_
  refine rv (v := .int _ _) (v_len_sl sl22 (.inl rfl)) ?_
  refine rv (v := .int _ _) (v_move (.inl rfl) nf) ?_
  refine r_nil ?_
  refine a_block ?_
  refine a_loop (X := Nat) (fun i => look [(1, .op [.int .i64 vars, .sl (sls L) L.length]), (6, .sl (sls L) L.length), (7, .int .i64 (L.length : Int)), (8, .int .i64 ((i : Nat) : Int))]) (fun i => i ≤ L.length ∧ ∀ j, j < i → clB vars (gl L j) = true) (fun i => L.length - i) 0 (ent_look ⟨Weak.of_eq rfl, Weak.of_eq rfl, Weak.of_eq rfl, Weak.of_eq rfl, trivial⟩) ⟨Nat.zero_le _, fun j h => by omega⟩ (fun i hG => ?_)
  obtain ⟨g1, g2⟩ := hG
  have hle := len_tot (L := L) (i := i)
  refine a_seq ?_
  refine a_region ?_
  refine rv (v := .bool _) (v_lss (.inl rfl) (.inl rfl)) ?_
  refine r_nil ?_
  refine a_seq ?_
  refine a_cond rfl (fun ht9 => ?_) (fun ht9 => ?_)
  ·
    skip
    refine a_skip ?_
    refine a_seq ?_
    refine a_block ?_
    refine a_seq ?_
    have hi : i < L.length := (by simp at ht9; omega)
    refine a_region ?_
    refine rv (v := .pp _ _) (v_indexAddr_sl es22 (.inl rfl) (.inl rfl) (fun _ => ⟨by omega, by omega, sls_ne hi⟩)) ?_
    refine rv (v := .sl (icells (gl L i)) (gl L i).length) (v_load_pp ta25 (.inl rfl) (fun _ => by rw [Nat.mul_one]; exact sls_get hi) rfl) ?_
    refine rv (v := .sl _ _) (v_assign (.inl rfl) nf) ?_
    refine r_nil ?_
    refine a_seq ?_
    refine a_region ?_
    refine rv (v := .rp _ _) (v_fieldAddr_rp fo30_0 (.inl rfl)) ?_
    refine rv (v := .int _ _) (v_load_rp1 ta3 (.inl rfl) rfl (fun _ => rfl) rfl) ?_
    refine rv (v := .sl _ _) (v_move (.inl rfl) nf) ?_
    refine rn (v := .bool _) (q_call (vs := [.int _ _, .sl _ _]) (args := [.int .i64 _, .sl _ _]) hb73 ⟨.inl rfl, .inl rfl, trivial⟩ rfl (fun hA => isClause_c vars (gl L i) hk1 (by omega) (fun j => hk.2.2.2 i j)) rfl rfl) ?_
    refine rv (v := .bool _) (v_not (.inl rfl)) ?_
    refine r_nil ?_
    refine a_cond rfl (fun ht16 => ?_) (fun ht16 => ?_)
    ·
      skip
      refine a_seq ?_
      have hno := cnfB_no hi (by simpa using ht16)
      refine a_region ?_
      refine rv (v := .bool _) (v_assign (.inl rfl) nf) ?_
      refine r_nil ?_
      refine a_ret ?_
      refine ret1 Tryz.results51 (by decide) (by decide) (Weak.of_eq (bool_eq ?_)) rfl Leaves.nil
      rw [hno]
    ·
      skip
      refine a_skip ?_
      refine a_region ?_
      refine rv (v := .int _ _) (v_add (.inl rfl) (.inl rfl) (fun _ => by omega)) ?_
      refine rv (v := .int _ _) (v_move (.inl rfl) nf) ?_
      refine r_nil ?_
      refine ⟨i + 1, ent_look ⟨Weak.of_eq rfl, Weak.of_eq rfl, Weak.of_eq rfl, Weak.of_eq (int_eq (by omega)), trivial⟩, ⟨by omega, fun j h1 => by rcases Nat.lt_or_ge j i with h | h; exact g2 j h; (obtain rfl : j = i := by omega); simpa using ht16⟩, by omega⟩
  ·
    skip
    refine a_exit ?_
    refine a_seq ?_
    have hyes := cnfB_yes (vars := vars) (fun j hj => g2 j (by simp at ht9; omega))
    refine a_region ?_
    refine rv (v := .rp _ _) (v_fieldAddr_rp fo30_0 (.inl rfl)) ?_
    refine rv (v := .int _ _) (v_load_rp1 ta3 (.inl rfl) rfl (fun _ => rfl) rfl) ?_
    refine rn (v := .bool _) (q_call (vs := [.int _ _]) (args := [.int .i64 _]) hb74 ⟨.inl rfl, trivial⟩ rfl (fun hA => varsOk_c _) rfl rfl) ?_
    refine rv (v := .bool _) (v_move (.inl rfl) nf) ?_
    refine r_gval (v := .rp _ _) (v_fieldAddr_rp fo30_1 (.inl rfl)) rfl rfl rfl (by decide) (.inl ⟨_, rfl, rfl⟩) rfl (by decide) ?_
    refine r_gval (v := .sl _ _) (v_load_rp1 ta22 (.inr ⟨_, rfl, fun h => h⟩) rfl (fun _ => rfl) rfl) rfl rfl rfl (by decide) (.inl ⟨_, rfl, rfl⟩) rfl (by decide) ?_
    refine r_gval (v := .int _ _) (v_len_sl sl22 (.inr ⟨_, rfl, fun h => h⟩)) rfl rfl rfl (by decide) (.inl ⟨_, rfl, rfl⟩) rfl (by decide) ?_
    refine r_gval (v := .bool _) (v_leq (.inr ⟨_, rfl, fun h => h⟩) (.inl rfl)) rfl rfl rfl (by decide) (.inl ⟨_, rfl, rfl⟩) rfl (by decide) ?_
    refine rv (v := .bool _) (v_pick (.inl rfl) (.inr ⟨_, rfl, fun h h2 => by simp_all⟩) (.inl rfl)) ?_
    refine rv (v := .bool _) (v_assign (.inl rfl) nf) ?_
    refine r_nil ?_
    refine a_ret ?_
    refine ret1 Tryz.results51 (by decide) (by decide) (Weak.of_eq (bool_eq ?_)) rfl Leaves.nil
    rw [hyes]; cases inR vars 0 12 <;> simp <;> omega
theorem l2Good_c (vars : Int) (L : List (List Int)) (hk : CnfOk vars L) : ACall Tryz.prog 67 [.agg [.int .i64 vars, .sl (sls L) L.length]] [] (.bool (cnfB vars L)) [] := by
  have hk1 := hk.1
  have hk2 := hk.2.1
  have hk3 := hk.2.2.1
  refine ACall.intro Tryz.func67 rfl (N := 30) rfl (by decide) (by simp) ?_
  refine a_seq ?_
  refine a_region ?_
  refine rn (v := .op [.int _ _, .sl _ _]) (q_box (.inl rfl) rfl rfl) ?_
  refine rv (v := .bool _) (v_assign (.inl rfl) nf) ?_
  refine r_nil ?_
  refine a_seq ?_
  refine a_seq ?_
  refine a_region ?_
  refine rv (v := .rp _ _) (v_fieldAddr_rp fo30_0 (.inl rfl)) ?_
  refine rv (v := .int _ _) (v_load_rp1 ta3 (.inl rfl) rfl (fun _ => rfl) rfl) ?_
  refine rn (v := .bool _) (q_call (vs := [.int _ _]) (args := [.int .i64 _]) hb71 ⟨.inl rfl, trivial⟩ rfl (fun hA => l2Vars_c _) rfl rfl) ?_
  refine rv (v := .bool _) (v_not (.inl rfl)) ?_
  refine rv (v := .bool _) (v_move (.inl rfl) nf) ?_
  refine r_gval (v := .rp _ _) (v_fieldAddr_rp fo30_1 (.inl rfl)) rfl rfl rfl (by decide) (.inl ⟨_, rfl, rfl⟩) rfl (by decide) ?_
  refine r_gval (v := .sl _ _) (v_load_rp1 ta22 (.inr ⟨_, rfl, fun h => h⟩) rfl (fun _ => rfl) rfl) rfl rfl rfl (by decide) (.inl ⟨_, rfl, rfl⟩) rfl (by decide) ?_
  refine r_gval (v := .int _ _) (v_len_sl sl22 (.inr ⟨_, rfl, fun h => h⟩)) rfl rfl rfl (by decide) (.inl ⟨_, rfl, rfl⟩) rfl (by decide) ?_
  refine r_gval (v := .bool _) (v_gtr (.inr ⟨_, rfl, fun h => h⟩) (.inl rfl)) rfl rfl rfl (by decide) (.inl ⟨_, rfl, rfl⟩) rfl (by decide) ?_
  refine rv (v := .bool _) (v_pick (.inl rfl) (.inl rfl) (.inr ⟨_, rfl, fun h h2 => by simp_all⟩)) ?_
  refine r_nil ?_
  refine a_cond rfl (fun ht13 => ?_) (fun ht13 => ?_)
  ·
    skip
    refine a_seq ?_
    refine a_region ?_
    refine rv (v := .bool _) (v_assign (.inl rfl) nf) ?_
    refine r_nil ?_
    refine a_ret ?_
    refine ret1 Tryz.results67 (by decide) (by decide) (Weak.of_eq (bool_eq ?_)) rfl Leaves.nil
    unfold cnfB; cases h1 : inR vars 0 12 <;> simp [h1] at ht13 ⊢; intro h2; omega
  ·
    skip
    refine a_skip ?_
    refine a_seq ?_
    refine a_seq ?_
    refine a_region ?_
    refine rv (v := .int _ _) (v_assign (.inl rfl) nf) ?_
    refine r_nil ?_
    refine a_block ?_
    refine a_loop (X := Nat) (fun i => look [(1, .op [.int .i64 vars, .sl (sls L) L.length]), (3, .int .i64 ((i : Nat) : Int))]) (fun i => i ≤ L.length ∧ ∀ j, j < i → clB vars (gl L j) = true) (fun i => L.length - i) 0 (ent_look ⟨Weak.of_eq rfl, Weak.of_eq rfl, trivial⟩) ⟨Nat.zero_le _, fun j h => by omega⟩ (fun i hG => ?_)
    obtain ⟨g1, g2⟩ := hG
    have hle := len_tot (L := L) (i := i)
    refine a_seq ?_
    refine a_seq ?_
    refine a_region ?_
    refine rv (v := .int _ _) (v_move (.inl rfl) nf) ?_
    refine rv (v := .rp _ _) (v_fieldAddr_rp fo30_1 (.inl rfl)) ?_
    refine rv (v := .sl _ _) (v_load_rp1 ta22 (.inl rfl) rfl (fun _ => rfl) rfl) ?_
    refine rv (v := .int _ _) (v_len_sl sl22 (.inl rfl)) ?_
    refine rv (v := .bool _) (v_lss (.inl rfl) (.inl rfl)) ?_
    refine r_nil ?_
    refine a_cond rfl (fun ht18 => ?_) (fun ht18 => ?_)
    ·
      skip
      refine a_skip ?_
      refine a_seq ?_
      refine a_block ?_
      refine a_seq ?_
      have hi : i < L.length := (by simp at ht18; omega)
      refine a_region_any mixed (by kernel_rfl) ?_
      refine yv (v := .rp _ _) (v_fieldAddr_rp fo30_0 (.inl rfl)) ?_
      refine yv (v := .int _ _) (v_load_rp1 ta3 (.inl rfl) rfl (fun _ => rfl) rfl) ?_
      refine yv (v := .rp _ _) (v_fieldAddr_rp fo30_1 (.inl rfl)) ?_
      refine yv (v := .sl _ _) (v_load_rp1 ta22 (.inl rfl) rfl (fun _ => rfl) rfl) ?_
      refine yv (v := .int _ _) (v_move (.inl rfl) nf) ?_
      refine yv (v := .pp _ _) (v_indexAddr_sl es22 (.inl rfl) (.inl rfl) (fun _ => ⟨by omega, by omega, sls_ne hi⟩)) ?_
      refine yv (v := .sl (icells (gl L i)) (gl L i).length) (v_load_pp ta25 (.inl rfl) (fun _ => by rw [Nat.mul_one]; exact sls_get hi) rfl) ?_
      refine y_new (v := .bool _) (q_call (vs := [.int _ _, .sl _ _]) (args := [.int .i64 _, .sl _ _]) hb50 ⟨.inl rfl, .inl rfl, trivial⟩ rfl (fun hA => l2Clause_c vars (gl L i) hk1 (by omega) (fun j => hk.2.2.2 i j)) rfl rfl) rfl rfl (by decide) (by kernel_rfl) ?_
      refine yv (v := .bool _) (v_not (.inl rfl)) ?_
      refine y_nil ?_
      refine a_cond rfl (fun ht29 => ?_) (fun ht29 => ?_)
      ·
        skip
        refine a_seq ?_
        have hno := cnfB_no hi (by simpa using ht29)
        refine a_region ?_
        refine rv (v := .bool _) (v_assign (.inl rfl) nf) ?_
        refine r_nil ?_
        refine a_ret ?_
        refine ret1 Tryz.results67 (by decide) (by decide) (Weak.of_eq (bool_eq ?_)) rfl Leaves.nil
        rw [hno]
      ·
        skip
        refine a_skip ?_
        refine a_region ?_
        refine rv (v := .int _ _) (v_move (.inl rfl) nf) ?_
        refine rv (v := .int _ _) (v_add (.inl rfl) (.inl rfl) (fun _ => by omega)) ?_
        refine rv (v := .int _ _) (v_assign (.inl rfl) nf) ?_
        refine r_nil ?_
        refine ⟨i + 1, ent_look ⟨Weak.of_eq rfl, Weak.of_eq (int_eq (by omega)), trivial⟩, ⟨by omega, fun j h1 => by rcases Nat.lt_or_ge j i with h | h; exact g2 j h; (obtain rfl : j = i := by omega); simpa using ht29⟩, by omega⟩
    ·
      skip
      refine a_exit ?_
      refine a_seq ?_
      have hyes := cnfB_yes (vars := vars) (fun j hj => g2 j (by simp at ht18; omega))
      refine a_region ?_
      refine rv (v := .bool _) (v_assign (.inl rfl) nf) ?_
      refine r_nil ?_
      refine a_ret ?_
      refine ret1 Tryz.results67 (by decide) (by decide) (Weak.of_eq (bool_eq ?_)) rfl Leaves.nil
      rw [hyes]; cases h1 : inR vars 0 12 <;> simp [h1] at ht13 ⊢; omega
end Go.Av
namespace Go.Av
open Go
section
variable {P : Program} {e : Ctx} {σ τ : Sig} {val : Nat → Value} {w : World} {β : Place → Option (Nat × Nat)} {F : Nat → Prop}
theorem callIO_coreA {f : FuncId} {args vs' : List AV} {res x0 x1 : AV} {q : Place} {vs : List Value} {d : Nat} (hc : ACall P f args [x0] res [x1]) (hn : noSh res = true) (hr : noRef res = true) (hn1 : noSh x1 = true) (hr1 : noRef x1 = true)
    (h : Inv e σ val w β F) (hz : node (σ q.1) q.2 = some x0) (hr0 : refs x0 = []) (hfr : ∀ b arr t fz, (∃ r y s, node x0 r = some y ∧ y.isOwn = true ∧ β (q.1, q.2 ++ r) = some (b, s)) → w.heap[b]? = some (.cells arr t fz) → fz = (0, 0))
    (hl : vs.length = args.length) (ha : RepL (passB q β) (lent (hole σ q) β F) w args (0, []) 0 vs) (hai : ∀ c ∈ args, NoOwn c) (hlen : args.length < INH)
    (hds : d ≠ q.1) (hrs : ∀ p ∈ refs (σ q.1), p.1 ≠ q.1 ∧ p.1 ≠ d)
    (hτ : ∀ i, i ≠ q.1 → τ i = purgeV d (σ i) ∨ τ i = .undef)
    (hτr : ∀ i, i ≠ q.1 → ∀ p ∈ refs (τ i), p.1 = q.1 → ¬ q.2 <+: p.2) :
    Calls P f vs.toArray w fun en w' => ∃ v β', en = .returned v ∧ Inv e (upd (upd τ q.1 (setNode (σ q.1) q.2 x1)) d res) (upd val d v) w' β' F := by
  obtain ⟨u, hu, hput⟩ := (h.rep q.1).zoom hz
  simp only [List.nil_append] at hu
  have hh := h.hole hz
  let inh : Nat → Prop := fun b => ∃ r y s, node x0 r = some y ∧ y.isOwn = true ∧ β (q.1, q.2 ++ r) = some (b, s)
  let G : Nat → Prop := lent (hole σ q) β F
  -- what is handed over is owned by nothing else
  have inh_own : ∀ {b}, inh b → ∃ p s, OwnAt σ p ∧ β p = some (b, s) ∧ (p.1 = q.1 ∧ q.2 <+: p.2) := fun {b} ⟨r, y, s, hy, ho, hb⟩ => ⟨(q.1, q.2 ++ r), s, ownAt_sub hz hy ho, hb, rfl, List.prefix_append _ _⟩
  have inh_not : ∀ {b}, inh b → ¬ F b ∧ (e.w0.heap.size ≤ b ∨ e.inh b) ∧ ∀ p s, OwnAt (hole σ q) p → β p ≠ some (b, s) := fun {b} hb => by
    obtain ⟨p, s, hp, hpb, hpq⟩ := inh_own hb
    refine ⟨(h.sep p b s hp hpb).1, (h.sep p b s hp hpb).2, fun p' s' hp' hb' => ?_⟩
    obtain ⟨h1, h2⟩ := ownAt_hole hz hp'
    have := h.disj p p' b s s' hp h1 hpb hb'
    subst this
    exact h2 hpq
  have hinv : Inv ⟨w, inh, G, []⟩ (argSig args [x0]) (fun i => if i = INH then u else vs.getD i undef) w (passB q β) G := by
    have own : ∀ {p}, OwnAt (argSig args [x0]) p → p.1 = INH ∧ ∃ y, node x0 p.2 = some y ∧ y.isOwn = true := by
      rintro ⟨i, r⟩ ⟨y, hy, ho⟩
      dsimp only at hy
      unfold argSig at hy
      split at hy
      · cases hx : args[i]? with
        | none => rw [hx] at hy; exact (undef_node hy ho).elim
        | some c =>
          rw [hx] at hy
          rw [hai c (List.mem_of_getElem? hx) r y hy] at ho; cases ho
      · rename_i hi
        cases hj : i - INH with
        | zero =>
          rw [hj] at hy
          exact ⟨by dsimp only; omega, y, by simpa using hy, ho⟩
        | succ k => rw [hj] at hy; simp at hy; exact (undef_node hy ho).elim
    refine ⟨fun i => ?_, fun p p' b s s' hp hp' hb hb' => ?_, fun p b s hp hb => ?_, fun b hb => ⟨?_, fun _ => hb⟩, fun _ _ _ => rfl, Nat.le_refl _, Tame.refl' w (fun b arr t fz hb hh => hfr b arr t fz hb hh)⟩
    · by_cases hi : i = INH
      · subst hi
        rw [argSig_inh']
        simp only [if_true]
        exact hu.tr _ (fun b hb => ⟨.inl hb, rfl⟩) (fun r y _ _ => ⟨by simp [passB], fun _ _ _ => rfl⟩) (fun p hp => by rw [hr0] at hp; cases hp)
      · simp only [hi, if_false]
        unfold argSig
        split
        · cases hx : args[i]? with
          | none => simp [Rep]
          | some c =>
            obtain ⟨u', hu', hru⟩ := RepL_iff.1 ha i c hx
            rw [List.getD_eq_getElem?_getD, hu']
            exact hru.tr _ (fun b hb => ⟨hb, rfl⟩) (fun r y hy ho => by rw [hai c (List.mem_of_getElem? hx) r y hy] at ho; cases ho) (fun _ _ => rfl)
        · have : ([x0] : List AV)[i - INH]? = none := List.getElem?_eq_none (by simp; omega)
          rw [this]; simp [Rep]
    · obtain ⟨h1, y, hy, ho⟩ := own hp
      obtain ⟨h1', y', hy', ho'⟩ := own hp'
      simp only [passB, h1, h1', if_true] at hb hb'
      have := h.disj _ _ b s s' (ownAt_sub hz hy ho) (ownAt_sub hz hy' ho') hb hb'
      simp only [Prod.mk.injEq, true_and] at this
      exact Prod.ext (h1.trans h1'.symm) (List.append_cancel_left this)
    · obtain ⟨h1, y, hy, ho⟩ := own hp
      simp only [passB, h1, if_true] at hb
      have hi : inh b := ⟨p.2, y, s, hy, ho, hb⟩
      refine ⟨fun hG => ?_, .inr hi⟩
      rcases hG with hF | ⟨p', s', hp', hb'⟩
      · exact (inh_not hi).1 hF
      · exact (inh_not hi).2.2 p' s' hp' hb'
    · rcases hb with hb | ⟨p, s, hp, hb⟩
      · exact (h.fr b hb).1
      · exact hh.own_lt hp hb
  refine (hc _ vs _ w _ _ hl (fun i hi => by
    have : i ≠ INH := by omega
    simp [this]) hinv).mono fun en w' ⟨v, β', F', he, hi⟩ => ⟨v, ?_⟩
  have hkept : ∀ b, b < w.heap.size → ¬ inh b → w'.heap[b]? = w.heap[b]? := fun b hb hnb => hi.kept b hb hnb
  have hgrow : w.heap.size ≤ w'.heap.size := hi.grow
  have oldnot : ∀ {p b s}, OwnAt (hole σ q) p → β p = some (b, s) → ¬ inh b := fun {p b s} hp hb hi => (inh_not hi).2.2 p s hp hb
  have hH : Inv e (hole σ q) val w' β F := hh.ext (fun b hb => hkept b (h.fr b hb).1 (fun hi => (inh_not hi).1 hb)) (fun p b s hp hb => hkept b (hh.own_lt hp hb) (oldnot hp hb))
    (fun b hb hni => hkept b (Nat.lt_of_lt_of_le hb h.grow) (fun hi => by
      rcases (inh_not hi).2.1 with h1 | h1
      · omega
      · exact hni h1)) hgrow (h.tame.trans' hi.tame hkept)
  have hres : argSig [res] [x1] 0 = res := argSig_zero _ _
  have hobj : argSig [res] [x1] INH = x1 := argSig_inh _ _
  have newb : ∀ {p b s}, OwnAt (argSig [res] [x1]) p → β' p = some (b, s) → ¬ F b ∧ (e.w0.heap.size ≤ b ∨ e.inh b) ∧ ∀ p' s', OwnAt (hole σ q) p' → β p' ≠ some (b, s') := fun {p b s} hp hb => by
    rcases (hi.sep p b s hp hb).2 with hge | hin
    · have hge : w.heap.size ≤ b := hge
      exact ⟨fun hF => by have := (h.fr b hF).1; omega, .inl (Nat.le_trans h.grow hge), fun p' s' hp' hb' => by have := hh.own_lt hp' hb'; omega⟩
    · exact inh_not hin
  have d0 : Det e (hole σ q) w' β F res v (fun r => β' (0, r)) := by
    refine ⟨?_, refs_of_noRef res hr, fun r r' y y' b s s' hy ho hy' ho' hb hb' => ?_, fun r y b s hy ho hb => newb (p := (0, r)) ⟨y, by rw [hres]; exact hy, ho⟩ hb⟩
    · have := hi.rep 0
      rw [hres, upd_same] at this
      exact (this.noSh (G := F) res hn).tr _ (fun b hb => ⟨hb, rfl⟩) (fun r y _ _ => ⟨by simp, fun _ _ _ => rfl⟩) (fun p hp => by rw [refs_of_noRef res hr] at hp; cases hp)
    · have := hi.disj (0, r) (0, r') b s s' ⟨y, by rw [hres]; exact hy, ho⟩ ⟨y', by rw [hres]; exact hy', ho'⟩ hb hb'
      simpa using this
  have I1 := hH.attach d d0
  have hINH0 : (INH : Nat) ≠ 0 := by decide
  have repX := hi.rep INH
  rw [hobj, upd_other _ _ hINH0] at repX
  simp only [if_true] at repX
  have d1 : Det e (upd (fun i => purgeV d (hole σ q i)) d res) w' (fun p => if p.1 = d then β' (0, p.2) else β p) F x1 u (fun r => β' (INH, r)) := by
    refine ⟨?_, refs_of_noRef x1 hr1, fun r r' y y' b s s' hy ho hy' ho' hb hb' => ?_, fun r y b s hy ho hb => ⟨(newb (p := (INH, r)) ⟨y, by rw [hobj]; exact hy, ho⟩ hb).1, (newb (p := (INH, r)) ⟨y, by rw [hobj]; exact hy, ho⟩ hb).2.1, fun p s' hp hb' => ?_⟩⟩
    · exact (repX.noSh (G := F) x1 hn1).tr _ (fun b hb => ⟨hb, rfl⟩) (fun r y _ _ => ⟨by simp, fun _ _ _ => rfl⟩) (fun p hp => by rw [refs_of_noRef x1 hr1] at hp; cases hp)
    · have := hi.disj (INH, r) (INH, r') b s s' ⟨y, by rw [hobj]; exact hy, ho⟩ ⟨y', by rw [hobj]; exact hy', ho'⟩ hb hb'
      simpa using this
    · by_cases hpd : p.1 = d
      · obtain ⟨y', hy', ho'⟩ := hp
        rw [hpd, upd_same] at hy'
        simp only [hpd, if_true] at hb'
        have := hi.disj (INH, r) (0, p.2) b s s' ⟨y, by rw [hobj]; exact hy, ho⟩ ⟨y', by rw [hres]; exact hy', ho'⟩ hb hb'
        simp [hINH0] at this
      · simp only [hpd, if_false] at hb'
        have hp' := (own_upd_other hpd).1 hp
        have : OwnAt (hole σ q) p := by
          obtain ⟨z, hz', hoz⟩ := hp'
          dsimp only at hz'
          rcases purgeV_or d (hole σ q p.1) with hp | hp
          · rw [hp] at hz'; exact ⟨z, hz', hoz⟩
          · rw [hp] at hz'; exact (undef_node hz' hoz).elim
        exact (newb (p := (INH, r)) ⟨y, by rw [hobj]; exact hy, ho⟩ hb).2.2 p s' this hb'
  have hs1 : upd (fun i => purgeV d (hole σ q i)) d res q.1 = setNode (σ q.1) q.2 .undef := by
    rw [upd_other _ _ (Ne.symm hds)]
    have : hole σ q q.1 = setNode (σ q.1) q.2 .undef := by simp [hole, upd]
    rw [this]
    exact purge_id fun p hp => (hrs p (refs_setNode (by simp [refs]) hz p hp)).2
  have hval : upd val d v q.1 = val q.1 := upd_other _ _ (Ne.symm hds)
  have hnz : node (upd (fun i => purgeV d (hole σ q i)) d res q.1) q.2 = some .undef := by rw [hs1]; exact node_set_self hz
  have fin := I1.put (τ := fun i => if i = d then res else τ i) hnz d1 (by
    rw [hs1, setNode_setNode hz, hval]
    refine hput hr1 ?_ (fun b hb => hkept b (h.fr b hb).1 (fun hi => (inh_not hi).1 hb)) (fun r' y' hy' ho hp => ?_) (fun p hp => ?_)
    · simp only [List.nil_append]
      exact (repX.noSh (G := F) x1 hn1).tr _ (fun b hb => ⟨hb, rfl⟩) (fun r y _ _ => ⟨by
        have := glueAt_in (β := fun p => if p.1 = d then β' (0, p.2) else β p) (t := q.1) (r := q.2) (s := r) (δ := fun r => β' (INH, r))
        simpa using this, fun _ _ _ => rfl⟩) (fun p hp => by rw [refs_of_noRef x1 hr1] at hp; cases hp)
    · simp only [List.nil_append]
      have hne : ¬ (q.2 <+: r') := hp
      refine ⟨by rw [glueAt_out (fun hh => hne hh.2)]; simp [Ne.symm hds], fun b s hb => hkept b (h.own_lt (q := (q.1, r')) ⟨y', hy', ho⟩ hb) (fun hin => ?_)⟩
      obtain ⟨p, s', hp', hpb, hpq⟩ := inh_own hin
      have := h.disj p (q.1, r') b s' s hp' ⟨y', hy', ho⟩ hpb hb
      subst this
      exact hne hpq.2
    · rw [glueAt_out (fun hh => (hrs p hp).1 hh.1)]
      simp [(hrs p hp).2]) (fun i hiq => by
    by_cases hid : i = d
    · subst hid; left; simp [upd_same]
    · simp only [hid, if_false]
      rw [upd_other _ _ hid]
      have : hole σ q i = σ i := by simp [hole, upd, hiq]
      rw [this]
      exact hτ i hiq) (fun i hiq p hp => by
    by_cases hid : i = d
    · subst hid
      simp only [if_true] at hp
      rw [refs_of_noRef res hr] at hp; cases hp
    · simp only [hid, if_false] at hp
      by_cases hpq : p.1 = q.1
      · exact glueAt_out (fun hh => hτr i hiq p hp hpq hh.2)
      · exact glueAt_out (fun hh => hpq hh.1))
  rw [hs1, setNode_setNode hz] at fin
  have e1 : upd (fun i => if i = d then res else τ i) q.1 (setNode (σ q.1) q.2 x1) = upd (upd τ q.1 (setNode (σ q.1) q.2 x1)) d res := by
    funext i
    by_cases h1 : i = q.1
    · subst h1; rw [upd_same, upd_other _ _ (Ne.symm hds), upd_same]
    · by_cases h2 : i = d
      · subst h2; rw [upd_other _ _ h1, upd_same]; simp
      · rw [upd_other _ _ h1, upd_other _ _ h2, upd_other _ _ h1]; simp [h2]
  rw [e1] at fin
  exact ⟨_, he, fin⟩
end
def purgeA (q : Place) : AV → AV
  | .rsl p sz off n cap => if p.1 == q.1 && q.2.isPrefixOf p.2 then .undef else .rsl p sz off n cap
  | .rp p off => if p.1 == q.1 && q.2.isPrefixOf p.2 then .undef else .rp p off
  | .agg cs => if (refsL cs).any (fun p => p.1 == q.1 && q.2.isPrefixOf p.2) then .undef else .agg cs
  | .tup cs => if (refsL cs).any (fun p => p.1 == q.1 && q.2.isPrefixOf p.2) then .undef else .tup cs
  | .fn f us cs => if (refsL us ++ refsL cs).any (fun p => p.1 == q.1 && q.2.isPrefixOf p.2) then .undef else .fn f us cs
  | .when b x => if (refs x).any (fun p => p.1 == q.1 && q.2.isPrefixOf p.2) then .undef else .when b x
  | x => x
theorem purgeA_eq (q : Place) (x : AV) : purgeA q x = if (refs x).any (fun p => p.1 == q.1 && q.2.isPrefixOf p.2) then .undef else x := by
  cases x <;> first | rfl | simp [purgeA, refs]
theorem purgeA_or (q : Place) (x : AV) : purgeA q x = x ∨ purgeA q x = .undef := by
  rw [purgeA_eq]; split
  · exact .inr rfl
  · exact .inl rfl
theorem purgeA_refs {q : Place} {x : AV} {p : Place} (hp : p ∈ refs (purgeA q x)) (h : p.1 = q.1) : ¬ q.2 <+: p.2 := by
  rw [purgeA_eq] at hp
  split at hp
  · simp [refs] at hp
  · rename_i hany
    intro hpre
    refine hany (List.any_eq_true.2 ⟨p, hp, ?_⟩)
    simp [h, hpre]
theorem underP_self (q : Place) : underP q q = some [] := by
  unfold underP
  rw [if_pos (by simp)]
  simp
section
variable {P : Program} {N : Nat} {σ τ : Sig} {o : Oper} {d : Nat}
theorem step_IOA {f : FuncId} {args vs : List AV} {res x0 x1 : AV} {q : Place} {us : Act → List Value} (hc : ACall P f args [x0] res [x1]) (hd : o.dst = some d) (hN : d < N)
    (hrun : ∀ a w gv e β F, All N gv e σ a w → Inv e σ (valOf N gv a) w β F → (execOp a.eval o).run P w = .ok (.enter f (us a).toArray) w ∧ RepL β F w vs (0, []) 0 (us a) ∧ (us a).length = vs.length ∧ ∀ c ∈ vs, NoOwn c)
    (hz : node (σ q.1) q.2 = some x0) (hs : passL q (hole σ q) vs = args) (hr0 : refs x0 = []) (hn : noSh res = true) (hr : noRef res = true) (hn1 : noSh x1 = true) (hr1 : noRef x1 = true)
    (hlen : args.length < INH) (hds : d ≠ q.1) (hrs : (refs (σ q.1)).all (fun p => p.1 != q.1 && p.1 != d) = true)
    (hτ : ∀ i, i ≠ q.1 → τ i = purgeV d (σ i) ∨ τ i = .undef)
    (hτr : ∀ i, i ≠ q.1 → ∀ p ∈ refs (τ i), p.1 = q.1 → ¬ q.2 <+: p.2) :
    OStep P N o σ (upd (upd τ q.1 (setNode (σ q.1) q.2 x1)) d res) := by
  intro gv e a w ha K Q hK
  have ha0 := ha
  obtain ⟨hdf, hsz, β, F, hi⟩ := ha
  obtain ⟨h1, h2, h3, hno⟩ := hrun a w gv e β F ha0 hi
  have hh := hi.hole hz
  have hpass := hh.passL q vs (p' := (0, [])) h2 (fun i c hc => hno c (List.mem_of_getElem? hc))
  rw [hs] at hpass
  have hl : (us a).length = args.length := by rw [h3, ← hs, passL_eq]; simp
  have hrs' : ∀ p ∈ refs (σ q.1), p.1 ≠ q.1 ∧ p.1 ≠ d := fun p hp => by
    have := List.all_eq_true.1 hrs p hp
    simpa using this
  obtain ⟨vz, hvz⟩ := (hi.rep q.1).sub hz
  simp only [List.nil_append] at hvz
  refine upon_enter' h1 ((callIO_coreA hc hn hr hn1 hr1 hi hz hr0 (fun b arr t fz ⟨r, y, s, hy, ho, hb⟩ hh => own_fz hvz hy ho hb hh) hl (hpass) (by rw [← hs]; exact noOwn_passL _ _ _ hno) hlen hds hrs' hτ hτr (vs' := vs)).mono fun en w' ⟨v, β', he, hi'⟩ => ⟨v, he, hK _ _ ⟨?_, ?_, β', F, ?_⟩⟩)
  · rw [hd]; exact hdf
  · rw [hd, size_put]; exact hsz
  · rw [hd, valOf_put hsz hN]; exact hi'
theorem o_callIOa {f : FuncId} {xs : List Operand} {tys : Array TypeId} {vs args : List AV} {res x0 x1 : AV} {q : Place} (ho : o.op = fnCall f xs tys) (hf : hasBody P f = true) (hd : o.dst = some d) (hN : d < N) (hx : RdL N true σ xs vs)
    (hz : node (σ q.1) q.2 = some x0) (hs : passL q (hole σ q) vs = args) (hc : ACall P f args [x0] res [x1])
    (hr0 : refs x0 = []) (hn : noSh res = true) (hr : noRef res = true) (hn1 : noSh x1 = true) (hr1 : noRef x1 = true) (hlen : args.length < INH) (hds : d ≠ q.1) (hrs : (refs (σ q.1)).all (fun p => p.1 != q.1 && p.1 != d) = true) :
    OStep P N o σ (upd (upd (fun i => purgeA q (purgeV d (σ i))) q.1 (setNode (σ q.1) q.2 x1)) d res) :=
  step_IOA (us := fun a => xs.map a.eval) hc hd hN (fun a w gv e β F _ hi => run_fnCall ho hf hx hi) hz hs hr0 hn hr hn1 hr1 hlen hds hrs
    (fun i _ => by
      rcases purgeA_or q (purgeV d (σ i)) with h | h
      · exact .inl h
      · exact .inr h) (fun i _ p hp hpq => purgeA_refs hp hpq)
end
end Go.Av
namespace Go.Av
open Go Go.Proofs Go.Sort
set_option maxRecDepth 10000
theorem hb15 : hasBody Tryz.prog 15 = true := by kernel_rfl
theorem hb16 : hasBody Tryz.prog 16 = true := by kernel_rfl
theorem markIntSS_c (L : List (List Int)) (k : Int) (h : -1000000000 ≤ k ∧ k ≤ 1000000000) (hL : L.length ≤ 1048576) (ht : tot L L.length ≤ 1048576) : ACall Tryz.prog 15 [.rsl (INH, []) 1 0 L.length none, .int .i64 k] [.osl 1 (osls L) L.length none] (.int .i64 (k + (tot L L.length : Nat))) [.osl 1 (osls (mkSS k L)) L.length none] := by
 refine ACall.intro Tryz.func15 rfl (N := 19) rfl (by decide) (by simp) ?_
 refine a_seq ?_
 refine a_region ?_
 refine rv (v := .int _ _) (v_assign (.inl rfl) nf) ?_
 refine r_nil ?_
 refine a_seq ?_
 refine a_seq ?_
 refine a_region ?_
 refine rv (v := .int _ _) (v_assign (.inl rfl) nf) ?_
 refine r_nil ?_
 refine a_block ?_
 refine a_loop (X := Nat) (fun i => look [(0, .rsl (INH, []) 1 0 L.length none), (1, .int .i64 (k + (tot L i : Nat))), (5, .int .i64 ((i : Nat) : Int)), (INH, .osl 1 (osls (mkSSP k L i)) L.length none)]) (fun i => i ≤ L.length) (fun i => L.length - i) 0 (ent_look ⟨Weak.of_eq rfl, Weak.of_eq (int_eq (by simp [tot_zero])), Weak.of_eq rfl, Weak.of_eq (osl_eq (by rw [mkSSP_zero])), trivial⟩) (Nat.zero_le _) (fun i hG => ?_)
 have htl := tot_le L i
 have htl1 := tot_le L (i + 1)
 have hle := len_tot (L := L) (i := i)
 refine a_seq ?_
 refine a_seq ?_
 refine a_region ?_
 refine rv (v := .int _ _) (v_move (.inl rfl) nf) ?_
 refine rv (v := .rsl _ _ _ _ _) (v_move (.inl rfl) nf) ?_
 refine rv (v := .int _ _) (v_len_rsl sl22 (.inl rfl)) ?_
 refine rv (v := .bool _) (v_lss (.inl rfl) (.inl rfl)) ?_
 refine r_nil ?_
 refine a_cond rfl (fun ht9 => ?_) (fun ht9 => ?_)
 ·
  skip
  refine a_skip ?_
  refine a_seq ?_
  refine a_block ?_
  have hi : i < L.length := (by simp at ht9; omega)
  have hil : i < (mkSSP k L i).length := (by rw [mkSSP_length (by omega)]; omega)
  have hz : (osls (mkSSP k L i))[i]? = some (.osl 1 (icells (gl L i)) (gl L i).length none) := (by rw [osls_get hil, mkSSP_get hi])
  have hset : (osls (mkSSP k L i)).set i (.osl 1 (icells (mkI (k + (tot L i : Nat)) (gl L i).length)) (gl L i).length none) = osls (mkSSP k L (i + 1)) := (by rw [← mkSSP_set hi, ← osls_set, mkI_len])
  refine a_region ?_
  refine rv (v := .rsl _ _ _ _ _) (v_move (.inl rfl) nf) ?_
  refine rv (v := .int _ _) (v_move (.inl rfl) nf) ?_
  refine rv (v := .rp _ _) (v_indexAddr_rsl0 es22 (.inl rfl) (.inl rfl) (fun _ => by omega)) ?_
  refine rv (v := .rsl (INH, [i]) 1 0 (gl L i).length none) ((v_load_rp (c := .osl 1 (icells (gl L i)) (gl L i).length none) ta25 (.inl rfl) rfl (fun _ => by rw [Nat.mul_one]; exact hz)).cast (by show AV.rsl (INH, [] ++ [(i : Int).toNat * 1]) 1 0 (gl L i).length none = _; rw [Nat.mul_one]; rfl)) ?_
  refine rv (v := .int _ _) (v_move (.inl rfl) nf) ?_
  refine r_step rfl (o_callIOa (q := (INH, [i])) (vs := [.rsl _ _ _ _ _, .int _ _]) (args := [.rsl (INH, []) 1 0 (gl L i).length none, .int .i64 _]) (x0 := .osl 1 (icells (gl L i)) (gl L i).length none) (x1 := .osl 1 (icells (mkI (k + (tot L i : Nat)) (gl L i).length)) (gl L i).length none) (res := .int _ _) rfl hb16 rfl (by decide) ⟨.inl rfl, .inl rfl, trivial⟩ (by show (match (osls (mkSSP k L i))[i]? with | some y => node y [] | none => none) = _; rw [hz]; rfl) (by simp only [passL, passV, underP_self, snapV]) (markIntS_c (gl L i) _ (by omega)) rfl rfl rfl (ic_noSh _) (ic_noRef _) (Nat.le_of_ble_eq_true rfl) (by show 17 ≠ INH; decide) rfl) ?_
  refine r_pre (ent_eq (t := INH) (v' := .osl 1 (osls (mkSSP k L (i + 1))) L.length none) (Weak.of_eq (by show setNode (AV.osl 1 (osls (mkSSP k L i)) L.length none) [i] _ = _; simp only [setNode, kids, hz, setKids]; rw [hset]))) ?_
  refine rv (v := .int _ _) (v_assign (.inl rfl) nf) ?_
  refine r_nil ?_
  refine a_region ?_
  refine rv (v := .int _ _) (v_move (.inl rfl) nf) ?_
  refine rv (v := .int _ _) (v_add (.inl rfl) (.inl rfl) (fun _ => by omega)) ?_
  refine rv (v := .int _ _) (v_assign (.inl rfl) nf) ?_
  refine r_nil ?_
  refine ⟨i + 1, ent_look ⟨Weak.of_eq rfl, Weak.of_eq (int_eq (by rw [tot_more hi]; omega)), Weak.of_eq (int_eq (by omega)), Weak.of_eq rfl, trivial⟩, by omega, by omega⟩
 ·
  skip
  refine a_exit ?_
  refine a_seq ?_
  refine a_region ?_
  refine rv (v := .int _ _) (v_move (.inl rfl) nf) ?_
  refine rv (v := .int _ _) (v_assign (.inl rfl) nf) ?_
  refine r_nil ?_
  refine a_ret ?_
  refine ret1 Tryz.results15 (by decide) (by decide) (Weak.of_eq (int_eq ?_)) rfl (Leaves.one (Weak.of_eq (osl_eq (by simp at ht9; rw [mkSSP_full (by omega)]))) rfl)
  simp at ht9; rw [show i = L.length by omega]
theorem markIntSS0_c (k : Int) : ACall Tryz.prog 15 [.sl [] 0, .int .i64 k] [] (.int .i64 k) [] := by
 refine ACall.intro Tryz.func15 rfl (N := 19) rfl (by decide) (by simp) ?_
 refine a_seq ?_
 refine a_region ?_
 refine rv (v := .int _ _) (v_assign (.inl rfl) nf) ?_
 refine r_nil ?_
 refine a_seq ?_
 refine a_seq ?_
 refine a_region ?_
 refine rv (v := .int _ _) (v_assign (.inl rfl) nf) ?_
 refine r_nil ?_
 refine a_block ?_
 refine a_loop (X := Unit) (fun _u => look [(0, .sl [] 0), (1, .int .i64 k), (5, .int .i64 0)]) (fun _u => True) (fun _u => 0) () (ent_look ⟨Weak.of_eq rfl, Weak.of_eq rfl, Weak.of_eq rfl, trivial⟩) trivial (fun _u hG => ?_)
 refine a_seq ?_
 refine a_seq ?_
 refine a_region ?_
 refine rv (v := .int _ _) (v_move (.inl rfl) nf) ?_
 refine rv (v := .sl _ _) (v_move (.inl rfl) nf) ?_
 refine rv (v := .int _ _) (v_len_sl sl22 (.inl rfl)) ?_
 refine rv (v := .bool _) (v_lss (.inl rfl) (.inl rfl)) ?_
 refine r_nil ?_
 refine a_cond rfl (fun ht9 => ?_) (fun ht9 => ?_)
 ·
  skip
  refine a_skip ?_
  refine a_seq ?_
  refine a_block ?_
  exfalso
  simp at ht9
 ·
  skip
  refine a_exit ?_
  refine a_seq ?_
  refine a_region ?_
  refine rv (v := .int _ _) (v_move (.inl rfl) nf) ?_
  refine rv (v := .int _ _) (v_assign (.inl rfl) nf) ?_
  refine r_nil ?_
  refine a_ret ?_
  refine ret1 Tryz.results15 (by decide) (by decide) (Weak.of_eq (int_eq ?_)) rfl Leaves.nil
  rfl
theorem markCnf0_c (vars k : Int) : ACall Tryz.prog 14 [.agg [.int .i64 vars, .rsl (INH, []) 1 0 0 none], .int .i64 k] [.osl 1 [] 0 none] (.int .i64 k) [.osl 1 [] 0 none] := by
 refine ACall.intro Tryz.func14 rfl (N := 10) rfl (by decide) (by simp) ?_
 refine a_seq ?_
 refine a_pre (ent_eq (t := 0) (v' := .agg [.int .i64 vars, .sl [] 0]) (Weak.agg ⟨Weak.rfl, Weak.rsl_emp, trivial⟩)) ?_
 refine a_region ?_
 refine rn (v := .op [.int _ _, .sl _ _]) (q_box (.inl rfl) rfl rfl) ?_
 refine rv (v := .int _ _) (v_assign (.inl rfl) nf) ?_
 refine r_nil ?_
 refine a_seq ?_
 refine a_region ?_
 refine rv (v := .rp _ _) (v_fieldAddr_rp fo30_1 (.inl rfl)) ?_
 refine rv (v := .sl _ _) (v_load_rp1 ta22 (.inl rfl) rfl (fun _ => rfl) rfl) ?_
 refine rv (v := .int _ _) (v_move (.inl rfl) nf) ?_
 refine rn (v := .int _ _) (q_call (vs := [.sl _ _, .int _ _]) (args := [.sl [] 0, .int .i64 _]) hb15 ⟨.inl rfl, .inl rfl, trivial⟩ rfl (fun hA => markIntSS0_c _) rfl rfl) ?_
 refine rv (v := .int _ _) (v_assign (.inl rfl) nf) ?_
 refine r_nil ?_
 refine a_seq ?_
 refine a_region ?_
 refine rv (v := .int _ _) (v_move (.inl rfl) nf) ?_
 refine rv (v := .int _ _) (v_assign (.inl rfl) nf) ?_
 refine r_nil ?_
 refine a_ret ?_
 refine ret1 Tryz.results14 (by decide) (by decide) (Weak.of_eq (int_eq ?_)) rfl (Leaves.one (Weak.of_eq rfl) rfl)
 rfl
theorem markCnf1_c (vars : Int) (L : List (List Int)) (k : Int) (h : -1000000000 ≤ k ∧ k ≤ 1000000000) (hL : L.length ≤ 1048576) (ht : tot L L.length ≤ 1048576) (hn : 0 < L.length) : ACall Tryz.prog 14 [.agg [.int .i64 vars, .rsl (INH, []) 1 0 L.length none], .int .i64 k] [.osl 1 (osls L) L.length none] (.int .i64 (k + (tot L L.length : Nat))) [.osl 1 (osls (mkSS k L)) L.length none] := by
 refine ACall.intro Tryz.func14 rfl (N := 10) rfl (by decide) (by simp) ?_
 refine a_seq ?_
 refine a_region ?_
 refine r_step rfl (o_box_ref (fs := [.int _ _]) (bs := []) rfl rfl (by decide) (by decide) (by decide) rfl rfl rfl rfl) ?_
 refine rv (v := .int _ _) (v_assign (.inl rfl) nf) ?_
 refine r_nil ?_
 refine a_seq ?_
 refine a_region ?_
 refine rv (v := .rp _ _) (v_fieldAddr_rp fo30_1 (.inl rfl)) ?_
 refine rv (v := .rsl _ _ _ _ _) (v_load_rp (c := .osl _ _ _ _) ta22 (.inl rfl) rfl (fun _ => rfl)) ?_
 refine rv (v := .int _ _) (v_move (.inl rfl) nf) ?_
 refine r_step rfl (o_callIOk (q := (2, [1])) (vs := [.rsl _ _ _ _ _, .int _ _]) (args := [.rsl (INH, []) _ _ _ _, .int .i64 _]) (x0 := .osl _ _ _ _) (x1 := .osl _ _ _ _) (res := .int _ _) rfl hb15 rfl (by decide) ⟨.inl rfl, .inl rfl, trivial⟩ rfl rfl (markIntSS_c L k h hL ht) (by simp [stays]; omega) rfl rfl rfl (osls_noSh _) (osls_noRef _) (Nat.le_of_ble_eq_true rfl) (by decide) rfl) ?_
 refine rv (v := .int _ _) (v_assign (.inl rfl) nf) ?_
 refine r_nil ?_
 refine a_seq ?_
 refine a_region ?_
 refine rv (v := .int _ _) (v_move (.inl rfl) nf) ?_
 refine rv (v := .int _ _) (v_assign (.inl rfl) nf) ?_
 refine r_nil ?_
 refine a_pre (ent_reloc_sl (t := INH) rfl rfl) ?_
 refine a_ret ?_
 refine ret1 Tryz.results14 (by decide) (by decide) (Weak.of_eq (int_eq ?_)) rfl (Leaves.one (Weak.of_eq rfl) rfl)
 rfl
theorem markCnf_c (vars : Int) (L : List (List Int)) (k : Int) (h : -1000000000 ≤ k ∧ k ≤ 1000000000) (hL : L.length ≤ 1048576) (ht : tot L L.length ≤ 1048576) :
  ACall Tryz.prog 14 [.agg [.int .i64 vars, .rsl (INH, []) 1 0 L.length none], .int .i64 k] [.osl 1 (osls L) L.length none] (.int .i64 (k + (tot L L.length : Nat))) [.osl 1 (osls (mkSS k L)) L.length none] := by
 cases L with
 | nil =>
  have := markCnf0_c vars k
  simpa [tot, osls, mkSS] using this
 | cons c L => exact markCnf1_c vars (c :: L) k h hL ht (by simp)
end Go.Av
namespace Go.Av
open Go Go.Proofs Go.Sort
set_option maxRecDepth 10000
end Go.Av
namespace Go.Av
open Go Go.Proofs Go.Sort
set_option maxRecDepth 10000
end Go.Av
namespace Go.Av
open Go Go.Proofs Go.Sort
set_option maxRecDepth 10000
theorem isVar_c (vars v : Int) : ACall Tryz.prog 24 [.int .i64 vars, .int .i64 v] [] (.bool (inR v 1 vars)) [] := by
 refine ACall.intro Tryz.func24 rfl (N := 8) rfl (by decide) (by simp) ?_
 refine a_seq ?_
 refine a_region ?_
 refine rv (v := .bool _) (v_assign (.inl rfl) nf) ?_
 refine r_nil ?_
 refine a_seq ?_
 refine a_region ?_
 refine rv (v := .int _ _) (v_move (.inl rfl) nf) ?_
 refine rv (v := .int _ _) (v_move (.inl rfl) nf) ?_
 refine rn (v := .bool _) (q_call (vs := [.int _ _, .int _ _, .int _ _]) (args := [.int .i64 _, .int .i64 _, .int .i64 _]) hb39 ⟨.inl rfl, .inl rfl, .inl rfl, trivial⟩ rfl (fun hA => within_c v 1 vars) rfl rfl) ?_
 refine rv (v := .bool _) (v_assign (.inl rfl) nf) ?_
 refine r_nil ?_
 refine a_ret ?_
 refine ret1 Tryz.results24 (by decide) (by decide) (Weak.of_eq (bool_eq ?_)) rfl Leaves.nil
 rfl
end Go.Av
namespace Go.Av
open Go Go.Proofs Go.Sort
set_option maxRecDepth 10000
end Go.Av
namespace Go.Av
open Go Go.Proofs Go.Sort
set_option maxRecDepth 10000
end Go.Av
namespace Go.Av
open Go Go.Proofs Go.Sort
set_option maxRecDepth 10000
end Go.Av
namespace Go.Av
open Go Go.Proofs Go.Sort
set_option maxRecDepth 10000
end Go.Av
namespace Go.Av
open Go Go.Proofs Go.Sort
set_option maxRecDepth 10000
end Go.Av
namespace Go.Av
open Go Go.Proofs Go.Sort
set_option maxRecDepth 10000
end Go.Av
namespace Go.Av
open Go Go.Proofs Go.Sort
set_option maxRecDepth 10000
end Go.Av
namespace Go.Av
open Go Go.Proofs Go.Sort
set_option maxRecDepth 10000
end Go.Av
namespace Go.Av
open Go Go.Proofs Go.Sort
set_option maxRecDepth 10000
end Go.Av
namespace Go.Av
open Go Go.Proofs Go.Sort
set_option maxRecDepth 10000
end Go.Av
namespace Go.Av
open Go Go.Proofs Go.Sort
set_option maxRecDepth 10000
end Go.Av
namespace Go.Av
open Go Go.Proofs Go.Sort
set_option maxRecDepth 10000
end Go.Av
namespace Go.Av
open Go Go.Proofs Go.Sort
set_option maxRecDepth 10000
end Go.Av
namespace Go.Av
open Go Go.Proofs Go.Sort
set_option maxRecDepth 10000
end Go.Av
namespace Go.Av
open Go Go.Proofs Go.Sort
set_option maxRecDepth 10000
end Go.Av
namespace Go.Av
open Go Go.Proofs Go.Sort
set_option maxRecDepth 10000
end Go.Av
namespace Go.Av
open Go Go.Proofs Go.Sort
set_option maxRecDepth 10000
end Go.Av
namespace Go.Av
open Go Go.Proofs Go.Sort
set_option maxRecDepth 10000
end Go.Av
namespace Go.Av
open Go Go.Proofs Go.Sort
set_option maxRecDepth 10000
end Go.Av
namespace Go.Av
open Go Go.Proofs Go.Sort
set_option maxRecDepth 10000
end Go.Av
namespace Go.Av
open Go Go.Proofs Go.Sort
set_option maxRecDepth 10000
end Go.Av
namespace Go.Av
open Go Go.Proofs Go.Sort
set_option maxRecDepth 10000
end Go.Av
namespace Go.Av
open Go Go.Proofs Go.Sort
set_option maxRecDepth 10000
end Go.Av
namespace Go.Av
open Go Go.Proofs Go.Sort
set_option maxRecDepth 10000
end Go.Av
namespace Go.Av
open Go Go.Proofs Go.Sort
set_option maxRecDepth 10000
end Go.Av
namespace Go.Av
open Go Go.Proofs Go.Sort
set_option maxRecDepth 10000
end Go.Av
namespace Go.Av
open Go Go.Proofs Go.Sort
set_option maxRecDepth 10000
end Go.Av
namespace Go.Av
open Go Go.Proofs Go.Sort
set_option maxRecDepth 10000
end Go.Av
namespace Go.Av
open Go Go.Proofs Go.Sort
set_option maxRecDepth 10000
end Go.Av
namespace Go.Av
open Go Go.Proofs Go.Sort
set_option maxRecDepth 10000
end Go.Av
namespace Go.Av
open Go Go.Proofs Go.Sort
set_option maxRecDepth 10000
end Go.Av
namespace Go.Av
open Go Go.Proofs Go.Sort
set_option maxRecDepth 10000
end Go.Av
namespace Go.Av
open Go Go.Proofs Go.Sort
set_option maxRecDepth 10000
end Go.Av
namespace Go.Av
open Go Go.Proofs Go.Sort
set_option maxRecDepth 10000
end Go.Av
namespace Go.Av
open Go Go.Proofs Go.Sort
set_option maxRecDepth 10000
end Go.Av
namespace Go.Av
open Go Go.Proofs Go.Sort
set_option maxRecDepth 10000
end Go.Av
namespace Go.Av
open Go Go.Proofs Go.Sort
set_option maxRecDepth 10000
end Go.Av
namespace Go.Av
open Go Go.Proofs Go.Sort
set_option maxRecDepth 10000
end Go.Av
namespace Go.Av
open Go Go.Proofs Go.Sort
set_option maxRecDepth 10000
end Go.Av
namespace Go.Av
open Go Go.Proofs Go.Sort
set_option maxRecDepth 10000
end Go.Av
namespace Go.Av
open Go Go.Proofs Go.Sort
set_option maxRecDepth 10000
end Go.Av
namespace Go.Av
open Go Go.Proofs Go.Sort
set_option maxRecDepth 10000
theorem idx_mem (xs : List Int) (v : Int) : decide (fidx (fun i => decide (v = gd xs i)) xs.length ≥ 0) = decide (v ∈ xs) := by
  rw [show decide (fidx (fun i => decide (v = gd xs i)) xs.length ≥ 0) = decide (0 ≤ fidx (fun i => decide (v = gd xs i)) xs.length) from rfl, fidx_any, Bool.eq_iff_iff, decide_eq_true_iff]
  constructor
  · intro h
    obtain ⟨i, hi, hx⟩ := List.any_eq_true.1 h
    rw [of_decide_eq_true hx]; exact gd_mem (by simpa using hi)
  · intro h
    obtain ⟨j, hj, hx⟩ := mem_gd h
    exact List.any_eq_true.2 ⟨j, by simpa using hj, by simp [hx]⟩
theorem hb20 : hasBody Tryz.prog 20 = true := by kernel_rfl
theorem hb40 : hasBody Tryz.prog 40 = true := by kernel_rfl
theorem hb59 : hasBody Tryz.prog 59 = true := by kernel_rfl
theorem index_c (xs : List Int) (v : Int) (hl : xs.length ≤ 1048576) : ACall Tryz.prog 59 [.sl (icells xs) xs.length, .int .i64 v] [] (.int .i64 (fidx (fun i => decide (v = gd xs i)) xs.length)) [] := by
  refine ACall.intro Tryz.func59 rfl (N := 19) rfl (by decide) (by simp) ?_
  refine a_seq ?_
  refine a_region ?_
  refine rv (v := .int _ _) (v_assign (.inl rfl) nf) ?_
  refine r_nil ?_
  refine a_seq ?_
  refine a_seq ?_
  refine a_region ?_
  refine rv (v := .sl _ _) (v_move (.inl rfl) nf) ?_
  refine rv (v := .int _ _) (v_len_sl sl25 (.inl rfl)) ?_
  refine rv (v := .int _ _) (v_move (.inl rfl) nf) ?_
  refine r_nil ?_
  refine a_block ?_
  refine a_loop (X := Nat) (fun i => look [(0, .sl (icells xs) xs.length), (1, .int .i64 v), (7, .int .i64 ((xs.length : Nat) : Int)), (8, .int .i64 ((i : Nat) : Int))]) (fun i => i ≤ xs.length ∧ ∀ j, j < i → decide (v = gd xs j) = false) (fun i => xs.length - i) 0 (ent_look ⟨Weak.of_eq rfl, Weak.of_eq rfl, Weak.of_eq rfl, Weak.of_eq rfl, trivial⟩) ⟨Nat.zero_le _, fun j h => by omega⟩ (fun i hG => ?_)
  obtain ⟨h1, h2⟩ := hG
  refine a_seq ?_
  refine a_region ?_
  refine rv (v := .bool _) (v_lss (.inl rfl) (.inl rfl)) ?_
  refine r_nil ?_
  refine a_seq ?_
  refine a_cond rfl (fun ht9 => ?_) (fun ht9 => ?_)
  ·
    skip
    refine a_skip ?_
    refine a_seq ?_
    refine a_block ?_
    refine a_seq ?_
    have hi : i < xs.length := (by simp at ht9; omega)
    refine a_region ?_
    refine rv (v := .int _ _) (v_move (.inl rfl) nf) ?_
    refine rv (v := .int _ _) (v_assign (.inl rfl) nf) ?_
    refine r_nil ?_
    refine a_seq ?_
    refine a_region ?_
    refine rv (v := .int _ _) (v_move (.inl rfl) nf) ?_
    refine rv (v := .sl _ _) (v_move (.inl rfl) nf) ?_
    refine rv (v := .int _ _) (v_move (.inl rfl) nf) ?_
    refine rv (v := .pp _ _) (v_indexAddr_sl es25 (.inl rfl) (.inl rfl) (fun _ => ⟨by omega, by omega, icells_ne hi⟩)) ?_
    refine rv (v := .int .i64 (gd xs i)) (v_load_pp ta3 (.inl rfl) (fun _ => by rw [Nat.mul_one]; exact icells_get (gd_get hi)) rfl) ?_
    refine rv (v := .bool _) (v_eql (.inl rfl) (.inl rfl)) ?_
    refine r_nil ?_
    refine a_cond rfl (fun ht16 => ?_) (fun ht16 => ?_)
    ·
      skip
      refine a_seq ?_
      refine a_region ?_
      refine rv (v := .int _ _) (v_move (.inl rfl) nf) ?_
      refine rv (v := .int _ _) (v_assign (.inl rfl) nf) ?_
      refine r_nil ?_
      refine a_ret ?_
      refine ret1 Tryz.results59 (by decide) (by decide) (Weak.of_eq (int_eq ?_)) rfl Leaves.nil
      exact (fidx_found (p := fun j => decide (v = gd xs j)) hi (by simpa using ht16) h2).symm
    ·
      skip
      refine a_skip ?_
      refine a_region ?_
      refine rv (v := .int _ _) (v_add (.inl rfl) (.inl rfl) (fun _ => by omega)) ?_
      refine rv (v := .int _ _) (v_move (.inl rfl) nf) ?_
      refine r_nil ?_
      refine ⟨i + 1, ent_look ⟨Weak.of_eq rfl, Weak.of_eq rfl, Weak.of_eq rfl, Weak.of_eq (int_eq (by omega)), trivial⟩, ⟨by omega, ok_stepF (p := fun j => decide (v = gd xs j)) h2 (by simpa using ht16)⟩, by omega⟩
  ·
    skip
    refine a_exit ?_
    refine a_seq ?_
    refine a_region ?_
    refine rv (v := .int _ _) (v_assign (.inl rfl) nf) ?_
    refine r_nil ?_
    refine a_ret ?_
    refine ret1 Tryz.results59 (by decide) (by decide) (Weak.of_eq (int_eq ?_)) rfl Leaves.nil
    simp at ht9; exact (fidx_none (p := fun j => decide (v = gd xs j)) (fun j hj => h2 j (by omega))).symm
theorem contains_c (xs : List Int) (v : Int) (hl : xs.length ≤ 1048576) : ACall Tryz.prog 40 [.sl (icells xs) xs.length, .int .i64 v] [] (.bool (decide (v ∈ xs))) [] := by
  refine ACall.intro Tryz.func40 rfl (N := 9) rfl (by decide) (by simp) ?_
  refine a_seq ?_
  refine a_region ?_
  refine rv (v := .bool _) (v_assign (.inl rfl) nf) ?_
  refine r_nil ?_
  refine a_seq ?_
  refine a_region ?_
  refine rv (v := .sl _ _) (v_move (.inl rfl) nf) ?_
  refine rv (v := .int _ _) (v_move (.inl rfl) nf) ?_
  refine rn (v := .int _ _) (q_call (vs := [.sl _ _, .int _ _]) (args := [.sl _ _, .int .i64 _]) hb59 ⟨.inl rfl, .inl rfl, trivial⟩ rfl (fun hA => index_c xs v hl) rfl rfl) ?_
  refine rv (v := .bool _) (v_geq (.inl rfl) (.inl rfl)) ?_
  refine rv (v := .bool _) (v_assign (.inl rfl) nf) ?_
  refine r_nil ?_
  refine a_ret ?_
  refine ret1 Tryz.results40 (by decide) (by decide) (Weak.of_eq (bool_eq ?_)) rfl Leaves.nil
  exact idx_mem xs v
theorem iClv_c (c a : List Int) (hs : SmI c) (hc : c.length ≤ 1048576) (ha : a.length ≤ 1048576) : ACall Tryz.prog 76 [.sl (icells c) c.length, .sl (icells a) a.length] [] (.int .i64 (cval c a)) [] := by
  refine ACall.intro Tryz.func76 rfl (N := 26) rfl (by decide) (by simp) ?_
  refine a_seq ?_
  refine a_region ?_
  refine rv (v := .int _ _) (v_assign (.inl rfl) nf) ?_
  refine r_nil ?_
  refine a_seq ?_
  refine a_region ?_
  refine rv (v := .int _ _) (v_assign (.inl rfl) nf) ?_
  refine r_nil ?_
  refine a_seq ?_
  refine a_seq ?_
  refine a_region ?_
  refine rv (v := .sl _ _) (v_move (.inl rfl) nf) ?_
  refine rv (v := .int _ _) (v_len_sl sl25 (.inl rfl)) ?_
  refine rv (v := .int _ _) (v_move (.inl rfl) nf) ?_
  refine r_nil ?_
  refine a_block ?_
  refine a_loop (X := Nat) (fun i => look [(1, .sl (icells a) a.length), (5, .int .i64 (cvP c a i)), (8, .sl (icells c) c.length), (9, .int .i64 ((c.length : Nat) : Int)), (10, .int .i64 ((i : Nat) : Int))]) (fun i => i ≤ c.length ∧ ∀ j, j < i → ¬ gd c j ∈ a) (fun i => c.length - i) 0 (ent_look ⟨Weak.of_eq rfl, Weak.of_eq rfl, Weak.of_eq rfl, Weak.of_eq rfl, Weak.of_eq rfl, trivial⟩) ⟨Nat.zero_le _, fun j h => by omega⟩ (fun i hG => ?_)
  obtain ⟨g1, g2⟩ := hG
  have hsi := hs i
  refine a_seq ?_
  refine a_region ?_
  refine rv (v := .bool _) (v_lss (.inl rfl) (.inl rfl)) ?_
  refine r_nil ?_
  refine a_seq ?_
  refine a_cond rfl (fun ht11 => ?_) (fun ht11 => ?_)
  ·
    skip
    refine a_skip ?_
    refine a_seq ?_
    refine a_block ?_
    refine a_seq ?_
    have hi : i < c.length := (by simp at ht11; omega)
    refine a_region ?_
    refine rv (v := .pp _ _) (v_indexAddr_sl es25 (.inl rfl) (.inl rfl) (fun _ => ⟨by omega, by omega, icells_ne hi⟩)) ?_
    refine rv (v := .int .i64 (gd c i)) (v_load_pp ta3 (.inl rfl) (fun _ => by rw [Nat.mul_one]; exact icells_get (gd_get hi)) rfl) ?_
    refine rv (v := .int _ _) (v_assign (.inl rfl) nf) ?_
    refine r_nil ?_
    refine a_block ?_
    refine a_seq ?_
    refine a_region ?_
    refine rv (v := .sl _ _) (v_move (.inl rfl) nf) ?_
    refine rv (v := .int _ _) (v_move (.inl rfl) nf) ?_
    refine rn (v := .bool _) (q_call (vs := [.sl _ _, .int _ _]) (args := [.sl _ _, .int .i64 _]) hb40 ⟨.inl rfl, .inl rfl, trivial⟩ rfl (fun hA => contains_c a _ ha) rfl rfl) ?_
    refine rv (v := .bool _) (v_assign (.inl rfl) nf) ?_
    refine r_nil ?_
    refine a_cond rfl (fun ht14 => ?_) (fun ht14 => ?_)
    ·
      skip
      refine a_seq ?_
      refine a_region ?_
      refine rv (v := .int _ _) (v_assign (.inl rfl) nf) ?_
      refine r_nil ?_
      refine a_ret ?_
      refine ret1 Tryz.results76 (by decide) (by decide) (Weak.of_eq (int_eq ?_)) rfl Leaves.nil
      exact (cval_one hi (by simpa using ht14)).symm
    ·
      skip
      refine a_seq ?_
      refine a_region ?_
      refine rv (v := .sl _ _) (v_move (.inl rfl) nf) ?_
      refine rv (v := .int _ _) (v_move (.inl rfl) nf) ?_
      refine rv (v := .int _ _) (v_neg (.inl rfl) (fun _ => by omega)) ?_
      refine rn (v := .bool _) (q_call (vs := [.sl _ _, .int _ _]) (args := [.sl _ _, .int .i64 _]) hb40 ⟨.inl rfl, .inl rfl, trivial⟩ rfl (fun hA => contains_c a _ ha) rfl rfl) ?_
      refine rv (v := .bool _) (v_not (.inl rfl)) ?_
      refine rv (v := .bool _) (v_assign (.inl rfl) nf) ?_
      refine r_nil ?_
      refine a_cond rfl (fun ht18 => ?_) (fun ht18 => ?_)
      ·
        skip
        refine a_region ?_
        refine rv (v := .int _ _) (v_assign (.inl rfl) nf) ?_
        refine r_nil ?_
        refine a_region ?_
        refine rv (v := .int _ _) (v_add (.inl rfl) (.inl rfl) (fun _ => by omega)) ?_
        refine rv (v := .int _ _) (v_move (.inl rfl) nf) ?_
        refine r_nil ?_
        refine ⟨i + 1, ent_look ⟨Weak.of_eq rfl, Weak.of_eq (int_eq (by rw [cvP_succ hi, if_neg (by simpa using ht18)])), Weak.of_eq rfl, Weak.of_eq rfl, Weak.of_eq (int_eq (by omega)), trivial⟩, ⟨by omega, fun j h1 => by rcases Nat.lt_or_ge j i with h | h; exact g2 j h; (obtain rfl : j = i := by omega); simpa using ht14⟩, by omega⟩
      ·
        skip
        refine a_skip ?_
        refine a_region ?_
        refine rv (v := .int _ _) (v_add (.inl rfl) (.inl rfl) (fun _ => by omega)) ?_
        refine rv (v := .int _ _) (v_move (.inl rfl) nf) ?_
        refine r_nil ?_
        refine ⟨i + 1, ent_look ⟨Weak.of_eq rfl, Weak.of_eq (int_eq (by rw [cvP_succ hi, if_pos (by simpa using ht18)])), Weak.of_eq rfl, Weak.of_eq rfl, Weak.of_eq (int_eq (by omega)), trivial⟩, ⟨by omega, fun j h1 => by rcases Nat.lt_or_ge j i with h | h; exact g2 j h; (obtain rfl : j = i := by omega); simpa using ht14⟩, by omega⟩
  ·
    skip
    refine a_exit ?_
    refine a_seq ?_
    have hcv := cval_end (c := c) (a := a) (i := i) (by simp at ht11; omega) g2
    refine a_region ?_
    refine rv (v := .int _ _) (v_move (.inl rfl) nf) ?_
    refine rv (v := .int _ _) (v_assign (.inl rfl) nf) ?_
    refine r_nil ?_
    refine a_ret ?_
    refine ret1 Tryz.results76 (by decide) (by decide) (Weak.of_eq (int_eq ?_)) rfl Leaves.nil
    exact hcv.symm
theorem sClv_c (c a : List Int) (hs : SmI c) (hc : c.length ≤ 1048576) (ha : a.length ≤ 1048576) : ACall Tryz.prog 68 [.sl (icells c) c.length, .sl (icells a) a.length] [] (.int .i64 (cval c a)) [] := by
  refine ACall.intro Tryz.func68 rfl (N := 28) rfl (by decide) (by simp) ?_
  refine a_seq ?_
  refine a_region ?_
  refine rv (v := .int _ _) (v_assign (.inl rfl) nf) ?_
  refine r_nil ?_
  refine a_seq ?_
  refine a_region ?_
  refine rv (v := .int _ _) (v_assign (.inl rfl) nf) ?_
  refine r_nil ?_
  refine a_seq ?_
  refine a_seq ?_
  refine a_region ?_
  refine rv (v := .int _ _) (v_assign (.inl rfl) nf) ?_
  refine r_nil ?_
  refine a_block ?_
  refine a_loop (X := Nat) (fun i => look [(0, .sl (icells c) c.length), (1, .sl (icells a) a.length), (5, .int .i64 (cvP c a i)), (6, .int .i64 ((i : Nat) : Int))]) (fun i => i ≤ c.length ∧ ∀ j, j < i → ¬ gd c j ∈ a) (fun i => c.length - i) 0 (ent_look ⟨Weak.of_eq rfl, Weak.of_eq rfl, Weak.of_eq rfl, Weak.of_eq rfl, trivial⟩) ⟨Nat.zero_le _, fun j h => by omega⟩ (fun i hG => ?_)
  obtain ⟨g1, g2⟩ := hG
  have hsi := hs i
  refine a_seq ?_
  refine a_seq ?_
  refine a_region ?_
  refine rv (v := .int _ _) (v_move (.inl rfl) nf) ?_
  refine rv (v := .sl _ _) (v_move (.inl rfl) nf) ?_
  refine rv (v := .int _ _) (v_len_sl sl25 (.inl rfl)) ?_
  refine rv (v := .bool _) (v_lss (.inl rfl) (.inl rfl)) ?_
  refine r_nil ?_
  refine a_cond rfl (fun ht10 => ?_) (fun ht10 => ?_)
  ·
    skip
    refine a_skip ?_
    refine a_seq ?_
    refine a_block ?_
    refine a_seq ?_
    refine a_seq ?_
    have hi : i < c.length := (by simp at ht10; omega)
    refine a_region ?_
    refine rv (v := .sl _ _) (v_move (.inl rfl) nf) ?_
    refine rv (v := .sl _ _) (v_move (.inl rfl) nf) ?_
    refine rv (v := .int _ _) (v_move (.inl rfl) nf) ?_
    refine rv (v := .pp _ _) (v_indexAddr_sl es25 (.inl rfl) (.inl rfl) (fun _ => ⟨by omega, by omega, icells_ne hi⟩)) ?_
    refine rv (v := .int .i64 (gd c i)) (v_load_pp ta3 (.inl rfl) (fun _ => by rw [Nat.mul_one]; exact icells_get (gd_get hi)) rfl) ?_
    refine rn (v := .bool _) (q_call (vs := [.sl _ _, .int _ _]) (args := [.sl _ _, .int .i64 _]) hb20 ⟨.inl rfl, .inl rfl, trivial⟩ rfl (fun hA => has2_c _ _ _ ⟨rfl, by omega⟩) rfl rfl) ?_
    refine r_nil ?_
    refine a_cond rfl (fun ht18 => ?_) (fun ht18 => ?_)
    ·
      skip
      refine a_seq ?_
      refine a_region ?_
      refine rv (v := .int _ _) (v_assign (.inl rfl) nf) ?_
      refine r_nil ?_
      refine a_ret ?_
      refine ret1 Tryz.results68 (by decide) (by decide) (Weak.of_eq (int_eq ?_)) rfl Leaves.nil
      exact (cval_one hi (by simpa using ht18)).symm
    ·
      skip
      refine a_skip ?_
      refine a_seq ?_
      refine a_region ?_
      refine rv (v := .sl _ _) (v_move (.inl rfl) nf) ?_
      refine rv (v := .sl _ _) (v_move (.inl rfl) nf) ?_
      refine rv (v := .int _ _) (v_move (.inl rfl) nf) ?_
      refine rv (v := .pp _ _) (v_indexAddr_sl es25 (.inl rfl) (.inl rfl) (fun _ => ⟨by omega, by omega, icells_ne hi⟩)) ?_
      refine rv (v := .int .i64 (gd c i)) (v_load_pp ta3 (.inl rfl) (fun _ => by rw [Nat.mul_one]; exact icells_get (gd_get hi)) rfl) ?_
      refine rv (v := .int _ _) (v_neg (.inl rfl) (fun _ => by omega)) ?_
      refine rn (v := .bool _) (q_call (vs := [.sl _ _, .int _ _]) (args := [.sl _ _, .int .i64 _]) hb20 ⟨.inl rfl, .inl rfl, trivial⟩ rfl (fun hA => has2_c _ _ _ ⟨rfl, by omega⟩) rfl rfl) ?_
      refine rv (v := .bool _) (v_not (.inl rfl)) ?_
      refine r_nil ?_
      refine a_cond rfl (fun ht26 => ?_) (fun ht26 => ?_)
      ·
        skip
        refine a_region ?_
        refine rv (v := .int _ _) (v_assign (.inl rfl) nf) ?_
        refine r_nil ?_
        refine a_region ?_
        refine rv (v := .int _ _) (v_move (.inl rfl) nf) ?_
        refine rv (v := .int _ _) (v_add (.inl rfl) (.inl rfl) (fun _ => by omega)) ?_
        refine rv (v := .int _ _) (v_assign (.inl rfl) nf) ?_
        refine r_nil ?_
        refine ⟨i + 1, ent_look ⟨Weak.of_eq rfl, Weak.of_eq rfl, Weak.of_eq (int_eq (by rw [cvP_succ hi, if_neg (by simpa using ht26)])), Weak.of_eq (int_eq (by omega)), trivial⟩, ⟨by omega, fun j h1 => by rcases Nat.lt_or_ge j i with h | h; exact g2 j h; (obtain rfl : j = i := by omega); simpa using ht18⟩, by omega⟩
      ·
        skip
        refine a_skip ?_
        refine a_region ?_
        refine rv (v := .int _ _) (v_move (.inl rfl) nf) ?_
        refine rv (v := .int _ _) (v_add (.inl rfl) (.inl rfl) (fun _ => by omega)) ?_
        refine rv (v := .int _ _) (v_assign (.inl rfl) nf) ?_
        refine r_nil ?_
        refine ⟨i + 1, ent_look ⟨Weak.of_eq rfl, Weak.of_eq rfl, Weak.of_eq (int_eq (by rw [cvP_succ hi, if_pos (by simpa using ht26)])), Weak.of_eq (int_eq (by omega)), trivial⟩, ⟨by omega, fun j h1 => by rcases Nat.lt_or_ge j i with h | h; exact g2 j h; (obtain rfl : j = i := by omega); simpa using ht18⟩, by omega⟩
  ·
    skip
    refine a_exit ?_
    refine a_seq ?_
    have hcv := cval_end (c := c) (a := a) (i := i) (by simp at ht10; omega) g2
    refine a_region ?_
    refine rv (v := .int _ _) (v_move (.inl rfl) nf) ?_
    refine rv (v := .int _ _) (v_assign (.inl rfl) nf) ?_
    refine r_nil ?_
    refine a_ret ?_
    refine ret1 Tryz.results68 (by decide) (by decide) (Weak.of_eq (int_eq ?_)) rfl Leaves.nil
    exact hcv.symm
end Go.Av
namespace Go.Av
open Go Go.Proofs Go.Sort
set_option maxRecDepth 10000
end Go.Av
namespace Go.Av
open Go Go.Proofs Go.Sort
set_option maxRecDepth 10000
end Go.Av
namespace Go.Av
open Go Go.Proofs Go.Sort
set_option maxRecDepth 10000
end Go.Av
namespace Go.Av
open Go Go.Proofs Go.Sort
set_option maxRecDepth 10000
end Go.Av
namespace Go.Av
open Go Go.Proofs Go.Sort
set_option maxRecDepth 10000
end Go.Av
namespace Go.Av
open Go Go.Proofs Go.Sort
set_option maxRecDepth 10000
end Go.Av
namespace Go.Av
open Go Go.Proofs Go.Sort
set_option maxRecDepth 10000
end Go.Av
namespace Go.Av
open Go Go.Proofs Go.Sort
set_option maxRecDepth 10000
end Go.Av
namespace Go.Av
open Go Go.Proofs Go.Sort
set_option maxRecDepth 10000
theorem hb64 : hasBody Tryz.prog 64 = true := by kernel_rfl
theorem idxL_c (f : Nat) (caps : List AV) (hb : hasBody Tryz.prog f = true) (hcap : capOk caps = true) (xs : List (List Int)) (p : Nat → Bool) (hl : (xs.length : Int) ≤ 9223372036854775807) (hc : ∀ i, i < xs.length → ACall Tryz.prog f (.sl (icells (gl xs i)) (gl xs i).length :: caps) [] (.bool (p i)) []) : ACall Tryz.prog 64 [.sl (sls xs) xs.length, .fn f [] caps] [] (.int .i64 (fidx p xs.length)) [] := by
 refine ACall.intro Tryz.func64 rfl (N := 19) rfl (by decide) (by simp) ?_
 refine a_seq ?_
 refine a_region ?_
 refine rv (v := .int _ _) (v_assign (.inl rfl) nf) ?_
 refine r_nil ?_
 refine a_seq ?_
 refine a_seq ?_
 refine a_region ?_
 refine rv (v := .sl _ _) (v_move (.inl rfl) nf) ?_
 refine rv (v := .int _ _) (v_len_sl sl22 (.inl rfl)) ?_
 refine rv (v := .int _ _) (v_move (.inl rfl) nf) ?_
 refine r_nil ?_
 refine a_block ?_
 refine a_loop (X := Nat) (fun i => look [(0, .sl (sls xs) xs.length), (1, .fn f [] caps), (7, .int .i64 (xs.length : Int)), (8, .int .i64 (i : Int))]) (fun i => i ≤ xs.length ∧ ∀ j, j < i → p j = false) (fun i => xs.length - i) 0 (ent_look ⟨Weak.of_eq rfl, Weak.of_eq rfl, Weak.of_eq rfl, Weak.of_eq rfl, trivial⟩) ⟨Nat.zero_le _, fun j h => by omega⟩ (fun i hG => ?_)
 obtain ⟨h1, h2⟩ := hG
 refine a_seq ?_
 refine a_region ?_
 refine rv (v := .bool _) (v_lss (.inl rfl) (.inl rfl)) ?_
 refine r_nil ?_
 refine a_seq ?_
 refine a_cond rfl (fun ht9 => ?_) (fun ht9 => ?_)
 ·
  skip
  refine a_skip ?_
  refine a_seq ?_
  refine a_block ?_
  refine a_seq ?_
  refine a_region ?_
  have hi : i < xs.length := (by simp at ht9; omega)
  refine rv (v := .int _ _) (v_move (.inl rfl) nf) ?_
  refine rv (v := .int _ _) (v_assign (.inl rfl) nf) ?_
  refine r_nil ?_
  refine a_seq ?_
  refine a_region ?_
  refine rv (v := .fn _ _ _) (v_mv rfl) ?_
  refine rv (v := .sl _ _) (v_move (.inl rfl) nf) ?_
  refine rv (v := .int _ _) (v_move (.inl rfl) nf) ?_
  refine rv (v := .pp _ _) (v_indexAddr_sl es22 (.inl rfl) (.inl rfl) (fun _ => ⟨by omega, by omega, sls_ne hi⟩)) ?_
  refine rv (v := .sl (icells (gl xs i)) (gl xs i).length) (v_load_pp ta25 (.inl rfl) (fun _ => by rw [Nat.mul_one]; exact sls_get hi) rfl) ?_
  refine rn (v := .bool _) (q_clo (vs := [.sl _ _]) (args := (.sl _ _ :: caps)) hb (.inl rfl) ⟨.inl rfl, trivial⟩ (snap_clo1 hcap rfl) (fun hA => hc i hi) rfl rfl) ?_
  refine r_nil ?_
  refine a_cond rfl (fun ht16 => ?_) (fun ht16 => ?_)
  ·
   skip
   refine a_seq ?_
   refine a_region ?_
   refine rv (v := .int _ _) (v_move (.inl rfl) nf) ?_
   refine rv (v := .int _ _) (v_assign (.inl rfl) nf) ?_
   refine r_nil ?_
   refine a_ret ?_
   refine ret1 Tryz.results64 (by decide) (by decide) (Weak.of_eq (int_eq ?_)) rfl Leaves.nil
   exact (fidx_found hi ht16 h2).symm
  ·
   skip
   refine a_skip ?_
   refine a_region ?_
   refine rv (v := .int _ _) (v_add (.inl rfl) (.inl rfl) (fun _ => by omega)) ?_
   refine rv (v := .int _ _) (v_move (.inl rfl) nf) ?_
   refine r_nil ?_
   refine ⟨i + 1, ent_look ⟨Weak.of_eq rfl, (Weak.of_eq (purge_fn hcap)), Weak.of_eq rfl, Weak.of_eq (int_eq (by omega)), trivial⟩, ⟨by omega, ok_stepF h2 ht16⟩, by omega⟩
 ·
  skip
  refine a_exit ?_
  refine a_seq ?_
  refine a_region ?_
  refine rv (v := .int _ _) (v_assign (.inl rfl) nf) ?_
  refine r_nil ?_
  refine a_ret ?_
  refine ret1 Tryz.results64 (by decide) (by decide) (Weak.of_eq (int_eq ?_)) rfl Leaves.nil
  simp at ht9; exact (fidx_none (fun j hj => h2 j (by omega))).symm
theorem contL_c (f : Nat) (caps : List AV) (hb : hasBody Tryz.prog f = true) (hcap : capOk caps = true) (xs : List (List Int)) (p : Nat → Bool) (hl : (xs.length : Int) ≤ 9223372036854775807) (hc : ∀ i, i < xs.length → ACall Tryz.prog f (.sl (icells (gl xs i)) (gl xs i).length :: caps) [] (.bool (p i)) []) : ACall Tryz.prog 56 [.sl (sls xs) xs.length, .fn f [] caps] [] (.bool ((List.range xs.length).any p)) [] := by
 refine ACall.intro Tryz.func56 rfl (N := 9) rfl (by decide) (by simp) ?_
 refine a_seq ?_
 refine a_region ?_
 refine rv (v := .bool _) (v_assign (.inl rfl) nf) ?_
 refine r_nil ?_
 refine a_seq ?_
 refine a_region ?_
 refine rv (v := .sl _ _) (v_move (.inl rfl) nf) ?_
 refine rv (v := .fn _ _ _) (v_mv rfl) ?_
 refine rn (v := .int _ _) (q_call (vs := [.sl _ _, .fn _ _ _]) (args := [.sl _ _, .fn _ _ _]) hb64 ⟨.inl rfl, .inl rfl, trivial⟩ (l2_eq rfl (snap_fn hcap)) (fun hA => idxL_c f caps hb hcap xs p hl hc) rfl rfl) ?_
 refine rv (v := .bool _) (v_geq (.inl rfl) (.inl rfl)) ?_
 refine rv (v := .bool _) (v_assign (.inl rfl) nf) ?_
 refine r_nil ?_
 refine a_ret ?_
 refine ret1 Tryz.results56 (by decide) (by decide) (Weak.of_eq (bool_eq ?_)) rfl Leaves.nil
 exact fidx_any
end Go.Av
namespace Go.Av
open Go Go.Proofs Go.Sort
set_option maxRecDepth 10000
end Go.Av
namespace Go.Av
open Go Go.Proofs Go.Sort
set_option maxRecDepth 10000
end Go.Av
namespace Go.Av
open Go Go.Proofs Go.Sort
set_option maxRecDepth 10000
end Go.Av
namespace Go.Av
open Go Go.Proofs Go.Sort
set_option maxRecDepth 10000
end Go.Av
namespace Go.Av
open Go Go.Proofs Go.Sort
set_option maxRecDepth 10000
end Go.Av
namespace Go.Av
open Go Go.Proofs Go.Sort
set_option maxRecDepth 10000
end Go.Av
namespace Go.Av
open Go Go.Proofs Go.Sort
set_option maxRecDepth 10000
end Go.Av
namespace Go.Av
open Go Go.Proofs Go.Sort
set_option maxRecDepth 10000
end Go.Av
namespace Go.Av
open Go
section
variable {e : Ctx} {σ σ' : Sig} {val val' : Nat → Value} {w w' : World} {β β' : Place → Option (Nat × Nat)} {F F' : Nat → Prop} {ds : List Deferred}
theorem Inv.own_cells (h : Inv e σ val w β F) {q : Place} {b s : Nat} (ho : OwnAt σ q) (hb : β q = some (b, s)) : ∃ arr t fz, w.heap[b]? = some (.cells arr t fz) := by
  obtain ⟨x, hx, ho⟩ := ho
  obtain ⟨u, hu⟩ := (h.rep q.1).sub hx
  have hb' : β (q.1, [] ++ q.2) = some (b, s) := by simpa using hb
  cases x <;> simp [AV.isOwn] at ho <;> simp only [Rep] at hu
  · rcases hu with ⟨h0, _⟩ | ⟨_, b', _, _, _, h0, _, _, _, hh, _⟩
    · rw [h0] at hb'; cases hb'
    · rw [h0] at hb'; cases hb'; exact ⟨_, _, _, hh⟩
  · obtain ⟨_, b', _, _, h0, _, hh, _⟩ := hu
    rw [h0] at hb'; cases hb'; exact ⟨_, _, _, hh⟩
def nonCells : Obj → Prop
  | .cells .. => False
  | _ => True
theorem Inv.putObj (h : Inv e σ val w β F) {l : Nat} {o o' : Obj} (hl : w.heap[l]? = some o) (hc : nonCells o) (hc' : nonCells o') (hF : ¬ F l) (hk : e.w0.heap.size ≤ l) : Inv e σ val (w.putObj l o') β F := by
  have hlt : l < w.heap.size := (Array.getElem?_eq_some_iff.1 hl).1
  refine h.ext (fun b hb => World.putObj_heap_other (fun e => by subst e; exact hF hb)) (fun q b s hq hb => World.putObj_heap_other fun e => ?_) (fun b hb _ => World.putObj_heap_other (by omega)) (by simp) ?_
  · subst e
    obtain ⟨arr, t, fz, hh⟩ := h.own_cells hq hb
    rw [hl] at hh; cases hh; exact hc
  · refine ⟨h.tame.1, h.tame.2.1, fun b arr t fz hb hh => ?_⟩
    by_cases hbl : b = l
    · subst hbl
      rw [World.putObj_heap_same hlt] at hh
      cases hh; exact hc'.elim
    · rw [World.putObj_heap_other hbl] at hh
      exact h.tame.2.2 b arr t fz hb hh
end
def LND : Nat := 2000000
section
variable {N : Nat} {e : Ctx} {σ σ' : Sig} {w w' : World} {β β' : Place → Option (Nat × Nat)} {F F' : Nat → Prop} {gv : Nat → Value} {a a' : Act}
def BaseOk (N : Nat) (τ : Sig) : List (Nat × AV) → Prop
  | [] => True
  | (i, v) :: L => (i < N ∧ (pureV v = true ∨ v = refd (LND + i, []) (τ (LND + i)))) ∧ BaseOk N τ L
def keysFrom (N : Nat) : List (Nat × AV) → Bool
  | [] => true
  | (i, _) :: L => decide (N ≤ i) && keysFrom N L
end
end Go.Av
namespace Go.Av
open Go
def MkOk (e : Ctx) (ds : List Deferred) (w : World) (F : Nat → Prop) : Prop :=
  ds = [] ∨ ∃ D, ds = [{ target := .collected D, args := #[] }] ∧ w.heap[D]? = some (.deferred (some [])) ∧ e.w0.heap.size ≤ D ∧ ¬ F D
structure AllM (N : Nat) (gv : Nat → Value) (e : Ctx) (σ : Sig) (a : Act) (w : World) : Prop where
  size : a.tmps.size = N
  inv : ∃ β F, MkOk e a.defers w F ∧ Inv e σ (valOf N gv a) w β F
def BCode (P : Program) (N : Nat) (m : Bool) (c : Code) (σ : Sig) (Φ : Exit → Sig → Prop) : Prop :=
  ∀ (gv : Nat → Value) (e : Ctx) (a : Act) (w : World), (m = false → a.defers = []) → AllM N gv e σ a w → ∀ Q : Exit → Act → World → Prop, (∀ x a' w' σ', Φ x σ' → AllM N gv e σ' a' w' → Q x a' w') → c.wp P Q a w
section
variable {P : Program} {N : Nat} {m : Bool} {σ σ' : Sig} {Φ : Exit → Sig → Prop} {c c' : Code}
theorem BCall.intro {f : FuncId} {fn : Func} {args objs objs2 : List AV} {res : AV} (hf : P.funcs[f]? = some fn) (hb : fn.body = some c) (hN : fn.ntmps = N) (hNI : N < INH) (ha : args.length ≤ N)
    (h : BCode P N false c (argSig args objs) (fun x s => match x with | .normal => Returns P fn N s res objs2 | .ret => Returns P fn N s res objs2 | _ => False)) : ACall P f args objs res objs2 := by
  intro e vs val w β F hl hval hi
  refine (callsIn_wide (n := 1)).1 (callsIn_of_wp_marks hf hb trivial (wpIn_wide.2 ?_))
  have hsz : (vs.toArray ++ Array.replicate (fn.ntmps - vs.toArray.size) undef).size = N := by simp [hN]; omega
  refine h (fun i => val i) e _ w (fun _ => rfl) ⟨hsz, β, F, .inl rfl, ?_⟩ _ fun x a' w' s hx ha' => ?_
  · refine ⟨fun i => ?_, hi.disj, hi.sep, hi.fr, hi.kept, hi.grow, hi.tame⟩
    by_cases hlt : i < vs.length
    · have := hi.rep i
      rw [hval i hlt] at this
      have e1 : valOf N (fun i => val i) { tmps := vs.toArray ++ Array.replicate (fn.ntmps - vs.toArray.size) undef, defers := [] } i = vs.getD i undef := by
        have : i < N := by omega
        simp only [valOf, this, if_true]
        rw [Array.getD_eq_getD_getElem?, Array.getElem?_append_left (by simpa using hlt)]
        simp
      rw [e1]; exact this
    · by_cases hN' : i < N
      · have : argSig args objs i = .undef := by
          have h1 : i < INH := by omega
          have h2 : args[i]? = none := List.getElem?_eq_none (by omega)
          simp [argSig, h1, h2]
        rw [this]; simp [Rep]
      · have := hi.rep i
        simpa [valOf, hN'] using this
  · have key : ∀ (_ : Returns P fn N s res objs2), LeavesInM Fence.wide 1 P fn a'.tmps (fun en w' => ∃ v β' F', en = .returned v ∧ Inv e (argSig [res] objs2) (upd val 0 v) w' β' F') a'.defers .returning w' := by
      intro hret
      obtain ⟨hsz', β', F', hk, hi'⟩ := ha'
      rcases hk with hk | ⟨D, h1, h2, h3, h4⟩
      · obtain ⟨v, hr, β'', F'', hi''⟩ := hret (fun i => val i) { e with ds := [] } a' w' ⟨hk, hsz', β', F', ⟨hi'.rep, hi'.disj, hi'.sep, hi'.fr, hi'.kept, hi'.grow, hi'.tame⟩⟩
        rw [hk]
        exact ⟨v, hr, v, β'', F'', rfl, ⟨hi''.rep, hi''.disj, hi''.sep, hi''.fr, hi''.kept, hi''.grow, hi''.tame⟩⟩
      · rw [h1]
        have hi2 : Inv e s (valOf N (fun i => val i) a') (w'.putObj D (.deferred none)) β' F' := hi'.putObj h2 trivial trivial h4 h3
        obtain ⟨v, hr, β'', F'', hi''⟩ := hret (fun i => val i) { e with ds := a'.defers } a' _ ⟨rfl, hsz', β', F', ⟨hi2.rep, hi2.disj, hi2.sep, hi2.fr, hi2.kept, hi2.grow, hi2.tame⟩⟩
        refine ⟨by simp, .inl ⟨D, _, rfl, run_takeDeferred h2, ?_⟩⟩
        exact ⟨v, hr, v, β'', F'', rfl, ⟨hi''.rep, hi''.disj, hi''.sep, hi''.fr, hi''.kept, hi''.grow, hi''.tame⟩⟩
    cases x <;> simp only at hx
    · exact key hx
    · exact key hx
end
end Go.Av
namespace Go.Av
open Go
def NrAll (τ : Sig) : List Nat → Prop
 | [] => True
 | s :: S => noRef (τ (LND + s)) = true ∧ NrAll τ S
structure LpOk (N : Nat) (S : List Nat) (LB LP : List (Nat × AV)) : Prop where
 keys : keysFrom N LP = true
 base : BaseOk N (look LP) LB
 nr : NrAll (look LP) S
end Go.Av
namespace Go.Av
open Go
section
variable {P : Program} {N : Nat} {A : Bool} {σ : Sig} {ty : TypeId} {x : Operand}
theorem q_sliceLit1Z {t sz : Nat} {zs cs : List AV} {v : AV} (hx : RdTo N A σ x v) (hno : NoOwn v) (h : litTy P t = some (sz, zs)) (hsm : Nat.ble (1 * sz) 16777216 = true)
    (hf : fillA (fun i => some (i * sz, sz)) (rep 1 zs) [(0, v)] = some cs) (hl : Nat.beq cs.length (1 * sz) = true) (hp : pureL cs = true) :
    QSem P N A (sliceLit t 1 [(0, x)]) ty σ (slotsL [x]) (.sl (shL cs) 1) := by
  intro hA σ' hD gv e a w β F hi d o ho hty K Q hK
  obtain ⟨el, arr0, harr, hrun⟩ := run_lit h (Nat.le_of_ble_eq_true hsm)
  have ex := hx.rep hA (fun i hi' => hD i (by simpa [slotsL] using hi')) hi (0, [])
  obtain ⟨cells, he, hc1, hc2, hc3⟩ := fill_spec (β := β) (F := F) (w := w) [(0, v)] [(0, a.eval x)] _ arr0 cs (harr β F w) (by simp)
      (fun j i u hj => by
        cases j with
        | zero => simp at hj; obtain ⟨rfl, rfl⟩ := hj; exact ⟨hno, a.eval x, (0, []), rfl, ex⟩
        | succ j => simp at hj) hf
  have hr := hrun [(0, a.eval x)].toArray cells w (by simpa using he)
  obtain ⟨β', h'⟩ := hi.new_osl (us := cells.toList) (by simpa using hc1) hc3 hp el d (arr := cells) (sz := sz) (n := 1) (capv := 1) (cap := some 1) (fun j x hx => hx) (by rw [hc1]; exact Nat.eq_of_beq_eq_true hl) (Nat.le_refl _) (fun c hc => by cases hc; rfl)
  have hfz := h'.freeze (fun r y b s hy hyo hb => by
    cases r with
    | nil =>
      have hrep := h'.rep d
      rw [upd_same, upd_same] at hrep
      simp only [Rep] at hrep
      rcases hrep with ⟨h1, _⟩ | ⟨_, b', _, _, _, h1, h2, _⟩
      · rw [h1] at hb; cases hb
      · rw [h1] at hb; cases hb
        simp only [Value.slice.injEq, Option.some.injEq, Addr.mk.injEq] at h2
        have := hi.grow
        omega
    | cons j r =>
      simp only [node, kids] at hy
      cases hc : cs[j]? with
      | none => rw [hc] at hy; cases hy
      | some c =>
        rw [hc] at hy
        rw [pure_own (pureL_mem hp (List.mem_of_getElem? hc)) hy] at hyo; cases hyo)
  refine wp_value (v := .slice (some ⟨w.heap.size, 0, none⟩) 1 1) (w' := w.alloc (.cells cells el)) ?_ (hK _ _ ⟨β', _, hfz⟩)
  simp only [execOp, ho, sliceLit, List.map_toArray, List.map_cons, List.map_nil, hr, Sem.run_bind, Sem.run_pure, Result.andThen_ok]
end
end Go.Av
namespace Go.Av
open Go
def opB (a : List Int) (v : Int) : Bool := !decide (v ∈ a) && !decide (-v ∈ a)
theorem opB_spec {a : List Int} {v : Int} : opB a v = true ↔ ¬ v ∈ a ∧ ¬ -v ∈ a := by simp [opB]
def fopen (vs a : List Int) : Int := (vs.find? fun v => opB a v).getD 0
theorem fopen_found {vs a : List Int} {i : Nat} (hi : i < vs.length) (h : opB a (gd vs i) = true) (hn : ∀ j, j < i → opB a (gd vs j) = false) : fopen vs a = gd vs i := by
  unfold fopen
  have : vs.find? (fun v => opB a v) = some (gd vs i) := by
    rw [List.find?_eq_some_iff_getElem]
    refine ⟨h, i, hi, ?_, fun j hj => ?_⟩
    · have := gd_get hi; rw [List.getElem?_eq_getElem hi] at this; exact Option.some.inj this
    · have h2 := hn j hj
      have hjl : j < vs.length := by omega
      have := gd_get hjl; rw [List.getElem?_eq_getElem hjl] at this
      rw [Option.some.inj this, h2]; rfl
  rw [this]; rfl
theorem fopen_none {vs a : List Int} (hn : ∀ j, j < vs.length → opB a (gd vs j) = false) : fopen vs a = 0 := by
  unfold fopen
  have : vs.find? (fun v => opB a v) = none := by
    rw [List.find?_eq_none]
    intro x hx
    obtain ⟨j, hj, rfl⟩ := mem_gd hx
    rw [hn j hj]; simp
  rw [this]; rfl
def upL (n : Int) : List Int := (List.range n.toNat).map fun i : Nat => (i : Int) + 1
def upP (k : Nat) : List Int := (List.range k).map fun i : Nat => (i : Int) + 1
theorem upP_len (k : Nat) : (upP k).length = k := by simp [upP]
theorem upP_succ (k : Nat) : upP (k + 1) = upP k ++ [(k : Int) + 1] := by unfold upP; rw [List.range_succ, List.map_append]; rfl
theorem upL_eq {n : Int} {k : Nat} (h : (k : Int) = n ∨ (n ≤ 0 ∧ k = 0)) : upP k = upL n := by
  unfold upL upP
  rcases h with h | ⟨h, rfl⟩
  · rw [show n.toNat = k by omega]
  · rw [show n.toNat = 0 by omega]
theorem mem_upL {n v : Int} : v ∈ upL n ↔ 1 ≤ v ∧ v ≤ n := by
  unfold upL
  rw [List.mem_map]
  constructor
  · rintro ⟨i, hi, rfl⟩; have := List.mem_range.1 hi; omega
  · rintro ⟨h1, h2⟩; exact ⟨(v - 1).toNat, List.mem_range.2 (by omega), by omega⟩
theorem upL_len {n : Int} (h : 0 ≤ n ∧ n ≤ 12) : (upL n).length ≤ 12 := by simp [upL]; omega
end Go.Av
namespace Go.Av
open Go
def dg (l : Int) : Nat := if l > 0 then 2 else 1
def codeA : List Int → Nat
  | [] => 0
  | l :: a => dg l * 3 ^ (vr l - 1).toNat + codeA a
theorem codeA_append : ∀ (a b : List Int), codeA (a ++ b) = codeA a + codeA b
  | [], b => by simp [codeA]
  | l :: a, b => by rw [List.cons_append, codeA, codeA, codeA_append a b]; omega
theorem codeA_dvd {k : Nat} : ∀ {a : List Int}, (∀ l ∈ a, (k : Int) < vr l) → 3 ^ k ∣ codeA a
  | [], _ => ⟨0, by simp [codeA]⟩
  | l :: a, h => by
    rw [codeA]
    refine Nat.dvd_add ?_ (codeA_dvd fun x hx => h x (List.mem_cons_of_mem _ hx))
    have h1 := h l List.mem_cons_self
    exact Nat.dvd_trans (Nat.pow_dvd_pow 3 (by omega)) (Nat.dvd_mul_left _ _)
theorem vr_pos {l : Int} (h : l ≠ 0) : 1 ≤ vr l := by unfold vr; split <;> omega
theorem dg_bd (l : Int) : 1 ≤ dg l ∧ dg l ≤ 2 := by unfold dg; split <;> omega
theorem same_dg {l m : Int} (h : vr l = vr m) (hd : dg l = dg m) (hl : l ≠ 0) : l = m := by
  unfold vr at h; unfold dg at hd
  split at hd <;> split at hd <;> split at h <;> split at h <;> omega
theorem code_head {l : Int} {a : List Int} (hs : Strict (l :: a)) (h0 : l ≠ 0) : ∃ q, codeA (l :: a) = 3 ^ (vr l - 1).toNat * (dg l + 3 * q) := by
  have h1 : 3 ^ (vr l).toNat ∣ codeA a := codeA_dvd fun x hx => by
    unfold Strict at hs
    have := (List.pairwise_cons.1 hs).1 x hx
    have := vr_pos h0
    omega
  obtain ⟨q, hq⟩ := h1
  have hv := vr_pos h0
  refine ⟨q, ?_⟩
  rw [codeA, hq, show (vr l).toNat = (vr l - 1).toNat + 1 by omega, Nat.pow_succ, Nat.mul_add, Nat.mul_comm (dg l), Nat.mul_assoc]
theorem pow3_cmp {k m p q d e : Nat} (hd : 1 ≤ d ∧ d ≤ 2) (he : 1 ≤ e) (h : 3 ^ k * (d + 3 * p) = 3 ^ m * (e + 3 * q)) : ¬ k < m := fun hlt => by
  obtain ⟨j, rfl⟩ : ∃ j, m = k + (j + 1) := ⟨m - k - 1, by omega⟩
  rw [Nat.pow_add, Nat.mul_assoc] at h
  have h2 := Nat.eq_of_mul_eq_mul_left (Nat.pos_of_ne_zero (by simp)) h
  rw [Nat.pow_succ] at h2
  have h3 : d + 3 * p = 3 * (3 ^ j * (e + 3 * q)) := by rw [h2, Nat.mul_comm (3 ^ j) 3, Nat.mul_assoc]
  omega
theorem codeA_inj : ∀ {a b : List Int}, Strict a → Strict b → (∀ l ∈ a, l ≠ 0) → (∀ l ∈ b, l ≠ 0) → codeA a = codeA b → a = b
  | [], [], _, _, _, _, _ => rfl
  | [], m :: b, _, hb, _, h0, h => by
    obtain ⟨q, hq⟩ := code_head hb (h0 m List.mem_cons_self)
    rw [hq] at h
    have h1 := (dg_bd m).1
    have h2 : 0 < 3 ^ (vr m - 1).toNat * (dg m + 3 * q) := Nat.mul_pos (Nat.pos_of_ne_zero (by simp)) (by omega)
    rw [show codeA ([] : List Int) = 0 from rfl] at h; omega
  | l :: a, [], ha, _, h0, _, h => by
    obtain ⟨q, hq⟩ := code_head ha (h0 l List.mem_cons_self)
    rw [hq] at h
    have h1 := (dg_bd l).1
    have h2 : 0 < 3 ^ (vr l - 1).toNat * (dg l + 3 * q) := Nat.mul_pos (Nat.pos_of_ne_zero (by simp)) (by omega)
    rw [show codeA ([] : List Int) = 0 from rfl] at h; omega
  | l :: a, m :: b, ha, hb, h0, h1, h => by
    have hl := h0 l List.mem_cons_self
    have hm := h1 m List.mem_cons_self
    obtain ⟨p, hp⟩ := code_head ha hl
    obtain ⟨q, hq⟩ := code_head hb hm
    have hh := h
    rw [hp, hq] at hh
    have e1 := pow3_cmp (dg_bd l) (dg_bd m).1 hh
    have e2 := pow3_cmp (dg_bd m) (dg_bd l).1 hh.symm
    have v1 := vr_pos hl
    have v2 := vr_pos hm
    have ev : vr l = vr m := by omega
    rw [ev] at hh
    have e3 := Nat.eq_of_mul_eq_mul_left (Nat.pos_of_ne_zero (by simp)) hh
    have d1 := dg_bd l
    have d2 := dg_bd m
    have ed : dg l = dg m := by omega
    obtain rfl : l = m := same_dg ev ed hl
    rw [codeA, codeA] at h
    unfold Strict at ha hb
    rw [codeA_inj (a := a) (b := b) (List.pairwise_cons.1 ha).2 (List.pairwise_cons.1 hb).2 (fun x hx => h0 x (List.mem_cons_of_mem _ hx)) (fun x hx => h1 x (List.mem_cons_of_mem _ hx)) (by omega)]
theorem codeA_lt {n : Nat} : ∀ {a : List Int}, Strict a → (∀ l ∈ a, l ≠ 0 ∧ vr l ≤ n) → codeA a < 3 ^ n := by
  induction n with
  | zero =>
    intro a _ h
    cases a with
    | nil => simp [codeA]
    | cons l a => have := h l List.mem_cons_self; have := vr_pos this.1; omega
  | succ n ih =>
    intro a hs h
    by_cases hl : ∃ l ∈ a, vr l = (n + 1 : Nat)
    · obtain ⟨l, hl, hv⟩ := hl
      obtain ⟨u, w, rfl⟩ := List.append_of_mem hl
      unfold Strict at hs
      have h2 := List.pairwise_append.1 hs
      have hw : w = [] := by
        cases w with
        | nil => rfl
        | cons x w =>
          have h3 := (List.pairwise_cons.1 h2.2.1).1 x List.mem_cons_self
          have h4 := (h x (by simp)).2
          omega
      subst hw
      have h5 := ih (a := u) h2.1 fun x hx => ⟨(h x (by simp [hx])).1, by have := h2.2.2 x hx l List.mem_cons_self; omega⟩
      rw [codeA_append, codeA, codeA, hv, show ((n + 1 : Nat) : Int) - 1 = n by omega, Int.toNat_natCast, Nat.pow_succ]
      have h6 := (dg_bd l).2
      have h7 : dg l * 3 ^ n ≤ 2 * 3 ^ n := Nat.mul_le_mul_right _ h6
      omega
    · have := ih (a := a) hs fun x hx => ⟨(h x hx).1, by
        have h1 := (h x hx).2
        have h2 : vr x ≠ (n + 1 : Nat) := fun e => hl ⟨x, hx, e⟩
        omega⟩
      rw [Nat.pow_succ]; omega
theorem codeA_put : ∀ (a : List Int) (l : Int), codeA (putL a l) = codeA a + dg l * 3 ^ (vr l - 1).toNat
  | [], l => by simp [putL, codeA]
  | x :: a, l => by
    rw [putL]; split
    · rw [codeA, codeA_put a l, codeA]; omega
    · rw [codeA, codeA]; omega
theorem codeA_take {a : List Int} {i : Nat} (h : i < a.length) : codeA (a.take (i + 1)) = codeA (a.take i) + dg (gd a i) * 3 ^ (vr (gd a i) - 1).toNat := by
  rw [take_gd h, codeA_append, codeA, codeA]; rfl
theorem codeA_cl {vars : Int} {a : List Int} (h : clB vars a = true) : codeA a < 3 ^ vars.toNat := by
  have hv := (clB_spec h).1
  refine codeA_lt (clB_strict h) fun l hl => ?_
  have := litB_spec.1 (clB_mem h hl).1
  refine ⟨this.2, ?_⟩
  unfold vr; split <;> omega
theorem strict_take {a : List Int} (h : Strict a) (i : Nat) : Strict (a.take i) := List.Pairwise.sublist (List.take_sublist i a) h
theorem codeA_tk {vars : Int} {a : List Int} (h : clB vars a = true) (i : Nat) : codeA (a.take i) ≤ 531441 := by
  have hv := (clB_spec h).1
  have : codeA (a.take i) < 3 ^ vars.toNat := codeA_lt (strict_take (clB_strict h) i) fun l hl => by
    have := litB_spec.1 (clB_mem h (List.mem_of_mem_take hl)).1
    refine ⟨this.2, ?_⟩
    unfold vr; split <;> omega
  have h2 : 3 ^ vars.toNat ≤ 3 ^ 12 := Nat.pow_le_pow_right (by decide) (by omega)
  omega
theorem pow3_bd {k : Nat} (h : k ≤ 12) : 1 ≤ 3 ^ k ∧ 3 ^ k ≤ 531441 := ⟨Nat.one_le_pow _ _ (by decide), Nat.le_trans (Nat.pow_le_pow_right (by decide) h) (by decide)⟩
theorem dg_pos {l : Int} (h : l > 0) : dg l = 2 ∧ vr l = l := by unfold dg vr; rw [if_pos h, if_neg (by omega)]; exact ⟨rfl, rfl⟩
theorem dg_neg {l : Int} (h : ¬ l > 0) (h0 : l ≠ 0) : dg l = 1 ∧ vr l = -l := by unfold dg vr; rw [if_neg h, if_pos (by omega)]; exact ⟨rfl, rfl⟩
def nwB (vars : Int) (L : List (List Int)) (w : Int) : Bool := (cnfB vars L && decide (vars ≤ 6)) && inR w 0 6
def alC (c : List Int) (w : Int) (a : List Int) : Bool := decide ((c.length : Int) ≤ w) && decide (cval c a < 0)
def alB (L : List (List Int)) (w : Int) (a : List Int) : Bool := decide ((a.length : Int) ≤ w + 1) && !(List.range L.length).any fun i => alC (gl L i) w a
theorem ext_gdA {a b : List Int} (hl : a.length = b.length) (h : ∀ j, j < a.length → gd a j = gd b j) : a = b := by
  apply List.ext_getElem? 
  intro j
  by_cases hj : j < a.length
  · rw [gd_get hj, gd_get (show j < b.length by omega), h j hj]
  · rw [List.getElem?_eq_none (by omega), List.getElem?_eq_none (by omega)]
def keyL (l : Int) : Int := if l < 0 then -2 * l + 1 else 2 * l
def mkB (n : Nat) (M : List (List Int)) : Nat → List Bool
  | 0 => List.replicate (3 ^ n) false
  | i + 1 => (mkB n M i).set (codeA (gl M i)) true
theorem mkB_len (n : Nat) (M : List (List Int)) : ∀ i, (mkB n M i).length = 3 ^ n
  | 0 => by simp [mkB]
  | i + 1 => by rw [mkB, List.length_set, mkB_len n M i]
def opensL (n : Int) (a : List Int) : List Int := (upL n).filter fun v => !(!opB a v)
theorem sm_one {v : Int} (h : 1 ≤ v ∧ v ≤ 12) : SmI [v] := fun i => by
  cases i with
  | zero => show _ ≤ v ∧ v ≤ _; omega
  | succ i => show _ ≤ (0 : Int) ∧ (0 : Int) ≤ _; omega
theorem fopen_one {v : Int} {a : List Int} (h : 1 ≤ v ∧ v ≤ 12) : decide (fopen [v] a = 0) = !opB a v := by
  unfold fopen
  cases ho : opB a v with
  | true => rw [List.find?_cons_of_pos (by simpa using ho)]; rw [Option.getD_some, decide_eq_false (by omega)]; rfl
  | false => rw [List.find?_cons_of_neg (by simp [ho])]; rfl
theorem upL_gd {n : Int} (h : 0 ≤ n ∧ n ≤ 12) {i : Nat} (hi : i < (upL n).length) : 1 ≤ gd (upL n) i ∧ gd (upL n) i ≤ 12 := by
  have := mem_upL.1 (gd_mem hi); omega
end Go.Av
namespace Go.Av
open Go Go.Proofs Go.Sort
set_option maxRecDepth 10000
theorem hb81 : hasBody Tryz.prog 81 = true := by kernel_rfl
theorem pow3_c (n : Nat) (h : n ≤ 12) : ACall Tryz.prog 81 [.int .i64 ((n : Nat) : Int)] [] (.int .i64 ((3 ^ n : Nat) : Int)) [] := by
 refine ACall.intro Tryz.func81 rfl (N := 11) rfl (by decide) (by simp) ?_
 refine a_seq ?_
 refine a_region ?_
 refine rv (v := .int _ _) (v_assign (.inl rfl) nf) ?_
 refine r_nil ?_
 refine a_seq ?_
 refine a_region ?_
 refine rv (v := .int _ _) (v_assign (.inl rfl) nf) ?_
 refine r_nil ?_
 refine a_seq ?_
 refine a_seq ?_
 refine a_region ?_
 refine rv (v := .int _ _) (v_move (.inl rfl) nf) ?_
 refine rv (v := .int _ _) (v_move (.inl rfl) nf) ?_
 refine r_nil ?_
 refine a_block ?_
 refine a_loop (X := Nat) (fun i => look [(3, .int .i64 ((3 ^ i : Nat) : Int)), (4, .int .i64 ((n : Nat) : Int)), (5, .int .i64 ((i : Nat) : Int))]) (fun i => i ≤ n) (fun i => n - i) 0 (ent_look ⟨Weak.of_eq rfl, Weak.of_eq rfl, Weak.of_eq rfl, trivial⟩) (Nat.zero_le _) (fun i hG => ?_)
 have hpb := pow3_bd (k := i) (by omega)
 refine a_seq ?_
 refine a_region ?_
 refine rv (v := .bool _) (v_lss (.inl rfl) (.inl rfl)) ?_
 refine r_nil ?_
 refine a_seq ?_
 refine a_cond rfl (fun ht6 => ?_) (fun ht6 => ?_)
 ·
  skip
  refine a_skip ?_
  refine a_seq ?_
  refine a_block ?_
  have hi : i < n := (by simp at ht6; omega)
  refine a_region ?_
  refine rv (v := .int _ _) (v_move (.inl rfl) nf) ?_
  refine rv (v := .int _ _) (v_mul (.inl rfl) (.inl rfl) (fun _ => by omega)) ?_
  refine rv (v := .int _ _) (v_assign (.inl rfl) nf) ?_
  refine r_nil ?_
  refine a_region ?_
  refine rv (v := .int _ _) (v_add (.inl rfl) (.inl rfl) (fun _ => by omega)) ?_
  refine rv (v := .int _ _) (v_move (.inl rfl) nf) ?_
  refine r_nil ?_
  refine ⟨i + 1, ent_look ⟨Weak.of_eq (int_eq (by rw [Nat.pow_succ]; push_cast; rfl)), Weak.of_eq rfl, Weak.of_eq (int_eq (by omega)), trivial⟩, by omega, by omega⟩
 ·
  skip
  refine a_exit ?_
  refine a_seq ?_
  refine a_region ?_
  refine rv (v := .int _ _) (v_move (.inl rfl) nf) ?_
  refine rv (v := .int _ _) (v_assign (.inl rfl) nf) ?_
  refine r_nil ?_
  refine a_ret ?_
  refine ret1 Tryz.results81 (by decide) (by decide) (Weak.of_eq (int_eq ?_)) rfl Leaves.nil
  simp at ht6; rw [show i = n by omega]
theorem codeOf_c (vars : Int) (a : List Int) (hca : clB vars a = true) : ACall Tryz.prog 82 [.sl (icells a) a.length] [] (.int .i64 (((codeA a) : Nat) : Int)) [] := by
 have hla := clB_len hca
 have hsm := clB_sm hca
 have hv12 := (clB_spec hca).1
 refine ACall.intro Tryz.func82 rfl (N := 28) rfl (by decide) (by simp) ?_
 refine a_seq ?_
 refine a_region ?_
 refine rv (v := .int _ _) (v_assign (.inl rfl) nf) ?_
 refine r_nil ?_
 refine a_seq ?_
 refine a_region ?_
 refine rv (v := .int _ _) (v_assign (.inl rfl) nf) ?_
 refine r_nil ?_
 refine a_seq ?_
 refine a_seq ?_
 refine a_region ?_
 refine rv (v := .sl _ _) (v_move (.inl rfl) nf) ?_
 refine rv (v := .int _ _) (v_len_sl sl25 (.inl rfl)) ?_
 refine rv (v := .int _ _) (v_move (.inl rfl) nf) ?_
 refine r_nil ?_
 refine a_block ?_
 refine a_loop (X := Nat) (fun i => look [(3, .int .i64 (((codeA (a.take i)) : Nat) : Int)), (6, .sl (icells a) a.length), (7, .int .i64 ((a.length : Nat) : Int)), (8, .int .i64 ((i : Nat) : Int))]) (fun i => i ≤ a.length) (fun i => a.length - i) 0 (ent_look ⟨Weak.of_eq rfl, Weak.of_eq rfl, Weak.of_eq rfl, Weak.of_eq rfl, trivial⟩) (Nat.zero_le _) (fun i hG => ?_)
 have hct := codeA_tk hca i
 have hsi := hsm i
 refine a_seq ?_
 refine a_region ?_
 refine rv (v := .bool _) (v_lss (.inl rfl) (.inl rfl)) ?_
 refine r_nil ?_
 refine a_seq ?_
 refine a_cond rfl (fun ht9 => ?_) (fun ht9 => ?_)
 ·
  skip
  refine a_skip ?_
  refine a_seq ?_
  refine a_block ?_
  refine a_seq ?_
  have hi : i < a.length := (by simp at ht9; omega)
  have hlt := litB_spec.1 (clB_mem hca (gd_mem hi)).1
  refine a_region ?_
  refine rv (v := .pp _ _) (v_indexAddr_sl es25 (.inl rfl) (.inl rfl) (fun _ => ⟨by omega, by omega, icells_ne hi⟩)) ?_
  refine rv (v := .int .i64 (gd a i)) (v_load_pp ta3 (.inl rfl) (fun _ => by rw [Nat.mul_one]; exact icells_get (gd_get hi)) rfl) ?_
  refine rv (v := .int _ _) (v_assign (.inl rfl) nf) ?_
  refine r_nil ?_
  refine a_seq ?_
  refine a_region ?_
  refine rv (v := .int _ _) (v_move (.inl rfl) nf) ?_
  refine rv (v := .bool _) (v_gtr (.inl rfl) (.inl rfl)) ?_
  refine r_nil ?_
  refine a_cond rfl (fun ht13 => ?_) (fun ht13 => ?_)
  ·
   skip
   have hlp : gd a i > 0 := (by simpa using ht13)
   have hdg := dg_pos hlp
   have hpb := pow3_bd (k := ((vr (gd a i) - 1).toNat)) (by omega)
   refine a_region ?_
   refine rv (v := .int _ _) (v_move (.inl rfl) nf) ?_
   refine rv (v := .int _ _) (v_move (.inl rfl) nf) ?_
   refine rv (v := .int .i64 ((((vr (gd a i) - 1).toNat) : Nat) : Int)) ((v_sub (.inl rfl) (.inl rfl) (fun _ => by omega)).cast (int_eq (by omega))) ?_
   refine rn (v := .int _ _) (q_call (vs := [.int _ _]) (args := [.int .i64 _]) hb81 ⟨.inl rfl, trivial⟩ rfl (fun hA => pow3_c ((vr (gd a i) - 1).toNat) (by omega)) rfl rfl) ?_
   refine rv (v := .int _ _) (v_mul (.inl rfl) (.inl rfl) (fun _ => by omega)) ?_
   refine rv (v := .int _ _) (v_add (.inl rfl) (.inl rfl) (fun _ => by omega)) ?_
   refine rv (v := .int _ _) (v_assign (.inl rfl) nf) ?_
   refine r_nil ?_
   refine a_region ?_
   refine rv (v := .int _ _) (v_add (.inl rfl) (.inl rfl) (fun _ => by omega)) ?_
   refine rv (v := .int _ _) (v_move (.inl rfl) nf) ?_
   refine r_nil ?_
   refine ⟨i + 1, ent_look ⟨Weak.of_eq (int_eq (by rw [codeA_take hi, hdg.1]; push_cast; omega)), Weak.of_eq rfl, Weak.of_eq rfl, Weak.of_eq (int_eq (by omega)), trivial⟩, by omega, by omega⟩
  ·
   skip
   have hlp : ¬ gd a i > 0 := (by simpa using ht13)
   have hdg := dg_neg hlp hlt.2
   have hpb := pow3_bd (k := ((vr (gd a i) - 1).toNat)) (by omega)
   refine a_region ?_
   refine rv (v := .int _ _) (v_move (.inl rfl) nf) ?_
   refine rv (v := .int _ _) (v_move (.inl rfl) nf) ?_
   refine rv (v := .int _ _) (v_neg (.inl rfl) (fun _ => by omega)) ?_
   refine rv (v := .int .i64 ((((vr (gd a i) - 1).toNat) : Nat) : Int)) ((v_sub (.inl rfl) (.inl rfl) (fun _ => by omega)).cast (int_eq (by omega))) ?_
   refine rn (v := .int _ _) (q_call (vs := [.int _ _]) (args := [.int .i64 _]) hb81 ⟨.inl rfl, trivial⟩ rfl (fun hA => pow3_c ((vr (gd a i) - 1).toNat) (by omega)) rfl rfl) ?_
   refine rv (v := .int _ _) (v_add (.inl rfl) (.inl rfl) (fun _ => by omega)) ?_
   refine rv (v := .int _ _) (v_assign (.inl rfl) nf) ?_
   refine r_nil ?_
   refine a_region ?_
   refine rv (v := .int _ _) (v_add (.inl rfl) (.inl rfl) (fun _ => by omega)) ?_
   refine rv (v := .int _ _) (v_move (.inl rfl) nf) ?_
   refine r_nil ?_
   refine ⟨i + 1, ent_look ⟨Weak.of_eq (int_eq (by rw [codeA_take hi, hdg.1]; push_cast; omega)), Weak.of_eq rfl, Weak.of_eq rfl, Weak.of_eq (int_eq (by omega)), trivial⟩, by omega, by omega⟩
 ·
  skip
  refine a_exit ?_
  refine a_seq ?_
  refine a_region ?_
  refine rv (v := .int _ _) (v_move (.inl rfl) nf) ?_
  refine rv (v := .int _ _) (v_assign (.inl rfl) nf) ?_
  refine r_nil ?_
  refine a_ret ?_
  refine ret1 Tryz.results82 (by decide) (by decide) (Weak.of_eq (int_eq ?_)) rfl Leaves.nil
  simp at ht9; rw [show i = a.length by omega, List.take_length]
end Go.Av
namespace Go.Av
open Go Go.Proofs Go.Sort
set_option maxRecDepth 10000
theorem hb45 : hasBody Tryz.prog 45 = true := by kernel_rfl
theorem hb46 : hasBody Tryz.prog 46 = true := by kernel_rfl
theorem hb51 : hasBody Tryz.prog 51 = true := by kernel_rfl
theorem hb67 : hasBody Tryz.prog 67 = true := by kernel_rfl
theorem narrowOk_c (vars : Int) (L : List (List Int)) (hk : CnfOk vars L) (w : Int) : ACall Tryz.prog 37 [.agg [.int .i64 vars, .sl (sls L) L.length], .int .i64 w] [] (.bool (nwB vars L w)) [] := by
 refine ACall.intro Tryz.func37 rfl (N := 16) rfl (by decide) (by simp) ?_
 refine a_seq ?_
 refine a_region ?_
 refine rn (v := .op [.int _ _, .sl _ _]) (q_box (.inl rfl) rfl rfl) ?_
 refine rv (v := .bool _) (v_assign (.inl rfl) nf) ?_
 refine r_nil ?_
 refine a_seq ?_
 refine a_region ?_
 refine rv (v := .agg [.int _ _, .sl _ _]) (v_load_rpa1 ta30 (.inl rfl) rfl rfl (fun _ => rfl) rfl) ?_
 refine rn (v := .bool _) (q_call (vs := [.agg [.int _ _, .sl _ _]]) (args := [.agg [.int .i64 _, .sl _ _]]) hb51 ⟨.inl rfl, trivial⟩ rfl (fun hA => isCnf_c vars L hk) rfl rfl) ?_
 refine rv (v := .bool _) (v_move (.inl rfl) nf) ?_
 refine r_gval (v := .rp _ _) (v_fieldAddr_rp fo30_0 (.inl rfl)) rfl rfl rfl (by decide) (.inl ⟨_, rfl, rfl⟩) rfl (by decide) ?_
 refine r_gval (v := .int _ _) (v_load_rp1 ta3 (.inr ⟨_, rfl, fun h => h⟩) rfl (fun _ => rfl) rfl) rfl rfl rfl (by decide) (.inl ⟨_, rfl, rfl⟩) rfl (by decide) ?_
 refine r_gval (v := .bool _) (v_leq (.inr ⟨_, rfl, fun h => h⟩) (.inl rfl)) rfl rfl rfl (by decide) (.inl ⟨_, rfl, rfl⟩) rfl (by decide) ?_
 refine rv (v := .bool _) (v_pick (.inl rfl) (.inr ⟨_, rfl, fun h h2 => by simp_all⟩) (.inl rfl)) ?_
 refine rv (v := .bool _) (v_move (.inl rfl) nf) ?_
 refine r_gval (v := .int _ _) (v_move (.inl rfl) nf) rfl rfl rfl (by decide) (.inl ⟨_, rfl, rfl⟩) rfl (by decide) ?_
 refine r_guard (v := .bool _) (q_call (vs := [.int _ _, .int _ _, .int _ _]) (args := [.int .i64 _, .int .i64 _, .int .i64 _]) hb39 ⟨.inr ⟨_, rfl, fun h => h⟩, .inl rfl, .inl rfl, trivial⟩ rfl (fun hA => within_c _ _ _) rfl rfl) rfl rfl rfl (by decide) (.inl ⟨_, rfl, rfl⟩) rfl (by decide) ?_
 refine rv (v := .bool _) (v_pick (.inl rfl) (.inr ⟨_, rfl, fun h h2 => by simp_all⟩) (.inl rfl)) ?_
 refine rv (v := .bool _) (v_assign (.inl rfl) nf) ?_
 refine r_nil ?_
 refine a_ret ?_
 refine ret1 Tryz.results37 (by decide) (by decide) (Weak.of_eq (bool_eq ?_)) rfl Leaves.nil
 unfold nwB; cases cnfB vars L <;> cases decide (vars ≤ 6) <;> simp
theorem good10_c (vars : Int) (L : List (List Int)) (hk : CnfOk vars L) : ACall Tryz.prog 45 [.agg [.int .i64 vars, .sl (sls L) L.length]] [] (.bool (cnfB vars L && decide (vars ≤ 6))) [] := by
 refine ACall.intro Tryz.func45 rfl (N := 10) rfl (by decide) (by simp) ?_
 refine a_seq ?_
 refine a_region ?_
 refine rn (v := .op [.int _ _, .sl _ _]) (q_box (.inl rfl) rfl rfl) ?_
 refine rv (v := .bool _) (v_assign (.inl rfl) nf) ?_
 refine r_nil ?_
 refine a_seq ?_
 refine a_region ?_
 refine rv (v := .rp _ _) (v_fieldAddr_rp fo30_0 (.inl rfl)) ?_
 refine rv (v := .int _ _) (v_load_rp1 ta3 (.inl rfl) rfl (fun _ => rfl) rfl) ?_
 refine rv (v := .bool _) (v_leq (.inl rfl) (.inl rfl)) ?_
 refine rv (v := .bool _) (v_move (.inl rfl) nf) ?_
 refine r_gval (v := .agg [.int _ _, .sl _ _]) (v_load_rpa1 ta30 (.inl rfl) rfl rfl (fun _ => rfl) rfl) rfl rfl rfl (by decide) (.inl ⟨_, rfl, rfl⟩) rfl (by decide) ?_
 refine r_guard (v := .bool _) (q_call (vs := [.agg [.int _ _, .sl _ _]]) (args := [.agg [.int .i64 _, .sl _ _]]) hb67 ⟨.inr ⟨_, rfl, fun h => h⟩, trivial⟩ rfl (fun hA => l2Good_c vars L hk) rfl rfl) rfl rfl rfl (by decide) (.inl ⟨_, rfl, rfl⟩) rfl (by decide) ?_
 refine rv (v := .bool _) (v_pick (.inl rfl) (.inr ⟨_, rfl, fun h h2 => by simp_all⟩) (.inl rfl)) ?_
 refine rv (v := .bool _) (v_assign (.inl rfl) nf) ?_
 refine r_nil ?_
 refine a_ret ?_
 refine ret1 Tryz.results45 (by decide) (by decide) (Weak.of_eq (bool_eq ?_)) rfl Leaves.nil
 cases cnfB vars L <;> cases decide (vars ≤ 6) <;> simp
theorem width10_c (w : Int) : ACall Tryz.prog 46 [.int .i64 w] [] (.bool (inR w 0 6)) [] := by
 refine ACall.intro Tryz.func46 rfl (N := 5) rfl (by decide) (by simp) ?_
 refine a_seq ?_
 refine a_region ?_
 refine rv (v := .bool _) (v_assign (.inl rfl) nf) ?_
 refine r_nil ?_
 refine a_seq ?_
 refine a_region ?_
 refine rv (v := .int _ _) (v_move (.inl rfl) nf) ?_
 refine rn (v := .bool _) (q_call (vs := [.int _ _, .int _ _, .int _ _]) (args := [.int .i64 _, .int .i64 _, .int .i64 _]) hb31 ⟨.inl rfl, .inl rfl, .inl rfl, trivial⟩ rfl (fun hA => l1In_c _ _ _) rfl rfl) ?_
 refine rv (v := .bool _) (v_assign (.inl rfl) nf) ?_
 refine r_nil ?_
 refine a_ret ?_
 refine ret1 Tryz.results46 (by decide) (by decide) (Weak.of_eq (bool_eq ?_)) rfl Leaves.nil
 rfl
theorem asked13_c (vars : Int) (L : List (List Int)) (hk : CnfOk vars L) (w : Int) : ACall Tryz.prog 28 [.agg [.int .i64 vars, .sl (sls L) L.length], .int .i64 w] [] (.bool (nwB vars L w)) [] := by
 refine ACall.intro Tryz.func28 rfl (N := 11) rfl (by decide) (by simp) ?_
 refine a_seq ?_
 refine a_region ?_
 refine rn (v := .op [.int _ _, .sl _ _]) (q_box (.inl rfl) rfl rfl) ?_
 refine rv (v := .bool _) (v_assign (.inl rfl) nf) ?_
 refine r_nil ?_
 refine a_seq ?_
 refine a_region ?_
 refine rv (v := .agg [.int _ _, .sl _ _]) (v_load_rpa1 ta30 (.inl rfl) rfl rfl (fun _ => rfl) rfl) ?_
 refine rn (v := .bool _) (q_call (vs := [.agg [.int _ _, .sl _ _]]) (args := [.agg [.int .i64 _, .sl _ _]]) hb45 ⟨.inl rfl, trivial⟩ rfl (fun hA => good10_c vars L hk) rfl rfl) ?_
 refine rv (v := .bool _) (v_move (.inl rfl) nf) ?_
 refine r_gval (v := .int _ _) (v_move (.inl rfl) nf) rfl rfl rfl (by decide) (.inl ⟨_, rfl, rfl⟩) rfl (by decide) ?_
 refine r_guard (v := .bool _) (q_call (vs := [.int _ _]) (args := [.int .i64 _]) hb46 ⟨.inr ⟨_, rfl, fun h => h⟩, trivial⟩ rfl (fun hA => width10_c _) rfl rfl) rfl rfl rfl (by decide) (.inl ⟨_, rfl, rfl⟩) rfl (by decide) ?_
 refine rv (v := .bool _) (v_pick (.inl rfl) (.inr ⟨_, rfl, fun h h2 => by simp_all⟩) (.inl rfl)) ?_
 refine rv (v := .bool _) (v_assign (.inl rfl) nf) ?_
 refine r_nil ?_
 refine a_ret ?_
 refine ret1 Tryz.results28 (by decide) (by decide) (Weak.of_eq (bool_eq ?_)) rfl Leaves.nil
 unfold nwB; cases cnfB vars L <;> cases decide (vars ≤ 6) <;> simp
end Go.Av
namespace Go.Av
open Go Go.Proofs Go.Sort
set_option maxRecDepth 10000
theorem hb56 : hasBody Tryz.prog 56 = true := by kernel_rfl
theorem hb68 : hasBody Tryz.prog 68 = true := by kernel_rfl
theorem hb75 : hasBody Tryz.prog 75 = true := by kernel_rfl
theorem hb76 : hasBody Tryz.prog 76 = true := by kernel_rfl
theorem allowed1_c (c a : List Int) (w : Int) (hs : SmI c) (hc : c.length ≤ 1048576) (ha : a.length ≤ 1048576) : ACall Tryz.prog 75 [.sl (icells c) c.length, .pp [.int .i64 w] 0, .pp [.sl (icells a) a.length] 0] [] (.bool (alC c w a)) [] := by
 refine ACall.intro Tryz.func75 rfl (N := 15) rfl (by decide) (by simp) ?_
 refine a_seq ?_
 refine a_region ?_
 refine rv (v := .bool _) (v_assign (.inl rfl) nf) ?_
 refine r_nil ?_
 refine a_seq ?_
 refine a_region ?_
 refine rv (v := .sl _ _) (v_move (.inl rfl) nf) ?_
 refine rv (v := .int _ _) (v_len_sl sl25 (.inl rfl)) ?_
 refine rv (v := .int _ _) (v_load_pp ta3 (.inl rfl) (fun _ => rfl) rfl) ?_
 refine rv (v := .bool _) (v_leq (.inl rfl) (.inl rfl)) ?_
 refine rv (v := .bool _) (v_move (.inl rfl) nf) ?_
 refine r_gval (v := .sl _ _) (v_move (.inl rfl) nf) rfl rfl rfl (by decide) (.inl ⟨_, rfl, rfl⟩) rfl (by decide) ?_
 refine r_gval (v := .sl _ _) (v_load_pp ta25 (.inl rfl) (fun _ => rfl) rfl) rfl rfl rfl (by decide) (.inl ⟨_, rfl, rfl⟩) rfl (by decide) ?_
 refine r_guard (v := .int _ _) (q_call (vs := [.sl _ _, .sl _ _]) (args := [.sl _ _, .sl _ _]) hb76 ⟨.inr ⟨_, rfl, fun h => h⟩, .inr ⟨_, rfl, fun h => h⟩, trivial⟩ rfl (fun hA => iClv_c c a hs hc ha) rfl rfl) rfl rfl rfl (by decide) (.inl ⟨_, rfl, rfl⟩) rfl (by decide) ?_
 refine r_gval (v := .bool _) (v_lss (.inr ⟨_, rfl, fun h => h⟩) (.inl rfl)) rfl rfl rfl (by decide) (.inl ⟨_, rfl, rfl⟩) rfl (by decide) ?_
 refine rv (v := .bool _) (v_pick (.inl rfl) (.inr ⟨_, rfl, fun h h2 => by simp_all⟩) (.inl rfl)) ?_
 refine rv (v := .bool _) (v_assign (.inl rfl) nf) ?_
 refine r_nil ?_
 refine a_ret ?_
 refine ret1 Tryz.results75 (by decide) (by decide) (Weak.of_eq (bool_eq ?_)) rfl Leaves.nil
 unfold alC; cases decide ((c.length : Int) ≤ w) <;> simp
theorem allowed_c (vars : Int) (L : List (List Int)) (a : List Int) (w : Int) (hcl : ∀ i, i < L.length → clB vars (gl L i) = true) (hL : L.length ≤ 1048576) (ha : a.length ≤ 1048576) (hw : 0 ≤ w ∧ w ≤ 6) : ACall Tryz.prog 53 [.agg [.int .i64 vars, .sl (sls L) L.length], .int .i64 w, .sl (icells a) a.length] [] (.bool (alB L w a)) [] := by
 have hbA := hb75
 refine ACall.intro Tryz.func53 rfl (N := 19) rfl (by decide) (by simp) ?_
 refine a_seq ?_
 refine a_region ?_
 refine rn (v := .op [.int _ _, .sl _ _]) (q_box (.inl rfl) rfl rfl) ?_
 refine rn (v := .op [.int _ _]) (q_box (.inl rfl) rfl rfl) ?_
 refine rn (v := .op [.sl _ _]) (q_box (.inl rfl) rfl rfl) ?_
 refine rv (v := .bool _) (v_assign (.inl rfl) nf) ?_
 refine r_nil ?_
 refine a_seq ?_
 refine a_region ?_
 refine rv (v := .sl _ _) (v_load_rp1 ta25 (.inl rfl) rfl (fun _ => rfl) rfl) ?_
 refine rv (v := .int _ _) (v_len_sl sl25 (.inl rfl)) ?_
 refine rv (v := .int _ _) (v_load_rp1 ta3 (.inl rfl) rfl (fun _ => rfl) rfl) ?_
 refine rv (v := .int _ _) (v_add (.inl rfl) (.inl rfl) (fun _ => by omega)) ?_
 refine rv (v := .bool _) (v_leq (.inl rfl) (.inl rfl)) ?_
 refine rv (v := .bool _) (v_move (.inl rfl) nf) ?_
 refine r_gval (v := .rp _ _) (v_fieldAddr_rp fo30_1 (.inl rfl)) rfl rfl rfl (by decide) (.inl ⟨_, rfl, rfl⟩) rfl (by decide) ?_
 refine r_gval (v := .sl _ _) (v_load_rp1 ta22 (.inr ⟨_, rfl, fun h => h⟩) rfl (fun _ => rfl) rfl) rfl rfl rfl (by decide) (.inl ⟨_, rfl, rfl⟩) rfl (by decide) ?_
 refine r_gval (v := .fn _ _ _) (v_makeFunc (first := []) (caps := [.tmp 4, .tmp 5]) rfl rfl) rfl rfl rfl (by decide) (.inl ⟨_, rfl, rfl⟩) rfl (by decide) ?_
 refine r_guard (v := .bool _) (q_call (vs := [.sl _ _, .fn _ _ _]) (args := [.sl _ _, .fn _ _ _]) hb56 ⟨.inr ⟨_, rfl, fun h => h⟩, .inr ⟨_, rfl, fun h => h⟩, trivial⟩ rfl (fun hA => contL_c 75 [.pp [.int .i64 w] 0, .pp [.sl (icells a) a.length] 0] hbA rfl L (fun i => alC (gl L i) w a) (by omega) (fun i hi => allowed1_c (gl L i) a w (clB_sm (hcl i hi)) (by have := clB_len (hcl i hi); omega) ha)) rfl rfl) rfl rfl rfl (by decide) (.inl ⟨_, rfl, rfl⟩) rfl (by decide) ?_
 refine r_gval (v := .bool _) (v_not (.inr ⟨_, rfl, fun h => h⟩)) rfl rfl rfl (by decide) (.inl ⟨_, rfl, rfl⟩) rfl (by decide) ?_
 refine rv (v := .bool _) (v_pick (.inl rfl) (.inr ⟨_, rfl, fun h h2 => by simp_all⟩) (.inl rfl)) ?_
 refine rv (v := .bool _) (v_assign (.inl rfl) nf) ?_
 refine r_nil ?_
 refine a_ret ?_
 refine ret1 Tryz.results53 (by decide) (by decide) (Weak.of_eq (bool_eq ?_)) rfl Leaves.nil
 unfold alB; cases decide ((a.length : Int) ≤ w + 1) <;> simp
theorem allow13_c (vars : Int) (L : List (List Int)) (a : List Int) (w : Int) (hcl : ∀ i, i < L.length → clB vars (gl L i) = true) (hL : L.length ≤ 1048576) (ha : a.length ≤ 1048576) (hw : 0 ≤ w ∧ w ≤ 6) : ACall Tryz.prog 47 [.agg [.int .i64 vars, .sl (sls L) L.length], .int .i64 w, .sl (icells a) a.length] [] (.bool (alB L w a)) [] := by
 refine ACall.intro Tryz.func47 rfl (N := 38) rfl (by decide) (by simp) ?_
 refine a_seq ?_
 refine a_region ?_
 refine rn (v := .op [.int _ _, .sl _ _]) (q_box (.inl rfl) rfl rfl) ?_
 refine rv (v := .bool _) (v_assign (.inl rfl) nf) ?_
 refine r_nil ?_
 refine a_seq ?_
 refine a_seq ?_
 refine a_region ?_
 refine rv (v := .sl _ _) (v_move (.inl rfl) nf) ?_
 refine rv (v := .int _ _) (v_len_sl sl25 (.inl rfl)) ?_
 refine rv (v := .int _ _) (v_move (.inl rfl) nf) ?_
 refine rv (v := .int _ _) (v_add (.inl rfl) (.inl rfl) (fun _ => by omega)) ?_
 refine rv (v := .bool _) (v_gtr (.inl rfl) (.inl rfl)) ?_
 refine r_nil ?_
 refine a_cond rfl (fun ht12 => ?_) (fun ht12 => ?_)
 ·
  skip
  refine a_seq ?_
  refine a_region ?_
  refine rv (v := .bool _) (v_assign (.inl rfl) nf) ?_
  refine r_nil ?_
  refine a_ret ?_
  refine ret1 Tryz.results47 (by decide) (by decide) (Weak.of_eq (bool_eq ?_)) rfl Leaves.nil
  unfold alB; rw [decide_eq_false (by simpa using ht12)]; rfl
 ·
  skip
  refine a_skip ?_
  refine a_seq ?_
  refine a_seq ?_
  refine a_region ?_
  refine rv (v := .int _ _) (v_assign (.inl rfl) nf) ?_
  refine r_nil ?_
  refine a_block ?_
  refine a_loop (X := Nat) (fun i => look [(1, .int .i64 w), (2, .sl (icells a) a.length), (3, .op [.int .i64 vars, .sl (sls L) L.length]), (7, .int .i64 ((i : Nat) : Int))]) (fun i => i ≤ L.length ∧ ∀ j, j < i → alC (gl L j) w a = false) (fun i => L.length - i) 0 (ent_look ⟨Weak.of_eq rfl, Weak.of_eq rfl, Weak.of_eq rfl, Weak.of_eq rfl, trivial⟩) ⟨Nat.zero_le _, fun j h => by omega⟩ (fun i hG => ?_)
  obtain ⟨g1, g2⟩ := hG
  refine a_seq ?_
  refine a_seq ?_
  refine a_region ?_
  refine rv (v := .int _ _) (v_move (.inl rfl) nf) ?_
  refine rv (v := .rp _ _) (v_fieldAddr_rp fo30_1 (.inl rfl)) ?_
  refine rv (v := .sl _ _) (v_load_rp1 ta22 (.inl rfl) rfl (fun _ => rfl) rfl) ?_
  refine rv (v := .int _ _) (v_len_sl sl22 (.inl rfl)) ?_
  refine rv (v := .bool _) (v_lss (.inl rfl) (.inl rfl)) ?_
  refine r_nil ?_
  refine a_cond rfl (fun ht17 => ?_) (fun ht17 => ?_)
  ·
   skip
   refine a_skip ?_
   refine a_seq ?_
   refine a_block ?_
   refine a_seq ?_
   have hi : i < L.length := (by simp at ht17; omega)
   have hci := hcl i hi
   have hlc := clB_len hci
   have hac : (bif decide (((gl L i).length : Int) ≤ w) then decide (cval (gl L i) a < 0) else false) = alC (gl L i) w a := (by unfold alC; cases decide (((gl L i).length : Int) ≤ w) <;> simp)
   refine a_region ?_
   refine rv (v := .rp _ _) (v_fieldAddr_rp fo30_1 (.inl rfl)) ?_
   refine rv (v := .sl _ _) (v_load_rp1 ta22 (.inl rfl) rfl (fun _ => rfl) rfl) ?_
   refine rv (v := .int _ _) (v_move (.inl rfl) nf) ?_
   refine rv (v := .pp _ _) (v_indexAddr_sl es22 (.inl rfl) (.inl rfl) (fun _ => ⟨by omega, by omega, sls_ne hi⟩)) ?_
   refine rv (v := .sl (icells (gl L i)) (gl L i).length) (v_load_pp ta25 (.inl rfl) (fun _ => by rw [Nat.mul_one]; exact sls_get hi) rfl) ?_
   refine rv (v := .int _ _) (v_len_sl sl25 (.inl rfl)) ?_
   refine rv (v := .int _ _) (v_move (.inl rfl) nf) ?_
   refine rv (v := .bool _) (v_leq (.inl rfl) (.inl rfl)) ?_
   refine rv (v := .bool _) (v_move (.inl rfl) nf) ?_
   refine r_gval (v := .rp _ _) (v_fieldAddr_rp fo30_1 (.inl rfl)) rfl rfl rfl (by decide) (.inl ⟨_, rfl, rfl⟩) rfl (by decide) ?_
   refine r_gval (v := .sl _ _) (v_load_rp1 ta22 (.inr ⟨_, rfl, fun h => h⟩) rfl (fun _ => rfl) rfl) rfl rfl rfl (by decide) (.inl ⟨_, rfl, rfl⟩) rfl (by decide) ?_
   refine r_gval (v := .int _ _) (v_move (.inl rfl) nf) rfl rfl rfl (by decide) (.inl ⟨_, rfl, rfl⟩) rfl (by decide) ?_
   refine r_gval (v := .pp _ _) (v_indexAddr_sl es22 (.inr ⟨_, rfl, fun h => h⟩) (.inr ⟨_, rfl, fun h => h⟩) (fun _ => ⟨by omega, by omega, sls_ne hi⟩)) rfl rfl rfl (by decide) (.inl ⟨_, rfl, rfl⟩) rfl (by decide) ?_
   refine r_gval (v := .sl (icells (gl L i)) (gl L i).length) (v_load_pp ta25 (.inr ⟨_, rfl, fun h => h⟩) (fun _ => by rw [Nat.mul_one]; exact sls_get hi) rfl) rfl rfl rfl (by decide) (.inl ⟨_, rfl, rfl⟩) rfl (by decide) ?_
   refine r_gval (v := .sl _ _) (v_move (.inl rfl) nf) rfl rfl rfl (by decide) (.inl ⟨_, rfl, rfl⟩) rfl (by decide) ?_
   refine r_guard (v := .int _ _) (q_call (vs := [.sl _ _, .sl _ _]) (args := [.sl _ _, .sl _ _]) hb68 ⟨.inr ⟨_, rfl, fun h => h⟩, .inr ⟨_, rfl, fun h => h⟩, trivial⟩ rfl (fun hA => sClv_c (gl L i) a (clB_sm hci) (by omega) ha) rfl rfl) rfl rfl rfl (by decide) (.inl ⟨_, rfl, rfl⟩) rfl (by decide) ?_
   refine r_gval (v := .bool _) (v_lss (.inr ⟨_, rfl, fun h => h⟩) (.inl rfl)) rfl rfl rfl (by decide) (.inl ⟨_, rfl, rfl⟩) rfl (by decide) ?_
   refine rv (v := .bool _) (v_pick (.inl rfl) (.inr ⟨_, rfl, fun h h2 => by simp_all⟩) (.inl rfl)) ?_
   refine r_nil ?_
   refine a_cond rfl (fun ht37 => ?_) (fun ht37 => ?_)
   ·
    skip
    refine a_seq ?_
    refine a_region ?_
    refine rv (v := .bool _) (v_assign (.inl rfl) nf) ?_
    refine r_nil ?_
    refine a_ret ?_
    refine ret1 Tryz.results47 (by decide) (by decide) (Weak.of_eq (bool_eq ?_)) rfl Leaves.nil
    unfold alB; rw [List.any_eq_true.2 ⟨i, List.mem_range.2 hi, by rw [← hac]; exact ht37⟩]; simp
   ·
    skip
    refine a_skip ?_
    refine a_region ?_
    refine rv (v := .int _ _) (v_move (.inl rfl) nf) ?_
    refine rv (v := .int _ _) (v_add (.inl rfl) (.inl rfl) (fun _ => by omega)) ?_
    refine rv (v := .int _ _) (v_assign (.inl rfl) nf) ?_
    refine r_nil ?_
    refine ⟨i + 1, ent_look ⟨Weak.of_eq rfl, Weak.of_eq rfl, Weak.of_eq rfl, Weak.of_eq (int_eq (by omega)), trivial⟩, ⟨by omega, ok_stepF (p := fun j => alC (gl L j) w a) g2 (by rw [← hac]; exact ht37)⟩, by omega⟩
  ·
   skip
   refine a_exit ?_
   refine a_seq ?_
   refine a_region ?_
   refine rv (v := .bool _) (v_assign (.inl rfl) nf) ?_
   refine r_nil ?_
   refine a_ret ?_
   refine ret1 Tryz.results47 (by decide) (by decide) (Weak.of_eq (bool_eq ?_)) rfl Leaves.nil
   simp at ht17; unfold alB; rw [List.any_eq_false.2 (fun j hj => by rw [g2 j (by have := List.mem_range.1 hj; omega)]; simp), decide_eq_true (by simpa using ht12)]; rfl
end Go.Av
namespace Go.Av
open Go Go.Proofs Go.Sort
set_option maxRecDepth 10000
theorem hb44 : hasBody Tryz.prog 44 = true := by kernel_rfl
theorem hb65 : hasBody Tryz.prog 65 = true := by kernel_rfl
theorem hb66 : hasBody Tryz.prog 66 = true := by kernel_rfl
theorem same_c (a b : List Int) (ha : a.length ≤ 1048576) (hb : b.length ≤ 1048576) : ACall Tryz.prog 36 [.sl (icells a) a.length, .sl (icells b) b.length] [] (.bool (decide (a = b))) [] := by
 refine ACall.intro Tryz.func36 rfl (N := 26) rfl (by decide) (by simp) ?_
 refine a_seq ?_
 refine a_region ?_
 refine rv (v := .bool _) (v_assign (.inl rfl) nf) ?_
 refine r_nil ?_
 refine a_seq ?_
 refine a_seq ?_
 refine a_region ?_
 refine rv (v := .sl _ _) (v_move (.inl rfl) nf) ?_
 refine rv (v := .int _ _) (v_len_sl sl25 (.inl rfl)) ?_
 refine rv (v := .sl _ _) (v_move (.inl rfl) nf) ?_
 refine rv (v := .int _ _) (v_len_sl sl25 (.inl rfl)) ?_
 refine rv (v := .bool _) (v_neq (.inl rfl) (.inl rfl)) ?_
 refine r_nil ?_
 refine a_cond rfl (fun ht10 => ?_) (fun ht10 => ?_)
 ·
  skip
  refine a_seq ?_
  refine a_region ?_
  refine rv (v := .bool _) (v_assign (.inl rfl) nf) ?_
  refine r_nil ?_
  refine a_ret ?_
  refine ret1 Tryz.results36 (by decide) (by decide) (Weak.of_eq (bool_eq ?_)) rfl Leaves.nil
  exact (decide_eq_false (fun h => by subst h; simp at ht10)).symm
 ·
  skip
  refine a_skip ?_
  refine a_seq ?_
  refine a_seq ?_
  have hlen : a.length = b.length := (by simp at ht10; omega)
  refine a_region ?_
  refine rv (v := .int _ _) (v_assign (.inl rfl) nf) ?_
  refine r_nil ?_
  refine a_block ?_
  refine a_loop (X := Nat) (fun i => look [(0, .sl (icells a) a.length), (1, .sl (icells b) b.length), (5, .int .i64 ((i : Nat) : Int))]) (fun i => i ≤ a.length ∧ ∀ j, j < i → gd a j = gd b j) (fun i => a.length - i) 0 (ent_look ⟨Weak.of_eq rfl, Weak.of_eq rfl, Weak.of_eq rfl, trivial⟩) ⟨Nat.zero_le _, fun j h => by omega⟩ (fun i hG => ?_)
  obtain ⟨g1, g2⟩ := hG
  refine a_seq ?_
  refine a_seq ?_
  refine a_region ?_
  refine rv (v := .int _ _) (v_move (.inl rfl) nf) ?_
  refine rv (v := .sl _ _) (v_move (.inl rfl) nf) ?_
  refine rv (v := .int _ _) (v_len_sl sl25 (.inl rfl)) ?_
  refine rv (v := .bool _) (v_lss (.inl rfl) (.inl rfl)) ?_
  refine r_nil ?_
  refine a_cond rfl (fun ht14 => ?_) (fun ht14 => ?_)
  ·
   skip
   refine a_skip ?_
   refine a_seq ?_
   refine a_block ?_
   refine a_seq ?_
   have hi : i < a.length := (by simp at ht14; omega)
   have hib : i < b.length := (by omega)
   refine a_region_any mixed (by kernel_rfl) ?_
   refine yv (v := .sl _ _) (v_move (.inl rfl) nf) ?_
   refine yv (v := .int _ _) (v_move (.inl rfl) nf) ?_
   refine yv (v := .pp _ _) (v_indexAddr_sl es25 (.inl rfl) (.inl rfl) (fun _ => ⟨by omega, by omega, icells_ne hi⟩)) ?_
   refine yv (v := .int .i64 (gd a i)) (v_load_pp ta3 (.inl rfl) (fun _ => by rw [Nat.mul_one]; exact icells_get (gd_get hi)) rfl) ?_
   refine yv (v := .sl _ _) (v_move (.inl rfl) nf) ?_
   refine yv (v := .int _ _) (v_move (.inl rfl) nf) ?_
   refine yv (v := .pp _ _) (v_indexAddr_sl es25 (.inl rfl) (.inl rfl) (fun _ => ⟨by omega, by omega, icells_ne hib⟩)) ?_
   refine yv (v := .int .i64 (gd b i)) (v_load_pp ta3 (.inl rfl) (fun _ => by rw [Nat.mul_one]; exact icells_get (gd_get hib)) rfl) ?_
   refine yv (v := .bool _) (v_neq (.inl rfl) (.inl rfl)) ?_
   refine y_nil ?_
   refine a_cond rfl (fun ht25 => ?_) (fun ht25 => ?_)
   ·
    skip
    refine a_seq ?_
    refine a_region ?_
    refine rv (v := .bool _) (v_assign (.inl rfl) nf) ?_
    refine r_nil ?_
    refine a_ret ?_
    refine ret1 Tryz.results36 (by decide) (by decide) (Weak.of_eq (bool_eq ?_)) rfl Leaves.nil
    exact (decide_eq_false (fun h => by subst h; simp at ht25)).symm
   ·
    skip
    refine a_skip ?_
    refine a_region ?_
    refine rv (v := .int _ _) (v_move (.inl rfl) nf) ?_
    refine rv (v := .int _ _) (v_add (.inl rfl) (.inl rfl) (fun _ => by omega)) ?_
    refine rv (v := .int _ _) (v_assign (.inl rfl) nf) ?_
    refine r_nil ?_
    refine ⟨i + 1, ent_look ⟨Weak.of_eq rfl, Weak.of_eq rfl, Weak.of_eq (int_eq (by omega)), trivial⟩, ⟨by omega, fun j h1 => by rcases Nat.lt_or_ge j i with h | h; exact g2 j h; (obtain rfl : j = i := by omega); simpa using ht25⟩, by omega⟩
  ·
   skip
   refine a_exit ?_
   refine a_seq ?_
   refine a_region ?_
   refine rv (v := .bool _) (v_assign (.inl rfl) nf) ?_
   refine r_nil ?_
   refine a_ret ?_
   refine ret1 Tryz.results36 (by decide) (by decide) (Weak.of_eq (bool_eq ?_)) rfl Leaves.nil
   simp at ht14; exact (decide_eq_true (ext_gdA hlen (fun j hj => g2 j (by omega)))).symm
theorem equalI_c (a b : List Int) (ha : a.length ≤ 1048576) (hb : b.length ≤ 1048576) : ACall Tryz.prog 66 [.sl (icells a) a.length, .sl (icells b) b.length] [] (.bool (decide (a = b))) [] := by
 refine ACall.intro Tryz.func66 rfl (N := 26) rfl (by decide) (by simp) ?_
 refine a_seq ?_
 refine a_region ?_
 refine rv (v := .bool _) (v_assign (.inl rfl) nf) ?_
 refine r_nil ?_
 refine a_seq ?_
 refine a_seq ?_
 refine a_region ?_
 refine rv (v := .sl _ _) (v_move (.inl rfl) nf) ?_
 refine rv (v := .int _ _) (v_len_sl sl25 (.inl rfl)) ?_
 refine rv (v := .sl _ _) (v_move (.inl rfl) nf) ?_
 refine rv (v := .int _ _) (v_len_sl sl25 (.inl rfl)) ?_
 refine rv (v := .bool _) (v_neq (.inl rfl) (.inl rfl)) ?_
 refine r_nil ?_
 refine a_cond rfl (fun ht10 => ?_) (fun ht10 => ?_)
 ·
  skip
  refine a_seq ?_
  refine a_region ?_
  refine rv (v := .bool _) (v_assign (.inl rfl) nf) ?_
  refine r_nil ?_
  refine a_ret ?_
  refine ret1 Tryz.results66 (by decide) (by decide) (Weak.of_eq (bool_eq ?_)) rfl Leaves.nil
  exact (decide_eq_false (fun h => by subst h; simp at ht10)).symm
 ·
  skip
  refine a_skip ?_
  refine a_seq ?_
  refine a_seq ?_
  have hlen : a.length = b.length := (by simp at ht10; omega)
  refine a_region ?_
  refine rv (v := .sl _ _) (v_move (.inl rfl) nf) ?_
  refine rv (v := .int _ _) (v_len_sl sl25 (.inl rfl)) ?_
  refine rv (v := .int _ _) (v_move (.inl rfl) nf) ?_
  refine r_nil ?_
  refine a_block ?_
  refine a_loop (X := Nat) (fun i => look [(0, .sl (icells a) a.length), (1, .sl (icells b) b.length), (12, .int .i64 ((a.length : Nat) : Int)), (13, .int .i64 ((i : Nat) : Int))]) (fun i => i ≤ a.length ∧ ∀ j, j < i → gd a j = gd b j) (fun i => a.length - i) 0 (ent_look ⟨Weak.of_eq rfl, Weak.of_eq rfl, Weak.of_eq rfl, Weak.of_eq rfl, trivial⟩) ⟨Nat.zero_le _, fun j h => by omega⟩ (fun i hG => ?_)
  obtain ⟨g1, g2⟩ := hG
  refine a_seq ?_
  refine a_region ?_
  refine rv (v := .bool _) (v_lss (.inl rfl) (.inl rfl)) ?_
  refine r_nil ?_
  refine a_seq ?_
  refine a_cond rfl (fun ht14 => ?_) (fun ht14 => ?_)
  ·
   skip
   refine a_skip ?_
   refine a_seq ?_
   refine a_block ?_
   refine a_seq ?_
   have hi : i < a.length := (by simp at ht14; omega)
   have hib : i < b.length := (by omega)
   refine a_region ?_
   refine rv (v := .int _ _) (v_move (.inl rfl) nf) ?_
   refine rv (v := .int _ _) (v_assign (.inl rfl) nf) ?_
   refine r_nil ?_
   refine a_seq ?_
   refine a_region_any mixed (by kernel_rfl) ?_
   refine yv (v := .sl _ _) (v_move (.inl rfl) nf) ?_
   refine yv (v := .int _ _) (v_move (.inl rfl) nf) ?_
   refine yv (v := .pp _ _) (v_indexAddr_sl es25 (.inl rfl) (.inl rfl) (fun _ => ⟨by omega, by omega, icells_ne hi⟩)) ?_
   refine yv (v := .int .i64 (gd a i)) (v_load_pp ta3 (.inl rfl) (fun _ => by rw [Nat.mul_one]; exact icells_get (gd_get hi)) rfl) ?_
   refine yv (v := .sl _ _) (v_move (.inl rfl) nf) ?_
   refine yv (v := .int _ _) (v_move (.inl rfl) nf) ?_
   refine yv (v := .pp _ _) (v_indexAddr_sl es25 (.inl rfl) (.inl rfl) (fun _ => ⟨by omega, by omega, icells_ne hib⟩)) ?_
   refine yv (v := .int .i64 (gd b i)) (v_load_pp ta3 (.inl rfl) (fun _ => by rw [Nat.mul_one]; exact icells_get (gd_get hib)) rfl) ?_
   refine yv (v := .bool _) (v_neq (.inl rfl) (.inl rfl)) ?_
   refine y_nil ?_
   refine a_cond rfl (fun ht24 => ?_) (fun ht24 => ?_)
   ·
    skip
    refine a_seq ?_
    refine a_region ?_
    refine rv (v := .bool _) (v_assign (.inl rfl) nf) ?_
    refine r_nil ?_
    refine a_ret ?_
    refine ret1 Tryz.results66 (by decide) (by decide) (Weak.of_eq (bool_eq ?_)) rfl Leaves.nil
    exact (decide_eq_false (fun h => by subst h; simp at ht24)).symm
   ·
    skip
    refine a_skip ?_
    refine a_region ?_
    refine rv (v := .int _ _) (v_add (.inl rfl) (.inl rfl) (fun _ => by omega)) ?_
    refine rv (v := .int _ _) (v_move (.inl rfl) nf) ?_
    refine r_nil ?_
    refine ⟨i + 1, ent_look ⟨Weak.of_eq rfl, Weak.of_eq rfl, Weak.of_eq rfl, Weak.of_eq (int_eq (by omega)), trivial⟩, ⟨by omega, fun j h1 => by rcases Nat.lt_or_ge j i with h | h; exact g2 j h; (obtain rfl : j = i := by omega); simpa using ht24⟩, by omega⟩
  ·
   skip
   refine a_exit ?_
   refine a_seq ?_
   refine a_region ?_
   refine rv (v := .bool _) (v_assign (.inl rfl) nf) ?_
   refine r_nil ?_
   refine a_ret ?_
   refine ret1 Tryz.results66 (by decide) (by decide) (Weak.of_eq (bool_eq ?_)) rfl Leaves.nil
   simp at ht14; exact (decide_eq_true (ext_gdA hlen (fun j hj => g2 j (by omega)))).symm
theorem indexOf1_c (b a : List Int) (hb : b.length ≤ 1048576) (ha : a.length ≤ 1048576) : ACall Tryz.prog 65 [.sl (icells b) b.length, .pp [.sl (icells a) a.length] 0] [] (.bool (decide (a = b))) [] := by
 refine ACall.intro Tryz.func65 rfl (N := 7) rfl (by decide) (by simp) ?_
 refine a_seq ?_
 refine a_region ?_
 refine rv (v := .bool _) (v_assign (.inl rfl) nf) ?_
 refine r_nil ?_
 refine a_seq ?_
 refine a_region ?_
 refine rv (v := .sl _ _) (v_load_pp ta25 (.inl rfl) (fun _ => rfl) rfl) ?_
 refine rv (v := .sl _ _) (v_move (.inl rfl) nf) ?_
 refine rn (v := .bool _) (q_call (vs := [.sl _ _, .sl _ _]) (args := [.sl _ _, .sl _ _]) hb66 ⟨.inl rfl, .inl rfl, trivial⟩ rfl (fun hA => equalI_c a b ha hb) rfl rfl) ?_
 refine rv (v := .bool _) (v_assign (.inl rfl) nf) ?_
 refine r_nil ?_
 refine a_ret ?_
 refine ret1 Tryz.results65 (by decide) (by decide) (Weak.of_eq (bool_eq ?_)) rfl Leaves.nil
 rfl
theorem indexOf_c (L : List (List Int)) (a : List Int) (hl : ∀ i, (gl L i).length ≤ 1048576) (hL : L.length ≤ 1048576) (ha : a.length ≤ 1048576) : ACall Tryz.prog 44 [.sl (sls L) L.length, .sl (icells a) a.length] [] (.int .i64 (fidx (fun i => decide (a = gl L i)) L.length)) [] := by
 have hbI := hb65
 refine ACall.intro Tryz.func44 rfl (N := 8) rfl (by decide) (by simp) ?_
 refine a_seq ?_
 refine a_region ?_
 refine rn (v := .op [.sl _ _]) (q_box (.inl rfl) rfl rfl) ?_
 refine rv (v := .int _ _) (v_assign (.inl rfl) nf) ?_
 refine r_nil ?_
 refine a_seq ?_
 refine a_region ?_
 refine rv (v := .sl _ _) (v_move (.inl rfl) nf) ?_
 refine rv (v := .fn _ _ _) (v_makeFunc (first := []) (caps := [.tmp 3]) rfl rfl) ?_
 refine rn (v := .int _ _) (q_call (vs := [.sl _ _, .fn _ _ _]) (args := [.sl _ _, .fn _ _ _]) hb64 ⟨.inl rfl, .inl rfl, trivial⟩ rfl (fun hA => idxL_c 65 [.pp [.sl (icells a) a.length] 0] hbI rfl L (fun i => decide (a = gl L i)) (by omega) (fun i hi => indexOf1_c (gl L i) a (hl i) ha)) rfl rfl) ?_
 refine rv (v := .int _ _) (v_assign (.inl rfl) nf) ?_
 refine r_nil ?_
 refine a_ret ?_
 refine ret1 Tryz.results44 (by decide) (by decide) (Weak.of_eq (int_eq ?_)) rfl Leaves.nil
 rfl
theorem hasList_c (L : List (List Int)) (a : List Int) (hl : ∀ i, (gl L i).length ≤ 1048576) (hL : L.length ≤ 1048576) (ha : a.length ≤ 1048576) : ACall Tryz.prog 27 [.sl (sls L) L.length, .sl (icells a) a.length] [] (.bool (decide (0 ≤ fidx (fun i => decide (a = gl L i)) L.length))) [] := by
 refine ACall.intro Tryz.func27 rfl (N := 9) rfl (by decide) (by simp) ?_
 refine a_seq ?_
 refine a_region ?_
 refine rv (v := .bool _) (v_assign (.inl rfl) nf) ?_
 refine r_nil ?_
 refine a_seq ?_
 refine a_region ?_
 refine rv (v := .sl _ _) (v_move (.inl rfl) nf) ?_
 refine rv (v := .sl _ _) (v_move (.inl rfl) nf) ?_
 refine rn (v := .int _ _) (q_call (vs := [.sl _ _, .sl _ _]) (args := [.sl _ _, .sl _ _]) hb44 ⟨.inl rfl, .inl rfl, trivial⟩ rfl (fun hA => indexOf_c L a hl hL ha) rfl rfl) ?_
 refine rv (v := .bool _) (v_geq (.inl rfl) (.inl rfl)) ?_
 refine rv (v := .bool _) (v_assign (.inl rfl) nf) ?_
 refine r_nil ?_
 refine a_ret ?_
 refine ret1 Tryz.results27 (by decide) (by decide) (Weak.of_eq (bool_eq ?_)) rfl Leaves.nil
 rfl
end Go.Av
namespace Go.Av
open Go Go.Proofs Go.Sort
set_option maxRecDepth 10000
theorem fopen_c (vs a : List Int) (hs : SmI vs) (hvl : vs.length ≤ 1048576) (ha : a.length ≤ 1048576) : ACall Tryz.prog 25 [.sl (icells vs) vs.length, .sl (icells a) a.length] [] (.int .i64 (fopen vs a)) [] := by
 refine ACall.intro Tryz.func25 rfl (N := 26) rfl (by decide) (by simp) ?_
 refine a_seq ?_
 refine a_region ?_
 refine rv (v := .int _ _) (v_assign (.inl rfl) nf) ?_
 refine r_nil ?_
 refine a_seq ?_
 refine a_seq ?_
 refine a_region ?_
 refine rv (v := .sl _ _) (v_move (.inl rfl) nf) ?_
 refine rv (v := .int _ _) (v_len_sl sl25 (.inl rfl)) ?_
 refine rv (v := .int _ _) (v_move (.inl rfl) nf) ?_
 refine r_nil ?_
 refine a_block ?_
 refine a_loop (X := Nat) (fun i => look [(1, .sl (icells a) a.length), (7, .sl (icells vs) vs.length), (8, .int .i64 ((vs.length : Nat) : Int)), (9, .int .i64 ((i : Nat) : Int))]) (fun i => i ≤ vs.length ∧ ∀ j, j < i → opB a (gd vs j) = false) (fun i => vs.length - i) 0 (ent_look ⟨Weak.of_eq rfl, Weak.of_eq rfl, Weak.of_eq rfl, Weak.of_eq rfl, trivial⟩) ⟨Nat.zero_le _, fun j h => by omega⟩ (fun i hG => ?_)
 obtain ⟨g1, g2⟩ := hG
 have hsi := hs i
 refine a_seq ?_
 refine a_region ?_
 refine rv (v := .bool _) (v_lss (.inl rfl) (.inl rfl)) ?_
 refine r_nil ?_
 refine a_seq ?_
 refine a_cond rfl (fun ht10 => ?_) (fun ht10 => ?_)
 ·
  skip
  refine a_skip ?_
  refine a_seq ?_
  refine a_block ?_
  refine a_seq ?_
  have hi : i < vs.length := (by simp at ht10; omega)
  refine a_region ?_
  refine rv (v := .pp _ _) (v_indexAddr_sl es25 (.inl rfl) (.inl rfl) (fun _ => ⟨by omega, by omega, icells_ne hi⟩)) ?_
  refine rv (v := .int .i64 (gd vs i)) (v_load_pp ta3 (.inl rfl) (fun _ => by rw [Nat.mul_one]; exact icells_get (gd_get hi)) rfl) ?_
  refine rv (v := .int _ _) (v_assign (.inl rfl) nf) ?_
  refine r_nil ?_
  refine a_seq ?_
  have hob : (bif !decide ((gd vs i) ∈ a) then !decide (-(gd vs i) ∈ a) else false) = opB a (gd vs i) := (by unfold opB; cases decide ((gd vs i) ∈ a) <;> simp)
  refine a_region ?_
  refine rv (v := .sl _ _) (v_move (.inl rfl) nf) ?_
  refine rv (v := .int _ _) (v_move (.inl rfl) nf) ?_
  refine rn (v := .bool _) (q_call (vs := [.sl _ _, .int _ _]) (args := [.sl _ _, .int .i64 _]) hb40 ⟨.inl rfl, .inl rfl, trivial⟩ rfl (fun hA => contains_c _ _ (by omega)) rfl rfl) ?_
  refine rv (v := .bool _) (v_not (.inl rfl)) ?_
  refine rv (v := .bool _) (v_move (.inl rfl) nf) ?_
  refine r_gval (v := .sl _ _) (v_move (.inl rfl) nf) rfl rfl rfl (by decide) (.inl ⟨_, rfl, rfl⟩) rfl (by decide) ?_
  refine r_gval (v := .int _ _) (v_move (.inl rfl) nf) rfl rfl rfl (by decide) (.inl ⟨_, rfl, rfl⟩) rfl (by decide) ?_
  refine r_gval (v := .int _ _) (v_neg (.inr ⟨_, rfl, fun h => h⟩) (fun _ => by omega)) rfl rfl rfl (by decide) (.inl ⟨_, rfl, rfl⟩) rfl (by decide) ?_
  refine r_guard (v := .bool _) (q_call (vs := [.sl _ _, .int _ _]) (args := [.sl _ _, .int .i64 _]) hb40 ⟨.inr ⟨_, rfl, fun h => h⟩, .inr ⟨_, rfl, fun h => h⟩, trivial⟩ rfl (fun hA => contains_c _ _ (by omega)) rfl rfl) rfl rfl rfl (by decide) (.inl ⟨_, rfl, rfl⟩) rfl (by decide) ?_
  refine r_gval (v := .bool _) (v_not (.inr ⟨_, rfl, fun h => h⟩)) rfl rfl rfl (by decide) (.inl ⟨_, rfl, rfl⟩) rfl (by decide) ?_
  refine rv (v := .bool _) (v_pick (.inl rfl) (.inr ⟨_, rfl, fun h h2 => by simp_all⟩) (.inl rfl)) ?_
  refine r_nil ?_
  refine a_cond rfl (fun ht23 => ?_) (fun ht23 => ?_)
  ·
   skip
   refine a_seq ?_
   refine a_region ?_
   refine rv (v := .int _ _) (v_move (.inl rfl) nf) ?_
   refine rv (v := .int _ _) (v_assign (.inl rfl) nf) ?_
   refine r_nil ?_
   refine a_ret ?_
   refine ret1 Tryz.results25 (by decide) (by decide) (Weak.of_eq (int_eq ?_)) rfl Leaves.nil
   exact (fopen_found hi (by rw [← hob]; exact ht23) g2).symm
  ·
   skip
   refine a_skip ?_
   refine a_region ?_
   refine rv (v := .int _ _) (v_add (.inl rfl) (.inl rfl) (fun _ => by omega)) ?_
   refine rv (v := .int _ _) (v_move (.inl rfl) nf) ?_
   refine r_nil ?_
   refine ⟨i + 1, ent_look ⟨Weak.of_eq rfl, Weak.of_eq rfl, Weak.of_eq rfl, Weak.of_eq (int_eq (by omega)), trivial⟩, ⟨by omega, ok_stepF (p := fun j => opB a (gd vs j)) g2 (by rw [← hob]; exact ht23)⟩, by omega⟩
 ·
  skip
  refine a_exit ?_
  refine a_seq ?_
  refine a_region ?_
  refine rv (v := .int _ _) (v_assign (.inl rfl) nf) ?_
  refine r_nil ?_
  refine a_ret ?_
  refine ret1 Tryz.results25 (by decide) (by decide) (Weak.of_eq (int_eq ?_)) rfl Leaves.nil
  simp at ht10; exact (fopen_none (fun j hj => g2 j (by omega))).symm
theorem key2_c (l : Int) (h : -1000000 ≤ l ∧ l ≤ 1000000) : ACall Tryz.prog 69 [.int .i64 l] [] (.int .i64 (keyL l)) [] := by
 refine ACall.intro Tryz.func69 rfl (N := 10) rfl (by decide) (by simp) ?_
 refine a_seq ?_
 refine a_region ?_
 refine rv (v := .int _ _) (v_assign (.inl rfl) nf) ?_
 refine r_nil ?_
 refine a_seq ?_
 refine a_seq ?_
 refine a_region ?_
 refine rv (v := .int _ _) (v_move (.inl rfl) nf) ?_
 refine rv (v := .bool _) (v_lss (.inl rfl) (.inl rfl)) ?_
 refine r_nil ?_
 refine a_cond rfl (fun ht4 => ?_) (fun ht4 => ?_)
 ·
  skip
  refine a_seq ?_
  refine a_region ?_
  refine rv (v := .int _ _) (v_move (.inl rfl) nf) ?_
  refine rv (v := .int _ _) (v_mul (.inl rfl) (.inl rfl) (fun _ => by omega)) ?_
  refine rv (v := .int _ _) (v_add (.inl rfl) (.inl rfl) (fun _ => by omega)) ?_
  refine rv (v := .int _ _) (v_assign (.inl rfl) nf) ?_
  refine r_nil ?_
  refine a_ret ?_
  refine ret1 Tryz.results69 (by decide) (by decide) (Weak.of_eq (int_eq ?_)) rfl Leaves.nil
  unfold keyL; rw [if_pos (by simpa using ht4)]
 ·
  skip
  refine a_skip ?_
  refine a_seq ?_
  refine a_region ?_
  refine rv (v := .int _ _) (v_move (.inl rfl) nf) ?_
  refine rv (v := .int _ _) (v_mul (.inl rfl) (.inl rfl) (fun _ => by omega)) ?_
  refine rv (v := .int _ _) (v_assign (.inl rfl) nf) ?_
  refine r_nil ?_
  refine a_ret ?_
  refine ret1 Tryz.results69 (by decide) (by decide) (Weak.of_eq (int_eq ?_)) rfl Leaves.nil
  unfold keyL; rw [if_neg (by simpa using ht4)]
end Go.Av
namespace Go.Av
open Go Go.Proofs Go.Sort
set_option maxRecDepth 10000
theorem es57 : elemSize Tryz.prog 57 = some 1 := by kernel_rfl
theorem hb82 : hasBody Tryz.prog 82 = true := by kernel_rfl
theorem sb4 : (Tryz.prog.info? 4).map (fun i => (i.size, i.bytes)) = some (1, 1) := by kernel_rfl
theorem ta4 : tyAgg Tryz.prog 4 = some (false, 1) := by kernel_rfl
theorem us57 : Tryz.prog.underlying 57 = some (.slice 4) := by kernel_rfl
theorem zc4 : zeroCells Tryz.prog 4 = some [.bool false] := by kernel_rfl
theorem marks_c (vars : Int) (L M : List (List Int)) (hv : 0 ≤ vars ∧ vars ≤ 6) (hM : ∀ i, i < M.length → clB vars (gl M i) = true) (hMl : M.length ≤ 1048576) : ACall Tryz.prog 55 [.agg [.int .i64 vars, .sl (sls L) L.length], .sl (sls M) M.length] [] (.osl 1 (blcells (mkB vars.toNat M M.length)) (3 ^ vars.toNat) none) [] := by
 have hpb := pow3_bd (k := vars.toNat) (by omega)
 refine ACall.intro Tryz.func55 rfl (N := 24) rfl (by decide) (by simp) ?_
 refine a_seq ?_
 refine a_region ?_
 refine rn (v := .op [.int _ _, .sl _ _]) (q_box (.inl rfl) rfl rfl) ?_
 refine rv (v := .nils) (v_assign (.inl rfl) nf) ?_
 refine r_nil ?_
 refine a_seq ?_
 refine a_region ?_
 refine rv (v := .rp _ _) (v_fieldAddr_rp fo30_0 (.inl rfl)) ?_
 refine rv (v := .int .i64 ((vars.toNat : Nat) : Int)) ((v_load_rp1 ta3 (.inl rfl) rfl (fun _ => rfl) rfl).cast (int_eq (by omega))) ?_
 refine rn (v := .int _ _) (q_call (vs := [.int _ _]) (args := [.int .i64 _]) hb81 ⟨.inl rfl, trivial⟩ rfl (fun hA => pow3_c vars.toNat (by omega)) rfl rfl) ?_
 refine rn (v := .osl _ _ _ _) (q_makeSlice us57 sb4 zc4 rfl (by decide) (.inl rfl) (.inl rfl) (fun _ => by omega)) ?_
 refine r_pre (ent_eq (t := 11) (v' := .osl 1 (blcells (List.replicate (3 ^ vars.toNat) false)) (3 ^ vars.toNat) none) (Weak.osl (bl_rep _).symm rfl)) ?_
 refine rv (v := .rsl _ _ _ _ _) (v_assign (.inl rfl) nf) ?_
 refine r_pre (ent_reloc_sl (t := 5) rfl rfl) ?_
 refine r_nil ?_
 refine a_seq ?_
 refine a_seq ?_
 refine a_region ?_
 refine rv (v := .sl _ _) (v_move (.inl rfl) nf) ?_
 refine rv (v := .int _ _) (v_len_sl sl22 (.inl rfl)) ?_
 refine rv (v := .int _ _) (v_move (.inl rfl) nf) ?_
 refine r_nil ?_
 refine a_block ?_
 refine a_loop (X := Nat) (fun i => look [(5, .osl 1 (blcells (mkB vars.toNat M i)) (3 ^ vars.toNat) none), (12, .sl (sls M) M.length), (13, .int .i64 ((M.length : Nat) : Int)), (14, .int .i64 ((i : Nat) : Int))]) (fun i => i ≤ M.length) (fun i => M.length - i) 0 (ent_look ⟨Weak.osl rfl rfl, Weak.of_eq rfl, Weak.of_eq rfl, Weak.of_eq rfl, trivial⟩) (Nat.zero_le _) (fun i hG => ?_)
 have hml := mkB_len vars.toNat M i
 refine a_seq ?_
 refine a_region ?_
 refine rv (v := .bool _) (v_lss (.inl rfl) (.inl rfl)) ?_
 refine r_nil ?_
 refine a_seq ?_
 refine a_cond rfl (fun ht15 => ?_) (fun ht15 => ?_)
 ·
  skip
  refine a_skip ?_
  refine a_seq ?_
  refine a_block ?_
  refine a_seq ?_
  have hi : i < M.length := (by simp at ht15; omega)
  have hci := hM i hi
  have hlt := codeA_cl hci
  refine a_region ?_
  refine rv (v := .pp _ _) (v_indexAddr_sl es22 (.inl rfl) (.inl rfl) (fun _ => ⟨by omega, by omega, sls_ne hi⟩)) ?_
  refine rv (v := .sl (icells (gl M i)) (gl M i).length) (v_load_pp ta25 (.inl rfl) (fun _ => by rw [Nat.mul_one]; exact sls_get hi) rfl) ?_
  refine rv (v := .sl _ _) (v_assign (.inl rfl) nf) ?_
  refine r_nil ?_
  have hp1 : (codeA (gl M i)) * 1 + 1 ≤ (blcells (mkB vars.toNat M i)).length := (by rw [bl_len, hml]; omega)
  have hs1 : (blcells (mkB vars.toNat M i)).set ((codeA (gl M i)) * 1) (.bool true) = blcells ((mkB vars.toNat M i).set (codeA (gl M i)) true) := (by rw [Nat.mul_one, bl_set])
  refine a_region ?_
  refine rv (v := .rsl _ _ _ _ _) (v_move (.inl rfl) nf) ?_
  refine rv (v := .sl _ _) (v_move (.inl rfl) nf) ?_
  refine rn (v := .int _ _) (q_call (vs := [.sl _ _]) (args := [.sl _ _]) hb82 ⟨.inl rfl, trivial⟩ rfl (fun hA => codeOf_c vars (gl M i) hci) rfl rfl) ?_
  refine rv (v := .rp _ _) (v_indexAddr_rsl0 es57 (.inl rfl) (.inl rfl) (fun _ => by omega)) ?_
  refine r_step rfl (o_store (v := .bool _) (y' := .osl _ _ _ _) rfl rfl ta4 (.inl rfl) (.inl rfl) rfl rfl rfl rfl rfl rfl hp1 (by decide) rfl (congrArg (fun c => AV.osl 1 c (3 ^ vars.toNat) none) hs1)) ?_
  refine r_nil ?_
  refine a_region ?_
  refine rv (v := .int _ _) (v_add (.inl rfl) (.inl rfl) (fun _ => by omega)) ?_
  refine rv (v := .int _ _) (v_move (.inl rfl) nf) ?_
  refine r_nil ?_
  refine ⟨i + 1, ent_look ⟨Weak.osl rfl rfl, Weak.of_eq rfl, Weak.of_eq rfl, Weak.of_eq (int_eq (by omega)), trivial⟩, by omega, by omega⟩
 ·
  skip
  refine a_exit ?_
  refine a_seq ?_
  refine a_region ?_
  refine rv (v := .rsl _ _ _ _ _) (v_move (.inl rfl) nf) ?_
  refine rv (v := .rsl _ _ _ _ _) (v_assign (.inl rfl) nf) ?_
  refine r_pre (ent_reloc_sl (t := 4) rfl rfl) ?_
  refine r_nil ?_
  refine a_ret ?_
  refine ret1 Tryz.results55 (by decide) (by decide) (Weak.osl ?_ ?_) rfl Leaves.nil
  all_goals (simp at ht15; first | rfl | rw [show i = M.length by omega])
end Go.Av
namespace Go.Av
open Go Go.Proofs Go.Sort
set_option maxRecDepth 10000
theorem hb25 : hasBody Tryz.prog 25 = true := by kernel_rfl
theorem hb91 : hasBody Tryz.prog 91 = true := by kernel_rfl
theorem hb92 : hasBody Tryz.prog 92 = true := by kernel_rfl
theorem upTo9_c (n : Int) (hn : 0 ≤ n ∧ n ≤ 12) : ACall Tryz.prog 91 [.int .i64 n] [] (.osl 1 (icells (upL n)) (upL n).length none) [] := by
 refine ACall.intro Tryz.func91 rfl (N := 15) rfl (by decide) (by simp) ?_
 refine a_seq ?_
 refine a_region ?_
 refine rv (v := .nils) (v_assign (.inl rfl) nf) ?_
 refine r_nil ?_
 refine a_seq ?_
 refine a_region ?_
 refine rv (v := .nils) (v_assign (.inl rfl) nf) ?_
 refine r_nil ?_
 refine a_seq ?_
 refine a_seq ?_
 refine a_region ?_
 refine rv (v := .int _ _) (v_assign (.inl rfl) nf) ?_
 refine r_nil ?_
 refine a_block ?_
 refine a_pre (ent_nil (t := 3) (sz := 1) (cap := none) (.inl rfl) (fun _ h => by cases h)) ?_
 refine a_loop (X := Nat) (fun k => look [(0, .int .i64 n), (3, .osl 1 (icells (upP k)) (upP k).length none), (4, .int .i64 ((k + 1 : Nat) : Int))]) (fun k => (k : Int) ≤ n) (fun k => n.toNat - k) 0 (ent_look ⟨Weak.of_eq rfl, Weak.osl rfl rfl, Weak.of_eq rfl, trivial⟩) (by omega) (fun k hG => ?_)
 have hul := upP_len k
 refine a_seq ?_
 refine a_seq ?_
 refine a_region ?_
 refine rv (v := .int _ _) (v_move (.inl rfl) nf) ?_
 refine rv (v := .int _ _) (v_move (.inl rfl) nf) ?_
 refine rv (v := .bool _) (v_leq (.inl rfl) (.inl rfl)) ?_
 refine r_nil ?_
 refine a_cond rfl (fun ht7 => ?_) (fun ht7 => ?_)
 ·
  skip
  refine a_skip ?_
  refine a_seq ?_
  refine a_block ?_
  have hi : ((k + 1 : Nat) : Int) ≤ n := (by simpa using ht7)
  refine a_region ?_
  refine rv (v := .rsl _ _ _ _ _) (v_move (.inl rfl) nf) ?_
  refine rv (v := .int _ _) (v_move (.inl rfl) nf) ?_
  refine rn (v := .osl 1 (icells [((k + 1 : Nat) : Int)]) 1 (some 1)) (q_sliceLit (n := 1) (parts := [(0, .tmp 11)]) lt25 rfl rfl rfl rfl) ?_
  refine r_pre (ent_reloc_sl (t := 10) rfl rfl) ?_
  refine r_step rfl (o_append rfl ap25 rfl (by decide) (by decide) rfl (src_lit (.inl rfl) rfl rfl (ic_pureL _)) (ic_cell _) (by rw [icells_length]; omega) (by omega)) ?_
  refine rv (v := .rsl _ _ _ _ _) (v_assign (.inl rfl) nf) ?_
  refine r_pre (ent_reloc_sl (t := 3) rfl rfl) ?_
  refine r_nil ?_
  refine a_region ?_
  refine rv (v := .int _ _) (v_move (.inl rfl) nf) ?_
  refine rv (v := .int _ _) (v_add (.inl rfl) (.inl rfl) (fun _ => by omega)) ?_
  refine rv (v := .int _ _) (v_assign (.inl rfl) nf) ?_
  refine r_nil ?_
  refine ⟨k + 1, ent_look ⟨Weak.of_eq rfl, Weak.osl (by rw [upP_succ, icells_append] <;> rfl) (by rw [upP_succ]; simp), Weak.of_eq (int_eq (by omega)), trivial⟩, by omega, by omega⟩
 ·
  skip
  refine a_exit ?_
  refine a_seq ?_
  refine a_region ?_
  refine rv (v := .rsl _ _ _ _ _) (v_move (.inl rfl) nf) ?_
  refine rv (v := .rsl _ _ _ _ _) (v_assign (.inl rfl) nf) ?_
  refine r_pre (ent_reloc_sl (t := 2) rfl rfl) ?_
  refine r_nil ?_
  refine a_ret ?_
  refine ret1 Tryz.results91 (by decide) (by decide) (Weak.osl ?_ ?_) rfl Leaves.nil
  all_goals (rw [upL_eq (n := n) (.inl (by simp at ht7; omega))])
theorem openV1_c (v : Int) (a : List Int) (hv : 1 ≤ v ∧ v ≤ 12) (ha : a.length ≤ 1048576) : ACall Tryz.prog 92 [.int .i64 v, .pp [.sl (icells a) a.length] 0] [] (.bool (!opB a v)) [] := by
 refine ACall.intro Tryz.func92 rfl (N := 9) rfl (by decide) (by simp) ?_
 refine a_seq ?_
 refine a_region ?_
 refine rv (v := .bool _) (v_assign (.inl rfl) nf) ?_
 refine r_nil ?_
 refine a_seq ?_
 refine a_region ?_
 refine rv (v := .int _ _) (v_move (.inl rfl) nf) ?_
 refine rn (v := .osl 1 (icells [v]) 1 (some 1)) (q_sliceLit (n := 1) (parts := [(0, .tmp 4)]) lt25 rfl rfl rfl rfl) ?_
 refine rv (v := .sl _ _) (v_load_pp ta25 (.inl rfl) (fun _ => rfl) rfl) ?_
 refine rn (v := .int _ _) (q_call (vs := [.rsl _ _ _ _ _, .sl _ _]) (args := [.sl _ _, .sl _ _]) hb25 ⟨.inl rfl, .inl rfl, trivial⟩ (l2_eq (sl_sh (ic_pure _)) rfl) (fun hA => fopen_c [v] a (sm_one hv) (by simp) (by omega)) rfl rfl) ?_
 refine rv (v := .bool _) (v_eql (.inl rfl) (.inl rfl)) ?_
 refine rv (v := .bool _) (v_assign (.inl rfl) nf) ?_
 refine r_nil ?_
 refine a_ret ?_
 refine ret1 Tryz.results92 (by decide) (by decide) (Weak.of_eq (bool_eq ?_)) rfl Leaves.nil
 exact fopen_one hv
theorem openVars_c (n : Int) (a : List Int) (hn : 0 ≤ n ∧ n ≤ 12) (ha : a.length ≤ 1048576) : ACall Tryz.prog 84 [.int .i64 n, .sl (icells a) a.length] [] (.osl 1 (icells (opensL n a)) (opensL n a).length none) [] := by
 have hbO := hb92
 have hul := upL_len hn
 refine ACall.intro Tryz.func84 rfl (N := 9) rfl (by decide) (by simp) ?_
 refine a_seq ?_
 refine a_region ?_
 refine rn (v := .op [.sl _ _]) (q_box (.inl rfl) rfl rfl) ?_
 refine rv (v := .nils) (v_assign (.inl rfl) nf) ?_
 refine r_nil ?_
 refine a_seq ?_
 refine a_region ?_
 refine rv (v := .int _ _) (v_move (.inl rfl) nf) ?_
 refine rn (v := .osl _ _ _ _) (q_call (vs := [.int _ _]) (args := [.int .i64 _]) hb91 ⟨.inl rfl, trivial⟩ rfl (fun hA => upTo9_c n hn) (ic_noSh _) (ic_noRef _)) ?_
 refine rv (v := .fn _ _ _) (v_makeFunc (first := []) (caps := [.tmp 3]) rfl rfl) ?_
 refine r_step rfl (o_callIO (q := (6, [])) (vs := [.rsl _ _ _ _ _, .fn _ _ _]) (args := [.rsl (INH, []) _ _ _ _, .fn _ _ _]) (x0 := .osl _ _ _ _) (x1 := .undef) (res := .osl _ _ _ _) rfl hb61 rfl (by decide) ⟨.inl rfl, .inl rfl, trivial⟩ rfl rfl (del_c 92 [.pp [.sl (icells a) a.length] 0] hbO rfl (upL n) _ (fun v => !opB a v) ⟨rfl, by omega⟩ (fun i hi => openV1_c _ a (upL_gd hn hi) ha)) rfl (ic_noSh _) (ic_noRef _) rfl rfl (Nat.le_of_ble_eq_true rfl) (by decide) rfl) ?_
 refine rv (v := .rsl _ _ _ _ _) (v_assign (.inl rfl) nf) ?_
 refine r_pre (ent_reloc_sl (t := 4) rfl rfl) ?_
 refine r_nil ?_
 refine a_ret ?_
 refine ret1 Tryz.results84 (by decide) (by decide) (Weak.osl ?_ ?_) rfl Leaves.nil
 all_goals rfl
end Go.Av
namespace Go.Av
open Go
theorem erase_wo : ∀ {c : List Int} {i : Nat}, Strict c → i < c.length → c.eraseIdx i = woS c (vr (gd c i))
  | [], i, _, h => by simp at h
  | x :: c, 0, hs, _ => by
    unfold Strict at hs
    rw [List.pairwise_cons] at hs
    have hg : gd (x :: c) 0 = x := rfl
    rw [hg]
    unfold woS
    rw [List.eraseIdx_cons_zero, List.filter_cons_of_neg (by simp), List.filter_eq_self.2]
    intro y hy
    have := hs.1 y hy
    simp; omega
  | x :: c, i + 1, hs, h => by
    have hs' := hs
    unfold Strict at hs
    rw [List.pairwise_cons] at hs
    have hg : gd (x :: c) (i + 1) = gd c i := rfl
    rw [hg, List.eraseIdx_cons_succ, erase_wo hs.2 (by simpa using h)]
    unfold woS
    have hlt := hs.1 _ (gd_mem (c := c) (j := i) (by simpa using h))
    rw [List.filter_cons_of_pos (by simp; omega)]
theorem erase_take (c : List Int) (i : Nat) : c.eraseIdx i = c.take i ++ c.drop (i + 1) := by rw [List.eraseIdx_eq_take_drop_succ]
theorem setL_move {c : List Int} {i : Nat} (h : i < c.length) : setL (icells c) i (((icells c).drop (i + 1)).take (c.length - (i + 1))) = icells (c.eraseIdx i ++ [gd c (c.length - 1)]) := by
  have hl : ((icells c).drop (i + 1)).take (c.length - (i + 1)) = icells (c.drop (i + 1)) := by
    rw [icells_drop, List.take_of_length_le (by rw [icells_length, List.length_drop]; exact Nat.le_refl _)]
  rw [hl]
  refine List.ext_getElem? fun j => ?_
  rw [setL_get (by rw [icells_length, icells_length, List.length_drop]; omega), icells_length, List.length_drop]
  rw [erase_take]
  by_cases h1 : i ≤ j ∧ j < i + (c.length - (i + 1))
  · rw [if_pos h1]
    unfold icells
    rw [List.getElem?_map, List.getElem?_map, List.getElem?_append_left (by simp; omega), List.getElem?_append_right (by simp; omega)]
    simp only [List.length_take]
    congr 2; omega
  · rw [if_neg h1]
    unfold icells
    rw [List.getElem?_map, List.getElem?_map]
    congr 1
    by_cases h2 : j < i
    · rw [List.getElem?_append_left (by simp; omega), List.getElem?_append_left (by simp; omega), List.getElem?_take_of_lt h2]
    · by_cases h3 : j = c.length - 1
      · subst h3
        rw [List.getElem?_append_right (by simp; omega)]
        simp only [List.length_append, List.length_take, List.length_drop]
        rw [show c.length - 1 - (min i c.length + (c.length - (i + 1))) = 0 by omega, gd_get (by omega)]; rfl
      · rw [List.getElem?_eq_none (by omega), List.getElem?_eq_none (by simp; omega)]
theorem clear_last (a : List Int) (x : Int) (n : Nat) (h : a.length = n) : setL (icells (a ++ [x])) n (List.replicate 1 (.int .i64 0)) = icells a ++ [.int .i64 0] := by
  subst h
  have := setL_app [.int .i64 0] [.int .i64 x] (icells a) [] rfl
  rw [icells_length, List.append_nil, List.append_nil] at this
  rw [icells_append]; exact this
theorem wo_cl {vars : Int} {c : List Int} (h : clB vars c = true) (v : Int) : clB vars (woS c v) = true :=
  clB_of (clB_spec h).1 (woS_strict (clB_strict h)) fun x hx => (clB_mem h (woS_mem hx).1).1
end Go.Av
namespace Go.Av
open Go
def cmpF (cf : Int → Int → Int) : List Int → List Int → Int
  | [], [] => 0
  | [], _ :: _ => -1
  | _ :: _, [] => 1
  | x :: a, y :: b => if cf x y ≠ 0 then cf x y else cmpF cf a b
theorem cmpF_more {cf : Int → Int → Int} {a b : List Int} {i : Nat} (ha : i < a.length) (hb : i < b.length) : cmpF cf (a.drop i) (b.drop i) = if cf (gd a i) (gd b i) ≠ 0 then cf (gd a i) (gd b i) else cmpF cf (a.drop (i + 1)) (b.drop (i + 1)) := by
  rw [drop_gd ha, drop_gd hb, cmpF]
theorem cmpF_nilr {cf : Int → Int → Int} {a b : List Int} {i : Nat} (ha : i < a.length) (hb : b.length ≤ i) : cmpF cf (a.drop i) (b.drop i) = 1 := by
  rw [drop_gd ha, List.drop_eq_nil_of_le hb, cmpF]
theorem cmpF_end {cf : Int → Int → Int} {a b : List Int} (h : a.length ≤ b.length) : cmpF cf (a.drop a.length) (b.drop a.length) = if a.length < b.length then -1 else 0 := by
  rw [List.drop_eq_nil_of_le (Nat.le_refl _)]
  split
  · rename_i hl; rw [drop_gd hl, cmpF]
  · rw [List.drop_eq_nil_of_le (by omega), cmpF]
def cC (a b : List Int) : Int := orL [cmpI (a.length : Int) (b.length : Int), cmpF cfLit a b]
def lexB : List Int → List Int → Bool
  | x :: a, y :: b => if x = y then lexB a b else decide (keyL x < keyL y)
  | _, _ => false
theorem lexB_more {a b : List Int} {i : Nat} (ha : i < a.length) (hb : i < b.length) : lexB (a.drop i) (b.drop i) = if gd a i = gd b i then lexB (a.drop (i + 1)) (b.drop (i + 1)) else decide (keyL (gd a i) < keyL (gd b i)) := by
  rw [drop_gd ha, drop_gd hb, lexB]
theorem lexB_end {a b : List Int} : lexB (a.drop a.length) b = false := by rw [List.drop_eq_nil_of_le (Nat.le_refl _)]; cases b <;> rfl
def bfL (a b : List Int) : Bool := if a.length = b.length then lexB a b else decide (a.length < b.length)
theorem lexB_irr : ∀ a, lexB a a = false
  | [] => rfl
  | x :: a => by rw [lexB, if_pos rfl]; exact lexB_irr a
theorem lexB_trans : ∀ {a b c : List Int}, lexB a b = true → lexB b c = true → lexB a c = true
  | x :: a, y :: b, z :: c, h1, h2 => by
    rw [lexB] at h1 h2 ⊢
    by_cases e1 : x = y
    · subst e1
      rw [if_pos rfl] at h1
      by_cases e2 : x = z
      · subst e2; rw [if_pos rfl] at h2 ⊢; exact lexB_trans h1 h2
      · rw [if_neg e2] at h2 ⊢; exact h2
    · rw [if_neg e1] at h1
      by_cases e2 : y = z
      · subst e2; rw [if_neg e1]; exact h1
      · rw [if_neg e2] at h2
        have h3 := of_decide_eq_true h1
        have h4 := of_decide_eq_true h2
        rw [if_neg (fun e => by subst e; omega)]
        exact decide_eq_true (by omega)
  | [], _, _, h, _ => by simp [lexB] at h
  | _ :: _, [], _, h, _ => by simp [lexB] at h
  | _ :: _, _ :: _, [], _, h => by simp [lexB] at h
theorem bfL_irr (a : List Int) : bfL a a = false := by unfold bfL; rw [if_pos rfl]; exact lexB_irr a
theorem bfL_trans {a b c : List Int} (h1 : bfL a b = true) (h2 : bfL b c = true) : bfL a c = true := by
  unfold bfL at *
  by_cases e1 : a.length = b.length
  · rw [if_pos e1] at h1
    by_cases e2 : b.length = c.length
    · rw [if_pos e2] at h2; rw [if_pos (by omega)]; exact lexB_trans h1 h2
    · rw [if_neg e2] at h2; have := of_decide_eq_true h2; rw [if_neg (by omega)]; exact decide_eq_true (by omega)
  · rw [if_neg e1] at h1
    have h3 := of_decide_eq_true h1
    by_cases e2 : b.length = c.length
    · rw [if_neg (by omega)]; exact decide_eq_true (by omega)
    · rw [if_neg e2] at h2; have := of_decide_eq_true h2; rw [if_neg (by omega)]; exact decide_eq_true (by omega)
theorem cfLit_key {x y : Int} (hx : -1000000 ≤ x ∧ x ≤ 1000000) (hy : -1000000 ≤ y ∧ y ≤ 1000000) : (cfLit x y = 0 ↔ x = y) ∧ (x ≠ y → (cfLit x y < 0 ↔ keyL x < keyL y)) := by
  have hax : absA x = if x < 0 then -x else x := by rw [absA_of (by omega)]; rfl
  have hay : absA y = if y < 0 then -y else y := by rw [absA_of (by omega)]; rfl
  rw [cfLit_eq, hax, hay]
  unfold keyL cmpI orL orL orL
  constructor
  · constructor
    · intro h
      split at h <;> split at h <;> (try split at h) <;> (try split at h) <;> (try split at h) <;> (try split at h) <;> omega
    · rintro rfl
      simp
  · intro hne
    split <;> split <;> (try split) <;> (try split) <;> (try split) <;> (try split) <;> (try split) <;> (try split) <;> omega
theorem cmpF_lex : ∀ {a b : List Int}, a.length = b.length → (∀ x ∈ a, -1000000 ≤ x ∧ x ≤ 1000000) → (∀ x ∈ b, -1000000 ≤ x ∧ x ≤ 1000000) → (cmpF cfLit a b < 0 ↔ lexB a b = true)
  | [], [], _, _, _ => by simp [cmpF, lexB]
  | x :: a, y :: b, hl, ha, hb => by
    have hk := cfLit_key (ha x List.mem_cons_self) (hb y List.mem_cons_self)
    rw [cmpF, lexB]
    by_cases e : x = y
    · rw [if_neg (by simpa using hk.1.2 e), if_pos e]
      exact cmpF_lex (by simpa using hl) (fun z hz => ha z (List.mem_cons_of_mem _ hz)) (fun z hz => hb z (List.mem_cons_of_mem _ hz))
    · rw [if_pos (fun h => e (hk.1.1 h)), if_neg e, hk.2 e, decide_eq_true_eq]
theorem cC_bef {a b : List Int} (ha : ∀ x ∈ a, -1000000 ≤ x ∧ x ≤ 1000000) (hb : ∀ x ∈ b, -1000000 ≤ x ∧ x ≤ 1000000) : decide (0 ≤ cC a b) = !bfL a b := by
  unfold cC bfL
  by_cases e : a.length = b.length
  · have h := cmpF_lex e ha hb
    rw [if_pos e, e, show cmpI (b.length : Int) (b.length : Int) = 0 by simp [cmpI], orL, if_neg (by simp), orL]
    have h2 : (if cmpF cfLit a b ≠ 0 then cmpF cfLit a b else orL []) = cmpF cfLit a b := by
      split
      · rfl
      · rename_i h0; rw [orL]; have := Classical.not_not.1 h0; omega
    rw [h2]
    cases hx : lexB a b with
    | true => have := h.2 hx; exact decide_eq_false (by omega)
    | false => exact decide_eq_true (by have : ¬ cmpF cfLit a b < 0 := fun h3 => by rw [h.1 h3] at hx; simp at hx
                                        omega)
  · rw [if_neg e]
    by_cases hl : a.length < b.length
    · rw [show cmpI (a.length : Int) (b.length : Int) = -1 from if_pos (by omega), decide_eq_true hl]; rfl
    · rw [show cmpI (a.length : Int) (b.length : Int) = 1 from by unfold cmpI; rw [if_neg (by omega), if_pos (by omega)], decide_eq_false hl]; rfl
def ascM (M : List (List Int)) : Prop := ∀ i, i + 1 < M.length → bfL (gl M i) (gl M (i + 1)) = true
theorem asc_lt {M : List (List Int)} (h : ascM M) {i : Nat} : ∀ k, i + (k + 1) < M.length → bfL (gl M i) (gl M (i + (k + 1))) = true
  | 0, hk => h i hk
  | k + 1, hk => bfL_trans (asc_lt h k (by omega)) (h _ hk)
theorem asc_at {M : List (List Int)} (h : ascM M) {i j : Nat} (hij : i < j) (hj : j < M.length) : bfL (gl M i) (gl M j) = true := by
  have := asc_lt h (i := i) (j - i - 1) (by omega)
  rw [show i + (j - i - 1 + 1) = j by omega] at this; exact this
def plc : List (List Int) → List Int → Nat
  | [], _ => 0
  | x :: M, c => if bfL x c then plc M c + 1 else 0
theorem plc_eq : ∀ {M : List (List Int)} {c : List Int} {k : Nat}, k ≤ M.length → (∀ j, j < k → bfL (gl M j) c = true) → (∀ j, k ≤ j → j < M.length → bfL (gl M j) c = false) → plc M c = k
  | [], c, k, h, _, _ => by rw [plc]; simp at h; omega
  | x :: M, c, 0, _, _, h2 => by
    have : bfL x c = false := h2 0 (Nat.le_refl _) (by simp)
    rw [plc, if_neg (by rw [this]; simp)]
  | x :: M, c, k + 1, h, h1, h2 => by
    have : bfL x c = true := h1 0 (by omega)
    rw [plc, if_pos this, plc_eq (k := k) (by simpa using h) (fun j hj => h1 (j + 1) (by omega)) (fun j hj hl => h2 (j + 1) (by omega) (by simpa using hl))]
theorem asc_low {M : List (List Int)} (h : ascM M) {c : List Int} {k : Nat} (hk : k < M.length) (hb : bfL (gl M k) c = true) : ∀ j, j < k + 1 → bfL (gl M j) c = true := fun j hj => by
  rcases Nat.lt_or_ge j k with h1 | h1
  · exact bfL_trans (asc_at h h1 hk) hb
  · rw [show j = k by omega]; exact hb
theorem asc_high {M : List (List Int)} (h : ascM M) {c : List Int} {k : Nat} (hb : bfL (gl M k) c = false) : ∀ j, k ≤ j → j < M.length → bfL (gl M j) c = false := fun j h1 h2 => by
  rcases Nat.eq_or_lt_of_le h1 with h3 | h3
  · rw [← h3]; exact hb
  · cases hx : bfL (gl M j) c with
    | false => rfl
    | true => rw [bfL_trans (asc_at h h3 h2) hx] at hb; exact hb
theorem plc_le : ∀ (M : List (List Int)) (c : List Int), plc M c ≤ M.length
  | [], c => by simp [plc]
  | x :: M, c => by
    rw [plc]; split
    · have := plc_le M c; simp; omega
    · exact Nat.zero_le _
def atL (M : List (List Int)) (c : List Int) : Int := if plc M c < M.length ∧ gl M (plc M c) = c then (plc M c : Int) else -1
theorem gl_ix {M : List (List Int)} {c : List Int} (h : c ∈ M) : ∃ i, i < M.length ∧ gl M i = c := by
  obtain ⟨i, hi, e⟩ := List.mem_iff_getElem.1 h
  exact ⟨i, hi, by unfold gl; rw [List.getElem?_eq_getElem hi]; exact e⟩
theorem atL_mem {M : List (List Int)} (h : ascM M) (c : List Int) : decide (0 ≤ atL M c) = decide (c ∈ M) := by
  rw [decide_eq_decide]
  unfold atL
  constructor
  · intro h1
    split at h1
    · rename_i h2; rw [← h2.2]; exact gl_mem h2.1
    · omega
  · intro h1
    obtain ⟨i, hi, e⟩ := gl_ix h1
    have hp : plc M c = i := plc_eq (by omega) (fun j hj => by rw [← e]; exact asc_at h hj hi) (fun j h2 h3 => by
      rcases Nat.eq_or_lt_of_le h2 with h4 | h4
      · rw [← h4, e]; exact bfL_irr c
      · have h5 := asc_at h h4 h3
        cases hx : bfL (gl M j) c with
        | false => rfl
        | true => rw [e] at h5; have := bfL_trans h5 hx; rw [bfL_irr] at this; simp at this)
    rw [hp, if_pos ⟨hi, e⟩]; omega
theorem atL_neg {M : List (List Int)} (h : ascM M) (c : List Int) : decide (atL M c < 0) = !decide (c ∈ M) := by
  rw [← atL_mem h c]
  by_cases h1 : 0 ≤ atL M c
  · rw [decide_eq_true h1]; exact decide_eq_false (by omega)
  · rw [decide_eq_false h1]; exact decide_eq_true (by omega)
theorem fidx_mem {M : List (List Int)} {c : List Int} : decide (0 ≤ fidx (fun i => decide (c = gl M i)) M.length) = decide (c ∈ M) := by
  rw [fidx_any, Bool.eq_iff_iff, List.any_eq_true, decide_eq_true_eq]
  constructor
  · rintro ⟨i, hi, e⟩; rw [of_decide_eq_true e]; exact gl_mem (List.mem_range.1 hi)
  · intro h
    obtain ⟨i, hi, e⟩ := gl_ix h
    exact ⟨i, List.mem_range.2 hi, decide_eq_true e.symm⟩
theorem bl_noSh : ∀ (B : List Bool), noShL (blcells B) = true
  | [] => rfl
  | x :: xs => by simp only [blcells, List.map_cons, noShL, noSh, Bool.true_and]; exact bl_noSh xs
theorem bl_pure (B : List Bool) : pureL (blcells B) = true ∧ noNilL (blcells B) = true := by
  constructor
  · refine pureL_iff.2 fun c hc => ?_
    obtain ⟨n, _, rfl⟩ := List.mem_map.1 hc; rfl
  · induction B with
    | nil => rfl
    | cons x xs ih => simp only [blcells, List.map_cons, noNilL, noNil, Bool.true_and]; exact ih
def gB (B : List Bool) (i : Nat) : Bool := (B[i]?).getD false
theorem gB_get {B : List Bool} {i : Nat} (h : i < B.length) : B[i]? = some (gB B i) := by unfold gB; rw [List.getElem?_eq_getElem h]; rfl
theorem mkB_gB {n : Nat} {M : List (List Int)} : ∀ {i c : Nat}, (∀ j, j < i → codeA (gl M j) < 3 ^ n) → (gB (mkB n M i) c = true ↔ ∃ j, j < i ∧ codeA (gl M j) = c)
  | 0, c, _ => by
    unfold mkB gB
    constructor
    · intro h
      by_cases hc : c < 3 ^ n
      · rw [List.getElem?_replicate_of_lt hc] at h; simp at h
      · rw [List.getElem?_eq_none (by simp; omega)] at h; simp at h
    · rintro ⟨j, hj, _⟩; omega
  | i + 1, c, h => by
    have ih := mkB_gB (n := n) (M := M) (i := i) (c := c) fun j hj => h j (by omega)
    have hlen := mkB_len n M i
    have hi := h i (by omega)
    unfold gB at *
    rw [mkB]
    by_cases e : codeA (gl M i) = c
    · rw [← e, List.getElem?_set_self (by omega)]
      exact ⟨fun _ => ⟨i, by omega, rfl⟩, fun _ => rfl⟩
    · rw [List.getElem?_set_ne e, ih]
      constructor
      · rintro ⟨j, hj, hc⟩; exact ⟨j, by omega, hc⟩
      · rintro ⟨j, hj, hc⟩
        rcases Nat.lt_or_ge j i with h1 | h1
        · exact ⟨j, h1, hc⟩
        · rw [show j = i by omega] at hc; exact absurd hc e
def AllA (vars : Int) (M : List (List Int)) : Prop := ∀ i, i < M.length → clB vars (gl M i) = true
theorem nz_cl {vars : Int} {c : List Int} (h : clB vars c = true) : ∀ l ∈ c, l ≠ 0 := fun _ hl => (clB_mem h hl).2.2.2
theorem mark_mem {vars : Int} {M : List (List Int)} (hM : AllA vars M) {c : List Int} (hc : clB vars c = true) : gB (mkB vars.toNat M M.length) (codeA c) = decide (c ∈ M) := by
  rw [Bool.eq_iff_iff, mkB_gB fun j hj => codeA_cl (hM j hj), decide_eq_true_eq]
  constructor
  · rintro ⟨j, hj, e⟩
    have hj2 := hM j hj
    rw [← codeA_inj (clB_strict hj2) (clB_strict hc) (nz_cl hj2) (nz_cl hc) e]; exact gl_mem hj
  · intro h
    obtain ⟨i, hi, e⟩ := gl_ix h
    exact ⟨i, hi, by rw [e]⟩
theorem erase_cl {vars : Int} {a : List Int} (h : clB vars a = true) {i : Nat} (hi : i < a.length) : clB vars (a.eraseIdx i) = true := by
  rw [erase_wo (clB_strict h) hi]; exact wo_cl h _
theorem put_cl {vars : Int} {a : List Int} {v : Int} (h : clB vars a = true) (hv : 1 ≤ v ∧ v ≤ vars) (ho : opB a v = true) : clB vars (putL a v) = true ∧ clB vars (putL a (-v)) = true := by
  obtain ⟨h1, h2⟩ := opB_spec.1 ho
  have e1 := set_new h (l := v) (litB_spec.2 (by omega)) h1 h2
  have e2 := set_new h (l := -v) (litB_spec.2 (by omega)) h2 (by rw [Int.neg_neg]; exact h1)
  rw [set_put h1 h2] at e1
  rw [set_put h2 (by rw [Int.neg_neg]; exact h1)] at e2
  exact ⟨e1.1, e2.1⟩
theorem code_put {a : List Int} {v : Int} (hv : 1 ≤ v) : codeA (putL a v) = codeA a + 2 * 3 ^ (v - 1).toNat ∧ codeA (putL a (-v)) = codeA a + 3 ^ (v - 1).toNat := by
  have h1 := dg_pos (l := v) (by omega)
  have h2 := dg_neg (l := -v) (by omega) (by omega)
  rw [codeA_put, codeA_put, h1.1, h1.2, h2.1, h2.2, Int.neg_neg, Nat.one_mul]; exact ⟨rfl, rfl⟩
theorem cl_sm6 {vars : Int} {a : List Int} (h : clB vars a = true) : ∀ x ∈ a, -1000000 ≤ x ∧ x ≤ 1000000 := fun x hx => by have := (clB_mem h hx).2; omega
def keepA (M : List (List Int)) (a : List Int) : Bool := (List.range a.length).all fun k => decide (woS a (vr (gd a k)) ∈ M)
def keepV (M : List (List Int)) (a : List Int) (v : Int) : Bool := !(opB a v && (!decide (putL a v ∈ M) && !decide (putL a (-v) ∈ M)))
def keepsB (vars w : Int) (M : List (List Int)) (a : List Int) : Bool := keepA M a && (decide (w < (a.length : Int)) || (upL vars).all fun v => keepV M a v)
theorem keepA_f {M : List (List Int)} {a : List Int} {k : Nat} (hk : k < a.length) (h : decide (woS a (vr (gd a k)) ∈ M) = false) : keepA M a = false :=
  List.all_eq_false.2 ⟨k, List.mem_range.2 hk, by rw [h]; simp⟩
theorem keepA_t {M : List (List Int)} {a : List Int} (h : ∀ k, k < a.length → decide (woS a (vr (gd a k)) ∈ M) = true) : keepA M a = true :=
  List.all_eq_true.2 fun k hk => h k (List.mem_range.1 hk)
theorem keepV_f {vars : Int} {M : List (List Int)} {a : List Int} {v : Int} (hv : 1 ≤ v ∧ v ≤ vars) (h : keepV M a v = false) : ((upL vars).all fun v => keepV M a v) = false :=
  List.all_eq_false.2 ⟨v, mem_upL.2 hv, by rw [h]; simp⟩
theorem keepV_t {vars : Int} {M : List (List Int)} {a : List Int} (h : ∀ v, 1 ≤ v → v ≤ vars → keepV M a v = true) : ((upL vars).all fun v => keepV M a v) = true :=
  List.all_eq_true.2 fun v hv => h v (mem_upL.1 hv).1 (mem_upL.1 hv).2
theorem keepV_open {vars : Int} {M : List (List Int)} {a : List Int} (h : ∀ i, i < (opensL vars a).length → keepV M a (gd (opensL vars a) i) = true) : ((upL vars).all fun v => keepV M a v) = true :=
  keepV_t fun v h1 h2 => by
    cases ho : opB a v with
    | false => unfold keepV; rw [ho]; rfl
    | true =>
      have hm : v ∈ opensL vars a := by unfold opensL; rw [List.mem_filter]; exact ⟨mem_upL.2 ⟨h1, h2⟩, by rw [ho]; rfl⟩
      obtain ⟨j, hj, rfl⟩ := mem_gd hm
      exact h j hj
theorem opens_gd {vars : Int} {a : List Int} {i : Nat} (h : i < (opensL vars a).length) : (1 ≤ gd (opensL vars a) i ∧ gd (opensL vars a) i ≤ vars) ∧ opB a (gd (opensL vars a) i) = true := by
  have := gd_mem h
  unfold opensL at this ⊢
  rw [List.mem_filter] at this
  exact ⟨mem_upL.1 this.1, by simpa using this.2⟩
theorem opens_len {vars : Int} (h : 0 ≤ vars ∧ vars ≤ 12) (a : List Int) : (opensL vars a).length ≤ 12 := by
  have h1 : (opensL vars a).length ≤ (upL vars).length := List.length_filter_le _ _
  have h2 := upL_len h
  omega
def famI (vars : Int) (L : List (List Int)) (w : Int) (M : List (List Int)) (i : Nat) : Bool := clB vars (gl M i) && alB L w (gl M i) && (decide (i = 0) || bfL (gl M (i - 1)) (gl M i))
def famO (vars : Int) (L : List (List Int)) (w : Int) (M : List (List Int)) : Bool := (List.range M.length).all fun i => famI vars L w M i
def famK (vars w : Int) (M : List (List Int)) : Bool := (List.range M.length).all fun i => keepsB vars w M (gl M i)
def famB (vars : Int) (L : List (List Int)) (w : Int) (M : List (List Int)) : Bool := famO vars L w M && (decide (0 < M.length) && famK vars w M)
theorem famO_spec {vars : Int} {L : List (List Int)} {w : Int} {M : List (List Int)} (h : ∀ j, j < M.length → famI vars L w M j = true) : famO vars L w M = true ∧ AllA vars M ∧ ascM M := by
  refine ⟨List.all_eq_true.2 fun i hi => h i (List.mem_range.1 hi), fun i hi => ?_, fun i hi => ?_⟩
  · have := h i hi
    unfold famI at this
    simp only [Bool.and_eq_true] at this
    exact this.1.1
  · have := h (i + 1) hi
    unfold famI at this
    simp only [Bool.and_eq_true, Bool.or_eq_true, decide_eq_true_eq] at this
    rcases this.2 with h1 | h1
    · omega
    · rw [show i + 1 - 1 = i by omega] at h1; exact h1
theorem famO_f {vars : Int} {L : List (List Int)} {w : Int} {M : List (List Int)} {i : Nat} (hi : i < M.length) (h : famI vars L w M i = false) : famB vars L w M = false := by
  unfold famB
  rw [show famO vars L w M = false from List.all_eq_false.2 ⟨i, List.mem_range.2 hi, by rw [h]; simp⟩]; rfl
theorem famB_spec {vars : Int} {L : List (List Int)} {w : Int} {M : List (List Int)} (h : famB vars L w M = true) : AllA vars M ∧ ascM M := by
  unfold famB at h
  simp only [Bool.and_eq_true] at h
  have h1 := h.1
  unfold famO at h1
  exact (famO_spec fun j hj => List.all_eq_true.1 h1 j (List.mem_range.2 hj)).2
theorem famI_impl {vars : Int} {L : List (List Int)} {w : Int} {M : List (List Int)} {i : Nat} (hp : ∀ j, j < i → famI vars L w M j = true) :
    (!clB vars (gl M i) || (!alB L w (gl M i) || (decide ((i : Int) > 0) && decide (0 ≤ cC (gl M (i - 1)) (gl M i))))) = !famI vars L w M i := by
  unfold famI
  cases h1 : clB vars (gl M i) with
  | false => rfl
  | true =>
    cases h2 : alB L w (gl M i) with
    | false => rfl
    | true =>
      cases i with
      | zero => simp
      | succ i =>
        have hq := hp i (by omega)
        unfold famI at hq
        simp only [Bool.and_eq_true] at hq
        rw [show i + 1 - 1 = i by omega] at *
        rw [cC_bef (cl_sm6 hq.1.1) (cl_sm6 h1), decide_eq_true (show (((i + 1 : Nat) : Int) > 0) by omega)]
        simp
theorem famI_spec {vars : Int} {L : List (List Int)} {w : Int} {M : List (List Int)} {i : Nat} :
    (!clB vars (gl M i) || (!alB L w (gl M i) || (decide ((i : Int) > 0) && !bfL (gl M (i - 1)) (gl M i)))) = !famI vars L w M i := by
  unfold famI
  cases i with
  | zero => simp
  | succ i => rw [decide_eq_true (show (((i + 1 : Nat) : Int) > 0) by omega), decide_eq_false (show ¬ (i + 1 = 0) by omega)]; simp [Bool.or_assoc]
theorem famI_cl {vars : Int} {L : List (List Int)} {w : Int} {M : List (List Int)} {i : Nat} (h : famI vars L w M i = true) : clB vars (gl M i) = true := by
  unfold famI at h; simp only [Bool.and_eq_true] at h; exact h.1.1
theorem famK_any {vars w : Int} {M : List (List Int)} : (List.range M.length).any (fun i => !keepsB vars w M (gl M i)) = !famK vars w M := by
  unfold famK; rw [List.not_all_eq_any_not]
theorem nwB_spec {vars : Int} {L : List (List Int)} {w : Int} (h : nwB vars L w = true) : cnfB vars L = true ∧ vars ≤ 6 ∧ 0 ≤ w ∧ w ≤ 6 := by
  unfold nwB at h
  simp only [Bool.and_eq_true, inR_spec, decide_eq_true_eq] at h
  exact ⟨h.1.1, h.1.2, h.2.1, h.2.2⟩
theorem nodup_le : ∀ (n : Nat) (l : List Nat), l.Nodup → (∀ x ∈ l, x < n) → l.length ≤ n
  | 0, l, _, h => by
    cases l with
    | nil => simp
    | cons x l => have := h x List.mem_cons_self; omega
  | n + 1, l, hn, h => by
    have h1 := nodup_le n (l.erase n) (hn.erase n) fun x hx => by
      have h2 := h x (List.mem_of_mem_erase hx)
      have h3 : x ≠ n := fun e => by subst e; exact (List.Nodup.not_mem_erase hn) hx
      omega
    have h4 : l.length ≤ (l.erase n).length + 1 := by rw [List.length_erase]; split <;> omega
    omega
theorem fam_len {vars : Int} {M : List (List Int)} (hv : 0 ≤ vars ∧ vars ≤ 6) (h1 : AllA vars M) (h2 : ascM M) : M.length ≤ 729 := by
  have h3 := nodup_le (3 ^ vars.toNat) ((List.range M.length).map fun i => codeA (gl M i)) (by
    rw [List.nodup_iff_pairwise_ne, List.pairwise_map]
    refine List.Pairwise.imp_of_mem (R := fun i j => i < j) ?_ List.pairwise_lt_range
    intro i j hi hj hlt he
    have hi := List.mem_range.1 hi
    have hj := List.mem_range.1 hj
    have := codeA_inj (clB_strict (h1 i hi)) (clB_strict (h1 j hj)) (nz_cl (h1 i hi)) (nz_cl (h1 j hj)) he
    have h5 := asc_at h2 hlt hj
    rw [this, bfL_irr] at h5
    simp at h5) fun x hx => by
      obtain ⟨i, hi, rfl⟩ := List.mem_map.1 hx
      exact codeA_cl (h1 i (List.mem_range.1 hi))
  rw [List.length_map, List.length_range] at h3
  have h4 : 3 ^ vars.toNat ≤ 3 ^ 6 := Nat.pow_le_pow_right (by decide) (by omega)
  omega
theorem takes_eq {vars : Int} {L M : List (List Int)} {w : Int} {a : List Int} {v : Int} :
    (bif (bif (bif (bif (bif nwB vars L w then decide ((M.length : Int) ≤ 729) else false) then famB vars L w M else false) then clB vars a else false) then decide (0 ≤ atL M a) else false) then inR v 1 vars else false)
      = (nwB vars L w && famB vars L w M && decide (a ∈ M) && inR v 1 vars) := by
  cases h1 : nwB vars L w with
  | false => rfl
  | true =>
    cases h2 : famB vars L w M with
    | false => simp
    | true =>
      obtain ⟨h3, h4⟩ := famB_spec h2
      have h5 := nwB_spec h1
      have h6 := fam_len ⟨(cnfB_spec h5.1).1.1, h5.2.1⟩ h3 h4
      rw [atL_mem h4, decide_eq_true (show (M.length : Int) ≤ 729 by omega)]
      by_cases hm : a ∈ M
      · obtain ⟨i, hi, rfl⟩ := gl_ix hm
        rw [h3 i hi, decide_eq_true hm]; simp
      · rw [decide_eq_false hm]; simp
def ansOk (vars : Int) (L : List (List Int)) (w : Int) (M : List (List Int)) (a : List Int) (v : Int) : Bool := nwB vars L w && famB vars L w M && decide (a ∈ M) && decide ((a.length : Int) ≤ w) && inR v 1 vars && opB a v
def ansR (vars : Int) (L : List (List Int)) (w : Int) (M : List (List Int)) (a : List Int) (v : Int) : List Int := if ansOk vars L w M a v then (if putL a v ∈ M then putL a v else putL a (-v)) else []
theorem ans_spec {vars : Int} {L : List (List Int)} {w : Int} {M : List (List Int)} {a : List Int} {v : Int} (h : ansOk vars L w M a v = true) :
    nwB vars L w = true ∧ famB vars L w M = true ∧ a ∈ M ∧ (1 ≤ v ∧ v ≤ vars) ∧ opB a v = true := by
  unfold ansOk at h
  simp only [Bool.and_eq_true, inR_spec, decide_eq_true_eq] at h
  exact ⟨h.1.1.1.1.1, h.1.1.1.1.2, h.1.1.1.2, h.1.2, h.2⟩
theorem ans_impl {vars : Int} {L : List (List Int)} {w : Int} {M : List (List Int)} {a : List Int} {v : Int} :
    (bif (bif (bif !(nwB vars L w && famB vars L w M && decide (a ∈ M)) then true else decide (w < (a.length : Int))) then true else !inR v 1 vars) then true else decide (fopen [v] a = 0)) = !ansOk vars L w M a v := by
  unfold ansOk
  rw [show decide (w < (a.length : Int)) = !decide ((a.length : Int) ≤ w) by rw [← decide_not]; exact decide_eq_decide.2 (by omega)]
  cases h1 : nwB vars L w with
  | false => rfl
  | true =>
    cases h2 : inR v 1 vars with
    | false => cases famB vars L w M <;> cases decide (a ∈ M) <;> cases decide ((a.length : Int) ≤ w) <;> rfl
    | true =>
      have h3 := (nwB_spec h1).2.1
      have h4 := inR_spec.1 h2
      rw [fopen_one (v := v) (a := a) (by omega)]
      cases famB vars L w M <;> cases decide (a ∈ M) <;> cases decide ((a.length : Int) ≤ w) <;> cases opB a v <;> rfl
theorem ans_refr {vars : Int} {L : List (List Int)} {w : Int} {M : List (List Int)} {a : List Int} {v : Int} :
    (bif (bif (bif !(nwB vars L w && famB vars L w M && decide (a ∈ M) && inR v 1 vars) then true else decide (w < (a.length : Int))) then true else decide (v ∈ a)) then true else decide (-v ∈ a)) = !ansOk vars L w M a v := by
  unfold ansOk opB
  rw [show decide (w < (a.length : Int)) = !decide ((a.length : Int) ≤ w) by rw [← decide_not]; exact decide_eq_decide.2 (by omega)]
  cases nwB vars L w <;> cases inR v 1 vars <;> cases famB vars L w M <;> cases decide (a ∈ M) <;> cases decide ((a.length : Int) ≤ w) <;> cases decide (v ∈ a) <;> cases decide (-v ∈ a) <;> rfl
theorem ans_no {vars : Int} {L : List (List Int)} {w : Int} {M : List (List Int)} {a : List Int} {v : Int} (h : ansOk vars L w M a v = false) : ansR vars L w M a v = [] := by unfold ansR; rw [h]; rfl
theorem ans_yes1 {vars : Int} {L : List (List Int)} {w : Int} {M : List (List Int)} {a : List Int} {v : Int} (h : ansOk vars L w M a v = true) (hm : decide (putL a v ∈ M) = true) : ansR vars L w M a v = putL a v := by
  unfold ansR; rw [h, if_pos rfl, if_pos (of_decide_eq_true hm)]
theorem ans_yes2 {vars : Int} {L : List (List Int)} {w : Int} {M : List (List Int)} {a : List Int} {v : Int} (h : ansOk vars L w M a v = true) (hm : decide (putL a v ∈ M) = false) : ansR vars L w M a v = putL a (-v) := by
  unfold ansR; rw [h, if_pos rfl, if_neg (of_decide_eq_false hm)]
theorem ans_len {vars : Int} {L : List (List Int)} {w : Int} {M : List (List Int)} {a : List Int} {v : Int} : (ansR vars L w M a v).length ≤ a.length + 1 := by
  unfold ansR; split
  · split <;> rw [putL_length] <;> omega
  · simp
end Go.Av
