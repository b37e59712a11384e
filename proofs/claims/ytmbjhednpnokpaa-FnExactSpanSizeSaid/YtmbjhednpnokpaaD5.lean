/- Lemmas, part 5. -/
import Derived.Test.YtmbjhednpnokpaaD4
set_option linter.unusedVariables false
set_option linter.unusedSimpArgs false
namespace Go.Av
open Go Go.Proofs Go.Sort
set_option maxRecDepth 10000
theorem sortFunc_c (f : Nat) (hb : hasBody Try.prog f = true) (cf : Int → Int → Int) (hc : ∀ x y, ACall Try.prog f [.int .i64 x, .int .i64 y] [] (.int .i64 (cf x y)) []) (hS : SWO (ltc cf)) (d : Array Int) (n : Nat) (hd : d.size = n) (hn : n ≤ 1152921504606846976) : ACall Try.prog 89 [.rsl (INH, []) 1 0 n none, .fn f [] []] [.osl 1 (acells d) n none] (.tup []) [.osl 1 (acells (Go.Sort.sort (ltc cf) d)) n none] := by
 have hbl : bitsLen n ≤ 61 := (bitsLen_le_iff _ _).2 (by omega)
 refine ACall.intro Try.func89 rfl (N := 14) rfl (by decide) (by simp) ?_
 refine a_seq ?_
 refine a_region ?_
 refine rv (v := .rsl _ _ _ _ _) (v_move il nf) ?_
 refine rv (v := .int _ _) (v_len_rsl sl42 il) ?_
 refine rv (v := .int _ _) (v_assign il nf) ?_
 refine r_nil ?_
 refine a_region ?_
 refine rv (v := .rsl _ _ _ _ _) (v_move il nf) ?_
 refine rv (v := .int _ _) (v_move il nf) ?_
 refine rv (v := .int _ _) (v_move il nf) ?_
 refine rv (v := .int .u64 ((n : Nat) : Int)) ((v_conv iss3 uni120 il (fun _ => IntWalk.u64_in _ (by omega))).cast (int_eq rfl)) ?_
 refine rn (v := .int _ _) (q_call (vs := [.int _ _]) (args := [.int .u64 ((_ : Nat) : Int)]) hb101 ⟨il, trivial⟩ rfl (fun hA => len_c n (by omega)) rfl rfl) ?_
 refine rv (v := .fn _ _ _) (v_mv rfl) ?_
 refine r_step rfl (o_callIO (q := (INH, [])) (vs := [.rsl _ _ _ _ _, .int _ _, .int _ _, .int _ _, .fn _ _ _]) (args := [.rsl (INH, []) _ _ _ _, .int .i64 _, .int .i64 _, .int .i64 _, .fn _ _ _]) (x0 := .osl _ _ _ _) (x1 := .osl _ _ _ _) (res := .tup []) rfl hb100 rfl (by decide) ⟨.inl rfl, .inl rfl, .inl rfl, .inl rfl, .inl rfl, trivial⟩ rfl rfl (pdq_c f hb cf hc hS n hn d 0 n (bitsLen n) hd ⟨Nat.zero_le _, Nat.le_refl _, Nat.le_trans hbl (by decide)⟩ (Or.inl rfl)) rfl rfl rfl (ac_noSh _) (ac_noRef _) (Nat.le_of_ble_eq_true rfl) (by decide) rfl) ?_
 refine r_nil ?_
 refine ret0_look Try.results89 (by decide) ?_ rfl
 exact Weak.of_eq (osl_eq (by unfold Go.Sort.sort; rw [hd]))
end Go.Av
namespace Go.Av
open Go Go.Proofs Go.Sort
set_option maxRecDepth 10000
theorem hb102 : hasBody Try.prog 102 = true := by kernel_rfl
theorem hb103 : hasBody Try.prog 103 = true := by kernel_rfl
theorem hb116 : hasBody Try.prog 116 = true := by kernel_rfl
theorem isNaN_c (x : Int) : ACall Try.prog 116 [.int .i64 x] [] (.bool false) [] := by
 refine ACall.intro Try.func116 rfl (N := 6) rfl (by decide) (by simp) ?_
 refine a_seq ?_
 refine a_region ?_
 refine rv (v := .bool _) (v_assign il nf) ?_
 refine r_nil ?_
 refine a_seq ?_
 refine a_region ?_
 refine rv (v := .int _ _) (v_move il nf) ?_
 refine rv (v := .int _ _) (v_move il nf) ?_
 refine rv (v := .bool _) (v_neq il il) ?_
 refine rv (v := .bool _) (v_assign il nf) ?_
 refine r_nil ?_
 refine a_ret ?_
 refine ret1 Try.results116 (by decide) (by decide) (Weak.of_eq (bool_eq ?_)) rfl Leaves.nil
 simp
theorem cmp_c (x y : Int) : ACall Try.prog 103 [.int .i64 x, .int .i64 y] [] (.int .i64 (cmpI x y)) [] := by
 refine ACall.intro Try.func103 rfl (N := 20) rfl (by decide) (by simp) ?_
 refine a_seq ?_
 refine a_region ?_
 refine rv (v := .int _ _) (v_assign il nf) ?_
 refine r_nil ?_
 refine a_seq ?_
 refine a_region ?_
 refine rv (v := .int _ _) (v_move il nf) ?_
 refine rn (v := .bool _) (q_call (vs := [.int _ _]) (args := [.int .i64 _]) hb116 ⟨il, trivial⟩ rfl (fun hA => isNaN_c _) rfl rfl) ?_
 refine rv (v := .bool _) (v_assign il nf) ?_
 refine r_nil ?_
 refine a_seq ?_
 refine a_region ?_
 refine rv (v := .int _ _) (v_move il nf) ?_
 refine rn (v := .bool _) (q_call (vs := [.int _ _]) (args := [.int .i64 _]) hb116 ⟨il, trivial⟩ rfl (fun hA => isNaN_c _) rfl rfl) ?_
 refine rv (v := .bool _) (v_assign il nf) ?_
 refine r_nil ?_
 refine a_seq ?_
 refine a_seq ?_
 refine a_region ?_
 refine rv (v := .bool _) (v_move il nf) ?_
 refine r_nil ?_
 refine a_cond rfl (fun ht11 => ?_) (fun ht11 => ?_)
 ·
  skip
  refine a_seq ?_
  refine a_seq ?_
  refine a_region ?_
  refine rv (v := .bool _) (v_move il nf) ?_
  refine r_nil ?_
  refine a_cond rfl (fun ht12 => ?_) (fun ht12 => ?_)
  ·
   skip
   refine a_seq ?_
   refine a_region ?_
   refine rv (v := .int _ _) (v_assign il nf) ?_
   refine r_nil ?_
   refine a_ret ?_
   refine ret1 Try.results103 (by decide) (by decide) (Weak.of_eq (int_eq ?_)) rfl Leaves.nil
   exact absurd ht11 (by simp)
  ·
   skip
   refine a_skip ?_
   refine a_seq ?_
   refine a_region ?_
   refine rv (v := .int _ _) (v_assign il nf) ?_
   refine r_nil ?_
   refine a_ret ?_
   refine ret1 Try.results103 (by decide) (by decide) (Weak.of_eq (int_eq ?_)) rfl Leaves.nil
   exact absurd ht11 (by simp)
 ·
  skip
  refine a_skip ?_
  refine a_seq ?_
  refine a_seq ?_
  refine a_region ?_
  refine rv (v := .bool _) (v_move il nf) ?_
  refine r_nil ?_
  refine a_cond rfl (fun ht13 => ?_) (fun ht13 => ?_)
  ·
   skip
   refine a_seq ?_
   refine a_region ?_
   refine rv (v := .int _ _) (v_assign il nf) ?_
   refine r_nil ?_
   refine a_ret ?_
   refine ret1 Try.results103 (by decide) (by decide) (Weak.of_eq (int_eq ?_)) rfl Leaves.nil
   exact absurd ht13 (by simp)
  ·
   skip
   refine a_skip ?_
   refine a_seq ?_
   refine a_seq ?_
   refine a_region ?_
   refine rv (v := .int _ _) (v_move il nf) ?_
   refine rv (v := .int _ _) (v_move il nf) ?_
   refine rv (v := .bool _) (v_lss il il) ?_
   refine r_nil ?_
   refine a_cond rfl (fun ht16 => ?_) (fun ht16 => ?_)
   ·
    skip
    refine a_seq ?_
    refine a_region ?_
    refine rv (v := .int _ _) (v_assign il nf) ?_
    refine r_nil ?_
    refine a_ret ?_
    refine ret1 Try.results103 (by decide) (by decide) (Weak.of_eq (int_eq ?_)) rfl Leaves.nil
    unfold cmpI; rw [if_pos (by simpa using ht16)]
   ·
    skip
    refine a_skip ?_
    refine a_seq ?_
    refine a_seq ?_
    refine a_region ?_
    refine rv (v := .int _ _) (v_move il nf) ?_
    refine rv (v := .int _ _) (v_move il nf) ?_
    refine rv (v := .bool _) (v_gtr il il) ?_
    refine r_nil ?_
    refine a_cond rfl (fun ht19 => ?_) (fun ht19 => ?_)
    ·
     skip
     refine a_seq ?_
     refine a_region ?_
     refine rv (v := .int _ _) (v_assign il nf) ?_
     refine r_nil ?_
     refine a_ret ?_
     refine ret1 Try.results103 (by decide) (by decide) (Weak.of_eq (int_eq ?_)) rfl Leaves.nil
     unfold cmpI; rw [if_neg (by simpa using ht16), if_pos (by simpa using ht19)]
    ·
     skip
     refine a_skip ?_
     refine a_seq ?_
     refine a_region ?_
     refine rv (v := .int _ _) (v_assign il nf) ?_
     refine r_nil ?_
     refine a_ret ?_
     refine ret1 Try.results103 (by decide) (by decide) (Weak.of_eq (int_eq ?_)) rfl Leaves.nil
     unfold cmpI; rw [if_neg (by simpa using ht16), if_neg (by simpa using ht19)]
theorem or_c (l : List Int) (hl : (l.length : Int) ≤ 9223372036854775807) : ACall Try.prog 102 [.sl (icells l) l.length] [] (.int .i64 (orL l)) [] := by
 refine ACall.intro Try.func102 rfl (N := 18) rfl (by decide) (by simp) ?_
 refine a_seq ?_
 refine a_region ?_
 refine rv (v := .int _ _) (v_assign il nf) ?_
 refine r_nil ?_
 refine a_seq ?_
 refine a_region ?_
 refine rv (v := .int _ _) (v_assign il nf) ?_
 refine r_nil ?_
 refine a_seq ?_
 refine a_seq ?_
 refine a_region ?_
 refine rv (v := .sl _ _) (v_move il nf) ?_
 refine rv (v := .int _ _) (v_len_sl sl42 il) ?_
 refine rv (v := .int _ _) (v_move il nf) ?_
 refine r_nil ?_
 refine a_block ?_
 refine a_loop (X := Nat) (fun i => look [(3, .int .i64 0), (6, .sl (icells l) l.length), (7, .int .i64 (l.length : Int)), (8, .int .i64 (i : Int))]) (fun i => i ≤ l.length ∧ orL (l.drop i) = orL l) (fun i => l.length - i) 0 (ent_look ⟨Weak.of_eq rfl, Weak.of_eq rfl, Weak.of_eq rfl, Weak.of_eq rfl, trivial⟩) ⟨Nat.zero_le _, rfl⟩ (fun i hG => ?_)
 obtain ⟨h1, h2⟩ := hG
 refine a_seq ?_
 refine a_region ?_
 refine rv (v := .bool _) (v_lss il il) ?_
 refine r_nil ?_
 refine a_seq ?_
 refine a_cond rfl (fun ht9 => ?_) (fun ht9 => ?_)
 ·
  skip
  refine a_skip ?_
  refine a_seq ?_
  refine a_block ?_
  refine a_seq ?_
  have hi : i < l.length := (by simp at ht9; omega)
  refine a_region ?_
  refine rv (v := .pp _ _) (v_indexAddr_sl es42 il il (fun _ => ⟨by omega, by omega, icells_ne hi⟩)) ?_
  refine rv (v := .int .i64 (gd l i)) (v_load_pp ta3 il (fun _ => by rw [Nat.mul_one]; exact icells_get (gd_get hi)) rfl) ?_
  refine rv (v := .int _ _) (v_assign il nf) ?_
  refine r_nil ?_
  refine a_seq ?_
  refine a_region ?_
  refine rv (v := .int _ _) (v_move il nf) ?_
  refine rv (v := .int _ _) (v_move il nf) ?_
  refine rv (v := .bool _) (v_neq il il) ?_
  refine r_nil ?_
  refine a_cond rfl (fun ht14 => ?_) (fun ht14 => ?_)
  ·
   skip
   refine a_seq ?_
   refine a_region ?_
   refine rv (v := .int _ _) (v_move il nf) ?_
   refine rv (v := .int _ _) (v_assign il nf) ?_
   refine r_nil ?_
   refine a_ret ?_
   refine ret1 Try.results102 (by decide) (by decide) (Weak.of_eq (int_eq ?_)) rfl Leaves.nil
   rw [← h2, orL_drop hi, if_pos (by simpa using ht14)]
  ·
   skip
   refine a_skip ?_
   refine a_region ?_
   refine rv (v := .int _ _) (v_add il il (fun _ => by omega)) ?_
   refine rv (v := .int _ _) (v_move il nf) ?_
   refine r_nil ?_
   refine ⟨i + 1, ent_look ⟨Weak.of_eq rfl, Weak.of_eq rfl, Weak.of_eq rfl, Weak.of_eq (int_eq (by omega)), trivial⟩, ⟨by omega, by rw [← h2, orL_drop hi, if_neg (by simpa using ht14)]⟩, by omega⟩
 ·
  skip
  refine a_exit ?_
  refine a_seq ?_
  refine a_region ?_
  refine rv (v := .int _ _) (v_move il nf) ?_
  refine rv (v := .int _ _) (v_assign il nf) ?_
  refine r_nil ?_
  refine a_ret ?_
  refine ret1 Try.results102 (by decide) (by decide) (Weak.of_eq (int_eq ?_)) rfl Leaves.nil
  rw [← h2, show l.drop i = [] from List.drop_eq_nil_of_le (by simp at ht9; omega)]; rfl
end Go.Av
namespace Go.Av
open Go Go.Proofs Go.Sort
set_option maxRecDepth 10000
end Go.Av
namespace Go.Av
open Go Go.Proofs Go.Sort
set_option maxRecDepth 10000
theorem hb89 : hasBody Try.prog 89 = true := by kernel_rfl
end Go.Av
namespace Go.Av
open Go Go.Proofs Go.Sort
set_option maxRecDepth 10000
theorem hb98 : hasBody Try.prog 98 = true := by kernel_rfl
theorem hb99 : hasBody Try.prog 99 = true := by kernel_rfl
theorem ones64A_c (n : Nat) (h : n < 18446744073709551616) : ACall Try.prog 118 [.int .u64 ((n : Nat) : Int)] [] (.int .i64 ((oc n : Nat) : Int)) [] := by
  have c1 : n / 2 &&& 6148914691236517205 ≤ 6148914691236517205 := Nat.and_le_right
  have c2 : n &&& 6148914691236517205 ≤ 6148914691236517205 := Nat.and_le_right
  have b1 : (oc1 n) = (n / 2 &&& 6148914691236517205) + (n &&& 6148914691236517205) := rfl
  have c3 : (oc1 n) / 4 &&& 3689348814741910323 ≤ 3689348814741910323 := Nat.and_le_right
  have c4 : (oc1 n) &&& 3689348814741910323 ≤ 3689348814741910323 := Nat.and_le_right
  have b2 : (oc2 (oc1 n)) = ((oc1 n) / 4 &&& 3689348814741910323) + ((oc1 n) &&& 3689348814741910323) := rfl
  have c5 : (oc3 (oc2 (oc1 n))) ≤ 1085102592571150095 := Nat.and_le_right
  have b4 : (oc4 (oc3 (oc2 (oc1 n)))) = (oc3 (oc2 (oc1 n))) + (oc3 (oc2 (oc1 n))) / 256 := rfl
  have b5 : (oc5 (oc4 (oc3 (oc2 (oc1 n))))) = (oc4 (oc3 (oc2 (oc1 n)))) + (oc4 (oc3 (oc2 (oc1 n)))) / 65536 := rfl
  have b6 : (oc6 (oc5 (oc4 (oc3 (oc2 (oc1 n)))))) = (oc5 (oc4 (oc3 (oc2 (oc1 n))))) + (oc5 (oc4 (oc3 (oc2 (oc1 n))))) / 4294967296 := rfl
  refine ACall.intro Try.func118 rfl (N := 35) rfl (by decide) (by simp) ?_
  refine a_seq ?_
  refine a_region ?_
  refine rv (v := .int _ _) (v_assign il nf) ?_
  refine r_nil ?_
  refine a_seq ?_
  refine a_region ?_
  refine rv (v := .int _ _) (v_move il nf) ?_
  refine rv (v := .int .u64 ((n / 2 : Nat) : Int)) ((v_shru il il (fun _ => by omega)).cast (int_eq (by simp))) ?_
  refine rv (v := .int .u64 ((n / 2 &&& 6148914691236517205 : Nat) : Int)) ((v_andw il il (fun _ => by omega)).cast (int_eq rfl)) ?_
  refine rv (v := .int _ _) (v_move il nf) ?_
  refine rv (v := .int .u64 ((n &&& 6148914691236517205 : Nat) : Int)) ((v_andw il il (fun _ => by omega)).cast (int_eq rfl)) ?_
  refine rv (v := .int .u64 (((oc1 n) : Nat) : Int)) ((v_addu il il (fun _ => by omega)).cast (int_eq rfl)) ?_
  refine rv (v := .int _ _) (v_assign il nf) ?_
  refine r_nil ?_
  refine a_seq ?_
  refine a_region ?_
  refine rv (v := .int _ _) (v_move il nf) ?_
  refine rv (v := .int .u64 (((oc1 n) / 4 : Nat) : Int)) ((v_shru il il (fun _ => by omega)).cast (int_eq (by simp))) ?_
  refine rv (v := .int .u64 (((oc1 n) / 4 &&& 3689348814741910323 : Nat) : Int)) ((v_andw il il (fun _ => by omega)).cast (int_eq rfl)) ?_
  refine rv (v := .int _ _) (v_move il nf) ?_
  refine rv (v := .int .u64 (((oc1 n) &&& 3689348814741910323 : Nat) : Int)) ((v_andw il il (fun _ => by omega)).cast (int_eq rfl)) ?_
  refine rv (v := .int .u64 (((oc2 (oc1 n)) : Nat) : Int)) ((v_addu il il (fun _ => by omega)).cast (int_eq rfl)) ?_
  refine rv (v := .int _ _) (v_assign il nf) ?_
  refine r_nil ?_
  refine a_seq ?_
  refine a_region ?_
  refine rv (v := .int _ _) (v_move il nf) ?_
  refine rv (v := .int .u64 (((oc2 (oc1 n)) / 16 : Nat) : Int)) ((v_shru il il (fun _ => by omega)).cast (int_eq (by simp))) ?_
  refine rv (v := .int _ _) (v_move il nf) ?_
  refine rv (v := .int .u64 (((oc2 (oc1 n)) / 16 + (oc2 (oc1 n)) : Nat) : Int)) ((v_addu il il (fun _ => by omega)).cast (int_eq rfl)) ?_
  refine rv (v := .int .u64 (((oc3 (oc2 (oc1 n))) : Nat) : Int)) ((v_andw il il (fun _ => by omega)).cast (int_eq rfl)) ?_
  refine rv (v := .int _ _) (v_assign il nf) ?_
  refine r_nil ?_
  refine a_seq ?_
  refine a_region ?_
  refine rv (v := .int _ _) (v_move il nf) ?_
  refine rv (v := .int _ _) (v_move il nf) ?_
  refine rv (v := .int .u64 (((oc3 (oc2 (oc1 n))) / 256 : Nat) : Int)) ((v_shru il il (fun _ => by omega)).cast (int_eq (by simp))) ?_
  refine rv (v := .int .u64 (((oc4 (oc3 (oc2 (oc1 n)))) : Nat) : Int)) ((v_addu il il (fun _ => by omega)).cast (int_eq rfl)) ?_
  refine rv (v := .int _ _) (v_assign il nf) ?_
  refine r_nil ?_
  refine a_seq ?_
  refine a_region ?_
  refine rv (v := .int _ _) (v_move il nf) ?_
  refine rv (v := .int _ _) (v_move il nf) ?_
  refine rv (v := .int .u64 (((oc4 (oc3 (oc2 (oc1 n)))) / 65536 : Nat) : Int)) ((v_shru il il (fun _ => by omega)).cast (int_eq (by simp))) ?_
  refine rv (v := .int .u64 (((oc5 (oc4 (oc3 (oc2 (oc1 n))))) : Nat) : Int)) ((v_addu il il (fun _ => by omega)).cast (int_eq rfl)) ?_
  refine rv (v := .int _ _) (v_assign il nf) ?_
  refine r_nil ?_
  refine a_seq ?_
  refine a_pre (ent_look (L := [(0, .int _ _), (2, .int _ _)]) ⟨Weak.rfl, Weak.rfl, trivial⟩) ?_
  refine a_region ?_
  refine rv (v := .int _ _) (v_move il nf) ?_
  refine rv (v := .int _ _) (v_move il nf) ?_
  refine rv (v := .int .u64 (((oc5 (oc4 (oc3 (oc2 (oc1 n))))) / 4294967296 : Nat) : Int)) ((v_shru il il (fun _ => by omega)).cast (int_eq (by simp))) ?_
  refine rv (v := .int .u64 (((oc6 (oc5 (oc4 (oc3 (oc2 (oc1 n)))))) : Nat) : Int)) ((v_addu il il (fun _ => by omega)).cast (int_eq rfl)) ?_
  refine rv (v := .int _ _) (v_assign il nf) ?_
  refine r_nil ?_
  refine a_seq ?_
  refine a_region ?_
  refine rv (v := .int _ _) (v_move il nf) ?_
  refine rv (v := .int _ _) (v_conv iss132 uni3 il (fun _ => by first | rfl | exact IntWalk.i64_in _ (by omega))) ?_
  refine rv (v := .int _ _) (v_and il il (fun _ => by omega)) ?_
  refine rv (v := .int _ _) (v_assign il nf) ?_
  refine r_nil ?_
  refine a_ret ?_
  refine ret1 Try.results118 (by decide) (by decide) (Weak.of_eq (int_eq ?_)) rfl Leaves.nil
  rfl
theorem onesA_c (n : Nat) (h : n < 18446744073709551616) : ACall Try.prog 105 [.int .u64 ((n : Nat) : Int)] [] (.int .i64 ((oc n : Nat) : Int)) [] := by
  refine ACall.intro Try.func105 rfl (N := 8) rfl (by decide) (by simp) ?_
  refine a_seq ?_
  refine a_region ?_
  refine rv (v := .int _ _) (v_assign il nf) ?_
  refine r_nil ?_
  refine a_seq ?_
  refine a_condF ?_
  refine a_skip ?_
  refine a_seq ?_
  refine a_region ?_
  refine rv (v := .int _ _) (v_move il nf) ?_
  refine rn (v := .int _ _) (q_call (vs := [.int _ _]) (args := [.int .u64 ((_ : Nat) : Int)]) hb118 ⟨il, trivial⟩ rfl (fun hA => ones64A_c _ h) rfl rfl) ?_
  refine rv (v := .int _ _) (v_assign il nf) ?_
  refine r_nil ?_
  refine a_ret ?_
  refine ret1 Try.results105 (by decide) (by decide) (Weak.of_eq (int_eq ?_)) rfl Leaves.nil
  rfl
theorem degreeA_c (x : Int) : ACall Try.prog 98 [.int .i64 x] [] (.int .i64 ((ocZ x : Nat) : Int)) [] := by
  refine ACall.intro Try.func98 rfl (N := 6) rfl (by decide) (by simp) ?_
  refine a_seq ?_
  refine a_region ?_
  refine rv (v := .int _ _) (v_assign il nf) ?_
  refine r_nil ?_
  refine a_seq ?_
  refine a_region ?_
  refine rv (v := .int _ _) (v_move il nf) ?_
  refine rv (v := .int .u64 ((u64N x : Nat) : Int)) ((v_convA iss3 uni120 il).cast (int_eq (u64N_cast x))) ?_
  refine rn (v := .int _ _) (q_call (vs := [.int _ _]) (args := [.int .u64 ((_ : Nat) : Int)]) hb105 ⟨il, trivial⟩ rfl (fun hA => onesA_c _ (u64N_lt x)) rfl rfl) ?_
  refine rv (v := .int _ _) (v_assign il nf) ?_
  refine r_nil ?_
  refine a_ret ?_
  refine ret1 Try.results98 (by decide) (by decide) (Weak.of_eq (int_eq ?_)) rfl Leaves.nil
  rfl
theorem cmpMono_c (x y : Int) : ACall Try.prog 99 [.int .i64 x, .int .i64 y] [] (.int .i64 (cfMono x y)) [] := by
  refine ACall.intro Try.func99 rfl (N := 15) rfl (by decide) (by simp) ?_
  refine a_seq ?_
  refine a_region ?_
  refine rv (v := .int _ _) (v_assign il nf) ?_
  refine r_nil ?_
  refine a_seq ?_
  refine a_region ?_
  refine rv (v := .int _ _) (v_move il nf) ?_
  refine rn (v := .int _ _) (q_call (vs := [.int _ _]) (args := [.int .i64 _]) hb98 ⟨il, trivial⟩ rfl (fun hA => degreeA_c _) rfl rfl) ?_
  refine rv (v := .int _ _) (v_move il nf) ?_
  refine rn (v := .int _ _) (q_call (vs := [.int _ _]) (args := [.int .i64 _]) hb98 ⟨il, trivial⟩ rfl (fun hA => degreeA_c _) rfl rfl) ?_
  refine rn (v := .int _ _) (q_call (vs := [.int _ _, .int _ _]) (args := [.int .i64 _, .int .i64 _]) hb103 ⟨il, il, trivial⟩ rfl (fun hA => cmp_c _ _) rfl rfl) ?_
  refine rv (v := .int _ _) (v_move il nf) ?_
  refine rv (v := .int _ _) (v_move il nf) ?_
  refine rn (v := .int _ _) (q_call (vs := [.int _ _, .int _ _]) (args := [.int .i64 _, .int .i64 _]) hb103 ⟨il, il, trivial⟩ rfl (fun hA => cmp_c _ _) rfl rfl) ?_
  refine rn (v := .osl 1 (icells [cmpI (ocZ x : Int) (ocZ y : Int), cmpI x y]) 2 (some 2)) (q_sliceLit (n := 2) (parts := [(0, .tmp 9), (1, .tmp 12)]) lt42 rfl rfl rfl rfl) ?_
  refine rn (v := .int _ _) (q_call (vs := [.rsl _ _ _ _ _]) (args := [.sl _ _]) hb102 ⟨il, trivial⟩ (l1_eq (sl_sh (ic_pure _))) (fun hA => or_c [cmpI (ocZ x : Int) (ocZ y : Int), cmpI x y] (by simp)) rfl rfl) ?_
  refine rv (v := .int _ _) (v_assign il nf) ?_
  refine r_nil ?_
  refine a_ret ?_
  refine ret1 Try.results99 (by decide) (by decide) (Weak.of_eq (int_eq ?_)) rfl Leaves.nil
  rw [cfMono_eq]
theorem graded_c (v d : Nat) (hv : v ≤ 6) (hd : d ≤ 6) : ACall Try.prog 80 [.int .i64 ((v : Nat) : Int), .int .i64 ((d : Nat) : Int)] [] (.osl 1 (icells (gradS v d)) (gradS v d).length none) [] := by
  have hp6 := pow_le64 hv
  refine ACall.intro Try.func80 rfl (N := 24) rfl (by decide) (by simp) ?_
  refine a_seq ?_
  refine a_region ?_
  refine rv (v := .nils) (v_assign il nf) ?_
  refine r_nil ?_
  refine a_seq ?_
  refine a_region ?_
  refine rv (v := .nils) (v_assign il nf) ?_
  refine r_nil ?_
  refine a_seq ?_
  refine a_seq ?_
  refine a_region ?_
  refine rv (v := .int _ _) (v_move il nf) ?_
  refine rv (v := .int .i64 ((2 ^ v : Nat) : Int)) ((v_shl il il (fun _ => by have := pow6 (v := (v : Int)) (by omega); omega)).cast (int_eq (by rw [Int.toNat_natCast]; simp))) ?_
  refine rv (v := .int _ _) (v_move il nf) ?_
  refine r_nil ?_
  refine a_block ?_
  refine a_pre (ent_nil (t := 5) (sz := 1) (cap := none) (.inl rfl) (fun _ h => by cases h)) ?_
  refine a_loop (X := Nat) (fun i => look [(1, .int .i64 ((d : Nat) : Int)), (5, .osl 1 (icells (((List.range i).filter fun m => decide (cntN m ≤ d)).map (fun m : Nat => (m : Int)))) (((List.range i).filter fun m => decide (cntN m ≤ d)).map (fun m : Nat => (m : Int))).length none), (8, .int .i64 ((2 ^ v : Nat) : Int)), (9, .int .i64 ((i : Nat) : Int))]) (fun i => i ≤ 2 ^ v) (fun i => 2 ^ v - i) 0 (ent_look ⟨Weak.of_eq rfl, Weak.osl rfl rfl, Weak.of_eq rfl, Weak.of_eq rfl, trivial⟩) (Nat.zero_le _) (fun i hG => ?_)
  refine a_seq ?_
  refine a_region ?_
  refine rv (v := .bool _) (v_lss il il) ?_
  refine r_nil ?_
  refine a_seq ?_
  refine a_cond rfl (fun ht10 => ?_) (fun ht10 => ?_)
  ·
    skip
    refine a_skip ?_
    refine a_seq ?_
    refine a_block ?_
    refine a_seq ?_
    have hi : i < 2 ^ v := (by have := of_decide_eq_true ht10; omega)
    have hoc := ocZ_of (m := i) (by omega)
    refine a_region ?_
    refine rv (v := .int _ _) (v_move il nf) ?_
    refine rv (v := .int _ _) (v_assign il nf) ?_
    refine r_nil ?_
    refine a_seq ?_
    refine a_region ?_
    refine rv (v := .int _ _) (v_move il nf) ?_
    refine rn (v := .int _ _) (q_call (vs := [.int _ _]) (args := [.int .i64 _]) hb98 ⟨il, trivial⟩ rfl (fun hA => degreeA_c _) rfl rfl) ?_
    refine rv (v := .int _ _) (v_move il nf) ?_
    refine rv (v := .bool _) (v_leq il il) ?_
    refine r_nil ?_
    refine a_cond rfl (fun ht15 => ?_) (fun ht15 => ?_)
    ·
      skip
      have hdg : decide (cntN i ≤ d) = true := (by simp at ht15; rw [decide_eq_true_iff]; omega)
      refine a_region ?_
      refine rv (v := .rsl _ _ _ _ _) (v_move il nf) ?_
      refine rv (v := .int _ _) (v_move il nf) ?_
      refine rn (v := .osl 1 (icells [(i : Int)]) 1 (some 1)) (q_sliceLit (n := 1) (parts := [(0, .tmp 17)]) lt42 rfl rfl rfl rfl) ?_
      refine r_pre (ent_reloc_sl (t := 16) rfl rfl) ?_
      refine r_step rfl (o_append rfl ap42 rfl (by decide) (by decide) rfl (src_lit (.inl rfl) rfl rfl (ic_pureL _)) (ic_cell _) (by rw [icells_length]; omega) (by have := List.length_filter_le (fun m => decide (cntN m ≤ d)) (List.range i); simp at this; simp; omega)) ?_
      refine rv (v := .rsl _ _ _ _ _) (v_assign il nf) ?_
      refine r_pre (ent_reloc_sl (t := 5) rfl rfl) ?_
      refine r_nil ?_
      first | (have hdg : decide (cntN i ≤ d) = true := (by simp at ht15; rw [decide_eq_true_iff]; omega)) | (have hdg : decide (cntN i ≤ d) = false := (by simp at ht15; rw [decide_eq_false_iff_not]; omega))
      refine a_region ?_
      refine rv (v := .int _ _) (v_add il il (fun _ => by omega)) ?_
      refine rv (v := .int _ _) (v_move il nf) ?_
      refine r_nil ?_
      refine ⟨i + 1, ent_look ⟨Weak.of_eq rfl, Weak.osl (by rw [filt_yes hdg]; simp [icells]) (by rw [filt_yes hdg]; simp), Weak.of_eq rfl, Weak.of_eq (int_eq (by omega)), trivial⟩, by omega, by omega⟩
    ·
      skip
      refine a_skip ?_
      first | (have hdg : decide (cntN i ≤ d) = true := (by simp at ht15; rw [decide_eq_true_iff]; omega)) | (have hdg : decide (cntN i ≤ d) = false := (by simp at ht15; rw [decide_eq_false_iff_not]; omega))
      refine a_region ?_
      refine rv (v := .int _ _) (v_add il il (fun _ => by omega)) ?_
      refine rv (v := .int _ _) (v_move il nf) ?_
      refine r_nil ?_
      refine ⟨i + 1, ent_look ⟨Weak.of_eq rfl, Weak.osl (by rw [filt_no hdg]) (by rw [filt_no hdg]), Weak.of_eq rfl, Weak.of_eq (int_eq (by omega)), trivial⟩, by omega, by omega⟩
  ·
    skip
    refine a_exit ?_
    refine a_seq ?_
    refine a_pre (ent_eq (t := 5) (v' := .osl 1 (icells (gradL v d)) (gradL v d).length none) (Weak.osl (by have := of_decide_eq_false ht10; rw [show i = 2 ^ v by omega]; rfl) (by have := of_decide_eq_false ht10; rw [show i = 2 ^ v by omega]; rfl))) ?_
    have hln : (gradL v d).length ≤ 64 := (by have := List.length_filter_le (fun m => decide (cntN m ≤ d)) (List.range (2 ^ v)); unfold gradL; simp at this ⊢; omega)
    refine a_region ?_
    refine rv (v := .rsl _ _ _ _ _) (v_move il nf) ?_
    refine r_step rfl (o_callIO (q := (5, [])) (vs := [.rsl _ _ _ _ _, .fn _ _ _]) (args := [.rsl (INH, []) _ _ _ _, .fn _ _ _]) (x0 := .osl _ _ _ _) (x1 := .osl _ _ _ _) (res := .tup []) rfl hb89 rfl (by decide) ⟨.inl rfl, .inl rfl, trivial⟩ rfl rfl (sortFunc_c 99 hb99 cfMono cmpMono_c cfMono_swo (gradL v d).toArray (gradL v d).length (by simp) (by omega)) rfl rfl rfl (ac_noSh _) (ac_noRef _) (Nat.le_of_ble_eq_true rfl) (by decide) rfl) ?_
    refine r_nil ?_
    refine a_seq ?_
    refine a_pre (ent_eq (t := 5) (v' := .osl 1 (icells (gradS v d)) (gradS v d).length none) (Weak.osl (by unfold acells; rw [grad_eq hv]) (by rw [← grad_eq hv]; simp [sort_sz cfMono_swo]))) ?_
    refine a_region ?_
    refine rv (v := .rsl _ _ _ _ _) (v_move il nf) ?_
    refine rv (v := .rsl _ _ _ _ _) (v_assign il nf) ?_
    refine r_pre (ent_reloc_sl (t := 4) rfl rfl) ?_
    refine r_nil ?_
    refine a_ret ?_
    refine ret1 Try.results80 (by decide) (by decide) (Weak.osl ?_ ?_) rfl Leaves.nil
    · rfl
    · rfl
end Go.Av
namespace Go.Av
open Go Go.Proofs Go.Sort
set_option maxRecDepth 10000
end Go.Av
namespace Go.Av
open Go Go.Proofs Go.Sort
set_option maxRecDepth 10000
end Go.Av
namespace Go.Av
open Go Go.Proofs Go.Sort
set_option maxRecDepth 10000
theorem hb96 : hasBody Try.prog 96 = true := by kernel_rfl
theorem cnt_c (n : Nat) (h : n < 64) : ACall Try.prog 96 [.int .i64 ((n : Nat) : Int)] [] (.int .i64 ((cntN n : Nat) : Int)) [] := by
  refine ACall.intro Try.func96 rfl (N := 13) rfl (by decide) (by simp) ?_
  refine a_seq ?_
  refine a_region ?_
  refine rv (v := .int _ _) (v_assign il nf) ?_
  refine r_nil ?_
  refine a_seq ?_
  refine a_region ?_
  refine rv (v := .int _ _) (v_assign il nf) ?_
  refine r_nil ?_
  refine a_seq ?_
  refine a_block ?_
  refine a_loop (X := (Nat × Nat × Nat)) (fun x => look [(0, .int .i64 ((x.2.1 : Nat) : Int)), (3, .int .i64 ((x.2.2 : Nat) : Int))]) (fun x => x.2.1 < 2 ^ x.1 ∧ x.1 ≤ 7 ∧ x.2.2 + cntB x.1 x.2.1 = cntN n ∧ x.2.2 + x.1 ≤ 7 ∧ x.2.1 ≤ 63) (fun x => x.2.1) (7, n, 0) (ent_look ⟨Weak.of_eq rfl, Weak.of_eq rfl, trivial⟩) ⟨by dsimp only; omega, Nat.le_refl _, by dsimp only; rw [Nat.zero_add]; rfl, by dsimp only; omega, by dsimp only; omega⟩ (fun x hG => ?_)
  obtain ⟨g1, g2, g3, g4, g5⟩ := hG
  refine a_seq ?_
  refine a_seq ?_
  refine a_region ?_
  refine rv (v := .int _ _) (v_move il nf) ?_
  refine rv (v := .bool _) (v_gtr il il) ?_
  refine r_nil ?_
  refine a_cond rfl (fun ht5 => ?_) (fun ht5 => ?_)
  ·
    skip
    refine a_skip ?_
    refine a_seq ?_
    refine a_block ?_
    have hx0 : 0 < x.2.1 := (by simp at ht5; omega)
    have hst := cntB_step hx0 g1
    refine a_region ?_
    refine rv (v := .int _ _) (v_move il nf) ?_
    refine rv (v := .int _ _) (v_move il nf) ?_
    refine rv (v := .int _ _) (v_rem il il (fun _ => by omega)) ?_
    refine rv (v := .int _ _) (v_add il il (fun _ => by omega)) ?_
    refine rv (v := .int _ _) (v_assign il nf) ?_
    refine r_nil ?_
    refine a_region ?_
    refine rv (v := .int _ _) (v_move il nf) ?_
    refine rv (v := .int _ _) (v_quo il il (fun _ => by omega)) ?_
    refine rv (v := .int _ _) (v_assign il nf) ?_
    refine r_nil ?_
    refine ⟨(x.1 - 1, x.2.1 / 2, x.2.2 + x.2.1 % 2), ent_look ⟨Weak.of_eq (int_eq (by dsimp only; omega)), Weak.of_eq (int_eq (by dsimp only; omega)), trivial⟩, ⟨hst.2.1, by dsimp only; omega, by dsimp only; rw [← g3, hst.2.2]; omega, by dsimp only; omega, by dsimp only; omega⟩, by dsimp only; omega⟩
  ·
    skip
    refine a_exit ?_
    refine a_seq ?_
    have hx0 : x.2.1 = 0 := (by simp at ht5; omega)
    refine a_region ?_
    refine rv (v := .int _ _) (v_move il nf) ?_
    refine rv (v := .int _ _) (v_assign il nf) ?_
    refine r_nil ?_
    refine a_ret ?_
    refine ret1 Try.results96 (by decide) (by decide) (Weak.of_eq (int_eq ?_)) rfl Leaves.nil
    rw [← g3, hx0, cntB_zero]; rfl
theorem l18Graded_c (v d : Nat) (hv : v ≤ 6) (hd : d ≤ 6) : ACall Try.prog 74 [.int .i64 ((v : Nat) : Int), .int .i64 ((d : Nat) : Int)] [] (.osl 1 (icells (gradS v d)) (gradS v d).length none) [] := by
  have hp6 := pow_le64 hv
  refine ACall.intro Try.func74 rfl (N := 29) rfl (by decide) (by simp) ?_
  refine a_seq ?_
  refine a_region ?_
  refine rv (v := .nils) (v_assign il nf) ?_
  refine r_nil ?_
  refine a_seq ?_
  refine a_region ?_
  refine rn (v := .osl _ _ _ _) (q_sliceLit (n := 0) (parts := []) lt42 rfl rfl rfl rfl) ?_
  refine rv (v := .rsl _ _ _ _ _) (v_assign il nf) ?_
  refine r_pre (ent_reloc_sl (t := 5) rfl rfl) ?_
  refine r_nil ?_
  refine a_seq ?_
  refine a_seq ?_
  refine a_region ?_
  refine rv (v := .int _ _) (v_assign il nf) ?_
  refine r_nil ?_
  refine a_block ?_
  refine a_loop (X := Nat) (fun k => look [(0, .int .i64 ((v : Nat) : Int)), (1, .int .i64 ((d : Nat) : Int)), (5, .osl 1 (icells (firstK v k)) (firstK v k).length none), (6, .int .i64 ((k : Nat) : Int))]) (fun k => k ≤ d + 1) (fun k => d + 1 - k) 0 (ent_look ⟨Weak.of_eq rfl, Weak.of_eq rfl, Weak.osl rfl rfl, Weak.of_eq rfl, trivial⟩) (Nat.zero_le _) (fun k hG => ?_)
  have hfk := firstK_len hv k
  refine a_seq ?_
  refine a_seq ?_
  refine a_region ?_
  refine rv (v := .int _ _) (v_move il nf) ?_
  refine rv (v := .int _ _) (v_move il nf) ?_
  refine rv (v := .bool _) (v_leq il il) ?_
  refine r_nil ?_
  refine a_cond rfl (fun ht11 => ?_) (fun ht11 => ?_)
  ·
    skip
    refine a_skip ?_
    refine a_seq ?_
    refine a_block ?_
    refine a_seq ?_
    refine a_region ?_
    refine rv (v := .int _ _) (v_assign il nf) ?_
    refine r_nil ?_
    refine a_block ?_
    refine a_loop (X := Nat) (fun m => look [(0, .int .i64 ((v : Nat) : Int)), (1, .int .i64 ((d : Nat) : Int)), (5, .osl 1 (icells (firstK v k ++ partK k m)) (firstK v k ++ partK k m).length none), (6, .int .i64 ((k : Nat) : Int)), (7, .int .i64 ((m : Nat) : Int))]) (fun m => m ≤ 2 ^ v) (fun m => 2 ^ v - m) 0 (ent_look ⟨Weak.of_eq rfl, Weak.of_eq rfl, Weak.osl (by simp [partK]) (by simp [partK]), Weak.of_eq rfl, Weak.of_eq rfl, trivial⟩) (Nat.zero_le _) (fun m hG => ?_)
    have hpk := partK_len k m
    refine a_seq ?_
    refine a_seq ?_
    refine a_region ?_
    refine rv (v := .int _ _) (v_move il nf) ?_
    refine rv (v := .int _ _) (v_move il nf) ?_
    refine rv (v := .int .i64 ((2 ^ v : Nat) : Int)) ((v_shl il il (fun _ => by have := pow6 (v := (v : Int)) (by omega); omega)).cast (int_eq (by rw [Int.toNat_natCast]; simp))) ?_
    refine rv (v := .bool _) (v_lss il il) ?_
    refine r_nil ?_
    refine a_cond rfl (fun ht17 => ?_) (fun ht17 => ?_)
    ·
      skip
      refine a_skip ?_
      refine a_seq ?_
      refine a_block ?_
      refine a_seq ?_
      have hm : m < 2 ^ v := (by have := of_decide_eq_true ht17; omega)
      have hkd : k ≤ d := (by simp at ht11; omega)
      refine a_region ?_
      refine rv (v := .int _ _) (v_move il nf) ?_
      refine rn (v := .int _ _) (q_call (vs := [.int _ _]) (args := [.int .i64 _]) hb96 ⟨il, trivial⟩ rfl (fun hA => cnt_c m (by omega)) rfl rfl) ?_
      refine rv (v := .int _ _) (v_move il nf) ?_
      refine rv (v := .bool _) (v_eql il il) ?_
      refine r_nil ?_
      refine a_cond rfl (fun ht23 => ?_) (fun ht23 => ?_)
      ·
        skip
        have hck : cntN m = k := (by simp at ht23; omega)
        refine a_region ?_
        refine rv (v := .rsl _ _ _ _ _) (v_move il nf) ?_
        refine rv (v := .int _ _) (v_move il nf) ?_
        refine rn (v := .osl 1 (icells [(m : Int)]) 1 (some 1)) (q_sliceLit (n := 1) (parts := [(0, .tmp 25)]) lt42 rfl rfl rfl rfl) ?_
        refine r_pre (ent_reloc_sl (t := 24) rfl rfl) ?_
        refine r_step rfl (o_append rfl ap42 rfl (by decide) (by decide) rfl (src_lit (.inl rfl) rfl rfl (ic_pureL _)) (ic_cell _) (by rw [icells_length]; omega) (by rw [List.length_append]; omega)) ?_
        refine rv (v := .rsl _ _ _ _ _) (v_assign il nf) ?_
        refine r_pre (ent_reloc_sl (t := 5) rfl rfl) ?_
        refine r_nil ?_
        first | (have hck : cntN m = k := (by simp at ht23; omega)) | (have hck : ¬ cntN m = k := (by simp at ht23; omega))
        refine a_region ?_
        refine rv (v := .int _ _) (v_move il nf) ?_
        refine rv (v := .int _ _) (v_add il il (fun _ => by omega)) ?_
        refine rv (v := .int _ _) (v_assign il nf) ?_
        refine r_nil ?_
        refine ⟨m + 1, ent_look ⟨Weak.of_eq rfl, Weak.of_eq rfl, Weak.osl (by rw [partK_yes hck]; simp [icells]) (by rw [partK_yes hck]; simp; omega), Weak.of_eq rfl, Weak.of_eq (int_eq (by omega)), trivial⟩, by omega, by omega⟩
      ·
        skip
        refine a_skip ?_
        first | (have hck : cntN m = k := (by simp at ht23; omega)) | (have hck : ¬ cntN m = k := (by simp at ht23; omega))
        refine a_region ?_
        refine rv (v := .int _ _) (v_move il nf) ?_
        refine rv (v := .int _ _) (v_add il il (fun _ => by omega)) ?_
        refine rv (v := .int _ _) (v_assign il nf) ?_
        refine r_nil ?_
        refine ⟨m + 1, ent_look ⟨Weak.of_eq rfl, Weak.of_eq rfl, Weak.osl (by rw [partK_no hck]) (by rw [partK_no hck]), Weak.of_eq rfl, Weak.of_eq (int_eq (by omega)), trivial⟩, by omega, by omega⟩
    ·
      skip
      refine a_exit ?_
      refine a_region ?_
      refine rv (v := .int _ _) (v_move il nf) ?_
      refine rv (v := .int _ _) (v_add il il (fun _ => by omega)) ?_
      refine rv (v := .int _ _) (v_assign il nf) ?_
      refine r_nil ?_
      have hme : m = 2 ^ v := (by have := of_decide_eq_false ht17; omega)
      refine ⟨k + 1, ent_look ⟨Weak.of_eq rfl, Weak.of_eq rfl, Weak.osl (by rw [firstK_succ, hme]) (by rw [firstK_succ, hme]), Weak.of_eq (int_eq (by omega)), trivial⟩, by simp at ht11; omega, by simp at ht11; omega⟩
  ·
    skip
    refine a_exit ?_
    refine a_seq ?_
    refine a_region ?_
    refine rv (v := .rsl _ _ _ _ _) (v_move il nf) ?_
    refine rv (v := .rsl _ _ _ _ _) (v_assign il nf) ?_
    refine r_pre (ent_reloc_sl (t := 4) rfl rfl) ?_
    refine r_nil ?_
    refine a_ret ?_
    refine ret1 Try.results74 (by decide) (by decide) (Weak.osl ?_ ?_) rfl Leaves.nil
    · simp at ht11; rw [show k = d + 1 by omega]; rfl
    · simp at ht11; rw [show k = d + 1 by omega]; rfl
end Go.Av
namespace Go.Av
open Go Go.Proofs Go.Sort
set_option maxRecDepth 10000
end Go.Av
namespace Go.Av
open Go Go.Proofs Go.Sort
set_option maxRecDepth 10000
end Go.Av
namespace Go.Av
open Go Go.Proofs Go.Sort
set_option maxRecDepth 10000
end Go.Av
namespace Go.Av
open Go Go.Proofs Go.Sort
set_option maxRecDepth 10000
theorem es22 : elemSize Try.prog 22 = some 1 := by kernel_rfl
theorem fo24_0 : fieldOff Try.prog 24 0 = some 0 := by kernel_rfl
theorem fo24_1 : fieldOff Try.prog 24 1 = some 1 := by kernel_rfl
theorem fo32_0 : fieldOff Try.prog 32 0 = some 0 := by kernel_rfl
theorem fo32_1 : fieldOff Try.prog 32 1 = some 1 := by kernel_rfl
theorem hb29 : hasBody Try.prog 29 = true := by kernel_rfl
theorem hb37 : hasBody Try.prog 37 = true := by kernel_rfl
theorem hb41 : hasBody Try.prog 41 = true := by kernel_rfl
theorem hb51 : hasBody Try.prog 51 = true := by kernel_rfl
theorem hb56 : hasBody Try.prog 56 = true := by kernel_rfl
theorem hb62 : hasBody Try.prog 62 = true := by kernel_rfl
theorem hb68 : hasBody Try.prog 68 = true := by kernel_rfl
theorem hb70 : hasBody Try.prog 70 = true := by kernel_rfl
theorem sb42 : (Try.prog.info? 42).map (fun i => (i.size, i.bytes)) = some (1, 24) := by kernel_rfl
theorem sl22 : isSlice Try.prog 22 = true := by kernel_rfl
theorem ta22 : tyAgg Try.prog 22 = some (false, 1) := by kernel_rfl
theorem ta24 : tyAgg Try.prog 24 = some (true, 2) := by kernel_rfl
theorem ta42 : tyAgg Try.prog 42 = some (false, 1) := by kernel_rfl
theorem us22 : Try.prog.underlying 22 = some (.slice 42) := by kernel_rfl
theorem zc24 : zeroCells Try.prog 24 = some [.int .i64 0, .nils] := by kernel_rfl
theorem zc42 : zeroCells Try.prog 42 = some [.nils] := by kernel_rfl
theorem szIntS_c (c : List Int) (left : Int) (hl : 0 ≤ left ∧ left ≤ 1000000000) (hc : (c.length : Int) ≤ 9223372036854775807) : ACall Try.prog 56 [.sl (icells c) c.length, .int .i64 left] [] (.int .i64 (szR left c.length)) [] := by
  refine ACall.intro Try.func56 rfl (N := 12) rfl (by decide) (by simp) ?_
  refine a_seq ?_
  refine a_region ?_
  refine rv (v := .int _ _) (v_assign il nf) ?_
  refine r_nil ?_
  refine a_seq ?_
  refine a_region ?_
  refine rv (v := .int _ _) (v_move il nf) ?_
  refine rv (v := .sl _ _) (v_move il nf) ?_
  refine rv (v := .int _ _) (v_len_sl sl42 il) ?_
  refine rv (v := .int _ _) (v_sub il il (fun _ => by omega)) ?_
  refine rv (v := .int _ _) (v_assign il nf) ?_
  refine r_nil ?_
  refine a_seq ?_
  refine a_seq ?_
  refine a_region ?_
  refine rv (v := .int _ _) (v_move il nf) ?_
  refine rv (v := .bool _) (v_lss il il) ?_
  refine r_nil ?_
  refine a_cond rfl (fun ht10 => ?_) (fun ht10 => ?_)
  ·
    skip
    refine a_seq ?_
    refine a_region ?_
    refine rv (v := .int _ _) (v_assign il nf) ?_
    refine r_nil ?_
    refine a_ret ?_
    refine ret1 Try.results56 (by decide) (by decide) (Weak.of_eq (int_eq ?_)) rfl Leaves.nil
    unfold szR; rw [if_pos (by simpa using ht10)]
  ·
    skip
    refine a_skip ?_
    refine a_seq ?_
    refine a_region ?_
    refine rv (v := .int _ _) (v_move il nf) ?_
    refine rv (v := .int _ _) (v_assign il nf) ?_
    refine r_nil ?_
    refine a_ret ?_
    refine ret1 Try.results56 (by decide) (by decide) (Weak.of_eq (int_eq ?_)) rfl Leaves.nil
    unfold szR; rw [if_neg (by simpa using ht10)]
theorem szIntSS_c (L : List (List Int)) (left : Int) (hl : 0 ≤ left ∧ left ≤ 1000000000) (hlen : ∀ i, ((gl L i).length : Int) ≤ 9223372036854775807) (hL : (L.length : Int) ≤ 9223372036854775807) : ACall Try.prog 37 [.sl (sls L) L.length, .int .i64 left] [] (.int .i64 (szR left ((L.length + tot L L.length : Nat) : Int))) [] := by
  refine ACall.intro Try.func37 rfl (N := 27) rfl (by decide) (by simp) ?_
  refine a_seq ?_
  refine a_region ?_
  refine rv (v := .int _ _) (v_assign il nf) ?_
  refine r_nil ?_
  refine a_seq ?_
  refine a_region ?_
  refine rv (v := .int _ _) (v_move il nf) ?_
  refine rv (v := .sl _ _) (v_move il nf) ?_
  refine rv (v := .int _ _) (v_len_sl sl22 il) ?_
  refine rv (v := .int _ _) (v_sub il il (fun _ => by omega)) ?_
  refine rv (v := .int _ _) (v_assign il nf) ?_
  refine r_nil ?_
  refine a_seq ?_
  refine a_seq ?_
  refine a_region ?_
  refine rv (v := .int _ _) (v_move il nf) ?_
  refine rv (v := .bool _) (v_lss il il) ?_
  refine r_nil ?_
  refine a_cond rfl (fun ht11 => ?_) (fun ht11 => ?_)
  ·
    skip
    refine a_seq ?_
    refine a_region ?_
    refine rv (v := .int _ _) (v_assign il nf) ?_
    refine r_nil ?_
    refine a_ret ?_
    refine ret1 Try.results37 (by decide) (by decide) (Weak.of_eq (int_eq ?_)) rfl Leaves.nil
    unfold szR; rw [if_pos (by simp at ht11; omega)]
  ·
    skip
    refine a_skip ?_
    refine a_seq ?_
    refine a_seq ?_
    refine a_region ?_
    refine rv (v := .int _ _) (v_assign il nf) ?_
    refine r_nil ?_
    refine a_block ?_
    refine a_loop (X := Nat) (fun i => look [(0, .sl (sls L) L.length), (1, .int .i64 (left - L.length - (tot L i : Nat))), (5, .int .i64 ((i : Nat) : Int))]) (fun i => i ≤ L.length ∧ 0 ≤ left - L.length - (tot L i : Nat)) (fun i => L.length - i) 0 (ent_look ⟨Weak.of_eq rfl, Weak.of_eq (int_eq (by simp [tot_zero])), Weak.of_eq rfl, trivial⟩) ⟨Nat.zero_le _, by simp [tot_zero]; simpa using ht11⟩ (fun i hG => ?_)
    obtain ⟨g1, g2⟩ := hG
    have hli := hlen i
    have htl := tot_le L i
    have htl1 := tot_le L (i + 1)
    refine a_seq ?_
    refine a_seq ?_
    refine a_region ?_
    refine rv (v := .int _ _) (v_move il nf) ?_
    refine rv (v := .sl _ _) (v_move il nf) ?_
    refine rv (v := .int _ _) (v_len_sl sl22 il) ?_
    refine rv (v := .bool _) (v_lss il il) ?_
    refine r_nil ?_
    refine a_cond rfl (fun ht15 => ?_) (fun ht15 => ?_)
    ·
      skip
      refine a_skip ?_
      refine a_seq ?_
      refine a_block ?_
      refine a_seq ?_
      have hi : i < L.length := (by simp at ht15; omega)
      have hgt := tot_more hi
      refine a_region ?_
      refine rv (v := .sl _ _) (v_move il nf) ?_
      refine rv (v := .int _ _) (v_move il nf) ?_
      refine rv (v := .pp _ _) (v_indexAddr_sl es22 il il (fun _ => ⟨by omega, by omega, sls_ne hi⟩)) ?_
      refine rv (v := .sl (icells (gl L i)) (gl L i).length) (v_load_pp ta42 il (fun _ => by rw [Nat.mul_one]; exact sls_get hi) rfl) ?_
      refine rv (v := .int _ _) (v_move il nf) ?_
      refine rn (v := .int _ _) (q_call (vs := [.sl _ _, .int _ _]) (args := [.sl _ _, .int .i64 _]) hb56 ⟨il, il, trivial⟩ rfl (fun hA => szIntS_c (gl L i) _ (by omega) (by omega)) rfl rfl) ?_
      refine rv (v := .int _ _) (v_assign il nf) ?_
      refine r_nil ?_
      refine a_seq ?_
      refine a_region ?_
      refine rv (v := .int _ _) (v_move il nf) ?_
      refine rv (v := .bool _) (v_lss il il) ?_
      refine r_nil ?_
      refine a_cond rfl (fun ht25 => ?_) (fun ht25 => ?_)
      ·
        skip
        refine a_seq ?_
        have hneg : left - L.length - (tot L i : Nat) - ((gl L i).length : Int) < 0 := (by have h25 := of_decide_eq_true ht25; unfold szR at h25; split at h25 <;> omega)
        refine a_region ?_
        refine rv (v := .int _ _) (v_assign il nf) ?_
        refine r_nil ?_
        refine a_ret ?_
        refine ret1 Try.results37 (by decide) (by decide) (Weak.of_eq (int_eq ?_)) rfl Leaves.nil
        unfold szR; rw [if_pos (by omega)]
      ·
        skip
        refine a_skip ?_
        refine a_region ?_
        refine rv (v := .int _ _) (v_move il nf) ?_
        refine rv (v := .int _ _) (v_add il il (fun _ => by omega)) ?_
        refine rv (v := .int _ _) (v_assign il nf) ?_
        refine r_nil ?_
        have hge : ¬ left - L.length - (tot L i : Nat) - ((gl L i).length : Int) < 0 := (by intro h; simp [szR, h] at ht25)
        refine ⟨i + 1, ent_look ⟨Weak.of_eq rfl, Weak.of_eq (int_eq (by unfold szR; rw [if_neg (by omega), hgt]; omega)), Weak.of_eq (int_eq (by omega)), trivial⟩, ⟨by omega, by omega⟩, by omega⟩
    ·
      skip
      refine a_exit ?_
      refine a_seq ?_
      have hie : i = L.length := (by simp at ht15; omega)
      refine a_region ?_
      refine rv (v := .int _ _) (v_move il nf) ?_
      refine rv (v := .int _ _) (v_assign il nf) ?_
      refine r_nil ?_
      refine a_ret ?_
      refine ret1 Try.results37 (by decide) (by decide) (Weak.of_eq (int_eq ?_)) rfl Leaves.nil
      unfold szR; subst hie; rw [if_neg (by omega)]; omega
theorem szCnf_c (vars : Int) (L : List (List Int)) (left : Int) (hl : 0 ≤ left ∧ left ≤ 1000000000) (hlen : ∀ i, ((gl L i).length : Int) ≤ 9223372036854775807) (hL : (L.length : Int) ≤ 9223372036854775807) : ACall Try.prog 16 [.agg [.int .i64 vars, .sl (sls L) L.length], .int .i64 left] [] (.int .i64 (szR left ((L.length + tot L L.length : Nat) : Int))) [] := by
  refine ACall.intro Try.func16 rfl (N := 12) rfl (by decide) (by simp) ?_
  refine a_seq ?_
  refine a_region ?_
  refine rn (v := .op [.int _ _, .sl _ _]) (q_box il rfl rfl) ?_
  refine rv (v := .int _ _) (v_assign il nf) ?_
  refine r_nil ?_
  refine a_seq ?_
  refine a_region ?_
  refine rv (v := .rp _ _) (v_fieldAddr_rp fo32_1 il) ?_
  refine rv (v := .sl _ _) (v_load_rp1 ta22 il rfl (fun _ => rfl) rfl) ?_
  refine rv (v := .int _ _) (v_move il nf) ?_
  refine rn (v := .int _ _) (q_call (vs := [.sl _ _, .int _ _]) (args := [.sl _ _, .int .i64 _]) hb37 ⟨il, il, trivial⟩ rfl (fun hA => szIntSS_c L left hl hlen hL) rfl rfl) ?_
  refine rv (v := .int _ _) (v_assign il nf) ?_
  refine r_nil ?_
  refine a_seq ?_
  refine a_seq ?_
  refine a_region ?_
  refine rv (v := .int _ _) (v_move il nf) ?_
  refine rv (v := .bool _) (v_lss il il) ?_
  refine r_nil ?_
  refine a_cond rfl (fun ht10 => ?_) (fun ht10 => ?_)
  ·
    skip
    refine a_seq ?_
    refine a_region ?_
    refine rv (v := .int _ _) (v_assign il nf) ?_
    refine r_nil ?_
    refine a_ret ?_
    refine ret1 Try.results16 (by decide) (by decide) (Weak.of_eq (int_eq ?_)) rfl Leaves.nil
    have h10 := of_decide_eq_true ht10; unfold szR at h10 ⊢; split at h10 <;> rename_i hh; rw [if_pos hh]; omega
  ·
    skip
    refine a_skip ?_
    refine a_seq ?_
    refine a_region ?_
    refine rv (v := .int _ _) (v_move il nf) ?_
    refine rv (v := .int _ _) (v_assign il nf) ?_
    refine r_nil ?_
    refine a_ret ?_
    refine ret1 Try.results16 (by decide) (by decide) (Weak.of_eq (int_eq ?_)) rfl Leaves.nil
    rfl
theorem toIntSS_c (L : List (List Int)) (hL : L.length ≤ 1048576) (ht : tot L L.length ≤ 1048576) : ACall Try.prog 41 [.sl (sls L) L.length] [] (.osl 1 (osls L) L.length none) [] := by
  refine ACall.intro Try.func41 rfl (N := 23) rfl (by decide) (by simp) ?_
  refine a_seq ?_
  refine a_region ?_
  refine rv (v := .nils) (v_assign il nf) ?_
  refine r_nil ?_
  refine a_seq ?_
  refine a_region ?_
  refine rv (v := .sl _ _) (v_move il nf) ?_
  refine rv (v := .int _ _) (v_len_sl sl22 il) ?_
  refine rn (v := .osl _ _ _ _) (q_makeSlice us22 sb42 zc42 rfl (by decide) il il (fun _ => by omega)) ?_
  refine rv (v := .rsl _ _ _ _ _) (v_assign il nf) ?_
  refine r_pre (ent_reloc_sl (t := 3) rfl rfl) ?_
  refine r_nil ?_
  refine a_seq ?_
  refine a_seq ?_
  refine a_region ?_
  refine rv (v := .int _ _) (v_assign il nf) ?_
  refine r_nil ?_
  refine a_block ?_
  refine a_loop (X := Nat) (fun i => look [(0, .sl (sls L) L.length), (3, .osl 1 (partO L i) L.length (some L.length)), (4, .int .i64 ((i : Nat) : Int))]) (fun i => i ≤ L.length) (fun i => L.length - i) 0 (ent_look ⟨Weak.of_eq rfl, Weak.of_eq (osl_eq (by rw [partO_zero])), Weak.of_eq rfl, trivial⟩) (Nat.zero_le _) (fun i hG => ?_)
  refine a_seq ?_
  refine a_seq ?_
  refine a_region ?_
  refine rv (v := .int _ _) (v_move il nf) ?_
  refine rv (v := .sl _ _) (v_move il nf) ?_
  refine rv (v := .int _ _) (v_len_sl sl22 il) ?_
  refine rv (v := .bool _) (v_lss il il) ?_
  refine r_nil ?_
  refine a_cond rfl (fun ht11 => ?_) (fun ht11 => ?_)
  ·
    skip
    refine a_skip ?_
    refine a_seq ?_
    refine a_block ?_
    have hi : i < L.length := (by simp at ht11; omega)
    have hle := len_tot (L := L) (i := i)
    have hpl : i * 1 + 1 ≤ (partO L i).length := (by rw [partO_length (by omega)]; omega)
    have hset : (partO L i).set (i * 1) (.osl 1 (icells (gl L i)) (gl L i).length none) = partO L (i + 1) := (by rw [Nat.mul_one, partO_set hi])
    refine a_region ?_
    refine rv (v := .rsl _ _ _ _ _) (v_move il nf) ?_
    refine rv (v := .int _ _) (v_move il nf) ?_
    refine rv (v := .sl _ _) (v_move il nf) ?_
    refine rv (v := .int _ _) (v_move il nf) ?_
    refine rv (v := .pp _ _) (v_indexAddr_sl es22 il il (fun _ => ⟨by omega, by omega, sls_ne hi⟩)) ?_
    refine rv (v := .sl (icells (gl L i)) (gl L i).length) (v_load_pp ta42 il (fun _ => by rw [Nat.mul_one]; exact sls_get hi) rfl) ?_
    refine rn (v := .osl _ _ _ _) (q_call (vs := [.sl _ _]) (args := [.sl _ _]) hb62 ⟨il, trivial⟩ rfl (fun hA => toIntS_c (gl L i) (by omega)) (ic_noSh _) (ic_noRef _)) ?_
    refine rv (v := .rp _ _) (v_indexAddr_rsl0 es22 il il (fun _ => by omega)) ?_
    refine r_step rfl (o_store_own (v := .osl _ _ _ _) (y' := .osl 1 (partO L (i + 1)) L.length (some L.length)) rfl rfl ta42 (.inl rfl) (by decide) rfl (by decide) rfl (by simp [cellsOf, noRefL, noRef, ic_noRef]) rfl rfl rfl rfl rfl hpl rfl (congrArg (fun c => AV.osl 1 c L.length (some L.length)) hset)) ?_
    refine r_nil ?_
    refine a_region ?_
    refine rv (v := .int _ _) (v_move il nf) ?_
    refine rv (v := .int _ _) (v_add il il (fun _ => by omega)) ?_
    refine rv (v := .int _ _) (v_assign il nf) ?_
    refine r_nil ?_
    refine ⟨i + 1, ent_look ⟨Weak.of_eq rfl, Weak.of_eq rfl, Weak.of_eq (int_eq (by omega)), trivial⟩, by omega, by omega⟩
  ·
    skip
    refine a_exit ?_
    refine a_seq ?_
    refine a_region ?_
    refine rv (v := .rsl _ _ _ _ _) (v_move il nf) ?_
    refine rv (v := .rsl _ _ _ _ _) (v_assign il nf) ?_
    refine r_pre (ent_reloc_sl (t := 2) rfl rfl) ?_
    refine r_nil ?_
    refine a_ret ?_
    refine ret1 Try.results41 (by decide) (by decide) (Weak.osl ?_ ?_) rfl Leaves.nil
    · simp at ht11; rw [partO_full (by omega)]
    · rfl
theorem toCnf_c (vars : Int) (L : List (List Int)) (hL : L.length ≤ 1048576) (ht : tot L L.length ≤ 1048576) : ACall Try.prog 18 [.agg [.int .i64 vars, .sl (sls L) L.length]] [] (.agg [.int .i64 vars, .osl 1 (osls L) L.length none]) [] := by
  refine ACall.intro Try.func18 rfl (N := 12) rfl (by decide) (by simp) ?_
  refine a_seq ?_
  refine a_region ?_
  refine rn (v := .op [.int _ _, .sl _ _]) (q_box il rfl rfl) ?_
  refine rn (v := .op [.int _ _, .nils]) (q_alloc zc24) ?_
  refine r_nil ?_
  refine a_seq ?_
  refine a_region ?_
  refine rn (v := .op [.int _ _, .nils]) (q_alloc zc24) ?_
  refine r_nil ?_
  refine a_seq ?_
  refine a_region ?_
  refine rv (v := .rp _ _) (v_fieldAddr_rp fo32_0 il) ?_
  refine rv (v := .int _ _) (v_load_rp1 ta3 il rfl (fun _ => rfl) rfl) ?_
  refine rv (v := .rp _ _) (v_fieldAddr_rp fo24_0 il) ?_
  refine r_step rfl (o_store (v := .int _ _) (y' := .op [.int _ _, .nils]) rfl rfl ta3 il il rfl rfl rfl rfl rfl rfl (Nat.le_of_ble_eq_true rfl) (by decide) rfl rfl) ?_
  refine r_nil ?_
  refine a_seq ?_
  refine a_region ?_
  refine rv (v := .rp _ _) (v_fieldAddr_rp fo32_1 il) ?_
  refine rv (v := .sl _ _) (v_load_rp1 ta22 il rfl (fun _ => rfl) rfl) ?_
  refine rn (v := .osl _ _ _ _) (q_call (vs := [.sl _ _]) (args := [.sl _ _]) hb41 ⟨il, trivial⟩ rfl (fun hA => toIntSS_c L hL ht) (osls_noSh _) (osls_noRef _)) ?_
  refine rv (v := .rp _ _) (v_fieldAddr_rp fo24_1 il) ?_
  refine r_step rfl (o_store_own (v := .osl _ _ _ _) (y' := .op [.int _ _, .osl _ _ _ _]) rfl rfl ta22 (.inl rfl) (by decide) rfl (by decide) rfl (by simp [cellsOf, noRefL, noRef, osls_noRef]) rfl rfl rfl rfl rfl (Nat.le_of_ble_eq_true rfl) rfl rfl) ?_
  refine r_nil ?_
  refine a_seq ?_
  refine a_region ?_
  refine rv (v := .agg [.int _ _, .rsl _ _ _ _ _]) (v_load_rpa (xs := [.int _ _, .osl _ _ _ _]) ta24 il rfl rfl (fun _ => take_get rfl)) ?_
  refine r_pre (ent_reloc_at_sl (t := 11) (r := [1]) rfl (by decide) rfl rfl) ?_
  refine r_step rfl (o_store_own (v := .agg [.int _ _, .osl _ _ _ _]) (y' := .op [.int _ _, .osl _ _ _ _]) rfl rfl ta24 (.inl rfl) (by decide) rfl (by decide) rfl (by simp [cellsOf, noRefL, noRef, osls_noRef]) rfl rfl rfl rfl rfl (Nat.le_of_ble_eq_true rfl) rfl rfl) ?_
  refine r_nil ?_
  refine a_ret ?_
  refine retC1 (r := .cell 2 24) Try.results18 ⟨by decide, _, cell_agg rfl ta24, rfl⟩ (by decide) (Weak.of_eq (agg_eq (l2_eq (int_eq ?_) (osl_eq2 ?_ ?_)))) rfl Leaves.nil
  all_goals rfl
theorem eqIntSS_c (L M : List (List Int)) (hL : (L.length : Int) ≤ 9223372036854775807) (hM : (M.length : Int) ≤ 9223372036854775807) (hlen : ∀ i, ((gl L i).length : Int) ≤ 9223372036854775807) : ACall Try.prog 29 [.sl (sls L) L.length, .sl (sls M) M.length] [] (.bool (decide (L = M))) [] := by
  refine ACall.intro Try.func29 rfl (N := 27) rfl (by decide) (by simp) ?_
  refine a_seq ?_
  refine a_region ?_
  refine rv (v := .bool _) (v_assign il nf) ?_
  refine r_nil ?_
  refine a_seq ?_
  refine a_seq ?_
  refine a_region ?_
  refine rv (v := .sl _ _) (v_move il nf) ?_
  refine rv (v := .int _ _) (v_len_sl sl22 il) ?_
  refine rv (v := .sl _ _) (v_move il nf) ?_
  refine rv (v := .int _ _) (v_len_sl sl22 il) ?_
  refine rv (v := .bool _) (v_neq il il) ?_
  refine r_nil ?_
  refine a_cond rfl (fun ht10 => ?_) (fun ht10 => ?_)
  ·
    skip
    refine a_seq ?_
    refine a_region ?_
    refine rv (v := .bool _) (v_assign il nf) ?_
    refine r_nil ?_
    refine a_ret ?_
    refine ret1 Try.results29 (by decide) (by decide) (Weak.of_eq (bool_eq ?_)) rfl Leaves.nil
    simp at ht10; exact (decide_eq_false (fun h => ht10 (by rw [h]))).symm
  ·
    skip
    refine a_skip ?_
    refine a_seq ?_
    refine a_seq ?_
    refine a_region ?_
    refine rv (v := .int _ _) (v_assign il nf) ?_
    refine r_nil ?_
    refine a_block ?_
    refine a_loop (X := Nat) (fun i => look [(0, .sl (sls L) L.length), (1, .sl (sls M) M.length), (5, .int .i64 ((i : Nat) : Int))]) (fun i => i ≤ L.length ∧ L.length = M.length ∧ L.take i = M.take i) (fun i => L.length - i) 0 (ent_look ⟨Weak.of_eq rfl, Weak.of_eq rfl, Weak.of_eq rfl, trivial⟩) ⟨Nat.zero_le _, by simp at ht10; omega, rfl⟩ (fun i hG => ?_)
    obtain ⟨g1, g2, g3⟩ := hG
    refine a_seq ?_
    refine a_seq ?_
    refine a_region ?_
    refine rv (v := .int _ _) (v_move il nf) ?_
    refine rv (v := .sl _ _) (v_move il nf) ?_
    refine rv (v := .int _ _) (v_len_sl sl22 il) ?_
    refine rv (v := .bool _) (v_lss il il) ?_
    refine r_nil ?_
    refine a_cond rfl (fun ht14 => ?_) (fun ht14 => ?_)
    ·
      skip
      refine a_skip ?_
      refine a_seq ?_
      refine a_block ?_
      refine a_seq ?_
      have hi : i < L.length := (by simp at ht14; omega)
      refine a_region_any mixed (by kernel_rfl) ?_
      refine yv (v := .sl _ _) (v_move il nf) ?_
      refine yv (v := .int _ _) (v_move il nf) ?_
      refine yv (v := .pp _ _) (v_indexAddr_sl es22 il il (fun _ => ⟨by omega, by omega, sls_ne hi⟩)) ?_
      refine yv (v := .sl (icells (gl L i)) (gl L i).length) (v_load_pp ta42 il (fun _ => by rw [Nat.mul_one]; exact sls_get hi) rfl) ?_
      refine yv (v := .sl _ _) (v_move il nf) ?_
      refine yv (v := .int _ _) (v_move il nf) ?_
      refine yv (v := .pp _ _) (v_indexAddr_sl es22 il il (fun _ => ⟨by omega, by omega, sls_ne (L := M) (i := i) (by omega)⟩)) ?_
      refine yv (v := .sl (icells (gl M i)) (gl M i).length) (v_load_pp ta42 il (fun _ => by rw [Nat.mul_one]; exact sls_get (by omega)) rfl) ?_
      refine y_new (v := .bool _) (q_call (vs := [.sl _ _, .sl _ _]) (args := [.sl _ _, .sl _ _]) hb51 ⟨.inl rfl, .inl rfl, trivial⟩ rfl (fun hA => eqIntS_c (gl L i) (gl M i) (hlen i)) rfl rfl) rfl rfl (by decide) (by kernel_rfl) ?_
      refine yv (v := .bool _) (v_not il) ?_
      refine y_nil ?_
      refine a_cond rfl (fun ht26 => ?_) (fun ht26 => ?_)
      ·
        skip
        refine a_seq ?_
        refine a_region ?_
        refine rv (v := .bool _) (v_assign il nf) ?_
        refine r_nil ?_
        refine a_ret ?_
        refine ret1 Try.results29 (by decide) (by decide) (Weak.of_eq (bool_eq ?_)) rfl Leaves.nil
        simp at ht26; refine (decide_eq_false (fun h => ?_)).symm
        subst h
        simp at ht26
      ·
        skip
        refine a_skip ?_
        refine a_region ?_
        refine rv (v := .int _ _) (v_move il nf) ?_
        refine rv (v := .int _ _) (v_add il il (fun _ => by omega)) ?_
        refine rv (v := .int _ _) (v_assign il nf) ?_
        refine r_nil ?_
        refine ⟨i + 1, ent_look ⟨Weak.of_eq rfl, Weak.of_eq rfl, Weak.of_eq (int_eq (by omega)), trivial⟩, ⟨by omega, g2, gl_take hi (by omega) g3 (by simpa using ht26)⟩, by omega⟩
    ·
      skip
      refine a_exit ?_
      refine a_seq ?_
      refine a_region ?_
      refine rv (v := .bool _) (v_assign il nf) ?_
      refine r_nil ?_
      refine a_ret ?_
      refine ret1 Try.results29 (by decide) (by decide) (Weak.of_eq (bool_eq ?_)) rfl Leaves.nil
      simp at ht14; refine (decide_eq_true ?_).symm
      rw [List.take_of_length_le (by omega), List.take_of_length_le (by omega)] at g3; exact g3
theorem eqCnf_c (vars v2 : Int) (L M : List (List Int)) (hL : (L.length : Int) ≤ 9223372036854775807) (hM : (M.length : Int) ≤ 9223372036854775807) (hlen : ∀ i, ((gl L i).length : Int) ≤ 9223372036854775807) : ACall Try.prog 9 [.agg [.int .i64 vars, .sl (sls L) L.length], .agg [.int .i64 v2, .sl (sls M) M.length]] [] (.bool (decide (vars = v2) && decide (L = M))) [] := by
  refine ACall.intro Try.func9 rfl (N := 16) rfl (by decide) (by simp) ?_
  refine a_seq ?_
  refine a_region ?_
  refine rn (v := .op [.int _ _, .sl _ _]) (q_box il rfl rfl) ?_
  refine rn (v := .op [.int _ _, .sl _ _]) (q_box il rfl rfl) ?_
  refine rv (v := .bool _) (v_assign il nf) ?_
  refine r_nil ?_
  refine a_seq ?_
  refine a_seq ?_
  refine a_region ?_
  refine rv (v := .rp _ _) (v_fieldAddr_rp fo24_0 il) ?_
  refine rv (v := .int _ _) (v_load_rp1 ta3 il rfl (fun _ => rfl) rfl) ?_
  refine rv (v := .rp _ _) (v_fieldAddr_rp fo24_0 il) ?_
  refine rv (v := .int _ _) (v_load_rp1 ta3 il rfl (fun _ => rfl) rfl) ?_
  refine rv (v := .bool _) (v_neq il il) ?_
  refine r_nil ?_
  refine a_cond rfl (fun ht9 => ?_) (fun ht9 => ?_)
  ·
    skip
    refine a_seq ?_
    refine a_region ?_
    refine rv (v := .bool _) (v_assign il nf) ?_
    refine r_nil ?_
    refine a_ret ?_
    refine ret1 Try.results9 (by decide) (by decide) (Weak.of_eq (bool_eq ?_)) rfl Leaves.nil
    simp at ht9; simp [ht9]
  ·
    skip
    refine a_skip ?_
    refine a_seq ?_
    refine a_seq ?_
    refine a_region ?_
    refine rv (v := .rp _ _) (v_fieldAddr_rp fo24_1 il) ?_
    refine rv (v := .sl _ _) (v_load_rp1 ta22 il rfl (fun _ => rfl) rfl) ?_
    refine rv (v := .rp _ _) (v_fieldAddr_rp fo24_1 il) ?_
    refine rv (v := .sl _ _) (v_load_rp1 ta22 il rfl (fun _ => rfl) rfl) ?_
    refine rn (v := .bool _) (q_call (vs := [.sl _ _, .sl _ _]) (args := [.sl _ _, .sl _ _]) hb29 ⟨il, il, trivial⟩ rfl (fun hA => eqIntSS_c L M hL hM hlen) rfl rfl) ?_
    refine rv (v := .bool _) (v_not il) ?_
    refine r_nil ?_
    refine a_cond rfl (fun ht15 => ?_) (fun ht15 => ?_)
    ·
      skip
      refine a_seq ?_
      refine a_region ?_
      refine rv (v := .bool _) (v_assign il nf) ?_
      refine r_nil ?_
      refine a_ret ?_
      refine ret1 Try.results9 (by decide) (by decide) (Weak.of_eq (bool_eq ?_)) rfl Leaves.nil
      simp at ht15; simp [ht15]
    ·
      skip
      refine a_skip ?_
      refine a_seq ?_
      refine a_region ?_
      refine rv (v := .bool _) (v_assign il nf) ?_
      refine r_nil ?_
      refine a_ret ?_
      refine ret1 Try.results9 (by decide) (by decide) (Weak.of_eq (bool_eq ?_)) rfl Leaves.nil
      simp at ht9 ht15; simp [ht9, ht15]
theorem isCnf_c (vars : Int) (L : List (List Int)) (hk : CnfOk vars L) : ACall Try.prog 50 [.agg [.int .i64 vars, .sl (sls L) L.length]] [] (.bool (cnfB vars L)) [] := by
  have hk1 := hk.1
  have hk2 := hk.2.1
  have hk3 := hk.2.2.1
  refine ACall.intro Try.func50 rfl (N := 27) rfl (by decide) (by simp) ?_
  refine a_seq ?_
  refine a_region ?_
  refine rn (v := .op [.int _ _, .sl _ _]) (q_box il rfl rfl) ?_
  refine rv (v := .bool _) (v_assign il nf) ?_
  refine r_nil ?_
  refine a_seq ?_
  refine a_seq ?_
  refine a_region ?_
  refine rv (v := .rp _ _) (v_fieldAddr_rp fo24_1 il) ?_
  refine rv (v := .sl _ _) (v_load_rp1 ta22 il rfl (fun _ => rfl) rfl) ?_
  refine rv (v := .int _ _) (v_len_sl sl22 il) ?_
  refine rv (v := .int _ _) (v_move il nf) ?_
  refine r_nil ?_
  refine a_block ?_
  refine a_loop (X := Nat) (fun i => look [(1, .op [.int .i64 vars, .sl (sls L) L.length]), (6, .sl (sls L) L.length), (7, .int .i64 (L.length : Int)), (8, .int .i64 ((i : Nat) : Int))]) (fun i => i ≤ L.length ∧ ∀ j, j < i → clB vars (gl L j) = true) (fun i => L.length - i) 0 (ent_look ⟨Weak.of_eq rfl, Weak.of_eq rfl, Weak.of_eq rfl, Weak.of_eq rfl, trivial⟩) ⟨Nat.zero_le _, fun j h => by omega⟩ (fun i hG => ?_)
  obtain ⟨g1, g2⟩ := hG
  have hle := len_tot (L := L) (i := i)
  refine a_seq ?_
  refine a_region ?_
  refine rv (v := .bool _) (v_lss il il) ?_
  refine r_nil ?_
  refine a_seq ?_
  refine a_cond rfl (fun ht9 => ?_) (fun ht9 => ?_)
  ·
    skip
    refine a_skip ?_
    refine a_seq ?_
    refine a_block ?_
    refine a_seq ?_
    have hi : i < L.length := (by simp at ht9; omega)
    refine a_region ?_
    refine rv (v := .pp _ _) (v_indexAddr_sl es22 il il (fun _ => ⟨by omega, by omega, sls_ne hi⟩)) ?_
    refine rv (v := .sl (icells (gl L i)) (gl L i).length) (v_load_pp ta42 il (fun _ => by rw [Nat.mul_one]; exact sls_get hi) rfl) ?_
    refine rv (v := .sl _ _) (v_assign il nf) ?_
    refine r_nil ?_
    refine a_seq ?_
    refine a_region ?_
    refine rv (v := .rp _ _) (v_fieldAddr_rp fo24_0 il) ?_
    refine rv (v := .int _ _) (v_load_rp1 ta3 il rfl (fun _ => rfl) rfl) ?_
    refine rv (v := .sl _ _) (v_move il nf) ?_
    refine rn (v := .bool _) (q_call (vs := [.int _ _, .sl _ _]) (args := [.int .i64 _, .sl _ _]) hb70 ⟨il, il, trivial⟩ rfl (fun hA => isClause_c vars (gl L i) hk1 (by omega) (fun j => hk.2.2.2 i j)) rfl rfl) ?_
    refine rv (v := .bool _) (v_not il) ?_
    refine r_nil ?_
    refine a_cond rfl (fun ht16 => ?_) (fun ht16 => ?_)
    ·
      skip
      refine a_seq ?_
      have hno := cnfB_no hi (by simpa using ht16)
      refine a_region ?_
      refine rv (v := .bool _) (v_assign il nf) ?_
      refine r_nil ?_
      refine a_ret ?_
      refine ret1 Try.results50 (by decide) (by decide) (Weak.of_eq (bool_eq ?_)) rfl Leaves.nil
      rw [hno]
    ·
      skip
      refine a_skip ?_
      refine a_region ?_
      refine rv (v := .int _ _) (v_add il il (fun _ => by omega)) ?_
      refine rv (v := .int _ _) (v_move il nf) ?_
      refine r_nil ?_
      refine ⟨i + 1, ent_look ⟨Weak.of_eq rfl, Weak.of_eq rfl, Weak.of_eq rfl, Weak.of_eq (int_eq (by omega)), trivial⟩, ⟨by omega, fun j h1 => by rcases Nat.lt_or_ge j i with h | h; exact g2 j h; (obtain rfl : j = i := by omega); simpa using ht16⟩, by omega⟩
  ·
    skip
    refine a_exit ?_
    refine a_seq ?_
    have hyes := cnfB_yes (vars := vars) (fun j hj => g2 j (by simp at ht9; omega))
    refine a_region ?_
    refine rv (v := .rp _ _) (v_fieldAddr_rp fo24_0 il) ?_
    refine rv (v := .int _ _) (v_load_rp1 ta3 il rfl (fun _ => rfl) rfl) ?_
    refine rn (v := .bool _) (q_call (vs := [.int _ _]) (args := [.int .i64 _]) hb71 ⟨il, trivial⟩ rfl (fun hA => varsOk_c _) rfl rfl) ?_
    refine rv (v := .bool _) (v_move il nf) ?_
    refine r_gval (v := .rp _ _) (v_fieldAddr_rp fo24_1 il) rfl rfl rfl (by decide) (.inl ⟨_, rfl, rfl⟩) rfl (by decide) ?_
    refine r_gval (v := .sl _ _) (v_load_rp1 ta22 (.inr ⟨_, rfl, fun h => h⟩) rfl (fun _ => rfl) rfl) rfl rfl rfl (by decide) (.inl ⟨_, rfl, rfl⟩) rfl (by decide) ?_
    refine r_gval (v := .int _ _) (v_len_sl sl22 (.inr ⟨_, rfl, fun h => h⟩)) rfl rfl rfl (by decide) (.inl ⟨_, rfl, rfl⟩) rfl (by decide) ?_
    refine r_gval (v := .bool _) (v_leq (.inr ⟨_, rfl, fun h => h⟩) il) rfl rfl rfl (by decide) (.inl ⟨_, rfl, rfl⟩) rfl (by decide) ?_
    refine rv (v := .bool _) (v_pick (.inl rfl) (.inr ⟨_, rfl, fun h h2 => by simp_all⟩) (.inl rfl)) ?_
    refine rv (v := .bool _) (v_assign il nf) ?_
    refine r_nil ?_
    refine a_ret ?_
    refine ret1 Try.results50 (by decide) (by decide) (Weak.of_eq (bool_eq ?_)) rfl Leaves.nil
    rw [hyes]; cases inR vars 0 12 <;> simp <;> omega
theorem l2Good_c (vars : Int) (L : List (List Int)) (hk : CnfOk vars L) : ACall Try.prog 45 [.agg [.int .i64 vars, .sl (sls L) L.length]] [] (.bool (cnfB vars L)) [] := by
  have hk1 := hk.1
  have hk2 := hk.2.1
  have hk3 := hk.2.2.1
  refine ACall.intro Try.func45 rfl (N := 30) rfl (by decide) (by simp) ?_
  refine a_seq ?_
  refine a_region ?_
  refine rn (v := .op [.int _ _, .sl _ _]) (q_box il rfl rfl) ?_
  refine rv (v := .bool _) (v_assign il nf) ?_
  refine r_nil ?_
  refine a_seq ?_
  refine a_seq ?_
  refine a_region ?_
  refine rv (v := .rp _ _) (v_fieldAddr_rp fo24_0 il) ?_
  refine rv (v := .int _ _) (v_load_rp1 ta3 il rfl (fun _ => rfl) rfl) ?_
  refine rn (v := .bool _) (q_call (vs := [.int _ _]) (args := [.int .i64 _]) hb67 ⟨il, trivial⟩ rfl (fun hA => l2Vars_c _) rfl rfl) ?_
  refine rv (v := .bool _) (v_not il) ?_
  refine rv (v := .bool _) (v_move il nf) ?_
  refine r_gval (v := .rp _ _) (v_fieldAddr_rp fo24_1 il) rfl rfl rfl (by decide) (.inl ⟨_, rfl, rfl⟩) rfl (by decide) ?_
  refine r_gval (v := .sl _ _) (v_load_rp1 ta22 (.inr ⟨_, rfl, fun h => h⟩) rfl (fun _ => rfl) rfl) rfl rfl rfl (by decide) (.inl ⟨_, rfl, rfl⟩) rfl (by decide) ?_
  refine r_gval (v := .int _ _) (v_len_sl sl22 (.inr ⟨_, rfl, fun h => h⟩)) rfl rfl rfl (by decide) (.inl ⟨_, rfl, rfl⟩) rfl (by decide) ?_
  refine r_gval (v := .bool _) (v_gtr (.inr ⟨_, rfl, fun h => h⟩) il) rfl rfl rfl (by decide) (.inl ⟨_, rfl, rfl⟩) rfl (by decide) ?_
  refine rv (v := .bool _) (v_pick (.inl rfl) (.inl rfl) (.inr ⟨_, rfl, fun h h2 => by simp_all⟩)) ?_
  refine r_nil ?_
  refine a_cond rfl (fun ht13 => ?_) (fun ht13 => ?_)
  ·
    skip
    refine a_seq ?_
    refine a_region ?_
    refine rv (v := .bool _) (v_assign il nf) ?_
    refine r_nil ?_
    refine a_ret ?_
    refine ret1 Try.results45 (by decide) (by decide) (Weak.of_eq (bool_eq ?_)) rfl Leaves.nil
    unfold cnfB; cases h1 : inR vars 0 12 <;> simp [h1] at ht13 ⊢; intro h2; omega
  ·
    skip
    refine a_skip ?_
    refine a_seq ?_
    refine a_seq ?_
    refine a_region ?_
    refine rv (v := .int _ _) (v_assign il nf) ?_
    refine r_nil ?_
    refine a_block ?_
    refine a_loop (X := Nat) (fun i => look [(1, .op [.int .i64 vars, .sl (sls L) L.length]), (3, .int .i64 ((i : Nat) : Int))]) (fun i => i ≤ L.length ∧ ∀ j, j < i → clB vars (gl L j) = true) (fun i => L.length - i) 0 (ent_look ⟨Weak.of_eq rfl, Weak.of_eq rfl, trivial⟩) ⟨Nat.zero_le _, fun j h => by omega⟩ (fun i hG => ?_)
    obtain ⟨g1, g2⟩ := hG
    have hle := len_tot (L := L) (i := i)
    refine a_seq ?_
    refine a_seq ?_
    refine a_region ?_
    refine rv (v := .int _ _) (v_move il nf) ?_
    refine rv (v := .rp _ _) (v_fieldAddr_rp fo24_1 il) ?_
    refine rv (v := .sl _ _) (v_load_rp1 ta22 il rfl (fun _ => rfl) rfl) ?_
    refine rv (v := .int _ _) (v_len_sl sl22 il) ?_
    refine rv (v := .bool _) (v_lss il il) ?_
    refine r_nil ?_
    refine a_cond rfl (fun ht18 => ?_) (fun ht18 => ?_)
    ·
      skip
      refine a_skip ?_
      refine a_seq ?_
      refine a_block ?_
      refine a_seq ?_
      have hi : i < L.length := (by simp at ht18; omega)
      refine a_region_any mixed (by kernel_rfl) ?_
      refine yv (v := .rp _ _) (v_fieldAddr_rp fo24_0 il) ?_
      refine yv (v := .int _ _) (v_load_rp1 ta3 il rfl (fun _ => rfl) rfl) ?_
      refine yv (v := .rp _ _) (v_fieldAddr_rp fo24_1 il) ?_
      refine yv (v := .sl _ _) (v_load_rp1 ta22 il rfl (fun _ => rfl) rfl) ?_
      refine yv (v := .int _ _) (v_move il nf) ?_
      refine yv (v := .pp _ _) (v_indexAddr_sl es22 il il (fun _ => ⟨by omega, by omega, sls_ne hi⟩)) ?_
      refine yv (v := .sl (icells (gl L i)) (gl L i).length) (v_load_pp ta42 il (fun _ => by rw [Nat.mul_one]; exact sls_get hi) rfl) ?_
      refine y_new (v := .bool _) (q_call (vs := [.int _ _, .sl _ _]) (args := [.int .i64 _, .sl _ _]) hb68 ⟨.inl rfl, .inl rfl, trivial⟩ rfl (fun hA => l2Clause_c vars (gl L i) hk1 (by omega) (fun j => hk.2.2.2 i j)) rfl rfl) rfl rfl (by decide) (by kernel_rfl) ?_
      refine yv (v := .bool _) (v_not il) ?_
      refine y_nil ?_
      refine a_cond rfl (fun ht29 => ?_) (fun ht29 => ?_)
      ·
        skip
        refine a_seq ?_
        have hno := cnfB_no hi (by simpa using ht29)
        refine a_region ?_
        refine rv (v := .bool _) (v_assign il nf) ?_
        refine r_nil ?_
        refine a_ret ?_
        refine ret1 Try.results45 (by decide) (by decide) (Weak.of_eq (bool_eq ?_)) rfl Leaves.nil
        rw [hno]
      ·
        skip
        refine a_skip ?_
        refine a_region ?_
        refine rv (v := .int _ _) (v_move il nf) ?_
        refine rv (v := .int _ _) (v_add il il (fun _ => by omega)) ?_
        refine rv (v := .int _ _) (v_assign il nf) ?_
        refine r_nil ?_
        refine ⟨i + 1, ent_look ⟨Weak.of_eq rfl, Weak.of_eq (int_eq (by omega)), trivial⟩, ⟨by omega, fun j h1 => by rcases Nat.lt_or_ge j i with h | h; exact g2 j h; (obtain rfl : j = i := by omega); simpa using ht29⟩, by omega⟩
    ·
      skip
      refine a_exit ?_
      refine a_seq ?_
      have hyes := cnfB_yes (vars := vars) (fun j hj => g2 j (by simp at ht18; omega))
      refine a_region ?_
      refine rv (v := .bool _) (v_assign il nf) ?_
      refine r_nil ?_
      refine a_ret ?_
      refine ret1 Try.results45 (by decide) (by decide) (Weak.of_eq (bool_eq ?_)) rfl Leaves.nil
      rw [hyes]; cases h1 : inR vars 0 12 <;> simp [h1] at ht13 ⊢; omega
end Go.Av
namespace Go.Av
open Go
section
variable {P : Program} {e : Ctx} {σ τ : Sig} {val : Nat → Value} {w : World} {β : Place → Option (Nat × Nat)} {F : Nat → Prop}
end
end Go.Av
namespace Go.Av
open Go Go.Proofs Go.Sort
set_option maxRecDepth 10000
theorem ap22 : appTy Try.prog 22 = some (1, 24) := by kernel_rfl
theorem hb45 : hasBody Try.prog 45 = true := by kernel_rfl
theorem hb50 : hasBody Try.prog 50 = true := by kernel_rfl
theorem lt22 : litTy Try.prog 22 = some (1, [.nils]) := by kernel_rfl
end Go.Av
namespace Go.Av
open Go
section
variable {P : Program} {N : Nat} {A : Bool} {σ τ : Sig} {ty : TypeId}
variable {e : Ctx} {val : Nat → Value} {w : World} {β : Place → Option (Nat × Nat)} {F : Nat → Prop} {x : AV} {d : Nat}
theorem Inv.freeze (h : Inv e (upd τ d x) val w β F) (hf : ∀ r y b s, node x r = some y → y.isOwn = true → β (d, r) = some (b, s) → e.w0.heap.size ≤ b) :
    Inv e (upd τ d (sh x)) val w β (fun b => F b ∨ ∃ r y s, node x r = some y ∧ y.isOwn = true ∧ β (d, r) = some (b, s)) := by
  have own : ∀ q, OwnAt (upd τ d (sh x)) q → q.1 ≠ d ∧ OwnAt (upd τ d x) q := fun q hq => by
    by_cases hi : q.1 = d
    · obtain ⟨y, hy, ho⟩ := hq
      rw [hi, upd_same] at hy
      rw [pure_own (pure_sh x) hy] at ho; cases ho
    · exact ⟨hi, (own_upd_other hi).2 ((own_upd_other hi).1 hq)⟩
  have hx := h.rep d
  rw [upd_same] at hx
  have ownx : ∀ r y, node x r = some y → y.isOwn = true → OwnAt (upd τ d x) (d, r) := fun r y hy ho => ⟨y, by rw [upd_same]; exact hy, ho⟩
  refine ⟨fun i => ?_, fun q q' b s s' hq hq' => h.disj q q' b s s' (own q hq).2 (own q' hq').2, fun q b s hq hb => ⟨?_, (h.sep q b s (own q hq).2 hb).2⟩, fun b hb => ?_, h.kept, h.grow, h.tame⟩
  · by_cases hi : i = d
    · subst hi
      rw [upd_same]
      exact hx.sh x (fun b hb => .inl hb) (fun r y b s hy ho hb => .inr ⟨r, y, s, hy, ho, by simpa using hb⟩)
    · have := h.rep i
      rw [upd_other _ _ hi] at this ⊢
      exact this.tr _ (fun b hb => ⟨.inl hb, rfl⟩) (fun _ _ _ _ => ⟨rfl, fun _ _ _ => rfl⟩) (fun _ _ => rfl)
  · rintro (hF | ⟨r, y, s', hy, ho, hb'⟩)
    · exact (h.sep q b s (own q hq).2 hb).1 hF
    · have := h.disj q (d, r) b s s' (own q hq).2 (ownx r y hy ho) hb hb'
      exact (own q hq).1 (by rw [this])
  · rcases hb with hb | ⟨r, y, s, hy, ho, hb⟩
    · exact h.fr b hb
    · refine ⟨h.own_lt (ownx r y hy ho) hb, fun hlt => ?_⟩
      have := hf r y b s hy ho hb
      omega
theorem call_coreZ {f : FuncId} {args : List AV} {res : AV} (hc : ACall P f args [] res []) (hp : pureL args = true) (hn : noSh res = true) (hr : noRef res = true) (h : Inv e σ val w β F) {vs : List Value}
    (hl : vs.length = args.length) (ha : RepL (fun _ => none) (lent σ β F) w args (0, []) 0 vs) (d : Nat) :
    Calls P f vs.toArray w fun en w' => ∃ v β' F', en = .returned v ∧ Inv e (upd (fun i => purgeV d (σ i)) d (sh res)) (upd val d v) w' β' F' := by
  have hinv : Inv ⟨w, fun _ => False, lent σ β F, []⟩ (argSig args []) (fun i => vs.getD i undef) w (fun _ => none) (lent σ β F) := by
    refine ⟨fun i => ?_, fun q q' b s s' hq => (noOwn_argSig hp q hq).elim, fun q b s hq => (noOwn_argSig hp q hq).elim, fun b hb => ⟨?_, fun _ => hb⟩, fun _ _ _ => rfl, Nat.le_refl _, Tame.refl _⟩
    · unfold argSig
      split
      · cases hx : args[i]? with
        | none => simp [Rep]
        | some c =>
          obtain ⟨u, hu, hru⟩ := RepL_iff.1 ha i c hx
          rw [List.getD_eq_getElem?_getD, hu]
          exact hru.pure_any (pureL_mem hp (List.mem_of_getElem? hx))
      · simp [Rep]
    · rcases hb with hb | ⟨q, s, hq, hb⟩
      · exact (h.fr b hb).1
      · exact h.own_lt hq hb
  refine (hc _ vs _ w _ _ hl (fun _ _ => rfl) hinv).mono fun en w' ⟨v, β', F', he, hi⟩ => ⟨v, ?_⟩
  have hkept : ∀ b, b < w.heap.size → w'.heap[b]? = w.heap[b]? := fun b hb => hi.kept b hb (fun h => h)
  have hI := h.more hkept hi.grow (h.tame.trans hi.tame hkept)
  have h0 : argSig [res] [] 0 = res := by simp [argSig, INH]
  have hge : ∀ r y b s, node res r = some y → y.isOwn = true → β' (0, r) = some (b, s) → w.heap.size ≤ b := fun r y b s hy ho hb => by
    have hs := hi.sep (0, r) b s ⟨y, by rw [h0]; exact hy, ho⟩ hb
    rcases hs.2 with h | h; exact h; exact h.elim
  have hdet : Det e σ w' β F res v (fun r => β' (0, r)) := by
    refine ⟨?_, refs_of_noRef res hr, ?_, ?_⟩
    · have := hi.rep 0
      rw [h0, upd_same] at this
      exact (this.noSh (G := F) res hn).tr _ (fun b hb => ⟨hb, rfl⟩) (fun r y _ _ => ⟨by simp, fun _ _ _ => rfl⟩) (fun q hq => by rw [refs_of_noRef res hr] at hq; cases hq)
    · intro r r' y y' b s s' hy ho hy' ho' hb hb'
      have := hi.disj (0, r) (0, r') b s s' ⟨y, by rw [h0]; exact hy, ho⟩ ⟨y', by rw [h0]; exact hy', ho'⟩ hb hb'
      simpa using this
    · intro r y b s hy ho hb
      have hge := hge r y b s hy ho hb
      exact ⟨fun hF => by have := (h.fr b hF).1; omega, .inl (Nat.le_trans h.grow hge), fun q s' hq hb' => by have := h.own_lt hq hb'; omega⟩
  exact ⟨_, _, he, (hI.attach d hdet).freeze (fun r y b s hy ho hb => Nat.le_trans h.grow (hge r y b s hy ho (by simpa using hb)))⟩
theorem q_callZ {f : FuncId} {xs : List Operand} {tys : Array TypeId} {vs args : List AV} {res : AV} (hf : hasBody P f = true) (hx : RdL N A σ xs vs) (hs : snapL σ vs = args) (hc : A = true → ACall P f args [] res [])
    (hn : noSh res = true) (hr : noRef res = true) : QSem P N A (fnCall f xs tys) ty σ (slotsL xs ++ refRoots vs) (sh res) := by
  intro hA σ' hD gv e a w β F hi d o ho hty K Q hK
  have hp : pureL args = true := by rw [← hs]; exact pure_snapL σ _
  obtain ⟨hrep, hlen, hno⟩ := RdL.rep hA hi (0, []) (j := 0) hx (agree_l hD)
  have hsn := hi.snapL (β0 := fun _ => none) _ (p' := (0, [])) hrep (fun i c hc => hno c (List.mem_of_getElem? hc))
  have e2 : snapL σ' vs = args := by rw [← hs]; exact snapL_congr _ fun q hq => hD q.1 (List.mem_append_right _ (refRoots_mem hq))
  rw [e2] at hsn
  have hl : (xs.map a.eval).length = args.length := by rw [← e2, snapL_eq, hlen]; simp
  refine upon_enter' (f := f) (args := (xs.map a.eval).toArray) ?_ ((call_coreZ (hc hA) hp hn hr hi hl hsn d).mono fun en w' ⟨v, β', F', he, hi'⟩ => ⟨v, he, hK _ _ ⟨β', F', hi'⟩⟩)
  simp [execOp, ho, fnCall, resolve, Deferred.ofValue, Act.eval, invoke, run_callFunc_body hf]
end
end Go.Av
namespace Go.Av
open Go
theorem sl_shZ {cs : List AV} {n m : Nat} {c : Option Nat} (h : pureL cs = true ∧ noNilL cs = true) : sh (.osl m cs n c) = .sl cs n := by simp only [sh, shL_id cs h.1 h.2]
end Go.Av
namespace Go.Av
open Go
def shT : AV → AV
  | .tup cs => .tup (shL cs)
  | x => sh x
theorem shT_own {x : AV} {r : List Nat} {y : AV} (h : node (shT x) r = some y) : y.isOwn = false := by
  cases x
  case tup cs =>
    cases r with
    | nil => simp [shT, node] at h; subst h; rfl
    | cons j r =>
      simp only [shT, node, kids] at h
      cases hc : (shL cs)[j]? with
      | none => rw [hc] at h; cases h
      | some c =>
        rw [hc] at h
        exact pure_own (pureL_mem (pure_shL cs) (List.mem_of_getElem? hc)) h
  all_goals exact pure_own (pure_sh _) h
theorem Rep.shT {x : AV} {F G : Nat → Prop} {w : World} {β β0 : Place → Option (Nat × Nat)} {p p' : Place} {v : Value} (h : Rep β F w x p v) (hF : ∀ b, F b → G b)
    (hG : ∀ r y b s, node x r = some y → y.isOwn = true → β (p.1, p.2 ++ r) = some (b, s) → G b) : Rep β0 G w (Av.shT x) p' v := by
  cases x
  case tup cs =>
    simp only [Rep] at h
    obtain ⟨vs, rfl, hl, h⟩ := h
    simp only [Av.shT, Rep]
    exact ⟨vs, rfl, by simp [shL_eq, hl], RepL.sh cs h hF (fun i c r y b s hc hy ho hb => hG (i :: r) y b s (by simp [node, kids, hc, hy]) ho (by simpa using hb))⟩
  all_goals exact h.sh _ hF hG
section
variable {P : Program} {N : Nat} {A : Bool} {σ τ : Sig} {ty : TypeId}
variable {e : Ctx} {val : Nat → Value} {w : World} {β : Place → Option (Nat × Nat)} {F : Nat → Prop} {x : AV} {d : Nat}
theorem Inv.freezeT (h : Inv e (upd τ d x) val w β F) (hf : ∀ r y b s, node x r = some y → y.isOwn = true → β (d, r) = some (b, s) → e.w0.heap.size ≤ b) :
    Inv e (upd τ d (shT x)) val w β (fun b => F b ∨ ∃ r y s, node x r = some y ∧ y.isOwn = true ∧ β (d, r) = some (b, s)) := by
  have own : ∀ q, OwnAt (upd τ d (shT x)) q → q.1 ≠ d ∧ OwnAt (upd τ d x) q := fun q hq => by
    by_cases hi : q.1 = d
    · obtain ⟨y, hy, ho⟩ := hq
      rw [hi, upd_same] at hy
      rw [shT_own hy] at ho; cases ho
    · exact ⟨hi, (own_upd_other hi).2 ((own_upd_other hi).1 hq)⟩
  have hx := h.rep d
  rw [upd_same] at hx
  have ownx : ∀ r y, node x r = some y → y.isOwn = true → OwnAt (upd τ d x) (d, r) := fun r y hy ho => ⟨y, by rw [upd_same]; exact hy, ho⟩
  refine ⟨fun i => ?_, fun q q' b s s' hq hq' => h.disj q q' b s s' (own q hq).2 (own q' hq').2, fun q b s hq hb => ⟨?_, (h.sep q b s (own q hq).2 hb).2⟩, fun b hb => ?_, h.kept, h.grow, h.tame⟩
  · by_cases hi : i = d
    · subst hi
      rw [upd_same]
      exact hx.shT (fun b hb => .inl hb) (fun r y b s hy ho hb => .inr ⟨r, y, s, hy, ho, by simpa using hb⟩)
    · have := h.rep i
      rw [upd_other _ _ hi] at this ⊢
      exact this.tr _ (fun b hb => ⟨.inl hb, rfl⟩) (fun _ _ _ _ => ⟨rfl, fun _ _ _ => rfl⟩) (fun _ _ => rfl)
  · rintro (hF | ⟨r, y, s', hy, ho, hb'⟩)
    · exact (h.sep q b s (own q hq).2 hb).1 hF
    · have := h.disj q (d, r) b s s' (own q hq).2 (ownx r y hy ho) hb hb'
      exact (own q hq).1 (by rw [this])
  · rcases hb with hb | ⟨r, y, s, hy, ho, hb⟩
    · exact h.fr b hb
    · refine ⟨h.own_lt (ownx r y hy ho) hb, fun hlt => ?_⟩
      have := hf r y b s hy ho hb
      omega
theorem call_coreFZ {f : FuncId} {args : List AV} {res : AV} (hc : ACall P f args [] res []) (hp : pureL args = true) (hr : noRef res = true) (h : Inv e σ val w β F) {vs : List Value}
    (hl : vs.length = args.length) (ha : RepL (fun _ => none) F w args (0, []) 0 vs) (d : Nat) :
    Calls P f vs.toArray w fun en w' => ∃ v β' F', en = .returned v ∧ Inv e (upd (fun i => purgeV d (σ i)) d (shT res)) (upd val d v) w' β' F' := by
  have hinv : Inv ⟨w, fun _ => False, F, []⟩ (argSig args []) (fun i => vs.getD i undef) w (fun _ => none) F := by
    refine ⟨fun i => ?_, fun q q' b s s' hq => (noOwn_argSig hp q hq).elim, fun q b s hq => (noOwn_argSig hp q hq).elim, fun b hb => ⟨(h.fr b hb).1, fun _ => hb⟩, fun _ _ _ => rfl, Nat.le_refl _, Tame.refl _⟩
    unfold argSig
    split
    · cases hx : args[i]? with
      | none => simp [Rep]
      | some c =>
        obtain ⟨u, hu, hru⟩ := RepL_iff.1 ha i c hx
        rw [List.getD_eq_getElem?_getD, hu]
        exact hru.pure_any (pureL_mem hp (List.mem_of_getElem? hx))
    · simp [Rep]
  refine (hc _ vs _ w _ _ hl (fun _ _ => rfl) hinv).mono fun en w' ⟨v, β', F', he, hi⟩ => ⟨v, ?_⟩
  have hkept : ∀ b, b < w.heap.size → w'.heap[b]? = w.heap[b]? := fun b hb => hi.kept b hb (fun h => h)
  have hF' : ∀ b, F' b → F b ∨ w.heap.size ≤ b := fun b hb => by
    rcases Nat.lt_or_ge b w.heap.size with hlt | hge
    · exact .inl ((hi.fr b hb).2 hlt)
    · exact .inr hge
  have hI : Inv e σ val w' β (fun b => F b ∨ F' b) := (h.more hkept hi.grow (h.tame.trans hi.tame hkept)).moreF (fun b hb => .inl hb) (fun b hb => by
    rcases hb with hb | hb
    · exact ⟨Nat.lt_of_lt_of_le (h.fr b hb).1 hi.grow, (h.fr b hb).2⟩
    · refine ⟨(hi.fr b hb).1, fun hlt => ?_⟩
      rcases hF' b hb with hb | hge
      · exact (h.fr b hb).2 hlt
      · have := h.grow; omega) (fun q b s hq hb hF => by
    rcases hF with hF | hF
    · exact (h.sep q b s hq hb).1 hF
    · rcases hF' b hF with hF | hge
      · exact (h.sep q b s hq hb).1 hF
      · have := h.own_lt hq hb; omega)
  have h0 : argSig [res] [] 0 = res := by simp [argSig, INH]
  have hge : ∀ r y b s, node res r = some y → y.isOwn = true → β' (0, r) = some (b, s) → w.heap.size ≤ b := fun r y b s hy ho hb => by
    have hs := hi.sep (0, r) b s ⟨y, by rw [h0]; exact hy, ho⟩ hb
    rcases hs.2 with h | h; exact h; exact h.elim
  have hdet : Det e σ w' β (fun b => F b ∨ F' b) res v (fun r => β' (0, r)) := by
    refine ⟨?_, refs_of_noRef res hr, ?_, ?_⟩
    · have := hi.rep 0
      rw [h0, upd_same] at this
      exact this.tr _ (fun b hb => ⟨.inr hb, rfl⟩) (fun r y _ _ => ⟨by simp, fun _ _ _ => rfl⟩) (fun q hq => by rw [refs_of_noRef res hr] at hq; cases hq)
    · intro r r' y y' b s s' hy ho hy' ho' hb hb'
      have := hi.disj (0, r) (0, r') b s s' ⟨y, by rw [h0]; exact hy, ho⟩ ⟨y', by rw [h0]; exact hy', ho'⟩ hb hb'
      simpa using this
    · intro r y b s hy ho hb
      have hs := hi.sep (0, r) b s ⟨y, by rw [h0]; exact hy, ho⟩ hb
      have hge := hge r y b s hy ho hb
      refine ⟨fun hF => ?_, .inl (Nat.le_trans h.grow hge), fun q s' hq hb' => by have := h.own_lt hq hb'; omega⟩
      rcases hF with hF | hF
      · have := (h.fr b hF).1; omega
      · exact hs.1 hF
  exact ⟨_, _, he, (hI.attach d hdet).freezeT (fun r y b s hy ho hb => Nat.le_trans h.grow (hge r y b s hy ho (by simpa using hb)))⟩
theorem q_callFZ {f : FuncId} {xs : List Operand} {tys : Array TypeId} {vs args : List AV} {res : AV} (hf : hasBody P f = true) (hx : RdL N A σ xs vs) (hs : snapL σ vs = args) (hc : A = true → ACall P f args [] res [])
    (hnr : noRefL vs = true) (hr : noRef res = true) : QSem P N A (fnCall f xs tys) ty σ (slotsL xs ++ refRoots vs) (shT res) := by
  intro hA σ' hD gv e a w β F hi d o ho hty K Q hK
  have hp : pureL args = true := by rw [← hs]; exact pure_snapL σ _
  obtain ⟨hrep, hlen, hno⟩ := RdL.rep hA hi (0, []) (j := 0) hx (agree_l hD)
  have hi0 : Inv e (fun _ => .undef) (valOf N gv a) w β F := hi.weak (fun i => by simp [Rep]) (fun q ⟨y, hy, hoy⟩ => by
    cases hr : q.2 with
    | nil => rw [hr] at hy; simp [node] at hy; subst hy; simp [AV.isOwn] at hoy
    | cons j r => rw [hr] at hy; simp [node, kids] at hy)
  have hsn := hi0.snapL (β0 := fun _ => none) _ (p' := (0, [])) hrep (fun i c hc => hno c (List.mem_of_getElem? hc))
  have e2 : snapL (fun _ => .undef) vs = args := by
    rw [← hs]
    exact snapL_congr _ fun q hq => by rw [refsL_of_noRef _ hnr] at hq; cases hq
  rw [e2] at hsn
  have hl : (xs.map a.eval).length = args.length := by rw [← e2, snapL_eq, hlen]; simp
  have hlent : ∀ b, lent (fun _ => .undef) β F b → F b := fun b hb => by
    rcases hb with hb | ⟨q, s, ⟨y, hy, hoy⟩, _⟩
    · exact hb
    · cases hr : q.2 with
      | nil => rw [hr] at hy; simp [node] at hy; subst hy; simp [AV.isOwn] at hoy
      | cons j r => rw [hr] at hy; simp [node, kids] at hy
  have hsn' : RepL (fun _ => none) F w args (0, []) 0 (xs.map a.eval) := hsn.tr _ (fun b hb => ⟨hlent b hb, rfl⟩) (fun i c r y hc hy ho => by
    rw [noOwn_pure (pureL_mem hp (List.mem_of_getElem? hc)) hy] at ho; cases ho) (fun _ _ _ _ => rfl)
  refine upon_enter' (f := f) (args := (xs.map a.eval).toArray) ?_ ((call_coreFZ (hc hA) hp hr hi hl hsn' d).mono fun en w' ⟨v, β', F', he, hi'⟩ => ⟨v, he, hK _ _ ⟨β', F', hi'⟩⟩)
  simp [execOp, ho, fnCall, resolve, Deferred.ofValue, Act.eval, invoke, run_callFunc_body hf]
end
end Go.Av
namespace Go.Av
open Go
abbrev PcT := Int × List (Int × Int) × Int × Int × Int × Int
def aOk (p vars : Int) (L : List (List Int)) : Bool := prime p vars && cnfB vars L
theorem aOk_spec {p vars : Int} {L : List (List Int)} (h : aOk p vars L = true) : prime p vars = true ∧ cnfB vars L = true := by
 unfold aOk at h; simpa using h
def clD (p vars : Int) (c : List Int) : List Int := clP p (dn vars) c c.length
theorem clD_len (p vars : Int) (c : List Int) : (clD p vars c).length = dn vars := clP_length _
theorem clD_bd {p vars : Int} (hp : 2 ≤ p) (c : List Int) : Bd p (clD p vars c) := clP_bd hp _
def qL (p vars : Int) (L : List (List Int)) : List (List Int) := L.map (clD p vars)
theorem qL_len (p vars : Int) (L : List (List Int)) : (qL p vars L).length = L.length := by simp [qL]
theorem qL_get {p vars : Int} {L : List (List Int)} {i : Nat} (h : i < L.length) : gl (qL p vars L) i = clD p vars (gl L i) := by
 unfold qL gl; rw [List.getElem?_map, List.getElem?_eq_getElem h]; rfl
theorem osls_moreQ {p vars : Int} {L : List (List Int)} {i : Nat} {k : Nat} (h : i < L.length) (hk : k = dn vars) : osls (qL p vars (L.take i)) ++ [.osl 1 (icells (clD p vars (gl L i))) k none] = osls (qL p vars (L.take (i + 1))) := by
 have hg : L[i] = gl L i := by unfold gl; rw [List.getElem?_eq_getElem h]; rfl
 rw [List.take_succ_eq_append_getElem h, hg]
 unfold qL osls
 rw [List.map_append, List.map_append]
 simp [clD_len, hk]
theorem alg_shT (p vars : Int) (L : List (List Int)) : shT (.tup [.op [.int .i64 p, .int .i64 vars, .int .i64 vars, .sl (sls L) L.length, .osl 1 (osls (qL p vars L)) L.length none], .bool true])
  = .tup [.pp [.int .i64 p, .int .i64 vars, .int .i64 vars, .sl (sls L) L.length, .sl (sls (qL p vars L)) L.length] 0, .bool true] := by
 simp [shT, sh, shL, shL_osls, shL_id _ (sls_pure L).1 (sls_pure L).2]
end Go.Av
namespace Go.Av
open Go
theorem sls_noRef : ∀ (L : List (List Int)), noRefL (sls L) = true := fun L => by
 induction L with
 | nil => rfl
 | cons c L ih => unfold sls at ih ⊢; simp [noRefL, noRef, ic_noRef, ih]
end Go.Av
namespace Go.Av
open Go
section
variable {P : Program} {N : Nat} {o : Oper} {σ : Sig}
theorem o_store_keep {t off s y t8 off8 : Nat} {cs0 cs' : List AV} {g : Bool} {q : Place} {x : Operand} {z v y' : AV} (ho : o.op = .store t x (.tmp y)) (hd : o.dst = none) (ht : tyAgg P t = some (g, s)) (hx : RdTo N true σ x (.rp q off)) (hyN : y < N) (hy : σ y = v)
    (hyq : Nat.beq y q.1 = false) (hv : bigV v = true) (hn : noRefL (cellsOf v) = true) (hrv : refs v = [])
    (hz : node (σ q.1) q.2 = some z) (hzo : z.isOwn = true) (hc : cellL (cellsOf v) = true) (hs : (cellsOf v).length = s) (hl : off + s ≤ (kids z).length)
    (hr : refs (σ q.1) = []) (hres : setNode (σ q.1) q.2 (setKids z (setL (kids z) off (cellsOf v))) = y')
    (hk : σ t8 = .rp (q.1, []) off8) (h0 : σ q.1 = .op cs0) (h1 : y' = .op cs') : OStep P N o σ (upd (upd (fun i => purgeV q.1 (upd σ y .undef i)) q.1 y') t8 (.rp (q.1, []) off8)) := by
  intro gv e a w ⟨hdf, hsz, β, F, hi⟩ K Q hK
  have hyq' : y ≠ q.1 := fun h => by subst h; simp at hyq
  have ex := hx.rep rfl (fun _ _ => rfl) hi (0, [])
  obtain ⟨hi1, hd1⟩ := hi.detach_slot (t := y) (by rw [hy]; exact hrv)
  rw [hy] at hd1
  have hval : valOf N gv a y = a.eval (.tmp y) := by simp [valOf, hyN, Act.eval]
  rw [hval] at hd1
  obtain ⟨δ', hd2⟩ := hd1.cellsOf hv hn
  have hul := hd2.repL.1
  have hur := hd2.repL.2
  have hz1 : node (upd σ y .undef q.1) q.2 = some z := by rw [upd_other _ _ (Ne.symm hyq')]; exact hz
  have hr1 : refs (upd σ y .undef q.1) = [] := by rw [upd_other _ _ (Ne.symm hyq')]; exact hr
  have hq : blk (upd σ y .undef) q = some (kids z) := by
    unfold blk; rw [hz1]
    cases z <;> simp [AV.isOwn] at hzo <;> rfl
  simp only [Rep] at ex
  obtain ⟨b, s1, hb1, ex⟩ := ex
  rcases hi1.block hq with ⟨hb2, _⟩ | ⟨b2, s2, arr, tt, hb2, hh, hrc, hnr⟩
  · rw [hb1] at hb2; cases hb2
  · rw [hb1] at hb2
    simp only [Option.some.injEq, Prod.mk.injEq] at hb2
    obtain ⟨rfl, rfl⟩ := hb2
    have hcl := hrc.len
    simp only [Array.length_toList] at hcl
    have hrun := run_storeAt (b := b) (off := off) ht (v := a.eval (.tmp y)) (hul.trans hs) hh (by omega) (ones_of hur hul hc)
    obtain ⟨β', h⟩ := hi1.store (ns := cellsOf v) (off := off) (cs := kids z) hz1 hzo rfl hb1 hh hr1 hd2 hn hnr (by rw [← hul]; omega) (σ1 := fun i => purgeV q.1 (upd σ y .undef i)) (fun i _ => by
      rcases purgeV_or q.1 (upd σ y .undef i) with hp | hp
      · right
        refine ⟨hp, fun q' hq' => under_off fun hh => ?_⟩
        rw [← hp] at hq'
        exact refs_purge q' hq' hh.1
      · exact .inl hp)
    rw [upd_other _ _ (Ne.symm hyq'), hres] at h
    have r8 := hi.rep t8
    rw [hk] at r8
    simp only [Rep] at r8
    obtain ⟨b8, s8, hb8, hv8⟩ := r8
    have r0 := hi.rep q.1
    rw [h0] at r0
    simp only [Rep] at r0
    obtain ⟨_, b0, arr0, _, hb0, hv0, _⟩ := r0
    have r1 := h.rep q.1
    rw [upd_same, h1] at r1
    simp only [Rep] at r1
    obtain ⟨_, b9, arr9, _, hb9, hv9, _⟩ := r1
    rw [hb8] at hb0
    simp only [Option.some.injEq, Prod.mk.injEq] at hb0
    rw [hv0] at hv9
    have he : b9 = b8 := by
      have h3 := hb0.1
      simp at hv9
      omega
    have h9 := h.set t8 (x := .rp (q.1, []) off8) (v := valOf N gv a t8) (by simp only [Rep]; exact ⟨b9, arr9.size, hb9, by rw [hv8, he]⟩) (fun r y hy => by
      cases r with
      | nil => simp [node] at hy; subst hy; rfl
      | cons j r => simp [node, kids] at hy)
    rw [upd_self] at h9
    refine wp_unit (w' := w.setRow b (spliceV arr.toList off (a.eval (.tmp y)).cells.toList).toArray) ?_ (hK _ _ ⟨?_, ?_, β', F, ?_⟩)
    · simp only [execOp, ho, ex, hrun, Sem.run_bind, Sem.run_pure, Result.andThen_ok]
    · rw [hd]; exact hdf
    · rw [hd]; exact hsz
    · rw [hd]; exact h9
end
end Go.Av
namespace Go.Av
open Go Go.Proofs Go.Sort
set_option maxRecDepth 10000
theorem ap86 : appTy Try.prog 86 = some (1, 24) := by kernel_rfl
theorem fo88_2 : fieldOff Try.prog 88 2 = some 4 := by kernel_rfl
theorem hb63 : hasBody Try.prog 63 = true := by kernel_rfl
theorem hb64 : hasBody Try.prog 64 = true := by kernel_rfl
theorem lt86 : litTy Try.prog 86 = some (1, [.nils]) := by kernel_rfl
theorem sp88 : structPl Try.prog 88 = some ([.int .i64 0, .int .i64 0, .int .i64 0, .nils, .nils], [(0, 2), (2, 2), (4, 1)]) := by kernel_rfl
theorem ta86 : tyAgg Try.prog 86 = some (false, 1) := by kernel_rfl
theorem algOk_c (p vars : Int) (L : List (List Int)) (hk : CnfOk vars L) (ha : aOk p vars L = true) : ACall Try.prog 42 [.int .i64 p, .agg [.int .i64 vars, .sl (sls L) L.length]] [] (.tup [.op [.int .i64 p, .int .i64 vars, .int .i64 vars, .sl (sls L) L.length, .osl 1 (osls (qL p vars L)) L.length none], .bool true]) [] := by
 obtain ⟨hp, hc⟩ := aOk_spec ha
 have hpp := prime_spec hp
 have hcs := cnfB_spec hc
 have hd := dn_le hpp.2
 refine ACall.intro Try.func42 rfl (N := 50) rfl (by decide) (by simp) ?_
 refine a_seq ?_
 refine a_region ?_
 refine rn (v := .op [.int _ _, .sl _ _]) (q_box il rfl rfl) ?_
 refine rv (v := .nilp) (v_assign il nf) ?_
 refine rv (v := .bool _) (v_assign il nf) ?_
 refine r_nil ?_
 refine a_seq ?_
 refine a_region ?_
 refine rv (v := .int _ _) (v_move il nf) ?_
 refine rv (v := .rp _ _) (v_fieldAddr_rp fo24_0 il) ?_
 refine rv (v := .int _ _) (v_load_rp1 ta3 il rfl (fun _ => rfl) rfl) ?_
 refine rn (v := .tup [.agg [.int _ _, .int _ _], .bool _]) (q_call (vs := [.int _ _, .int _ _]) (args := [.int .i64 _, .int .i64 _]) hb63 ⟨il, il, trivial⟩ rfl (fun hA => ringOf_c p vars) rfl rfl) ?_
 refine rv (v := .tup [.agg [.int _ _, .int _ _], .bool _]) (v_mv rfl) ?_
 refine rv (v := .agg [.int _ _, .int _ _]) (v_extract rfl rfl) ?_
 refine rv (v := .bool _) (v_extract rfl rfl) ?_
 refine rn (v := .op [.int _ _, .int _ _]) (q_alloc zc83) ?_
 refine r_step rfl (o_store (v := .agg [.int _ _, .int _ _]) (y' := .op [.int _ _, .int _ _]) rfl rfl ta83 il il rfl rfl rfl rfl rfl rfl (Nat.le_of_ble_eq_true rfl) (by decide) rfl rfl) ?_
 refine rv (v := .bool _) (v_assign il nf) ?_
 refine r_nil ?_
 refine a_seq ?_
 refine a_seq ?_
 refine a_region ?_
 refine rv (v := .bool _) (v_move il nf) ?_
 refine rv (v := .bool _) (v_not il) ?_
 refine rv (v := .bool _) (v_move il nf) ?_
 refine r_gval (v := .agg [.int _ _, .sl _ _]) (v_load_rpa1 ta24 il rfl rfl (fun _ => rfl) rfl) rfl rfl rfl (by decide) (.inl ⟨_, rfl, rfl⟩) rfl (by decide) ?_
 refine r_guard (v := .bool _) (q_call (vs := [.agg [.int _ _, .sl _ _]]) (args := [.agg [.int .i64 _, .sl _ _]]) hb50 ⟨.inr ⟨_, rfl, fun h => h⟩, trivial⟩ rfl (fun hA => isCnf_c vars L hk) rfl rfl) rfl rfl rfl (by decide) (.inl ⟨_, rfl, rfl⟩) rfl (by decide) ?_
 refine r_gval (v := .bool _) (v_not (.inr ⟨_, rfl, fun h => h⟩)) rfl rfl rfl (by decide) (.inl ⟨_, rfl, rfl⟩) rfl (by decide) ?_
 refine rv (v := .bool _) (v_pick (.inl rfl) (.inl rfl) (.inr ⟨_, rfl, fun h h2 => by simp_all⟩)) ?_
 refine r_nil ?_
 refine a_cond rfl (fun ht24 => ?_) (fun ht24 => ?_)
 ·
  skip
  exfalso
  simp [hp, hc] at ht24
 ·
  skip
  refine a_skip ?_
  refine a_seq ?_
  refine a_region ?_
  refine rv (v := .agg [.int _ _, .int _ _]) (v_load_rpa1 ta83 il rfl rfl (fun _ => rfl) rfl) ?_
  refine rv (v := .agg [.int _ _, .sl _ _]) (v_load_rpa1 ta24 il rfl rfl (fun _ => rfl) rfl) ?_
  refine rv (v := .agg [.int _ _, .int _ _, .int _ _, .sl _ _, .nils]) (v_build sp88 rfl rfl) ?_
  refine rn (v := .op [.int _ _, .int _ _, .int _ _, .sl _ _, .nils]) (q_box il rfl rfl) ?_
  refine r_pre (ent_nil_at (t := 28) (r := [4]) (sz := 1) rfl (.inl rfl) rfl rfl) ?_
  refine rv (v := .rp _ _) (v_assign il nf) ?_
  refine r_nil ?_
  refine a_seq ?_
  refine a_seq ?_
  refine a_region ?_
  refine rv (v := .rp _ _) (v_fieldAddr_rp fo24_1 il) ?_
  refine rv (v := .sl _ _) (v_load_rp1 ta22 il rfl (fun _ => rfl) rfl) ?_
  refine rv (v := .int _ _) (v_len_sl sl22 il) ?_
  refine rv (v := .int _ _) (v_move il nf) ?_
  refine r_nil ?_
  refine a_block ?_
  refine a_loop (X := Nat) (fun i => look [(6, .op [.int .i64 p, .int .i64 vars]), (8, .rp (28, []) 0), (28, .op [.int .i64 p, .int .i64 vars, .int .i64 vars, .sl (sls L) L.length, .osl 1 (osls (qL p vars (L.take i))) i none]), (30, .sl (sls L) L.length), (31, .int .i64 (L.length : Int)), (32, .int .i64 ((i : Nat) : Int))]) (fun i => i ≤ L.length) (fun i => L.length - i) 0 (ent_look ⟨Weak.of_eq rfl, Weak.of_eq rfl, Weak.of_eq rfl, Weak.of_eq rfl, Weak.of_eq rfl, Weak.of_eq rfl, trivial⟩) (Nat.zero_le _) (fun i hG => ?_)
  refine a_seq ?_
  refine a_region ?_
  refine rv (v := .bool _) (v_lss il il) ?_
  refine r_nil ?_
  refine a_seq ?_
  refine a_cond rfl (fun ht33 => ?_) (fun ht33 => ?_)
  ·
   skip
   refine a_skip ?_
   refine a_seq ?_
   refine a_block ?_
   refine a_seq ?_
   have hi : i < L.length := (by simp at ht33; omega)
   have hcc := hcs.2.2 i hi
   have hll := len_tot (L := L) (i := i)
   have hk3 := hk.2.2.1
   refine a_region ?_
   refine rv (v := .pp _ _) (v_indexAddr_sl es22 il il (fun _ => ⟨by omega, by omega, sls_ne hi⟩)) ?_
   refine rv (v := .sl (icells (gl L i)) (gl L i).length) (v_load_pp ta42 il (fun _ => by rw [Nat.mul_one]; exact sls_get hi) rfl) ?_
   refine rv (v := .sl _ _) (v_assign il nf) ?_
   refine r_nil ?_
   refine a_region_z (n := 10) [[(36, true)], [(37, true)], [(38, true)], [(39, true)], [(40, true)], [(41, true)], [(42, true)], [(43, true)], [(43, false), (44, true)], [(28, false), (40, true), (44, false), (45, true)]] mixed (by kernel_rfl) ?_
   refine z_val (v := .rp _ _) (v_move il nf) rfl rfl (by decide) rfl (by kernel_rfl) ?_
   refine z_val (v := .rp _ _) (v_move il nf) rfl rfl (by decide) rfl (by kernel_rfl) ?_
   refine z_val (v := .rp _ _) (v_nilCheck il rfl) rfl rfl (by decide) rfl (by kernel_rfl) ?_
   refine z_val (v := .rp _ _) (v_fieldAddr_rp fo88_2 il) rfl rfl (by decide) rfl (by kernel_rfl) ?_
   refine z_val (v := .rsl _ _ _ _ _) (v_load_rp (c := .osl _ _ _ _) ta86 il rfl (fun _ => rfl)) rfl rfl (by decide) rfl (by kernel_rfl) ?_
   refine z_val (v := .agg [.int _ _, .int _ _]) (v_load_rpa1 ta83 il rfl rfl (fun _ => rfl) rfl) rfl rfl (by decide) rfl (by kernel_rfl) ?_
   refine z_val (v := .sl _ _) (v_move il nf) rfl rfl (by decide) rfl (by kernel_rfl) ?_
   refine z_new (v := .osl _ _ _ _) (q_call (vs := [.agg [.int _ _, .int _ _], .sl _ _]) (args := [.agg [.int .i64 _, .int .i64 _], .sl _ _]) hb64 ⟨il, il, trivial⟩ rfl (fun hA => rclause_c p vars (gl L i) hp hcc (by omega)) (ic_noSh _) (ic_noRef _)) rfl rfl (by decide) rfl (by kernel_rfl) ?_
   refine z_sliceLit1 (v := .osl _ _ _ _) rfl rfl lt86 rfl rfl (by decide) (by decide) (by decide) rfl rfl (by simp [cellsOf, noRefL, noRef, ic_noRef]) rfl rfl rfl (by kernel_rfl) ?_
   refine z_append_own_ref rfl rfl ap86 rfl (by decide) (by decide) (by decide) (by decide) (by decide) (by decide) (by decide) (by decide) (by decide) rfl rfl rfl rfl rfl rfl (by rw [osls_length, qL_len, List.length_take]; omega) rfl (by omega) rfl (by kernel_rfl) ?_
   refine z_nil ?_
   refine rv (v := .rp _ _) (v_nilCheck il rfl) ?_
   refine rv (v := .rp _ _) (v_fieldAddr_rp fo88_2 il) ?_
   refine r_pre (ent_eq (t := 45) (v' := .osl 1 (osls (qL p vars (L.take (i + 1)))) (i + 1) none) (Weak.osl (osls_moreQ hi rfl) rfl)) ?_
   refine r_step rfl (o_store_keep (t8 := 8) (v := .osl _ _ _ _) (y' := .op [.int _ _, .int _ _, .int _ _, .sl _ _, .osl _ _ _ _]) rfl rfl ta86 (.inl rfl) (by decide) rfl (by decide) rfl (by simp [cellsOf, noRefL, noRef, osls_noRef, sls_noRef]) rfl rfl rfl rfl rfl (Nat.le_of_ble_eq_true rfl) rfl rfl rfl rfl rfl) ?_
   refine r_nil ?_
   refine a_region ?_
   refine rv (v := .int _ _) (v_add il il (fun _ => by omega)) ?_
   refine rv (v := .int _ _) (v_move il nf) ?_
   refine r_nil ?_
   refine ⟨i + 1, ent_look ⟨Weak.of_eq rfl, Weak.of_eq rfl, Weak.of_eq rfl, Weak.of_eq rfl, Weak.of_eq rfl, Weak.of_eq (int_eq (by omega)), trivial⟩, by omega, by omega⟩
  ·
   skip
   refine a_exit ?_
   refine a_seq ?_
   refine a_region ?_
   refine rv (v := .rp _ _) (v_move il nf) ?_
   refine rv (v := .rp _ _) (v_assign il nf) ?_
   refine r_pre (ent_reloc_op (t := 4) rfl rfl) ?_
   refine rv (v := .bool _) (v_assign il nf) ?_
   refine r_nil ?_
   refine a_ret ?_
   refine retL (rs := [.tmp 4, .tmp 5]) [(4, _), (5, _)] ⟨Weak.rfl, Weak.rfl, trivial⟩ rfl Try.results42 (by decide) ⟨by decide, by decide, rfl⟩ (by decide) (by decide) (l2_eq ?_ (bool_eq ?_)) rfl
   all_goals (have hie : i = L.length := (by simp at ht33; omega); subst hie; first | rfl | (rw [List.take_of_length_le (Nat.le_refl _)]; rfl))
theorem algNo_c (p vars : Int) (L : List (List Int)) (hk : CnfOk vars L) (hno : aOk p vars L = false) : ACall Try.prog 42 [.int .i64 p, .agg [.int .i64 vars, .sl (sls L) L.length]] [] (.tup [.nilp, .bool false]) [] := by
 refine ACall.intro Try.func42 rfl (N := 50) rfl (by decide) (by simp) ?_
 refine a_seq ?_
 refine a_region ?_
 refine rn (v := .op [.int _ _, .sl _ _]) (q_box il rfl rfl) ?_
 refine rv (v := .nilp) (v_assign il nf) ?_
 refine rv (v := .bool _) (v_assign il nf) ?_
 refine r_nil ?_
 refine a_seq ?_
 refine a_region ?_
 refine rv (v := .int _ _) (v_move il nf) ?_
 refine rv (v := .rp _ _) (v_fieldAddr_rp fo24_0 il) ?_
 refine rv (v := .int _ _) (v_load_rp1 ta3 il rfl (fun _ => rfl) rfl) ?_
 refine rn (v := .tup [.agg [.int _ _, .int _ _], .bool _]) (q_call (vs := [.int _ _, .int _ _]) (args := [.int .i64 _, .int .i64 _]) hb63 ⟨il, il, trivial⟩ rfl (fun hA => ringOf_c p vars) rfl rfl) ?_
 refine rv (v := .tup [.agg [.int _ _, .int _ _], .bool _]) (v_mv rfl) ?_
 refine rv (v := .agg [.int _ _, .int _ _]) (v_extract rfl rfl) ?_
 refine rv (v := .bool _) (v_extract rfl rfl) ?_
 refine rn (v := .op [.int _ _, .int _ _]) (q_alloc zc83) ?_
 refine r_step rfl (o_store (v := .agg [.int _ _, .int _ _]) (y' := .op [.int _ _, .int _ _]) rfl rfl ta83 il il rfl rfl rfl rfl rfl rfl (Nat.le_of_ble_eq_true rfl) (by decide) rfl rfl) ?_
 refine rv (v := .bool _) (v_assign il nf) ?_
 refine r_nil ?_
 refine a_seq ?_
 refine a_seq ?_
 refine a_region ?_
 refine rv (v := .bool _) (v_move il nf) ?_
 refine rv (v := .bool _) (v_not il) ?_
 refine rv (v := .bool _) (v_move il nf) ?_
 refine r_gval (v := .agg [.int _ _, .sl _ _]) (v_load_rpa1 ta24 il rfl rfl (fun _ => rfl) rfl) rfl rfl rfl (by decide) (.inl ⟨_, rfl, rfl⟩) rfl (by decide) ?_
 refine r_guard (v := .bool _) (q_call (vs := [.agg [.int _ _, .sl _ _]]) (args := [.agg [.int .i64 _, .sl _ _]]) hb50 ⟨.inr ⟨_, rfl, fun h => h⟩, trivial⟩ rfl (fun hA => isCnf_c vars L hk) rfl rfl) rfl rfl rfl (by decide) (.inl ⟨_, rfl, rfl⟩) rfl (by decide) ?_
 refine r_gval (v := .bool _) (v_not (.inr ⟨_, rfl, fun h => h⟩)) rfl rfl rfl (by decide) (.inl ⟨_, rfl, rfl⟩) rfl (by decide) ?_
 refine rv (v := .bool _) (v_pick (.inl rfl) (.inl rfl) (.inr ⟨_, rfl, fun h h2 => by simp_all⟩)) ?_
 refine r_nil ?_
 refine a_cond rfl (fun ht24 => ?_) (fun ht24 => ?_)
 ·
  skip
  refine a_seq ?_
  refine a_region ?_
  refine rv (v := .nilp) (v_assign il nf) ?_
  refine rv (v := .bool _) (v_assign il nf) ?_
  refine r_nil ?_
  refine a_ret ?_
  refine retL (rs := [.tmp 4, .tmp 5]) [(4, _), (5, _)] ⟨Weak.rfl, Weak.rfl, trivial⟩ rfl Try.results42 (by decide) ⟨by decide, by decide, rfl⟩ (by decide) (by decide) (l2_eq ?_ (bool_eq ?_)) rfl
  all_goals rfl
 ·
  skip
  refine a_skip ?_
  refine a_seq ?_
  exfalso
  unfold aOk at hno; cases h1 : prime p vars <;> cases h2 : cnfB vars L <;> simp_all
end Go.Av
namespace Go.Av
open Go Go.Proofs Go.Sort
set_option maxRecDepth 10000
end Go.Av
namespace Go.Av
open Go Go.Proofs Go.Sort
set_option maxRecDepth 10000
end Go.Av
namespace Go.Av
open Go Go.Proofs Go.Sort
set_option maxRecDepth 10000
end Go.Av
namespace Go.Av
open Go Go.Proofs Go.Sort
set_option maxRecDepth 10000
end Go.Av
namespace Go.Av
open Go Go.Proofs Go.Sort
set_option maxRecDepth 10000
end Go.Av
namespace Go.Av
open Go Go.Proofs Go.Sort
set_option maxRecDepth 10000
end Go.Av
namespace Go.Av
open Go Go.Proofs Go.Sort
set_option maxRecDepth 10000
end Go.Av
namespace Go.Av
open Go Go.Proofs Go.Sort
set_option maxRecDepth 10000
end Go.Av
namespace Go.Av
open Go Go.Proofs Go.Sort
set_option maxRecDepth 10000
theorem hb57 : hasBody Try.prog 57 = true := by kernel_rfl
theorem takes19_c (p vars : Int) (L : List (List Int)) (hk : CnfOk vars L) : ACall Try.prog 38 [.int .i64 p, .agg [.int .i64 vars, .sl (sls L) L.length]] [] (.bool (aOk p vars L)) [] := by
 refine ACall.intro Try.func38 rfl (N := 13) rfl (by decide) (by simp) ?_
 refine a_seq ?_
 refine a_region ?_
 refine rn (v := .op [.int _ _, .sl _ _]) (q_box il rfl rfl) ?_
 refine rv (v := .bool _) (v_assign il nf) ?_
 refine r_nil ?_
 refine a_seq ?_
 refine a_region ?_
 refine rv (v := .agg [.int _ _, .sl _ _]) (v_load_rpa1 ta24 il rfl rfl (fun _ => rfl) rfl) ?_
 refine rn (v := .bool _) (q_call (vs := [.agg [.int _ _, .sl _ _]]) (args := [.agg [.int .i64 _, .sl _ _]]) hb45 ⟨il, trivial⟩ rfl (fun hA => l2Good_c vars L hk) rfl rfl) ?_
 refine rv (v := .bool _) (v_move il nf) ?_
 refine r_gval (v := .int _ _) (v_move il nf) rfl rfl rfl (by decide) (.inl ⟨_, rfl, rfl⟩) rfl (by decide) ?_
 refine r_gval (v := .rp _ _) (v_fieldAddr_rp fo24_0 il) rfl rfl rfl (by decide) (.inl ⟨_, rfl, rfl⟩) rfl (by decide) ?_
 refine r_gval (v := .int _ _) (v_load_rp1 ta3 (.inr ⟨_, rfl, fun h => h⟩) rfl (fun _ => rfl) rfl) rfl rfl rfl (by decide) (.inl ⟨_, rfl, rfl⟩) rfl (by decide) ?_
 refine r_guard (v := .bool _) (q_call (vs := [.int _ _, .int _ _]) (args := [.int .i64 _, .int .i64 _]) hb57 ⟨.inr ⟨_, rfl, fun h => h⟩, .inr ⟨_, rfl, fun h => h⟩, trivial⟩ rfl (fun hA => l18Prime_c _ _) rfl rfl) rfl rfl rfl (by decide) (.inl ⟨_, rfl, rfl⟩) rfl (by decide) ?_
 refine rv (v := .bool _) (v_pick (.inl rfl) (.inr ⟨_, rfl, fun h h2 => by simp_all⟩) (.inl rfl)) ?_
 refine rv (v := .bool _) (v_assign il nf) ?_
 refine r_nil ?_
 refine a_ret ?_
 refine ret1 Try.results38 (by decide) (by decide) (Weak.of_eq (bool_eq ?_)) rfl Leaves.nil
 unfold aOk; rw [Bool.cond_false_right, Bool.and_comm]
end Go.Av
namespace Go.Av
open Go Go.Proofs Go.Sort
set_option maxRecDepth 10000
end Go.Av
namespace Go.Av
open Go Go.Proofs Go.Sort
set_option maxRecDepth 10000
end Go.Av
namespace Go.Av
open Go Go.Proofs Go.Sort
set_option maxRecDepth 10000
end Go.Av
namespace Go.Av
open Go Go.Proofs Go.Sort
set_option maxRecDepth 10000
end Go.Av
namespace Go.Av
open Go Go.Proofs Go.Sort
set_option maxRecDepth 10000
end Go.Av
namespace Go.Av
open Go
abbrev Pr := Int × Int × List Int
def prc (q : Pr) : List AV := [.int .i64 q.1, .int .i64 q.2.1, .sl (icells q.2.2) q.2.2.length]
def prC (Q : List Pr) : List AV := Q.flatMap prc
theorem prC_length : ∀ (Q : List Pr), (prC Q).length = Q.length * 3
  | [] => rfl
  | s :: S => by have := prC_length S; unfold prC at this ⊢; simp [List.flatMap_cons, prc, this]; omega
theorem prC_app (Q : List Pr) (q : Pr) : prC (Q ++ [q]) = prC Q ++ prc q := by unfold prC; simp [List.flatMap_append]
theorem prC_pureL : ∀ (Q : List Pr), pureL (prC Q) = true
  | [] => rfl
  | s :: S => by
    have := prC_pureL S
    unfold prC at this ⊢
    simp [List.flatMap_cons, prc, pureL, pureV, ic_pureL, this]
theorem prC_noRef : ∀ (Q : List Pr), noRefL (prC Q) = true
  | [] => rfl
  | s :: S => by
    have := prC_noRef S
    unfold prC at this ⊢
    simp [List.flatMap_cons, prc, noRefL, noRef, ic_noRef, this]
def prG (vars : Int) (L : List (List Int)) (d i : Nat) : List Int := gradS vars.toNat (d - (gl L i).length)
def prOne (p vars : Int) (L : List (List Int)) (i : Nat) (m : Int) : Pr := ((i : Int), m, mulp p (dn vars) (clD p vars (gl L i)) (one (dn vars) m.toNat))
def pdI (p vars : Int) (L : List (List Int)) (d i : Nat) : List Pr := if (gl L i).length ≤ d then (prG vars L d i).map (prOne p vars L i) else []
def prL (p vars : Int) (L : List (List Int)) (d : Nat) : Nat → List Pr
  | 0 => []
  | i + 1 => prL p vars L d i ++ pdI p vars L d i
def prP (p vars : Int) (L : List (List Int)) (d i j : Nat) : List Pr := prL p vars L d i ++ ((prG vars L d i).take j).map (prOne p vars L i)
section
variable {p vars : Int} {L : List (List Int)} {d i j : Nat}
theorem prP_zero : prP p vars L d i 0 = prL p vars L d i := by simp [prP]
theorem prP_more (h : j < (prG vars L d i).length) : prP p vars L d i (j + 1) = prP p vars L d i j ++ [prOne p vars L i (gd (prG vars L d i) j)] := by
  unfold prP
  have hg : (prG vars L d i)[j] = gd (prG vars L d i) j := by simp [gd, h]
  rw [List.take_succ_eq_append_getElem h, hg, List.map_append, ← List.append_assoc]; rfl
theorem prP_full (h : (gl L i).length ≤ d) (hj : (prG vars L d i).length ≤ j) : prP p vars L d i j = prL p vars L d (i + 1) := by
  unfold prP
  rw [List.take_of_length_le hj, prL, pdI, if_pos h]
theorem prL_skip (h : ¬ (gl L i).length ≤ d) : prL p vars L d (i + 1) = prL p vars L d i := by
  rw [prL, pdI, if_neg h, List.append_nil]
theorem prG_len (hv : 0 ≤ vars ∧ vars ≤ 6) (hd : d ≤ 6) : (prG vars L d i).length ≤ 448 := gradS_len (by omega) (by omega)
theorem prL_len (hv : 0 ≤ vars ∧ vars ≤ 6) (hd : d ≤ 6) : ∀ i, (prL p vars L d i).length ≤ 448 * i
  | 0 => by simp [prL]
  | i + 1 => by
    have := prL_len hv hd i
    have h2 := prG_len (L := L) (i := i) hv hd
    rw [prL, List.length_append]
    unfold pdI
    split
    · rw [List.length_map]; omega
    · simp; omega
theorem prP_len (hv : 0 ≤ vars ∧ vars ≤ 6) (hd : d ≤ 6) (i j : Nat) : (prP p vars L d i j).length ≤ 448 * i + 448 := by
  have := prL_len (p := p) (L := L) hv hd i
  have h2 := prG_len (L := L) (i := i) hv hd
  unfold prP
  rw [List.length_append, List.length_map, List.length_take]; omega
theorem prG_rng (hv : 0 ≤ vars) (h : j < (prG vars L d i).length) : 0 ≤ gd (prG vars L d i) j ∧ gd (prG vars L d i) j < 2 ^ vars.toNat := by
  have hm := gd_mem h
  have := (grad_mem (v := vars.toNat) (d := d - (gl L i).length)).1 hm
  unfold gradL at this
  simp only [List.mem_map, List.mem_filter, List.mem_range] at this
  obtain ⟨m, ⟨h1, _⟩, h3⟩ := this
  have h4 : ((2 ^ vars.toNat : Nat) : Int) = (2 : Int) ^ vars.toNat := by simp
  omega
theorem mono_good {m : Int} (hp : 2 ≤ p) (hm : 0 ≤ m ∧ m < 2 ^ vars.toNat) : goodL p vars [(m, 1)] = true :=
  goodL_append (xs := []) (t := (m, 1)) rfl ⟨hm.1, hm.2, by simp, by simp; omega⟩ (by simp)
theorem accp_mono {m : Int} {n : Nat} (hp : 2 ≤ p) : accp p n [(m, 1)] = one n m.toNat := by
  have h0 : (0 + 1 : Int) % p = 1 := (Int.emod_eq_of_lt (by decide) (show (0 + 1 : Int) < p by omega))
  simp only [accp, List.foldl_cons, List.foldl_nil, bumpp, gd_rep, h0, one]
theorem sOut_mono {m : Int} (hp : prime p vars = true) (hm : 0 ≤ m ∧ m < 2 ^ vars.toNat) (c : List Int) : sOut p (dn vars) (trm (clD p vars c)) [(m, 1)] = mulp p (dn vars) (clD p vars c) (one (dn vars) m.toNat) := by
  have hpp := prime_spec hp
  rw [sOut_mul hp (clD_bd (by omega) c) (clD_len p vars c) (mono_good (by omega) hm), accp_mono (by omega)]
end
def okCnt (p vars : Int) (L : List (List Int)) (d : Int) : Bool := aOk p vars L && inR d 0 6
end Go.Av
namespace Go.Av
open Go
def pq (Q : List Pr) (i : Nat) : Pr := (Q[i]?).getD (0, 0, [])
theorem pq_get {Q : List Pr} {i : Nat} (h : i < Q.length) : Q[i]? = some (pq Q i) := by simp [pq, List.getElem?_eq_getElem h]
theorem pq_mem {Q : List Pr} {i : Nat} (h : i < Q.length) : pq Q i ∈ Q := List.mem_of_getElem? (pq_get h)
theorem flat3 : ∀ {Q : List Pr} {i : Nat} {s : Pr}, Q[i]? = some s → ((prC Q).drop (i * 3)).take 3 = prc s
  | [], i, s, h => by simp at h
  | s0 :: S, 0, s, h => by
    simp at h; subst h
    unfold prC
    rw [List.flatMap_cons, Nat.zero_mul, List.drop_zero, List.take_append_of_le_length (by simp [prc]), List.take_of_length_le (by simp [prc])]
  | s0 :: S, i + 1, s, h => by
    unfold prC
    rw [List.flatMap_cons, show (i + 1) * 3 = (prc s0).length + i * 3 by simp [prc]; omega, ← List.drop_drop, List.drop_left]
    exact flat3 (by simpa using h)
theorem prC_three {Q : List Pr} {i : Nat} (h : i < Q.length) : ((prC Q).drop (i * 3)).take 3 = prc (pq Q i) := flat3 (pq_get h)
theorem prC_at {Q : List Pr} {i : Nat} (h : i < Q.length) : (prC Q)[i * 3 + 2]? = some (.sl (icells (pq Q i).2.2) (pq Q i).2.2.length) := by
  have := prC_three h
  have e : (((prC Q).drop (i * 3)).take 3)[2]? = (prC Q)[i * 3 + 2]? := by rw [List.getElem?_take_of_lt (by decide), List.getElem?_drop]
  rw [← e, this]; rfl
theorem prC_noNil : ∀ (Q : List Pr), noNilL (prC Q) = true
  | [] => rfl
  | s :: S => by
    have := prC_noNil S
    unfold prC at this ⊢
    simp [List.flatMap_cons, prc, noNilL, noNil, ic_pure, this]
theorem prC_pure (Q : List Pr) : pureL (prC Q) = true ∧ noNilL (prC Q) = true := ⟨prC_pureL Q, prC_noNil Q⟩
theorem prL_mem {p vars : Int} {L : List (List Int)} {d : Nat} (hp : 1 ≤ p) : ∀ {i : Nat} {q : Pr}, q ∈ prL p vars L d i → q.2.2.length = dn vars ∧ Bd p q.2.2
  | 0, q, h => by simp [prL] at h
  | i + 1, q, h => by
    rw [prL, List.mem_append] at h
    rcases h with h | h
    · exact prL_mem hp h
    · unfold pdI at h
      split at h
      · obtain ⟨m, _, rfl⟩ := List.mem_map.1 h
        exact ⟨mulp_length, mulp_bd hp⟩
      · simp at h
end Go.Av
namespace Go.Av
open Go Go.Proofs Go.Sort
set_option maxRecDepth 10000
theorem ap57 : appTy Try.prog 57 = some (3, 40) := by kernel_rfl
theorem hb73 : hasBody Try.prog 73 = true := by kernel_rfl
theorem hb74 : hasBody Try.prog 74 = true := by kernel_rfl
theorem hb75 : hasBody Try.prog 75 = true := by kernel_rfl
theorem lt57 : litTy Try.prog 57 = some (3, [.int .i64 0, .int .i64 0, .nils]) := by kernel_rfl
theorem sp80 : structPl Try.prog 80 = some ([.int .i64 0, .int .i64 0, .nils], [(0, 1), (1, 1), (2, 1)]) := by kernel_rfl
theorem prods19_c (p vars : Int) (L : List (List Int)) (d : Nat) (ha : aOk p vars L = true) (hd6 : d ≤ 6) (hk0 : CnfOk vars L) : ACall Try.prog 58 [.int .i64 p, .agg [.int .i64 vars, .sl (sls L) L.length], .int .i64 ((d : Nat) : Int)] [] (.osl 3 (prC (prL p vars L d L.length)) (prL p vars L d L.length).length none) [] := by
 obtain ⟨hp, hc⟩ := aOk_spec ha
 have hpp := prime_spec hp
 have hcs := cnfB_spec hc
 have hd := dn_le hpp.2
 have hw := pow6 hpp.2
 have hdn := dn_cast vars
 have hk3 := hk0.2.2.1
 refine ACall.intro Try.func58 rfl (N := 78) rfl (by decide) (by simp) ?_
 refine a_seq ?_
 refine a_region ?_
 refine rn (v := .op [.int _ _, .sl _ _]) (q_box il rfl rfl) ?_
 refine rv (v := .nils) (v_assign il nf) ?_
 refine r_nil ?_
 refine a_seq ?_
 refine a_region ?_
 refine rn (v := .osl _ _ _ _) (q_sliceLit (n := 0) (parts := []) lt57 rfl rfl rfl rfl) ?_
 refine rv (v := .rsl _ _ _ _ _) (v_assign il nf) ?_
 refine r_pre (ent_reloc_sl (t := 7) rfl rfl) ?_
 refine r_nil ?_
 refine a_seq ?_
 refine a_seq ?_
 refine a_region ?_
 refine rv (v := .int _ _) (v_assign il nf) ?_
 refine r_nil ?_
 refine a_block ?_
 refine a_loop (X := Nat) (fun i => look [(0, .int .i64 p), (2, .int .i64 ((d : Nat) : Int)), (4, .op [.int .i64 vars, .sl (sls L) L.length]), (7, .osl 3 (prC (prL p vars L d i)) (prL p vars L d i).length none), (8, .int .i64 ((i : Nat) : Int))]) (fun i => i ≤ L.length) (fun i => L.length - i) 0 (ent_look ⟨Weak.of_eq rfl, Weak.of_eq rfl, Weak.of_eq rfl, Weak.osl rfl rfl, Weak.of_eq rfl, trivial⟩) (Nat.zero_le _) (fun i hG => ?_)
 have hpl := prL_len (p := p) (L := L) hpp.2 hd6 i
 refine a_seq ?_
 refine a_seq ?_
 refine a_region ?_
 refine rv (v := .int _ _) (v_move il nf) ?_
 refine rv (v := .rp _ _) (v_fieldAddr_rp fo24_1 il) ?_
 refine rv (v := .sl _ _) (v_load_rp1 ta22 il rfl (fun _ => rfl) rfl) ?_
 refine rv (v := .int _ _) (v_len_sl sl22 il) ?_
 refine rv (v := .bool _) (v_lss il il) ?_
 refine r_nil ?_
 refine a_cond rfl (fun ht17 => ?_) (fun ht17 => ?_)
 ·
  skip
  refine a_skip ?_
  refine a_seq ?_
  refine a_block ?_
  refine a_seq ?_
  refine a_seq ?_
  have hi : i < L.length := (by simp at ht17; omega)
  have hll := len_tot (L := L) (i := i)
  have hcl := hcs.2.2 i hi
  refine a_region ?_
  refine rv (v := .rp _ _) (v_fieldAddr_rp fo24_1 il) ?_
  refine rv (v := .sl _ _) (v_load_rp1 ta22 il rfl (fun _ => rfl) rfl) ?_
  refine rv (v := .int _ _) (v_move il nf) ?_
  refine rv (v := .pp _ _) (v_indexAddr_sl es22 il il (fun _ => ⟨by omega, by omega, sls_ne hi⟩)) ?_
  refine rv (v := .sl (icells (gl L i)) (gl L i).length) (v_load_pp ta42 il (fun _ => by rw [Nat.mul_one]; exact sls_get hi) rfl) ?_
  refine rv (v := .int _ _) (v_len_sl sl42 il) ?_
  refine rv (v := .int _ _) (v_move il nf) ?_
  refine rv (v := .bool _) (v_gtr il il) ?_
  refine r_nil ?_
  refine a_cond rfl (fun ht27 => ?_) (fun ht27 => ?_)
  ·
   skip
   refine a_exit ?_
   refine a_pre (ent_look (L := [(0, .int _ _), (2, .int _ _), (4, .op [.int _ _, .sl _ _]), (7, .osl _ _ _ _), (8, .int _ _)]) ⟨Weak.rfl, Weak.rfl, Weak.rfl, Weak.rfl, Weak.rfl, trivial⟩) ?_
   refine a_region ?_
   refine rv (v := .int _ _) (v_move il nf) ?_
   refine rv (v := .int _ _) (v_add il il (fun _ => by omega)) ?_
   refine rv (v := .int _ _) (v_assign il nf) ?_
   refine r_nil ?_
   refine ⟨i + 1, ent_look ⟨Weak.of_eq rfl, Weak.of_eq rfl, Weak.of_eq rfl, Weak.osl (by rw [prL_skip (by simp at ht27; omega)]) (by rw [prL_skip (by simp at ht27; omega)]), Weak.of_eq (int_eq (by omega)), trivial⟩, by omega, by omega⟩
  ·
   skip
   refine a_skip ?_
   refine a_seq ?_
   refine a_pre (ent_look (L := [(0, .int _ _), (2, .int _ _), (4, .op [.int _ _, .sl _ _]), (7, .osl _ _ _ _), (8, .int _ _)]) ⟨Weak.rfl, Weak.rfl, Weak.rfl, Weak.rfl, Weak.rfl, trivial⟩) ?_
   have hle : (gl L i).length ≤ d := (by simp at ht27; omega)
   refine a_region_any mixed (by kernel_rfl) ?_
   refine yv (v := .int _ _) (v_move il nf) ?_
   refine yv (v := .rp _ _) (v_fieldAddr_rp fo24_0 il) ?_
   refine yv (v := .int _ _) (v_load_rp1 ta3 il rfl (fun _ => rfl) rfl) ?_
   refine yv (v := .rp _ _) (v_fieldAddr_rp fo24_1 il) ?_
   refine yv (v := .sl _ _) (v_load_rp1 ta22 il rfl (fun _ => rfl) rfl) ?_
   refine yv (v := .int _ _) (v_move il nf) ?_
   refine yv (v := .pp _ _) (v_indexAddr_sl es22 il il (fun _ => ⟨by omega, by omega, sls_ne hi⟩)) ?_
   refine yv (v := .sl (icells (gl L i)) (gl L i).length) (v_load_pp ta42 il (fun _ => by rw [Nat.mul_one]; exact sls_get hi) rfl) ?_
   refine y_new (v := .osl _ _ _ _) (q_call (vs := [.int _ _, .int _ _, .sl _ _]) (args := [.int .i64 _, .int .i64 _, .sl _ _]) hb73 ⟨.inl rfl, .inl rfl, .inl rfl, trivial⟩ rfl (fun hA => l18Clause_c p vars (gl L i) hp hcl (by omega)) (tc_noSh _) (tc_noRef _)) rfl rfl (by decide) (by kernel_rfl) ?_
   refine yv (v := .rsl _ _ _ _ _) (v_assign il nf) ?_
   refine y_nil ?_
   refine a_seq ?_
   refine a_pre (ent_reloc_sl (t := 9) rfl rfl) ?_
   refine a_region_any mixed (by kernel_rfl) ?_
   refine yv (v := .rp _ _) (v_fieldAddr_rp fo24_0 il) ?_
   refine yv (v := .int .i64 ((vars.toNat : Nat) : Int)) ((v_load_rp1 ta3 il rfl (fun _ => rfl) rfl).cast (int_eq (by omega))) ?_
   refine yv (v := .int _ _) (v_move il nf) ?_
   refine yv (v := .rp _ _) (v_fieldAddr_rp fo24_1 il) ?_
   refine yv (v := .sl _ _) (v_load_rp1 ta22 il rfl (fun _ => rfl) rfl) ?_
   refine yv (v := .int _ _) (v_move il nf) ?_
   refine yv (v := .pp _ _) (v_indexAddr_sl es22 il il (fun _ => ⟨by omega, by omega, sls_ne hi⟩)) ?_
   refine yv (v := .sl (icells (gl L i)) (gl L i).length) (v_load_pp ta42 il (fun _ => by rw [Nat.mul_one]; exact sls_get hi) rfl) ?_
   refine yv (v := .int _ _) (v_len_sl sl42 il) ?_
   refine yv (v := .int .i64 (((d - (gl L i).length) : Nat) : Int)) ((v_sub il il (fun _ => by omega)).cast (int_eq (by omega))) ?_
   refine y_new (v := .osl _ _ _ _) (q_call (vs := [.int _ _, .int _ _]) (args := [.int .i64 _, .int .i64 _]) hb74 ⟨.inl rfl, .inl rfl, trivial⟩ rfl (fun hA => l18Graded_c vars.toNat (d - (gl L i).length) (by omega) (by omega)) (ic_noSh _) (ic_noRef _)) rfl rfl (by decide) (by kernel_rfl) ?_
   refine yv (v := .rsl _ _ _ _ _) (v_assign il nf) ?_
   refine y_nil ?_
   refine a_seq ?_
   refine a_pre (ent_reloc_sl (t := 10) rfl rfl) ?_
   refine a_pre (ent_look (L := [(0, .int _ _), (2, .int _ _), (4, .op [.int _ _, .sl _ _]), (7, .osl _ _ _ _), (8, .int _ _), (9, .osl _ _ _ _), (10, .osl _ _ _ _)]) ⟨Weak.rfl, Weak.rfl, Weak.rfl, Weak.rfl, Weak.rfl, Weak.rfl, Weak.rfl, trivial⟩) ?_
   refine a_region ?_
   refine rv (v := .int _ _) (v_assign il nf) ?_
   refine r_nil ?_
   refine a_block ?_
   refine a_loop (X := Nat) (fun j => look [(0, .int .i64 p), (2, .int .i64 ((d : Nat) : Int)), (4, .op [.int .i64 vars, .sl (sls L) L.length]), (7, .osl 3 (prC (prP p vars L d i j)) (prP p vars L d i j).length none), (8, .int .i64 ((i : Nat) : Int)), (9, .osl 2 (tcells (trm (clD p vars (gl L i)))) (trm (clD p vars (gl L i))).length none), (10, .osl 1 (icells (prG vars L d i)) (prG vars L d i).length none), (11, .int .i64 ((j : Nat) : Int))]) (fun j => j ≤ (prG vars L d i).length) (fun j => (prG vars L d i).length - j) 0 (ent_look ⟨Weak.of_eq rfl, Weak.of_eq rfl, Weak.of_eq rfl, Weak.osl (by rw [prP_zero]) (by rw [prP_zero]), Weak.of_eq rfl, Weak.of_eq rfl, Weak.of_eq rfl, Weak.of_eq rfl, trivial⟩) (Nat.zero_le _) (fun j hG => ?_)
   have hpj := prP_len (p := p) (L := L) hpp.2 hd6 i j
   have hgl := prG_len (L := L) (i := i) hpp.2 hd6
   refine a_seq ?_
   refine a_seq ?_
   refine a_region ?_
   refine rv (v := .int _ _) (v_move il nf) ?_
   refine rv (v := .rsl _ _ _ _ _) (v_move il nf) ?_
   refine rv (v := .int _ _) (v_len_rsl sl42 il) ?_
   refine rv (v := .bool _) (v_lss il il) ?_
   refine r_nil ?_
   refine a_cond rfl (fun ht51 => ?_) (fun ht51 => ?_)
   ·
    skip
    refine a_skip ?_
    refine a_seq ?_
    refine a_block ?_
    have hj : j < (prG vars L d i).length := (by simp at ht51; omega)
    obtain ⟨hm0, hm1⟩ := prG_rng (L := L) (d := d) (i := i) hpp.2.1 hj
    have hl1 := trm_len (clD p vars (gl L i))
    rw [clD_len] at hl1
    have hso := sOut_mono hp ⟨hm0, hm1⟩ (gl L i)
    refine a_region_tail (n := 22) mixed (by kernel_rfl) ?_
    refine t_val (v := .rsl _ _ _ _ _) (v_move (.inl rfl) nf) rfl rfl (by decide) (by kernel_rfl) ?_
    refine t_val (v := .int _ _) (v_move (.inl rfl) nf) rfl rfl (by decide) (by kernel_rfl) ?_
    refine t_val (v := .rsl _ _ _ _ _) (v_move (.inl rfl) nf) rfl rfl (by decide) (by kernel_rfl) ?_
    refine t_val (v := .int _ _) (v_move (.inl rfl) nf) rfl rfl (by decide) (by kernel_rfl) ?_
    refine t_val (v := .rp _ _) (v_indexAddr_rsl0 es42 (.inl rfl) (.inl rfl) (fun _ => by omega)) rfl rfl (by decide) (by kernel_rfl) ?_
    refine t_val (v := .int .i64 (gd (prG vars L d i) j)) (v_load_rp1 ta3 (.inl rfl) rfl (fun _ => by rw [Nat.mul_one]; exact icells_get (gd_get hj)) rfl) rfl rfl (by decide) (by kernel_rfl) ?_
    refine t_val (v := .rp _ _) (v_fieldAddr_rp fo24_0 (.inl rfl)) rfl rfl (by decide) (by kernel_rfl) ?_
    refine t_val (v := .int _ _) (v_load_rp1 ta3 (.inl rfl) rfl (fun _ => rfl) rfl) rfl rfl (by decide) (by kernel_rfl) ?_
    refine t_val (v := .int _ _) (v_move (.inl rfl) nf) rfl rfl (by decide) (by kernel_rfl) ?_
    refine t_val (v := .rp _ _) (v_fieldAddr_rp fo24_0 (.inl rfl)) rfl rfl (by decide) (by kernel_rfl) ?_
    refine t_val (v := .int _ _) (v_load_rp1 ta3 (.inl rfl) rfl (fun _ => rfl) rfl) rfl rfl (by decide) (by kernel_rfl) ?_
    refine t_val (v := .rsl _ _ _ _ _) (v_move (.inl rfl) nf) rfl rfl (by decide) (by kernel_rfl) ?_
    refine t_val (v := .rsl _ _ _ _ _) (v_move (.inl rfl) nf) rfl rfl (by decide) (by kernel_rfl) ?_
    refine t_val (v := .int _ _) (v_move (.inl rfl) nf) rfl rfl (by decide) (by kernel_rfl) ?_
    refine t_val (v := .rp _ _) (v_indexAddr_rsl0 es42 (.inl rfl) (.inl rfl) (fun _ => by omega)) rfl rfl (by decide) (by kernel_rfl) ?_
    refine t_val (v := .int .i64 (gd (prG vars L d i) j)) (v_load_rp1 ta3 (.inl rfl) rfl (fun _ => by rw [Nat.mul_one]; exact icells_get (gd_get hj)) rfl) rfl rfl (by decide) (by kernel_rfl) ?_
    refine t_val (v := .agg [.int _ _, .int _ _]) (v_build sp105 rfl rfl) rfl rfl (by decide) (by kernel_rfl) ?_
    refine t_new (v := .osl _ _ _ _) (q_sliceLit (n := 1) (parts := [(0, .tmp 70)]) lt99 rfl rfl rfl rfl) rfl rfl (by decide) (by kernel_rfl) ?_
    refine t_new (v := .osl 2 (tcells (trm (mulp p (dn vars) (clD p vars (gl L i)) (one (dn vars) (gd (prG vars L d i) j).toNat)))) (trm (mulp p (dn vars) (clD p vars (gl L i)) (one (dn vars) (gd (prG vars L d i) j).toNat))).length none) (QSem.cast (q_call (vs := [.int _ _, .int _ _, .rsl _ _ _ _ _, .rsl _ _ _ _ _]) (args := [.int .i64 _, .int .i64 _, .sl _ _, .sl _ _]) hb76 ⟨.inl rfl, .inl rfl, .inl rfl, .inl rfl, trivial⟩ (l4_eq rfl rfl (sl_sh (tc_pure _)) (sl_sh (tc_pure [((gd (prG vars L d i) j), 1)]))) (fun hA => l18Mul_c p vars (trm (clD p vars (gl L i))) [((gd (prG vars L d i) j), 1)] hp (trm_good (clD_bd (by omega) _) (clD_len _ _ _)) (mono_good (by omega) ⟨hm0, hm1⟩) (by omega) (by simp)) (tc_noSh _) (tc_noRef _)) (osl_eq2 (by rw [hso]) (by rw [hso]))) rfl rfl (by decide) (by kernel_rfl) ?_
    refine t_new (v := .sl (icells (mulp p (dn vars) (clD p vars (gl L i)) (one (dn vars) (gd (prG vars L d i) j).toNat))) (dn vars)) (QSem.cast (q_callZ (vs := [.int _ _, .rsl _ _ _ _ _]) (args := [.int .i64 _, .sl _ _]) hb75 ⟨.inl rfl, .inl rfl, trivial⟩ (l2_eq rfl (sl_sh (tc_pure _))) (fun hA => l18Dense_c p vars (trm (mulp p (dn vars) (clD p vars (gl L i)) (one (dn vars) (gd (prG vars L d i) j).toNat))) hp (trm_good (mulp_bd (by omega)) mulp_length) (by have h9 := trm_len (mulp p (dn vars) (clD p vars (gl L i)) (one (dn vars) (gd (prG vars L d i) j).toNat)); rw [mulp_length] at h9; omega)) (ic_noSh _) (ic_noRef _)) ((sl_shZ (ic_pure _)).trans (by rw [accp_trm (mulp_bd (by omega)) mulp_length]))) rfl rfl (by decide) (by kernel_rfl) ?_
    refine t_val (v := .agg [.int _ _, .int _ _, .sl _ _]) (v_build sp80 rfl rfl) rfl rfl (by decide) (by kernel_rfl) ?_
    refine t_new (v := .osl _ _ _ _) (q_sliceLit (n := 1) (parts := [(0, .tmp 74)]) lt57 rfl rfl rfl rfl) rfl rfl (by decide) (by kernel_rfl) ?_
    refine t_nil ?_
    refine r_pre (ent_reloc_sl (t := 54) rfl rfl) ?_
    refine r_step rfl (o_append rfl ap57 rfl (by decide) (by decide) rfl (src_lit (.inl rfl) rfl rfl rfl) rfl (by rw [prC_length]) (by omega)) ?_
    refine rv (v := .rsl _ _ _ _ _) (v_assign il nf) ?_
    refine r_pre (ent_reloc_sl (t := 7) rfl rfl) ?_
    refine r_nil ?_
    refine a_pre (ent_look (L := [(0, .int _ _), (2, .int _ _), (4, .op [.int _ _, .sl _ _]), (7, .osl _ _ _ _), (8, .int _ _), (9, .osl _ _ _ _), (10, .osl _ _ _ _), (11, .int _ _)]) ⟨Weak.rfl, Weak.rfl, Weak.rfl, Weak.rfl, Weak.rfl, Weak.rfl, Weak.rfl, Weak.rfl, trivial⟩) ?_
    refine a_region ?_
    refine rv (v := .int _ _) (v_move il nf) ?_
    refine rv (v := .int _ _) (v_add il il (fun _ => by omega)) ?_
    refine rv (v := .int _ _) (v_assign il nf) ?_
    refine r_nil ?_
    refine ⟨j + 1, ent_look ⟨Weak.of_eq rfl, Weak.of_eq rfl, Weak.of_eq rfl, Weak.osl (by rw [prP_more hj, prC_app]; unfold prc prOne; rw [mulp_length]; rfl) (by rw [prP_more hj, List.length_append]; rfl), Weak.of_eq rfl, Weak.of_eq rfl, Weak.of_eq rfl, Weak.of_eq (int_eq (by omega)), trivial⟩, by omega, by omega⟩
   ·
    skip
    refine a_exit ?_
    refine a_region ?_
    refine rv (v := .int _ _) (v_move il nf) ?_
    refine rv (v := .int _ _) (v_add il il (fun _ => by omega)) ?_
    refine rv (v := .int _ _) (v_assign il nf) ?_
    refine r_nil ?_
    refine ⟨i + 1, ent_look ⟨Weak.of_eq rfl, Weak.of_eq rfl, Weak.of_eq rfl, Weak.osl (by rw [prP_full hle (by simp at ht51; omega)]) (by rw [prP_full hle (by simp at ht51; omega)]), Weak.of_eq (int_eq (by omega)), trivial⟩, by omega, by omega⟩
 ·
  skip
  refine a_exit ?_
  refine a_seq ?_
  refine a_region ?_
  refine rv (v := .rsl _ _ _ _ _) (v_move il nf) ?_
  refine rv (v := .rsl _ _ _ _ _) (v_assign il nf) ?_
  refine r_pre (ent_reloc_sl (t := 6) rfl rfl) ?_
  refine r_nil ?_
  refine a_ret ?_
  refine ret1 Try.results58 (by decide) (by decide) (Weak.osl ?_ ?_) rfl Leaves.nil
  all_goals (have hie : i = L.length := (by simp at ht17; omega); subst hie; rfl)
end Go.Av
namespace Go.Av
open Go Go.Proofs Go.Sort
set_option maxRecDepth 10000
theorem ap65 : appTy Try.prog 65 = some (3, 40) := by kernel_rfl
theorem es86 : elemSize Try.prog 86 = some 1 := by kernel_rfl
theorem fo88_0 : fieldOff Try.prog 88 0 = some 0 := by kernel_rfl
theorem fo88_1 : fieldOff Try.prog 88 1 = some 2 := by kernel_rfl
theorem hb80 : hasBody Try.prog 80 = true := by kernel_rfl
theorem lt65 : litTy Try.prog 65 = some (3, [.int .i64 0, .int .i64 0, .nils]) := by kernel_rfl
theorem sp95 : structPl Try.prog 95 = some ([.int .i64 0, .int .i64 0, .nils], [(0, 1), (1, 1), (2, 1)]) := by kernel_rfl
theorem ta89 : tyAgg Try.prog 89 = some (false, 1) := by kernel_rfl
theorem iprods_c (p vars : Int) (L : List (List Int)) (d : Nat) (ha : aOk p vars L = true) (hd6 : d ≤ 6) : ACall Try.prog 65 [.pp [.int .i64 p, .int .i64 vars, .int .i64 vars, .sl (sls L) L.length, .sl (sls (qL p vars L)) L.length] 0, .int .i64 ((d : Nat) : Int)] [] (.osl 3 (prC (prL p vars L d L.length)) (prL p vars L d L.length).length none) [] := by
 obtain ⟨hp, hc⟩ := aOk_spec ha
 have hpp := prime_spec hp
 have hcs := cnfB_spec hc
 have hd := dn_le hpp.2
 have hw := pow6 hpp.2
 have hdn := dn_cast vars
 have hql := qL_len p vars L
 refine ACall.intro Try.func65 rfl (N := 67) rfl (by decide) (by simp) ?_
 refine a_seq ?_
 refine a_region ?_
 refine rv (v := .nils) (v_assign il nf) ?_
 refine r_nil ?_
 refine a_seq ?_
 refine a_region ?_
 refine rv (v := .nils) (v_assign il nf) ?_
 refine r_nil ?_
 refine a_seq ?_
 refine a_seq ?_
 refine a_region ?_
 refine rv (v := .pp _ _) (v_move il nf) ?_
 refine rv (v := .pp _ _) (v_nilCheck il rfl) ?_
 refine rv (v := .pp _ _) (v_fieldAddr_pp fo88_1 il) ?_
 refine rv (v := .pp _ _) (v_fieldAddr_pp fo24_1 il) ?_
 refine rv (v := .sl _ _) (v_load_pp ta22 il (fun _ => rfl) rfl) ?_
 refine rv (v := .int _ _) (v_len_sl sl22 il) ?_
 refine rv (v := .int _ _) (v_move il nf) ?_
 refine r_nil ?_
 refine a_block ?_
 refine a_pre (ent_nil (t := 5) (sz := 3) (cap := none) (.inl rfl) (fun _ h => by cases h)) ?_
 refine a_loop (X := Nat) (fun i => look [(0, .pp [.int .i64 p, .int .i64 vars, .int .i64 vars, .sl (sls L) L.length, .sl (sls (qL p vars L)) L.length] 0), (1, .int .i64 ((d : Nat) : Int)), (5, .osl 3 (prC (prL p vars L d i)) (prL p vars L d i).length none), (14, .sl (sls L) L.length), (15, .int .i64 (L.length : Int)), (16, .int .i64 ((i : Nat) : Int))]) (fun i => i ≤ L.length) (fun i => L.length - i) 0 (ent_look ⟨Weak.of_eq rfl, Weak.of_eq rfl, Weak.osl rfl rfl, Weak.of_eq rfl, Weak.of_eq rfl, Weak.of_eq rfl, trivial⟩) (Nat.zero_le _) (fun i hG => ?_)
 have hpl := prL_len (p := p) (L := L) hpp.2 hd6 i
 refine a_seq ?_
 refine a_region ?_
 refine rv (v := .bool _) (v_lss il il) ?_
 refine r_nil ?_
 refine a_seq ?_
 refine a_cond rfl (fun ht17 => ?_) (fun ht17 => ?_)
 ·
  skip
  refine a_skip ?_
  refine a_seq ?_
  refine a_block ?_
  refine a_seq ?_
  have hi : i < L.length := (by simp at ht17; omega)
  have hcl := hcs.2.2 i hi
  refine a_region ?_
  refine rv (v := .int _ _) (v_move il nf) ?_
  refine rv (v := .pp _ _) (v_indexAddr_sl es22 il il (fun _ => ⟨by omega, by omega, sls_ne hi⟩)) ?_
  refine rv (v := .sl (icells (gl L i)) (gl L i).length) (v_load_pp ta42 il (fun _ => by rw [Nat.mul_one]; exact sls_get hi) rfl) ?_
  refine rv (v := .int _ _) (v_assign il nf) ?_
  refine rv (v := .sl _ _) (v_assign il nf) ?_
  refine r_nil ?_
  refine a_seq ?_
  refine a_seq ?_
  refine a_region ?_
  refine rv (v := .sl _ _) (v_move il nf) ?_
  refine rv (v := .int _ _) (v_len_sl sl42 il) ?_
  refine rv (v := .int _ _) (v_move il nf) ?_
  refine rv (v := .bool _) (v_gtr il il) ?_
  refine r_nil ?_
  refine a_cond rfl (fun ht24 => ?_) (fun ht24 => ?_)
  ·
   skip
   refine a_exit ?_
   refine a_region ?_
   refine rv (v := .int _ _) (v_add il il (fun _ => by omega)) ?_
   refine rv (v := .int _ _) (v_move il nf) ?_
   refine r_nil ?_
   refine ⟨i + 1, ent_look ⟨Weak.of_eq rfl, Weak.of_eq rfl, Weak.osl (by rw [prL_skip (by simp at ht24; omega)]) (by rw [prL_skip (by simp at ht24; omega)]), Weak.of_eq rfl, Weak.of_eq rfl, Weak.of_eq (int_eq (by omega)), trivial⟩, by omega, by omega⟩
  ·
   skip
   refine a_skip ?_
   refine a_seq ?_
   have hle : (gl L i).length ≤ d := (by simp at ht24; omega)
   refine a_region ?_
   refine rv (v := .pp _ _) (v_move il nf) ?_
   refine rv (v := .pp _ _) (v_nilCheck il rfl) ?_
   refine rv (v := .pp _ _) (v_fieldAddr_pp fo88_0 il) ?_
   refine rv (v := .pp _ _) (v_fieldAddr_pp fo83_1 il) ?_
   refine rv (v := .int .i64 ((vars.toNat : Nat) : Int)) ((v_load_pp ta3 il (fun _ => rfl) rfl).cast (int_eq (by omega))) ?_
   refine rv (v := .int _ _) (v_move il nf) ?_
   refine rv (v := .sl _ _) (v_move il nf) ?_
   refine rv (v := .int _ _) (v_len_sl sl42 il) ?_
   refine rv (v := .int .i64 (((d - (gl L i).length) : Nat) : Int)) ((v_sub il il (fun _ => by omega)).cast (int_eq (by omega))) ?_
   refine rn (v := .osl _ _ _ _) (q_call (vs := [.int _ _, .int _ _]) (args := [.int .i64 _, .int .i64 _]) hb80 ⟨il, il, trivial⟩ rfl (fun hA => graded_c vars.toNat (d - (gl L i).length) (by omega) (by omega)) (ic_noSh _) (ic_noRef _)) ?_
   refine rv (v := .int _ _) (v_len_rsl sl42 il) ?_
   refine rv (v := .int _ _) (v_move il nf) ?_
   refine r_nil ?_
   refine a_block ?_
   refine a_loop (X := Nat) (fun j => look [(0, .pp [.int .i64 p, .int .i64 vars, .int .i64 vars, .sl (sls L) L.length, .sl (sls (qL p vars L)) L.length] 0), (1, .int .i64 ((d : Nat) : Int)), (5, .osl 3 (prC (prP p vars L d i j)) (prP p vars L d i j).length none), (6, .int .i64 ((i : Nat) : Int)), (14, .sl (sls L) L.length), (15, .int .i64 (L.length : Int)), (16, .int .i64 ((i : Nat) : Int)), (34, .osl 1 (icells (prG vars L d i)) (prG vars L d i).length none), (35, .int .i64 ((prG vars L d i).length : Int)), (36, .int .i64 ((j : Nat) : Int))]) (fun j => j ≤ (prG vars L d i).length) (fun j => (prG vars L d i).length - j) 0 (ent_look ⟨Weak.of_eq rfl, Weak.of_eq rfl, Weak.osl (by rw [prP_zero]) (by rw [prP_zero]), Weak.of_eq rfl, Weak.of_eq rfl, Weak.of_eq rfl, Weak.of_eq rfl, Weak.of_eq rfl, Weak.of_eq rfl, Weak.of_eq rfl, trivial⟩) (Nat.zero_le _) (fun j hG => ?_)
   have hpj := prP_len (p := p) (L := L) hpp.2 hd6 i j
   have hgl := prG_len (L := L) (i := i) hpp.2 hd6
   refine a_seq ?_
   refine a_region ?_
   refine rv (v := .bool _) (v_lss il il) ?_
   refine r_nil ?_
   refine a_seq ?_
   refine a_cond rfl (fun ht37 => ?_) (fun ht37 => ?_)
   ·
    skip
    refine a_skip ?_
    refine a_seq ?_
    refine a_block ?_
    refine a_seq ?_
    have hj : j < (prG vars L d i).length := (by simp at ht37; omega)
    obtain ⟨hm0, hm1⟩ := prG_rng (L := L) (d := d) (i := i) hpp.2.1 hj
    refine a_region ?_
    refine rv (v := .rp _ _) (v_indexAddr_rsl0 es42 il il (fun _ => by omega)) ?_
    refine rv (v := .int .i64 (gd (prG vars L d i) j)) (v_load_rp1 ta3 il rfl (fun _ => by rw [Nat.mul_one]; exact icells_get (gd_get hj)) rfl) ?_
    refine rv (v := .int _ _) (v_assign il nf) ?_
    refine r_nil ?_
    refine a_region_tail (n := 23) mixed (by kernel_rfl) ?_
    refine t_val (v := .rsl _ _ _ _ _) (v_move (.inl rfl) nf) rfl rfl (by decide) (by kernel_rfl) ?_
    refine t_val (v := .int _ _) (v_move (.inl rfl) nf) rfl rfl (by decide) (by kernel_rfl) ?_
    refine t_val (v := .int _ _) (v_move (.inl rfl) nf) rfl rfl (by decide) (by kernel_rfl) ?_
    refine t_val (v := .pp _ _) (v_move (.inl rfl) nf) rfl rfl (by decide) (by kernel_rfl) ?_
    refine t_val (v := .pp _ _) (v_nilCheck (.inl rfl) rfl) rfl rfl (by decide) (by kernel_rfl) ?_
    refine t_val (v := .pp _ _) (v_fieldAddr_pp fo88_0 (.inl rfl)) rfl rfl (by decide) (by kernel_rfl) ?_
    refine t_val (v := .agg [.int _ _, .int _ _]) (v_load_ppa1 ta83 (.inl rfl) rfl (fun _ => rfl) rfl) rfl rfl (by decide) (by kernel_rfl) ?_
    refine t_val (v := .pp _ _) (v_move (.inl rfl) nf) rfl rfl (by decide) (by kernel_rfl) ?_
    refine t_val (v := .pp _ _) (v_nilCheck (.inl rfl) rfl) rfl rfl (by decide) (by kernel_rfl) ?_
    refine t_val (v := .pp _ _) (v_fieldAddr_pp fo88_2 (.inl rfl)) rfl rfl (by decide) (by kernel_rfl) ?_
    refine t_val (v := .sl _ _) (v_load_pp ta86 (.inl rfl) (fun _ => rfl) rfl) rfl rfl (by decide) (by kernel_rfl) ?_
    refine t_val (v := .int _ _) (v_move (.inl rfl) nf) rfl rfl (by decide) (by kernel_rfl) ?_
    refine t_val (v := .pp _ _) (v_indexAddr_sl es86 (.inl rfl) (.inl rfl) (fun _ => ⟨by omega, by omega, sls_ne (i := i) (by omega)⟩)) rfl rfl (by decide) (by kernel_rfl) ?_
    refine t_val (v := .sl (icells (clD p vars (gl L i))) (dn vars)) (v_load_pp ta89 (.inl rfl) (fun _ => by rw [Nat.mul_one]; exact (sls_get (i := i) (by omega)).trans (by rw [qL_get (by omega), clD_len])) rfl) rfl rfl (by decide) (by kernel_rfl) ?_
    refine t_val (v := .pp _ _) (v_move (.inl rfl) nf) rfl rfl (by decide) (by kernel_rfl) ?_
    refine t_val (v := .pp _ _) (v_nilCheck (.inl rfl) rfl) rfl rfl (by decide) (by kernel_rfl) ?_
    refine t_val (v := .pp _ _) (v_fieldAddr_pp fo88_0 (.inl rfl)) rfl rfl (by decide) (by kernel_rfl) ?_
    refine t_val (v := .agg [.int _ _, .int _ _]) (v_load_ppa1 ta83 (.inl rfl) rfl (fun _ => rfl) rfl) rfl rfl (by decide) (by kernel_rfl) ?_
    refine t_val (v := .int .i64 (((gd (prG vars L d i) j).toNat : Nat) : Int)) ((v_move (.inl rfl) nf).cast (int_eq (by omega))) rfl rfl (by decide) (by kernel_rfl) ?_
    refine t_new (v := .osl _ _ _ _) (q_call (vs := [.agg [.int _ _, .int _ _], .int _ _]) (args := [.agg [.int .i64 _, .int .i64 _], .int .i64 _]) hb77 ⟨.inl rfl, .inl rfl, trivial⟩ rfl (fun hA => mono_c p vars (gd (prG vars L d i) j).toNat hpp.2 (by omega)) (ic_noSh _) (ic_noRef _)) rfl rfl (by decide) (by kernel_rfl) ?_
    refine t_new (v := .sl (icells (mulp p (dn vars) (clD p vars (gl L i)) (one (dn vars) (gd (prG vars L d i) j).toNat))) (dn vars)) (QSem.cast (q_callZ (vs := [.agg [.int _ _, .int _ _], .sl _ _, .rsl _ _ _ _ _]) (args := [.agg [.int .i64 _, .int .i64 _], .sl _ _, .sl _ _]) hb78 ⟨.inl rfl, .inl rfl, .inl rfl, trivial⟩ (l3_eq rfl rfl (sl_sh (ic_pure _))) (fun hA => times_c p vars (clD p vars (gl L i)) (one (dn vars) (gd (prG vars L d i) j).toNat) _ hp ⟨clD_len _ _ _, one_length _ _, rfl⟩ (clD_bd (by omega) _) (one_bd (by omega) _ _)) (ic_noSh _) (ic_noRef _)) (sl_shZ (ic_pure _))) rfl rfl (by decide) (by kernel_rfl) ?_
    refine t_val (v := .agg [.int _ _, .int _ _, .sl _ _]) (v_build sp95 rfl rfl) rfl rfl (by decide) (by kernel_rfl) ?_
    refine t_new (v := .osl _ _ _ _) (q_sliceLit (n := 1) (parts := [(0, .tmp 61)]) lt65 rfl rfl rfl rfl) rfl rfl (by decide) (by kernel_rfl) ?_
    refine t_nil ?_
    refine r_pre (ent_reloc_sl (t := 40) rfl rfl) ?_
    refine r_step rfl (o_append rfl ap65 rfl (by decide) (by decide) rfl (src_lit (.inl rfl) rfl rfl rfl) rfl (by rw [prC_length]) (by omega)) ?_
    refine rv (v := .rsl _ _ _ _ _) (v_assign il nf) ?_
    refine r_pre (ent_reloc_sl (t := 5) rfl rfl) ?_
    refine r_nil ?_
    refine a_pre (ent_look (L := [(0, .pp _ _), (1, .int _ _), (5, .osl _ _ _ _), (6, .int _ _), (14, .sl _ _), (15, .int _ _), (16, .int _ _), (34, .osl _ _ _ _), (35, .int _ _), (36, .int _ _)]) ⟨Weak.rfl, Weak.rfl, Weak.rfl, Weak.rfl, Weak.rfl, Weak.rfl, Weak.rfl, Weak.rfl, Weak.rfl, Weak.rfl, trivial⟩) ?_
    refine a_region ?_
    refine rv (v := .int _ _) (v_add il il (fun _ => by omega)) ?_
    refine rv (v := .int _ _) (v_move il nf) ?_
    refine r_nil ?_
    refine ⟨j + 1, ent_look ⟨Weak.of_eq rfl, Weak.of_eq rfl, Weak.osl (by rw [prP_more hj, prC_app]; unfold prc prOne; rw [mulp_length]; rfl) (by rw [prP_more hj, List.length_append]; rfl), Weak.of_eq rfl, Weak.of_eq rfl, Weak.of_eq rfl, Weak.of_eq rfl, Weak.of_eq rfl, Weak.of_eq rfl, Weak.of_eq (int_eq (by omega)), trivial⟩, by omega, by omega⟩
   ·
    skip
    refine a_exit ?_
    refine a_region ?_
    refine rv (v := .int _ _) (v_add il il (fun _ => by omega)) ?_
    refine rv (v := .int _ _) (v_move il nf) ?_
    refine r_nil ?_
    refine ⟨i + 1, ent_look ⟨Weak.of_eq rfl, Weak.of_eq rfl, Weak.osl (by rw [prP_full hle (by simp at ht37; omega)]) (by rw [prP_full hle (by simp at ht37; omega)]), Weak.of_eq rfl, Weak.of_eq rfl, Weak.of_eq (int_eq (by omega)), trivial⟩, by omega, by omega⟩
 ·
  skip
  refine a_exit ?_
  refine a_seq ?_
  refine a_region ?_
  refine rv (v := .rsl _ _ _ _ _) (v_move il nf) ?_
  refine rv (v := .rsl _ _ _ _ _) (v_assign il nf) ?_
  refine r_pre (ent_reloc_sl (t := 4) rfl rfl) ?_
  refine r_nil ?_
  refine a_ret ?_
  refine ret1 Try.results65 (by decide) (by decide) (Weak.osl ?_ ?_) rfl Leaves.nil
  all_goals (have hie : i = L.length := (by simp at ht17; omega); subst hie; rfl)
end Go.Av
namespace Go.Av
open Go Go.Proofs Go.Sort
set_option maxRecDepth 10000
theorem deg19_c (d : Int) : ACall Try.prog 39 [.int .i64 d] [] (.bool (inR d 0 6)) [] := by
 refine ACall.intro Try.func39 rfl (N := 5) rfl (by decide) (by simp) ?_
 refine a_seq ?_
 refine a_region ?_
 refine rv (v := .bool _) (v_assign il nf) ?_
 refine r_nil ?_
 refine a_seq ?_
 refine a_region ?_
 refine rv (v := .int _ _) (v_move il nf) ?_
 refine rn (v := .bool _) (q_call (vs := [.int _ _, .int _ _, .int _ _]) (args := [.int .i64 _, .int .i64 _, .int .i64 _]) hb20 ⟨il, il, il, trivial⟩ rfl (fun hA => l1In_c d 0 6) rfl rfl) ?_
 refine rv (v := .bool _) (v_assign il nf) ?_
 refine r_nil ?_
 refine a_ret ?_
 refine ret1 Try.results39 (by decide) (by decide) (Weak.of_eq (bool_eq ?_)) rfl Leaves.nil
 rfl
theorem degOk_c (d : Int) : ACall Try.prog 43 [.int .i64 d] [] (.bool (inR d 0 6)) [] := by
 refine ACall.intro Try.func43 rfl (N := 5) rfl (by decide) (by simp) ?_
 refine a_seq ?_
 refine a_region ?_
 refine rv (v := .bool _) (v_assign il nf) ?_
 refine r_nil ?_
 refine a_seq ?_
 refine a_region ?_
 refine rv (v := .int _ _) (v_move il nf) ?_
 refine rn (v := .bool _) (q_call (vs := [.int _ _, .int _ _, .int _ _]) (args := [.int .i64 _, .int .i64 _, .int .i64 _]) hb24 ⟨il, il, il, trivial⟩ rfl (fun hA => within_c d 0 6) rfl rfl) ?_
 refine rv (v := .bool _) (v_assign il nf) ?_
 refine r_nil ?_
 refine a_ret ?_
 refine ret1 Try.results43 (by decide) (by decide) (Weak.of_eq (bool_eq ?_)) rfl Leaves.nil
 rfl
end Go.Av
namespace Go.Av
open Go
theorem sls_append (L M : List (List Int)) : sls (L ++ M) = sls L ++ sls M := by simp [sls]
end Go.Av
namespace Go.Av
open Go
theorem gl_app {L M : List (List Int)} {i : Nat} : gl (L ++ M) i = if i < L.length then gl L i else gl M (i - L.length) := by
  unfold gl
  split
  · rename_i h; rw [List.getElem?_append_left h]
  · rename_i h; rw [List.getElem?_append_right (by omega)]
end Go.Av
namespace Go.Av
open Go
def axp (p k : Int) (A B : List Int) : List Int := modp p (linz k A B)
theorem axp_length (p k : Int) (A B : List Int) : (axp p k A B).length = A.length := by unfold axp; rw [modp_length, linz_length]
theorem axp_bd {p : Int} (hp : 1 ≤ p) (k : Int) (A B : List Int) : Bd p (axp p k A B) := modp_bd hp _
theorem gd_axp {p k : Int} {A B : List Int} {i : Nat} (h : i < A.length) : gd (axp p k A B) i = (gd A i + k * gd B i) % p := by unfold axp; rw [gd_modp, gd_linz h]
theorem gd_axp_out {p k : Int} {A B : List Int} {i : Nat} (h : A.length ≤ i) : gd (axp p k A B) i = 0 := gd_out (by rw [axp_length]; exact h)
theorem axp_same {p k : Int} {A B : List Int} (hA : Bd p A) (hk : k = 0 ∨ k = p) : axp p k A B = A :=
  gd_ext (axp_length _ _ _ _) fun i hi => by
    rw [axp_length] at hi
    rw [gd_axp hi]
    have := hA i
    rcases hk with rfl | rfl
    · rw [Int.zero_mul, Int.add_zero]; exact Int.emod_eq_of_lt this.1 this.2
    · rw [Int.add_mul_emod_self_left]; exact Int.emod_eq_of_lt this.1 this.2
def rdN (row : Nat → Nat → Int) (ld : Nat → Nat) (f : Nat → Int) : Nat → Nat → Int
  | 0, k => f k
  | i + 1, k => rdN row ld f i k - rdN row ld f i (ld i) * row i k
theorem rdN_lin (row : Nat → Nat → Int) (ld : Nat → Nat) (f g : Nat → Int) (c : Int) : ∀ n k, rdN row ld (fun k => f k + c * g k) n k = rdN row ld f n k + c * rdN row ld g n k
  | 0, _ => rfl
  | n + 1, k => by
    simp only [rdN]
    rw [rdN_lin row ld f g c n k, rdN_lin row ld f g c n (ld n)]
    grind
theorem rdN_ext {row row' : Nat → Nat → Int} {ld ld' : Nat → Nat} {f : Nat → Int} : ∀ {n}, (∀ i, i < n → ld i = ld' i ∧ ∀ k, row i k = row' i k) → ∀ k, rdN row ld f n k = rdN row' ld' f n k
  | 0, _, _ => rfl
  | n + 1, h, k => by
    simp only [rdN]
    have hn := h n (by omega)
    rw [rdN_ext (fun i hi => h i (by omega)) k, rdN_ext (fun i hi => h i (by omega)) (ld n), hn.1, hn.2]
def sS (row : Nat → Nat → Int) (ld : Nat → Nat) (f : Nat → Int) : Nat → Nat → Int
  | 0, k => f k
  | i + 1, k => sS row ld f i k - f (ld i) * row i k
theorem rdN_q {p : Int} {row : Nat → Nat → Int} {ld : Nat → Nat} {f : Nat → Int} {q : Nat} : ∀ {n}, (∀ i, i < n → p ∣ row i q) → p ∣ rdN row ld f n q - f q
  | 0, _ => by simp only [rdN]; rw [Int.sub_self]; exact Int.dvd_zero p
  | n + 1, h => by
    obtain ⟨a, ha⟩ := rdN_q (n := n) (ld := ld) (f := f) (fun i hi => h i (by omega))
    obtain ⟨b, hb⟩ := h n (by omega)
    refine ⟨a - rdN row ld f n (ld n) * b, ?_⟩
    simp only [rdN]; rw [hb]; grind
theorem rdN_sS {p : Int} {row : Nat → Nat → Int} {ld : Nat → Nat} {f : Nat → Int} : ∀ {n}, (∀ i j, i < n → j < n → i ≠ j → p ∣ row i (ld j)) → ∀ k, p ∣ rdN row ld f n k - sS row ld f n k
  | 0, _, k => by simp only [rdN, sS]; rw [Int.sub_self]; exact Int.dvd_zero p
  | n + 1, h, k => by
    obtain ⟨a, ha⟩ := rdN_sS (n := n) (f := f) (fun i j hi hj hij => h i j (by omega) (by omega) hij) k
    obtain ⟨b, hb⟩ := rdN_q (n := n) (ld := ld) (f := f) (q := ld n) (fun i hi => h i n (by omega) (by omega) (by omega))
    refine ⟨a - b * row n k, ?_⟩
    simp only [rdN, sS]; grind
theorem rdN_zero {p : Int} {row : Nat → Nat → Int} {ld : Nat → Nat} {f : Nat → Int} {n : Nat} (h : ∀ i j, i < n → j < n → i ≠ j → p ∣ row i (ld j)) (h1 : ∀ i, i < n → p ∣ row i (ld i) - 1) : ∀ m, m ≤ n → ∀ j, j < m → p ∣ rdN row ld f m (ld j)
  | 0, _, j, hj => absurd hj (by omega)
  | m + 1, hm, j, hj => by
    simp only [rdN]
    rcases Nat.lt_or_ge j m with hjm | hjm
    · obtain ⟨a, ha⟩ := rdN_zero (f := f) h h1 m (by omega) j hjm
      obtain ⟨b, hb⟩ := h m j (by omega) (by omega) (by omega)
      exact ⟨a - rdN row ld f m (ld m) * b, by rw [hb]; grind⟩
    · have e : j = m := by omega
      subst e
      obtain ⟨b, hb⟩ := h1 j (by omega)
      exact ⟨-(rdN row ld f j (ld j) * b), by grind⟩
theorem zero_step {p inv : Int} {row : Nat → Nat → Int} {ld : Nat → Nat} {n l : Nat} {x r : Nat → Int} (hr : ∀ k, p ∣ r k - inv * rdN row ld x n k) (hi : p ∣ inv * rdN row ld x n l - 1) (f : Nat → Int) :
    (∀ k, p ∣ rdN row ld f n k - rdN row ld f n l * r k) ↔ ∃ c, ∀ k, p ∣ rdN row ld (fun k => f k + c * x k) n k := by
  constructor
  · intro h
    refine ⟨-(rdN row ld f n l * inv), fun k => ?_⟩
    rw [rdN_lin]
    obtain ⟨a, ha⟩ := h k
    obtain ⟨b, hb⟩ := hr k
    exact ⟨a + rdN row ld f n l * b, by grind⟩
  · rintro ⟨c, h⟩ k
    obtain ⟨a, ha⟩ := h k
    obtain ⟨b, hb⟩ := h l
    obtain ⟨d, hd⟩ := hr k
    obtain ⟨e, he⟩ := hi
    rw [rdN_lin] at ha hb
    refine ⟨a - b * inv * rdN row ld x n k - b * p * d + c * e * rdN row ld x n k + c * rdN row ld x n l * d, ?_⟩
    have h1 : rdN row ld f n k = p * a - c * rdN row ld x n k := by grind
    have h2 : rdN row ld f n l = p * b - c * rdN row ld x n l := by grind
    have h3 : r k = inv * rdN row ld x n k + p * d := by grind
    have h4 : rdN row ld x n l * inv = 1 + p * e := by grind
    rw [h1, h2, h3]
    generalize rdN row ld x n k = s at *
    generalize rdN row ld x n l = t at *
    grind
theorem sS_upd {row row' : Nat → Nat → Int} {ld : Nat → Nat} {f r : Nat → Int} {l : Nat} : ∀ {n}, (∀ i, i < n → ∀ k, row' i k = row i k - row i l * r k) → ∀ k, sS row' ld f n k = sS row ld f n k + (f l - sS row ld f n l) * r k
  | 0, _, k => by simp only [sS]; rw [Int.sub_self, Int.zero_mul, Int.add_zero]
  | n + 1, h, k => by
    simp only [sS]
    rw [sS_upd (n := n) (fun i hi => h i (by omega)) k, h n (by omega) k]
    grind
theorem sS_cong {p : Int} {row row' : Nat → Nat → Int} {ld : Nat → Nat} {f : Nat → Int} : ∀ {n}, (∀ i, i < n → ∀ k, p ∣ row i k - row' i k) → ∀ k, p ∣ sS row ld f n k - sS row' ld f n k
  | 0, _, k => by simp only [sS]; rw [Int.sub_self]; exact Int.dvd_zero p
  | n + 1, h, k => by
    obtain ⟨a, ha⟩ := sS_cong (n := n) (ld := ld) (f := f) (fun i hi => h i (by omega)) k
    obtain ⟨b, hb⟩ := h n (by omega) k
    exact ⟨a - f (ld n) * b, by simp only [sS]; grind⟩
theorem full_step {p : Int} {row row' : Nat → Nat → Int} {ld ld' : Nat → Nat} {n l : Nat} {r : Nat → Int} (h : ∀ i j, i < n → j < n → i ≠ j → p ∣ row i (ld j)) (h' : ∀ i j, i < n + 1 → j < n + 1 → i ≠ j → p ∣ row' i (ld' j))
    (hu : ∀ i, i < n → ∀ k, p ∣ row' i k - (row i k - row i l * r k)) (hl : ∀ i, i < n → ld' i = ld i) (hln : ld' n = l) (hr : ∀ k, row' n k = r k) (f : Nat → Int) (k : Nat) :
    p ∣ rdN row' ld' f (n + 1) k - (rdN row ld f n k - rdN row ld f n l * r k) := by
  obtain ⟨a, ha⟩ := rdN_sS (f := f) h' k
  obtain ⟨b, hb⟩ := rdN_sS (f := f) h k
  obtain ⟨c, hc⟩ := rdN_sS (f := f) h l
  obtain ⟨d, hd⟩ := sS_cong (row := row') (row' := fun i k => row i k - row i l * r k) (ld := ld) (f := f) (n := n) hu k
  have e := sS_upd (row := row) (row' := fun i k => row i k - row i l * r k) (ld := ld) (f := f) (r := r) (l := l) (n := n) (fun i hi k => rfl) k
  have e2 : ∀ m, m ≤ n → ∀ k, sS row' ld' f m k = sS row' ld f m k := by
    intro m
    induction m with
    | zero => intro _ _; rfl
    | succ m ih => intro hm k; simp only [sS]; rw [ih (by omega), hl m (by omega)]
  refine ⟨a + d - b + c * r k, ?_⟩
  have e3 : sS row' ld' f (n + 1) k = sS row' ld f n k - f l * r k := by simp only [sS]; rw [e2 n (Nat.le_refl _), hln, hr]
  rw [e3] at ha
  grind
end Go.Av
namespace Go.Av
open Go
theorem gl_lt {A B : List (List Int)} {i : Nat} (h : i < A.length) : gl (A ++ B) i = gl A i := by rw [gl_app, if_pos h]
theorem gl_end {A : List (List Int)} {x : List Int} : gl (A ++ [x]) A.length = x := by rw [gl_app, if_neg (by omega), Nat.sub_self]; rfl
theorem gd_lt {A B : List Int} {i : Nat} (h : i < A.length) : gd (A ++ B) i = gd A i := by unfold gd; rw [List.getElem?_append_left h]
theorem gd_end {A : List Int} {x : Int} : gd (A ++ [x]) A.length = x := by unfold gd; rw [List.getElem?_append_right (Nat.le_refl _), Nat.sub_self]; rfl
theorem gd_snoc {A : List Int} {x : Int} {i : Nat} : gd (A ++ [x]) i = if i < A.length then gd A i else if i = A.length then x else 0 := by
  split
  · rename_i h; exact gd_lt h
  · split
    · rename_i h; subst h; exact gd_end
    · exact gd_out (by simp; omega)
theorem gl_rmap {n i : Nat} {f : Nat → List Int} (h : i < n) : gl ((List.range n).map f) i = f i := by
  unfold gl; rw [List.getElem?_map, List.getElem?_range h]; rfl
theorem snoc_bd {p x : Int} {A : List Int} (hp : 1 ≤ p) (hA : Bd p A) (hx : 0 ≤ x ∧ x < p) : Bd p (A ++ [x]) := fun m => by
  rw [gd_snoc]; split
  · exact hA m
  · split
    · exact hx
    · omega
def invp (p n : Int) : Int := if n * 1 % p = 1 then 1 else if n * 2 % p = 1 then 2 else if n * 3 % p = 1 then 3 else 4
theorem invp_ok {p n : Int} (hp : p = 2 ∨ p = 3 ∨ p = 5) (hn : 0 < n ∧ n < p) : n * invp p n % p = 1 ∧ 1 ≤ invp p n ∧ invp p n < p := by
  rcases hp with rfl | rfl | rfl
  · have : n = 1 := by omega
    subst this; decide
  · rcases (by omega : n = 1 ∨ n = 2) with rfl | rfl <;> decide
  · rcases (by omega : n = 1 ∨ n = 2 ∨ n = 3 ∨ n = 4) with rfl | rfl | rfl | rfl <;> decide
theorem invp_first {p n k : Int} (hp : p = 2 ∨ p = 3 ∨ p = 5) (hn : 0 < n ∧ n < p) (hk : 1 ≤ k ∧ k ≤ invp p n) (he : n * k % p = 1) : k = invp p n := by
  have h4 := invp_ok hp hn
  rcases hp with rfl | rfl | rfl
  · have : n = 1 := by omega
    subst this
    have e : invp 2 1 = 1 := by decide
    omega
  · rcases (by omega : n = 1 ∨ n = 2) with rfl | rfl
    · have e : invp 3 1 = 1 := by decide
      omega
    · have e : invp 3 2 = 2 := by decide
      omega
  · rcases (by omega : n = 1 ∨ n = 2 ∨ n = 3 ∨ n = 4) with rfl | rfl | rfl | rfl
    · have e : invp 5 1 = 1 := by decide
      omega
    · have e : invp 5 2 = 3 := by decide
      omega
    · have e : invp 5 3 = 2 := by decide
      omega
    · have e : invp 5 4 = 4 := by decide
      omega
def scl (p c : Int) (v : List Int) : List Int := v.map fun x => x * c % p
theorem scl_length (p c : Int) (v : List Int) : (scl p c v).length = v.length := by simp [scl]
theorem gd_scl (p c : Int) (v : List Int) (i : Nat) : gd (scl p c v) i = gd v i * c % p := gd_map (by simp) i
theorem scl_bd {p : Int} (hp : 1 ≤ p) (c : Int) (v : List Int) : Bd p (scl p c v) := fun m => by
  rw [gd_scl]; exact ⟨Int.emod_nonneg _ (by omega), Int.emod_lt_of_pos _ (by omega)⟩
def sclM (p c : Int) (v : List Int) : List Int := (List.range v.length).map fun i => (p - gd v i) * c % p
theorem sclM_length (p c : Int) (v : List Int) : (sclM p c v).length = v.length := by simp [sclM]
theorem gd_sclM {p c : Int} {v : List Int} {i : Nat} (h : i < v.length) : gd (sclM p c v) i = (p - gd v i) * c % p := by simp [gd, sclM, h]
theorem sclM_bd {p : Int} (hp : 1 ≤ p) (c : Int) (v : List Int) : Bd p (sclM p c v) := fun m => by
  rcases Nat.lt_or_ge m v.length with h | h
  · rw [gd_sclM h]; exact ⟨Int.emod_nonneg _ (by omega), Int.emod_lt_of_pos _ (by omega)⟩
  · rw [gd_out (by rw [sclM_length]; exact h)]; omega
def sRd (p : Int) (ld : Nat → Nat) (R : List (List Int)) (a : List Int) : Nat → List Int
  | 0 => a
  | i + 1 => axp p (p - gd (sRd p ld R a i) (ld i)) (sRd p ld R a i) (gl R i)
def sMd (p : Int) (ld : Nat → Nat) (R M : List (List Int)) (a : List Int) (n : Nat) : Nat → List Int
  | 0 => List.replicate n 0
  | i + 1 => axp p (gd (sRd p ld R a i) (ld i)) (sMd p ld R M a n i) (gl M i)
section
variable {p : Int} {ld : Nat → Nat} {R M : List (List Int)} {a : List Int} {N n : Nat}
theorem sRd_len : ∀ i, (sRd p ld R a i).length = a.length
  | 0 => rfl
  | i + 1 => by rw [sRd, axp_length, sRd_len i]
theorem sRd_bd (hp : 1 ≤ p) (ha : Bd p a) : ∀ i, Bd p (sRd p ld R a i)
  | 0 => ha
  | i + 1 => axp_bd hp _ _ _
theorem sMd_len : ∀ i, (sMd p ld R M a n i).length = n
  | 0 => List.length_replicate
  | i + 1 => by rw [sMd, axp_length, sMd_len i]
theorem sMd_bd (hp : 1 ≤ p) : ∀ i, Bd p (sMd p ld R M a n i)
  | 0 => rep_bd hp n
  | i + 1 => axp_bd hp _ _ _
def gR (R : List (List Int)) (i k : Nat) : Int := gd (gl R i) k
theorem emod_w (x p : Int) : ∃ t, x % p = x + p * t := ⟨-(x / p), by have := Int.emod_add_mul_ediv x p; grind⟩
theorem sRd_cong (ha : a.length = N) : ∀ i, (∀ j, j < i → (gl R j).length = N) → ∀ k, p ∣ gd (sRd p ld R a i) k - rdN (gR R) ld (gd a) i k
  | 0, _, k => by simp only [sRd, rdN]; rw [Int.sub_self]; exact Int.dvd_zero p
  | i + 1, hR, k => by
    obtain ⟨x, hx⟩ := sRd_cong ha i (fun j hj => hR j (by omega)) k
    obtain ⟨y, hy⟩ := sRd_cong ha i (fun j hj => hR j (by omega)) (ld i)
    have hl : (sRd p ld R a i).length = N := by rw [sRd_len, ha]
    simp only [sRd, rdN]
    rcases Nat.lt_or_ge k N with hk | hk
    · rw [gd_axp (by omega)]
      obtain ⟨t, ht⟩ := emod_w (gd (sRd p ld R a i) k + (p - gd (sRd p ld R a i) (ld i)) * gd (gl R i) k) p
      rw [ht]
      refine ⟨x + t + gd (gl R i) k - y * gd (gl R i) k, ?_⟩
      unfold gR at hx hy ⊢
      generalize gd (gl R i) k = r at *
      generalize gd (sRd p ld R a i) k = u at *
      generalize gd (sRd p ld R a i) (ld i) = w at *
      grind
    · rw [gd_axp_out (by omega)]
      rw [gd_out (by omega)] at hx
      have h0 : gR R i k = 0 := gd_out (by rw [hR i (by omega)]; exact hk)
      rw [h0]
      exact ⟨x, by grind⟩
theorem bd_zero {x : Int} (h : 0 ≤ x ∧ x < p) (hd : p ∣ x) : x = 0 := by
  have h1 := Int.emod_eq_zero_of_dvd hd
  have h2 : x % p = x := Int.emod_eq_of_lt h.1 h.2
  omega
theorem zero_iff (hp : 1 ≤ p) (ha : Bd p a) (hN : a.length = N) (hR : ∀ j, j < n → (gl R j).length = N) : (∀ k, p ∣ rdN (gR R) ld (gd a) n k) ↔ ∀ k, gd (sRd p ld R a n) k = 0 := by
  constructor
  · intro h k
    refine bd_zero (sRd_bd hp ha n k) ?_
    obtain ⟨x, hx⟩ := sRd_cong (p := p) (ld := ld) hN n hR k
    obtain ⟨y, hy⟩ := h k
    exact ⟨x + y, by grind⟩
  · intro h k
    obtain ⟨x, hx⟩ := sRd_cong (p := p) (ld := ld) hN n hR k
    rw [h k] at hx
    exact ⟨-x, by grind⟩
end
def leadS : List Int → Int
  | [] => -1
  | x :: v => if x ≠ 0 then 0 else if leadS v < 0 then -1 else leadS v + 1
theorem leadS_cases : ∀ v : List Int, (leadS v = -1 ∧ ∀ j, gd v j = 0) ∨ ∃ m : Nat, m < v.length ∧ leadS v = (m : Int) ∧ gd v m ≠ 0 ∧ ∀ j, j < m → gd v j = 0
  | [] => .inl ⟨rfl, fun j => gd_out (Nat.zero_le _)⟩
  | x :: v => by
    by_cases hx : x = 0
    · rcases leadS_cases v with ⟨h1, h2⟩ | ⟨m, h1, h2, h3, h4⟩
      · refine .inl ⟨by rw [leadS, if_neg (by simpa using hx), h1]; rfl, fun j => ?_⟩
        cases j with
        | zero => simpa [gd] using hx
        | succ j => simpa [gd] using h2 j
      · refine .inr ⟨m + 1, by simp; omega, by rw [leadS, if_neg (by simpa using hx), if_neg (by omega), h2]; simp, by simpa [gd] using h3, fun j hj => ?_⟩
        cases j with
        | zero => simpa [gd] using hx
        | succ j => simpa [gd] using h4 j (by omega)
    · exact .inr ⟨0, by simp, by rw [leadS, if_pos hx]; rfl, by simpa [gd] using hx, fun j hj => absurd hj (by omega)⟩
theorem leadS_none {v : List Int} (h : ∀ j, gd v j = 0) : leadS v = -1 := by
  rcases leadS_cases v with h1 | ⟨m, _, _, h3, _⟩
  · exact h1.1
  · exact absurd (h m) h3
theorem leadS_first {v : List Int} {i : Nat} (h0 : ∀ j, j < i → gd v j = 0) (h : gd v i ≠ 0) : leadS v = (i : Int) := by
  rcases leadS_cases v with h1 | ⟨m, _, h2, h3, h4⟩
  · exact absurd (h1.2 i) h
  · rcases Nat.lt_trichotomy m i with hm | hm | hm
    · exact absurd (h0 m hm) h3
    · rw [h2, hm]
    · exact absurd (h4 i hm) h
def leadI (v : List Int) : Nat → Int
  | 0 => -1
  | i + 1 => if gd v i ≠ 0 ∧ (leadI v i < 0 ∨ 0 < cfMono (i : Int) (leadI v i)) then (i : Int) else leadI v i
def kM (i : Nat) : Nat := ocZ (i : Int) * 64 + i
theorem cfMono_gt {i j : Nat} (hi : i < 64) (hj : j < 64) : 0 < cfMono (i : Int) (j : Int) ↔ kM j < kM i := by
  rw [cfMono_eq]
  unfold kM orL orL orL cmpI
  generalize ocZ (i : Int) = a
  generalize ocZ (j : Int) = b
  constructor
  · intro h
    split at h <;> (try split at h) <;> (try split at h) <;> (try split at h) <;> (try split at h) <;> omega
  · intro h
    split <;> (try split) <;> (try split) <;> (try split) <;> (try split) <;> omega
theorem kM_inj {i j : Nat} (hi : i < 64) (hj : j < 64) (h : kM i = kM j) : i = j := by unfold kM at h; omega
def IsLd (N : Nat) (v : List Int) (m : Nat) : Prop := m < N ∧ gd v m ≠ 0 ∧ ∀ j, j < N → gd v j ≠ 0 → kM j ≤ kM m
theorem leadI_cases {v : List Int} : ∀ {n}, n ≤ 64 → (leadI v n = -1 ∧ ∀ j, j < n → gd v j = 0) ∨ ∃ m : Nat, leadI v n = (m : Int) ∧ IsLd n v m
  | 0, _ => .inl ⟨rfl, fun j hj => absurd hj (by omega)⟩
  | n + 1, hn => by
    rw [leadI]
    rcases leadI_cases (v := v) (n := n) (by omega) with ⟨h1, h2⟩ | ⟨m, h1, h2, h3, h4⟩
    · by_cases h0 : gd v n = 0
      · rw [if_neg (by simp [h0])]
        refine .inl ⟨h1, fun j hj => ?_⟩
        rcases Nat.lt_or_ge j n with hjn | hjn
        · exact h2 j hjn
        · have e : j = n := by omega
          rw [e]; exact h0
      · rw [if_pos ⟨h0, .inl (by omega)⟩]
        refine .inr ⟨n, rfl, by omega, h0, fun j hj hne => ?_⟩
        rcases Nat.lt_or_ge j n with hjn | hjn
        · exact absurd (h2 j hjn) hne
        · have e : j = n := by omega
          rw [e]; exact Nat.le_refl _
    · rw [h1]
      by_cases hc : gd v n ≠ 0 ∧ kM m < kM n
      · rw [if_pos ⟨hc.1, .inr ((cfMono_gt (by omega) (by omega)).2 hc.2)⟩]
        refine .inr ⟨n, rfl, by omega, hc.1, fun j hj hne => ?_⟩
        rcases Nat.lt_or_ge j n with hjn | hjn
        · have := h4 j hjn hne; omega
        · have e : j = n := by omega
          rw [e]; exact Nat.le_refl _
      · have hng : ¬ (gd v n ≠ 0 ∧ ((m : Int) < 0 ∨ 0 < cfMono (n : Int) (m : Int))) := by
          rintro ⟨q1, q2⟩
          rcases q2 with q2 | q2
          · omega
          · exact hc ⟨q1, (cfMono_gt (by omega) (by omega)).1 q2⟩
        rw [if_neg hng]
        refine .inr ⟨m, rfl, by omega, h3, fun j hj hne => ?_⟩
        rcases Nat.lt_or_ge j n with hjn | hjn
        · exact h4 j hjn hne
        · have e : j = n := by omega
          subst e
          rcases Nat.lt_or_ge (kM m) (kM j) with q | q
          · exact absurd ⟨hne, q⟩ hc
          · exact q
theorem IsLd.uniq {N : Nat} {v : List Int} {m m' : Nat} (hN : N ≤ 64) (h : IsLd N v m) (h' : IsLd N v m') : m = m' := by
  have h1 := h.2.2 m' h'.1 h'.2.1
  have h2 := h'.2.2 m h.1 h.2.1
  exact kM_inj (by have := h.1; omega) (by have := h'.1; omega) (by omega)
theorem leadI_of {N : Nat} {v : List Int} {m : Nat} (hN : N ≤ 64) (h : IsLd N v m) : leadI v N = (m : Int) := by
  rcases leadI_cases (v := v) hN with ⟨_, h2⟩ | ⟨m', h1, h2⟩
  · exact absurd (h2 m h.1) h.2.1
  · rw [h1, h.uniq hN h2]
end Go.Av
namespace Go.Av
open Go
abbrev SpS := List (List Int) × List Int × List (List Int)
abbrev ImS := List (List Int) × List (List Int)
def ldS (L : List Int) (i : Nat) : Nat := (gd L i).toNat
def ldI (N : Nat) (R : List (List Int)) (i : Nat) : Nat := (leadI (gl R i) N).toNat
def lfS (p : Int) (S : SpS) (x : List Int) : List Int := sRd p (ldS S.2.1) S.1 x S.1.length
def mdS (p : Int) (S : SpS) (x : List Int) : List Int := sMd p (ldS S.2.1) S.1 S.2.2 x S.1.length S.1.length
def ivS (p : Int) (S : SpS) (x : List Int) : Int := invp p (gd (lfS p S x) (leadS (lfS p S x)).toNat)
def stS (p : Int) (S : SpS) (x : List Int) : SpS :=
  if leadS (lfS p S x) < 0 then S else (S.1 ++ [scl p (ivS p S x) (lfS p S x)], S.2.1 ++ [leadS (lfS p S x)], S.2.2 ++ [sclM p (ivS p S x) (mdS p S x) ++ [ivS p S x]])
def lfI (p : Int) (N : Nat) (I : ImS) (x : List Int) : List Int := sRd p (ldI N I.1) I.1 x I.1.length
def mdI (p : Int) (N : Nat) (I : ImS) (x : List Int) : List Int := sMd p (ldI N I.1) I.1 I.2 x I.1.length I.1.length
def lI (p : Int) (N : Nat) (I : ImS) (x : List Int) : Int := leadI (lfI p N I x) N
def ivI (p : Int) (N : Nat) (I : ImS) (x : List Int) : Int := invp p (gd (lfI p N I x) (lI p N I x).toNat)
def rwI (p : Int) (N : Nat) (I : ImS) (x : List Int) : List Int := axp p (ivI p N I x) (List.replicate N 0) (lfI p N I x)
def owI (p : Int) (N : Nat) (I : ImS) (x : List Int) : List Int := sclM p (ivI p N I x) (mdI p N I x) ++ [ivI p N I x]
def upR (p : Int) (N : Nat) (I : ImS) (x : List Int) : List (List Int) := (List.range I.1.length).map fun i => axp p (p - gd (gl I.1 i) (lI p N I x).toNat) (gl I.1 i) (rwI p N I x)
def upM (p : Int) (N : Nat) (I : ImS) (x : List Int) : List (List Int) := (List.range I.1.length).map fun i => axp p (p - gd (gl I.1 i) (lI p N I x).toNat) (gl I.2 i ++ [0]) (owI p N I x)
def stI (p : Int) (N : Nat) (I : ImS) (x : List Int) : ImS := if lI p N I x < 0 then I else (upR p N I x ++ [rwI p N I x], upM p N I x ++ [owI p N I x])
structure InvS (p : Int) (N : Nat) (S : SpS) : Prop where
  rows : ∀ i, i < S.1.length → (gl S.1 i).length = N ∧ Bd p (gl S.1 i)
  ldl : S.2.1.length = S.1.length
  lds : ∀ i, i < S.1.length → 0 ≤ gd S.2.1 i ∧ gd S.2.1 i < N
  mdl : S.2.2.length = S.1.length
  mds : ∀ i, i < S.1.length → (gl S.2.2 i).length = i + 1 ∧ Bd p (gl S.2.2 i)
structure InvI (p : Int) (N : Nat) (I : ImS) : Prop where
  rows : ∀ i, i < I.1.length → (gl I.1 i).length = N ∧ Bd p (gl I.1 i)
  mdl : I.2.length = I.1.length
  mds : ∀ i, i < I.1.length → (gl I.2 i).length = I.1.length ∧ Bd p (gl I.2 i)
  lds : ∀ i, i < I.1.length → leadI (gl I.1 i) N = (ldI N I.1 i : Nat) ∧ IsLd N (gl I.1 i) (ldI N I.1 i)
  dia : ∀ i j, i < I.1.length → j < I.1.length → gd (gl I.1 i) (ldI N I.1 j) = if i = j then 1 else 0
def ZS (p : Int) (S : SpS) (f : Nat → Int) : Prop := ∀ k, p ∣ rdN (gR S.1) (ldS S.2.1) f S.1.length k
def ZI (p : Int) (N : Nat) (I : ImS) (f : Nat → Int) : Prop := ∀ k, p ∣ rdN (gR I.1) (ldI N I.1) f I.1.length k
theorem step_hr {p inv u s r : Int} (h : p ∣ u - s) (hr : r = u * inv % p) : p ∣ r - inv * s := by
  obtain ⟨a, ha⟩ := h
  obtain ⟨t, ht⟩ := emod_w (u * inv) p
  exact ⟨a * inv + t, by rw [hr, ht]; grind⟩
theorem step_hi {p inv u s : Int} (h : p ∣ u - s) (h1 : u * inv % p = 1) : p ∣ inv * s - 1 := by
  obtain ⟨a, ha⟩ := h
  obtain ⟨t, ht⟩ := emod_w (u * inv) p
  rw [h1] at ht
  exact ⟨-(t + a * inv), by grind⟩
section
variable {p : Int} {N : Nat} {S : SpS} {I : ImS} {x : List Int}
theorem lfS_len (hN : x.length = N) : (lfS p S x).length = N := by unfold lfS; rw [sRd_len, hN]
theorem lfS_bd (hp : 1 ≤ p) (hx : Bd p x) : Bd p (lfS p S x) := sRd_bd hp hx _
theorem mdS_len : (mdS p S x).length = S.1.length := sMd_len _
theorem mdS_bd (hp : 1 ≤ p) : Bd p (mdS p S x) := sMd_bd hp _
theorem lfI_len (hN : x.length = N) : (lfI p N I x).length = N := by unfold lfI; rw [sRd_len, hN]
theorem lfI_bd (hp : 1 ≤ p) (hx : Bd p x) : Bd p (lfI p N I x) := sRd_bd hp hx _
theorem mdI_len : (mdI p N I x).length = I.1.length := sMd_len _
theorem mdI_bd (hp : 1 ≤ p) : Bd p (mdI p N I x) := sMd_bd hp _
theorem S_new (hp : p = 2 ∨ p = 3 ∨ p = 5) (hN : x.length = N) (hx : Bd p x) (h : ¬ leadS (lfS p S x) < 0) : ∃ m : Nat, m < N ∧ leadS (lfS p S x) = (m : Int) ∧ 0 < gd (lfS p S x) m ∧ gd (lfS p S x) m < p ∧ gd (lfS p S x) m * ivS p S x % p = 1 ∧ 1 ≤ ivS p S x ∧ ivS p S x < p := by
  rcases leadS_cases (lfS p S x) with h1 | ⟨m, h1, h2, h3, _⟩
  · omega
  · have hb := lfS_bd (S := S) (by omega) hx m
    have hi := invp_ok (n := gd (lfS p S x) m) hp (by omega)
    have e : ivS p S x = invp p (gd (lfS p S x) m) := by unfold ivS; rw [h2]; rfl
    rw [← e] at hi
    exact ⟨m, by rw [lfS_len hN] at h1; exact h1, h2, by omega, hb.2, hi⟩
theorem S_step (hp : p = 2 ∨ p = 3 ∨ p = 5) (hN : x.length = N) (hx : Bd p x) (hS : InvS p N S) : InvS p N (stS p S x) := by
  unfold stS
  split
  · exact hS
  · rename_i h
    obtain ⟨m, h1, h2, h3, h4, h5, h6⟩ := S_new hp hN hx h
    have hp1 : 1 ≤ p := by omega
    refine ⟨fun i hi => ?_, by simp [hS.ldl], fun i hi => ?_, by simp [hS.mdl], fun i hi => ?_⟩
    · simp at hi
      rcases Nat.lt_or_ge i S.1.length with hl | hl
      · rw [gl_lt hl]; exact hS.rows i hl
      · have e : i = S.1.length := by omega
        rw [e, gl_end]; exact ⟨by rw [scl_length, lfS_len hN], scl_bd hp1 _ _⟩
    · simp at hi
      rcases Nat.lt_or_ge i S.1.length with hl | hl
      · rw [gd_lt (by rw [hS.ldl]; exact hl)]; exact hS.lds i hl
      · have e : i = S.2.1.length := by rw [hS.ldl]; omega
        rw [e, gd_end, h2]; omega
    · simp at hi
      rcases Nat.lt_or_ge i S.1.length with hl | hl
      · rw [gl_lt (by rw [hS.mdl]; exact hl)]; exact hS.mds i hl
      · have e : i = S.2.2.length := by rw [hS.mdl]; omega
        have e2 : i = S.1.length := by omega
        rw [e, gl_end]
        exact ⟨by rw [List.length_append, sclM_length, mdS_len, ← e, e2]; rfl, snoc_bd hp1 (sclM_bd hp1 _ _) (by omega)⟩
theorem S_zero (hp : p = 2 ∨ p = 3 ∨ p = 5) (hN : x.length = N) (hx : Bd p x) (hS : InvS p N S) (h : ¬ leadS (lfS p S x) < 0) (f : Nat → Int) : ZS p (stS p S x) f ↔ ∃ c, ZS p S (fun k => f k + c * gd x k) := by
  obtain ⟨m, h1, h2, h3, h4, h5, h6⟩ := S_new hp hN hx h
  have hR : ∀ j, j < S.1.length → (gl S.1 j).length = N := fun j hj => (hS.rows j hj).1
  have hc := fun k => sRd_cong (p := p) (ld := ldS S.2.1) (R := S.1) hN S.1.length hR k
  refine Iff.trans ?_ (zero_step (inv := ivS p S x) (row := gR S.1) (ld := ldS S.2.1) (n := S.1.length) (l := m) (x := gd x) (r := gd (scl p (ivS p S x) (lfS p S x))) (fun k => step_hr (hc k) (gd_scl _ _ _ _)) (step_hi (hc m) h5) f)
  unfold ZS stS
  rw [if_neg h]
  dsimp only
  rw [List.length_append]
  have hx1 : ∀ k, rdN (gR (S.1 ++ [scl p (ivS p S x) (lfS p S x)])) (ldS (S.2.1 ++ [leadS (lfS p S x)])) f S.1.length k = rdN (gR S.1) (ldS S.2.1) f S.1.length k := rdN_ext fun i hi => ⟨by unfold ldS; rw [gd_lt (by rw [hS.ldl]; exact hi)], fun k => by unfold gR; rw [gl_lt hi]⟩
  have hx2 : ldS (S.2.1 ++ [leadS (lfS p S x)]) S.1.length = m := by unfold ldS; rw [← hS.ldl, gd_end, h2]; rfl
  have hx3 : ∀ k, gR (S.1 ++ [scl p (ivS p S x) (lfS p S x)]) S.1.length k = gd (scl p (ivS p S x) (lfS p S x)) k := fun k => by unfold gR; rw [gl_end]
  refine forall_congr' fun k => ?_
  show p ∣ rdN _ _ f (S.1.length + 1) k ↔ _
  simp only [rdN]
  rw [hx1, hx2, hx1, hx3]
theorem I_new (hp : p = 2 ∨ p = 3 ∨ p = 5) (hN : x.length = N) (hN64 : N ≤ 64) (hx : Bd p x) (h : ¬ lI p N I x < 0) : ∃ m : Nat, lI p N I x = (m : Int) ∧ IsLd N (lfI p N I x) m ∧ 0 < gd (lfI p N I x) m ∧ gd (lfI p N I x) m < p ∧ gd (lfI p N I x) m * ivI p N I x % p = 1 ∧ 1 ≤ ivI p N I x ∧ ivI p N I x < p := by
  rcases leadI_cases (v := lfI p N I x) hN64 with h1 | ⟨m, h1, h2⟩
  · exact absurd (by show leadI _ N < 0; rw [h1.1]; decide) h
  · have hb := lfI_bd (N := N) (I := I) (by omega) hx m
    have hne := h2.2.1
    have e1 : lI p N I x = (m : Int) := h1
    have hi := invp_ok (n := gd (lfI p N I x) m) hp (by omega)
    have e : ivI p N I x = invp p (gd (lfI p N I x) m) := by unfold ivI; rw [e1]; rfl
    rw [← e] at hi
    exact ⟨m, e1, h2, by omega, hb.2, hi⟩
theorem gd_rwI (hN : x.length = N) (k : Nat) : gd (rwI p N I x) k = gd (lfI p N I x) k * ivI p N I x % p := by
  unfold rwI
  rcases Nat.lt_or_ge k N with hk | hk
  · rw [gd_axp (by rw [List.length_replicate]; exact hk), gd_rep, Int.zero_add, Int.mul_comm]
  · rw [gd_axp_out (by rw [List.length_replicate]; exact hk), gd_out (by rw [lfI_len hN]; exact hk), Int.zero_mul, Int.zero_emod]
theorem rwI_len : (rwI p N I x).length = N := by unfold rwI; rw [axp_length, List.length_replicate]
theorem owI_len : (owI p N I x).length = I.1.length + 1 := by unfold owI; rw [List.length_append, sclM_length, mdI_len]; rfl
theorem owI_bd (hp : 1 ≤ p) (h : 0 ≤ ivI p N I x ∧ ivI p N I x < p) : Bd p (owI p N I x) := snoc_bd hp (sclM_bd hp _ _) h
theorem upR_len : (upR p N I x).length = I.1.length := by simp [upR]
theorem upM_len : (upM p N I x).length = I.1.length := by simp [upM]
theorem upR_get {i : Nat} (h : i < I.1.length) : gl (upR p N I x) i = axp p (p - gd (gl I.1 i) (lI p N I x).toNat) (gl I.1 i) (rwI p N I x) := gl_rmap h
theorem upM_get {i : Nat} (h : i < I.1.length) : gl (upM p N I x) i = axp p (p - gd (gl I.1 i) (lI p N I x).toNat) (gl I.2 i ++ [0]) (owI p N I x) := gl_rmap h
theorem I_facts (hp : p = 2 ∨ p = 3 ∨ p = 5) (hN : x.length = N) (hN64 : N ≤ 64) (hx : Bd p x) (hI : InvI p N I) {m : Nat} (h1 : lI p N I x = (m : Int)) (h2 : IsLd N (lfI p N I x) m) (h5 : gd (lfI p N I x) m * ivI p N I x % p = 1) :
    (∀ j, j < I.1.length → gd (rwI p N I x) (ldI N I.1 j) = 0) ∧ gd (rwI p N I x) m = 1 ∧ IsLd N (rwI p N I x) m ∧
    (∀ i, i < I.1.length → ∀ k, k < N → gd (gl (upR p N I x) i) k = (gd (gl I.1 i) k + (p - gd (gl I.1 i) m) * gd (rwI p N I x) k) % p) ∧
    (∀ i, i < I.1.length → IsLd N (gl (upR p N I x) i) (ldI N I.1 i)) := by
  have hR : ∀ j, j < I.1.length → (gl I.1 j).length = N := fun j hj => (hI.rows j hj).1
  have hz : ∀ j, j < I.1.length → gd (lfI p N I x) (ldI N I.1 j) = 0 := fun j hj => by
    refine bd_zero (lfI_bd (by omega) hx _) ?_
    obtain ⟨a, ha⟩ := sRd_cong (p := p) (ld := ldI N I.1) (R := I.1) hN I.1.length hR (ldI N I.1 j)
    obtain ⟨b, hb⟩ := rdN_zero (p := p) (row := gR I.1) (ld := ldI N I.1) (f := gd x) (n := I.1.length) (fun i j hi hj hij => by unfold gR; rw [hI.dia i j hi hj, if_neg hij]; exact Int.dvd_zero p) (fun i hi => by unfold gR; rw [hI.dia i i hi hi, if_pos rfl]; exact Int.dvd_zero p) I.1.length (Nat.le_refl _) j hj
    exact ⟨a + b, by unfold lfI; grind⟩
  have f1 : ∀ j, j < I.1.length → gd (rwI p N I x) (ldI N I.1 j) = 0 := fun j hj => by rw [gd_rwI hN, hz j hj, Int.zero_mul, Int.zero_emod]
  have f2 : gd (rwI p N I x) m = 1 := by rw [gd_rwI hN, h5]
  have f0 : ∀ j, gd (rwI p N I x) j ≠ 0 → gd (lfI p N I x) j ≠ 0 := fun j hj h0 => hj (by rw [gd_rwI hN, h0, Int.zero_mul, Int.zero_emod])
  have f3 : IsLd N (rwI p N I x) m := ⟨h2.1, by omega, fun j hj hne => h2.2.2 j hj (f0 j hne)⟩
  have f4 : ∀ i, i < I.1.length → ∀ k, k < N → gd (gl (upR p N I x) i) k = (gd (gl I.1 i) k + (p - gd (gl I.1 i) m) * gd (rwI p N I x) k) % p := fun i hi k hk => by
    rw [upR_get hi, gd_axp (by rw [hR i hi]; exact hk), h1]; rfl
  refine ⟨f1, f2, f3, f4, fun i hi => ?_⟩
  obtain ⟨g1, g2, g3⟩ := (hI.lds i hi).2
  have hone : gd (gl I.1 i) (ldI N I.1 i) = 1 := by rw [hI.dia i i hi hi, if_pos rfl]
  refine ⟨g1, ?_, fun j hj hne => ?_⟩
  · rw [f4 i hi _ g1, f1 i hi, hone, Int.mul_zero, Int.add_zero, Int.emod_eq_of_lt (by decide) (by omega)]; decide
  · have hb := (hI.rows i hi).2
    rw [f4 i hi j hj] at hne
    by_cases hc : gd (gl I.1 i) m = 0
    · rw [hc, Int.sub_zero, Int.add_mul_emod_self_left, Int.emod_eq_of_lt (hb j).1 (hb j).2] at hne
      exact g3 j hj hne
    · by_cases hr0 : gd (rwI p N I x) j = 0
      · rw [hr0, Int.mul_zero, Int.add_zero, Int.emod_eq_of_lt (hb j).1 (hb j).2] at hne
        exact g3 j hj hne
      · exact Nat.le_trans (h2.2.2 j hj (f0 j hr0)) (g3 m h2.1 hc)
theorem I_lead (hp : p = 2 ∨ p = 3 ∨ p = 5) (hN : x.length = N) (hN64 : N ≤ 64) (hx : Bd p x) (hI : InvI p N I) {m : Nat} (h1 : lI p N I x = (m : Int)) (h2 : IsLd N (lfI p N I x) m) (h5 : gd (lfI p N I x) m * ivI p N I x % p = 1) :
    (∀ i, i < I.1.length → leadI (gl (upR p N I x ++ [rwI p N I x]) i) N = ((ldI N I.1 i : Nat) : Int)) ∧ leadI (gl (upR p N I x ++ [rwI p N I x]) I.1.length) N = (m : Int) := by
  obtain ⟨f1, f2, f3, f4, f5⟩ := I_facts hp hN hN64 hx hI h1 h2 h5
  refine ⟨fun i hi => by rw [gl_lt (by rw [upR_len]; exact hi)]; exact leadI_of hN64 (f5 i hi), ?_⟩
  have e : gl (upR p N I x ++ [rwI p N I x]) I.1.length = rwI p N I x := by rw [← upR_len (p := p) (N := N) (I := I) (x := x), gl_end]
  rw [e]; exact leadI_of hN64 f3
theorem I_step (hp : p = 2 ∨ p = 3 ∨ p = 5) (hN : x.length = N) (hN64 : N ≤ 64) (hx : Bd p x) (hI : InvI p N I) : InvI p N (stI p N I x) := by
  unfold stI
  split
  · exact hI
  · rename_i h
    obtain ⟨m, h1, h2, h3, h4, h5, h6⟩ := I_new hp hN hN64 hx h
    obtain ⟨f1, f2, f3, f4, f5⟩ := I_facts hp hN hN64 hx hI h1 h2 h5
    obtain ⟨l1, l2⟩ := I_lead hp hN hN64 hx hI h1 h2 h5
    have hp1 : 1 ≤ p := by omega
    have hul := upR_len (p := p) (N := N) (I := I) (x := x)
    have hml := upM_len (p := p) (N := N) (I := I) (x := x)
    have hend : gl (upR p N I x ++ [rwI p N I x]) I.1.length = rwI p N I x := by rw [← hul, gl_end]
    have hd1 : ∀ i, i < I.1.length → ldI N (upR p N I x ++ [rwI p N I x]) i = ldI N I.1 i := fun i hi => by
      show (leadI _ N).toNat = _
      rw [l1 i hi]; rfl
    have hd2 : ldI N (upR p N I x ++ [rwI p N I x]) I.1.length = m := by
      show (leadI _ N).toNat = _
      rw [l2]; rfl
    have hlow : ∀ i, i < I.1.length → gl (upR p N I x ++ [rwI p N I x]) i = gl (upR p N I x) i := fun i hi => gl_lt (by rw [hul]; exact hi)
    refine ⟨fun i hi => ?_, by simp [hul, hml], fun i hi => ?_, fun i hi => ?_, fun i j hi hj => ?_⟩
    · simp [hul] at hi
      rcases Nat.lt_or_ge i I.1.length with hl | hl
      · rw [hlow i hl, upR_get hl]; exact ⟨by rw [axp_length, (hI.rows i hl).1], axp_bd hp1 _ _ _⟩
      · have e : i = I.1.length := by omega
        rw [e, hend]; exact ⟨rwI_len, axp_bd hp1 _ _ _⟩
    · simp [hul] at hi ⊢
      rcases Nat.lt_or_ge i I.1.length with hl | hl
      · rw [gl_lt (by rw [hml]; exact hl), upM_get hl]; exact ⟨by rw [axp_length, List.length_append, (hI.mds i hl).1]; rfl, axp_bd hp1 _ _ _⟩
      · have e : i = (upM p N I x).length := by rw [hml]; omega
        rw [e, gl_end]; exact ⟨owI_len, owI_bd hp1 (by omega)⟩
    · simp [hul] at hi
      rcases Nat.lt_or_ge i I.1.length with hl | hl
      · dsimp only; rw [hd1 i hl, l1 i hl, hlow i hl]; exact ⟨rfl, f5 i hl⟩
      · have e : i = I.1.length := by omega
        subst e
        dsimp only; rw [hd2, l2, hend]; exact ⟨rfl, f3⟩
    · simp [hul] at hi hj
      dsimp only
      rcases Nat.lt_or_ge i I.1.length with hl | hl
      · have hb := (hI.rows i hl).2
        rcases Nat.lt_or_ge j I.1.length with hm | hm
        · have hjN := (hI.lds j hm).2.1
          rw [hlow i hl, hd1 j hm, f4 i hl _ hjN, f1 j hm, Int.mul_zero, Int.add_zero, Int.emod_eq_of_lt (hb _).1 (hb _).2, hI.dia i j hl hm]
        · have e : j = I.1.length := by omega
          rw [e, hlow i hl, hd2, f4 i hl m h2.1, f2, Int.mul_one, if_neg (by omega)]
          rw [show gd (gl I.1 i) m + (p - gd (gl I.1 i) m) = p by omega]; exact Int.emod_self
      · have e : i = I.1.length := by omega
        rw [e, hend]
        rcases Nat.lt_or_ge j I.1.length with hm | hm
        · rw [hd1 j hm, f1 j hm, if_neg (by omega)]
        · have e2 : j = I.1.length := by omega
          rw [e2, hd2, f2, if_pos rfl]
theorem I_zero (hp : p = 2 ∨ p = 3 ∨ p = 5) (hN : x.length = N) (hN64 : N ≤ 64) (hx : Bd p x) (hI : InvI p N I) (h : ¬ lI p N I x < 0) (f : Nat → Int) : ZI p N (stI p N I x) f ↔ ∃ c, ZI p N I (fun k => f k + c * gd x k) := by
  obtain ⟨m, h1, h2, h3, h4, h5, h6⟩ := I_new hp hN hN64 hx h
  obtain ⟨f1, f2, f3, f4, f5⟩ := I_facts hp hN hN64 hx hI h1 h2 h5
  obtain ⟨l1, l2⟩ := I_lead hp hN hN64 hx hI h1 h2 h5
  have hI' := I_step hp hN hN64 hx hI
  have hul := upR_len (p := p) (N := N) (I := I) (x := x)
  have hst : stI p N I x = (upR p N I x ++ [rwI p N I x], upM p N I x ++ [owI p N I x]) := by unfold stI; rw [if_neg h]
  have hend : gl (upR p N I x ++ [rwI p N I x]) I.1.length = rwI p N I x := by rw [← hul, gl_end]
  have hR : ∀ j, j < I.1.length → (gl I.1 j).length = N := fun j hj => (hI.rows j hj).1
  have hc := fun k => sRd_cong (p := p) (ld := ldI N I.1) (R := I.1) hN I.1.length hR k
  refine Iff.trans ?_ (zero_step (inv := ivI p N I x) (row := gR I.1) (ld := ldI N I.1) (n := I.1.length) (l := m) (x := gd x) (r := gd (rwI p N I x)) (fun k => step_hr (hc k) (gd_rwI hN k)) (step_hi (hc m) h5) f)
  rw [hst] at hI' ⊢
  unfold ZI
  dsimp only
  have hlen : (upR p N I x ++ [rwI p N I x]).length = I.1.length + 1 := by simp [hul]
  rw [hlen]
  have hfs := fun k => full_step (p := p) (row := gR I.1) (row' := gR (upR p N I x ++ [rwI p N I x])) (ld := ldI N I.1) (ld' := ldI N (upR p N I x ++ [rwI p N I x])) (n := I.1.length) (l := m) (r := gd (rwI p N I x))
    (fun i j hi hj hij => by unfold gR; rw [hI.dia i j hi hj, if_neg hij]; exact Int.dvd_zero p)
    (fun i j hi hj hij => by
      have := hI'.dia i j (by dsimp only; rw [hlen]; exact hi) (by dsimp only; rw [hlen]; exact hj)
      dsimp only at this
      unfold gR; rw [this, if_neg hij]; exact Int.dvd_zero p)
    (fun i hi k => by
      unfold gR
      rw [gl_lt (by rw [hul]; exact hi)]
      rcases Nat.lt_or_ge k N with hk | hk
      · rw [f4 i hi k hk]
        obtain ⟨t, ht⟩ := emod_w (gd (gl I.1 i) k + (p - gd (gl I.1 i) m) * gd (rwI p N I x) k) p
        exact ⟨t + gd (rwI p N I x) k, by rw [ht]; grind⟩
      · rw [gd_out (by rw [upR_get hi, axp_length, hR i hi]; exact hk), gd_out (show (gl I.1 i).length ≤ k by rw [hR i hi]; exact hk), gd_out (show (rwI p N I x).length ≤ k by rw [rwI_len]; exact hk)]
        exact ⟨0, by omega⟩)
    (fun i hi => by show (leadI _ N).toNat = _; rw [l1 i hi]; rfl) (by show (leadI _ N).toNat = _; rw [l2]; rfl) (fun k => by unfold gR; rw [hend]) f k
  refine forall_congr' fun k => ?_
  obtain ⟨a, ha⟩ := hfs k
  constructor
  · rintro ⟨b, hb⟩; exact ⟨b - a, by grind⟩
  · rintro ⟨b, hb⟩; exact ⟨b + a, by grind⟩
theorem S_acc (hp : p = 2 ∨ p = 3 ∨ p = 5) (hN : x.length = N) (hx : Bd p x) (hS : InvS p N S) : leadS (lfS p S x) < 0 ↔ ZS p S (gd x) := by
  unfold ZS
  rw [zero_iff (by omega) hx hN fun j hj => (hS.rows j hj).1]
  constructor
  · intro h k
    rcases leadS_cases (lfS p S x) with h1 | ⟨m, _, h2, _⟩
    · exact h1.2 k
    · omega
  · intro h
    rw [leadS_none (v := lfS p S x) h]; decide
theorem I_acc (hp : p = 2 ∨ p = 3 ∨ p = 5) (hN : x.length = N) (hN64 : N ≤ 64) (hx : Bd p x) (hI : InvI p N I) : lI p N I x < 0 ↔ ZI p N I (gd x) := by
  unfold ZI
  rw [zero_iff (by omega) hx hN fun j hj => (hI.rows j hj).1]
  constructor
  · intro h k
    rcases leadI_cases (v := lfI p N I x) hN64 with h1 | ⟨m, h2, _⟩
    · rcases Nat.lt_or_ge k N with hk | hk
      · exact h1.2 k hk
      · exact gd_out (by rw [sRd_len, hN]; exact hk)
    · unfold lI at h; omega
  · intro h
    rcases leadI_cases (v := lfI p N I x) hN64 with h1 | ⟨m, _, h2⟩
    · unfold lI; rw [h1.1]; decide
    · exact absurd (h m) h2.2.1
end
def spS (p : Int) (xs : List (List Int)) : SpS := xs.foldl (stS p) ([], [], [])
def imS (p : Int) (N : Nat) (xs : List (List Int)) : ImS := xs.foldl (stI p N) ([], [])
theorem spS_snoc (p : Int) (xs : List (List Int)) (x : List Int) : spS p (xs ++ [x]) = stS p (spS p xs) x := by simp [spS]
theorem imS_snoc (p : Int) (N : Nat) (xs : List (List Int)) (x : List Int) : imS p N (xs ++ [x]) = stI p N (imS p N xs) x := by simp [imS]
theorem ranks {p : Int} {N : Nat} (hp : p = 2 ∨ p = 3 ∨ p = 5) (hN : N ≤ 64) : ∀ xs : List (List Int), (∀ x ∈ xs, x.length = N ∧ Bd p x) →
    InvS p N (spS p xs) ∧ InvI p N (imS p N xs) ∧ (spS p xs).1.length = (imS p N xs).1.length ∧ (∀ f, ZS p (spS p xs) f ↔ ZI p N (imS p N xs) f) ∧ (spS p xs).1.length ≤ xs.length := by
  refine snoc_ind (p := fun xs => (∀ x ∈ xs, x.length = N ∧ Bd p x) → _) ?_ ?_
  · intro _
    refine ⟨⟨fun i hi => absurd hi (Nat.not_lt_zero _), rfl, fun i hi => absurd hi (Nat.not_lt_zero _), rfl, fun i hi => absurd hi (Nat.not_lt_zero _)⟩, ⟨fun i hi => absurd hi (Nat.not_lt_zero _), rfl, fun i hi => absurd hi (Nat.not_lt_zero _), fun i hi => absurd hi (Nat.not_lt_zero _), fun i j hi => absurd hi (Nat.not_lt_zero _)⟩, rfl, fun f => Iff.rfl, Nat.le_refl _⟩
  · intro xs x ih h
    obtain ⟨i1, i2, i3, i4, i5⟩ := ih fun y hy => h y (by simp [hy])
    obtain ⟨hx1, hx2⟩ := h x (by simp)
    rw [spS_snoc, imS_snoc]
    have hacc : leadS (lfS p (spS p xs) x) < 0 ↔ lI p N (imS p N xs) x < 0 := by rw [S_acc hp hx1 hx2 i1, I_acc hp hx1 hN hx2 i2, i4]
    refine ⟨S_step hp hx1 hx2 i1, I_step hp hx1 hN hx2 i2, ?_, ?_, ?_⟩
    · by_cases hl : leadS (lfS p (spS p xs) x) < 0
      · unfold stS stI; rw [if_pos hl, if_pos (hacc.1 hl)]; exact i3
      · unfold stS stI; rw [if_neg hl, if_neg fun h => hl (hacc.2 h)]; simp [upR_len, i3]
    · intro f
      by_cases hl : leadS (lfS p (spS p xs) x) < 0
      · rw [show stS p (spS p xs) x = spS p xs by unfold stS; rw [if_pos hl], show stI p N (imS p N xs) x = imS p N xs by unfold stI; rw [if_pos (hacc.1 hl)]]; exact i4 f
      · rw [S_zero hp hx1 hx2 i1 hl, I_zero hp hx1 hN hx2 i2 fun h => hl (hacc.2 h)]
        exact exists_congr fun c => i4 _
    · unfold stS; split
      · simp; omega
      · simp; omega
end Go.Av
namespace Go.Av
open Go
theorem mix_done {p c : Int} {A B : List Int} {k : Nat} (hA : Bd p A) (h : c = 0 ∨ c = p ∨ B.length ≤ k) : mixL (axp p c A B) A k = axp p c A B := by
  have hl : (axp p c A B).length = A.length := axp_length _ _ _ _
  refine gd_ext (by rw [mixL_length hl, hl]) fun j hj => ?_
  rw [gd_mixL hl]
  split
  · rfl
  · rename_i hjk
    rw [mixL_length hl] at hj
    rcases h with h | h | h
    · rw [axp_same hA (.inl h)]
    · rw [axp_same hA (.inr h)]
    · rw [gd_axp hj, gd_out (show B.length ≤ j by omega), Int.mul_zero, Int.add_zero]
      exact (Int.emod_eq_of_lt (hA j).1 (hA j).2).symm
end Go.Av
namespace Go.Av
open Go Go.Proofs Go.Sort
set_option maxRecDepth 10000
theorem lead19_c (v : List Int) (hv : v.length ≤ 1048576) : ACall Try.prog 60 [.sl (icells v) v.length] [] (.int .i64 (leadS v)) [] := by
 refine ACall.intro Try.func60 rfl (N := 16) rfl (by decide) (by simp) ?_
 refine a_seq ?_
 refine a_region ?_
 refine rv (v := .int _ _) (v_assign il nf) ?_
 refine r_nil ?_
 refine a_seq ?_
 refine a_seq ?_
 refine a_region ?_
 refine rv (v := .int _ _) (v_assign il nf) ?_
 refine r_nil ?_
 refine a_block ?_
 refine a_loop (X := Nat) (fun i => look [(0, .sl (icells v) v.length), (3, .int .i64 ((i : Nat) : Int))]) (fun i => i ≤ v.length ∧ ∀ j, j < i → gd v j = 0) (fun i => v.length - i) 0 (ent_look ⟨Weak.of_eq rfl, Weak.of_eq rfl, trivial⟩) ⟨Nat.zero_le _, fun j hj => absurd hj (by omega)⟩ (fun i hG => ?_)
 obtain ⟨g1, g2⟩ := hG
 refine a_seq ?_
 refine a_seq ?_
 refine a_region ?_
 refine rv (v := .int _ _) (v_move il nf) ?_
 refine rv (v := .sl _ _) (v_move il nf) ?_
 refine rv (v := .int _ _) (v_len_sl sl42 il) ?_
 refine rv (v := .bool _) (v_lss il il) ?_
 refine r_nil ?_
 refine a_cond rfl (fun ht7 => ?_) (fun ht7 => ?_)
 ·
  skip
  refine a_skip ?_
  refine a_seq ?_
  refine a_block ?_
  refine a_seq ?_
  have hi : i < v.length := (by simp at ht7; omega)
  refine a_region ?_
  refine rv (v := .sl _ _) (v_move il nf) ?_
  refine rv (v := .int _ _) (v_move il nf) ?_
  refine rv (v := .pp _ _) (v_indexAddr_sl es42 il il (fun _ => ⟨by omega, by omega, icells_ne (show i < v.length from hi)⟩)) ?_
  refine rv (v := .int .i64 (gd v i)) (v_load_pp ta3 il (fun _ => by rw [Nat.mul_one]; exact icells_get (gd_get hi)) rfl) ?_
  refine rv (v := .bool _) (v_neq il il) ?_
  refine r_nil ?_
  refine a_cond rfl (fun ht14 => ?_) (fun ht14 => ?_)
  ·
   skip
   refine a_seq ?_
   refine a_region ?_
   refine rv (v := .int _ _) (v_move il nf) ?_
   refine rv (v := .int _ _) (v_assign il nf) ?_
   refine r_nil ?_
   refine a_ret ?_
   refine ret1 Try.results60 (by decide) (by decide) (Weak.of_eq (int_eq ?_)) rfl Leaves.nil
   rw [leadS_first (i := i) g2 (by simpa using ht14)]
  ·
   skip
   refine a_skip ?_
   refine a_region ?_
   refine rv (v := .int _ _) (v_move il nf) ?_
   refine rv (v := .int _ _) (v_add il il (fun _ => by omega)) ?_
   refine rv (v := .int _ _) (v_assign il nf) ?_
   refine r_nil ?_
   have h0 : gd v i = 0 := (by simpa using ht14)
   have g3 : ∀ j, j < i + 1 → gd v j = 0 := (fun j hj => (by rcases Nat.lt_or_ge j i with h | h; exact g2 j h; rw [show j = i by omega]; exact h0))
   refine ⟨i + 1, ent_look ⟨Weak.of_eq rfl, Weak.of_eq (int_eq (by omega)), trivial⟩, ⟨by omega, g3⟩, by omega⟩
 ·
  skip
  refine a_exit ?_
  refine a_seq ?_
  refine a_region ?_
  refine rv (v := .int _ _) (v_assign il nf) ?_
  refine r_nil ?_
  refine a_ret ?_
  refine ret1 Try.results60 (by decide) (by decide) (Weak.of_eq (int_eq ?_)) rfl Leaves.nil
  rw [leadS_none (fun j => (by rcases Nat.lt_or_ge j v.length with h | h; exact g2 j (by simp at ht7; omega); exact gd_out h))]
theorem inv19_c (p n : Int) (hp : p = 2 ∨ p = 3 ∨ p = 5) (hn : 0 < n ∧ n < p) : ACall Try.prog 61 [.int .i64 p, .int .i64 n] [] (.int .i64 (invp p n)) [] := by
 have hiv := invp_ok hp hn
 refine ACall.intro Try.func61 rfl (N := 18) rfl (by decide) (by simp) ?_
 refine a_seq ?_
 refine a_region ?_
 refine rv (v := .int _ _) (v_assign il nf) ?_
 refine r_nil ?_
 refine a_seq ?_
 refine a_seq ?_
 refine a_region ?_
 refine rv (v := .int _ _) (v_assign il nf) ?_
 refine r_nil ?_
 refine a_block ?_
 refine a_loop (X := Nat) (fun k => look [(0, .int .i64 p), (1, .int .i64 n), (5, .int .i64 ((k : Nat) : Int))]) (fun k => 1 ≤ k ∧ (k : Int) ≤ invp p n) (fun k => 5 - k) 1 (ent_look ⟨Weak.of_eq rfl, Weak.of_eq rfl, Weak.of_eq rfl, trivial⟩) ⟨by omega, by omega⟩ (fun k hG => ?_)
 obtain ⟨g1, g2⟩ := hG
 have hnk := mul_bd (a := n) (b := (k : Int)) (p := p) ⟨by omega, by omega⟩ ⟨by omega, by omega⟩ (by omega)
 refine a_seq ?_
 refine a_seq ?_
 refine a_region ?_
 refine rv (v := .int _ _) (v_move il nf) ?_
 refine rv (v := .int _ _) (v_move il nf) ?_
 refine rv (v := .bool _) (v_lss il il) ?_
 refine r_nil ?_
 refine a_cond rfl (fun ht8 => ?_) (fun ht8 => ?_)
 ·
  skip
  refine a_skip ?_
  refine a_seq ?_
  refine a_block ?_
  refine a_seq ?_
  refine a_region ?_
  refine rv (v := .int _ _) (v_move il nf) ?_
  refine rv (v := .int _ _) (v_move il nf) ?_
  refine rv (v := .int _ _) (v_mul il il (fun _ => by omega)) ?_
  refine rv (v := .int _ _) (v_move il nf) ?_
  refine rv (v := .int _ _) (v_rem il il (fun _ => ⟨by omega, by omega⟩)) ?_
  refine rv (v := .bool _) (v_eql il il) ?_
  refine r_nil ?_
  refine a_cond rfl (fun ht16 => ?_) (fun ht16 => ?_)
  ·
   skip
   refine a_seq ?_
   refine a_region ?_
   refine rv (v := .int _ _) (v_move il nf) ?_
   refine rv (v := .int _ _) (v_assign il nf) ?_
   refine r_nil ?_
   refine a_ret ?_
   refine ret1 Try.results61 (by decide) (by decide) (Weak.of_eq (int_eq ?_)) rfl Leaves.nil
   exact invp_first hp hn ⟨by omega, by omega⟩ (by simpa using ht16)
  ·
   skip
   refine a_skip ?_
   refine a_region ?_
   refine rv (v := .int _ _) (v_move il nf) ?_
   refine rv (v := .int _ _) (v_add il il (fun _ => by omega)) ?_
   refine rv (v := .int _ _) (v_assign il nf) ?_
   refine r_nil ?_
   have hk9 : (k : Int) ≠ invp p n := (by intro h; rw [h] at ht16; simp [hiv.1] at ht16)
   refine ⟨k + 1, ent_look ⟨Weak.of_eq rfl, Weak.of_eq rfl, Weak.of_eq (int_eq (by omega)), trivial⟩, ⟨by omega, by omega⟩, by omega⟩
 ·
  skip
  refine a_exit ?_
  refine a_seq ?_
  refine a_region ?_
  refine rv (v := .int _ _) (v_assign il nf) ?_
  refine r_nil ?_
  refine a_ret ?_
  refine ret1 Try.results61 (by decide) (by decide) (Weak.of_eq (int_eq ?_)) rfl Leaves.nil
  exfalso; simp at ht8; omega
theorem inverse_c (vars : Int) (p n : Int) (hp : p = 2 ∨ p = 3 ∨ p = 5) (hn : 0 < n ∧ n < p) : ACall Try.prog 83 [.agg [.int .i64 p, .int .i64 vars], .int .i64 n] [] (.int .i64 (invp p n)) [] := by
 have hiv := invp_ok hp hn
 refine ACall.intro Try.func83 rfl (N := 16) rfl (by decide) (by simp) ?_
 refine a_seq ?_
 refine a_region ?_
 refine rn (v := .op [.int _ _, .int _ _]) (q_box il rfl rfl) ?_
 refine rv (v := .int _ _) (v_assign il nf) ?_
 refine r_nil ?_
 refine a_seq ?_
 refine a_region ?_
 refine rv (v := .int _ _) (v_assign il nf) ?_
 refine r_nil ?_
 refine a_block ?_
 refine a_loop (X := Nat) (fun k => look [(1, .int .i64 n), (2, .op [.int .i64 p, .int .i64 vars]), (5, .int .i64 ((k : Nat) : Int))]) (fun k => 1 ≤ k ∧ (k : Int) ≤ invp p n) (fun k => 5 - k) 1 (ent_look ⟨Weak.of_eq rfl, Weak.of_eq rfl, Weak.of_eq rfl, trivial⟩) ⟨by omega, by omega⟩ (fun k hG => ?_)
 obtain ⟨g1, g2⟩ := hG
 have hnk := mul_bd (a := n) (b := (k : Int)) (p := p) ⟨by omega, by omega⟩ ⟨by omega, by omega⟩ (by omega)
 refine a_seq ?_
 refine a_block ?_
 refine a_seq ?_
 refine a_region ?_
 refine rv (v := .int _ _) (v_move il nf) ?_
 refine rv (v := .int _ _) (v_move il nf) ?_
 refine rv (v := .int _ _) (v_mul il il (fun _ => by omega)) ?_
 refine rv (v := .rp _ _) (v_fieldAddr_rp fo83_0 il) ?_
 refine rv (v := .int _ _) (v_load_rp1 ta3 il rfl (fun _ => rfl) rfl) ?_
 refine rv (v := .int _ _) (v_rem il il (fun _ => ⟨by omega, by omega⟩)) ?_
 refine rv (v := .bool _) (v_eql il il) ?_
 refine r_nil ?_
 refine a_cond rfl (fun ht14 => ?_) (fun ht14 => ?_)
 ·
  skip
  refine a_seq ?_
  refine a_region ?_
  refine rv (v := .int _ _) (v_move il nf) ?_
  refine rv (v := .int _ _) (v_assign il nf) ?_
  refine r_nil ?_
  refine a_ret ?_
  refine ret1 Try.results83 (by decide) (by decide) (Weak.of_eq (int_eq ?_)) rfl Leaves.nil
  exact invp_first hp hn ⟨by omega, by omega⟩ (by simpa using ht14)
 ·
  skip
  refine a_skip ?_
  refine a_region ?_
  refine rv (v := .int _ _) (v_move il nf) ?_
  refine rv (v := .int _ _) (v_add il il (fun _ => by omega)) ?_
  refine rv (v := .int _ _) (v_assign il nf) ?_
  refine r_nil ?_
  have hk9 : (k : Int) ≠ invp p n := (by intro h; rw [h] at ht14; simp [hiv.1] at ht14)
  refine ⟨k + 1, ent_look ⟨Weak.of_eq rfl, Weak.of_eq rfl, Weak.of_eq (int_eq (by omega)), trivial⟩, ⟨by omega, by omega⟩, by omega⟩
theorem leading_c (v : List Int) (hv : v.length ≤ 1048576) : ACall Try.prog 82 [.sl (icells v) v.length] [] (.int .i64 (leadI v v.length)) [] := by
 refine ACall.intro Try.func82 rfl (N := 28) rfl (by decide) (by simp) ?_
 refine a_seq ?_
 refine a_region ?_
 refine rv (v := .int _ _) (v_assign il nf) ?_
 refine r_nil ?_
 refine a_seq ?_
 refine a_region ?_
 refine rv (v := .int _ _) (v_assign il nf) ?_
 refine r_nil ?_
 refine a_seq ?_
 refine a_seq ?_
 refine a_region ?_
 refine rv (v := .sl _ _) (v_move il nf) ?_
 refine rv (v := .int _ _) (v_len_sl sl89 il) ?_
 refine rv (v := .int _ _) (v_move il nf) ?_
 refine r_nil ?_
 refine a_block ?_
 refine a_loop (X := Nat) (fun i => look [(3, .int .i64 (leadI v i)), (6, .sl (icells v) v.length), (7, .int .i64 ((v.length : Nat) : Int)), (8, .int .i64 ((i : Nat) : Int))]) (fun i => i ≤ v.length) (fun i => v.length - i) 0 (ent_look ⟨Weak.of_eq rfl, Weak.of_eq rfl, Weak.of_eq rfl, Weak.of_eq rfl, trivial⟩) (Nat.zero_le _) (fun i hG => ?_)
 refine a_seq ?_
 refine a_region ?_
 refine rv (v := .bool _) (v_lss il il) ?_
 refine r_nil ?_
 refine a_seq ?_
 refine a_cond rfl (fun ht9 => ?_) (fun ht9 => ?_)
 ·
  skip
  refine a_skip ?_
  refine a_seq ?_
  refine a_block ?_
  refine a_seq ?_
  have hi : i < v.length := (by simp at ht9; omega)
  refine a_region ?_
  refine rv (v := .int _ _) (v_move il nf) ?_
  refine rv (v := .pp _ _) (v_indexAddr_sl es89 il il (fun _ => ⟨by omega, by omega, icells_ne (show i < v.length from hi)⟩)) ?_
  refine rv (v := .int .i64 (gd v i)) (v_load_pp ta3 il (fun _ => by rw [Nat.mul_one]; exact icells_get (gd_get hi)) rfl) ?_
  refine rv (v := .int _ _) (v_assign il nf) ?_
  refine rv (v := .int _ _) (v_assign il nf) ?_
  refine r_nil ?_
  refine a_seq ?_
  refine a_region ?_
  refine rv (v := .int _ _) (v_move il nf) ?_
  refine rv (v := .bool _) (v_neq il il) ?_
  refine rv (v := .bool _) (v_move il nf) ?_
  refine r_gval (v := .int _ _) (v_move il nf) rfl rfl rfl (by decide) (.inl ⟨_, rfl, rfl⟩) rfl (by decide) ?_
  refine r_gval (v := .bool _) (v_lss (.inr ⟨_, rfl, fun h => h⟩) il) rfl rfl rfl (by decide) (.inl ⟨_, rfl, rfl⟩) rfl (by decide) ?_
  refine r_gval (v := .bool _) (v_move (.inr ⟨_, rfl, fun h => h⟩) nf) rfl rfl rfl (by decide) (.inl ⟨_, rfl, rfl⟩) rfl (by decide) ?_
  refine r_gval (v := .int _ _) (v_move il nf) rfl rfl rfl (by decide) (.inr ⟨_, _, rfl, rfl⟩) rfl (by decide) ?_
  refine r_gval (v := .int _ _) (v_move il nf) rfl rfl rfl (by decide) (.inr ⟨_, _, rfl, rfl⟩) rfl (by decide) ?_
  refine r_guard (v := .int _ _) (q_call (vs := [.int _ _, .int _ _]) (args := [.int .i64 _, .int .i64 _]) hb99 ⟨.inr ⟨_, rfl, fun h => h⟩, .inr ⟨_, rfl, fun h => h⟩, trivial⟩ rfl (fun hA => cmpMono_c _ _) rfl rfl) rfl rfl rfl (by decide) (.inr ⟨_, _, rfl, rfl⟩) rfl (by decide) ?_
  refine r_gval (v := .bool _) (v_gtr (.inr ⟨_, rfl, fun h => h⟩) il) rfl rfl rfl (by decide) (.inr ⟨_, _, rfl, rfl⟩) rfl (by decide) ?_
  refine r_gval (v := .bool _) (v_pick (.inr ⟨_, rfl, fun h => h⟩) (.inl rfl) (.inr ⟨_, rfl, fun h h2 => by simp_all⟩)) rfl rfl rfl (by decide) (.inl ⟨_, rfl, rfl⟩) rfl (by decide) ?_
  refine rv (v := .bool _) (v_pick (.inl rfl) (.inr ⟨_, rfl, fun h h2 => by simp_all⟩) (.inl rfl)) ?_
  refine r_nil ?_
  refine a_cond rfl (fun ht24 => ?_) (fun ht24 => ?_)
  ·
   skip
   refine a_region ?_
   refine rv (v := .int _ _) (v_move il nf) ?_
   refine rv (v := .int _ _) (v_assign il nf) ?_
   refine r_nil ?_
   refine a_region ?_
   refine rv (v := .int _ _) (v_add il il (fun _ => by omega)) ?_
   refine rv (v := .int _ _) (v_move il nf) ?_
   refine r_nil ?_
   have hc : gd v i ≠ 0 ∧ (leadI v i < 0 ∨ 0 < cfMono (i : Int) (leadI v i)) := (by have h9 := ht24; cases h1 : decide (gd v i = 0) <;> cases h2 : decide (leadI v i < 0) <;> simp_all)
   refine ⟨i + 1, ent_look ⟨Weak.of_eq (int_eq (by rw [leadI, if_pos hc])), Weak.of_eq rfl, Weak.of_eq rfl, Weak.of_eq (int_eq (by omega)), trivial⟩, by omega, by omega⟩
  ·
   skip
   refine a_skip ?_
   refine a_region ?_
   refine rv (v := .int _ _) (v_add il il (fun _ => by omega)) ?_
   refine rv (v := .int _ _) (v_move il nf) ?_
   refine r_nil ?_
   have hc : ¬ (gd v i ≠ 0 ∧ (leadI v i < 0 ∨ 0 < cfMono (i : Int) (leadI v i))) := (by have h9 := ht24; cases h1 : decide (gd v i = 0) <;> cases h2 : decide (leadI v i < 0) <;> simp_all)
   refine ⟨i + 1, ent_look ⟨Weak.of_eq (int_eq (by rw [leadI, if_neg hc])), Weak.of_eq rfl, Weak.of_eq rfl, Weak.of_eq (int_eq (by omega)), trivial⟩, by omega, by omega⟩
 ·
  skip
  refine a_exit ?_
  refine a_seq ?_
  refine a_region ?_
  refine rv (v := .int _ _) (v_move il nf) ?_
  refine rv (v := .int _ _) (v_assign il nf) ?_
  refine r_nil ?_
  refine a_ret ?_
  refine ret1 Try.results82 (by decide) (by decide) (Weak.of_eq (int_eq ?_)) rfl Leaves.nil
  rw [show v.length = i by simp at ht9; omega]
end Go.Av
namespace Go.Av
open Go Go.Proofs Go.Sort
set_option maxRecDepth 10000
theorem fo59_0 : fieldOff Try.prog 59 0 = some 0 := by kernel_rfl
theorem fo59_1 : fieldOff Try.prog 59 1 = some 1 := by kernel_rfl
theorem fo59_2 : fieldOff Try.prog 59 2 = some 2 := by kernel_rfl
theorem fo59_3 : fieldOff Try.prog 59 3 = some 3 := by kernel_rfl
theorem sl57 : isSlice Try.prog 57 = true := by kernel_rfl
theorem ta57 : tyAgg Try.prog 57 = some (false, 1) := by kernel_rfl
theorem reduce19_c (p : Int) (S : SpS) (K : List Pr) (x : List Int) (N : Nat) (hp : 2 ≤ p ∧ p ≤ 5) (hS : InvS p N S) (hK : K.length = S.1.length) (hx : x.length = N) (hb : Bd p x) (hN : N ≤ 64) (hn : S.1.length ≤ 1048576) : ACall Try.prog 59 [.int .i64 p, .agg [.sl (sls S.1) S.1.length, .sl (icells S.2.1) S.2.1.length, .sl (sls S.2.2) S.2.2.length, .sl (prC K) K.length], .sl (icells x) x.length] [] (.tup [.osl 1 (icells (lfS p S x)) N none, .osl 1 (icells (mdS p S x)) S.1.length none]) [] := by
 refine ACall.intro Try.func59 rfl (N := 104) rfl (by decide) (by simp) ?_
 refine a_seq ?_
 refine a_region ?_
 refine rn (v := .op [.sl _ _, .sl _ _, .sl _ _, .sl _ _]) (q_box il rfl rfl) ?_
 refine rv (v := .nils) (v_assign il nf) ?_
 refine rv (v := .nils) (v_assign il nf) ?_
 refine r_nil ?_
 refine a_seq ?_
 refine a_region_z (n := 9) [[(14, true)], [(15, true)], [(14, false), (16, true)], [(17, true)], [(18, true)], [(19, true)], [(20, true)], [(8, true)], [(9, true)]] mixed (by kernel_rfl) ?_
 refine z_new (v := .osl _ _ _ _) (q_sliceLit (n := 0) (parts := []) lt42 rfl rfl rfl rfl) rfl rfl (by decide) rfl (by kernel_rfl) ?_
 refine z_val (v := .sl _ _) (v_move il nf) rfl rfl (by decide) rfl (by kernel_rfl) ?_
 refine z_append rfl rfl ap42 rfl (by decide) (by decide) (by decide) rfl (src_sl (.inl rfl) (fun _ => by rw [icells_length, Nat.mul_one]) (ic_pureL _)) (ic_cell _) rfl (by omega) rfl (by kernel_rfl) ?_
 refine z_val (v := .rp _ _) (v_fieldAddr_rp fo59_3 il) rfl rfl (by decide) rfl (by kernel_rfl) ?_
 refine z_val (v := .sl _ _) (v_load_rp1 ta57 il rfl (fun _ => rfl) rfl) rfl rfl (by decide) rfl (by kernel_rfl) ?_
 refine z_val (v := .int _ _) (v_len_sl sl57 il) rfl rfl (by decide) rfl (by kernel_rfl) ?_
 refine z_new (v := .osl _ _ _ _) (q_makeSlice us42 sb3 zc3 rfl (by decide) il il (fun _ => by omega)) rfl rfl (by decide) rfl (by kernel_rfl) ?_
 refine z_val (v := .rsl _ _ _ _ _) (v_assign il nf) rfl rfl (by decide) rfl (by kernel_rfl) ?_
 refine z_val (v := .rsl _ _ _ _ _) (v_assign il nf) rfl rfl (by decide) rfl (by kernel_rfl) ?_
 refine z_nil ?_
 refine r_nil ?_
 refine a_seq ?_
 refine a_seq ?_
 refine a_pre (ent_reloc_sl (t := 8) rfl rfl) ?_
 refine a_pre (ent_reloc_sl (t := 9) rfl rfl) ?_
 refine a_region ?_
 refine rv (v := .int _ _) (v_assign il nf) ?_
 refine r_nil ?_
 refine a_block ?_
 refine a_loop (X := Nat) (fun i => look [(0, .int .i64 p), (4, .op [.sl (sls S.1) S.1.length, .sl (icells S.2.1) S.2.1.length, .sl (sls S.2.2) S.2.2.length, .sl (prC K) K.length]), (8, .osl 1 (icells (sRd p (ldS S.2.1) S.1 x i)) N none), (9, .osl 1 (icells (sMd p (ldS S.2.1) S.1 S.2.2 x S.1.length i)) S.1.length none), (10, .int .i64 ((i : Nat) : Int))]) (fun i => i ≤ S.1.length) (fun i => S.1.length - i) 0 (ent_look ⟨Weak.of_eq rfl, Weak.of_eq rfl, Weak.osl (by rfl) (by rw [Nat.zero_add]; exact hx), Weak.osl (by rw [hK]; exact (icells_rep _)) hK, Weak.of_eq rfl, trivial⟩) (Nat.zero_le _) (fun i hG => ?_)
 have hll := sRd_len (p := p) (ld := ldS S.2.1) (R := S.1) (a := x) i
 have hlb := sRd_bd (p := p) (ld := ldS S.2.1) (R := S.1) (by omega) hb i
 have hml := sMd_len (p := p) (ld := ldS S.2.1) (R := S.1) (M := S.2.2) (a := x) (n := S.1.length) i
 have hmb := sMd_bd (p := p) (ld := ldS S.2.1) (R := S.1) (M := S.2.2) (a := x) (n := S.1.length) (by omega) i
 have hlb1 := sRd_bd (p := p) (ld := ldS S.2.1) (R := S.1) (by omega) hb (i + 1)
 refine a_seq ?_
 refine a_seq ?_
 refine a_region ?_
 refine rv (v := .int _ _) (v_move il nf) ?_
 refine rv (v := .rp _ _) (v_fieldAddr_rp fo59_0 il) ?_
 refine rv (v := .sl _ _) (v_load_rp1 ta22 il rfl (fun _ => rfl) rfl) ?_
 refine rv (v := .int _ _) (v_len_sl sl22 il) ?_
 refine rv (v := .bool _) (v_lss il il) ?_
 refine r_nil ?_
 refine a_cond rfl (fun ht25 => ?_) (fun ht25 => ?_)
 ·
  skip
  refine a_skip ?_
  refine a_seq ?_
  refine a_block ?_
  refine a_seq ?_
  have hi : i < S.1.length := (by simp at ht25; omega)
  obtain ⟨hr1, hr2⟩ := hS.rows i hi
  obtain ⟨hl1, hl2⟩ := hS.lds i hi
  obtain ⟨hm1, hm2⟩ := hS.mds i hi
  have hldl := hS.ldl
  have hmdl := hS.mdl
  have hldi : gd S.2.1 i = ((ldS S.2.1 i : Nat) : Int) := (by unfold ldS; omega)
  have hldN : ldS S.2.1 i < N := (by unfold ldS; omega)
  have hfb := hlb (ldS S.2.1 i)
  refine a_region ?_
  refine rv (v := .rsl _ _ _ _ _) (v_move il nf) ?_
  refine rv (v := .rp _ _) (v_fieldAddr_rp fo59_1 il) ?_
  refine rv (v := .sl _ _) (v_load_rp1 ta42 il rfl (fun _ => rfl) rfl) ?_
  refine rv (v := .int _ _) (v_move il nf) ?_
  refine rv (v := .pp _ _) (v_indexAddr_sl es42 il il (fun _ => ⟨by omega, by omega, icells_ne (show i < S.2.1.length by omega)⟩)) ?_
  refine rv (v := .int .i64 ((ldS S.2.1 i : Nat) : Int)) (v_load_pp ta3 il (fun _ => by rw [Nat.mul_one]; exact (icells_get (gd_get (by omega))).trans (by rw [Int.toNat_natCast, hldi])) rfl) ?_
  refine rv (v := .rp _ _) (v_indexAddr_rsl0 es42 il il (fun _ => by omega)) ?_
  refine rv (v := .int .i64 (gd (sRd p (ldS S.2.1) S.1 x i) (ldS S.2.1 i))) (v_load_rp1 ta3 il rfl (fun _ => by rw [Nat.mul_one]; exact icells_get (gd_get (show ldS S.2.1 i < (sRd p (ldS S.2.1) S.1 x i).length by omega))) rfl) ?_
  refine rv (v := .int _ _) (v_assign il nf) ?_
  refine r_nil ?_
  refine a_seq ?_
  refine a_seq ?_
  refine a_region ?_
  refine rv (v := .int _ _) (v_assign il nf) ?_
  refine r_nil ?_
  refine a_block ?_
  refine a_loop (X := Nat) (fun k => look [(0, .int .i64 p), (4, .op [.sl (sls S.1) S.1.length, .sl (icells S.2.1) S.2.1.length, .sl (sls S.2.2) S.2.2.length, .sl (prC K) K.length]), (8, .osl 1 (icells (mixL (sRd p (ldS S.2.1) S.1 x (i + 1)) (sRd p (ldS S.2.1) S.1 x i) k)) N none), (9, .osl 1 (icells (sMd p (ldS S.2.1) S.1 S.2.2 x S.1.length i)) S.1.length none), (10, .int .i64 ((i : Nat) : Int)), (11, .int .i64 (gd (sRd p (ldS S.2.1) S.1 x i) (ldS S.2.1 i))), (12, .int .i64 ((k : Nat) : Int))]) (fun k => k ≤ N) (fun k => N - k) 0 (ent_look ⟨Weak.of_eq rfl, Weak.of_eq rfl, Weak.osl (by rw [mixL_zero]) rfl, Weak.of_eq rfl, Weak.of_eq rfl, Weak.of_eq rfl, Weak.of_eq rfl, trivial⟩) (Nat.zero_le _) (fun k hG => ?_)
  refine a_seq ?_
  refine a_seq ?_
  refine a_region ?_
  refine rv (v := .int _ _) (v_move il nf) ?_
  refine rv (v := .rsl _ _ _ _ _) (v_move il nf) ?_
  refine rv (v := .int _ _) (v_len_rsl sl42 il) ?_
  refine rv (v := .bool _) (v_lss il il) ?_
  refine rv (v := .bool _) (v_move il nf) ?_
  refine r_gval (v := .int _ _) (v_move il nf) rfl rfl rfl (by decide) (.inl ⟨_, rfl, rfl⟩) rfl (by decide) ?_
  refine r_gval (v := .bool _) (v_neq (.inr ⟨_, rfl, fun h => h⟩) il) rfl rfl rfl (by decide) (.inl ⟨_, rfl, rfl⟩) rfl (by decide) ?_
  refine rv (v := .bool _) (v_pick (.inl rfl) (.inr ⟨_, rfl, fun h h2 => by simp_all⟩) (.inl rfl)) ?_
  refine r_nil ?_
  refine a_cond rfl (fun ht43 => ?_) (fun ht43 => ?_)
  ·
   skip
   refine a_skip ?_
   refine a_seq ?_
   refine a_block ?_
   have hkf : k < N ∧ (gd (sRd p (ldS S.2.1) S.1 x i) (ldS S.2.1 i)) ≠ 0 := (by cases h1 : decide (k < N) <;> simp_all)
   have hgm : gd (mixL (sRd p (ldS S.2.1) S.1 x (i + 1)) (sRd p (ldS S.2.1) S.1 x i) k) k = gd (sRd p (ldS S.2.1) S.1 x i) k := (by rw [gd_mixL (by rw [sRd_len, sRd_len]), if_neg (by omega)])
   have hmul := mul_bd (a := p - (gd (sRd p (ldS S.2.1) S.1 x i) (ldS S.2.1 i))) (b := gd (gl S.1 i) k) (p := p) ⟨by omega, by omega⟩ (hr2 k) hp.2
   have hbk := hlb k
   have hpl : k * 1 + 1 ≤ (icells (mixL (sRd p (ldS S.2.1) S.1 x (i + 1)) (sRd p (ldS S.2.1) S.1 x i) k)).length := (by rw [icells_length, mixL_length (by rw [sRd_len, sRd_len])]; omega)
   have hset : (icells (mixL (sRd p (ldS S.2.1) S.1 x (i + 1)) (sRd p (ldS S.2.1) S.1 x i) k)).set (k * 1) (.int .i64 ((gd (sRd p (ldS S.2.1) S.1 x i) k + (p - (gd (sRd p (ldS S.2.1) S.1 x i) (ldS S.2.1 i))) * gd (gl S.1 i) k) % p)) = icells (mixL (sRd p (ldS S.2.1) S.1 x (i + 1)) (sRd p (ldS S.2.1) S.1 x i) (k + 1)) := (by rw [Nat.mul_one, icells_set, ← gd_axp (by omega), show axp p (p - (gd (sRd p (ldS S.2.1) S.1 x i) (ldS S.2.1 i))) (sRd p (ldS S.2.1) S.1 x i) (gl S.1 i) = (sRd p (ldS S.2.1) S.1 x (i + 1)) from rfl, mixL_set (by rw [sRd_len, sRd_len]) (by omega)])
   refine a_region_w [(46, true), (47, true), (48, true), (49, true), (50, true), (51, true), (52, true), (53, true), (54, true), (55, true), (56, true), (57, true), (58, true), (59, true), (60, true), (61, true), (62, true), (63, true), (64, true), (65, true), (66, true), (67, true), (8, false)] mixed (by kernel_rfl) ?_
   refine wv (v := .rsl _ _ _ _ _) (v_move il nf) ?_
   refine wv (v := .int _ _) (v_move il nf) ?_
   refine wv (v := .rsl _ _ _ _ _) (v_move il nf) ?_
   refine wv (v := .int _ _) (v_move il nf) ?_
   refine wv (v := .rp _ _) (v_indexAddr_rsl0 es42 il il (fun _ => by omega)) ?_
   refine wv (v := .int .i64 (gd (sRd p (ldS S.2.1) S.1 x i) k)) (v_load_rp1 ta3 il rfl (fun _ => by rw [Nat.mul_one, ← hgm]; exact icells_get (gd_get (by rw [mixL_length (by rw [sRd_len, sRd_len])]; omega))) rfl) ?_
   refine wv (v := .int _ _) (v_move il nf) ?_
   refine wv (v := .int _ _) (v_move il nf) ?_
   refine wv (v := .int _ _) (v_sub il il (fun _ => by omega)) ?_
   refine wv (v := .rp _ _) (v_fieldAddr_rp fo59_0 il) ?_
   refine wv (v := .sl _ _) (v_load_rp1 ta22 il rfl (fun _ => rfl) rfl) ?_
   refine wv (v := .int _ _) (v_move il nf) ?_
   refine wv (v := .pp _ _) (v_indexAddr_sl es22 il il (fun _ => ⟨by omega, by omega, sls_ne hi⟩)) ?_
   refine wv (v := .sl (icells (gl S.1 i)) (gl S.1 i).length) (v_load_pp ta42 il (fun _ => by rw [Nat.mul_one]; exact sls_get hi) rfl) ?_
   refine wv (v := .int _ _) (v_move il nf) ?_
   refine wv (v := .pp _ _) (v_indexAddr_sl es42 il il (fun _ => ⟨by omega, by omega, icells_ne (show k < (gl S.1 i).length by omega)⟩)) ?_
   refine wv (v := .int .i64 (gd (gl S.1 i) k)) (v_load_pp ta3 il (fun _ => by rw [Nat.mul_one]; exact icells_get (gd_get (by omega))) rfl) ?_
   refine wv (v := .int _ _) (v_mul il il (fun _ => by omega)) ?_
   refine wv (v := .int _ _) (v_add il il (fun _ => by omega)) ?_
   refine wv (v := .int _ _) (v_move il nf) ?_
   refine wv (v := .int _ _) (v_rem il il (fun _ => ⟨by omega, by omega⟩)) ?_
   refine wv (v := .rp _ _) (v_indexAddr_rsl0 es42 il il (fun _ => by omega)) ?_
   refine w_store (v := .int _ _) (y' := .osl _ _ _ _) rfl rfl rfl ta3 (.inl rfl) (.inl rfl) rfl rfl rfl rfl rfl rfl hpl (by decide) rfl (congrArg (fun c => AV.osl 1 c N none) hset) rfl (by kernel_rfl) ?_
   refine w_nil ?_
   refine a_pre (ent_look (L := [(0, .int _ _), (4, .op [.sl _ _, .sl _ _, .sl _ _, .sl _ _]), (8, .osl _ _ _ _), (9, .osl _ _ _ _), (10, .int _ _), (11, .int _ _), (12, .int _ _)]) ⟨Weak.rfl, Weak.rfl, Weak.rfl, Weak.rfl, Weak.rfl, Weak.rfl, Weak.rfl, trivial⟩) ?_
   refine a_region ?_
   refine rv (v := .int _ _) (v_move il nf) ?_
   refine rv (v := .int _ _) (v_add il il (fun _ => by omega)) ?_
   refine rv (v := .int _ _) (v_assign il nf) ?_
   refine r_nil ?_
   refine ⟨k + 1, ent_look ⟨Weak.of_eq rfl, Weak.of_eq rfl, Weak.of_eq rfl, Weak.of_eq rfl, Weak.of_eq rfl, Weak.of_eq rfl, Weak.of_eq (int_eq (by omega)), trivial⟩, by omega, by omega⟩
  ·
   skip
   refine a_exit ?_
   refine a_seq ?_
   have hdone : (mixL (sRd p (ldS S.2.1) S.1 x (i + 1)) (sRd p (ldS S.2.1) S.1 x i) k) = (sRd p (ldS S.2.1) S.1 x (i + 1)) := mix_done hlb (by rcases Decidable.em ((gd (sRd p (ldS S.2.1) S.1 x i) (ldS S.2.1 i)) = 0) with h0 | h0; exact .inr (.inl (by rw [h0, Int.sub_zero])); exact .inr (.inr (by cases h1 : decide (k < N) <;> simp_all <;> omega)))
   refine a_pre (ent_eq (t := 8) (v' := .osl 1 (icells (sRd p (ldS S.2.1) S.1 x (i + 1))) N none) (Weak.osl (by rw [hdone]) rfl)) ?_
   refine a_region ?_
   refine rv (v := .int _ _) (v_assign il nf) ?_
   refine r_nil ?_
   refine a_block ?_
   refine a_loop (X := Nat) (fun k => look [(0, .int .i64 p), (4, .op [.sl (sls S.1) S.1.length, .sl (icells S.2.1) S.2.1.length, .sl (sls S.2.2) S.2.2.length, .sl (prC K) K.length]), (8, .osl 1 (icells (sRd p (ldS S.2.1) S.1 x (i + 1))) N none), (9, .osl 1 (icells (mixL (sMd p (ldS S.2.1) S.1 S.2.2 x S.1.length (i + 1)) (sMd p (ldS S.2.1) S.1 S.2.2 x S.1.length i) k)) S.1.length none), (10, .int .i64 ((i : Nat) : Int)), (11, .int .i64 (gd (sRd p (ldS S.2.1) S.1 x i) (ldS S.2.1 i))), (13, .int .i64 ((k : Nat) : Int))]) (fun k => k ≤ i + 1) (fun k => i + 1 - k) 0 (ent_look ⟨Weak.of_eq rfl, Weak.of_eq rfl, Weak.of_eq rfl, Weak.osl (by rw [mixL_zero]) rfl, Weak.of_eq rfl, Weak.of_eq rfl, Weak.of_eq rfl, trivial⟩) (Nat.zero_le _) (fun k hG => ?_)
   refine a_seq ?_
   refine a_seq ?_
   refine a_region ?_
   refine rv (v := .int _ _) (v_move il nf) ?_
   refine rv (v := .rp _ _) (v_fieldAddr_rp fo59_2 il) ?_
   refine rv (v := .sl _ _) (v_load_rp1 ta22 il rfl (fun _ => rfl) rfl) ?_
   refine rv (v := .int _ _) (v_move il nf) ?_
   refine rv (v := .pp _ _) (v_indexAddr_sl es22 il il (fun _ => ⟨by omega, by omega, sls_ne (show i < S.2.2.length by omega)⟩)) ?_
   refine rv (v := .sl (icells (gl S.2.2 i)) (gl S.2.2 i).length) (v_load_pp ta42 il (fun _ => by rw [Nat.mul_one]; exact sls_get (by omega)) rfl) ?_
   refine rv (v := .int _ _) (v_len_sl sl42 il) ?_
   refine rv (v := .bool _) (v_lss il il) ?_
   refine rv (v := .bool _) (v_move il nf) ?_
   refine r_gval (v := .int _ _) (v_move il nf) rfl rfl rfl (by decide) (.inl ⟨_, rfl, rfl⟩) rfl (by decide) ?_
   refine r_gval (v := .bool _) (v_neq (.inr ⟨_, rfl, fun h => h⟩) il) rfl rfl rfl (by decide) (.inl ⟨_, rfl, rfl⟩) rfl (by decide) ?_
   refine rv (v := .bool _) (v_pick (.inl rfl) (.inr ⟨_, rfl, fun h h2 => by simp_all⟩) (.inl rfl)) ?_
   refine r_nil ?_
   refine a_cond rfl (fun ht79 => ?_) (fun ht79 => ?_)
   ·
    skip
    refine a_skip ?_
    refine a_seq ?_
    refine a_block ?_
    have hkf : k < i + 1 ∧ (gd (sRd p (ldS S.2.1) S.1 x i) (ldS S.2.1 i)) ≠ 0 := (by have h9 := ht79; simp at h9; exact ⟨by omega, h9.2⟩)
    have hgm : gd (mixL (sMd p (ldS S.2.1) S.1 S.2.2 x S.1.length (i + 1)) (sMd p (ldS S.2.1) S.1 S.2.2 x S.1.length i) k) k = gd (sMd p (ldS S.2.1) S.1 S.2.2 x S.1.length i) k := (by rw [gd_mixL (by rw [sMd_len, sMd_len]), if_neg (by omega)])
    have hmul := mul_bd (a := (gd (sRd p (ldS S.2.1) S.1 x i) (ldS S.2.1 i))) (b := gd (gl S.2.2 i) k) (p := p) ⟨by omega, by omega⟩ (hm2 k) hp.2
    have hbk := hmb k
    have hpl : k * 1 + 1 ≤ (icells (mixL (sMd p (ldS S.2.1) S.1 S.2.2 x S.1.length (i + 1)) (sMd p (ldS S.2.1) S.1 S.2.2 x S.1.length i) k)).length := (by rw [icells_length, mixL_length (by rw [sMd_len, sMd_len])]; omega)
    have hset : (icells (mixL (sMd p (ldS S.2.1) S.1 S.2.2 x S.1.length (i + 1)) (sMd p (ldS S.2.1) S.1 S.2.2 x S.1.length i) k)).set (k * 1) (.int .i64 ((gd (sMd p (ldS S.2.1) S.1 S.2.2 x S.1.length i) k + (gd (sRd p (ldS S.2.1) S.1 x i) (ldS S.2.1 i)) * gd (gl S.2.2 i) k) % p)) = icells (mixL (sMd p (ldS S.2.1) S.1 S.2.2 x S.1.length (i + 1)) (sMd p (ldS S.2.1) S.1 S.2.2 x S.1.length i) (k + 1)) := (by rw [Nat.mul_one, icells_set, ← gd_axp (by omega), show axp p (gd (sRd p (ldS S.2.1) S.1 x i) (ldS S.2.1 i)) (sMd p (ldS S.2.1) S.1 S.2.2 x S.1.length i) (gl S.2.2 i) = (sMd p (ldS S.2.1) S.1 S.2.2 x S.1.length (i + 1)) from rfl, mixL_set (by rw [sMd_len, sMd_len]) (by omega)])
    refine a_region_w [(82, true), (83, true), (84, true), (85, true), (86, true), (87, true), (88, true), (89, true), (90, true), (91, true), (92, true), (93, true), (94, true), (95, true), (96, true), (97, true), (98, true), (99, true), (100, true), (101, true), (9, false)] mixed (by kernel_rfl) ?_
    refine wv (v := .rsl _ _ _ _ _) (v_move il nf) ?_
    refine wv (v := .int _ _) (v_move il nf) ?_
    refine wv (v := .rsl _ _ _ _ _) (v_move il nf) ?_
    refine wv (v := .int _ _) (v_move il nf) ?_
    refine wv (v := .rp _ _) (v_indexAddr_rsl0 es42 il il (fun _ => by omega)) ?_
    refine wv (v := .int .i64 (gd (sMd p (ldS S.2.1) S.1 S.2.2 x S.1.length i) k)) (v_load_rp1 ta3 il rfl (fun _ => by rw [Nat.mul_one, ← hgm]; exact icells_get (gd_get (by rw [mixL_length (by rw [sMd_len, sMd_len])]; omega))) rfl) ?_
    refine wv (v := .int _ _) (v_move il nf) ?_
    refine wv (v := .rp _ _) (v_fieldAddr_rp fo59_2 il) ?_
    refine wv (v := .sl _ _) (v_load_rp1 ta22 il rfl (fun _ => rfl) rfl) ?_
    refine wv (v := .int _ _) (v_move il nf) ?_
    refine wv (v := .pp _ _) (v_indexAddr_sl es22 il il (fun _ => ⟨by omega, by omega, sls_ne (show i < S.2.2.length by omega)⟩)) ?_
    refine wv (v := .sl (icells (gl S.2.2 i)) (gl S.2.2 i).length) (v_load_pp ta42 il (fun _ => by rw [Nat.mul_one]; exact sls_get (by omega)) rfl) ?_
    refine wv (v := .int _ _) (v_move il nf) ?_
    refine wv (v := .pp _ _) (v_indexAddr_sl es42 il il (fun _ => ⟨by omega, by omega, icells_ne (show k < (gl S.2.2 i).length by omega)⟩)) ?_
    refine wv (v := .int .i64 (gd (gl S.2.2 i) k)) (v_load_pp ta3 il (fun _ => by rw [Nat.mul_one]; exact icells_get (gd_get (by omega))) rfl) ?_
    refine wv (v := .int _ _) (v_mul il il (fun _ => by omega)) ?_
    refine wv (v := .int _ _) (v_add il il (fun _ => by omega)) ?_
    refine wv (v := .int _ _) (v_move il nf) ?_
    refine wv (v := .int _ _) (v_rem il il (fun _ => ⟨by omega, by omega⟩)) ?_
    refine wv (v := .rp _ _) (v_indexAddr_rsl0 es42 il il (fun _ => by omega)) ?_
    refine w_store (v := .int _ _) (y' := .osl _ _ _ _) rfl rfl rfl ta3 (.inl rfl) (.inl rfl) rfl rfl rfl rfl rfl rfl hpl (by decide) rfl (congrArg (fun c => AV.osl 1 c S.1.length none) hset) rfl (by kernel_rfl) ?_
    refine w_nil ?_
    refine a_pre (ent_look (L := [(0, .int _ _), (4, .op [.sl _ _, .sl _ _, .sl _ _, .sl _ _]), (8, .osl _ _ _ _), (9, .osl _ _ _ _), (10, .int _ _), (11, .int _ _), (13, .int _ _)]) ⟨Weak.rfl, Weak.rfl, Weak.rfl, Weak.rfl, Weak.rfl, Weak.rfl, Weak.rfl, trivial⟩) ?_
    refine a_region ?_
    refine rv (v := .int _ _) (v_move il nf) ?_
    refine rv (v := .int _ _) (v_add il il (fun _ => by omega)) ?_
    refine rv (v := .int _ _) (v_assign il nf) ?_
    refine r_nil ?_
    refine ⟨k + 1, ent_look ⟨Weak.of_eq rfl, Weak.of_eq rfl, Weak.of_eq rfl, Weak.of_eq rfl, Weak.of_eq rfl, Weak.of_eq rfl, Weak.of_eq (int_eq (by omega)), trivial⟩, by omega, by omega⟩
   ·
    skip
    refine a_exit ?_
    have hdone2 : (mixL (sMd p (ldS S.2.1) S.1 S.2.2 x S.1.length (i + 1)) (sMd p (ldS S.2.1) S.1 S.2.2 x S.1.length i) k) = (sMd p (ldS S.2.1) S.1 S.2.2 x S.1.length (i + 1)) := mix_done hmb (by rcases Decidable.em ((gd (sRd p (ldS S.2.1) S.1 x i) (ldS S.2.1 i)) = 0) with h0 | h0; exact .inl h0; exact .inr (.inr (by have h9 := ht79; rw [hm1] at h9 ⊢; cases h1 : decide (((k : Nat) : Int) < ((i + 1 : Nat) : Int)) <;> simp_all <;> omega)))
    refine a_pre (ent_eq (t := 9) (v' := .osl 1 (icells (sMd p (ldS S.2.1) S.1 S.2.2 x S.1.length (i + 1))) S.1.length none) (Weak.osl (by rw [hdone2]) rfl)) ?_
    refine a_region ?_
    refine rv (v := .int _ _) (v_move il nf) ?_
    refine rv (v := .int _ _) (v_add il il (fun _ => by omega)) ?_
    refine rv (v := .int _ _) (v_assign il nf) ?_
    refine r_nil ?_
    refine ⟨i + 1, ent_look ⟨Weak.of_eq rfl, Weak.of_eq rfl, Weak.of_eq rfl, Weak.of_eq rfl, Weak.of_eq (int_eq (by omega)), trivial⟩, by omega, by omega⟩
 ·
  skip
  refine a_exit ?_
  refine a_seq ?_
  refine a_region ?_
  refine rv (v := .rsl _ _ _ _ _) (v_move il nf) ?_
  refine rv (v := .rsl _ _ _ _ _) (v_move il nf) ?_
  refine rv (v := .rsl _ _ _ _ _) (v_assign il nf) ?_
  refine r_pre (ent_reloc_sl (t := 6) rfl rfl) ?_
  refine rv (v := .rsl _ _ _ _ _) (v_assign il nf) ?_
  refine r_pre (ent_reloc_sl (t := 7) rfl rfl) ?_
  refine r_nil ?_
  refine a_ret ?_
  refine retL (rs := [.tmp 6, .tmp 7]) [(6, .osl _ _ _ none), (7, .osl _ _ _ none)] ⟨Weak.osl rfl rfl, Weak.osl rfl rfl, trivial⟩ rfl Try.results59 (by decide) ⟨by decide, by decide, rfl⟩ (by decide) (by decide) (l2_eq (osl_eq2 ?_ ?_) (osl_eq2 ?_ ?_)) rfl
  all_goals (have hie : i = S.1.length := (by simp at ht25; omega); subst hie; rfl)
end Go.Av
namespace Go.Av
open Go
def pvs (Q : List Pr) : List (List Int) := Q.map fun q => q.2.2
def sQ (p : Int) (Q : List Pr) (i : Nat) : SpS := spS p ((pvs Q).take i)
def iQ (p : Int) (N : Nat) (Q : List Pr) (i : Nat) : ImS := imS p N ((pvs Q).take i)
def kQ (p : Int) (Q : List Pr) : Nat → List Pr
  | 0 => []
  | i + 1 => if leadS (lfS p (sQ p Q i) (pq Q i).2.2) < 0 then kQ p Q i else kQ p Q i ++ [pq Q i]
def jQ (p : Int) (N : Nat) (Q : List Pr) : Nat → List Pr
  | 0 => []
  | i + 1 => if lI p N (iQ p N Q i) (pq Q i).2.2 < 0 then jQ p N Q i else jQ p N Q i ++ [pq Q i]
section
variable {p : Int} {N : Nat} {Q : List Pr} {i : Nat}
theorem pvs_take (h : i < Q.length) : (pvs Q).take (i + 1) = (pvs Q).take i ++ [(pq Q i).2.2] := by
  unfold pvs
  rw [← List.map_take, ← List.map_take, List.take_succ_eq_append_getElem h, List.map_append]
  have : Q[i] = pq Q i := by unfold pq; rw [List.getElem?_eq_getElem h]; rfl
  rw [this]; rfl
theorem sQ_succ (h : i < Q.length) : sQ p Q (i + 1) = stS p (sQ p Q i) (pq Q i).2.2 := by unfold sQ; rw [pvs_take h, spS_snoc]
theorem iQ_succ (h : i < Q.length) : iQ p N Q (i + 1) = stI p N (iQ p N Q i) (pq Q i).2.2 := by unfold iQ; rw [pvs_take h, imS_snoc]
theorem kQ_len : ∀ {i}, i ≤ Q.length → (kQ p Q i).length = (sQ p Q i).1.length
  | 0, _ => rfl
  | i + 1, h => by
    rw [kQ, sQ_succ (by omega)]
    unfold stS
    split
    · exact kQ_len (by omega)
    · simp [kQ_len (i := i) (by omega)]
theorem jQ_len : ∀ {i}, i ≤ Q.length → (jQ p N Q i).length = (iQ p N Q i).1.length
  | 0, _ => rfl
  | i + 1, h => by
    rw [jQ, iQ_succ (by omega)]
    unfold stI
    split
    · exact jQ_len (by omega)
    · simp [jQ_len (i := i) (by omega), upR_len]
theorem rankQ (hp : p = 2 ∨ p = 3 ∨ p = 5) (hN : N ≤ 64) (hQ : ∀ q ∈ Q, q.2.2.length = N ∧ Bd p q.2.2) (hi : i ≤ Q.length) :
    InvS p N (sQ p Q i) ∧ InvI p N (iQ p N Q i) ∧ (sQ p Q i).1.length = (iQ p N Q i).1.length ∧ (sQ p Q i).1.length ≤ i := by
  obtain ⟨h1, h2, h3, _, h5⟩ := ranks hp hN ((pvs Q).take i) (fun x hx => by
    obtain ⟨q, hq, rfl⟩ := List.mem_map.1 (List.mem_of_mem_take hx)
    exact hQ q hq)
  refine ⟨h1, h2, h3, Nat.le_trans h5 ?_⟩
  rw [List.length_take]; omega
theorem stS_no {S : SpS} {x : List Int} (h : leadS (lfS p S x) < 0) : stS p S x = S := by unfold stS; rw [if_pos h]
theorem stS_yes {S : SpS} {x : List Int} (h : ¬ leadS (lfS p S x) < 0) : stS p S x = (S.1 ++ [scl p (ivS p S x) (lfS p S x)], S.2.1 ++ [leadS (lfS p S x)], S.2.2 ++ [sclM p (ivS p S x) (mdS p S x) ++ [ivS p S x]]) := by unfold stS; rw [if_neg h]
theorem stI_no {I : ImS} {x : List Int} (h : lI p N I x < 0) : stI p N I x = I := by unfold stI; rw [if_pos h]
theorem stI_yes {I : ImS} {x : List Int} (h : ¬ lI p N I x < 0) : stI p N I x = (upR p N I x ++ [rwI p N I x], upM p N I x ++ [owI p N I x]) := by unfold stI; rw [if_neg h]
end
theorem prime_or {p vars : Int} (h : prime p vars = true) : p = 2 ∨ p = 3 ∨ p = 5 := by
  unfold prime at h
  simp only [Bool.and_eq_true, Bool.or_eq_true, decide_eq_true_eq] at h
  omega
theorem mul_bd2 {a b p : Int} (ha : 0 ≤ a ∧ a ≤ p) (hb : 0 ≤ b ∧ b < p) (hp : p ≤ 5) : 0 ≤ a * b ∧ a * b ≤ 25 := by
  refine ⟨Int.mul_nonneg ha.1 hb.1, ?_⟩
  have h1 : a * b ≤ 5 * b := Int.mul_le_mul_of_nonneg_right (by omega) hb.1
  omega
def mixG (A B : List (List Int)) (i : Nat) : List (List Int) := A.take i ++ B.drop i
theorem mixG_zero (A B : List (List Int)) : mixG A B 0 = B := by simp [mixG]
theorem mixG_length {A B : List (List Int)} {i : Nat} (h : A.length = B.length) : (mixG A B i).length = B.length := by unfold mixG; rw [List.length_append, List.length_take, List.length_drop]; omega
theorem mixG_full {A B : List (List Int)} {i : Nat} (h : A.length = B.length) (hi : B.length ≤ i) : mixG A B i = A := by unfold mixG; rw [List.take_of_length_le (by omega), List.drop_of_length_le hi, List.append_nil]
theorem mixG_get {A B : List (List Int)} {i : Nat} (h : A.length = B.length) (hi : i < B.length) : gl (mixG A B i) i = gl B i := by
  unfold mixG gl
  have h1 : (A.take i).length = i := by rw [List.length_take]; omega
  rw [List.getElem?_append_right (by omega), h1, Nat.sub_self, List.getElem?_drop, Nat.add_zero]
theorem mixG_set {A B : List (List Int)} {i : Nat} (h : A.length = B.length) (hi : i < B.length) : (mixG A B i).set i (gl A i) = mixG A B (i + 1) := by
  unfold mixG
  have h1 : (A.take i).length = i := by rw [List.length_take]; omega
  have h2 : i < A.length := by omega
  rw [List.set_append_right _ _ (by omega), h1, Nat.sub_self, List.drop_eq_getElem_cons hi, List.set_cons_zero, List.take_succ_eq_append_getElem h2, List.append_assoc]
  have : gl A i = A[i] := by unfold gl; rw [List.getElem?_eq_getElem h2]; rfl
  rw [this]; rfl
theorem gl_self {L : List (List Int)} {i : Nat} (h : i < L.length) : L.set i (gl L i) = L := by
  have : gl L i = L[i] := by unfold gl; rw [List.getElem?_eq_getElem h]; rfl
  rw [this, List.set_getElem_self]
theorem mixG_keep {A B : List (List Int)} {i : Nat} (h : A.length = B.length) (hi : i < B.length) (he : gl A i = gl B i) : mixG A B (i + 1) = mixG A B i := by
  rw [← mixG_set h hi, he, ← mixG_get h hi, gl_self (by rw [mixG_length h]; exact hi)]
theorem sls_setN {L : List (List Int)} {i n : Nat} {c : List Int} (h : c.length = n) : (sls L).set i (.sl (icells c) n) = sls (L.set i c) := by subst h; simp [sls, List.map_set]
theorem sls_getN {L : List (List Int)} {i n : Nat} {c : List Int} (hi : i < L.length) (hc : gl L i = c) (h : c.length = n) : (sls L)[i]? = some (.sl (icells c) n) := by subst h; subst hc; exact sls_get hi
theorem osls_getN {L : List (List Int)} {i n : Nat} {c : List Int} (hi : i < L.length) (hc : gl L i = c) (h : c.length = n) : (osls L)[i]? = some (.osl 1 (icells c) n none) := by subst h; subst hc; exact osls_get hi
theorem osls_setN {L : List (List Int)} {i n : Nat} {c : List Int} (h : c.length = n) : (osls L).set i (.osl 1 (icells c) n none) = osls (L.set i c) := by subst h; exact osls_set L i c
theorem gl_set_eq {L : List (List Int)} {i : Nat} {c : List Int} (h : i < L.length) : gl (L.set i c) i = c := by unfold gl; rw [List.getElem?_set_self h]; rfl
theorem snoc_set {A : List Int} {n : Nat} {x y : Int} (h : A.length = n) : (A ++ [x]).set n y = A ++ [y] := by
  subst h; rw [List.set_append_right _ _ (Nat.le_refl _), Nat.sub_self]; rfl
theorem mix_zero {A : List Int} {n : Nat} (h : A.length = n) : mixL (A ++ [0]) (List.replicate (n + 1) 0) n = A ++ [0] := by
  have hl : (A ++ [(0 : Int)]).length = (List.replicate (n + 1) (0 : Int)).length := by simp [h]
  refine gd_ext (by rw [mixL_length hl, hl]) fun j hj => ?_
  rw [gd_mixL hl, gd_rep]
  split
  · rfl
  · rw [gd_snoc, if_neg (by omega)]; split <;> rfl
theorem icells_axp {p c : Int} {A B L : List Int} {k : Nat} (hL : L = axp p c A B) (hk : k < A.length) : (icells (mixL L A k)).set (k * 1) (.int .i64 ((gd A k + c * gd B k) % p)) = icells (mixL L A (k + 1)) := by
  subst hL
  rw [Nat.mul_one, icells_set, ← gd_axp hk, mixL_set (axp_length _ _ _ _) hk]
end Go.Av
namespace Go.Av
open Go
def rkS (p vars : Int) (L : List (List Int)) (d : Nat) : Nat := (sQ p (prL p vars L d L.length) (prL p vars L d L.length).length).1.length
theorem rk_same {p vars : Int} {L : List (List Int)} {d : Nat} (hp : prime p vars = true) : (jQ p (dn vars) (prL p vars L d L.length) (prL p vars L d L.length).length).length = rkS p vars L d := by
  have hpp := prime_spec hp
  rw [jQ_len (Nat.le_refl _)]
  exact (rankQ (prime_or hp) (dn_le hpp.2).2 (fun q hq => prL_mem (by omega) hq) (Nat.le_refl _)).2.2.1.symm
end Go.Av
