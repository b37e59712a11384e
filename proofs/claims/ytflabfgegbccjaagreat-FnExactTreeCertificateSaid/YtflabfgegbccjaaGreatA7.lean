/- Lemmas, part 7. -/
import Derived.Test.YtflabfgegbccjaaGreatA6
import Derived.Test.YtflabfgegbccjaaGreatRows
set_option linter.unusedVariables false
set_option linter.unusedSimpArgs false
set_option maxRecDepth 10000
namespace Go.Av
open Go Go.Proofs Go.Sort
theorem hb127 : hasBody Tryz.prog 127 = true := by kernel_rfl
theorem hb151 : hasBody Tryz.prog 151 = true := by kernel_rfl
theorem hb72 : hasBody Tryz.prog 72 = true := by kernel_rfl
theorem hb86 : hasBody Tryz.prog 86 = true := by kernel_rfl
theorem ta44 : tyAgg Tryz.prog 44 = some (false, 1) := by kernel_rfl
theorem upTo_c (n : Nat) (h : n ≤ 1048576) : ACall Tryz.prog 127 [.int .i64 ((n : Nat) : Int)] [] (.osl 1 (icells (upT n)) (upT n).length none) [] := by
  refine ACall.intro Tryz.func127 rfl (N := 15) rfl (by decide) (by simp) ?_
  refine aq ?_
  refine ra .nils ?_
  refine r_nil ?_
  refine aq ?_
  refine ra .nils ?_
  refine r_nil ?_
  refine a_seq ?_
  refine aq ?_
  refine ra (.int _ _) ?_
  refine r_nil ?_
  refine a_block ?_
  refine a_pre (ent_nil (t := 3) (sz := 1) (cap := none) (.inl rfl) (fun _ h => by cases h)) ?_
  refine a_loop (X := Nat) (fun i => look [(0, .int .i64 ((n : Nat) : Int)), (3, .osl 1 (icells (upT i)) (upT i).length none), (4, .int .i64 (((i : Nat) : Int) + 1))]) (fun i => i ≤ n) (fun i => n - i) 0 (ent_look ⟨wr, Weak.osl rfl rfl, Weak.of_eq (int_eq (by omega)), trivial⟩) (Nat.zero_le _) (fun i hG => ?_)
  refine a_seq ?_
  refine aq ?_
  refine rm (.int _ _) ?_
  refine rm (.int _ _) ?_
  refine rv (v := .bool _) (v_leq il il) ?_
  refine r_nil ?_
  refine a_cond rfl (fun ht7 => ?_) (fun ht7 => ?_)
  ·
    refine a_skip ?_
    refine a_seq ?_
    refine a_block ?_
    refine a_region ?_
    refine rm (.rsl _ _ _ _ _) ?_
    refine rm (.int _ _) ?_
    refine rn (v := .osl _ _ _ _) (q_sliceLit (n := 1) (parts := [(0, .tmp 11)]) lt25 rfl rfl rfl rfl) ?_
    refine r_pre (ent_reloc_sl (t := 10) rfl rfl) ?_
    refine r_step rfl (o_append rfl ap25 rfl (by decide) (by decide) rfl (src_lit (.inl rfl) rfl rfl rfl) rfl (by rw [icells_length, Nat.mul_one]) (by rw [upT_len]; simp at ht7; omega)) ?_
    refine ra (.rsl _ _ _ _ _) ?_
    refine r_pre (ent_reloc_sl (t := 3) rfl rfl) ?_
    refine r_nil ?_
    refine a_region ?_
    refine rm (.int _ _) ?_
    refine rv (v := .int _ _) (v_add il il (fun _ => by simp at ht7; omega)) ?_
    refine ra (.int _ _) ?_
    refine r_nil ?_
    refine ⟨i + 1, ent_look ⟨wr, Weak.osl (by rw [upT_succ, icells_append]; rfl) (by rw [upT_len, upT_len]), Weak.of_eq (int_eq (by omega)), trivial⟩, (by simp at ht7; omega), (by simp at ht7; omega)⟩
  ·
    refine a_exit ?_
    refine aq ?_
    refine rm (.rsl _ _ _ _ _) ?_
    refine ra (.rsl _ _ _ _ _) ?_
    refine r_pre (ent_reloc_sl (t := 2) rfl rfl) ?_
    refine r_nil ?_
    refine a_ret ?_
    refine ret1 Tryz.results127 (by decide) (by decide) (Weak.osl ?_ ?_) rfl Leaves.nil
    · simp at ht7; rw [show i = n by omega]
    · simp at ht7; rw [show i = n by omega]
theorem badL1_c (vars : Int) (L : List (List Int)) (xs : List TN) (P : List (List Int)) (i : Nat) (v : Int) (he : v = i + 1) (hi : i < xs.length) (hxl : xs.length ≤ 199) (hcl : ∀ j, j < L.length → clB vars (gl L j) = true) (hall : allN vars L.length xs = true) (hpok : PathsOk vars xs P) : ACall Tryz.prog 151 [.int .i64 v, .pp [.sl (tncells xs) xs.length] 0, .pp [.int .i64 vars, .sl (sls L) L.length] 0, .pp [.sl (sls P) P.length] 0] [] (.bool (badB L xs P i)) [] := by
  have hpl := hpok.1
  have hpc := clB_len (hpok.2 i)
  have hvi : (v - 1).toNat = i := (by omega)
  refine ACall.intro Tryz.func151 rfl (N := 30) rfl (by decide) (by simp) ?_
  refine aq ?_
  refine ra (.bool _) ?_
  refine r_nil ?_
  refine aq ?_
  refine rv (v := .sl _ _) (v_load_pp ta44 il (fun _ => rfl) rfl) ?_
  refine rm (.int _ _) ?_
  refine rv (v := .int _ _) (v_sub il il (fun _ => by omega)) ?_
  refine rv (v := .pp _ _) (v_indexAddr_sl es44 il il (fun _ => ⟨by omega, by omega, tn_ne hi⟩)) ?_
  refine rv (v := .agg [.int .i64 (gn xs i).1, .int .i64 (gn xs i).2.1, .int .i64 (gn xs i).2.2.1, .int .i64 (gn xs i).2.2.2]) (v_load_ppa1 ta75 il rfl (fun _ => by rw [hvi]; exact tn_four hi) rfl) ?_
  refine rn (v := .op [.int _ _, .int _ _, .int _ _, .int _ _]) (q_alloc zc75) ?_
  refine r_step rfl (o_store (v := .agg [.int _ _, .int _ _, .int _ _, .int _ _]) (y' := .op [.int _ _, .int _ _, .int _ _, .int _ _]) rfl rfl ta75 il il rfl rfl rfl rfl rfl rfl (Nat.le_of_ble_eq_true rfl) (by decide) rfl rfl) ?_
  refine r_nil ?_
  refine a_seq ?_
  refine a_region_any mixed (by kernel_rfl) ?_
  refine yv (v := .rp _ _) (v_fieldAddr_rp fo75_0 il) ?_
  refine yv (v := .int _ _) (v_load_rp1 ta3 il rfl (fun _ => rfl) rfl) ?_
  refine yv (v := .bool _) (v_eql il il) ?_
  refine yv (v := .bool _) (v_move il nf) ?_
  refine yh (v := .pp _ _) (v_fieldAddr_pp fo29_1 il).quiet ?_
  refine yg (v := .sl _ _) (v_load_pp ta22 (.inr ⟨_, rfl, fun h => h⟩) (fun _ => rfl) rfl).quiet rfl rfl rfl (by decide) (.inl ⟨_, rfl, rfl⟩) ?_
  refine yh (v := .rp _ _) (v_fieldAddr_rp fo75_3 il).quiet ?_
  refine yg (v := .int _ _) (v_load_rp1 ta3 (.inr ⟨_, rfl, fun h => h⟩) rfl (fun _ => rfl) rfl).quiet rfl rfl rfl (by decide) (.inl ⟨_, rfl, rfl⟩) ?_
  refine yg (v := .pp _ _) (v_indexAddr_sl es22 (.inr ⟨_, rfl, fun h => h⟩) (.inr ⟨_, rfl, fun h => h⟩) (fun hA => by have hlf := leaf_spec (allN_spec hall i hi) (by simpa [nV] using hA); exact ⟨by omega, by omega, sls_ne (show (gn xs i).2.2.2.toNat < L.length by omega)⟩)).quiet rfl rfl rfl (by decide) (.inl ⟨_, rfl, rfl⟩) ?_
  refine yg (v := .sl (icells (gl L (gn xs i).2.2.2.toNat)) (gl L (gn xs i).2.2.2.toNat).length) (v_load_pp ta25 (.inr ⟨_, rfl, fun h => h⟩) (fun hA => by have hlf := leaf_spec (allN_spec hall i hi) (by simpa [nV] using hA); rw [Nat.mul_one]; exact sls_get (show (gn xs i).2.2.2.toNat < L.length by omega)) rfl).quiet rfl rfl rfl (by decide) (.inl ⟨_, rfl, rfl⟩) ?_
  refine yh (v := .sl _ _) (v_load_pp ta22 il (fun _ => rfl) rfl).quiet ?_
  refine yh (v := .int _ _) (v_move il nf).quiet ?_
  refine yg (v := .int _ _) (v_sub (.inr ⟨_, rfl, fun h => h⟩) il (fun _ => by omega)).quiet rfl rfl rfl (by decide) (.inl ⟨_, rfl, rfl⟩) ?_
  refine yg (v := .pp _ _) (v_indexAddr_sl es22 (.inr ⟨_, rfl, fun h => h⟩) (.inr ⟨_, rfl, fun h => h⟩) (fun _ => ⟨by omega, by omega, sls_ne (show i < P.length by omega)⟩)).quiet rfl rfl rfl (by decide) (.inl ⟨_, rfl, rfl⟩) ?_
  refine yg (v := .sl (icells (gl P i)) (gl P i).length) (v_load_pp ta25 (.inr ⟨_, rfl, fun h => h⟩) (fun _ => by rw [hvi, Nat.mul_one]; exact sls_get (show i < P.length by omega)) rfl).quiet rfl rfl rfl (by decide) (.inl ⟨_, rfl, rfl⟩) ?_
  refine yg (v := .int _ _) (q_call (vs := [.sl _ _, .sl _ _]) (args := [.sl _ _, .sl _ _]) hb86 ⟨.inr ⟨_, rfl, fun h => h⟩, .inr ⟨_, rfl, fun h => h⟩, trivial⟩ rfl (fun hA => iClv_c (gl L (gn xs i).2.2.2.toNat) (gl P i) (clB_sm (hcl _ (by have hlf := leaf_spec (allN_spec hall i hi) (by simpa [nV] using hA); omega))) (by have hlf := leaf_spec (allN_spec hall i hi) (by simpa [nV] using hA); have := clB_len (hcl (gn xs i).2.2.2.toNat (by omega)); omega) (by omega)) rfl rfl) rfl rfl rfl (by decide) (.inl ⟨_, rfl, rfl⟩) ?_
  refine yg (v := .bool _) (v_geq (.inr ⟨_, rfl, fun h => h⟩) il).quiet rfl rfl rfl (by decide) (.inl ⟨_, rfl, rfl⟩) ?_
  refine yv (v := .bool _) (v_pick (.inl rfl) (.inr ⟨_, rfl, fun h h2 => by simp_all⟩) (.inl rfl)) ?_
  refine yv (v := .bool _) (v_assign il nf) ?_
  refine y_nil ?_
  refine a_ret ?_
  refine ret1 Tryz.results151 (by decide) (by decide) (Weak.of_eq (bool_eq ?_)) rfl Leaves.nil
  unfold badB nV; cases h1 : decide ((gn xs i).1 = 0) <;> simp
theorem badLeaf_c (vars : Int) (L : List (List Int)) (xs : List TN) (hcf : cnfB vars L = true) (hrg : 0 < xs.length ∧ xs.length ≤ 199) (hall : allN vars L.length xs = true) (hsm : (trI xs 0).isSome = true) : ACall Tryz.prog 136 [.agg [.int .i64 vars, .sl (sls L) L.length], .sl (tncells xs) xs.length] [] (.int .i64 (badI L xs (pthL xs))) [] := by
  have hbB := hb151
  have hpok : PathsOk vars xs (pthL xs) := tr_ok (cnfB_spec hcf).1 hall hsm
  have hpn := hpok.1
  have hcp : capOk [.pp [.sl (tncells xs) xs.length] 0, .pp [.int .i64 vars, .sl (sls L) L.length] 0, .pp [.sl (sls (pthL xs)) (pthL xs).length] 0] = true := (by simp [capOk, pureL, pureV, noNilL, noNil, scalarL, scalar, tn_pure, sls_pure])
  refine ACall.intro Tryz.func136 rfl (N := 17) rfl (by decide) (by simp) ?_
  refine aq ?_
  refine rn (v := .op [.int _ _, .sl _ _]) (q_box il rfl rfl) ?_
  refine rn (v := .op [.sl _ _]) (q_box il rfl rfl) ?_
  refine ra (.int _ _) ?_
  refine r_nil ?_
  refine aq ?_
  refine rv (v := .sl _ _) (v_load_rp1 ta44 il rfl (fun _ => rfl) rfl) ?_
  refine rn (v := .tup [.sl _ _, .bool _]) (QSem.cast (q_callFZ (vs := [.sl _ _]) (args := [.sl _ _]) hb56 ⟨il, trivial⟩ rfl (fun hA => iPaths_c vars L.length xs (cnfB_spec hcf).1 hrg.1 hrg.2 hall) rfl (by simp [noRef, noRefL, sls_noRef])) (pth_shT)) ?_
  refine rv (v := .tup [.sl _ _, .bool _]) (v_mv rfl) ?_
  refine rv (v := .sl _ _) (v_extract rfl rfl) ?_
  refine rv (v := .bool _) (v_extract rfl rfl) ?_
  refine rn (v := .op [.nils]) (q_alloc zc22) ?_
  refine r_step rfl (o_store (v := .sl _ _) (y' := .op [.sl _ _]) rfl rfl ta22 il il rfl rfl rfl rfl rfl rfl (Nat.le_of_ble_eq_true rfl) (by decide) rfl rfl) ?_
  refine ra (.bool _) ?_
  refine r_nil ?_
  refine aq ?_
  refine rv (v := .sl _ _) (v_load_rp1 ta44 il rfl (fun _ => rfl) rfl) ?_
  refine rv (v := .int _ _) (v_len_sl sl44 il) ?_
  refine rn (v := .osl _ _ _ _) (q_call (vs := [.int _ _]) (args := [.int .i64 _]) hb127 ⟨il, trivial⟩ rfl (fun hA => upTo_c xs.length (by omega)) (ic_noSh _) (ic_noRef _)) ?_
  refine rv (v := .fn _ _ _) (v_makeFunc (first := []) (caps := [.tmp 3, .tmp 2, .tmp 5]) rfl rfl) ?_
  refine rn (v := .int _ _) (q_call (vs := [.rsl _ _ _ _ _, .fn _ _ _]) (args := [.sl _ _, .fn _ _ _]) hb147 ⟨il, il, trivial⟩ (l2_eq (sl_sh (ic_pure _)) rfl) (fun hA => idxI_c 151 [.pp [.sl (tncells xs) xs.length] 0, .pp [.int .i64 vars, .sl (sls L) L.length] 0, .pp [.sl (sls (pthL xs)) (pthL xs).length] 0] hbB hcp (upT xs.length) (badB L xs (pthL xs)) (by rw [upT_len]; omega) (fun i hi => badL1_c vars L xs (pthL xs) i _ (upT_gd (by rw [upT_len] at hi; exact hi)) (by rw [upT_len] at hi; exact hi) hrg.2 (cnfB_spec hcf).2.2 hall hpok)) rfl rfl) ?_
  refine ra (.int _ _) ?_
  refine r_nil ?_
  refine a_ret ?_
  refine ret1 Tryz.results136 (by decide) (by decide) (Weak.of_eq (int_eq ?_)) rfl Leaves.nil
  unfold badI; rw [upT_len]
theorem bad9_c (vars : Int) (L : List (List Int)) (xs : List TN) (P : List (List Int)) (hcf : cnfB vars L = true) (hrg : 0 < xs.length ∧ xs.length ≤ 199) (hall : allN vars L.length xs = true) (hpok : PathsOk vars xs P) : ACall Tryz.prog 99 [.agg [.int .i64 vars, .sl (sls L) L.length], .sl (tncells xs) xs.length, .sl (sls P) P.length] [] (.int .i64 (badI L xs P)) [] := by
  have hcs := cnfB_spec hcf
  have hpl := hpok.1
  refine ACall.intro Tryz.func99 rfl (N := 37) rfl (by decide) (by simp) ?_
  refine aq ?_
  refine rn (v := .op [.int _ _, .sl _ _]) (q_box il rfl rfl) ?_
  refine ra (.int _ _) ?_
  refine r_nil ?_
  refine a_seq ?_
  refine aq ?_
  refine ra (.int _ _) ?_
  refine r_nil ?_
  refine a_block ?_
  refine a_loop (X := Nat) (fun i => look [(1, .sl (tncells xs) xs.length), (2, .sl (sls P) P.length), (3, .op [.int .i64 vars, .sl (sls L) L.length]), (7, .int .i64 ((i : Nat) : Int))]) (fun i => i ≤ xs.length ∧ ∀ j, j < i → badB L xs P j = false) (fun i => xs.length - i) 0 (ent_look ⟨wr, wr, wr, wr, trivial⟩) ⟨Nat.zero_le _, fun j h => by omega⟩ (fun i hG => ?_)
  obtain ⟨g1, g2⟩ := hG
  have hpc := clB_len (hpok.2 i)
  refine a_seq ?_
  refine aq ?_
  refine rm (.int _ _) ?_
  refine rm (.sl _ _) ?_
  refine rv (v := .int _ _) (v_len_sl sl44 il) ?_
  refine rv (v := .bool _) (v_lss il il) ?_
  refine r_nil ?_
  refine a_cond rfl (fun ht11 => ?_) (fun ht11 => ?_)
  ·
    refine a_skip ?_
    refine a_seq ?_
    refine a_block ?_
    refine a_seq ?_
    have hi : i < xs.length := (by simp at ht11; omega)
    refine a_region_any mixed (by kernel_rfl) ?_
    refine yv (v := .sl _ _) (v_move il nf) ?_
    refine yv (v := .int _ _) (v_move il nf) ?_
    refine yv (v := .pp _ _) (v_indexAddr_sl es44 il il (fun _ => ⟨by omega, by omega, tn_ne hi⟩)) ?_
    refine yv (v := .agg [.int .i64 (gn xs i).1, .int .i64 (gn xs i).2.1, .int .i64 (gn xs i).2.2.1, .int .i64 (gn xs i).2.2.2]) (v_load_ppa1 ta75 il rfl (fun _ => tn_four hi) rfl) ?_
    refine y_new (v := .bool _) (q_call (vs := [.agg [.int _ _, .int _ _, .int _ _, .int _ _]]) (args := [.agg [.int .i64 _, .int .i64 _, .int .i64 _, .int .i64 _]]) hb49 ⟨.inl rfl, trivial⟩ rfl (fun hA => leaf_c _) rfl rfl) rfl rfl (by decide) (by kernel_rfl) ?_
    refine yv (v := .bool _) (v_move il nf) ?_
    refine yh (v := .rp _ _) (v_fieldAddr_rp fo29_1 il).quiet ?_
    refine yg (v := .sl _ _) (v_load_rp1 ta22 (.inr ⟨_, rfl, fun h => h⟩) rfl (fun _ => rfl) rfl).quiet rfl rfl rfl (by decide) (.inl ⟨_, rfl, rfl⟩) ?_
    refine yh (v := .sl _ _) (v_move il nf).quiet ?_
    refine yh (v := .int _ _) (v_move il nf).quiet ?_
    refine yg (v := .pp _ _) (v_indexAddr_sl es44 (.inr ⟨_, rfl, fun h => h⟩) (.inr ⟨_, rfl, fun h => h⟩) (fun _ => ⟨by omega, by omega, tn_ne hi⟩)).quiet rfl rfl rfl (by decide) (.inl ⟨_, rfl, rfl⟩) ?_
    refine yg (v := .pp _ _) (v_fieldAddr_pp fo75_3 (.inr ⟨_, rfl, fun h => h⟩)).quiet rfl rfl rfl (by decide) (.inl ⟨_, rfl, rfl⟩) ?_
    refine yg (v := .int .i64 (gn xs i).2.2.2) (v_load_pp ta3 (.inr ⟨_, rfl, fun h => h⟩) (fun _ => by have := tn_at (j := 3) hi (by omega); exact this) rfl).quiet rfl rfl rfl (by decide) (.inl ⟨_, rfl, rfl⟩) ?_
    refine yg (v := .pp _ _) (v_indexAddr_sl es22 (.inr ⟨_, rfl, fun h => h⟩) (.inr ⟨_, rfl, fun h => h⟩) (fun hA => by have hlf := leaf_spec (allN_spec hall i hi) (by simpa [nV] using hA); exact ⟨by omega, by omega, sls_ne (show (gn xs i).2.2.2.toNat < L.length by omega)⟩)).quiet rfl rfl rfl (by decide) (.inl ⟨_, rfl, rfl⟩) ?_
    refine yg (v := .sl (icells (gl L (gn xs i).2.2.2.toNat)) (gl L (gn xs i).2.2.2.toNat).length) (v_load_pp ta25 (.inr ⟨_, rfl, fun h => h⟩) (fun hA => by have hlf := leaf_spec (allN_spec hall i hi) (by simpa [nV] using hA); rw [Nat.mul_one]; exact sls_get (show (gn xs i).2.2.2.toNat < L.length by omega)) rfl).quiet rfl rfl rfl (by decide) (.inl ⟨_, rfl, rfl⟩) ?_
    refine yh (v := .sl _ _) (v_move il nf).quiet ?_
    refine yh (v := .int _ _) (v_move il nf).quiet ?_
    refine yg (v := .pp _ _) (v_indexAddr_sl es22 (.inr ⟨_, rfl, fun h => h⟩) (.inr ⟨_, rfl, fun h => h⟩) (fun _ => ⟨by omega, by omega, sls_ne (show i < P.length by omega)⟩)).quiet rfl rfl rfl (by decide) (.inl ⟨_, rfl, rfl⟩) ?_
    refine yg (v := .sl (icells (gl P i)) (gl P i).length) (v_load_pp ta25 (.inr ⟨_, rfl, fun h => h⟩) (fun _ => by rw [Nat.mul_one]; exact sls_get (show i < P.length by omega)) rfl).quiet rfl rfl rfl (by decide) (.inl ⟨_, rfl, rfl⟩) ?_
    refine yg (v := .int _ _) (q_call (vs := [.sl _ _, .sl _ _]) (args := [.sl _ _, .sl _ _]) hb72 ⟨.inr ⟨_, rfl, fun h => h⟩, .inr ⟨_, rfl, fun h => h⟩, trivial⟩ rfl (fun hA => sClv_c (gl L (gn xs i).2.2.2.toNat) (gl P i) (clB_sm (hcs.2.2 _ (by have hlf := leaf_spec (allN_spec hall i hi) (by simpa [nV] using hA); omega))) (by have hlf := leaf_spec (allN_spec hall i hi) (by simpa [nV] using hA); have := clB_len (hcs.2.2 (gn xs i).2.2.2.toNat (by omega)); omega) (by omega)) rfl rfl) rfl rfl rfl (by decide) (.inl ⟨_, rfl, rfl⟩) ?_
    refine yg (v := .bool _) (v_geq (.inr ⟨_, rfl, fun h => h⟩) il).quiet rfl rfl rfl (by decide) (.inl ⟨_, rfl, rfl⟩) ?_
    refine yv (v := .bool _) (v_pick (.inl rfl) (.inr ⟨_, rfl, fun h h2 => by simp_all⟩) (.inl rfl)) ?_
    refine y_nil ?_
    refine a_cond rfl (fun ht35 => ?_) (fun ht35 => ?_)
    ·
      refine a_seq ?_
      refine a_pre (ent_look (L := [(1, .sl _ _), (2, .sl _ _), (3, .op [.int _ _, .sl _ _]), (7, .int _ _)]) ⟨wr, wr, wr, wr, trivial⟩) ?_
      have hbb : (bif decide ((gn xs i).1 = 0) then decide (cval (gl L (gn xs i).2.2.2.toNat) (gl P i) ≥ 0) else false) = badB L xs P i := (by unfold badB nV; cases h1 : decide ((gn xs i).1 = 0) <;> simp)
      refine a_region ?_
      refine rm (.int _ _) ?_
      refine ra (.int _ _) ?_
      refine r_nil ?_
      refine a_ret ?_
      refine ret1 Tryz.results99 (by decide) (by decide) (Weak.of_eq (int_eq ?_)) rfl Leaves.nil
      exact (fidx_found hi (by rw [← hbb]; exact ht35) g2).symm
    ·
      refine a_skip ?_
      refine a_pre (ent_look (L := [(1, .sl _ _), (2, .sl _ _), (3, .op [.int _ _, .sl _ _]), (7, .int _ _)]) ⟨wr, wr, wr, wr, trivial⟩) ?_
      refine a_region ?_
      refine rm (.int _ _) ?_
      refine rv (v := .int _ _) (v_add il il (fun _ => by omega)) ?_
      refine ra (.int _ _) ?_
      refine r_nil ?_
      have hbb : (bif decide ((gn xs i).1 = 0) then decide (cval (gl L (gn xs i).2.2.2.toNat) (gl P i) ≥ 0) else false) = badB L xs P i := (by unfold badB nV; cases h1 : decide ((gn xs i).1 = 0) <;> simp)
      refine ⟨i + 1, ent_look ⟨wr, wr, wr, Weak.of_eq (int_eq (by omega)), trivial⟩, ⟨by omega, ok_stepF g2 (by rw [← hbb]; exact ht35)⟩, by omega⟩
  ·
    refine a_exit ?_
    refine aq ?_
    refine ra (.int _ _) ?_
    refine r_nil ?_
    refine a_ret ?_
    refine ret1 Tryz.results99 (by decide) (by decide) (Weak.of_eq (int_eq ?_)) rfl Leaves.nil
    simp at ht11; exact (fidx_none (fun j hj => g2 j (by omega))).symm
theorem hb135 : hasBody Tryz.prog 135 = true := by kernel_rfl
theorem hb136 : hasBody Tryz.prog 136 = true := by kernel_rfl
theorem iIst_c (vars : Int) (L : List (List Int)) (xs : List TN) (hk : CnfOk vars L) (hl : xs.length ≤ 1048576) : ACall Tryz.prog 106 [.agg [.int .i64 vars, .sl (sls L) L.length], .sl (tncells xs) xs.length] [] (.tup [.bool ((treeB vars L xs) && decide ((badI L xs (pthL xs)) < 0)), .bool (treeB vars L xs)]) [] := by
 refine ACall.intro Tryz.func106 rfl (N := 14) rfl (by decide) (by simp) ?_
 refine aq ?_
 refine rn (v := .op [.int _ _, .sl _ _]) (q_box il rfl rfl) ?_
 refine ra (.bool _) ?_
 refine ra (.bool _) ?_
 refine r_nil ?_
 refine a_seq ?_
 refine aq ?_
 refine rv (v := .agg [.int _ _, .sl _ _]) (v_load_rpa1 ta29 il rfl rfl (fun _ => rfl) rfl) ?_
 refine rm (.sl _ _) ?_
 refine rn (v := .bool _) (q_call (vs := [.agg [.int _ _, .sl _ _], .sl _ _]) (args := [.agg [.int .i64 _, .sl _ _], .sl _ _]) hb135 ⟨il, il, trivial⟩ rfl (fun hA => isTree_c vars L xs hk hl) rfl rfl) ?_
 refine rv (v := .bool _) (v_not il) ?_
 refine r_nil ?_
 refine a_cond rfl (fun ht9 => ?_) (fun ht9 => ?_)
 ·
  refine a_seq ?_
  have htn : (treeB vars L xs) = false := (by simpa using ht9)
  refine a_region ?_
  refine ra (.bool _) ?_
  refine ra (.bool _) ?_
  refine r_nil ?_
  refine a_ret ?_
  refine retL (rs := [.tmp 4, .tmp 5]) [(4, _), (5, _)] ⟨wr, wr, trivial⟩ rfl Tryz.results106 (by decide) ⟨by decide, by decide, rfl⟩ (by decide) (by decide) (l2_eq (bool_eq ?_) (bool_eq ?_)) rfl
  all_goals (first | exact htn.symm | (rw [htn]; rfl))
 ·
  refine a_skip ?_
  refine a_seq ?_
  have hty : (treeB vars L xs) = true := (by simpa using ht9)
  obtain ⟨hcf, hrg, hall, hsm⟩ := treeB_spec hty
  have hpok := pth_ok hty
  refine a_region ?_
  refine rv (v := .agg [.int _ _, .sl _ _]) (v_load_rpa1 ta29 il rfl rfl (fun _ => rfl) rfl) ?_
  refine rm (.sl _ _) ?_
  refine rn (v := .int _ _) (q_call (vs := [.agg [.int _ _, .sl _ _], .sl _ _]) (args := [.agg [.int .i64 _, .sl _ _], .sl _ _]) hb136 ⟨il, il, trivial⟩ rfl (fun hA => badLeaf_c vars L xs hcf hrg hall hsm) rfl rfl) ?_
  refine rv (v := .bool _) (v_lss il il) ?_
  refine ra (.bool _) ?_
  refine ra (.bool _) ?_
  refine r_nil ?_
  refine a_ret ?_
  refine retL (rs := [.tmp 4, .tmp 5]) [(4, _), (5, _)] ⟨wr, wr, trivial⟩ rfl Tryz.results106 (by decide) ⟨by decide, by decide, rfl⟩ (by decide) (by decide) (l2_eq (bool_eq ?_) (bool_eq ?_)) rfl
  all_goals (first | exact hty.symm | (rw [hty]; rfl))
theorem hb106 : hasBody Tryz.prog 106 = true := by kernel_rfl
theorem hb98 : hasBody Tryz.prog 98 = true := by kernel_rfl
theorem hb99 : hasBody Tryz.prog 99 = true := by kernel_rfl
theorem search9_c (vars : Int) (L : List (List Int)) (xs : List TN) (hk : CnfOk vars L) (hl : xs.length ≤ 1048576) : ACall Tryz.prog 48 [.agg [.int .i64 vars, .sl (sls L) L.length], .sl (tncells xs) xs.length] [] (.tup [.osl 1 (sls (pthT vars L xs)) (pthT vars L xs).length none, .bool ((treeB vars L xs) && decide ((badI L xs (pthL xs)) < 0))]) [] := by
 refine ACall.intro Tryz.func48 rfl (N := 23) rfl (by decide) (by simp) ?_
 refine aq ?_
 refine rn (v := .op [.int _ _, .sl _ _]) (q_box il rfl rfl) ?_
 refine ra .nils ?_
 refine ra (.bool _) ?_
 refine r_nil ?_
 refine aq ?_
 refine rv (v := .agg [.int _ _, .sl _ _]) (v_load_rpa1 ta29 il rfl rfl (fun _ => rfl) rfl) ?_
 refine rm (.sl _ _) ?_
 refine rn (v := .tup [.osl _ _ _ _, .bool _]) (q_callF (vs := [.agg [.int _ _, .sl _ _], .sl _ _]) (args := [.agg [.int .i64 _, .sl _ _], .sl _ _]) hb98 ⟨il, il, trivial⟩ rfl (fun hA => paths9_c vars L xs hk hl) rfl (by simp [noRef, noRefL, sls_noRef])) ?_
 refine rv (v := .tup [.rsl _ _ _ _ _, .bool _]) (v_mv rfl) ?_
 refine rv (v := .rsl _ _ _ _ _) (v_extract rfl rfl) ?_
 refine rv (v := .bool _) (v_extract rfl rfl) ?_
 refine ra (.rsl _ _ _ _ _) ?_
 refine r_pre (ent_reloc_sl (t := 6) rfl rfl) ?_
 refine ra (.bool _) ?_
 refine r_nil ?_
 refine aq ?_
 refine rm (.rsl _ _ _ _ _) ?_
 refine rm (.bool _) ?_
 refine rm (.bool _) ?_
 refine rg (v := .agg [.int _ _, .sl _ _]) (v_load_rpa1 ta29 il rfl rfl (fun _ => rfl) rfl) ?_
 refine rg (v := .sl _ _) (v_move il nf) ?_
 refine rg (v := .rsl _ _ _ _ _) (v_move il nf) ?_
 refine r_guard (v := .int _ _) (q_call (vs := [.agg [.int _ _, .sl _ _], .sl _ _, .rsl _ _ _ _ _]) (args := [.agg [.int .i64 _, .sl _ _], .sl _ _, .sl _ _]) hb99 ⟨.inr ⟨_, rfl, fun h => h⟩, .inr ⟨_, rfl, fun h => h⟩, .inr ⟨_, rfl, fun h => h⟩, trivial⟩ (l3_eq rfl rfl (sl_sh (sls_pure _))) (fun hA => bad9_c vars L xs (pthT vars L xs) (treeB_spec (by simpa using hA : (treeB vars L xs) = true)).1 (treeB_spec (by simpa using hA : (treeB vars L xs) = true)).2.1 (treeB_spec (by simpa using hA : (treeB vars L xs) = true)).2.2.1 (by rw [pthT_yes (by simpa using hA : (treeB vars L xs) = true)]; exact pth_ok (by simpa using hA : (treeB vars L xs) = true))) rfl rfl) rfl rfl rfl (by decide) (.inl ⟨_, rfl, rfl⟩) rfl (by decide) ?_
 refine r_gval (v := .bool _) (v_lss (.inr ⟨_, rfl, fun h => h⟩) il) rfl rfl rfl (by decide) (.inl ⟨_, rfl, rfl⟩) rfl (by decide) ?_
 refine rv (v := .bool _) (v_pick (.inl rfl) (.inr ⟨_, rfl, fun h h2 => by simp_all⟩) (.inl rfl)) ?_
 refine ra (.rsl _ _ _ _ _) ?_
 refine r_pre (ent_reloc_sl (t := 4) rfl rfl) ?_
 refine ra (.bool _) ?_
 refine r_nil ?_
 refine a_ret ?_
 refine retL (rs := [.tmp 4, .tmp 5]) [(4, .osl _ _ _ none), (5, _)] ⟨Weak.osl rfl rfl, wr, trivial⟩ rfl Tryz.results48 (by decide) ⟨by decide, by decide, rfl⟩ (by decide) (by decide) (l2_eq (osl_eq2 ?_ ?_) (bool_eq ?_)) rfl
 all_goals (first | rfl | (cases h1 : (treeB vars L xs) with
   | false => rfl
   | true => rw [pthT_yes h1]; rfl))
theorem stree_c (vars : Int) (L : List (List Int)) (xs : List TN) (hk : CnfOk vars L) (hl : xs.length ≤ 1048576) : ACall Tryz.prog 55 [.agg [.int .i64 vars, .sl (sls L) L.length], .sl (tncells xs) xs.length] [] (.bool ((treeB vars L xs) && decide ((badI L xs (pthL xs)) < 0))) [] := by
 refine ACall.intro Tryz.func55 rfl (N := 14) rfl (by decide) (by simp) ?_
 refine aq ?_
 refine rn (v := .op [.int _ _, .sl _ _]) (q_box il rfl rfl) ?_
 refine ra (.bool _) ?_
 refine r_nil ?_
 refine aq ?_
 refine rv (v := .agg [.int _ _, .sl _ _]) (v_load_rpa1 ta29 il rfl rfl (fun _ => rfl) rfl) ?_
 refine rm (.sl _ _) ?_
 refine rn (v := .tup [.bool _, .bool _]) (q_call (vs := [.agg [.int _ _, .sl _ _], .sl _ _]) (args := [.agg [.int .i64 _, .sl _ _], .sl _ _]) hb106 ⟨il, il, trivial⟩ rfl (fun hA => iIst_c vars L xs hk hl) rfl rfl) ?_
 refine rv (v := .tup [.bool _, .bool _]) (v_mv rfl) ?_
 refine rv (v := .bool _) (v_extract rfl rfl) ?_
 refine rv (v := .bool _) (v_extract rfl rfl) ?_
 refine ra (.bool _) ?_
 refine ra (.bool _) ?_
 refine r_nil ?_
 refine aq ?_
 refine rm (.bool _) ?_
 refine ra (.bool _) ?_
 refine r_nil ?_
 refine a_ret ?_
 refine ret1 Tryz.results55 (by decide) (by decide) (Weak.of_eq (bool_eq ?_)) rfl Leaves.nil
 rfl
theorem ap41 : appTy Tryz.prog 41 = some (1, 24) := by kernel_rfl
theorem es86 : elemSize Tryz.prog 86 = some 1 := by kernel_rfl
theorem fo92_0 : fieldOff Tryz.prog 92 0 = some 0 := by kernel_rfl
theorem hb54 : hasBody Tryz.prog 54 = true := by kernel_rfl
theorem hb55 : hasBody Tryz.prog 55 = true := by kernel_rfl
theorem hb63 : hasBody Tryz.prog 63 = true := by kernel_rfl
theorem lt41 : litTy Tryz.prog 41 = some (1, [.nils]) := by kernel_rfl
theorem sb87 : (Tryz.prog.info? 87).map (fun i => (i.size, i.bytes)) = some (1, 24) := by kernel_rfl
theorem sl86 : isSlice Tryz.prog 86 = true := by kernel_rfl
theorem ta87 : tyAgg Tryz.prog 87 = some (false, 1) := by kernel_rfl
theorem us86 : Tryz.prog.underlying 86 = some (.slice 87) := by kernel_rfl
theorem zc87 : zeroCells Tryz.prog 87 = some [.nils] := by kernel_rfl
theorem iCt_c (p vars : Int) (L : List (List Int)) (xs : List TN) (hk : CnfOk vars L) (hl : xs.length ≤ 1048576) : ACall Tryz.prog 20 [.int .i64 p, .agg [.int .i64 vars, .sl (sls L) L.length], .sl (tncells xs) xs.length] [] (.tup [.osl 1 (oacl (ctR p vars L xs)) (ctR p vars L xs).length none, .bool (ctB p vars L xs)]) [] := by
 refine ACall.intro Tryz.func20 rfl (N := 135) rfl (by decide) (by simp) ?_
 refine aq ?_
 refine rn (v := .op [.int _ _, .sl _ _]) (q_box il rfl rfl) ?_
 refine ra .nils ?_
 refine ra (.bool _) ?_
 refine r_nil ?_
 refine a_seq ?_
 cases ha : aOk p vars L
 ·
  refine a_region ?_
  refine rm (.int _ _) ?_
  refine rv (v := .agg [.int _ _, .sl _ _]) (v_load_rpa1 ta29 il rfl rfl (fun _ => rfl) rfl) ?_
  refine rn (v := .tup [.nilp, .bool _]) (q_call (vs := [.int _ _, .agg [.int _ _, .sl _ _]]) (args := [.int .i64 _, .agg [.int .i64 _, .sl _ _]]) hb54 ⟨il, il, trivial⟩ rfl (fun hA => algNo_c p vars L hk ha) rfl rfl) ?_
  refine rv (v := .tup [.nilp, .bool _]) (v_mv rfl) ?_
  refine rv (v := .nilp) (v_extract rfl rfl) ?_
  refine rv (v := .bool _) (v_extract rfl rfl) ?_
  refine ra .nilp ?_
  refine ra (.bool _) ?_
  refine r_nil ?_
  refine a_seq ?_
  refine aq ?_
  refine rm (.bool _) ?_
  refine rv (v := .bool _) (v_not il) ?_
  refine rm (.bool _) ?_
  refine rg (v := .agg [.int _ _, .sl _ _]) (v_load_rpa1 ta29 il rfl rfl (fun _ => rfl) rfl) ?_
  refine rg (v := .sl _ _) (v_move il nf) ?_
  refine r_guard (v := .bool _) (q_call (vs := [.agg [.int _ _, .sl _ _], .sl _ _]) (args := [.agg [.int .i64 _, .sl _ _], .sl _ _]) hb55 ⟨.inr ⟨_, rfl, fun h => h⟩, .inr ⟨_, rfl, fun h => h⟩, trivial⟩ rfl (fun hA => stree_c vars L xs hk hl) rfl rfl) rfl rfl rfl (by decide) (.inl ⟨_, rfl, rfl⟩) rfl (by decide) ?_
  refine r_gval (v := .bool _) (v_not (.inr ⟨_, rfl, fun h => h⟩)) rfl rfl rfl (by decide) (.inl ⟨_, rfl, rfl⟩) rfl (by decide) ?_
  refine rv (v := .bool _) (v_pick (.inl rfl) (.inl rfl) (.inr ⟨_, rfl, fun h h2 => by simp_all⟩)) ?_
  refine r_nil ?_
  refine a_cond rfl (fun ht35 => ?_) (fun ht35 => ?_)
  ·
   refine a_seq ?_
   have hno : (ctB p vars L xs) = false := (by unfold ctB; cases h1 : aOk p vars L <;> cases h2 : ((treeB vars L xs) && decide ((badI L xs (pthL xs)) < 0)) <;> simp_all)
   refine a_region ?_
   refine ra .nils ?_
   refine ra (.bool _) ?_
   refine r_nil ?_
   refine a_pre (ent_nil (t := 6) (sz := 1) (cap := none) (.inl rfl) (fun _ h => by cases h)) ?_
   refine a_ret ?_
   refine retL (rs := [.tmp 6, .tmp 7]) [(6, .osl _ _ _ none), (7, _)] ⟨Weak.osl rfl rfl, wr, trivial⟩ rfl Tryz.results20 (by decide) ⟨by decide, by decide, rfl⟩ (by decide) (by decide) (l2_eq (osl_eq2 ?_ ?_) (bool_eq ?_)) rfl
   all_goals (first | exact hno.symm | (rw [ct_no hno]; rfl) | (rw [hno]; rfl))
  ·
   refine a_skip ?_
   refine a_seq ?_
   exfalso
   simp at ht35
 ·
  refine a_region ?_
  refine rm (.int _ _) ?_
  refine rv (v := .agg [.int _ _, .sl _ _]) (v_load_rpa1 ta29 il rfl rfl (fun _ => rfl) rfl) ?_
  refine rn (v := .tup [.pp _ _, .bool _]) (QSem.cast (q_callFZ (vs := [.int _ _, .agg [.int _ _, .sl _ _]]) (args := [.int .i64 _, .agg [.int .i64 _, .sl _ _]]) hb54 ⟨il, il, trivial⟩ rfl (fun hA => algOk_c p vars L hk ha) rfl (by simp [noRef, noRefL, osls_noRef, sls_noRef])) (alg_shT p vars L)) ?_
  refine rv (v := .tup [.pp _ _, .bool _]) (v_mv rfl) ?_
  refine rv (v := .pp _ _) (v_extract rfl rfl) ?_
  refine rv (v := .bool _) (v_extract rfl rfl) ?_
  refine ra (.pp _ _) ?_
  refine ra (.bool _) ?_
  refine r_nil ?_
  refine a_seq ?_
  refine aq ?_
  refine rm (.bool _) ?_
  refine rv (v := .bool _) (v_not il) ?_
  refine rm (.bool _) ?_
  refine rg (v := .agg [.int _ _, .sl _ _]) (v_load_rpa1 ta29 il rfl rfl (fun _ => rfl) rfl) ?_
  refine rg (v := .sl _ _) (v_move il nf) ?_
  refine r_guard (v := .bool _) (q_call (vs := [.agg [.int _ _, .sl _ _], .sl _ _]) (args := [.agg [.int .i64 _, .sl _ _], .sl _ _]) hb55 ⟨.inr ⟨_, rfl, fun h => h⟩, .inr ⟨_, rfl, fun h => h⟩, trivial⟩ rfl (fun hA => stree_c vars L xs hk hl) rfl rfl) rfl rfl rfl (by decide) (.inl ⟨_, rfl, rfl⟩) rfl (by decide) ?_
  refine r_gval (v := .bool _) (v_not (.inr ⟨_, rfl, fun h => h⟩)) rfl rfl rfl (by decide) (.inl ⟨_, rfl, rfl⟩) rfl (by decide) ?_
  refine rv (v := .bool _) (v_pick (.inl rfl) (.inl rfl) (.inr ⟨_, rfl, fun h h2 => by simp_all⟩)) ?_
  refine r_nil ?_
  refine a_cond rfl (fun ht35 => ?_) (fun ht35 => ?_)
  ·
   refine a_seq ?_
   have hno : (ctB p vars L xs) = false := (by unfold ctB; cases h1 : aOk p vars L <;> cases h2 : ((treeB vars L xs) && decide ((badI L xs (pthL xs)) < 0)) <;> simp_all)
   refine a_region ?_
   refine ra .nils ?_
   refine ra (.bool _) ?_
   refine r_nil ?_
   refine a_pre (ent_nil (t := 6) (sz := 1) (cap := none) (.inl rfl) (fun _ h => by cases h)) ?_
   refine a_ret ?_
   refine retL (rs := [.tmp 6, .tmp 7]) [(6, .osl _ _ _ none), (7, _)] ⟨Weak.osl rfl rfl, wr, trivial⟩ rfl Tryz.results20 (by decide) ⟨by decide, by decide, rfl⟩ (by decide) (by decide) (l2_eq (osl_eq2 ?_ ?_) (bool_eq ?_)) rfl
   all_goals (first | exact hno.symm | (rw [ct_no hno]; rfl) | (rw [hno]; rfl))
  ·
   refine a_skip ?_
   refine a_seq ?_
   have hst : ((treeB vars L xs) && decide ((badI L xs (pthL xs)) < 0)) = true := (by cases h2 : ((treeB vars L xs) && decide ((badI L xs (pthL xs)) < 0)) <;> simp_all)
   have hty : (treeB vars L xs) = true := (by simp at hst; exact hst.1)
   obtain ⟨hcf, hrg, hall, hsm⟩ := treeB_spec hty
   have hpok := pth_ok hty
   have hpl := hpok.1
   have hok : (ctB p vars L xs) = true := (by unfold ctB; rw [ha, hst]; rfl)
   obtain ⟨hp, hc⟩ := aOk_spec ha
   have hpp := prime_spec hp
   have hcs := cnfB_spec hc
   have hd := dn_le hpp.2
   have hdn64 := hd.2
   have hw := pow6 hpp.2
   refine a_region ?_
   refine rm (.sl _ _) ?_
   refine rn (v := .tup [.sl _ _, .bool _]) (QSem.cast (q_callFZ (vs := [.sl _ _]) (args := [.sl _ _]) hb56 ⟨il, trivial⟩ rfl (fun hA => iPaths_c vars L.length xs (cnfB_spec hcf).1 hrg.1 hrg.2 hall) rfl (by simp [noRef, noRefL, sls_noRef])) (pth_shT)) ?_
   refine rv (v := .tup [.sl _ _, .bool _]) (v_mv rfl) ?_
   refine rv (v := .sl _ _) (v_extract rfl rfl) ?_
   refine rv (v := .bool _) (v_extract rfl rfl) ?_
   refine ra (.sl _ _) ?_
   refine ra (.bool _) ?_
   refine r_nil ?_
   refine a_seq ?_
   refine a_pre (ent_look (L := [(2, .sl _ _), (4, .op [.int _ _, .sl _ _]), (6, .nils), (7, .bool _), (8, .pp _ _), (10, .sl _ _)]) ⟨wr, wr, wr, wr, wr, wr, trivial⟩) ?_
   refine a_region ?_
   refine rv (v := .rp _ _) (v_fieldAddr_rp fo29_1 il) ?_
   refine rv (v := .sl _ _) (v_load_rp1 ta22 il rfl (fun _ => rfl) rfl) ?_
   refine rv (v := .int _ _) (v_len_sl sl22 il) ?_
   refine rn (v := .osl _ _ _ _) (q_makeSlice us86 sb87 zc87 rfl (by decide) il il (fun _ => by omega)) ?_
   refine r_pre (ent_eq (t := 44) (v' := .osl 1 (sls (List.replicate L.length [])) L.length none) weak_rows) ?_
   refine ra (.rsl _ _ _ _ _) ?_
   refine r_pre (ent_reloc_sl (t := 12) rfl rfl) ?_
   refine r_nil ?_
   refine a_seq ?_
   refine aq ?_
   refine rm (.rsl _ _ _ _ _) ?_
   refine rv (v := .int _ _) (v_len_rsl sl86 il) ?_
   refine rm (.int _ _) ?_
   refine r_nil ?_
   refine a_block ?_
   refine a_loop (X := Nat) (fun i => look [(2, .sl (tncells xs) xs.length), (4, .op [.int .i64 vars, .sl (sls L) L.length]), (8, .pp [.int .i64 p, .int .i64 vars, .int .i64 vars, .sl (sls L) L.length, .sl (sls (qL p vars L)) L.length] 0), (10, .sl (sls (pthL xs)) (pthL xs).length), (12, .osl 1 (sls (zP vars L.length i)) L.length none), (45, .rsl (12, []) 1 0 L.length none), (46, .int .i64 ((L.length : Nat) : Int)), (47, .int .i64 ((i : Nat) : Int))]) (fun i => i ≤ L.length) (fun i => L.length - i) 0 (ent_look ⟨wr, wr, wr, wr, Weak.osl (by rw [zP_zero]) rfl, wr, wr, wr, trivial⟩) (Nat.zero_le _) (fun i hG => ?_)
   refine aq ?_
   refine rv (v := .bool _) (v_lss il il) ?_
   refine r_nil ?_
   refine a_seq ?_
   refine a_cond rfl (fun ht48 => ?_) (fun ht48 => ?_)
   ·
    refine a_skip ?_
    refine a_seq ?_
    refine a_block ?_
    refine aq ?_
    refine rm (.int _ _) ?_
    refine ra (.int _ _) ?_
    refine r_nil ?_
    have hi : i < L.length := (by simp at ht48; omega)
    have hzl := zP_len (vars := vars) (n := L.length) (i := i) (by omega)
    have hpl9 : i * 1 + 1 ≤ (sls (zP vars L.length i)).length := (by rw [sls_length]; omega)
    have hset : (sls (zP vars L.length i)).set (i * 1) (.sl (icells (List.replicate (dn vars) 0)) (dn vars)) = sls (zP vars L.length (i + 1)) := (by have h9 := sls_set (zP vars L.length i) i (List.replicate (dn vars) 0); rw [List.length_replicate, zP_set hi] at h9; rw [Nat.mul_one]; exact h9)
    refine a_region ?_
    refine rm (.rsl _ _ _ _ _) ?_
    refine rm (.int _ _) ?_
    refine rm (.pp _ _) ?_
    refine rv (v := .pp _ _) (v_nilCheck il rfl) ?_
    refine rv (v := .pp _ _) (v_fieldAddr_pp fo92_0 il) ?_
    refine rv (v := .agg [.int _ _, .int _ _]) (v_load_ppa1 ta90 il rfl (fun _ => rfl) rfl) ?_
    refine rn (v := .sl (icells (List.replicate (dn vars) 0)) (dn vars)) (QSem.cast (q_callZ (vs := [.agg [.int _ _, .int _ _]]) (args := [.agg [.int .i64 _, .int .i64 _]]) hb57 ⟨il, trivial⟩ rfl (fun hA => zero_c p vars hpp.2) (ic_noSh _) (ic_noRef _)) (sl_shZ (ic_pure _))) ?_
    refine rv (v := .rp _ _) (v_indexAddr_rsl0 es86 il il (fun _ => by omega)) ?_
    refine r_step rfl (o_store (v := .sl _ _) (y' := .osl _ _ _ _) rfl rfl ta87 il il rfl rfl rfl rfl rfl rfl hpl9 (by decide) rfl (congrArg (fun c => AV.osl 1 c L.length none) hset)) ?_
    refine r_nil ?_
    refine a_region ?_
    refine rv (v := .int _ _) (v_add il il (fun _ => by omega)) ?_
    refine rm (.int _ _) ?_
    refine r_nil ?_
    refine ⟨i + 1, ent_look ⟨wr, wr, wr, wr, wr, wr, wr, Weak.of_eq (int_eq (by omega)), trivial⟩, by omega, by omega⟩
   ·
    refine a_exit ?_
    refine a_seq ?_
    refine a_seq ?_
    have hil : i = L.length := (by simp at ht48; omega)
    refine a_region ?_
    refine rm (.sl _ _) ?_
    refine rv (v := .int _ _) (v_len_sl sl44 il) ?_
    refine rm (.int _ _) ?_
    refine r_nil ?_
    refine a_block ?_
    refine a_loop (X := Nat) (fun k => look [(4, .op [.int .i64 vars, .sl (sls L) L.length]), (8, .pp [.int .i64 p, .int .i64 vars, .int .i64 vars, .sl (sls L) L.length, .sl (sls (qL p vars L)) L.length] 0), (10, .sl (sls (pthL xs)) (pthL xs).length), (12, .osl 1 (sls (ctG p vars L xs k)) L.length none), (59, .sl (tncells xs) xs.length), (60, .int .i64 ((xs.length : Nat) : Int)), (61, .int .i64 ((k : Nat) : Int))]) (fun k => k ≤ xs.length) (fun k => xs.length - k) 0 (ent_look ⟨wr, wr, wr, Weak.osl (by rw [ctG_zero, ← zP_full, ← hil]) rfl, wr, wr, wr, trivial⟩) (Nat.zero_le _) (fun k hG => ?_)
    refine aq ?_
    refine rv (v := .bool _) (v_lss il il) ?_
    refine r_nil ?_
    refine a_seq ?_
    refine a_cond rfl (fun ht62 => ?_) (fun ht62 => ?_)
    ·
     refine a_skip ?_
     refine a_seq ?_
     refine a_block ?_
     refine a_seq ?_
     have hk1 : k < xs.length := (by simp at ht62; omega)
     have hnb := allN_spec hall k hk1
     have hpc := clB_len (hpok.2 k)
     have hps := clB_sm (hpok.2 k)
     refine a_region ?_
     refine rm (.int _ _) ?_
     refine rv (v := .pp _ _) (v_indexAddr_sl es44 il il (fun _ => ⟨by omega, by omega, tn_ne hk1⟩)) ?_
     refine rv (v := .agg [.int .i64 (gn xs k).1, .int .i64 (gn xs k).2.1, .int .i64 (gn xs k).2.2.1, .int .i64 (gn xs k).2.2.2]) (v_load_ppa1 ta75 il rfl (fun _ => tn_four hk1) rfl) ?_
     refine rn (v := .op [.int _ _, .int _ _, .int _ _, .int _ _]) (q_alloc zc75) ?_
     refine ra (.int _ _) ?_
     refine r_step rfl (o_store (v := .agg [.int _ _, .int _ _, .int _ _, .int _ _]) (y' := .op [.int _ _, .int _ _, .int _ _, .int _ _]) rfl rfl ta75 il il rfl rfl rfl rfl rfl rfl (Nat.le_of_ble_eq_true rfl) (by decide) rfl rfl) ?_
     refine r_nil ?_
     refine a_seq ?_
     refine aq ?_
     refine rv (v := .rp _ _) (v_fieldAddr_rp fo75_0 il) ?_
     refine rv (v := .int _ _) (v_load_rp1 ta3 il rfl (fun _ => rfl) rfl) ?_
     refine rv (v := .bool _) (v_gtr il il) ?_
     refine r_nil ?_
     refine a_cond rfl (fun ht68 => ?_) (fun ht68 => ?_)
     ·
      refine a_exit ?_
      refine a_region ?_
      refine rv (v := .int _ _) (v_add il il (fun _ => by omega)) ?_
      refine rm (.int _ _) ?_
      refine r_nil ?_
      have hv0 : ¬ (gn xs k).1 = 0 := (by simp at ht68; omega)
      refine ⟨k + 1, ent_look ⟨wr, wr, wr, Weak.osl (by rw [ctG_no hv0]) rfl, wr, wr, Weak.of_eq (int_eq (by omega)), trivial⟩, by omega, by omega⟩
     ·
      refine a_skip ?_
      refine a_seq ?_
      have hv0 : (gn xs k).1 = 0 := (by have h9 := node_var hnb; simp at ht68; omega)
      obtain ⟨hc0, hc1⟩ := leaf_spec hnb hv0
      have hclt : (gn xs k).2.2.2.toNat < L.length := (by omega)
      have hce : (gn xs k).2.2.2 = (((gn xs k).2.2.2.toNat : Nat) : Int) := (by omega)
      have hcl9 := clB_len (hcs.2.2 _ hclt)
      refine a_region ?_
      refine rm (.pp _ _) ?_
      refine rv (v := .pp _ _) (v_nilCheck il rfl) ?_
      refine rv (v := .pp _ _) (v_fieldAddr_pp fo92_0 il) ?_
      refine rv (v := .agg [.int _ _, .int _ _]) (v_load_ppa1 ta90 il rfl (fun _ => rfl) rfl) ?_
      refine rn (v := .sl (icells (one (dn vars) 0)) (dn vars)) (QSem.cast (q_callZ (vs := [.agg [.int _ _, .int _ _], .int _ _]) (args := [.agg [.int .i64 _, .int .i64 _], .int .i64 ((0 : Nat) : Int)]) hb58 ⟨il, il, trivial⟩ rfl (fun hA => mono_c p vars 0 hpp.2 (by omega)) (ic_noSh _) (ic_noRef _)) (sl_shZ (ic_pure _))) ?_
      refine ra (.sl _ _) ?_
      refine r_nil ?_
      refine a_seq ?_
      refine aq ?_
      refine rm (.sl _ _) ?_
      refine rm (.int _ _) ?_
      refine rv (v := .pp _ _) (v_indexAddr_sl es22 il il (fun _ => ⟨by omega, by omega, sls_ne (show k < (pthL xs).length by omega)⟩)) ?_
      refine rv (v := .sl (icells (gl (pthL xs) k)) (gl (pthL xs) k).length) (v_load_pp ta25 il (fun _ => by rw [Nat.mul_one]; exact sls_get (show k < (pthL xs).length by omega)) rfl) ?_
      refine rv (v := .int _ _) (v_len_sl sl25 il) ?_
      refine rm (.int _ _) ?_
      refine r_nil ?_
      refine a_block ?_
      refine a_loop (X := Nat) (fun j => look [(4, .op [.int .i64 vars, .sl (sls L) L.length]), (8, .pp [.int .i64 p, .int .i64 vars, .int .i64 vars, .sl (sls L) L.length, .sl (sls (qL p vars L)) L.length] 0), (10, .sl (sls (pthL xs)) (pthL xs).length), (12, .osl 1 (sls (ctG p vars L xs k)) L.length none), (14, .int .i64 ((k : Nat) : Int)), (15, .op [.int .i64 (gn xs k).1, .int .i64 (gn xs k).2.1, .int .i64 (gn xs k).2.2.1, .int .i64 (gn xs k).2.2.2]), (16, .sl (icells (clD p vars (ngK (gl L (gn xs k).2.2.2.toNat) (gl (pthL xs) k) j))) (dn vars)), (59, .sl (tncells xs) xs.length), (60, .int .i64 ((xs.length : Nat) : Int)), (61, .int .i64 ((k : Nat) : Int)), (77, .sl (icells (gl (pthL xs) k)) (gl (pthL xs) k).length), (78, .int .i64 (((gl (pthL xs) k).length : Nat) : Int)), (79, .int .i64 ((j : Nat) : Int))]) (fun j => j ≤ (gl (pthL xs) k).length) (fun j => (gl (pthL xs) k).length - j) 0 (ent_look ⟨wr, wr, wr, wr, wr, wr, wr, wr, wr, wr, wr, wr, wr, trivial⟩) (Nat.zero_le _) (fun j hG => ?_)
      refine aq ?_
      refine rv (v := .bool _) (v_lss il il) ?_
      refine r_nil ?_
      refine a_seq ?_
      refine a_cond rfl (fun ht80 => ?_) (fun ht80 => ?_)
      ·
       refine a_skip ?_
       refine a_seq ?_
       refine a_block ?_
       refine a_seq ?_
       have hj : j < (gl (pthL xs) k).length := (by simp at ht80; omega)
       have hlj := clB_lit (hpok.2 k) hj
       have hlb := litB_spec.1 hlj
       have hpj := hps j
       refine a_region ?_
       refine rv (v := .pp _ _) (v_indexAddr_sl es25 il il (fun _ => ⟨by omega, by omega, icells_ne hj⟩)) ?_
       refine rv (v := .int .i64 (gd (gl (pthL xs) k) j)) (v_load_pp ta3 il (fun _ => by rw [Nat.mul_one]; exact icells_get (gd_get hj)) rfl) ?_
       refine ra (.int _ _) ?_
       refine r_nil ?_
       refine aq ?_
       refine rv (v := .rp _ _) (v_fieldAddr_rp fo29_1 il) ?_
       refine rv (v := .sl _ _) (v_load_rp1 ta22 il rfl (fun _ => rfl) rfl) ?_
       refine rv (v := .rp _ _) (v_fieldAddr_rp fo75_3 il) ?_
       refine rv (v := .int _ _) (v_load_rp1 ta3 il rfl (fun _ => rfl) rfl) ?_
       refine rv (v := .pp _ _) (v_indexAddr_sl es22 il il (fun _ => ⟨by omega, by omega, sls_ne hclt⟩)) ?_
       refine rv (v := .sl (icells (gl L (gn xs k).2.2.2.toNat)) (gl L (gn xs k).2.2.2.toNat).length) (v_load_pp ta25 il (fun _ => by rw [Nat.mul_one]; exact sls_get hclt) rfl) ?_
       refine rm (.int _ _) ?_
       refine rv (v := .int _ _) (v_neg il (fun _ => by omega)) ?_
       refine rn (v := .bool _) (q_call (vs := [.sl _ _, .int _ _]) (args := [.sl _ _, .int .i64 _]) hb59 ⟨il, il, trivial⟩ rfl (fun hA => contains_c (gl L (gn xs k).2.2.2.toNat) _ (by omega)) rfl rfl) ?_
       refine rv (v := .bool _) (v_not il) ?_
       refine r_nil ?_
       refine a_cond rfl (fun ht92 => ?_) (fun ht92 => ?_)
       ·
        refine a_pre (ent_look (L := [(4, .op [.int _ _, .sl _ _]), (8, .pp _ _), (10, .sl _ _), (12, .osl _ _ _ _), (14, .int _ _), (15, .op [.int _ _, .int _ _, .int _ _, .int _ _]), (16, .sl _ _), (18, .int _ _), (59, .sl _ _), (60, .int _ _), (61, .int _ _), (77, .sl _ _), (78, .int _ _), (79, .int _ _)]) ⟨wr, wr, wr, wr, wr, wr, wr, wr, wr, wr, wr, wr, wr, wr, trivial⟩) ?_
        refine a_region_tail (n := 12) mixed (by kernel_rfl) ?_
        refine t_val (v := .pp _ _) (v_move (.inl rfl) nf) rfl rfl (by decide) (by kernel_rfl) ?_
        refine t_val (v := .pp _ _) (v_nilCheck (.inl rfl) rfl) rfl rfl (by decide) (by kernel_rfl) ?_
        refine t_val (v := .pp _ _) (v_fieldAddr_pp fo92_0 (.inl rfl)) rfl rfl (by decide) (by kernel_rfl) ?_
        refine t_val (v := .agg [.int _ _, .int _ _]) (v_load_ppa1 ta90 (.inl rfl) rfl (fun _ => rfl) rfl) rfl rfl (by decide) (by kernel_rfl) ?_
        refine t_val (v := .sl _ _) (v_move (.inl rfl) nf) rfl rfl (by decide) (by kernel_rfl) ?_
        refine t_val (v := .pp _ _) (v_move (.inl rfl) nf) rfl rfl (by decide) (by kernel_rfl) ?_
        refine t_val (v := .pp _ _) (v_nilCheck (.inl rfl) rfl) rfl rfl (by decide) (by kernel_rfl) ?_
        refine t_val (v := .pp _ _) (v_fieldAddr_pp fo92_0 (.inl rfl)) rfl rfl (by decide) (by kernel_rfl) ?_
        refine t_val (v := .agg [.int _ _, .int _ _]) (v_load_ppa1 ta90 (.inl rfl) rfl (fun _ => rfl) rfl) rfl rfl (by decide) (by kernel_rfl) ?_
        refine t_val (v := .int _ _) (v_move (.inl rfl) nf) rfl rfl (by decide) (by kernel_rfl) ?_
        refine t_new (v := .osl _ _ _ _) (q_call (vs := [.agg [.int _ _, .int _ _], .int _ _]) (args := [.agg [.int .i64 _, .int .i64 _], .int .i64 _]) hb61 ⟨.inl rfl, .inl rfl, trivial⟩ rfl (fun hA => literal_c p vars (gd (gl (pthL xs) k) j) hp hlj) (ic_noSh _) (ic_noRef _)) rfl rfl (by decide) (by kernel_rfl) ?_
        refine t_new (v := .sl (icells (mulp p (dn vars) (clD p vars (ngK (gl L (gn xs k).2.2.2.toNat) (gl (pthL xs) k) j)) (litP p (dn vars) (gd (gl (pthL xs) k) j)))) (dn vars)) (QSem.cast (q_callZ (vs := [.agg [.int _ _, .int _ _], .sl _ _, .rsl _ _ _ _ _]) (args := [.agg [.int .i64 _, .int .i64 _], .sl _ _, .sl _ _]) hb60 ⟨.inl rfl, .inl rfl, .inl rfl, trivial⟩ (l3_eq rfl rfl (sl_sh (ic_pure _))) (fun hA => times_c p vars (clD p vars (ngK (gl L (gn xs k).2.2.2.toNat) (gl (pthL xs) k) j)) (litP p (dn vars) (gd (gl (pthL xs) k) j)) _ hp ⟨clD_len _ _ _, litP_length _ _ _, rfl⟩ (clD_bd (by omega) _) (litP_bd (by omega) _ _)) (ic_noSh _) (ic_noRef _)) (sl_shZ (ic_pure _))) rfl rfl (by decide) (by kernel_rfl) ?_
        refine t_nil ?_
        refine ra (.sl _ _) ?_
        refine r_nil ?_
        refine a_pre (ent_look (L := [(4, .op [.int _ _, .sl _ _]), (8, .pp _ _), (10, .sl _ _), (12, .osl _ _ _ _), (14, .int _ _), (15, .op [.int _ _, .int _ _, .int _ _, .int _ _]), (16, .sl _ _), (59, .sl _ _), (60, .int _ _), (61, .int _ _), (77, .sl _ _), (78, .int _ _), (79, .int _ _)]) ⟨wr, wr, wr, wr, wr, wr, wr, wr, wr, wr, wr, wr, wr, trivial⟩) ?_
        refine a_region ?_
        refine rv (v := .int _ _) (v_add il il (fun _ => by omega)) ?_
        refine rm (.int _ _) ?_
        refine r_nil ?_
        have hkj : (clD p vars (ngK (gl L (gn xs k).2.2.2.toNat) (gl (pthL xs) k) (j + 1))) = mulp p (dn vars) (clD p vars (ngK (gl L (gn xs k).2.2.2.toNat) (gl (pthL xs) k) j)) (litP p (dn vars) (gd (gl (pthL xs) k) j)) := (by rw [ngK, if_neg (by simpa using ht92), clD_snoc, Int.neg_neg])
        refine ⟨j + 1, ent_look ⟨wr, wr, wr, wr, wr, wr, Weak.of_eq (sl_eq2 (by rw [hkj]) rfl), wr, wr, wr, wr, wr, Weak.of_eq (int_eq (by omega)), trivial⟩, by omega, by omega⟩
       ·
        refine a_skip ?_
        refine a_pre (ent_look (L := [(4, .op [.int _ _, .sl _ _]), (8, .pp _ _), (10, .sl _ _), (12, .osl _ _ _ _), (14, .int _ _), (15, .op [.int _ _, .int _ _, .int _ _, .int _ _]), (16, .sl _ _), (59, .sl _ _), (60, .int _ _), (61, .int _ _), (77, .sl _ _), (78, .int _ _), (79, .int _ _)]) ⟨wr, wr, wr, wr, wr, wr, wr, wr, wr, wr, wr, wr, wr, trivial⟩) ?_
        refine a_region ?_
        refine rv (v := .int _ _) (v_add il il (fun _ => by omega)) ?_
        refine rm (.int _ _) ?_
        refine r_nil ?_
        have hkj : (clD p vars (ngK (gl L (gn xs k).2.2.2.toNat) (gl (pthL xs) k) (j + 1))) = (clD p vars (ngK (gl L (gn xs k).2.2.2.toNat) (gl (pthL xs) k) j)) := (by rw [ngK, if_pos (by simpa using ht92)])
        refine ⟨j + 1, ent_look ⟨wr, wr, wr, wr, wr, wr, Weak.of_eq (sl_eq2 (by rw [hkj]) rfl), wr, wr, wr, wr, wr, Weak.of_eq (int_eq (by omega)), trivial⟩, by omega, by omega⟩
      ·
       refine a_exit ?_
       have hje : j = (gl (pthL xs) k).length := (by simp at ht80; omega)
       refine a_pre (ent_eq (t := 16) (v' := .sl (icells (clD p vars (ngK (gl L (gn xs k).2.2.2.toNat) (gl (pthL xs) k) (gl (pthL xs) k).length))) (dn vars)) (Weak.of_eq (sl_eq2 (by rw [hje]) rfl))) ?_
       have hgl := ctG_len (p := p) (vars := vars) (L := L) (xs := xs) (k := k)
       have hgg := ctG_get (p := p) (vars := vars) (L := L) (xs := xs) (k := k) hclt
       have hcl8 := colD_len (p := p) (vars := vars) (L := L) (xs := xs) (i := (gn xs k).2.2.2.toNat) k
       have hnl : (modp p (linz 1 (colD p vars L xs (gn xs k).2.2.2.toNat k) (clD p vars (ngK (gl L (gn xs k).2.2.2.toNat) (gl (pthL xs) k) (gl (pthL xs) k).length)))).length = dn vars := (by rw [modp_length, linz_length, hcl8])
       have hpl9 : (gn xs k).2.2.2.toNat * 1 + 1 ≤ (sls (ctG p vars L xs k)).length := (by rw [sls_length]; omega)
       have hset : (sls (ctG p vars L xs k)).set ((gn xs k).2.2.2.toNat * 1) (.sl (icells (modp p (linz 1 (colD p vars L xs (gn xs k).2.2.2.toNat k) (clD p vars (ngK (gl L (gn xs k).2.2.2.toNat) (gl (pthL xs) k) (gl (pthL xs) k).length))))) (dn vars)) = sls (ctG p vars L xs (k + 1)) := (by have h9 := sls_set (ctG p vars L xs k) (gn xs k).2.2.2.toNat (modp p (linz 1 (colD p vars L xs (gn xs k).2.2.2.toNat k) (clD p vars (ngK (gl L (gn xs k).2.2.2.toNat) (gl (pthL xs) k) (gl (pthL xs) k).length)))); rw [hnl, ← show (ctG p vars L xs (k + 1)) = ((ctG p vars L xs k)).set (gn xs k).2.2.2.toNat (modp p (linz 1 (colD p vars L xs (gn xs k).2.2.2.toNat k) (clD p vars (ngK (gl L (gn xs k).2.2.2.toNat) (gl (pthL xs) k) (gl (pthL xs) k).length)))) from ctG_yes hv0 hce hclt] at h9; rw [Nat.mul_one]; exact h9)
       refine a_region_w [(106, true), (107, true), (108, true), (109, true), (110, true), (111, true), (112, true), (113, true), (114, true), (115, true), (116, true), (117, true), (118, true), (119, true), (120, true), (12, false)] mixed (by kernel_rfl) ?_
       refine wv (v := .rsl _ _ _ _ _) (v_move il nf) ?_
       refine wv (v := .rp _ _) (v_fieldAddr_rp fo75_3 il) ?_
       refine wv (v := .int _ _) (v_load_rp1 ta3 il rfl (fun _ => rfl) rfl) ?_
       refine wv (v := .pp _ _) (v_move il nf) ?_
       refine wv (v := .pp _ _) (v_nilCheck il rfl) ?_
       refine wv (v := .pp _ _) (v_fieldAddr_pp fo92_0 il) ?_
       refine wv (v := .agg [.int _ _, .int _ _]) (v_load_ppa1 ta90 il rfl (fun _ => rfl) rfl) ?_
       refine wv (v := .rsl _ _ _ _ _) (v_move il nf) ?_
       refine wv (v := .rp _ _) (v_fieldAddr_rp fo75_3 il) ?_
       refine wv (v := .int _ _) (v_load_rp1 ta3 il rfl (fun _ => rfl) rfl) ?_
       refine wv (v := .rp _ _) (v_indexAddr_rsl0 es86 il il (fun _ => by omega)) ?_
       refine wv (v := .sl (icells (colD p vars L xs (gn xs k).2.2.2.toNat k)) (dn vars)) (v_load_rp1 ta87 il rfl (fun _ => by rw [Nat.mul_one]; have h9 := sls_get (L := (ctG p vars L xs k)) (i := (gn xs k).2.2.2.toNat) (by omega); rw [hgg, hcl8] at h9; exact h9) rfl) ?_
       refine wv (v := .sl _ _) (v_move il nf) ?_
       refine w_new (v := .sl (icells (modp p (linz 1 (colD p vars L xs (gn xs k).2.2.2.toNat k) (clD p vars (ngK (gl L (gn xs k).2.2.2.toNat) (gl (pthL xs) k) (gl (pthL xs) k).length))))) (dn vars)) (QSem.cast (q_callZ (vs := [.agg [.int _ _, .int _ _], .sl _ _, .sl _ _, .int _ _]) (args := [.agg [.int .i64 _, .int .i64 _], .sl _ _, .sl _ _, .int .i64 _]) hb62 ⟨.inl rfl, .inl rfl, .inl rfl, .inl rfl, trivial⟩ rfl (fun hA => plus_c p vars (colD p vars L xs (gn xs k).2.2.2.toNat k) (clD p vars (ngK (gl L (gn xs k).2.2.2.toNat) (gl (pthL xs) k) (gl (pthL xs) k).length)) (dn vars) 1 hpp.1 ⟨hcl8, clD_len _ _ _, by omega⟩ (colD_bd (by omega) k) (clD_bd (by omega) _) ⟨by omega, by omega⟩) (ic_noSh _) (ic_noRef _)) (sl_shZ (ic_pure _))) rfl rfl (by decide) rfl (by kernel_rfl) ?_
       refine wv (v := .rp _ _) (v_indexAddr_rsl0 es86 il il (fun _ => by omega)) ?_
       refine w_store (v := .sl _ _) (y' := .osl _ _ _ _) rfl rfl rfl ta87 (.inl rfl) (.inl rfl) rfl rfl rfl rfl rfl rfl hpl9 (by decide) rfl (congrArg (fun c => AV.osl 1 c L.length none) hset) rfl (by kernel_rfl) ?_
       refine w_nil ?_
       refine a_pre (ent_look (L := [(4, .op [.int _ _, .sl _ _]), (8, .pp _ _), (10, .sl _ _), (12, .osl _ _ _ _), (14, .int _ _), (15, .op [.int _ _, .int _ _, .int _ _, .int _ _]), (16, .sl _ _), (59, .sl _ _), (60, .int _ _), (61, .int _ _), (77, .sl _ _), (78, .int _ _), (79, .int _ _)]) ⟨wr, wr, wr, wr, wr, wr, wr, wr, wr, wr, wr, wr, wr, trivial⟩) ?_
       refine a_region ?_
       refine rv (v := .int _ _) (v_add il il (fun _ => by omega)) ?_
       refine rm (.int _ _) ?_
       refine r_nil ?_
       refine ⟨k + 1, ent_look ⟨wr, wr, wr, wr, wr, wr, Weak.of_eq (int_eq (by omega)), trivial⟩, by omega, by omega⟩
    ·
     refine a_exit ?_
     refine a_seq ?_
     have hkx : k = xs.length := (by simp at ht62; omega)
     refine a_region ?_
     refine ra .nils ?_
     refine r_nil ?_
     refine a_seq ?_
     refine aq ?_
     refine rm (.rsl _ _ _ _ _) ?_
     refine rv (v := .int _ _) (v_len_rsl sl86 il) ?_
     refine rm (.int _ _) ?_
     refine r_nil ?_
     refine a_block ?_
     refine a_pre (ent_nil (t := 19) (sz := 1) (cap := none) (.inl rfl) (fun _ h => by cases h)) ?_
     refine a_loop (X := Nat) (fun i => look [(12, .osl 1 (sls (ctG p vars L xs xs.length)) L.length none), (19, .osl 1 (oacl (ctP p vars L xs i)) (ctP p vars L xs i).length none), (122, .rsl (12, []) 1 0 L.length none), (123, .int .i64 ((L.length : Nat) : Int)), (124, .int .i64 ((i : Nat) : Int))]) (fun i => i ≤ L.length) (fun i => L.length - i) 0 (ent_look ⟨Weak.osl (by rw [hkx]) rfl, Weak.osl rfl rfl, wr, wr, wr, trivial⟩) (Nat.zero_le _) (fun i hG => ?_)
     refine aq ?_
     refine rv (v := .bool _) (v_lss il il) ?_
     refine r_nil ?_
     refine a_seq ?_
     refine a_cond rfl (fun ht125 => ?_) (fun ht125 => ?_)
     ·
      refine a_skip ?_
      refine a_seq ?_
      refine a_block ?_
      refine a_seq ?_
      have hi : i < L.length := (by simp at ht125; omega)
      have hgl := ctG_len (p := p) (vars := vars) (L := L) (xs := xs) (k := xs.length)
      have hgg := ctG_get (p := p) (vars := vars) (L := L) (xs := xs) (k := xs.length) hi
      have hcl8 := colD_len (p := p) (vars := vars) (L := L) (xs := xs) (i := i) xs.length
      have hcpl := ctP_len p vars L xs i
      refine a_region ?_
      refine rv (v := .rp _ _) (v_indexAddr_rsl0 es86 il il (fun _ => by omega)) ?_
      refine rv (v := .sl (icells (colD p vars L xs i xs.length)) (dn vars)) (v_load_rp1 ta87 il rfl (fun _ => by rw [Nat.mul_one]; have h9 := sls_get (L := (ctG p vars L xs xs.length)) (i := i) (by omega); rw [hgg, hcl8] at h9; exact h9) rfl) ?_
      refine ra (.sl _ _) ?_
      refine r_nil ?_
      refine a_region ?_
      refine rm (.rsl _ _ _ _ _) ?_
      refine rm (.sl _ _) ?_
      refine rn (v := .osl _ _ _ _) (q_call (vs := [.sl _ _]) (args := [.sl _ _]) hb63 ⟨il, trivial⟩ rfl (fun hA => terms_c (colD p vars L xs i xs.length) (dn vars) ⟨hcl8, by omega⟩) (tc_noSh _) (tc_noRef _)) ?_
      refine r_step rfl (o_sliceLit1 (v := .osl _ _ _ _) rfl lt41 rfl rfl (by decide) (by decide) rfl rfl (by simp [cellsOf, noRefL, noRef, tc_noRef]) rfl rfl) ?_
      refine r_pre (ent_reloc_sl (t := 128) rfl rfl) ?_
      refine r_step rfl (o_append_own rfl ap41 rfl (by decide) (by decide) (by decide) (by decide) rfl rfl rfl (by rw [oacl_length]; omega) rfl (by omega)) ?_
      refine r_pre (ent_eq (t := 132) (v' := .osl 1 (oacl (ctP p vars L xs (i + 1))) (ctP p vars L xs (i + 1)).length none) (Weak.osl (by rw [ctP_succ, oacl_append]; rfl) (by rw [ctP_len, ctP_len]))) ?_
      refine ra (.rsl _ _ _ _ _) ?_
      refine r_pre (ent_reloc_sl (t := 19) rfl rfl) ?_
      refine r_nil ?_
      refine a_region ?_
      refine rv (v := .int _ _) (v_add il il (fun _ => by omega)) ?_
      refine rm (.int _ _) ?_
      refine r_nil ?_
      refine ⟨i + 1, ent_look ⟨wr, wr, wr, wr, Weak.of_eq (int_eq (by omega)), trivial⟩, by omega, by omega⟩
     ·
      refine a_exit ?_
      refine aq ?_
      refine rm (.rsl _ _ _ _ _) ?_
      refine ra (.rsl _ _ _ _ _) ?_
      refine r_pre (ent_reloc_sl (t := 6) rfl rfl) ?_
      refine ra (.bool _) ?_
      refine r_nil ?_
      refine a_ret ?_
      refine retL (rs := [.tmp 6, .tmp 7]) [(6, .osl _ _ _ none), (7, _)] ⟨Weak.osl rfl rfl, wr, trivial⟩ rfl Tryz.results20 (by decide) ⟨by decide, by decide, rfl⟩ (by decide) (by decide) (l2_eq (osl_eq2 ?_ ?_) (bool_eq ?_)) rfl
      all_goals (have hie : i = L.length := (by simp at ht125; omega))
      all_goals (first | exact hok.symm | (rw [ct_yes hok, ← hie]) | (rw [ct_yes hok, hie]; rfl))
theorem hb47 : hasBody Tryz.prog 47 = true := by kernel_rfl
theorem hb48 : hasBody Tryz.prog 48 = true := by kernel_rfl
theorem hb51 : hasBody Tryz.prog 51 = true := by kernel_rfl
theorem hb52 : hasBody Tryz.prog 52 = true := by kernel_rfl
theorem sCt_c (p vars : Int) (L : List (List Int)) (xs : List TN) (hk : CnfOk vars L) (hl : xs.length ≤ 1048576) : ACall Tryz.prog 18 [.int .i64 p, .agg [.int .i64 vars, .sl (sls L) L.length], .sl (tncells xs) xs.length] [] (.tup [.osl 1 (oacl (ctR p vars L xs)) (ctR p vars L xs).length none, .bool (ctB p vars L xs)]) [] := by
 refine ACall.intro Tryz.func18 rfl (N := 111) rfl (by decide) (by simp) ?_
 refine aq ?_
 refine rn (v := .op [.int _ _, .sl _ _]) (q_box il rfl rfl) ?_
 refine ra .nils ?_
 refine ra (.bool _) ?_
 refine r_nil ?_
 refine aq ?_
 refine rn (v := .osl _ _ _ _) (q_sliceLit (n := 0) (parts := []) lt41 rfl rfl rfl rfl) ?_
 refine ra (.rsl _ _ _ _ _) ?_
 refine r_pre (ent_reloc_sl (t := 8) rfl rfl) ?_
 refine r_nil ?_
 refine a_seq ?_
 refine aq ?_
 refine rm (.int _ _) ?_
 refine rv (v := .agg [.int _ _, .sl _ _]) (v_load_rpa1 ta29 il rfl rfl (fun _ => rfl) rfl) ?_
 refine rn (v := .bool _) (q_call (vs := [.int _ _, .agg [.int _ _, .sl _ _]]) (args := [.int .i64 _, .agg [.int .i64 _, .sl _ _]]) hb47 ⟨il, il, trivial⟩ rfl (fun hA => takes19_c p vars L hk) rfl rfl) ?_
 refine rv (v := .bool _) (v_not il) ?_
 refine r_nil ?_
 refine a_cond rfl (fun ht20 => ?_) (fun ht20 => ?_)
 ·
  refine a_seq ?_
  have hno : (ctB p vars L xs) = false := (by unfold ctB; cases h1 : aOk p vars L <;> simp_all)
  refine a_region ?_
  refine rm (.rsl _ _ _ _ _) ?_
  refine ra (.rsl _ _ _ _ _) ?_
  refine r_pre (ent_reloc_sl (t := 6) rfl rfl) ?_
  refine ra (.bool _) ?_
  refine r_nil ?_
  refine a_ret ?_
  refine retL (rs := [.tmp 6, .tmp 7]) [(6, .osl _ _ _ none), (7, _)] ⟨Weak.osl rfl rfl, wr, trivial⟩ rfl Tryz.results18 (by decide) ⟨by decide, by decide, rfl⟩ (by decide) (by decide) (l2_eq (osl_eq2 ?_ ?_) (bool_eq ?_)) rfl
  all_goals (first | exact hno.symm | (rw [ct_no hno]; rfl) | (rw [hno]; rfl))
 ·
  refine a_skip ?_
  refine aq ?_
  refine rv (v := .agg [.int _ _, .sl _ _]) (v_load_rpa1 ta29 il rfl rfl (fun _ => rfl) rfl) ?_
  refine rm (.sl _ _) ?_
  refine rn (v := .tup [.osl _ _ _ _, .bool _]) (q_callF (vs := [.agg [.int _ _, .sl _ _], .sl _ _]) (args := [.agg [.int .i64 _, .sl _ _], .sl _ _]) hb48 ⟨il, il, trivial⟩ rfl (fun hA => search9_c vars L xs hk hl) rfl (by simp [noRef, noRefL, sls_noRef])) ?_
  refine rv (v := .tup [.rsl _ _ _ _ _, .bool _]) (v_mv rfl) ?_
  refine rv (v := .rsl _ _ _ _ _) (v_extract rfl rfl) ?_
  refine rv (v := .bool _) (v_extract rfl rfl) ?_
  refine ra (.rsl _ _ _ _ _) ?_
  refine r_pre (ent_reloc_sl (t := 9) rfl rfl) ?_
  refine ra (.bool _) ?_
  refine r_nil ?_
  refine a_seq ?_
  refine aq ?_
  refine rm (.bool _) ?_
  refine rv (v := .bool _) (v_not il) ?_
  refine r_nil ?_
  refine a_cond rfl (fun ht29 => ?_) (fun ht29 => ?_)
  ·
   refine a_seq ?_
   have hno : (ctB p vars L xs) = false := (by unfold ctB; cases h1 : aOk p vars L <;> cases h2 : ((treeB vars L xs) && decide ((badI L xs (pthL xs)) < 0)) <;> simp_all)
   refine a_region ?_
   refine rm (.rsl _ _ _ _ _) ?_
   refine ra (.rsl _ _ _ _ _) ?_
   refine r_pre (ent_reloc_sl (t := 6) rfl rfl) ?_
   refine ra (.bool _) ?_
   refine r_nil ?_
   refine a_ret ?_
   refine retL (rs := [.tmp 6, .tmp 7]) [(6, .osl _ _ _ none), (7, _)] ⟨Weak.osl rfl rfl, wr, trivial⟩ rfl Tryz.results18 (by decide) ⟨by decide, by decide, rfl⟩ (by decide) (by decide) (l2_eq (osl_eq2 ?_ ?_) (bool_eq ?_)) rfl
   all_goals (first | exact hno.symm | (rw [ct_no hno]; rfl) | (rw [hno]; rfl))
  ·
   refine a_skip ?_
   refine a_seq ?_
   refine a_seq ?_
   have ha : aOk p vars L = true := (by cases h1 : aOk p vars L <;> simp_all)
   have hst : ((treeB vars L xs) && decide ((badI L xs (pthL xs)) < 0)) = true := (by cases h2 : ((treeB vars L xs) && decide ((badI L xs (pthL xs)) < 0)) <;> simp_all)
   have hty : (treeB vars L xs) = true := (by simp at hst; exact hst.1)
   obtain ⟨hcf, hrg, hall, hsm⟩ := treeB_spec hty
   have hpok := pth_ok hty
   have hpl := hpok.1
   have hok : (ctB p vars L xs) = true := (by unfold ctB; rw [ha, hst]; rfl)
   obtain ⟨hp, hc⟩ := aOk_spec ha
   have hpp := prime_spec hp
   have hcs := cnfB_spec hc
   have hd := dn_le hpp.2
   have hdn64 := hd.2
   have hw := pow6 hpp.2
   refine a_region ?_
   refine ra (.int _ _) ?_
   refine r_nil ?_
   refine a_block ?_
   refine a_loop (X := Nat) (fun i => look [(0, .int .i64 p), (2, .sl (tncells xs) xs.length), (4, .op [.int .i64 vars, .sl (sls L) L.length]), (8, .osl 1 (oacl (ctP p vars L xs i)) (ctP p vars L xs i).length none), (9, .osl 1 (sls (pthL xs)) (pthL xs).length none), (11, .int .i64 ((i : Nat) : Int))]) (fun i => i ≤ L.length) (fun i => L.length - i) 0 (ent_look ⟨wr, wr, wr, Weak.osl rfl rfl, Weak.osl (by rw [pthT_yes hty]) (by rw [pthT_yes hty]), wr, trivial⟩) (Nat.zero_le _) (fun i hG => ?_)
   refine a_seq ?_
   refine aq ?_
   refine rm (.int _ _) ?_
   refine rv (v := .rp _ _) (v_fieldAddr_rp fo29_1 il) ?_
   refine rv (v := .sl _ _) (v_load_rp1 ta22 il rfl (fun _ => rfl) rfl) ?_
   refine rv (v := .int _ _) (v_len_sl sl22 il) ?_
   refine rv (v := .bool _) (v_lss il il) ?_
   refine r_nil ?_
   refine a_cond rfl (fun ht35 => ?_) (fun ht35 => ?_)
   ·
    refine a_skip ?_
    refine a_seq ?_
    refine a_block ?_
    refine a_seq ?_
    have hi : i < L.length := (by simp at ht35; omega)
    have hcpl := ctP_len p vars L xs i
    have hcl9 := clB_len (hcs.2.2 i hi)
    refine a_region ?_
    refine rn (v := .osl _ _ _ _) (q_sliceLit (n := 0) (parts := []) lt72 rfl rfl rfl rfl) ?_
    refine ra (.rsl _ _ _ _ _) ?_
    refine r_pre (ent_reloc_sl (t := 12) rfl rfl) ?_
    refine r_nil ?_
    refine a_seq ?_
    refine aq ?_
    refine ra (.int _ _) ?_
    refine r_nil ?_
    refine a_block ?_
    refine a_loop (X := Nat) (fun k => look [(0, .int .i64 p), (2, .sl (tncells xs) xs.length), (4, .op [.int .i64 vars, .sl (sls L) L.length]), (8, .osl 1 (oacl (ctP p vars L xs i)) (ctP p vars L xs i).length none), (9, .osl 1 (sls (pthL xs)) (pthL xs).length none), (11, .int .i64 ((i : Nat) : Int)), (12, .osl 2 (tcells (trm (colD p vars L xs i k))) (trm (colD p vars L xs i k)).length none), (13, .int .i64 ((k : Nat) : Int))]) (fun k => k ≤ xs.length) (fun k => xs.length - k) 0 (ent_look ⟨wr, wr, wr, wr, wr, wr, Weak.osl (by rw [colD, trm_zero (by omega)]; rfl) (by rw [colD, trm_zero (by omega)]; rfl), wr, trivial⟩) (Nat.zero_le _) (fun k hG => ?_)
    refine a_seq ?_
    refine aq ?_
    refine rm (.int _ _) ?_
    refine rm (.sl _ _) ?_
    refine rv (v := .int _ _) (v_len_sl sl44 il) ?_
    refine rv (v := .bool _) (v_lss il il) ?_
    refine r_nil ?_
    refine a_cond rfl (fun ht42 => ?_) (fun ht42 => ?_)
    ·
     refine a_skip ?_
     refine a_seq ?_
     refine a_block ?_
     refine a_seq ?_
     refine a_seq ?_
     have hk1 : k < xs.length := (by simp at ht42; omega)
     have hnb := allN_spec hall k hk1
     have hpc := clB_len (hpok.2 k)
     have hps := clB_sm (hpok.2 k)
     refine a_region ?_
     refine rm (.sl _ _) ?_
     refine rm (.int _ _) ?_
     refine rv (v := .pp _ _) (v_indexAddr_sl es44 il il (fun _ => ⟨by omega, by omega, tn_ne hk1⟩)) ?_
     refine rv (v := .agg [.int .i64 (gn xs k).1, .int .i64 (gn xs k).2.1, .int .i64 (gn xs k).2.2.1, .int .i64 (gn xs k).2.2.2]) (v_load_ppa1 ta75 il rfl (fun _ => tn_four hk1) rfl) ?_
     refine rn (v := .bool _) (q_call (vs := [.agg [.int _ _, .int _ _, .int _ _, .int _ _]]) (args := [.agg [.int .i64 _, .int .i64 _, .int .i64 _, .int .i64 _]]) hb49 ⟨il, trivial⟩ rfl (fun hA => leaf_c (gn xs k)) rfl rfl) ?_
     refine rv (v := .bool _) (v_not il) ?_
     refine rm (.bool _) ?_
     refine rg (v := .sl _ _) (v_move il nf) ?_
     refine rg (v := .int _ _) (v_move il nf) ?_
     refine r_gval (v := .pp _ _) (v_indexAddr_sl es44 (.inr ⟨_, rfl, fun h => h⟩) (.inr ⟨_, rfl, fun h => h⟩) (fun _ => ⟨by omega, by omega, tn_ne hk1⟩)) rfl rfl rfl (by decide) (.inl ⟨_, rfl, rfl⟩) rfl (by decide) ?_
     refine r_gval (v := .pp _ _) (v_fieldAddr_pp fo75_3 (.inr ⟨_, rfl, fun h => h⟩)) rfl rfl rfl (by decide) (.inl ⟨_, rfl, rfl⟩) rfl (by decide) ?_
     refine r_gval (v := .int .i64 (gn xs k).2.2.2) (v_load_pp ta3 (.inr ⟨_, rfl, fun h => h⟩) (fun _ => by have := tn_at (j := 3) hk1 (by omega); exact this) rfl) rfl rfl rfl (by decide) (.inl ⟨_, rfl, rfl⟩) rfl (by decide) ?_
     refine rg (v := .int _ _) (v_move il nf) ?_
     refine r_gval (v := .bool _) (v_neq (.inr ⟨_, rfl, fun h => h⟩) (.inr ⟨_, rfl, fun h => h⟩)) rfl rfl rfl (by decide) (.inl ⟨_, rfl, rfl⟩) rfl (by decide) ?_
     refine rv (v := .bool _) (v_pick (.inl rfl) (.inl rfl) (.inr ⟨_, rfl, fun h h2 => by simp_all⟩)) ?_
     refine r_nil ?_
     refine a_cond rfl (fun ht59 => ?_) (fun ht59 => ?_)
     ·
      refine a_exit ?_
      refine a_pre (ent_look (L := [(0, .int _ _), (2, .sl _ _), (4, .op [.int _ _, .sl _ _]), (8, .osl _ _ _ _), (9, .osl _ _ _ _), (11, .int _ _), (12, .osl _ _ _ _), (13, .int _ _)]) ⟨wr, wr, wr, wr, wr, wr, wr, wr, trivial⟩) ?_
      refine a_region ?_
      refine rm (.int _ _) ?_
      refine rv (v := .int _ _) (v_add il il (fun _ => by omega)) ?_
      refine ra (.int _ _) ?_
      refine r_nil ?_
      have hks : (colD p vars L xs i (k + 1)) = (colD p vars L xs i k) := (by rw [colD, if_neg (by rintro ⟨e1, e2⟩; rw [e1, e2] at ht59; simp at ht59)])
      refine ⟨k + 1, ent_look ⟨wr, wr, wr, wr, wr, wr, Weak.osl (by rw [hks]) (by rw [hks]), Weak.of_eq (int_eq (by omega)), trivial⟩, by omega, by omega⟩
     ·
      refine a_skip ?_
      refine a_seq ?_
      refine a_pre (ent_look (L := [(0, .int _ _), (2, .sl _ _), (4, .op [.int _ _, .sl _ _]), (8, .osl _ _ _ _), (9, .osl _ _ _ _), (11, .int _ _), (12, .osl _ _ _ _), (13, .int _ _)]) ⟨wr, wr, wr, wr, wr, wr, wr, wr, trivial⟩) ?_
      have hcd : (gn xs k).1 = 0 ∧ (gn xs k).2.2.2 = ((i : Nat) : Int) := (by cases h1 : decide ((gn xs k).1 = 0) <;> simp_all)
      refine a_region ?_
      refine rn (v := .osl _ _ _ _) (q_sliceLit (n := 0) (parts := []) lt25 rfl rfl rfl rfl) ?_
      refine ra (.rsl _ _ _ _ _) ?_
      refine r_pre (ent_reloc_sl (t := 14) rfl rfl) ?_
      refine r_nil ?_
      refine a_seq ?_
      refine aq ?_
      refine ra (.int _ _) ?_
      refine r_nil ?_
      refine a_block ?_
      refine a_loop (X := Nat) (fun j => look [(0, .int .i64 p), (2, .sl (tncells xs) xs.length), (4, .op [.int .i64 vars, .sl (sls L) L.length]), (8, .osl 1 (oacl (ctP p vars L xs i)) (ctP p vars L xs i).length none), (9, .osl 1 (sls (pthL xs)) (pthL xs).length none), (11, .int .i64 ((i : Nat) : Int)), (12, .osl 2 (tcells (trm (colD p vars L xs i k))) (trm (colD p vars L xs i k)).length none), (13, .int .i64 ((k : Nat) : Int)), (14, .osl 1 (icells (ngK (gl L i) (gl (pthL xs) k) j)) (ngK (gl L i) (gl (pthL xs) k) j).length none), (15, .int .i64 ((j : Nat) : Int))]) (fun j => j ≤ (gl (pthL xs) k).length) (fun j => (gl (pthL xs) k).length - j) 0 (ent_look ⟨wr, wr, wr, wr, wr, wr, wr, wr, Weak.osl rfl rfl, wr, trivial⟩) (Nat.zero_le _) (fun j hG => ?_)
      refine a_seq ?_
      refine aq ?_
      refine rm (.int _ _) ?_
      refine rm (.rsl _ _ _ _ _) ?_
      refine rm (.int _ _) ?_
      refine rv (v := .rp _ _) (v_indexAddr_rsl0 es22 il il (fun _ => by omega)) ?_
      refine rv (v := .sl (icells (gl (pthL xs) k)) (gl (pthL xs) k).length) (v_load_rp1 ta25 il rfl (fun _ => by rw [Nat.mul_one]; exact sls_get (show k < (pthL xs).length by omega)) rfl) ?_
      refine rv (v := .int _ _) (v_len_sl sl25 il) ?_
      refine rv (v := .bool _) (v_lss il il) ?_
      refine r_nil ?_
      refine a_cond rfl (fun ht67 => ?_) (fun ht67 => ?_)
      ·
       refine a_skip ?_
       refine a_seq ?_
       refine a_block ?_
       refine a_seq ?_
       have hj : j < (gl (pthL xs) k).length := (by simp at ht67; omega)
       have hlj := clB_lit (hpok.2 k) hj
       have hlb := litB_spec.1 hlj
       have hpj := hps j
       have hnk := ngK_len (gl L i) (gl (pthL xs) k) j
       refine a_region_any mixed (by kernel_rfl) ?_
       refine yv (v := .rp _ _) (v_fieldAddr_rp fo29_1 il) ?_
       refine yv (v := .sl _ _) (v_load_rp1 ta22 il rfl (fun _ => rfl) rfl) ?_
       refine yv (v := .int _ _) (v_move il nf) ?_
       refine yv (v := .pp _ _) (v_indexAddr_sl es22 il il (fun _ => ⟨by omega, by omega, sls_ne hi⟩)) ?_
       refine yv (v := .sl (icells (gl L i)) (gl L i).length) (v_load_pp ta25 il (fun _ => by rw [Nat.mul_one]; exact sls_get hi) rfl) ?_
       refine yv (v := .rsl _ _ _ _ _) (v_move il nf) ?_
       refine yv (v := .int _ _) (v_move il nf) ?_
       refine yv (v := .rp _ _) (v_indexAddr_rsl0 es22 il il (fun _ => by omega)) ?_
       refine yv (v := .sl (icells (gl (pthL xs) k)) (gl (pthL xs) k).length) (v_load_rp1 ta25 il rfl (fun _ => by rw [Nat.mul_one]; exact sls_get (show k < (pthL xs).length by omega)) rfl) ?_
       refine yv (v := .int _ _) (v_move il nf) ?_
       refine yv (v := .pp _ _) (v_indexAddr_sl es25 il il (fun _ => ⟨by omega, by omega, icells_ne hj⟩)) ?_
       refine yv (v := .int .i64 (gd (gl (pthL xs) k) j)) (v_load_pp ta3 il (fun _ => by rw [Nat.mul_one]; exact icells_get (gd_get hj)) rfl) ?_
       refine yv (v := .int _ _) (v_neg il (fun _ => by omega)) ?_
       refine y_new (v := .bool _) (q_call (vs := [.sl _ _, .int _ _]) (args := [.sl _ _, .int .i64 _]) hb50 ⟨.inl rfl, .inl rfl, trivial⟩ rfl (fun hA => has2_c _ _ _ ⟨rfl, by omega⟩) rfl rfl) rfl rfl (by decide) (by kernel_rfl) ?_
       refine yv (v := .bool _) (v_not il) ?_
       refine y_nil ?_
       refine a_cond rfl (fun ht84 => ?_) (fun ht84 => ?_)
       ·
        refine a_pre (ent_look (L := [(0, .int _ _), (2, .sl _ _), (4, .op [.int _ _, .sl _ _]), (8, .osl _ _ _ _), (9, .osl _ _ _ _), (11, .int _ _), (12, .osl _ _ _ _), (13, .int _ _), (14, .osl _ _ _ _), (15, .int _ _)]) ⟨wr, wr, wr, wr, wr, wr, wr, wr, wr, wr, trivial⟩) ?_
        refine a_region ?_
        refine rm (.rsl _ _ _ _ _) ?_
        refine rm (.rsl _ _ _ _ _) ?_
        refine rm (.int _ _) ?_
        refine rv (v := .rp _ _) (v_indexAddr_rsl0 es22 il il (fun _ => by omega)) ?_
        refine rv (v := .sl (icells (gl (pthL xs) k)) (gl (pthL xs) k).length) (v_load_rp1 ta25 il rfl (fun _ => by rw [Nat.mul_one]; exact sls_get (show k < (pthL xs).length by omega)) rfl) ?_
        refine rm (.int _ _) ?_
        refine rv (v := .pp _ _) (v_indexAddr_sl es25 il il (fun _ => ⟨by omega, by omega, icells_ne hj⟩)) ?_
        refine rv (v := .int .i64 (gd (gl (pthL xs) k) j)) (v_load_pp ta3 il (fun _ => by rw [Nat.mul_one]; exact icells_get (gd_get hj)) rfl) ?_
        refine rv (v := .int _ _) (v_neg il (fun _ => by omega)) ?_
        refine rn (v := .osl 1 (icells [-(gd (gl (pthL xs) k) j)]) 1 (some 1)) (q_sliceLit (n := 1) (parts := [(0, .tmp 93)]) lt25 rfl rfl rfl rfl) ?_
        refine r_pre (ent_reloc_sl (t := 85) rfl rfl) ?_
        refine r_step rfl (o_append rfl ap25 rfl (by decide) (by decide) rfl (src_lit (.inl rfl) rfl rfl (ic_pureL _)) (ic_cell _) (by rw [icells_length]; omega) (by omega)) ?_
        refine ra (.rsl _ _ _ _ _) ?_
        refine r_pre (ent_reloc_sl (t := 14) rfl rfl) ?_
        refine r_nil ?_
        refine a_region ?_
        refine rm (.int _ _) ?_
        refine rv (v := .int _ _) (v_add il il (fun _ => by omega)) ?_
        refine ra (.int _ _) ?_
        refine r_nil ?_
        have hkj : (ngK (gl L i) (gl (pthL xs) k) (j + 1)) = (ngK (gl L i) (gl (pthL xs) k) j) ++ [-(gd (gl (pthL xs) k) j)] := (by rw [ngK, if_neg (by simpa using ht84)])
        refine ⟨j + 1, ent_look ⟨wr, wr, wr, wr, wr, wr, wr, wr, Weak.osl (by rw [hkj, icells_append]) (by rw [hkj]; simp), Weak.of_eq (int_eq (by omega)), trivial⟩, by omega, by omega⟩
       ·
        refine a_skip ?_
        refine a_pre (ent_look (L := [(0, .int _ _), (2, .sl _ _), (4, .op [.int _ _, .sl _ _]), (8, .osl _ _ _ _), (9, .osl _ _ _ _), (11, .int _ _), (12, .osl _ _ _ _), (13, .int _ _), (14, .osl _ _ _ _), (15, .int _ _)]) ⟨wr, wr, wr, wr, wr, wr, wr, wr, wr, wr, trivial⟩) ?_
        refine a_region ?_
        refine rm (.int _ _) ?_
        refine rv (v := .int _ _) (v_add il il (fun _ => by omega)) ?_
        refine ra (.int _ _) ?_
        refine r_nil ?_
        have hkj : (ngK (gl L i) (gl (pthL xs) k) (j + 1)) = (ngK (gl L i) (gl (pthL xs) k) j) := (by rw [ngK, if_pos (by simpa using ht84)])
        refine ⟨j + 1, ent_look ⟨wr, wr, wr, wr, wr, wr, wr, wr, Weak.osl (by rw [hkj]) (by rw [hkj]), Weak.of_eq (int_eq (by omega)), trivial⟩, by omega, by omega⟩
      ·
       refine a_exit ?_
       have hje : j = (gl (pthL xs) k).length := (by simp at ht67; omega)
       refine a_pre (ent_eq (t := 14) (v' := .osl 1 (icells (ngK (gl L i) (gl (pthL xs) k) (gl (pthL xs) k).length)) (ngK (gl L i) (gl (pthL xs) k) (gl (pthL xs) k).length).length none) (Weak.osl (by rw [hje]) (by rw [hje]))) ?_
       have hrc := ngK_cl (C := (gl L i)) hcs.1 (hpok.2 k) (Nat.le_refl (gl (pthL xs) k).length)
       have hrl := ngK_len (gl L i) (gl (pthL xs) k) (gl (pthL xs) k).length
       have hl1 := trm_len (colD p vars L xs i k)
       have hl1b := colD_len (p := p) (vars := vars) (L := L) (xs := xs) (i := i) k
       have hl2 := trm_len (clD p vars (ngK (gl L i) (gl (pthL xs) k) (gl (pthL xs) k).length))
       have hl2b := clD_len p vars (ngK (gl L i) (gl (pthL xs) k) (gl (pthL xs) k).length)
       have hadd : modp p (linz 1 (accp p (dn vars) (trm (colD p vars L xs i k))) (accp p (dn vars) (trm (clD p vars (ngK (gl L i) (gl (pthL xs) k) (gl (pthL xs) k).length))))) = (colD p vars L xs i (k + 1)) := (by rw [accp_trm (colD_bd (by omega) k) (colD_len k), accp_trm (clD_bd (by omega) _) (clD_len _ _ _), colD, if_pos hcd]; rfl)
       refine a_region_tail (n := 10) mixed (by kernel_rfl) ?_
       refine t_val (v := .int _ _) (v_move (.inl rfl) nf) rfl rfl (by decide) (by kernel_rfl) ?_
       refine t_val (v := .rp _ _) (v_fieldAddr_rp fo29_0 (.inl rfl)) rfl rfl (by decide) (by kernel_rfl) ?_
       refine t_val (v := .int _ _) (v_load_rp1 ta3 (.inl rfl) rfl (fun _ => rfl) rfl) rfl rfl (by decide) (by kernel_rfl) ?_
       refine t_val (v := .rsl _ _ _ _ _) (v_move (.inl rfl) nf) rfl rfl (by decide) (by kernel_rfl) ?_
       refine t_val (v := .int _ _) (v_move (.inl rfl) nf) rfl rfl (by decide) (by kernel_rfl) ?_
       refine t_val (v := .rp _ _) (v_fieldAddr_rp fo29_0 (.inl rfl)) rfl rfl (by decide) (by kernel_rfl) ?_
       refine t_val (v := .int _ _) (v_load_rp1 ta3 (.inl rfl) rfl (fun _ => rfl) rfl) rfl rfl (by decide) (by kernel_rfl) ?_
       refine t_val (v := .rsl _ _ _ _ _) (v_move (.inl rfl) nf) rfl rfl (by decide) (by kernel_rfl) ?_
       refine t_new (v := .osl 2 (tcells (trm (clD p vars (ngK (gl L i) (gl (pthL xs) k) (gl (pthL xs) k).length)))) (trm (clD p vars (ngK (gl L i) (gl (pthL xs) k) (gl (pthL xs) k).length))).length none) (q_call (vs := [.int _ _, .int _ _, .rsl _ _ _ _ _]) (args := [.int .i64 _, .int .i64 _, .sl _ _]) hb52 ⟨.inl rfl, .inl rfl, .inl rfl, trivial⟩ (l3_eq rfl rfl (sl_sh (ic_pure _))) (fun hA => l18Clause_c p vars (ngK (gl L i) (gl (pthL xs) k) (gl (pthL xs) k).length) hp hrc (by omega)) (tc_noSh _) (tc_noRef _)) rfl rfl (by decide) (by kernel_rfl) ?_
       refine t_new (v := .osl 2 (tcells (trm (colD p vars L xs i (k + 1)))) (trm (colD p vars L xs i (k + 1))).length none) (QSem.cast (q_call (vs := [.int _ _, .int _ _, .rsl _ _ _ _ _, .rsl _ _ _ _ _, .int _ _]) (args := [.int .i64 _, .int .i64 _, .sl _ _, .sl _ _, .int .i64 _]) hb51 ⟨.inl rfl, .inl rfl, .inl rfl, .inl rfl, .inl rfl, trivial⟩ (l5_eq rfl rfl (sl_sh (tc_pure _)) (sl_sh (tc_pure _)) rfl) (fun hA => l18Add_c p vars (trm (colD p vars L xs i k)) (trm (clD p vars (ngK (gl L i) (gl (pthL xs) k) (gl (pthL xs) k).length))) 1 ⟨by omega, by omega⟩ hp (trm_good (colD_bd (by omega) k) (colD_len k)) (trm_good (clD_bd (by omega) _) (clD_len _ _ _)) (by omega) (by omega)) (tc_noSh _) (tc_noRef _)) (osl_eq2 (by rw [hadd]) (by rw [hadd]))) rfl rfl (by decide) (by kernel_rfl) ?_
       refine t_nil ?_
       refine ra (.rsl _ _ _ _ _) ?_
       refine r_pre (ent_reloc_sl (t := 12) rfl rfl) ?_
       refine r_nil ?_
       refine a_pre (ent_look (L := [(0, .int _ _), (2, .sl _ _), (4, .op [.int _ _, .sl _ _]), (8, .osl _ _ _ _), (9, .osl _ _ _ _), (11, .int _ _), (12, .osl _ _ _ _), (13, .int _ _), (14, .osl _ _ _ _), (15, .int _ _)]) ⟨wr, wr, wr, wr, wr, wr, wr, wr, wr, wr, trivial⟩) ?_
       refine a_region ?_
       refine rm (.int _ _) ?_
       refine rv (v := .int _ _) (v_add il il (fun _ => by omega)) ?_
       refine ra (.int _ _) ?_
       refine r_nil ?_
       refine ⟨k + 1, ent_look ⟨wr, wr, wr, wr, wr, wr, wr, Weak.of_eq (int_eq (by omega)), trivial⟩, by omega, by omega⟩
    ·
     refine a_exit ?_
     have hkx : k = xs.length := (by simp at ht42; omega)
     refine a_pre (ent_eq (t := 12) (v' := .osl 2 (tcells (trm (colD p vars L xs i xs.length))) (trm (colD p vars L xs i xs.length)).length none) (Weak.osl (by rw [hkx]) (by rw [hkx]))) ?_
     refine a_region ?_
     refine rm (.rsl _ _ _ _ _) ?_
     refine rm (.rsl _ _ _ _ _) ?_
     refine r_pre (ent_reloc_sl (t := 107) rfl rfl) ?_
     refine r_step rfl (o_sliceLit1 (v := .osl _ _ _ _) rfl lt41 rfl rfl (by decide) (by decide) rfl rfl (by simp [cellsOf, noRefL, noRef, tc_noRef]) rfl rfl) ?_
     refine r_pre (ent_reloc_sl (t := 106) rfl rfl) ?_
     refine r_step rfl (o_append_own rfl ap41 rfl (by decide) (by decide) (by decide) (by decide) rfl rfl rfl (by rw [oacl_length]; omega) rfl (by omega)) ?_
     refine r_pre (ent_eq (t := 109) (v' := .osl 1 (oacl (ctP p vars L xs (i + 1))) (ctP p vars L xs (i + 1)).length none) (Weak.osl (by rw [ctP_succ, oacl_append]; rfl) (by rw [ctP_len, ctP_len]))) ?_
     refine ra (.rsl _ _ _ _ _) ?_
     refine r_pre (ent_reloc_sl (t := 8) rfl rfl) ?_
     refine r_nil ?_
     refine a_region ?_
     refine rm (.int _ _) ?_
     refine rv (v := .int _ _) (v_add il il (fun _ => by omega)) ?_
     refine ra (.int _ _) ?_
     refine r_nil ?_
     refine ⟨i + 1, ent_look ⟨wr, wr, wr, wr, wr, Weak.of_eq (int_eq (by omega)), trivial⟩, by omega, by omega⟩
   ·
    refine a_exit ?_
    refine aq ?_
    refine rm (.rsl _ _ _ _ _) ?_
    refine ra (.rsl _ _ _ _ _) ?_
    refine r_pre (ent_reloc_sl (t := 6) rfl rfl) ?_
    refine ra (.bool _) ?_
    refine r_nil ?_
    refine a_ret ?_
    refine retL (rs := [.tmp 6, .tmp 7]) [(6, .osl _ _ _ none), (7, _)] ⟨Weak.osl rfl rfl, wr, trivial⟩ rfl Tryz.results18 (by decide) ⟨by decide, by decide, rfl⟩ (by decide) (by decide) (l2_eq (osl_eq2 ?_ ?_) (bool_eq ?_)) rfl
    all_goals (have hie : i = L.length := (by simp at ht35; omega))
    all_goals (first | exact hok.symm | (rw [ct_yes hok, ← hie]) | (rw [ct_yes hok, hie]; rfl))
theorem mkC_full {k : Int} {cs : List AV} {m : Nat} (h : cs.length = m) : mkC k cs m = icells (mkI k m) := by
 subst h
 simp [mkC, mkI, icells]
theorem markTN_c (xs : List TN) (k : Int) (h : -9000000000000000000 ≤ k ∧ k + 4 * xs.length ≤ 9223372036854775807) : ACall Tryz.prog 23 [.rsl (INH, []) 4 0 xs.length none, .int .i64 k] [.osl 4 (tncells xs) xs.length none] (.int .i64 (k + 4 * xs.length)) [.osl 4 (icells (mkI k (xs.length * 4))) xs.length none] := by
 refine ACall.intro Tryz.func23 rfl (N := 41) rfl (by decide) (by simp) ?_
 refine aq ?_
 refine ra (.int _ _) ?_
 refine r_nil ?_
 refine a_seq ?_
 refine aq ?_
 refine ra (.int _ _) ?_
 refine r_nil ?_
 refine a_block ?_
 refine a_loop (X := Nat) (fun i => look [(0, .rsl (INH, []) 4 0 xs.length none), (1, .int .i64 (k + 4 * (i : Nat))), (5, .int .i64 ((i : Nat) : Int)), (INH, .osl 4 (mkC k (tncells xs) (i * 4)) xs.length none)]) (fun i => i ≤ xs.length) (fun i => xs.length - i) 0 (ent_look ⟨wr, Weak.of_eq (int_eq (by omega)), wr, Weak.of_eq (osl_eq (by rw [Nat.zero_mul, mkC_zero])), trivial⟩) (Nat.zero_le _) (fun i hG => ?_)
 refine a_seq ?_
 refine aq ?_
 refine rm (.int _ _) ?_
 refine rm (.rsl _ _ _ _ _) ?_
 refine rv (v := .int _ _) (v_len_rsl sl44 il) ?_
 refine rv (v := .bool _) (v_lss il il) ?_
 refine r_nil ?_
 refine a_cond rfl (fun ht9 => ?_) (fun ht9 => ?_)
 ·
  refine a_skip ?_
  refine a_seq ?_
  refine a_block ?_
  refine a_seq ?_
  have hi : i < xs.length := (by simp at ht9; omega)
  have hp0 : i * 4 + 0 + 1 ≤ (mkC k (tncells xs) (i * 4 + 0)).length := (by rw [mkC_length (by rw [tncells_length]; omega), tncells_length]; omega)
  have hs0 : (mkC k (tncells xs) (i * 4 + 0)).set (i * 4 + 0) (.int .i64 (k + 4 * (i : Nat))) = mkC k (tncells xs) (i * 4 + 1) := (by have h9 := mkC_set (k := k) (cs := tncells xs) (m := i * 4 + 0) (by rw [tncells_length]; omega); rw [show k + ((i * 4 + 0 : Nat) : Int) = (k + 4 * (i : Nat)) by omega] at h9; exact h9)
  have hp1 : i * 4 + 1 + 1 ≤ (mkC k (tncells xs) (i * 4 + 1)).length := (by rw [mkC_length (by rw [tncells_length]; omega), tncells_length]; omega)
  have hs1 : (mkC k (tncells xs) (i * 4 + 1)).set (i * 4 + 1) (.int .i64 (k + 4 * (i : Nat) + 1)) = mkC k (tncells xs) (i * 4 + 2) := (by have h9 := mkC_set (k := k) (cs := tncells xs) (m := i * 4 + 1) (by rw [tncells_length]; omega); rw [show k + ((i * 4 + 1 : Nat) : Int) = (k + 4 * (i : Nat) + 1) by omega] at h9; exact h9)
  have hp2 : i * 4 + 2 + 1 ≤ (mkC k (tncells xs) (i * 4 + 2)).length := (by rw [mkC_length (by rw [tncells_length]; omega), tncells_length]; omega)
  have hs2 : (mkC k (tncells xs) (i * 4 + 2)).set (i * 4 + 2) (.int .i64 (k + 4 * (i : Nat) + 1 + 1)) = mkC k (tncells xs) (i * 4 + 3) := (by have h9 := mkC_set (k := k) (cs := tncells xs) (m := i * 4 + 2) (by rw [tncells_length]; omega); rw [show k + ((i * 4 + 2 : Nat) : Int) = (k + 4 * (i : Nat) + 1 + 1) by omega] at h9; exact h9)
  have hp3 : i * 4 + 3 + 1 ≤ (mkC k (tncells xs) (i * 4 + 3)).length := (by rw [mkC_length (by rw [tncells_length]; omega), tncells_length]; omega)
  have hs3 : (mkC k (tncells xs) (i * 4 + 3)).set (i * 4 + 3) (.int .i64 (k + 4 * (i : Nat) + 1 + 1 + 1)) = mkC k (tncells xs) (i * 4 + 4) := (by have h9 := mkC_set (k := k) (cs := tncells xs) (m := i * 4 + 3) (by rw [tncells_length]; omega); rw [show k + ((i * 4 + 3 : Nat) : Int) = (k + 4 * (i : Nat) + 1 + 1 + 1) by omega] at h9; exact h9)
  refine a_region ?_
  refine rm (.rsl _ _ _ _ _) ?_
  refine rm (.int _ _) ?_
  refine rm (.int _ _) ?_
  refine rv (v := .rp _ _) (v_indexAddr_rsl0 es44 il il (fun _ => by omega)) ?_
  refine rv (v := .rp _ _) (v_fieldAddr_rp fo75_0 il) ?_
  refine r_step rfl (o_store (v := .int _ _) (y' := .osl _ _ _ _) rfl rfl ta3 il il rfl rfl rfl rfl rfl rfl hp0 (by decide) rfl (congrArg (fun c => AV.osl 4 c xs.length none) hs0)) ?_
  refine r_nil ?_
  refine aq ?_
  refine rm (.int _ _) ?_
  refine rv (v := .int _ _) (v_add il il (fun _ => by omega)) ?_
  refine ra (.int _ _) ?_
  refine r_nil ?_
  refine aq ?_
  refine rm (.rsl _ _ _ _ _) ?_
  refine rm (.int _ _) ?_
  refine rm (.int _ _) ?_
  refine rv (v := .rp _ _) (v_indexAddr_rsl0 es44 il il (fun _ => by omega)) ?_
  refine rv (v := .rp _ _) (v_fieldAddr_rp fo75_1 il) ?_
  refine r_step rfl (o_store (v := .int _ _) (y' := .osl _ _ _ _) rfl rfl ta3 il il rfl rfl rfl rfl rfl rfl hp1 (by decide) rfl (congrArg (fun c => AV.osl 4 c xs.length none) hs1)) ?_
  refine r_nil ?_
  refine aq ?_
  refine rm (.int _ _) ?_
  refine rv (v := .int _ _) (v_add il il (fun _ => by omega)) ?_
  refine ra (.int _ _) ?_
  refine r_nil ?_
  refine aq ?_
  refine rm (.rsl _ _ _ _ _) ?_
  refine rm (.int _ _) ?_
  refine rm (.int _ _) ?_
  refine rv (v := .rp _ _) (v_indexAddr_rsl0 es44 il il (fun _ => by omega)) ?_
  refine rv (v := .rp _ _) (v_fieldAddr_rp fo75_2 il) ?_
  refine r_step rfl (o_store (v := .int _ _) (y' := .osl _ _ _ _) rfl rfl ta3 il il rfl rfl rfl rfl rfl rfl hp2 (by decide) rfl (congrArg (fun c => AV.osl 4 c xs.length none) hs2)) ?_
  refine r_nil ?_
  refine a_seq ?_
  refine a_pre (ent_look (L := [(0, .rsl _ _ _ _ _), (1, .int _ _), (5, .int _ _), (INH, .osl _ _ _ _)]) ⟨wr, wr, wr, wr, trivial⟩) ?_
  refine a_region ?_
  refine rm (.int _ _) ?_
  refine rv (v := .int _ _) (v_add il il (fun _ => by omega)) ?_
  refine ra (.int _ _) ?_
  refine r_nil ?_
  refine aq ?_
  refine rm (.rsl _ _ _ _ _) ?_
  refine rm (.int _ _) ?_
  refine rm (.int _ _) ?_
  refine rv (v := .rp _ _) (v_indexAddr_rsl0 es44 il il (fun _ => by omega)) ?_
  refine rv (v := .rp _ _) (v_fieldAddr_rp fo75_3 il) ?_
  refine r_step rfl (o_store (v := .int _ _) (y' := .osl _ _ _ _) rfl rfl ta3 il il rfl rfl rfl rfl rfl rfl hp3 (by decide) rfl (congrArg (fun c => AV.osl 4 c xs.length none) hs3)) ?_
  refine r_nil ?_
  refine a_region ?_
  refine rm (.int _ _) ?_
  refine rv (v := .int _ _) (v_add il il (fun _ => by omega)) ?_
  refine ra (.int _ _) ?_
  refine r_nil ?_
  refine a_region ?_
  refine rm (.int _ _) ?_
  refine rv (v := .int _ _) (v_add il il (fun _ => by omega)) ?_
  refine ra (.int _ _) ?_
  refine r_nil ?_
  refine ⟨i + 1, ent_look ⟨wr, Weak.of_eq (int_eq (by omega)), Weak.of_eq (int_eq (by omega)), Weak.of_eq (osl_eq (by rw [show (i + 1) * 4 = i * 4 + 4 by omega])), trivial⟩, by omega, by omega⟩
 ·
  refine a_exit ?_
  refine aq ?_
  refine rm (.int _ _) ?_
  refine ra (.int _ _) ?_
  refine r_nil ?_
  refine a_ret ?_
  refine ret1 Tryz.results23 (by decide) (by decide) (Weak.of_eq (int_eq ?_)) rfl (Leaves.one (Weak.of_eq (osl_eq (by simp at ht9; rw [show i = xs.length by omega, mkC_full (tncells_length xs)]))) rfl)
  simp at ht9; omega
theorem hb11 : hasBody Tryz.prog 11 = true := by kernel_rfl
theorem hb13 : hasBody Tryz.prog 13 = true := by kernel_rfl
theorem hb17 : hasBody Tryz.prog 17 = true := by kernel_rfl
theorem hb18 : hasBody Tryz.prog 18 = true := by kernel_rfl
theorem hb19 : hasBody Tryz.prog 19 = true := by kernel_rfl
theorem hb20 : hasBody Tryz.prog 20 = true := by kernel_rfl
theorem hb21 : hasBody Tryz.prog 21 = true := by kernel_rfl
theorem hb22 : hasBody Tryz.prog 22 = true := by kernel_rfl
theorem hb23 : hasBody Tryz.prog 23 = true := by kernel_rfl
theorem hb24 : hasBody Tryz.prog 24 = true := by kernel_rfl
theorem hb25 : hasBody Tryz.prog 25 = true := by kernel_rfl
theorem hb5 : hasBody Tryz.prog 5 = true := by kernel_rfl
theorem hb7 : hasBody Tryz.prog 7 = true := by kernel_rfl
theorem ta24 : tyAgg Tryz.prog 24 = some (true, 2) := by kernel_rfl
theorem un4 : Tryz.prog.underlying 4 = some .bool := by kernel_rfl
theorem lawTreeCertificate_c (p vars : Int) (L : List (List Int)) (xs : List TN) (hv : -9223372036854775808 ≤ vars ∧ vars ≤ 9223372036854775807) (hlen : ∀ i, ((gl L i).length : Int) ≤ 9223372036854775807) (hL : (L.length : Int) ≤ 9223372036854775807) (hbb : ∀ i j, -9223372036854775808 ≤ gd (gl L i) j ∧ gd (gl L i) j ≤ 9223372036854775807) (hlN : (xs.length : Int) ≤ 9223372036854775807) : ACall Tryz.prog 4 [.int .i64 p, .agg [.int .i64 vars, .sl (sls L) L.length], .sl (tncells xs) xs.length] [] (.bool true) [] := by
 have hrT := ctR_tot (p := p) (vars := vars) (L := L) (xs := xs)
 have hrA := fun i => lenA_tot (A := (ctR p vars L xs)) (i := i)
 refine ACall.intro Tryz.func4 rfl (N := 124) rfl (by decide) (by simp) ?_
 refine aq ?_
 refine rn (v := .op [.int _ _, .sl _ _]) (q_box il rfl rfl) ?_
 refine ra (.bool _) ?_
 refine r_nil ?_
 refine aq ?_
 refine ra (.int _ _) ?_
 refine r_nil ?_
 refine aq ?_
 refine rv (v := .agg [.int _ _, .sl _ _]) (v_load_rpa1 ta24 il rfl rfl (fun _ => rfl) rfl) ?_
 refine rm (.int _ _) ?_
 refine rn (v := .int _ _) (q_call (vs := [.agg [.int _ _, .sl _ _], .int _ _]) (args := [.agg [.int .i64 _, .sl _ _], .int .i64 _]) hb5 ⟨il, il, trivial⟩ rfl (fun hA => szCnf_c _ _ _ (by omega) hlen hL) rfl rfl) ?_
 refine ra (.int _ _) ?_
 refine r_nil ?_
 refine a_seq ?_
 refine aq ?_
 refine rm (.int _ _) ?_
 refine rv (v := .bool _) (v_lss il il) ?_
 refine r_nil ?_
 refine a_cond rfl (fun ht23 => ?_) (fun ht23 => ?_)
 ·
  refine aq ?_
  refine ra (.bool _) ?_
  refine r_nil ?_
  refine a_ret ?_
  refine ret1 Tryz.results4 (by decide) (by decide) (Weak.of_eq (bool_eq ?_)) rfl Leaves.nil
  first | rfl | (exfalso; simp at ht23; done) | (exfalso; simp at ht23; omega)
 ·
  refine a_skip ?_
  refine a_seq ?_
  have hsz : L.length + tot L L.length ≤ 1048576 := (by have h9 := of_decide_eq_false ht23; unfold szR at h9; split at h9 <;> omega)
  have hk : CnfOk vars L := ⟨hv, by omega, by omega, hbb⟩
  have hll := fun i => len_tot (L := L) (i := i)
  have hsr : szR 1048576 ((L.length + tot L L.length : Nat) : Int) = 1048576 - ((L.length + tot L L.length : Nat) : Int) := (by unfold szR; rw [if_neg (by omega)])
  refine a_region ?_
  refine rm (.sl _ _) ?_
  refine rm (.int _ _) ?_
  refine rn (v := .int _ _) (q_call (vs := [.sl _ _, .int _ _]) (args := [.sl _ _, .int .i64 _]) hb17 ⟨il, il, trivial⟩ rfl (fun hA => szTN_c xs _ (by omega)) rfl rfl) ?_
  refine ra (.int _ _) ?_
  refine r_nil ?_
  refine a_seq ?_
  refine aq ?_
  refine rm (.int _ _) ?_
  refine rv (v := .bool _) (v_lss il il) ?_
  refine r_nil ?_
  refine a_cond rfl (fun ht28 => ?_) (fun ht28 => ?_)
  ·
   refine a_seq ?_
   refine a_pre (ent_look (L := [(0, .int _ _), (2, .sl _ _), (4, .op [.int _ _, .sl _ _]), (6, .bool _)]) ⟨wr, wr, wr, wr, trivial⟩) ?_
   refine a_region ?_
   refine ra (.bool _) ?_
   refine r_nil ?_
   refine a_ret ?_
   refine ret1 Tryz.results4 (by decide) (by decide) (Weak.of_eq (bool_eq ?_)) rfl Leaves.nil
   first | rfl | (exfalso; simp at ht28; done) | (exfalso; simp at ht28; omega)
  ·
   refine a_skip ?_
   refine a_seq ?_
   refine a_pre (ent_look (L := [(0, .int _ _), (2, .sl _ _), (4, .op [.int _ _, .sl _ _]), (6, .bool _)]) ⟨wr, wr, wr, wr, trivial⟩) ?_
   have hsr : szR 1048576 ((L.length + tot L L.length : Nat) : Int) = 1048576 - ((L.length + tot L L.length : Nat) : Int) := (by unfold szR; rw [if_neg (by omega)])
   have hszN : xs.length ≤ 1048576 := (by have h9 := of_decide_eq_false ht28; rw [hsr] at h9; split at h9 <;> omega)
   refine a_region ?_
   refine rm (.int _ _) ?_
   refine rv (v := .agg [.int _ _, .sl _ _]) (v_load_rpa1 ta24 il rfl rfl (fun _ => rfl) rfl) ?_
   refine rn (v := .agg [.int _ _, .osl _ _ _ _]) (q_call (vs := [.agg [.int _ _, .sl _ _]]) (args := [.agg [.int .i64 _, .sl _ _]]) hb7 ⟨il, trivial⟩ rfl (fun hA => toCnf_c _ _ (by omega) (by omega)) (by simp [noSh, noShL, osls_noSh]) (by simp [noRef, noRefL, osls_noRef])) ?_
   refine rm (.sl _ _) ?_
   refine rn (v := .osl _ _ _ _) (q_call (vs := [.sl _ _]) (args := [.sl _ _]) hb19 ⟨il, trivial⟩ rfl (fun hA => toTNS_c xs (by omega)) (tn_noSh _) (tn_noRef _)) ?_
   refine rn (v := .tup [.osl _ _ _ _, .bool _]) (q_call (vs := [.int _ _, .agg [.int _ _, .rsl _ _ _ _ _], .rsl _ _ _ _ _]) (args := [.int .i64 _, .agg [.int .i64 _, .sl _ _], .sl _ _]) hb18 ⟨il, il, il, trivial⟩ (l3_eq rfl (agg_eq (l2_eq rfl sl_osls)) (sl_sh (tn_pure _))) (fun hA => sCt_c p vars L xs hk hszN) (by simp [noSh, noShL, oacl_noSh]) (by simp [noRef, noRefL, oacl_noRef])) ?_
   refine rv (v := .tup [.rsl _ _ _ _ _, .bool _]) (v_mv rfl) ?_
   refine rv (v := .rsl _ _ _ _ _) (v_extract rfl rfl) ?_
   refine rv (v := .bool _) (v_extract rfl rfl) ?_
   refine ra (.rsl _ _ _ _ _) ?_
   refine r_pre (ent_reloc_sl (t := 8) rfl rfl) ?_
   refine ra (.bool _) ?_
   refine r_nil ?_
   refine a_seq ?_
   refine a_pre (ent_look (L := [(0, .int _ _), (2, .sl _ _), (4, .op [.int _ _, .sl _ _]), (6, .bool _), (8, .osl _ _ _ _), (9, .bool _)]) ⟨wr, wr, wr, wr, wr, wr, trivial⟩) ?_
   refine a_region ?_
   refine rv (v := .agg [.int _ _, .sl _ _]) (v_load_rpa1 ta24 il rfl rfl (fun _ => rfl) rfl) ?_
   refine rn (v := .agg [.int _ _, .osl _ _ _ _]) (q_call (vs := [.agg [.int _ _, .sl _ _]]) (args := [.agg [.int .i64 _, .sl _ _]]) hb7 ⟨il, trivial⟩ rfl (fun hA => toCnf_c _ _ (by omega) (by omega)) (by simp [noSh, noShL, osls_noSh]) (by simp [noRef, noRefL, osls_noRef])) ?_
   refine rn (v := .op [.int _ _, .nils]) (q_alloc zc29) ?_
   refine r_step rfl (o_store_own (v := .agg [.int _ _, .osl _ _ _ _]) (y' := .op [.int _ _, .osl _ _ _ _]) rfl rfl ta29 (.inl rfl) (by decide) rfl (by decide) rfl (by simp [cellsOf, noRefL, noRef, osls_noRef]) rfl rfl rfl rfl rfl (Nat.le_of_ble_eq_true rfl) rfl rfl) ?_
   refine r_nil ?_
   refine aq ?_
   refine rm (.sl _ _) ?_
   refine rn (v := .osl _ _ _ _) (q_call (vs := [.sl _ _]) (args := [.sl _ _]) hb19 ⟨il, trivial⟩ rfl (fun hA => toTNS_c xs (by omega)) (tn_noSh _) (tn_noRef _)) ?_
   refine ra (.rsl _ _ _ _ _) ?_
   refine r_pre (ent_reloc_sl (t := 11) rfl rfl) ?_
   refine r_nil ?_
   refine aq ?_
   refine rm (.int _ _) ?_
   refine rv (v := .agg [.int _ _, .rsl _ _ _ _ _]) (v_load_rpa (xs := [.int _ _, .osl _ _ _ _]) ta29 il rfl rfl (fun _ => take_get rfl)) ?_
   refine rm (.rsl _ _ _ _ _) ?_
   refine rn (v := .tup [.osl _ _ _ _, .bool _]) (q_call (vs := [.int _ _, .agg [.int _ _, .rsl _ _ _ _ _], .rsl _ _ _ _ _]) (args := [.int .i64 _, .agg [.int .i64 _, .sl _ _], .sl _ _]) hb20 ⟨il, il, il, trivial⟩ (l3_eq rfl (agg_eq (l2_eq rfl sl_osls)) (sl_sh (tn_pure _))) (fun hA => iCt_c p vars L xs hk hszN) (by simp [noSh, noShL, oacl_noSh]) (by simp [noRef, noRefL, oacl_noRef])) ?_
   refine rv (v := .tup [.rsl _ _ _ _ _, .bool _]) (v_mv rfl) ?_
   refine rv (v := .rsl _ _ _ _ _) (v_extract rfl rfl) ?_
   refine rv (v := .bool _) (v_extract rfl rfl) ?_
   refine ra (.rsl _ _ _ _ _) ?_
   refine r_pre (ent_reloc_sl (t := 12) rfl rfl) ?_
   refine ra (.bool _) ?_
   refine r_nil ?_
   refine a_seq ?_
   refine a_seq ?_
   refine a_pre (ent_look (L := [(0, .int _ _), (2, .sl _ _), (4, .op [.int _ _, .sl _ _]), (6, .bool _), (8, .osl _ _ _ _), (9, .bool _), (10, .op [.int _ _, .osl _ _ _ _]), (11, .osl _ _ _ _), (12, .osl _ _ _ _), (13, .bool _)]) ⟨wr, wr, wr, wr, wr, wr, wr, wr, wr, wr, trivial⟩) ?_
   refine a_region ?_
   refine rm (.rsl _ _ _ _ _) ?_
   refine rm (.rsl _ _ _ _ _) ?_
   refine rn (v := .bool _) (q_call (vs := [.rsl _ _ _ _ _, .rsl _ _ _ _ _]) (args := [.sl _ _, .sl _ _]) hb21 ⟨il, il, trivial⟩ (l2_eq sl_oacl sl_oacl) (fun hA => eqTSS_c _ _ (fun i => by have := hrA i; omega) (by omega) (by omega)) rfl rfl) ?_
   refine rv (v := .bool _) (v_not il) ?_
   refine rm (.bool _) ?_
   refine rg (v := .bool _) (v_move il nf) ?_
   refine rg (v := .bool _) (v_move il nf) ?_
   refine r_gval (v := .bool _) (v_bne un4 (.inr ⟨_, rfl, fun h => h⟩) (.inr ⟨_, rfl, fun h => h⟩)) rfl rfl rfl (by decide) (.inl ⟨_, rfl, rfl⟩) rfl (by decide) ?_
   refine rv (v := .bool _) (v_pick (.inl rfl) (.inl rfl) (.inr ⟨_, rfl, fun h h2 => by simp_all⟩)) ?_
   refine r_nil ?_
   refine a_cond rfl (fun ht57 => ?_) (fun ht57 => ?_)
   ·
    refine a_seq ?_
    refine a_pre (ent_look (L := [(0, .int _ _), (2, .sl _ _), (4, .op [.int _ _, .sl _ _]), (6, .bool _), (8, .osl _ _ _ _), (9, .bool _), (10, .op [.int _ _, .osl _ _ _ _]), (11, .osl _ _ _ _), (12, .osl _ _ _ _), (13, .bool _)]) ⟨wr, wr, wr, wr, wr, wr, wr, wr, wr, wr, trivial⟩) ?_
    refine a_region ?_
    refine ra (.bool _) ?_
    refine r_nil ?_
    refine a_ret ?_
    refine ret1 Tryz.results4 (by decide) (by decide) (Weak.of_eq (bool_eq ?_)) rfl Leaves.nil
    first | rfl | (exfalso; simp at ht57; done) | (exfalso; simp at ht57; omega)
   ·
    refine a_skip ?_
    refine a_seq ?_
    refine a_seq ?_
    refine a_pre (ent_look (L := [(0, .int _ _), (2, .sl _ _), (4, .op [.int _ _, .sl _ _]), (6, .bool _), (8, .osl _ _ _ _), (9, .bool _), (10, .op [.int _ _, .osl _ _ _ _]), (11, .osl _ _ _ _), (12, .osl _ _ _ _), (13, .bool _)]) ⟨wr, wr, wr, wr, wr, wr, wr, wr, wr, wr, trivial⟩) ?_
    refine a_region_any mixed (by kernel_rfl) ?_
    refine yv (v := .agg [.int _ _, .rsl _ _ _ _ _]) (v_load_rpa (xs := [.int _ _, .osl _ _ _ _]) ta29 il rfl rfl (fun _ => take_get rfl)) ?_
    refine yv (v := .agg [.int _ _, .sl _ _]) (v_load_rpa1 ta24 il rfl rfl (fun _ => rfl) rfl) ?_
    refine y_new (v := .agg [.int _ _, .osl _ _ _ _]) (q_call (vs := [.agg [.int _ _, .sl _ _]]) (args := [.agg [.int .i64 _, .sl _ _]]) hb7 ⟨.inl rfl, trivial⟩ rfl (fun hA => toCnf_c _ _ (by omega) (by omega)) (by simp [noSh, noShL, osls_noSh]) (by simp [noRef, noRefL, osls_noRef])) rfl rfl (by decide) (by kernel_rfl) ?_
    refine y_new (v := .bool _) (q_call (vs := [.agg [.int _ _, .rsl _ _ _ _ _], .agg [.int _ _, .rsl _ _ _ _ _]]) (args := [.agg [.int .i64 _, .sl _ _], .agg [.int .i64 _, .sl _ _]]) hb11 ⟨.inl rfl, .inl rfl, trivial⟩ (l2_eq (agg_eq (l2_eq rfl sl_osls)) (agg_eq (l2_eq rfl sl_osls))) (fun hA => eqCnf_c _ _ _ _ (by omega) (by omega) (fun i => by first | (have := hrl i; omega) | (have := hll i; omega))) rfl rfl) rfl rfl (by decide) (by kernel_rfl) ?_
    refine yv (v := .bool _) (v_not il) ?_
    refine y_nil ?_
    refine a_cond rfl (fun ht62 => ?_) (fun ht62 => ?_)
    ·
     refine a_seq ?_
     refine a_pre (ent_look (L := [(0, .int _ _), (2, .sl _ _), (4, .op [.int _ _, .sl _ _]), (6, .bool _), (8, .osl _ _ _ _), (9, .bool _), (10, .op [.int _ _, .osl _ _ _ _]), (11, .osl _ _ _ _), (12, .osl _ _ _ _), (13, .bool _)]) ⟨wr, wr, wr, wr, wr, wr, wr, wr, wr, wr, trivial⟩) ?_
     refine a_region ?_
     refine ra (.bool _) ?_
     refine r_nil ?_
     refine a_ret ?_
     refine ret1 Tryz.results4 (by decide) (by decide) (Weak.of_eq (bool_eq ?_)) rfl Leaves.nil
     first | rfl | (exfalso; simp at ht62; done) | (exfalso; simp at ht62; omega)
    ·
     refine a_skip ?_
     refine a_seq ?_
     refine a_seq ?_
     refine a_pre (ent_look (L := [(0, .int _ _), (2, .sl _ _), (4, .op [.int _ _, .sl _ _]), (6, .bool _), (8, .osl _ _ _ _), (9, .bool _), (10, .op [.int _ _, .osl _ _ _ _]), (11, .osl _ _ _ _), (12, .osl _ _ _ _), (13, .bool _)]) ⟨wr, wr, wr, wr, wr, wr, wr, wr, wr, wr, trivial⟩) ?_
     refine a_region ?_
     refine rm (.rsl _ _ _ _ _) ?_
     refine rm (.sl _ _) ?_
     refine rn (v := .osl _ _ _ _) (q_call (vs := [.sl _ _]) (args := [.sl _ _]) hb19 ⟨il, trivial⟩ rfl (fun hA => toTNS_c xs (by omega)) (tn_noSh _) (tn_noRef _)) ?_
     refine rn (v := .bool _) (q_call (vs := [.rsl _ _ _ _ _, .rsl _ _ _ _ _]) (args := [.sl _ _, .sl _ _]) hb22 ⟨il, il, trivial⟩ (l2_eq (sl_sh (tn_pure _)) (sl_sh (tn_pure _))) (fun hA => eqTNS_c _ _ (by omega) (by omega)) rfl rfl) ?_
     refine rv (v := .bool _) (v_not il) ?_
     refine r_nil ?_
     refine a_cond rfl (fun ht67 => ?_) (fun ht67 => ?_)
     ·
      refine a_seq ?_
      refine a_pre (ent_look (L := [(0, .int _ _), (2, .sl _ _), (4, .op [.int _ _, .sl _ _]), (6, .bool _), (8, .osl _ _ _ _), (9, .bool _), (10, .op [.int _ _, .osl _ _ _ _]), (11, .osl _ _ _ _), (12, .osl _ _ _ _), (13, .bool _)]) ⟨wr, wr, wr, wr, wr, wr, wr, wr, wr, wr, trivial⟩) ?_
      refine a_region ?_
      refine ra (.bool _) ?_
      refine r_nil ?_
      refine a_ret ?_
      refine ret1 Tryz.results4 (by decide) (by decide) (Weak.of_eq (bool_eq ?_)) rfl Leaves.nil
      first | rfl | (exfalso; simp at ht67; done) | (exfalso; simp at ht67; omega)
     ·
      refine a_skip ?_
      refine a_seq ?_
      refine a_pre (ent_look (L := [(0, .int _ _), (2, .sl _ _), (4, .op [.int _ _, .sl _ _]), (6, .bool _), (8, .osl _ _ _ _), (9, .bool _), (10, .op [.int _ _, .osl _ _ _ _]), (11, .osl _ _ _ _), (12, .osl _ _ _ _), (13, .bool _)]) ⟨wr, wr, wr, wr, wr, wr, wr, wr, wr, wr, trivial⟩) ?_
      refine a_region ?_
      refine ra (.int _ _) ?_
      refine r_nil ?_
      refine aq ?_
      refine rv (v := .agg [.int _ _, .rsl _ _ _ _ _]) (v_load_rpa (xs := [.int _ _, .osl _ _ _ _]) ta29 il rfl rfl (fun _ => take_get rfl)) ?_
      refine rm (.int _ _) ?_
      refine r_step rfl (o_callIO (q := (10, [1])) (vs := [.agg [.int _ _, .rsl _ _ _ _ _], .int _ _]) (args := [.agg [.int .i64 _, .rsl (INH, []) _ _ _ _], .int .i64 _]) (x0 := .osl _ _ _ _) (x1 := .osl _ _ _ _) (res := .int _ _) rfl hb13 rfl (by decide) ⟨.inl rfl, .inl rfl, trivial⟩ rfl rfl (markCnf_c _ _ _ (by omega) (by omega) (by omega)) rfl rfl rfl (osls_noSh _) (osls_noRef _) (Nat.le_of_ble_eq_true rfl) (by decide) rfl) ?_
      refine ra (.int _ _) ?_
      refine r_nil ?_
      refine a_seq ?_
      refine a_pre (ent_look (L := [(0, .int _ _), (2, .sl _ _), (4, .op [.int _ _, .sl _ _]), (6, .bool _), (8, .osl _ _ _ _), (9, .bool _), (11, .osl _ _ _ _), (12, .osl _ _ _ _), (13, .bool _), (14, .int _ _)]) ⟨wr, wr, wr, wr, wr, wr, wr, wr, wr, wr, trivial⟩) ?_
      refine a_region ?_
      refine rm (.rsl _ _ _ _ _) ?_
      refine rm (.int _ _) ?_
      refine r_step rfl (o_callIO (q := (11, [])) (vs := [.rsl _ _ _ _ _, .int _ _]) (args := [.rsl (INH, []) _ _ _ _, .int .i64 _]) (x0 := .osl _ _ _ _) (x1 := .osl _ _ _ _) (res := .int _ _) rfl hb23 rfl (by decide) ⟨.inl rfl, .inl rfl, trivial⟩ rfl rfl (markTN_c _ _ (by omega)) rfl rfl rfl (ic_noSh _) (ic_noRef _) (Nat.le_of_ble_eq_true rfl) (by decide) rfl) ?_
      refine ra (.int _ _) ?_
      refine r_nil ?_
      refine a_seq ?_
      refine a_seq ?_
      refine a_pre (ent_look (L := [(0, .int _ _), (2, .sl _ _), (4, .op [.int _ _, .sl _ _]), (6, .bool _), (8, .osl _ _ _ _), (9, .bool _), (12, .osl _ _ _ _), (13, .bool _), (14, .int _ _)]) ⟨wr, wr, wr, wr, wr, wr, wr, wr, wr, trivial⟩) ?_
      refine a_region ?_
      refine rm (.int _ _) ?_
      refine rv (v := .bool _) (v_lss il il) ?_
      refine rm (.bool _) ?_
      refine rg (v := .rsl _ _ _ _ _) (v_move il nf) ?_
      refine rg (v := .rsl _ _ _ _ _) (v_move il nf) ?_
      refine r_guard (v := .bool _) (q_call (vs := [.rsl _ _ _ _ _, .rsl _ _ _ _ _]) (args := [.sl _ _, .sl _ _]) hb21 ⟨.inr ⟨_, rfl, fun h => h⟩, .inr ⟨_, rfl, fun h => h⟩, trivial⟩ (l2_eq sl_oacl sl_oacl) (fun hA => eqTSS_c _ _ (fun i => by have := hrA i; omega) (by omega) (by omega)) rfl rfl) rfl rfl rfl (by decide) (.inl ⟨_, rfl, rfl⟩) rfl (by decide) ?_
      refine r_gval (v := .bool _) (v_not (.inr ⟨_, rfl, fun h => h⟩)) rfl rfl rfl (by decide) (.inl ⟨_, rfl, rfl⟩) rfl (by decide) ?_
      refine rv (v := .bool _) (v_pick (.inl rfl) (.inl rfl) (.inr ⟨_, rfl, fun h h2 => by simp_all⟩)) ?_
      refine rm (.bool _) ?_
      refine rg (v := .bool _) (v_move il nf) ?_
      refine rg (v := .bool _) (v_move il nf) ?_
      refine r_gval (v := .bool _) (v_bne un4 (.inr ⟨_, rfl, fun h => h⟩) (.inr ⟨_, rfl, fun h => h⟩)) rfl rfl rfl (by decide) (.inl ⟨_, rfl, rfl⟩) rfl (by decide) ?_
      refine rv (v := .bool _) (v_pick (.inl rfl) (.inl rfl) (.inr ⟨_, rfl, fun h h2 => by simp_all⟩)) ?_
      refine r_nil ?_
      refine a_cond rfl (fun ht86 => ?_) (fun ht86 => ?_)
      ·
       refine a_seq ?_
       refine a_pre (ent_look (L := [(0, .int _ _), (2, .sl _ _), (4, .op [.int _ _, .sl _ _]), (6, .bool _), (8, .osl _ _ _ _), (9, .bool _), (12, .osl _ _ _ _)]) ⟨wr, wr, wr, wr, wr, wr, wr, trivial⟩) ?_
       refine a_region ?_
       refine ra (.bool _) ?_
       refine r_nil ?_
       refine a_ret ?_
       refine ret1 Tryz.results4 (by decide) (by decide) (Weak.of_eq (bool_eq ?_)) rfl Leaves.nil
       first | rfl | (exfalso; simp at ht86; done) | (exfalso; simp at ht86; omega)
      ·
       refine a_skip ?_
       refine a_seq ?_
       refine a_pre (ent_look (L := [(0, .int _ _), (2, .sl _ _), (4, .op [.int _ _, .sl _ _]), (6, .bool _), (8, .osl _ _ _ _), (9, .bool _), (12, .osl _ _ _ _)]) ⟨wr, wr, wr, wr, wr, wr, wr, trivial⟩) ?_
       refine a_region ?_
       refine ra (.int _ _) ?_
       refine r_nil ?_
       refine aq ?_
       refine rm (.rsl _ _ _ _ _) ?_
       refine rm (.int _ _) ?_
       refine r_step rfl (o_callIO (q := (12, [])) (vs := [.rsl _ _ _ _ _, .int _ _]) (args := [.rsl (INH, []) _ _ _ _, .int .i64 _]) (x0 := .osl _ _ _ _) (x1 := .osl _ _ _ _) (res := .int _ _) rfl hb24 rfl (by decide) ⟨.inl rfl, .inl rfl, trivial⟩ rfl rfl (markTSS_c (ctR p vars L xs) _ (by omega) (by omega) (by omega)) rfl rfl rfl (oacl_noSh _) (oacl_noRef _) (Nat.le_of_ble_eq_true rfl) (by decide) rfl) ?_
       refine ra (.int _ _) ?_
       refine r_nil ?_
       refine aq ?_
       refine ra (.int _ _) ?_
       refine r_nil ?_
       refine aq ?_
       refine rm (.rsl _ _ _ _ _) ?_
       refine rm (.int _ _) ?_
       refine rn (v := .int _ _) (q_call (vs := [.rsl _ _ _ _ _, .int _ _]) (args := [.sl _ _, .int .i64 _]) hb25 ⟨il, il, trivial⟩ (l2_eq sl_oacl rfl) (fun hA => heldTSS_c (ctR p vars L xs) _ (by omega) (by omega) (by omega)) rfl rfl) ?_
       refine ra (.int _ _) ?_
       refine r_nil ?_
       refine a_seq ?_
       refine a_seq ?_
       refine a_pre (ent_look (L := [(0, .int _ _), (2, .sl _ _), (4, .op [.int _ _, .sl _ _]), (6, .bool _), (8, .osl _ _ _ _), (9, .bool _), (12, .osl _ _ _ _), (15, .int _ _), (16, .int _ _)]) ⟨wr, wr, wr, wr, wr, wr, wr, wr, wr, trivial⟩) ?_
       refine a_region ?_
       refine rm (.int _ _) ?_
       refine rv (v := .bool _) (v_lss il il) ?_
       refine r_nil ?_
       refine a_cond rfl (fun ht94 => ?_) (fun ht94 => ?_)
       ·
        refine aq ?_
        refine ra (.bool _) ?_
        refine r_nil ?_
        refine a_ret ?_
        refine ret1 Tryz.results4 (by decide) (by decide) (Weak.of_eq (bool_eq ?_)) rfl Leaves.nil
        first | rfl | (exfalso; simp at ht94; done) | (exfalso; simp at ht94; omega)
       ·
        refine a_skip ?_
        refine a_seq ?_
        refine aq ?_
        refine rm (.int _ _) ?_
        refine rm (.int _ _) ?_
        refine rv (v := .bool _) (v_neq il il) ?_
        refine r_nil ?_
        refine a_cond rfl (fun ht97 => ?_) (fun ht97 => ?_)
        ·
         refine a_seq ?_
         refine a_pre (ent_look (L := [(0, .int _ _), (2, .sl _ _), (4, .op [.int _ _, .sl _ _]), (6, .bool _), (8, .osl _ _ _ _), (9, .bool _), (12, .osl _ _ _ _), (15, .int _ _), (16, .int _ _)]) ⟨wr, wr, wr, wr, wr, wr, wr, wr, wr, trivial⟩) ?_
         refine a_region ?_
         refine ra (.bool _) ?_
         refine r_nil ?_
         refine a_ret ?_
         refine ret1 Tryz.results4 (by decide) (by decide) (Weak.of_eq (bool_eq ?_)) rfl Leaves.nil
         first | rfl | (exfalso; simp at ht97; done) | (exfalso; simp at ht97; omega)
        ·
         refine a_skip ?_
         refine a_seq ?_
         refine a_pre (ent_look (L := [(0, .int _ _), (2, .sl _ _), (4, .op [.int _ _, .sl _ _]), (6, .bool _), (8, .osl _ _ _ _), (9, .bool _), (12, .osl _ _ _ _), (15, .int _ _), (16, .int _ _)]) ⟨wr, wr, wr, wr, wr, wr, wr, wr, wr, trivial⟩) ?_
         refine a_region ?_
         refine rm (.int _ _) ?_
         refine rv (v := .agg [.int _ _, .sl _ _]) (v_load_rpa1 ta24 il rfl rfl (fun _ => rfl) rfl) ?_
         refine rn (v := .agg [.int _ _, .osl _ _ _ _]) (q_call (vs := [.agg [.int _ _, .sl _ _]]) (args := [.agg [.int .i64 _, .sl _ _]]) hb7 ⟨il, trivial⟩ rfl (fun hA => toCnf_c _ _ (by omega) (by omega)) (by simp [noSh, noShL, osls_noSh]) (by simp [noRef, noRefL, osls_noRef])) ?_
         refine rm (.sl _ _) ?_
         refine rn (v := .osl _ _ _ _) (q_call (vs := [.sl _ _]) (args := [.sl _ _]) hb19 ⟨il, trivial⟩ rfl (fun hA => toTNS_c xs (by omega)) (tn_noSh _) (tn_noRef _)) ?_
         refine rn (v := .tup [.osl _ _ _ _, .bool _]) (q_call (vs := [.int _ _, .agg [.int _ _, .rsl _ _ _ _ _], .rsl _ _ _ _ _]) (args := [.int .i64 _, .agg [.int .i64 _, .sl _ _], .sl _ _]) hb20 ⟨il, il, il, trivial⟩ (l3_eq rfl (agg_eq (l2_eq rfl sl_osls)) (sl_sh (tn_pure _))) (fun hA => iCt_c p vars L xs hk hszN) (by simp [noSh, noShL, oacl_noSh]) (by simp [noRef, noRefL, oacl_noRef])) ?_
         refine rv (v := .tup [.rsl _ _ _ _ _, .bool _]) (v_mv rfl) ?_
         refine rv (v := .rsl _ _ _ _ _) (v_extract rfl rfl) ?_
         refine rv (v := .bool _) (v_extract rfl rfl) ?_
         refine ra (.rsl _ _ _ _ _) ?_
         refine r_pre (ent_reloc_sl (t := 17) rfl rfl) ?_
         refine ra (.bool _) ?_
         refine r_nil ?_
         refine a_seq ?_
         refine a_seq ?_
         refine a_pre (ent_look (L := [(6, .bool _), (8, .osl _ _ _ _), (9, .bool _), (12, .osl _ _ _ _), (15, .int _ _), (16, .int _ _), (17, .osl _ _ _ _), (18, .bool _)]) ⟨wr, wr, wr, wr, wr, wr, wr, wr, trivial⟩) ?_
         refine a_region ?_
         refine rm (.rsl _ _ _ _ _) ?_
         refine rm (.rsl _ _ _ _ _) ?_
         refine rn (v := .bool _) (q_call (vs := [.rsl _ _ _ _ _, .rsl _ _ _ _ _]) (args := [.sl _ _, .sl _ _]) hb21 ⟨il, il, trivial⟩ (l2_eq sl_oacl sl_oacl) (fun hA => eqTSS_c _ _ (fun i => by have := hrA i; omega) (by omega) (by omega)) rfl rfl) ?_
         refine rv (v := .bool _) (v_not il) ?_
         refine rm (.bool _) ?_
         refine rg (v := .bool _) (v_move il nf) ?_
         refine rg (v := .bool _) (v_move il nf) ?_
         refine r_gval (v := .bool _) (v_bne un4 (.inr ⟨_, rfl, fun h => h⟩) (.inr ⟨_, rfl, fun h => h⟩)) rfl rfl rfl (by decide) (.inl ⟨_, rfl, rfl⟩) rfl (by decide) ?_
         refine rv (v := .bool _) (v_pick (.inl rfl) (.inl rfl) (.inr ⟨_, rfl, fun h h2 => by simp_all⟩)) ?_
         refine r_nil ?_
         refine a_cond rfl (fun ht115 => ?_) (fun ht115 => ?_)
         ·
          refine a_seq ?_
          refine a_pre (ent_look (L := [(6, .bool _), (12, .osl _ _ _ _), (15, .int _ _), (16, .int _ _)]) ⟨wr, wr, wr, wr, trivial⟩) ?_
          refine a_region ?_
          refine ra (.bool _) ?_
          refine r_nil ?_
          refine a_ret ?_
          refine ret1 Tryz.results4 (by decide) (by decide) (Weak.of_eq (bool_eq ?_)) rfl Leaves.nil
          first | rfl | (exfalso; simp at ht115; done) | (exfalso; simp at ht115; omega)
         ·
          refine a_skip ?_
          refine a_seq ?_
          refine a_pre (ent_look (L := [(6, .bool _), (12, .osl _ _ _ _), (15, .int _ _), (16, .int _ _)]) ⟨wr, wr, wr, wr, trivial⟩) ?_
          refine a_region ?_
          refine ra (.int _ _) ?_
          refine r_nil ?_
          refine aq ?_
          refine rm (.rsl _ _ _ _ _) ?_
          refine rm (.int _ _) ?_
          refine rn (v := .int _ _) (q_call (vs := [.rsl _ _ _ _ _, .int _ _]) (args := [.sl _ _, .int .i64 _]) hb25 ⟨il, il, trivial⟩ (l2_eq sl_oacl rfl) (fun hA => heldTSS_c (ctR p vars L xs) _ (by omega) (by omega) (by omega)) rfl rfl) ?_
          refine ra (.int _ _) ?_
          refine r_nil ?_
          refine a_seq ?_
          refine aq ?_
          refine rm (.int _ _) ?_
          refine rv (v := .bool _) (v_lss il il) ?_
          refine r_nil ?_
          refine a_cond rfl (fun ht120 => ?_) (fun ht120 => ?_)
          ·
           refine aq ?_
           refine ra (.bool _) ?_
           refine r_nil ?_
           refine a_ret ?_
           refine ret1 Tryz.results4 (by decide) (by decide) (Weak.of_eq (bool_eq ?_)) rfl Leaves.nil
           first | rfl | (exfalso; simp at ht120; done) | (exfalso; simp at ht120; omega)
          ·
           refine a_skip ?_
           refine a_seq ?_
           refine aq ?_
           refine rm (.int _ _) ?_
           refine rm (.int _ _) ?_
           refine rv (v := .bool _) (v_neq il il) ?_
           refine r_nil ?_
           refine a_cond rfl (fun ht123 => ?_) (fun ht123 => ?_)
           ·
            refine a_seq ?_
            refine a_pre (ent_look (L := [(6, .bool _)]) ⟨wr, trivial⟩) ?_
            refine a_region ?_
            refine ra (.bool _) ?_
            refine r_nil ?_
            refine a_ret ?_
            refine ret1 Tryz.results4 (by decide) (by decide) (Weak.of_eq (bool_eq ?_)) rfl Leaves.nil
            first | rfl | (exfalso; simp at ht123; done) | (exfalso; simp at ht123; omega)
           ·
            refine a_skip ?_
            refine a_seq ?_
            refine a_pre (ent_look (L := [(6, .bool _)]) ⟨wr, trivial⟩) ?_
            refine a_region ?_
            refine ra (.bool _) ?_
            refine r_nil ?_
            refine a_ret ?_
            refine ret1 Tryz.results4 (by decide) (by decide) (Weak.of_eq (bool_eq ?_)) rfl Leaves.nil
            first | rfl | (exfalso; simp at ht123; done) | (exfalso; simp at ht123; omega)
end Go.Av
namespace Go.Av
open Go
theorem bd64 {n : Int} (h : (Lit.int .i64 n).wf = true) : -9223372036854775808 ≤ n ∧ n ≤ 9223372036854775807 := bounds_i64 h
theorem len64 {n : Nat} (h : n ≤ maxLen) : (n : Int) ≤ 9223372036854775807 := by unfold maxLen at h; omega
theorem icells_flat (xs : List Int) : xs.flatMap (fun n => [AV.int .i64 n]) = icells xs := by
 induction xs with
 | nil => rfl
 | cons x xs ih => rw [List.flatMap_cons, ih]; rfl
theorem sls_flat (L : List (List Int)) : L.flatMap (fun c => [AV.sl (icells c) c.length]) = sls L := by
  induction L with
  | nil => rfl
  | cons c L ih => rw [List.flatMap_cons, ih]; rfl
theorem cnf_hyp {L : List (List Int)} (h : L.length ≤ maxLen ∧ ∀ y ∈ L, (y.length ≤ maxLen ∧ ∀ z ∈ y, (Lit.int .i64 z).wf = true ∧ ([AV.int .i64 z]).length = 1) ∧ ([AV.sl (y.flatMap fun z => [AV.int .i64 z]) y.length]).length = 1) :
    (∀ i, ((gl L i).length : Int) ≤ 9223372036854775807) ∧ (L.length : Int) ≤ 9223372036854775807 ∧ ∀ i j, -9223372036854775808 ≤ gd (gl L i) j ∧ gd (gl L i) j ≤ 9223372036854775807 := by
  refine ⟨fun i => ?_, len64 h.1, fun i => ?_⟩
  · rcases Nat.lt_or_ge i L.length with hi | hi
    · exact len64 (h.2 _ (gl_mem hi)).1.1
    · rw [gl_out hi]; simp
  · rcases Nat.lt_or_ge i L.length with hi | hi
    · exact gd_bd fun x hx => bd64 ((h.2 _ (gl_mem hi)).1.2 x hx).1
    · intro j; rw [gl_out hi]; simp [gd]
end Go.Av
namespace Go.Av
open Go Go.Proofs Go.Proofs.YtflabfgegbccjaaGreat
set_option maxRecDepth 100000
theorem arg3 : OpensV Tryz.prog 3 (fun x : Int => AV.int .i64 x) (fun x => (Lit.int .i64 x).wf = true) :=
 opensV_one (ok_scalar (by rw [Tryz.underlying3])) (opens_int Tryz.underlying3) (fun _ => rfl)
theorem arg24 : OpensV Tryz.prog 24 (fun x : (Int) × (List (List (Int))) => .agg (([AV.int .i64 x.1] ++ [AV.sl (x.2.flatMap fun y2 => [AV.sl (y2.flatMap fun y1 => [AV.int .i64 y1]) y2.length]) x.2.length]))) (fun x => (((Lit.int .i64 x.1).wf = true) ∧ ((x.2.length ≤ maxLen ∧ ∀ y2 ∈ x.2, (y2.length ≤ maxLen ∧ ∀ y1 ∈ y2, (Lit.int .i64 y1).wf = true ∧ ([AV.int .i64 y1]).length = 1) ∧ ([AV.sl (y2.flatMap fun y1 => [AV.int .i64 y1]) y2.length]).length = 1)))) :=
 opensV_agg (ok_agg (by rw [Tryz.underlying24])) (opens_struct Tryz.underlying24 (tot := (1 + 1)) (by kernel_rfl) (opensFs_cons rfl (by kernel_rfl) (opens_int Tryz.underlying3) (opensFs_one rfl (by kernel_rfl) (opens_slice (k := 1) Tryz.underlying22 (by kernel_rfl) (by decide) (opens_slice (k := 1) Tryz.underlying25 (by kernel_rfl) (by decide) (opens_int Tryz.underlying3) (fun _ => rfl)) (fun _ => rfl)))))
theorem arg39 : OpensV Tryz.prog 39 (fun x : List ((Int) × (Int) × (Int) × (Int)) => AV.sl (x.flatMap fun y3 => ([AV.int .i64 y3.1] ++ ([AV.int .i64 y3.2.1] ++ ([AV.int .i64 y3.2.2.1] ++ [AV.int .i64 y3.2.2.2])))) x.length) (fun x => (x.length ≤ maxLen ∧ ∀ y3 ∈ x, (((Lit.int .i64 y3.1).wf = true) ∧ (((Lit.int .i64 y3.2.1).wf = true) ∧ (((Lit.int .i64 y3.2.2.1).wf = true) ∧ ((Lit.int .i64 y3.2.2.2).wf = true)))) ∧ (([AV.int .i64 y3.1] ++ ([AV.int .i64 y3.2.1] ++ ([AV.int .i64 y3.2.2.1] ++ [AV.int .i64 y3.2.2.2])))).length = 4)) :=
 opensV_one (ok_scalar (by rw [Tryz.underlying39])) (opens_slice (k := 4) Tryz.underlying39 (by kernel_rfl) (by decide) (opens_struct Tryz.underlying80 (tot := (1 + (1 + (1 + 1)))) (by kernel_rfl) (opensFs_cons rfl (by kernel_rfl) (opens_int Tryz.underlying3) (opensFs_cons rfl (by kernel_rfl) (opens_int Tryz.underlying3) (opensFs_cons rfl (by kernel_rfl) (opens_int Tryz.underlying3) (opensFs_one rfl (by kernel_rfl) (opens_int Tryz.underlying3)))))) (fun _ => rfl)) (fun _ => rfl)
theorem rowOwn : ownKnob Tryz.prog.godebug = none := by kernel_rfl
theorem rowLaid : laidOutB Tryz.prog = true := by kernel_rfl
end Go.Av
