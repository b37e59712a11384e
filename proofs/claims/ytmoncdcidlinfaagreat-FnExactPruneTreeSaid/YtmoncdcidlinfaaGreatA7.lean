/- Lemmas, part 7. -/
import Derived.Test.YtmoncdcidlinfaaGreatA6
import Derived.Test.YtmoncdcidlinfaaGreatRows
set_option linter.unusedVariables false
set_option linter.unusedSimpArgs false
namespace Go.Av
open Go Go.Proofs Go.Sort
set_option maxRecDepth 10000
theorem ap42 : appTy Tryz.prog 42 = some (4, 32) := by kernel_rfl
theorem hb39 : hasBody Tryz.prog 39 = true := by kernel_rfl
theorem hb42 : hasBody Tryz.prog 42 = true := by kernel_rfl
theorem lt42 : litTy Tryz.prog 42 = some (4, [.int .i64 0, .int .i64 0, .int .i64 0, .int .i64 0]) := by kernel_rfl
theorem sp62 : structPl Tryz.prog 62 = some ([.int .i64 0, .int .i64 0, .int .i64 0, .int .i64 0], [(0, 1), (1, 1), (2, 1), (3, 1)]) := by kernel_rfl
theorem iPrn_c (vars : Int) (L : List (List Int)) (xs : List TN) (hk : CnfOk vars L) (hl : xs.length ≤ 1048576) : ACall Tryz.prog 22 [.agg [.int .i64 vars, .sl (sls L) L.length], .sl (tncells xs) xs.length] [] (.tup [.osl 4 (tncells (prnR vars L xs)) (prnR vars L xs).length none, .bool (prnB vars L xs)]) [] := by
 refine BCall.intro Tryz.func22 rfl (N := 124) rfl (by decide) (by simp) ?_
 refine b_seqA ?_
 refine a_region ?_
 refine rn (v := .op [.int _ _, .sl _ _]) (q_box (.inl rfl) rfl rfl) ?_
 refine rv (v := .nils) (v_assign (.inl rfl) nf) ?_
 refine rv (v := .bool _) (v_assign (.inl rfl) nf) ?_
 refine r_nil ?_
 refine b_seqA ?_
 refine a_seq ?_
 refine a_region ?_
 refine rv (v := .agg [.int _ _, .sl _ _]) (v_load_rpa1 ta30 (.inl rfl) rfl rfl (fun _ => rfl) rfl) ?_
 refine rv (v := .sl _ _) (v_move (.inl rfl) nf) ?_
 refine rn (v := .bool _) (q_call (vs := [.agg [.int _ _, .sl _ _], .sl _ _]) (args := [.agg [.int .i64 _, .sl _ _], .sl _ _]) hb39 ⟨.inl rfl, .inl rfl, trivial⟩ rfl (fun hA => searchT_c vars L xs hk hl) rfl rfl) ?_
 refine rv (v := .bool _) (v_not (.inl rfl)) ?_
 refine r_nil ?_
 refine a_cond rfl (fun ht20 => ?_) (fun ht20 => ?_)
 ·
  skip
  refine a_seq ?_
  have htn : (prnB vars L xs) = false := (by simpa using ht20)
  refine a_region ?_
  refine rv (v := .nils) (v_assign (.inl rfl) nf) ?_
  refine rv (v := .bool _) (v_assign (.inl rfl) nf) ?_
  refine r_nil ?_
  refine a_pre (ent_nil (t := 4) (sz := 4) (cap := none) (.inl rfl) (fun _ h => by cases h)) ?_
  refine a_ret ?_
  refine retL (rs := [.tmp 4, .tmp 5]) [(4, .osl _ _ _ none), (5, _)] ⟨Weak.osl rfl rfl, Weak.rfl, trivial⟩ rfl Tryz.results22 (by decide) ⟨by decide, by decide, rfl⟩ (by decide) (by decide) (l2_eq (osl_eq2 ?_ ?_) (bool_eq ?_)) rfl
  all_goals (first | exact htn.symm | (rw [prnR_no htn]; rfl))
 ·
  skip
  refine a_skip ?_
  refine b_seqA ?_
  have hty : (prnB vars L xs) = true := (by simpa using ht20)
  obtain ⟨htr, hbi⟩ := prnB_spec hty
  obtain ⟨hcf, hrg, hall, hsm⟩ := treeB_spec htr
  have hpok := pth_ok htr
  have hcs := cnfB_spec hcf
  have hpn := hpok.1
  have hcl := hcs.2.2
  have hLl2 := hcs.2.1
  refine a_region ?_
  refine rv (v := .sl _ _) (v_move (.inl rfl) nf) ?_
  refine rn (v := .tup [.sl _ _, .bool _]) (QSem.cast (q_callFZ (vs := [.sl _ _]) (args := [.sl _ _]) hb40 ⟨.inl rfl, trivial⟩ rfl (fun hA => iPaths_c vars L.length xs (cnfB_spec hcf).1 hrg.1 hrg.2 hall) rfl (by simp [noRef, noRefL, sls_noRef])) (pth_shT)) ?_
  refine rv (v := .tup [.sl _ _, .bool _]) (v_mv rfl) ?_
  refine rv (v := .sl _ _) (v_extract rfl rfl) ?_
  refine rv (v := .bool _) (v_extract rfl rfl) ?_
  refine rn (v := .op [.nils]) (q_alloc zc22) ?_
  refine r_step rfl (o_store (v := .sl _ _) (y' := .op [.sl _ _]) rfl rfl ta22 (.inl rfl) (.inl rfl) rfl rfl rfl rfl rfl rfl (Nat.le_of_ble_eq_true rfl) (by decide) rfl rfl) ?_
  refine rv (v := .bool _) (v_assign (.inl rfl) nf) ?_
  refine r_nil ?_
  refine b_seqA ?_
  refine a_region ?_
  refine rv (v := .sl _ _) (v_move (.inl rfl) nf) ?_
  refine rv (v := .int _ _) (v_len_sl sl42 (.inl rfl)) ?_
  refine rn (v := .osl _ _ _ _) (q_makeSlice us59 sb4 zc4 rfl (by decide) (.inl rfl) (.inl rfl) (fun _ => by omega)) ?_
  refine rn (v := .op [.nils]) (q_alloc zc59) ?_
  refine r_pre (ent_eq (t := 28) (v' := .osl 1 (blcells (List.replicate xs.length false)) xs.length none) (Weak.osl (bl_rep _).symm rfl)) ?_
  refine r_step rfl (o_store_own (v := .osl _ _ _ _) (y' := .op [.osl _ _ _ _]) rfl rfl ta59 (.inl rfl) (by decide) rfl (by decide) rfl (by simp [cellsOf, noRefL, noRef, bl_noRef]) rfl rfl rfl rfl rfl (Nat.le_of_ble_eq_true rfl) rfl rfl) ?_
  refine r_nil ?_
  refine b_seqA ?_
  refine a_region ?_
  refine rv (v := .sl _ _) (v_move (.inl rfl) nf) ?_
  refine rv (v := .int _ _) (v_len_sl sl42 (.inl rfl)) ?_
  refine rn (v := .osl _ _ _ _) (q_makeSlice us25 sb3 zc3 rfl (by decide) (.inl rfl) (.inl rfl) (fun _ => by omega)) ?_
  refine rn (v := .op [.nils]) (q_alloc zc25) ?_
  refine r_pre (ent_eq (t := 31) (v' := .osl 1 (icells (List.replicate xs.length 0)) xs.length none) (Weak.osl (by rw [icells_rep]) rfl)) ?_
  refine r_step rfl (o_store_own (v := .osl _ _ _ _) (y' := .op [.osl _ _ _ _]) rfl rfl ta25 (.inl rfl) (by decide) rfl (by decide) rfl (by simp [cellsOf, noRefL, noRef, ic_noRef]) rfl rfl rfl rfl rfl (Nat.le_of_ble_eq_true rfl) rfl rfl) ?_
  refine r_nil ?_
  refine b_seqB ?_
  refine b_seqA ?_
  refine a_region ?_
  refine rv (v := .sl _ _) (v_move (.inl rfl) nf) ?_
  refine rn (v := .fn _ _ _) (q_callF (vs := [.sl _ _]) (args := [.sl _ _]) hb41 ⟨.inl rfl, trivial⟩ rfl (fun hA => back_c xs) rfl rfl) ?_
  refine r_nil ?_
  refine b_block ?_
  refine b_pre (ent_look (L := [(1, .sl _ _), (2, .op [.int _ _, .sl _ _]), (6, .op [.sl _ _]), (8, .op [.osl _ _ _ _]), (9, .op [.osl _ _ _ _]), (33, .fn _ _ _)]) ⟨Weak.rfl, Weak.rfl, Weak.rfl, Weak.rfl, Weak.rfl, Weak.rfl, trivial⟩) ?_
  refine b_range (fun k => .agg [.int .i64 (gn xs k).1, .int .i64 (gn xs k).2.1, .int .i64 (gn xs k).2.2.1, .int .i64 (gn xs k).2.2.2]) [2, 6, 8, 9] [(1, .sl (tncells xs) xs.length), (2, .rp (2000002, []) 0), (6, .rp (2000006, []) 0), (8, .rp (2000008, []) 0), (9, .rp (2000009, []) 0)] (fun k => [(2000002, .op [.int .i64 vars, .sl (sls L) L.length]), (2000006, .op [.sl (sls (pthL xs)) (pthL xs).length]), (2000008, .op [.osl 1 (blcells (goB xs (falI L (pthL xs)) k)) xs.length none]), (2000009, .op [.osl 1 (icells (frL (falI L (pthL xs)) xs.length k)) xs.length none])]) (fun k => True) (by decide) (by decide) rfl hb66 (back_it hrg.1 (by omega)) (fun k hk => ⟨rfl, fun β F w p => tn_rep β F w p⟩) ⟨by decide, by decide, by decide⟩ rfl ⟨rfl, rfl, nr_bools, nr_ints, trivial⟩ (ent_look ⟨Weak.rfl, Weak.rfl, Weak.rfl, Weak.rfl, Weak.rfl, Weak.rfl, Weak.rfl, Weak.of_eq (congrArg (fun B => AV.op [.osl 1 (blcells B) xs.length none]) (goB_top xs (falI L (pthL xs))).symm), Weak.of_eq (congrArg (fun L_ => AV.op [.osl 1 (icells L_) xs.length none]) (frL_top (falI L (pthL xs)) xs.length).symm), trivial⟩) trivial (fun k hk => ⟨rfl, ⟨⟨by decide, .inl rfl⟩, ⟨by decide, .inr rfl⟩, ⟨by decide, .inr rfl⟩, ⟨by decide, .inr rfl⟩, ⟨by decide, .inr rfl⟩, trivial⟩, ⟨rfl, rfl, nr_bools, nr_ints, trivial⟩⟩) (fun k hk hG => ?_) (fun hG => ?_)
  ·
   skip
   refine a_pre (ent_look (L := [(35, .agg [.int .i64 (gn xs k).1, .int .i64 (gn xs k).2.1, .int .i64 (gn xs k).2.2.1, .int .i64 (gn xs k).2.2.2]), (34, .int .i64 ((k : Nat) : Int)), (1, .sl (tncells xs) xs.length), (2, .rp (2000002, []) 0), (6, .rp (2000006, []) 0), (8, .rp (2000008, []) 0), (9, .rp (2000009, []) 0), (2000002, .op [.int .i64 vars, .sl (sls L) L.length]), (2000006, .op [.sl (sls (pthL xs)) (pthL xs).length]), (2000008, .op [.osl 1 (blcells (goB xs (falI L (pthL xs)) (k + 1))) xs.length none]), (2000009, .op [.osl 1 (icells (frL (falI L (pthL xs)) xs.length (k + 1))) xs.length none])]) ⟨Weak.rfl, Weak.rfl, Weak.rfl, Weak.rfl, Weak.rfl, Weak.rfl, Weak.rfl, Weak.rfl, Weak.rfl, Weak.rfl, Weak.rfl, trivial⟩) ?_
   refine a_seq ?_
   refine a_region ?_
   refine rv (v := .int _ _) (v_assign (.inl rfl) nf) ?_
   refine r_nil ?_
   refine a_region ?_
   refine rn (v := .op [.int _ _, .int _ _, .int _ _, .int _ _]) (q_alloc zc62) ?_
   refine r_step rfl (o_store (v := .agg [.int _ _, .int _ _, .int _ _, .int _ _]) (y' := .op [.int _ _, .int _ _, .int _ _, .int _ _]) rfl rfl ta62 (.inl rfl) (.inl rfl) rfl rfl rfl rfl rfl rfl (Nat.le_of_ble_eq_true rfl) (by decide) rfl rfl) ?_
   refine r_nil ?_
   refine ⟨rfl, ?_⟩
   refine a_block ?_
   refine a_seq ?_
   have hpc := clB_len (hpok.2 k)
   have hfl := falP_len L (gl (pthL xs) k) L.length
   refine a_region_any mixed (by kernel_rfl) ?_
   refine yv (v := .rp _ _) (v_fieldAddr_rp fo30_1 (.inl rfl)) ?_
   refine yv (v := .sl _ _) (v_load_rp1 ta22 (.inl rfl) rfl (fun _ => rfl) rfl) ?_
   refine yv (v := .sl _ _) (v_load_rp1 ta22 (.inl rfl) rfl (fun _ => rfl) rfl) ?_
   refine yv (v := .int _ _) (v_move (.inl rfl) nf) ?_
   refine yv (v := .pp _ _) (v_indexAddr_sl es22 (.inl rfl) (.inl rfl) (fun _ => ⟨by omega, by omega, sls_ne (show k < (pthL xs).length by omega)⟩)) ?_
   refine yv (v := .sl (icells (gl (pthL xs) k)) (gl (pthL xs) k).length) (v_load_pp ta25 (.inl rfl) (fun _ => by rw [Nat.mul_one]; exact sls_get (show k < (pthL xs).length by omega)) rfl) ?_
   refine y_new (v := .osl _ _ _ _) (q_call (vs := [.sl _ _, .sl _ _]) (args := [.sl _ _, .sl _ _]) hb42 ⟨.inl rfl, .inl rfl, trivial⟩ rfl (fun hA => iFal_c vars L (gl (pthL xs) k) hcl (by omega) (by have := clB_len (hpok.2 k); omega)) (ic_noSh _) (ic_noRef _)) rfl rfl (by decide) (by kernel_rfl) ?_
   refine yv (v := .rsl _ _ _ _ _) (v_assign (.inl rfl) nf) ?_
   refine y_nil ?_
   refine a_seq ?_
   refine a_pre (ent_reloc_sl (t := 12) rfl rfl) ?_
   have hp1 : k * 1 + 1 ≤ (icells (frL (falI L (pthL xs)) xs.length (k + 1))).length := (by rw [icells_length]; simp [frL_len]; omega)
   have hs1 : (icells (frL (falI L (pthL xs)) xs.length (k + 1))).set (k * 1) (.int .i64 (-1)) = icells ((frL (falI L (pthL xs)) xs.length (k + 1)).set k (-1)) := (by rw [Nat.mul_one, icells_set])
   refine a_region ?_
   refine rv (v := .rsl _ _ _ _ _) (v_load_rp (c := .osl _ _ _ _) ta25 (.inl rfl) rfl (fun _ => rfl)) ?_
   refine rv (v := .int _ _) (v_move (.inl rfl) nf) ?_
   refine rv (v := .rp _ _) (v_indexAddr_rsl0 es25 (.inl rfl) (.inl rfl) (fun _ => by omega)) ?_
   refine r_step rfl (o_store (v := .int _ _) (y' := .op [.osl _ _ _ _]) rfl rfl ta3 (.inl rfl) (.inl rfl) rfl rfl rfl rfl rfl rfl hp1 (by decide) rfl (congrArg (fun c => AV.op [AV.osl 1 c xs.length none]) hs1)) ?_
   refine r_nil ?_
   refine a_seq ?_
   refine a_seq ?_
   refine a_region ?_
   refine rv (v := .rsl _ _ _ _ _) (v_move (.inl rfl) nf) ?_
   refine rv (v := .int _ _) (v_len_rsl sl25 (.inl rfl)) ?_
   refine rv (v := .bool _) (v_gtr (.inl rfl) (.inl rfl)) ?_
   refine r_nil ?_
   refine a_cond rfl (fun ht48 => ?_) (fun ht48 => ?_)
   ·
    skip
    have hlb : 0 < (falP L (gl (pthL xs) k) L.length).length := (by simpa using ht48)
    have hbd : (falI L (pthL xs) k) = gd (falP L (gl (pthL xs) k) L.length) 0 := (by rcases falI_list (L := L) (P := pthL xs) (i := k) with h | h; (rw [h.1] at hlb; simp at hlb); exact h.2.1)
    have hp2 : k * 1 + 1 ≤ (icells ((frL (falI L (pthL xs)) xs.length (k + 1)).set k (-1))).length := (by rw [icells_length]; simp [frL_len]; omega)
    have hs2 : (icells ((frL (falI L (pthL xs)) xs.length (k + 1)).set k (-1))).set (k * 1) (.int .i64 (gd (falP L (gl (pthL xs) k) L.length) 0)) = icells (((frL (falI L (pthL xs)) xs.length (k + 1)).set k (-1)).set k (gd (falP L (gl (pthL xs) k) L.length) 0)) := (by rw [Nat.mul_one, icells_set])
    refine a_region_z (n := 6) [[(49, true)], [(50, true)], [(51, true)], [(52, true)], [(53, true)], [(54, true)]] mixed (by kernel_rfl) ?_
    refine z_val (v := .rsl _ _ _ _ _) (v_load_rp (c := .osl _ _ _ _) ta25 (.inl rfl) rfl (fun _ => rfl)) rfl rfl (by decide) rfl (by kernel_rfl) ?_
    refine z_val (v := .int _ _) (v_move (.inl rfl) nf) rfl rfl (by decide) rfl (by kernel_rfl) ?_
    refine z_val (v := .rsl _ _ _ _ _) (v_move (.inl rfl) nf) rfl rfl (by decide) rfl (by kernel_rfl) ?_
    refine z_val (v := .rp _ _) (v_indexAddr_rsl0 es25 (.inl rfl) (.inl rfl) (fun _ => by omega)) rfl rfl (by decide) rfl (by kernel_rfl) ?_
    refine z_val (v := .int .i64 (gd (falP L (gl (pthL xs) k) L.length) 0)) (v_load_rp1 ta3 (.inl rfl) rfl (fun _ => icells_get (gd_get hlb)) rfl) rfl rfl (by decide) rfl (by kernel_rfl) ?_
    refine z_val (v := .rp _ _) (v_indexAddr_rsl0 es25 (.inl rfl) (.inl rfl) (fun _ => by omega)) rfl rfl (by decide) rfl (by kernel_rfl) ?_
    refine z_nil ?_
    refine r_step rfl (o_store (v := .int _ _) (y' := .op [.osl _ _ _ _]) rfl rfl ta3 (.inl rfl) (.inl rfl) rfl rfl rfl rfl rfl rfl hp2 (by decide) rfl (congrArg (fun c => AV.op [AV.osl 1 c xs.length none]) hs2)) ?_
    refine r_nil ?_
    refine a_seq ?_
    refine a_pre (ent_look (L := [(1, .sl _ _), (2, .rp _ _), (6, .rp _ _), (8, .rp _ _), (9, .rp _ _), (10, .int _ _), (11, .op [.int _ _, .int _ _, .int _ _, .int _ _]), (12, .osl _ _ _ _), (2000002, .op [.int _ _, .sl _ _]), (2000006, .op [.sl _ _]), (2000008, .op [.osl _ _ _ _]), (2000009, .op [.osl _ _ _ _])]) ⟨Weak.rfl, Weak.rfl, Weak.rfl, Weak.rfl, Weak.rfl, Weak.rfl, Weak.rfl, Weak.rfl, Weak.rfl, Weak.rfl, Weak.rfl, Weak.rfl, trivial⟩) ?_
    have hlq : (0 < (falP L (gl (pthL xs) k) L.length).length) ↔ 0 ≤ (falI L (pthL xs) k) := (by rcases falI_list (L := L) (P := pthL xs) (i := k) with h | h; (rw [h.1, h.2]; simp); (exact ⟨fun _ => h.2.2, fun _ => h.1⟩))
    refine a_region ?_
    refine rv (v := .rp _ _) (v_fieldAddr_rp fo62_0 (.inl rfl)) ?_
    refine rv (v := .int _ _) (v_load_rp1 ta3 (.inl rfl) rfl (fun _ => rfl) rfl) ?_
    refine rv (v := .bool _) (v_gtr (.inl rfl) (.inl rfl)) ?_
    refine rv (v := .bool _) (v_move (.inl rfl) nf) ?_
    refine r_gval (v := .rsl _ _ _ _ _) (v_load_rp (c := .osl _ _ _ _) ta59 (.inl rfl) rfl (fun _ => rfl)) rfl rfl rfl (by decide) (.inl ⟨_, rfl, rfl⟩) rfl (by decide) ?_
    refine r_gval (v := .int _ _) (v_move (.inl rfl) nf) rfl rfl rfl (by decide) (.inl ⟨_, rfl, rfl⟩) rfl (by decide) ?_
    refine r_gval (v := .rp _ _) (v_indexAddr_rsl0 es59 (.inr ⟨_, rfl, fun h => h⟩) (.inr ⟨_, rfl, fun h => h⟩) (fun _ => by omega)) rfl rfl rfl (by decide) (.inl ⟨_, rfl, rfl⟩) rfl (by decide) ?_
    refine r_gval (v := .bool ((goB xs (falI L (pthL xs)) (k + 1)).getD k false)) (v_load_rp1 ta4 (.inr ⟨_, rfl, fun h => h⟩) rfl (fun _ => by rw [Nat.mul_one]; exact bl_get (go_get hk)) rfl) rfl rfl rfl (by decide) (.inl ⟨_, rfl, rfl⟩) rfl (by decide) ?_
    refine r_gval (v := .bool _) (v_move (.inr ⟨_, rfl, fun h => h⟩) nf) rfl rfl rfl (by decide) (.inl ⟨_, rfl, rfl⟩) rfl (by decide) ?_
    refine r_gval (v := .rsl _ _ _ _ _) (v_move (.inl rfl) nf) rfl rfl rfl (by decide) (.inr ⟨_, _, rfl, rfl⟩) rfl (by decide) ?_
    refine r_gval (v := .int _ _) (v_len_rsl sl25 (.inr ⟨_, rfl, fun h => h⟩)) rfl rfl rfl (by decide) (.inr ⟨_, _, rfl, rfl⟩) rfl (by decide) ?_
    refine r_gval (v := .bool _) (v_gtr (.inr ⟨_, rfl, fun h => h⟩) (.inl rfl)) rfl rfl rfl (by decide) (.inr ⟨_, _, rfl, rfl⟩) rfl (by decide) ?_
    refine r_gval (v := .bool _) (v_pick (.inr ⟨_, rfl, fun h => h⟩) (.inl rfl) (.inr ⟨_, rfl, fun h h2 => by simp_all⟩)) rfl rfl rfl (by decide) (.inl ⟨_, rfl, rfl⟩) rfl (by decide) ?_
    refine rv (v := .bool _) (v_pick (.inl rfl) (.inr ⟨_, rfl, fun h h2 => by simp_all⟩) (.inl rfl)) ?_
    refine r_nil ?_
    refine a_cond rfl (fun ht68 => ?_) (fun ht68 => ?_)
    ·
     skip
     refine a_seq ?_
     have hvp : nV xs k ≠ 0 := (by have h9 := nV_pos hall hk; rw [h9.2]; unfold nV; cases hd : decide ((gn xs k).1 > 0) with
  | true => simpa using hd
  | false => rw [hd] at ht68; simp at ht68)
     have hcc : ((goB xs (falI L (pthL xs)) (k + 1)).getD k false) = true ∨ 0 ≤ (falI L (pthL xs) k) := (by rw [← hlq]; cases hg : ((goB xs (falI L (pthL xs)) (k + 1)).getD k false) with
  | true => exact .inl rfl
  | false => right; rw [hg] at ht68; revert ht68; cases decide ((gn xs k).1 > 0) <;> simp)
     have hin := inner_spec (allN_spec hall k hk) hvp
     have hp3 : (nLo xs k) * 1 + 1 ≤ (blcells (goB xs (falI L (pthL xs)) (k + 1))).length := (by rw [bl_len]; simp [goB_len, leB_len]; omega)
     have hs3 : (blcells (goB xs (falI L (pthL xs)) (k + 1))).set ((nLo xs k) * 1) (.bool true) = blcells ((goB xs (falI L (pthL xs)) (k + 1)).set (nLo xs k) true) := (by rw [Nat.mul_one, bl_set])
     have hp4 : (nHi xs k) * 1 + 1 ≤ (blcells ((goB xs (falI L (pthL xs)) (k + 1)).set (nLo xs k) true)).length := (by rw [bl_len]; simp [goB_len, leB_len]; omega)
     have hs4 : (blcells ((goB xs (falI L (pthL xs)) (k + 1)).set (nLo xs k) true)).set ((nHi xs k) * 1) (.bool true) = blcells (((goB xs (falI L (pthL xs)) (k + 1)).set (nLo xs k) true).set (nHi xs k) true) := (by rw [Nat.mul_one, bl_set])
     refine a_region ?_
     refine rv (v := .rsl _ _ _ _ _) (v_load_rp (c := .osl _ _ _ _) ta59 (.inl rfl) rfl (fun _ => rfl)) ?_
     refine rv (v := .rp _ _) (v_fieldAddr_rp fo62_1 (.inl rfl)) ?_
     refine rv (v := .int _ _) (v_load_rp1 ta3 (.inl rfl) rfl (fun _ => rfl) rfl) ?_
     refine rv (v := .rp _ _) (v_indexAddr_rsl0 es59 (.inl rfl) (.inl rfl) (fun _ => by omega)) ?_
     refine r_step rfl (o_store (v := .bool _) (y' := .op [.osl _ _ _ _]) rfl rfl ta4 (.inl rfl) (.inl rfl) rfl rfl rfl rfl rfl rfl hp3 (by decide) rfl (congrArg (fun c => AV.op [AV.osl 1 c xs.length none]) hs3)) ?_
     refine r_nil ?_
     refine a_pre (ent_look (L := [(1, .sl _ _), (2, .rp _ _), (6, .rp _ _), (8, .rp _ _), (9, .rp _ _), (11, .op [.int _ _, .int _ _, .int _ _, .int _ _]), (2000002, .op [.int _ _, .sl _ _]), (2000006, .op [.sl _ _]), (2000008, .op [.osl _ _ _ _]), (2000009, .op [.osl _ _ _ _])]) ⟨Weak.rfl, Weak.rfl, Weak.rfl, Weak.rfl, Weak.rfl, Weak.rfl, Weak.rfl, Weak.rfl, Weak.rfl, Weak.rfl, trivial⟩) ?_
     refine a_region ?_
     refine rv (v := .rsl _ _ _ _ _) (v_load_rp (c := .osl _ _ _ _) ta59 (.inl rfl) rfl (fun _ => rfl)) ?_
     refine rv (v := .rp _ _) (v_fieldAddr_rp fo62_2 (.inl rfl)) ?_
     refine rv (v := .int _ _) (v_load_rp1 ta3 (.inl rfl) rfl (fun _ => rfl) rfl) ?_
     refine rv (v := .rp _ _) (v_indexAddr_rsl0 es59 (.inl rfl) (.inl rfl) (fun _ => by omega)) ?_
     refine r_step rfl (o_store (v := .bool _) (y' := .op [.osl _ _ _ _]) rfl rfl ta4 (.inl rfl) (.inl rfl) rfl rfl rfl rfl rfl rfl hp4 (by decide) rfl (congrArg (fun c => AV.op [AV.osl 1 c xs.length none]) hs4)) ?_
     refine r_nil ?_
     exact ⟨ent_look ⟨Weak.of_eq rfl, Weak.of_eq rfl, Weak.of_eq (congrArg (fun B => AV.op [.osl 1 (blcells B) xs.length none]) (go_yes hk hvp hcc)), Weak.of_eq (congrArg (fun L_ => AV.op [.osl 1 (icells L_) xs.length none]) (by have h9 := frL_set2 (F := (falI L (pthL xs))) (x := -1) hk; rw [hbd] at h9; exact h9)), trivial⟩, trivial⟩
    ·
     skip
     refine a_skip ?_
     have hcn : ¬ (nV xs k ≠ 0 ∧ (((goB xs (falI L (pthL xs)) (k + 1)).getD k false) = true ∨ 0 ≤ (falI L (pthL xs) k))) := (by have h9 := nV_pos hall hk; rw [h9.2, ← hlq]; unfold nV; rintro ⟨h1, h2⟩; rw [decide_eq_true (show (gn xs k).1 > 0 from h1)] at ht68; (rcases h2 with h2 | h2; (rw [h2] at ht68; simp at ht68); (rw [decide_eq_true (show (((falP L (gl (pthL xs) k) L.length).length : Nat) : Int) > 0 by omega)] at ht68; cases hg : ((goB xs (falI L (pthL xs)) (k + 1)).getD k false) <;> rw [hg] at ht68 <;> simp at ht68)))
     exact ⟨ent_look ⟨Weak.of_eq rfl, Weak.of_eq rfl, Weak.of_eq (congrArg (fun B => AV.op [.osl 1 (blcells B) xs.length none]) (go_no hk hcn)), Weak.of_eq (congrArg (fun L_ => AV.op [.osl 1 (icells L_) xs.length none]) (by have h9 := frL_set2 (F := (falI L (pthL xs))) (x := -1) hk; rw [hbd] at h9; exact h9)), trivial⟩, trivial⟩
   ·
    skip
    refine a_skip ?_
    refine a_seq ?_
    have hlq : (0 < (falP L (gl (pthL xs) k) L.length).length) ↔ 0 ≤ (falI L (pthL xs) k) := (by rcases falI_list (L := L) (P := pthL xs) (i := k) with h | h; (rw [h.1, h.2]; simp); (exact ⟨fun _ => h.2.2, fun _ => h.1⟩))
    refine a_region ?_
    refine rv (v := .rp _ _) (v_fieldAddr_rp fo62_0 (.inl rfl)) ?_
    refine rv (v := .int _ _) (v_load_rp1 ta3 (.inl rfl) rfl (fun _ => rfl) rfl) ?_
    refine rv (v := .bool _) (v_gtr (.inl rfl) (.inl rfl)) ?_
    refine rv (v := .bool _) (v_move (.inl rfl) nf) ?_
    refine r_gval (v := .rsl _ _ _ _ _) (v_load_rp (c := .osl _ _ _ _) ta59 (.inl rfl) rfl (fun _ => rfl)) rfl rfl rfl (by decide) (.inl ⟨_, rfl, rfl⟩) rfl (by decide) ?_
    refine r_gval (v := .int _ _) (v_move (.inl rfl) nf) rfl rfl rfl (by decide) (.inl ⟨_, rfl, rfl⟩) rfl (by decide) ?_
    refine r_gval (v := .rp _ _) (v_indexAddr_rsl0 es59 (.inr ⟨_, rfl, fun h => h⟩) (.inr ⟨_, rfl, fun h => h⟩) (fun _ => by omega)) rfl rfl rfl (by decide) (.inl ⟨_, rfl, rfl⟩) rfl (by decide) ?_
    refine r_gval (v := .bool ((goB xs (falI L (pthL xs)) (k + 1)).getD k false)) (v_load_rp1 ta4 (.inr ⟨_, rfl, fun h => h⟩) rfl (fun _ => by rw [Nat.mul_one]; exact bl_get (go_get hk)) rfl) rfl rfl rfl (by decide) (.inl ⟨_, rfl, rfl⟩) rfl (by decide) ?_
    refine r_gval (v := .bool _) (v_move (.inr ⟨_, rfl, fun h => h⟩) nf) rfl rfl rfl (by decide) (.inl ⟨_, rfl, rfl⟩) rfl (by decide) ?_
    refine r_gval (v := .rsl _ _ _ _ _) (v_move (.inl rfl) nf) rfl rfl rfl (by decide) (.inr ⟨_, _, rfl, rfl⟩) rfl (by decide) ?_
    refine r_gval (v := .int _ _) (v_len_rsl sl25 (.inr ⟨_, rfl, fun h => h⟩)) rfl rfl rfl (by decide) (.inr ⟨_, _, rfl, rfl⟩) rfl (by decide) ?_
    refine r_gval (v := .bool _) (v_gtr (.inr ⟨_, rfl, fun h => h⟩) (.inl rfl)) rfl rfl rfl (by decide) (.inr ⟨_, _, rfl, rfl⟩) rfl (by decide) ?_
    refine r_gval (v := .bool _) (v_pick (.inr ⟨_, rfl, fun h => h⟩) (.inl rfl) (.inr ⟨_, rfl, fun h h2 => by simp_all⟩)) rfl rfl rfl (by decide) (.inl ⟨_, rfl, rfl⟩) rfl (by decide) ?_
    refine rv (v := .bool _) (v_pick (.inl rfl) (.inr ⟨_, rfl, fun h h2 => by simp_all⟩) (.inl rfl)) ?_
    refine r_nil ?_
    refine a_cond rfl (fun ht68 => ?_) (fun ht68 => ?_)
    ·
     skip
     refine a_seq ?_
     refine a_pre (ent_look (L := [(1, .sl _ _), (2, .rp _ _), (6, .rp _ _), (8, .rp _ _), (9, .rp _ _), (11, .op [.int _ _, .int _ _, .int _ _, .int _ _]), (2000002, .op [.int _ _, .sl _ _]), (2000006, .op [.sl _ _]), (2000008, .op [.osl _ _ _ _]), (2000009, .op [.osl _ _ _ _])]) ⟨Weak.rfl, Weak.rfl, Weak.rfl, Weak.rfl, Weak.rfl, Weak.rfl, Weak.rfl, Weak.rfl, Weak.rfl, Weak.rfl, trivial⟩) ?_
     have hvp : nV xs k ≠ 0 := (by have h9 := nV_pos hall hk; rw [h9.2]; unfold nV; cases hd : decide ((gn xs k).1 > 0) with
  | true => simpa using hd
  | false => rw [hd] at ht68; simp at ht68)
     have hcc : ((goB xs (falI L (pthL xs)) (k + 1)).getD k false) = true ∨ 0 ≤ (falI L (pthL xs) k) := (by rw [← hlq]; cases hg : ((goB xs (falI L (pthL xs)) (k + 1)).getD k false) with
  | true => exact .inl rfl
  | false => right; rw [hg] at ht68; revert ht68; cases decide ((gn xs k).1 > 0) <;> simp)
     have hin := inner_spec (allN_spec hall k hk) hvp
     have hp3 : (nLo xs k) * 1 + 1 ≤ (blcells (goB xs (falI L (pthL xs)) (k + 1))).length := (by rw [bl_len]; simp [goB_len, leB_len]; omega)
     have hs3 : (blcells (goB xs (falI L (pthL xs)) (k + 1))).set ((nLo xs k) * 1) (.bool true) = blcells ((goB xs (falI L (pthL xs)) (k + 1)).set (nLo xs k) true) := (by rw [Nat.mul_one, bl_set])
     have hp4 : (nHi xs k) * 1 + 1 ≤ (blcells ((goB xs (falI L (pthL xs)) (k + 1)).set (nLo xs k) true)).length := (by rw [bl_len]; simp [goB_len, leB_len]; omega)
     have hs4 : (blcells ((goB xs (falI L (pthL xs)) (k + 1)).set (nLo xs k) true)).set ((nHi xs k) * 1) (.bool true) = blcells (((goB xs (falI L (pthL xs)) (k + 1)).set (nLo xs k) true).set (nHi xs k) true) := (by rw [Nat.mul_one, bl_set])
     refine a_region ?_
     refine rv (v := .rsl _ _ _ _ _) (v_load_rp (c := .osl _ _ _ _) ta59 (.inl rfl) rfl (fun _ => rfl)) ?_
     refine rv (v := .rp _ _) (v_fieldAddr_rp fo62_1 (.inl rfl)) ?_
     refine rv (v := .int _ _) (v_load_rp1 ta3 (.inl rfl) rfl (fun _ => rfl) rfl) ?_
     refine rv (v := .rp _ _) (v_indexAddr_rsl0 es59 (.inl rfl) (.inl rfl) (fun _ => by omega)) ?_
     refine r_step rfl (o_store (v := .bool _) (y' := .op [.osl _ _ _ _]) rfl rfl ta4 (.inl rfl) (.inl rfl) rfl rfl rfl rfl rfl rfl hp3 (by decide) rfl (congrArg (fun c => AV.op [AV.osl 1 c xs.length none]) hs3)) ?_
     refine r_nil ?_
     refine a_region ?_
     refine rv (v := .rsl _ _ _ _ _) (v_load_rp (c := .osl _ _ _ _) ta59 (.inl rfl) rfl (fun _ => rfl)) ?_
     refine rv (v := .rp _ _) (v_fieldAddr_rp fo62_2 (.inl rfl)) ?_
     refine rv (v := .int _ _) (v_load_rp1 ta3 (.inl rfl) rfl (fun _ => rfl) rfl) ?_
     refine rv (v := .rp _ _) (v_indexAddr_rsl0 es59 (.inl rfl) (.inl rfl) (fun _ => by omega)) ?_
     refine r_step rfl (o_store (v := .bool _) (y' := .op [.osl _ _ _ _]) rfl rfl ta4 (.inl rfl) (.inl rfl) rfl rfl rfl rfl rfl rfl hp4 (by decide) rfl (congrArg (fun c => AV.op [AV.osl 1 c xs.length none]) hs4)) ?_
     refine r_nil ?_
     have hbd0 : (falI L (pthL xs) k) = -1 := (by rcases falI_list (L := L) (P := pthL xs) (i := k) with h | h; exact h.2; (exfalso; have h7 := h.1; simp at ht48; rw [ht48] at h7; simp at h7))
     exact ⟨ent_look ⟨Weak.of_eq rfl, Weak.of_eq rfl, Weak.of_eq (congrArg (fun B => AV.op [.osl 1 (blcells B) xs.length none]) (go_yes hk hvp hcc)), Weak.of_eq (congrArg (fun L_ => AV.op [.osl 1 (icells L_) xs.length none]) (by have h9 := frL_set (F := (falI L (pthL xs))) hk; rw [hbd0] at h9; exact h9)), trivial⟩, trivial⟩
    ·
     skip
     refine a_skip ?_
     have hcn : ¬ (nV xs k ≠ 0 ∧ (((goB xs (falI L (pthL xs)) (k + 1)).getD k false) = true ∨ 0 ≤ (falI L (pthL xs) k))) := (by have h9 := nV_pos hall hk; rw [h9.2, ← hlq]; unfold nV; rintro ⟨h1, h2⟩; rw [decide_eq_true (show (gn xs k).1 > 0 from h1)] at ht68; (rcases h2 with h2 | h2; (rw [h2] at ht68; simp at ht68); (rw [decide_eq_true (show (((falP L (gl (pthL xs) k) L.length).length : Nat) : Int) > 0 by omega)] at ht68; cases hg : ((goB xs (falI L (pthL xs)) (k + 1)).getD k false) <;> rw [hg] at ht68 <;> simp at ht68)))
     have hbd0 : (falI L (pthL xs) k) = -1 := (by rcases falI_list (L := L) (P := pthL xs) (i := k) with h | h; exact h.2; (exfalso; have h7 := h.1; simp at ht48; rw [ht48] at h7; simp at h7))
     exact ⟨ent_look ⟨Weak.of_eq rfl, Weak.of_eq rfl, Weak.of_eq (congrArg (fun B => AV.op [.osl 1 (blcells B) xs.length none]) (go_no hk hcn)), Weak.of_eq (congrArg (fun L_ => AV.op [.osl 1 (icells L_) xs.length none]) (by have h9 := frL_set (F := (falI L (pthL xs))) hk; rw [hbd0] at h9; exact h9)), trivial⟩, trivial⟩
  ·
   skip
   refine b_pre (ent_look (L := [(1, .sl (tncells xs) xs.length), (2, .op [.int .i64 vars, .sl (sls L) L.length]), (6, .op [.sl (sls (pthL xs)) (pthL xs).length]), (8, .op [.osl 1 (blcells (goB xs (falI L (pthL xs)) 0)) xs.length none]), (9, .op [.osl 1 (icells (frL (falI L (pthL xs)) xs.length 0)) xs.length none])]) ⟨Weak.rfl, Weak.rfl, Weak.rfl, Weak.rfl, Weak.rfl, trivial⟩) ?_
   refine b_lift ?_
   refine a_seq ?_
   refine a_region ?_
   refine rv (v := .nils) (v_assign (.inl rfl) nf) ?_
   refine r_nil ?_
   refine a_seq ?_
   refine a_region ?_
   refine rv (v := .sl _ _) (v_move (.inl rfl) nf) ?_
   refine rv (v := .int _ _) (v_len_sl sl42 (.inl rfl)) ?_
   refine rn (v := .osl _ _ _ _) (q_makeSlice us25 sb3 zc3 rfl (by decide) (.inl rfl) (.inl rfl) (fun _ => by omega)) ?_
   refine rv (v := .rsl _ _ _ _ _) (v_assign (.inl rfl) nf) ?_
   refine r_pre (ent_reloc_sl (t := 14) rfl rfl) ?_
   refine r_nil ?_
   refine a_seq ?_
   refine a_seq ?_
   refine a_region ?_
   refine rv (v := .sl _ _) (v_move (.inl rfl) nf) ?_
   refine rv (v := .int _ _) (v_len_sl sl42 (.inl rfl)) ?_
   refine rv (v := .int _ _) (v_move (.inl rfl) nf) ?_
   refine r_nil ?_
   refine a_block ?_
   refine a_pre (ent_nil (t := 13) (sz := 4) (cap := none) (.inl rfl) (fun _ h => by cases h)) ?_
   refine a_loop (X := Nat) (fun i => look [(8, .op [.osl 1 (blcells (goB xs (falI L (pthL xs)) 0)) xs.length none]), (9, .op [.osl 1 (icells (frL (falI L (pthL xs)) xs.length 0)) xs.length none]), (13, .osl 4 (tncells ((prS xs (falI L (pthL xs)) (goB xs (falI L (pthL xs)) 0) i).1)) ((prS xs (falI L (pthL xs)) (goB xs (falI L (pthL xs)) 0) i).1).length none), (14, .osl 1 (icells ((prS xs (falI L (pthL xs)) (goB xs (falI L (pthL xs)) 0) i).2)) xs.length none), (80, .sl (tncells xs) xs.length), (81, .int .i64 ((xs.length : Nat) : Int)), (82, .int .i64 ((i : Nat) : Int))]) (fun i => i ≤ xs.length) (fun i => xs.length - i) 0 (ent_look ⟨Weak.of_eq rfl, Weak.of_eq rfl, Weak.osl rfl rfl, Weak.osl (by rw [show (prS xs (falI L (pthL xs)) (goB xs (falI L (pthL xs)) 0) 0).2 = List.replicate xs.length 0 from rfl, icells_rep]) rfl, Weak.of_eq rfl, Weak.of_eq rfl, Weak.of_eq rfl, trivial⟩) (Nat.zero_le _) (fun i hG => ?_)
   refine a_seq ?_
   refine a_region ?_
   refine rv (v := .bool _) (v_lss (.inl rfl) (.inl rfl)) ?_
   refine r_nil ?_
   refine a_seq ?_
   refine a_cond rfl (fun ht83 => ?_) (fun ht83 => ?_)
   ·
    skip
    refine a_skip ?_
    refine a_seq ?_
    refine a_block ?_
    refine a_seq ?_
    have hi : i < xs.length := (by simp at ht83; omega)
    have hbl := prS_len xs (falI L (pthL xs)) (goB xs (falI L (pthL xs)) 0) i
    refine a_region ?_
    refine rv (v := .int _ _) (v_move (.inl rfl) nf) ?_
    refine rv (v := .pp _ _) (v_indexAddr_sl es42 (.inl rfl) (.inl rfl) (fun _ => ⟨by omega, by omega, tn_ne hi⟩)) ?_
    refine rv (v := .agg [.int .i64 (gn xs i).1, .int .i64 (gn xs i).2.1, .int .i64 (gn xs i).2.2.1, .int .i64 (gn xs i).2.2.2]) (v_load_ppa1 ta62 (.inl rfl) rfl (fun _ => tn_four hi) rfl) ?_
    refine rn (v := .op [.int _ _, .int _ _, .int _ _, .int _ _]) (q_alloc zc62) ?_
    refine rv (v := .int _ _) (v_assign (.inl rfl) nf) ?_
    refine r_step rfl (o_store (v := .agg [.int _ _, .int _ _, .int _ _, .int _ _]) (y' := .op [.int _ _, .int _ _, .int _ _, .int _ _]) rfl rfl ta62 (.inl rfl) (.inl rfl) rfl rfl rfl rfl rfl rfl (Nat.le_of_ble_eq_true rfl) (by decide) rfl rfl) ?_
    refine r_nil ?_
    refine a_seq ?_
    refine a_seq ?_
    refine a_region ?_
    refine rv (v := .rsl _ _ _ _ _) (v_load_rp (c := .osl _ _ _ _) ta59 (.inl rfl) rfl (fun _ => rfl)) ?_
    refine rv (v := .int _ _) (v_move (.inl rfl) nf) ?_
    refine rv (v := .rp _ _) (v_indexAddr_rsl0 es59 (.inl rfl) (.inl rfl) (fun _ => by omega)) ?_
    refine rv (v := .bool ((goB xs (falI L (pthL xs)) 0).getD i false)) (v_load_rp1 ta4 (.inl rfl) rfl (fun _ => by rw [Nat.mul_one]; exact bl_get (go_get hi)) rfl) ?_
    refine r_nil ?_
    refine a_cond rfl (fun ht90 => ?_) (fun ht90 => ?_)
    ·
     skip
     refine a_exit ?_
     refine a_region ?_
     refine rv (v := .int _ _) (v_add (.inl rfl) (.inl rfl) (fun _ => by omega)) ?_
     refine rv (v := .int _ _) (v_move (.inl rfl) nf) ?_
     refine r_nil ?_
     refine ⟨i + 1, ent_look ⟨Weak.of_eq rfl, Weak.of_eq rfl, Weak.osl (by rw [prS_gone ht90]) (by rw [prS_gone ht90]), Weak.osl (by rw [prS_gone ht90]) rfl, Weak.of_eq rfl, Weak.of_eq rfl, Weak.of_eq (int_eq (by omega)), trivial⟩, by omega, by omega⟩
    ·
     skip
     refine a_skip ?_
     refine a_seq ?_
     refine a_seq ?_
     have hgn : (goB xs (falI L (pthL xs)) 0).getD i false = false := (by simpa using ht90)
     refine a_region ?_
     refine rv (v := .rsl _ _ _ _ _) (v_load_rp (c := .osl _ _ _ _) ta25 (.inl rfl) rfl (fun _ => rfl)) ?_
     refine rv (v := .int _ _) (v_move (.inl rfl) nf) ?_
     refine rv (v := .rp _ _) (v_indexAddr_rsl0 es25 (.inl rfl) (.inl rfl) (fun _ => by omega)) ?_
     refine rv (v := .int .i64 (gd (frL (falI L (pthL xs)) xs.length 0) i)) (v_load_rp1 ta3 (.inl rfl) rfl (fun _ => by rw [Nat.mul_one]; exact icells_get (gd_get (by rw [frL_len]; exact hi))) rfl) ?_
     refine rv (v := .bool _) (v_geq (.inl rfl) (.inl rfl)) ?_
     refine r_nil ?_
     refine a_cond rfl (fun ht95 => ?_) (fun ht95 => ?_)
     ·
      skip
      have hFn : 0 ≤ (falI L (pthL xs) i) := (by simpa [frL_gd hi] using ht95)
      have hpq : prN xs (falI L (pthL xs)) ((prS xs (falI L (pthL xs)) (goB xs (falI L (pthL xs)) 0) i).2) i = (0, 0, 0, (falI L (pthL xs) i)) := if_pos hFn
      refine a_region ?_
      refine rv (v := .rsl _ _ _ _ _) (v_load_rp (c := .osl _ _ _ _) ta25 (.inl rfl) rfl (fun _ => rfl)) ?_
      refine rv (v := .int _ _) (v_move (.inl rfl) nf) ?_
      refine rv (v := .rp _ _) (v_indexAddr_rsl0 es25 (.inl rfl) (.inl rfl) (fun _ => by omega)) ?_
      refine rv (v := .int .i64 (falI L (pthL xs) i)) (v_load_rp1 ta3 (.inl rfl) rfl (fun _ => by rw [Nat.mul_one, ← frL_gd (F := (falI L (pthL xs))) hi]; exact icells_get (gd_get (by rw [frL_len]; exact hi))) rfl) ?_
      refine rv (v := .agg [.int _ _, .int _ _, .int _ _, .int _ _]) (v_build sp62 rfl rfl) ?_
      refine r_step rfl (o_store (v := .agg [.int _ _, .int _ _, .int _ _, .int _ _]) (y' := .op [.int _ _, .int _ _, .int _ _, .int _ _]) rfl rfl ta62 (.inl rfl) (.inl rfl) rfl rfl rfl rfl rfl rfl (Nat.le_of_ble_eq_true rfl) (by decide) rfl rfl) ?_
      refine r_nil ?_
      refine a_seq ?_
      have hp5 : i * 1 + 1 ≤ (icells ((prS xs (falI L (pthL xs)) (goB xs (falI L (pthL xs)) 0) i).2)).length := (by rw [icells_length]; omega)
      have hs5 : (icells ((prS xs (falI L (pthL xs)) (goB xs (falI L (pthL xs)) 0) i).2)).set (i * 1) (.int .i64 ((((prS xs (falI L (pthL xs)) (goB xs (falI L (pthL xs)) 0) i).1).length : Nat) : Int)) = icells (((prS xs (falI L (pthL xs)) (goB xs (falI L (pthL xs)) 0) i).2).set i ((((prS xs (falI L (pthL xs)) (goB xs (falI L (pthL xs)) 0) i).1).length : Nat) : Int)) := (by rw [Nat.mul_one, icells_set])
      refine a_region ?_
      refine rv (v := .rsl _ _ _ _ _) (v_move (.inl rfl) nf) ?_
      refine rv (v := .int _ _) (v_move (.inl rfl) nf) ?_
      refine rv (v := .rsl _ _ _ _ _) (v_move (.inl rfl) nf) ?_
      refine rv (v := .int _ _) (v_len_rsl sl42 (.inl rfl)) ?_
      refine rv (v := .rp _ _) (v_indexAddr_rsl0 es25 (.inl rfl) (.inl rfl) (fun _ => by omega)) ?_
      refine r_step rfl (o_store (v := .int _ _) (y' := .osl _ _ _ _) rfl rfl ta3 (.inl rfl) (.inl rfl) rfl rfl rfl rfl rfl rfl hp5 (by decide) rfl (congrArg (fun c => AV.osl 1 c xs.length none) hs5)) ?_
      refine r_nil ?_
      refine a_pre (ent_look (L := [(8, .op [.osl _ _ _ _]), (9, .op [.osl _ _ _ _]), (13, .osl _ _ _ _), (14, .osl _ _ _ _), (16, .op [.int _ _, .int _ _, .int _ _, .int _ _]), (80, .sl _ _), (81, .int _ _), (82, .int _ _)]) ⟨Weak.rfl, Weak.rfl, Weak.rfl, Weak.rfl, Weak.rfl, Weak.rfl, Weak.rfl, Weak.rfl, trivial⟩) ?_
      refine a_region ?_
      refine rv (v := .rsl _ _ _ _ _) (v_move (.inl rfl) nf) ?_
      refine rv (v := .agg [.int _ _, .int _ _, .int _ _, .int _ _]) (v_load_rpa1 ta62 (.inl rfl) rfl rfl (fun _ => rfl) rfl) ?_
      refine rn (v := .osl _ _ _ _) (q_sliceLit (n := 1) (parts := [(0, .tmp 119)]) lt42 rfl rfl rfl rfl) ?_
      refine r_pre (ent_reloc_sl (t := 118) rfl rfl) ?_
      refine r_step rfl (o_append rfl ap42 rfl (by decide) (by decide) rfl (src_lit (.inl rfl) rfl rfl rfl) rfl (by rw [tncells_length]) (by omega)) ?_
      refine rv (v := .rsl _ _ _ _ _) (v_assign (.inl rfl) nf) ?_
      refine r_pre (ent_reloc_sl (t := 13) rfl rfl) ?_
      refine r_nil ?_
      refine a_region ?_
      refine rv (v := .int _ _) (v_add (.inl rfl) (.inl rfl) (fun _ => by omega)) ?_
      refine rv (v := .int _ _) (v_move (.inl rfl) nf) ?_
      refine r_nil ?_
      have hpx : (prS xs (falI L (pthL xs)) (goB xs (falI L (pthL xs)) 0) (i + 1)).1 = (prS xs (falI L (pthL xs)) (goB xs (falI L (pthL xs)) 0) i).1 ++ [prN xs (falI L (pthL xs)) (prS xs (falI L (pthL xs)) (goB xs (falI L (pthL xs)) 0) i).2 i] := (by rw [prS_left hgn])
      have hpy : (prS xs (falI L (pthL xs)) (goB xs (falI L (pthL xs)) 0) (i + 1)).2 = ((prS xs (falI L (pthL xs)) (goB xs (falI L (pthL xs)) 0) i).2).set i (((prS xs (falI L (pthL xs)) (goB xs (falI L (pthL xs)) 0) i).1).length : Nat) := (by rw [prS_left hgn])
      refine ⟨i + 1, ent_look ⟨Weak.of_eq rfl, Weak.of_eq rfl, Weak.osl (by rw [hpx, hpq, tn_append]; rfl) (by rw [hpx]; simp), Weak.osl (by rw [hpy]) rfl, Weak.of_eq rfl, Weak.of_eq rfl, Weak.of_eq (int_eq (by omega)), trivial⟩, by omega, by omega⟩
     ·
      skip
      refine a_seq ?_
      have hFn : ¬ 0 ≤ (falI L (pthL xs) i) := (by simpa [frL_gd hi] using ht95)
      have hvi : nV xs i ≠ 0 := (fun h => hFn (leaf_fal hall hbi hi h))
      have hin := inner_spec (allN_spec hall i hi) hvi
      have hpq : prN xs (falI L (pthL xs)) ((prS xs (falI L (pthL xs)) (goB xs (falI L (pthL xs)) 0) i).2) i = (nV xs i, gd ((prS xs (falI L (pthL xs)) (goB xs (falI L (pthL xs)) 0) i).2) (nLo xs i), gd ((prS xs (falI L (pthL xs)) (goB xs (falI L (pthL xs)) 0) i).2) (nHi xs i), (gn xs i).2.2.2) := (by rw [hin.2.2.2.2]; exact if_neg hFn)
      refine a_region ?_
      refine rv (v := .rsl _ _ _ _ _) (v_move (.inl rfl) nf) ?_
      refine rv (v := .rp _ _) (v_fieldAddr_rp fo62_1 (.inl rfl)) ?_
      refine rv (v := .int _ _) (v_load_rp1 ta3 (.inl rfl) rfl (fun _ => rfl) rfl) ?_
      refine rv (v := .rp _ _) (v_indexAddr_rsl0 es25 (.inl rfl) (.inl rfl) (fun _ => by omega)) ?_
      refine rv (v := .int .i64 (gd ((prS xs (falI L (pthL xs)) (goB xs (falI L (pthL xs)) 0) i).2) (nLo xs i))) (v_load_rp1 ta3 (.inl rfl) rfl (fun _ => by rw [Nat.mul_one]; exact icells_get (gd_get (show nLo xs i < ((prS xs (falI L (pthL xs)) (goB xs (falI L (pthL xs)) 0) i).2).length by omega))) rfl) ?_
      refine rv (v := .rp _ _) (v_fieldAddr_rp fo62_1 (.inl rfl)) ?_
      refine r_step rfl (o_store (v := .int _ _) (y' := .op [.int _ _, .int _ _, .int _ _, .int _ _]) rfl rfl ta3 (.inl rfl) (.inl rfl) rfl rfl rfl rfl rfl rfl (Nat.le_of_ble_eq_true rfl) (by decide) rfl rfl) ?_
      refine r_nil ?_
      refine a_pre (ent_look (L := [(8, .op [.osl _ _ _ _]), (9, .op [.osl _ _ _ _]), (13, .osl _ _ _ _), (14, .osl _ _ _ _), (15, .int _ _), (16, .op [.int _ _, .int _ _, .int _ _, .int _ _]), (80, .sl _ _), (81, .int _ _), (82, .int _ _)]) ⟨Weak.rfl, Weak.rfl, Weak.rfl, Weak.rfl, Weak.rfl, Weak.rfl, Weak.rfl, Weak.rfl, Weak.rfl, trivial⟩) ?_
      refine a_region ?_
      refine rv (v := .rsl _ _ _ _ _) (v_move (.inl rfl) nf) ?_
      refine rv (v := .rp _ _) (v_fieldAddr_rp fo62_2 (.inl rfl)) ?_
      refine rv (v := .int _ _) (v_load_rp1 ta3 (.inl rfl) rfl (fun _ => rfl) rfl) ?_
      refine rv (v := .rp _ _) (v_indexAddr_rsl0 es25 (.inl rfl) (.inl rfl) (fun _ => by omega)) ?_
      refine rv (v := .int .i64 (gd ((prS xs (falI L (pthL xs)) (goB xs (falI L (pthL xs)) 0) i).2) (nHi xs i))) (v_load_rp1 ta3 (.inl rfl) rfl (fun _ => by rw [Nat.mul_one]; exact icells_get (gd_get (show nHi xs i < ((prS xs (falI L (pthL xs)) (goB xs (falI L (pthL xs)) 0) i).2).length by omega))) rfl) ?_
      refine rv (v := .rp _ _) (v_fieldAddr_rp fo62_2 (.inl rfl)) ?_
      refine r_step rfl (o_store (v := .int _ _) (y' := .op [.int _ _, .int _ _, .int _ _, .int _ _]) rfl rfl ta3 (.inl rfl) (.inl rfl) rfl rfl rfl rfl rfl rfl (Nat.le_of_ble_eq_true rfl) (by decide) rfl rfl) ?_
      refine r_nil ?_
      refine a_seq ?_
      have hp5 : i * 1 + 1 ≤ (icells ((prS xs (falI L (pthL xs)) (goB xs (falI L (pthL xs)) 0) i).2)).length := (by rw [icells_length]; omega)
      have hs5 : (icells ((prS xs (falI L (pthL xs)) (goB xs (falI L (pthL xs)) 0) i).2)).set (i * 1) (.int .i64 ((((prS xs (falI L (pthL xs)) (goB xs (falI L (pthL xs)) 0) i).1).length : Nat) : Int)) = icells (((prS xs (falI L (pthL xs)) (goB xs (falI L (pthL xs)) 0) i).2).set i ((((prS xs (falI L (pthL xs)) (goB xs (falI L (pthL xs)) 0) i).1).length : Nat) : Int)) := (by rw [Nat.mul_one, icells_set])
      refine a_region ?_
      refine rv (v := .rsl _ _ _ _ _) (v_move (.inl rfl) nf) ?_
      refine rv (v := .int _ _) (v_move (.inl rfl) nf) ?_
      refine rv (v := .rsl _ _ _ _ _) (v_move (.inl rfl) nf) ?_
      refine rv (v := .int _ _) (v_len_rsl sl42 (.inl rfl)) ?_
      refine rv (v := .rp _ _) (v_indexAddr_rsl0 es25 (.inl rfl) (.inl rfl) (fun _ => by omega)) ?_
      refine r_step rfl (o_store (v := .int _ _) (y' := .osl _ _ _ _) rfl rfl ta3 (.inl rfl) (.inl rfl) rfl rfl rfl rfl rfl rfl hp5 (by decide) rfl (congrArg (fun c => AV.osl 1 c xs.length none) hs5)) ?_
      refine r_nil ?_
      refine a_region ?_
      refine rv (v := .rsl _ _ _ _ _) (v_move (.inl rfl) nf) ?_
      refine rv (v := .agg [.int _ _, .int _ _, .int _ _, .int _ _]) (v_load_rpa1 ta62 (.inl rfl) rfl rfl (fun _ => rfl) rfl) ?_
      refine rn (v := .osl _ _ _ _) (q_sliceLit (n := 1) (parts := [(0, .tmp 119)]) lt42 rfl rfl rfl rfl) ?_
      refine r_pre (ent_reloc_sl (t := 118) rfl rfl) ?_
      refine r_step rfl (o_append rfl ap42 rfl (by decide) (by decide) rfl (src_lit (.inl rfl) rfl rfl rfl) rfl (by rw [tncells_length]) (by omega)) ?_
      refine rv (v := .rsl _ _ _ _ _) (v_assign (.inl rfl) nf) ?_
      refine r_pre (ent_reloc_sl (t := 13) rfl rfl) ?_
      refine r_nil ?_
      refine a_region ?_
      refine rv (v := .int _ _) (v_add (.inl rfl) (.inl rfl) (fun _ => by omega)) ?_
      refine rv (v := .int _ _) (v_move (.inl rfl) nf) ?_
      refine r_nil ?_
      have hpx : (prS xs (falI L (pthL xs)) (goB xs (falI L (pthL xs)) 0) (i + 1)).1 = (prS xs (falI L (pthL xs)) (goB xs (falI L (pthL xs)) 0) i).1 ++ [prN xs (falI L (pthL xs)) (prS xs (falI L (pthL xs)) (goB xs (falI L (pthL xs)) 0) i).2 i] := (by rw [prS_left hgn])
      have hpy : (prS xs (falI L (pthL xs)) (goB xs (falI L (pthL xs)) 0) (i + 1)).2 = ((prS xs (falI L (pthL xs)) (goB xs (falI L (pthL xs)) 0) i).2).set i (((prS xs (falI L (pthL xs)) (goB xs (falI L (pthL xs)) 0) i).1).length : Nat) := (by rw [prS_left hgn])
      refine ⟨i + 1, ent_look ⟨Weak.of_eq rfl, Weak.of_eq rfl, Weak.osl (by rw [hpx, hpq, tn_append]; rfl) (by rw [hpx]; simp), Weak.osl (by rw [hpy]) rfl, Weak.of_eq rfl, Weak.of_eq rfl, Weak.of_eq (int_eq (by omega)), trivial⟩, by omega, by omega⟩
   ·
    skip
    refine a_exit ?_
    refine a_seq ?_
    refine a_region ?_
    refine rv (v := .rsl _ _ _ _ _) (v_move (.inl rfl) nf) ?_
    refine rv (v := .rsl _ _ _ _ _) (v_assign (.inl rfl) nf) ?_
    refine r_pre (ent_reloc_sl (t := 4) rfl rfl) ?_
    refine rv (v := .bool _) (v_assign (.inl rfl) nf) ?_
    refine r_nil ?_
    refine a_ret ?_
    refine retL (rs := [.tmp 4, .tmp 5]) [(4, .osl _ _ _ none), (5, _)] ⟨Weak.osl rfl rfl, Weak.rfl, trivial⟩ rfl Tryz.results22 (by decide) ⟨by decide, by decide, rfl⟩ (by decide) (by decide) (l2_eq (osl_eq2 ?_ ?_) (bool_eq ?_)) rfl
    all_goals (first | exact hty.symm | (rw [prnR_yes hty]; simp at ht83; rw [show i = xs.length by omega]))
end Go.Av
namespace Go.Av
open Go Go.Proofs Go.Sort
set_option maxRecDepth 10000
theorem hb36 : hasBody Tryz.prog 36 = true := by kernel_rfl
theorem hb37 : hasBody Tryz.prog 37 = true := by kernel_rfl
theorem sPrn_c (vars : Int) (L : List (List Int)) (xs : List TN) (hk : CnfOk vars L) (hl : xs.length ≤ 1048576) : ACall Tryz.prog 20 [.agg [.int .i64 vars, .sl (sls L) L.length], .sl (tncells xs) xs.length] [] (.tup [.osl 4 (tncells (prnR vars L xs)) (prnR vars L xs).length none, .bool (prnB vars L xs)]) [] := by
 refine ACall.intro Tryz.func20 rfl (N := 124) rfl (by decide) (by simp) ?_
 refine a_seq ?_
 refine a_region ?_
 refine rn (v := .op [.int _ _, .sl _ _]) (q_box (.inl rfl) rfl rfl) ?_
 refine rv (v := .nils) (v_assign (.inl rfl) nf) ?_
 refine rv (v := .bool _) (v_assign (.inl rfl) nf) ?_
 refine r_nil ?_
 refine a_seq ?_
 refine a_region ?_
 refine rv (v := .agg [.int _ _, .sl _ _]) (v_load_rpa1 ta30 (.inl rfl) rfl rfl (fun _ => rfl) rfl) ?_
 refine rv (v := .sl _ _) (v_move (.inl rfl) nf) ?_
 refine rn (v := .tup [.osl _ _ _ _, .bool _]) (q_callF (vs := [.agg [.int _ _, .sl _ _], .sl _ _]) (args := [.agg [.int .i64 _, .sl _ _], .sl _ _]) hb36 ⟨.inl rfl, .inl rfl, trivial⟩ rfl (fun hA => search9_c vars L xs hk hl) rfl (by simp [noRef, noRefL, sls_noRef])) ?_
 refine rv (v := .tup [.rsl _ _ _ _ _, .bool _]) (v_mv rfl) ?_
 refine rv (v := .rsl _ _ _ _ _) (v_extract rfl rfl) ?_
 refine rv (v := .bool _) (v_extract rfl rfl) ?_
 refine rv (v := .rsl _ _ _ _ _) (v_assign (.inl rfl) nf) ?_
 refine r_pre (ent_reloc_sl (t := 6) rfl rfl) ?_
 refine rv (v := .bool _) (v_assign (.inl rfl) nf) ?_
 refine r_nil ?_
 refine a_seq ?_
 refine a_seq ?_
 refine a_region ?_
 refine rv (v := .bool _) (v_move (.inl rfl) nf) ?_
 refine rv (v := .bool _) (v_not (.inl rfl)) ?_
 refine r_nil ?_
 refine a_cond rfl (fun ht21 => ?_) (fun ht21 => ?_)
 ·
  skip
  refine a_seq ?_
  have htn : (prnB vars L xs) = false := (by simpa using ht21)
  refine a_region ?_
  refine rn (v := .osl _ _ _ _) (q_sliceLit (n := 0) (parts := []) lt42 rfl rfl rfl rfl) ?_
  refine rv (v := .rsl _ _ _ _ _) (v_assign (.inl rfl) nf) ?_
  refine r_pre (ent_reloc_sl (t := 4) rfl rfl) ?_
  refine rv (v := .bool _) (v_assign (.inl rfl) nf) ?_
  refine r_nil ?_
  refine a_ret ?_
  refine retL (rs := [.tmp 4, .tmp 5]) [(4, .osl _ _ _ none), (5, _)] ⟨Weak.osl rfl rfl, Weak.rfl, trivial⟩ rfl Tryz.results20 (by decide) ⟨by decide, by decide, rfl⟩ (by decide) (by decide) (l2_eq (osl_eq2 ?_ ?_) (bool_eq ?_)) rfl
  all_goals (first | exact htn.symm | (rw [prnR_no htn]; rfl))
 ·
  skip
  refine a_skip ?_
  refine a_seq ?_
  have hty : (prnB vars L xs) = true := (by simpa using ht21)
  obtain ⟨htr, hbi⟩ := prnB_spec hty
  obtain ⟨hcf, hrg, hall, hsm⟩ := treeB_spec htr
  have hpok := pth_ok htr
  have hcs := cnfB_spec hcf
  have hpn := hpok.1
  have hcl := hcs.2.2
  have hLl2 := hcs.2.1
  refine a_pre (ent_eq (t := 6) (v' := .osl 1 (sls (pthL xs)) (pthL xs).length none) (Weak.osl (by rw [pthT_yes htr]) (by rw [pthT_yes htr]))) ?_
  refine a_region ?_
  refine rv (v := .sl _ _) (v_move (.inl rfl) nf) ?_
  refine rv (v := .int _ _) (v_len_sl sl42 (.inl rfl)) ?_
  refine rn (v := .osl _ _ _ _) (q_makeSlice us59 sb4 zc4 rfl (by decide) (.inl rfl) (.inl rfl) (fun _ => by omega)) ?_
  refine r_pre (ent_eq (t := 25) (v' := .osl 1 (blcells (List.replicate xs.length false)) xs.length none) (Weak.osl (bl_rep _).symm rfl)) ?_
  refine rv (v := .rsl _ _ _ _ _) (v_assign (.inl rfl) nf) ?_
  refine r_pre (ent_reloc_sl (t := 8) rfl rfl) ?_
  refine r_nil ?_
  refine a_seq ?_
  have hp1 : (((xs.length : Int) - 1).toNat) * 1 + 1 ≤ (blcells (List.replicate xs.length false)).length := (by rw [bl_len]; simp; omega)
  have hs1 : (blcells (List.replicate xs.length false)).set (((xs.length : Int) - 1).toNat * 1) (.bool true) = blcells (leB xs (falI L (pthL xs)) xs.length) := (by rw [Nat.mul_one, show ((xs.length : Int) - 1).toNat = xs.length - 1 by omega, bl_set, leB_top])
  refine a_region ?_
  refine rv (v := .rsl _ _ _ _ _) (v_move (.inl rfl) nf) ?_
  refine rv (v := .sl _ _) (v_move (.inl rfl) nf) ?_
  refine rv (v := .int _ _) (v_len_sl sl42 (.inl rfl)) ?_
  refine rv (v := .int _ _) (v_sub (.inl rfl) (.inl rfl) (fun _ => by omega)) ?_
  refine rv (v := .rp _ _) (v_indexAddr_rsl0 es59 (.inl rfl) (.inl rfl) (fun _ => by omega)) ?_
  refine r_step rfl (o_store (v := .bool _) (y' := .osl _ _ _ _) rfl rfl ta4 (.inl rfl) (.inl rfl) rfl rfl rfl rfl rfl rfl hp1 (by decide) rfl (congrArg (fun c => AV.osl 1 c xs.length none) hs1)) ?_
  refine r_nil ?_
  refine a_seq ?_
  refine a_seq ?_
  refine a_region ?_
  refine rv (v := .sl _ _) (v_move (.inl rfl) nf) ?_
  refine rv (v := .int _ _) (v_len_sl sl42 (.inl rfl)) ?_
  refine rv (v := .int _ _) (v_sub (.inl rfl) (.inl rfl) (fun _ => by omega)) ?_
  refine rv (v := .int _ _) (v_assign (.inl rfl) nf) ?_
  refine r_nil ?_
  refine a_block ?_
  refine a_loop (X := Nat) (fun k => look [(1, .sl (tncells xs) xs.length), (2, .op [.int .i64 vars, .sl (sls L) L.length]), (6, .osl 1 (sls (pthL xs)) (pthL xs).length none), (8, .osl 1 (blcells (leB xs (falI L (pthL xs)) k)) xs.length none), (9, .int .i64 (((k : Nat) : Int) - 1))]) (fun k => k ≤ xs.length) (fun k => k) xs.length (ent_look ⟨Weak.of_eq rfl, Weak.of_eq rfl, Weak.of_eq rfl, Weak.of_eq rfl, Weak.of_eq rfl, trivial⟩) (Nat.le_refl _) (fun k hG => ?_)
  refine a_seq ?_
  refine a_seq ?_
  refine a_region ?_
  refine rv (v := .int _ _) (v_move (.inl rfl) nf) ?_
  refine rv (v := .bool _) (v_geq (.inl rfl) (.inl rfl)) ?_
  refine r_nil ?_
  refine a_cond rfl (fun ht35 => ?_) (fun ht35 => ?_)
  ·
   skip
   refine a_skip ?_
   refine a_seq ?_
   refine a_block ?_
   refine a_seq ?_
   obtain ⟨m, rfl⟩ : ∃ m, k = m + 1 := ⟨k - 1, by simp at ht35; omega⟩
   have hm : m < xs.length := (by omega)
   have hms : (((m + 1 : Nat) : Int) - 1).toNat = m := (by omega)
   have hpc := clB_len (hpok.2 m)
   refine a_region_any mixed (by kernel_rfl) ?_
   refine yv (v := .rsl _ _ _ _ _) (v_move (.inl rfl) nf) ?_
   refine yv (v := .int _ _) (v_move (.inl rfl) nf) ?_
   refine yv (v := .rp _ _) (v_indexAddr_rsl0 es59 (.inl rfl) (.inl rfl) (fun _ => by omega)) ?_
   refine yv (v := .bool ((leB xs (falI L (pthL xs)) (m + 1)).getD m false)) (v_load_rp1 ta4 (.inl rfl) rfl (fun _ => by rw [hms, Nat.mul_one]; exact bl_get (le_get hm)) rfl) ?_
   refine yv (v := .bool _) (v_move (.inl rfl) nf) ?_
   refine yg (v := .agg [.int _ _, .sl _ _]) (VSem.quiet (v_load_rpa1 ta30 (.inl rfl) rfl rfl (fun _ => rfl) rfl)) rfl rfl rfl (by decide) (.inl ⟨_, rfl, rfl⟩) ?_
   refine yg (v := .rsl _ _ _ _ _) (v_move (.inl rfl) nf).quiet rfl rfl rfl (by decide) (.inl ⟨_, rfl, rfl⟩) ?_
   refine yg (v := .int _ _) (v_move (.inl rfl) nf).quiet rfl rfl rfl (by decide) (.inl ⟨_, rfl, rfl⟩) ?_
   refine yg (v := .rp _ _) (v_indexAddr_rsl0 es22 (.inr ⟨_, rfl, fun h => h⟩) (.inr ⟨_, rfl, fun h => h⟩) (fun _ => by omega)).quiet rfl rfl rfl (by decide) (.inl ⟨_, rfl, rfl⟩) ?_
   refine yg (v := .sl (icells (gl (pthL xs) m)) (gl (pthL xs) m).length) (v_load_rp1 ta25 (.inr ⟨_, rfl, fun h => h⟩) rfl (fun _ => by rw [hms, Nat.mul_one]; exact sls_get (show m < (pthL xs).length by omega)) rfl).quiet rfl rfl rfl (by decide) (.inl ⟨_, rfl, rfl⟩) ?_
   refine yg (v := .int .i64 (falI L (pthL xs) m)) (q_call (vs := [.agg [.int _ _, .sl _ _], .sl _ _]) (args := [.agg [.int .i64 _, .sl _ _], .sl _ _]) hb37 ⟨.inr ⟨_, rfl, fun h => h⟩, .inr ⟨_, rfl, fun h => h⟩, trivial⟩ rfl (fun hA => false9_c vars L (gl (pthL xs) m) hcl hLl2 hpc) rfl rfl) rfl rfl rfl (by decide) (.inl ⟨_, rfl, rfl⟩) ?_
   refine yg (v := .bool _) (v_lss (.inr ⟨_, rfl, fun h => h⟩) (.inl rfl)).quiet rfl rfl rfl (by decide) (.inl ⟨_, rfl, rfl⟩) ?_
   refine yv (v := .bool _) (v_pick (.inl rfl) (.inr ⟨_, rfl, fun h h2 => by simp_all⟩) (.inl rfl)) ?_
   refine y_nil ?_
   refine a_cond rfl (fun ht50 => ?_) (fun ht50 => ?_)
   ·
    skip
    refine a_seq ?_
    have hc : (leB xs (falI L (pthL xs)) (m + 1)).getD m false = true ∧ (falI L (pthL xs) m) < 0 := (by revert ht50; cases (leB xs (falI L (pthL xs)) (m + 1)).getD m false <;> simp)
    have hvm : nV xs m ≠ 0 := (fun h => by have := leaf_fal hall hbi hm h; omega)
    have hin := inner_spec (allN_spec hall m hm) hvm
    have hp3 : (nLo xs m) * 1 + 1 ≤ (blcells (leB xs (falI L (pthL xs)) (m + 1))).length := (by rw [bl_len]; simp [goB_len, leB_len]; omega)
    have hs3 : (blcells (leB xs (falI L (pthL xs)) (m + 1))).set ((nLo xs m) * 1) (.bool true) = blcells ((leB xs (falI L (pthL xs)) (m + 1)).set (nLo xs m) true) := (by rw [Nat.mul_one, bl_set])
    have hp4 : (nHi xs m) * 1 + 1 ≤ (blcells ((leB xs (falI L (pthL xs)) (m + 1)).set (nLo xs m) true)).length := (by rw [bl_len]; simp [goB_len, leB_len]; omega)
    have hs4 : (blcells ((leB xs (falI L (pthL xs)) (m + 1)).set (nLo xs m) true)).set ((nHi xs m) * 1) (.bool true) = blcells (((leB xs (falI L (pthL xs)) (m + 1)).set (nLo xs m) true).set (nHi xs m) true) := (by rw [Nat.mul_one, bl_set])
    refine a_region ?_
    refine rv (v := .rsl _ _ _ _ _) (v_move (.inl rfl) nf) ?_
    refine rv (v := .sl _ _) (v_move (.inl rfl) nf) ?_
    refine rv (v := .int _ _) (v_move (.inl rfl) nf) ?_
    refine rv (v := .pp _ _) (v_indexAddr_sl es42 (.inl rfl) (.inl rfl) (fun _ => ⟨by omega, by omega, tn_ne hm⟩)) ?_
    refine rv (v := .pp _ _) (v_fieldAddr_pp fo62_1 (.inl rfl)) ?_
    refine rv (v := .int .i64 (gn xs m).2.1) (v_load_pp ta3 (.inl rfl) (fun _ => by rw [hms]; have := tn_at (j := 1) hm (by omega); exact this) rfl) ?_
    refine rv (v := .rp _ _) (v_indexAddr_rsl0 es59 (.inl rfl) (.inl rfl) (fun _ => by omega)) ?_
    refine r_step rfl (o_store (v := .bool _) (y' := .osl _ _ _ _) rfl rfl ta4 (.inl rfl) (.inl rfl) rfl rfl rfl rfl rfl rfl hp3 (by decide) rfl (congrArg (fun c => AV.osl 1 c xs.length none) hs3)) ?_
    refine r_nil ?_
    refine a_region ?_
    refine rv (v := .rsl _ _ _ _ _) (v_move (.inl rfl) nf) ?_
    refine rv (v := .sl _ _) (v_move (.inl rfl) nf) ?_
    refine rv (v := .int _ _) (v_move (.inl rfl) nf) ?_
    refine rv (v := .pp _ _) (v_indexAddr_sl es42 (.inl rfl) (.inl rfl) (fun _ => ⟨by omega, by omega, tn_ne hm⟩)) ?_
    refine rv (v := .pp _ _) (v_fieldAddr_pp fo62_2 (.inl rfl)) ?_
    refine rv (v := .int .i64 (gn xs m).2.2.1) (v_load_pp ta3 (.inl rfl) (fun _ => by rw [hms]; have := tn_at (j := 2) hm (by omega); exact this) rfl) ?_
    refine rv (v := .rp _ _) (v_indexAddr_rsl0 es59 (.inl rfl) (.inl rfl) (fun _ => by omega)) ?_
    refine r_step rfl (o_store (v := .bool _) (y' := .osl _ _ _ _) rfl rfl ta4 (.inl rfl) (.inl rfl) rfl rfl rfl rfl rfl rfl hp4 (by decide) rfl (congrArg (fun c => AV.osl 1 c xs.length none) hs4)) ?_
    refine r_nil ?_
    refine a_pre (ent_look (L := [(1, .sl _ _), (2, .op [.int _ _, .sl _ _]), (6, .osl _ _ _ _), (8, .osl _ _ _ _), (9, .int _ _)]) ⟨Weak.rfl, Weak.rfl, Weak.rfl, Weak.rfl, Weak.rfl, trivial⟩) ?_
    refine a_region ?_
    refine rv (v := .int _ _) (v_move (.inl rfl) nf) ?_
    refine rv (v := .int _ _) (v_sub (.inl rfl) (.inl rfl) (fun _ => by omega)) ?_
    refine rv (v := .int _ _) (v_assign (.inl rfl) nf) ?_
    refine r_nil ?_
    refine ⟨m, ent_look ⟨Weak.of_eq rfl, Weak.of_eq rfl, Weak.of_eq rfl, Weak.osl (by rw [le_yes hm hc]) rfl, Weak.of_eq (int_eq (by omega)), trivial⟩, by omega, by omega⟩
   ·
    skip
    refine a_skip ?_
    refine a_region ?_
    refine rv (v := .int _ _) (v_move (.inl rfl) nf) ?_
    refine rv (v := .int _ _) (v_sub (.inl rfl) (.inl rfl) (fun _ => by omega)) ?_
    refine rv (v := .int _ _) (v_assign (.inl rfl) nf) ?_
    refine r_nil ?_
    have hnc : ¬ ((leB xs (falI L (pthL xs)) (m + 1)).getD m false = true ∧ (falI L (pthL xs) m) < 0) := (by rintro ⟨h1, h2⟩; rw [h1] at ht50; simp at ht50; omega)
    refine ⟨m, ent_look ⟨Weak.of_eq rfl, Weak.of_eq rfl, Weak.of_eq rfl, Weak.osl (by rw [le_no hm hnc]) rfl, Weak.of_eq (int_eq (by omega)), trivial⟩, by omega, by omega⟩
  ·
   skip
   refine a_exit ?_
   refine a_seq ?_
   have hke : k = 0 := (by simp at ht35; omega)
   subst hke
   refine a_region_any mixed (by kernel_rfl) ?_
   refine y_new (v := .osl _ _ _ _) (q_sliceLit (n := 0) (parts := []) lt42 rfl rfl rfl rfl) rfl rfl (by decide) (by kernel_rfl) ?_
   refine yv (v := .sl _ _) (v_move (.inl rfl) nf) ?_
   refine yv (v := .int _ _) (v_len_sl sl42 (.inl rfl)) ?_
   refine y_new (v := .osl _ _ _ _) (q_makeSlice us25 sb3 zc3 rfl (by decide) (.inl rfl) (.inl rfl) (fun _ => by omega)) rfl rfl (by decide) (by kernel_rfl) ?_
   refine yv (v := .rsl _ _ _ _ _) (v_assign (.inl rfl) nf) ?_
   refine yv (v := .rsl _ _ _ _ _) (v_assign (.inl rfl) nf) ?_
   refine y_nil ?_
   refine a_seq ?_
   refine a_seq ?_
   refine a_pre (ent_reloc_sl (t := 10) rfl rfl) ?_
   refine a_pre (ent_reloc_sl (t := 11) rfl rfl) ?_
   refine a_region ?_
   refine rv (v := .int _ _) (v_assign (.inl rfl) nf) ?_
   refine r_nil ?_
   refine a_block ?_
   refine a_loop (X := Nat) (fun i => look [(1, .sl (tncells xs) xs.length), (2, .op [.int .i64 vars, .sl (sls L) L.length]), (6, .osl 1 (sls (pthL xs)) (pthL xs).length none), (8, .osl 1 (blcells (leB xs (falI L (pthL xs)) 0)) xs.length none), (10, .osl 4 (tncells ((prS xs (falI L (pthL xs)) (goB xs (falI L (pthL xs)) 0) i).1)) ((prS xs (falI L (pthL xs)) (goB xs (falI L (pthL xs)) 0) i).1).length none), (11, .osl 1 (icells ((prS xs (falI L (pthL xs)) (goB xs (falI L (pthL xs)) 0) i).2)) xs.length none), (12, .int .i64 ((i : Nat) : Int))]) (fun i => i ≤ xs.length) (fun i => xs.length - i) 0 (ent_look ⟨Weak.of_eq rfl, Weak.of_eq rfl, Weak.of_eq rfl, Weak.of_eq rfl, Weak.osl rfl rfl, Weak.osl (by rw [show (prS xs (falI L (pthL xs)) (goB xs (falI L (pthL xs)) 0) 0).2 = List.replicate xs.length 0 from rfl, icells_rep]) rfl, Weak.of_eq rfl, trivial⟩) (Nat.zero_le _) (fun i hG => ?_)
   refine a_seq ?_
   refine a_seq ?_
   refine a_region ?_
   refine rv (v := .int _ _) (v_move (.inl rfl) nf) ?_
   refine rv (v := .sl _ _) (v_move (.inl rfl) nf) ?_
   refine rv (v := .int _ _) (v_len_sl sl42 (.inl rfl)) ?_
   refine rv (v := .bool _) (v_lss (.inl rfl) (.inl rfl)) ?_
   refine r_nil ?_
   refine a_cond rfl (fun ht72 => ?_) (fun ht72 => ?_)
   ·
    skip
    refine a_skip ?_
    refine a_seq ?_
    refine a_block ?_
    refine a_seq ?_
    refine a_seq ?_
    have hi : i < xs.length := (by simp at ht72; omega)
    have hbl := prS_len xs (falI L (pthL xs)) (goB xs (falI L (pthL xs)) 0) i
    have hla : (leB xs (falI L (pthL xs)) 0).getD i false = !(goB xs (falI L (pthL xs)) 0).getD i false := left_all hall hrg.1 hsm (fun i hi hv => leaf_fal hall hbi hi hv) hi
    have hpc := clB_len (hpok.2 i)
    refine a_region ?_
    refine rv (v := .rsl _ _ _ _ _) (v_move (.inl rfl) nf) ?_
    refine rv (v := .int _ _) (v_move (.inl rfl) nf) ?_
    refine rv (v := .rp _ _) (v_indexAddr_rsl0 es59 (.inl rfl) (.inl rfl) (fun _ => by omega)) ?_
    refine rv (v := .bool ((leB xs (falI L (pthL xs)) 0).getD i false)) (v_load_rp1 ta4 (.inl rfl) rfl (fun _ => by rw [Nat.mul_one]; exact bl_get (le_get hi)) rfl) ?_
    refine rv (v := .bool _) (v_not (.inl rfl)) ?_
    refine r_nil ?_
    refine a_cond rfl (fun ht79 => ?_) (fun ht79 => ?_)
    ·
     skip
     refine a_exit ?_
     refine a_region ?_
     refine rv (v := .int _ _) (v_move (.inl rfl) nf) ?_
     refine rv (v := .int _ _) (v_add (.inl rfl) (.inl rfl) (fun _ => by omega)) ?_
     refine rv (v := .int _ _) (v_assign (.inl rfl) nf) ?_
     refine r_nil ?_
     have hgy : (goB xs (falI L (pthL xs)) 0).getD i false = true := (by rw [hla] at ht79; simpa using ht79)
     refine ⟨i + 1, ent_look ⟨Weak.of_eq rfl, Weak.of_eq rfl, Weak.of_eq rfl, Weak.of_eq rfl, Weak.osl (by rw [prS_gone hgy]) (by rw [prS_gone hgy]), Weak.osl (by rw [prS_gone hgy]) rfl, Weak.of_eq (int_eq (by omega)), trivial⟩, by omega, by omega⟩
    ·
     skip
     refine a_skip ?_
     refine a_seq ?_
     have hgn : (goB xs (falI L (pthL xs)) 0).getD i false = false := (by rw [hla] at ht79; simpa using ht79)
     have hp5 : i * 1 + 1 ≤ (icells ((prS xs (falI L (pthL xs)) (goB xs (falI L (pthL xs)) 0) i).2)).length := (by rw [icells_length]; omega)
     have hs5 : (icells ((prS xs (falI L (pthL xs)) (goB xs (falI L (pthL xs)) 0) i).2)).set (i * 1) (.int .i64 ((((prS xs (falI L (pthL xs)) (goB xs (falI L (pthL xs)) 0) i).1).length : Nat) : Int)) = icells (((prS xs (falI L (pthL xs)) (goB xs (falI L (pthL xs)) 0) i).2).set i ((((prS xs (falI L (pthL xs)) (goB xs (falI L (pthL xs)) 0) i).1).length : Nat) : Int)) := (by rw [Nat.mul_one, icells_set])
     refine a_region ?_
     refine rv (v := .rsl _ _ _ _ _) (v_move (.inl rfl) nf) ?_
     refine rv (v := .int _ _) (v_move (.inl rfl) nf) ?_
     refine rv (v := .rsl _ _ _ _ _) (v_move (.inl rfl) nf) ?_
     refine rv (v := .int _ _) (v_len_rsl sl42 (.inl rfl)) ?_
     refine rv (v := .rp _ _) (v_indexAddr_rsl0 es25 (.inl rfl) (.inl rfl) (fun _ => by omega)) ?_
     refine r_step rfl (o_store (v := .int _ _) (y' := .osl _ _ _ _) rfl rfl ta3 (.inl rfl) (.inl rfl) rfl rfl rfl rfl rfl rfl hp5 (by decide) rfl (congrArg (fun c => AV.osl 1 c xs.length none) hs5)) ?_
     refine r_nil ?_
     refine a_seq ?_
     refine a_region_any mixed (by kernel_rfl) ?_
     refine yv (v := .agg [.int _ _, .sl _ _]) (v_load_rpa1 ta30 (.inl rfl) rfl rfl (fun _ => rfl) rfl) ?_
     refine yv (v := .rsl _ _ _ _ _) (v_move (.inl rfl) nf) ?_
     refine yv (v := .int _ _) (v_move (.inl rfl) nf) ?_
     refine yv (v := .rp _ _) (v_indexAddr_rsl0 es22 (.inl rfl) (.inl rfl) (fun _ => by omega)) ?_
     refine yv (v := .sl (icells (gl (pthL xs) i)) (gl (pthL xs) i).length) (v_load_rp1 ta25 (.inl rfl) rfl (fun _ => by rw [Nat.mul_one]; exact sls_get (show i < (pthL xs).length by omega)) rfl) ?_
     refine y_new (v := .int .i64 (falI L (pthL xs) i)) (q_call (vs := [.agg [.int _ _, .sl _ _], .sl _ _]) (args := [.agg [.int .i64 _, .sl _ _], .sl _ _]) hb37 ⟨.inl rfl, .inl rfl, trivial⟩ rfl (fun hA => false9_c vars L (gl (pthL xs) i) hcl hLl2 hpc) rfl rfl) rfl rfl (by decide) (by kernel_rfl) ?_
     refine yv (v := .int _ _) (v_assign (.inl rfl) nf) ?_
     refine y_nil ?_
     refine a_seq ?_
     refine a_region ?_
     refine rv (v := .int _ _) (v_move (.inl rfl) nf) ?_
     refine rv (v := .bool _) (v_geq (.inl rfl) (.inl rfl)) ?_
     refine r_nil ?_
     refine a_cond rfl (fun ht92 => ?_) (fun ht92 => ?_)
     ·
      skip
      refine a_pre (ent_look (L := [(1, .sl _ _), (2, .op [.int _ _, .sl _ _]), (6, .osl _ _ _ _), (8, .osl _ _ _ _), (10, .osl _ _ _ _), (11, .osl _ _ _ _), (12, .int _ _), (13, .int _ _)]) ⟨Weak.rfl, Weak.rfl, Weak.rfl, Weak.rfl, Weak.rfl, Weak.rfl, Weak.rfl, Weak.rfl, trivial⟩) ?_
      have hFn : 0 ≤ (falI L (pthL xs) i) := (by simpa using ht92)
      have hpq : prN xs (falI L (pthL xs)) ((prS xs (falI L (pthL xs)) (goB xs (falI L (pthL xs)) 0) i).2) i = (0, 0, 0, (falI L (pthL xs) i)) := if_pos hFn
      refine a_region ?_
      refine rv (v := .rsl _ _ _ _ _) (v_move (.inl rfl) nf) ?_
      refine rv (v := .int _ _) (v_move (.inl rfl) nf) ?_
      refine rv (v := .agg [.int _ _, .int _ _, .int _ _, .int _ _]) (v_build sp62 rfl rfl) ?_
      refine rn (v := .osl _ _ _ _) (q_sliceLit (n := 1) (parts := [(0, .tmp 95)]) lt42 rfl rfl rfl rfl) ?_
      refine r_pre (ent_reloc_sl (t := 93) rfl rfl) ?_
      refine r_step rfl (o_append rfl ap42 rfl (by decide) (by decide) rfl (src_lit (.inl rfl) rfl rfl rfl) rfl (by rw [tncells_length]) (by omega)) ?_
      refine rv (v := .rsl _ _ _ _ _) (v_assign (.inl rfl) nf) ?_
      refine r_pre (ent_reloc_sl (t := 10) rfl rfl) ?_
      refine r_nil ?_
      refine a_region ?_
      refine rv (v := .int _ _) (v_move (.inl rfl) nf) ?_
      refine rv (v := .int _ _) (v_add (.inl rfl) (.inl rfl) (fun _ => by omega)) ?_
      refine rv (v := .int _ _) (v_assign (.inl rfl) nf) ?_
      refine r_nil ?_
      have hpx : (prS xs (falI L (pthL xs)) (goB xs (falI L (pthL xs)) 0) (i + 1)).1 = (prS xs (falI L (pthL xs)) (goB xs (falI L (pthL xs)) 0) i).1 ++ [prN xs (falI L (pthL xs)) (prS xs (falI L (pthL xs)) (goB xs (falI L (pthL xs)) 0) i).2 i] := (by rw [prS_left hgn])
      have hpy : (prS xs (falI L (pthL xs)) (goB xs (falI L (pthL xs)) 0) (i + 1)).2 = ((prS xs (falI L (pthL xs)) (goB xs (falI L (pthL xs)) 0) i).2).set i (((prS xs (falI L (pthL xs)) (goB xs (falI L (pthL xs)) 0) i).1).length : Nat) := (by rw [prS_left hgn])
      refine ⟨i + 1, ent_look ⟨Weak.of_eq rfl, Weak.of_eq rfl, Weak.of_eq rfl, Weak.of_eq rfl, Weak.osl (by rw [hpx, hpq, tn_append]; rfl) (by rw [hpx]; simp), Weak.osl (by rw [hpy]) rfl, Weak.of_eq (int_eq (by omega)), trivial⟩, by omega, by omega⟩
     ·
      skip
      refine a_pre (ent_look (L := [(1, .sl _ _), (2, .op [.int _ _, .sl _ _]), (6, .osl _ _ _ _), (8, .osl _ _ _ _), (10, .osl _ _ _ _), (11, .osl _ _ _ _), (12, .int _ _)]) ⟨Weak.rfl, Weak.rfl, Weak.rfl, Weak.rfl, Weak.rfl, Weak.rfl, Weak.rfl, trivial⟩) ?_
      have hFn : ¬ 0 ≤ (falI L (pthL xs) i) := (by simpa using ht92)
      have hvi : nV xs i ≠ 0 := (fun h => hFn (leaf_fal hall hbi hi h))
      have hin := inner_spec (allN_spec hall i hi) hvi
      have hpq : prN xs (falI L (pthL xs)) ((prS xs (falI L (pthL xs)) (goB xs (falI L (pthL xs)) 0) i).2) i = (nV xs i, gd ((prS xs (falI L (pthL xs)) (goB xs (falI L (pthL xs)) 0) i).2) (nLo xs i), gd ((prS xs (falI L (pthL xs)) (goB xs (falI L (pthL xs)) 0) i).2) (nHi xs i), 0) := if_neg hFn
      refine a_region_tail (n := 24) mixed (by kernel_rfl) ?_
      refine t_val (v := .rsl _ _ _ _ _) (v_move (.inl rfl) nf) rfl rfl (by decide) (by kernel_rfl) ?_
      refine t_val (v := .sl _ _) (v_move (.inl rfl) nf) rfl rfl (by decide) (by kernel_rfl) ?_
      refine t_val (v := .int _ _) (v_move (.inl rfl) nf) rfl rfl (by decide) (by kernel_rfl) ?_
      refine t_val (v := .pp _ _) (v_indexAddr_sl es42 (.inl rfl) (.inl rfl) (fun _ => ⟨by omega, by omega, tn_ne hi⟩)) rfl rfl (by decide) (by kernel_rfl) ?_
      refine t_val (v := .pp _ _) (v_fieldAddr_pp fo62_0 (.inl rfl)) rfl rfl (by decide) (by kernel_rfl) ?_
      refine t_val (v := .int .i64 (gn xs i).1) (v_load_pp ta3 (.inl rfl) (fun _ => by have := tn_at (j := 0) hi (by omega); exact this) rfl) rfl rfl (by decide) (by kernel_rfl) ?_
      refine t_val (v := .rsl _ _ _ _ _) (v_move (.inl rfl) nf) rfl rfl (by decide) (by kernel_rfl) ?_
      refine t_val (v := .sl _ _) (v_move (.inl rfl) nf) rfl rfl (by decide) (by kernel_rfl) ?_
      refine t_val (v := .int _ _) (v_move (.inl rfl) nf) rfl rfl (by decide) (by kernel_rfl) ?_
      refine t_val (v := .pp _ _) (v_indexAddr_sl es42 (.inl rfl) (.inl rfl) (fun _ => ⟨by omega, by omega, tn_ne hi⟩)) rfl rfl (by decide) (by kernel_rfl) ?_
      refine t_val (v := .pp _ _) (v_fieldAddr_pp fo62_1 (.inl rfl)) rfl rfl (by decide) (by kernel_rfl) ?_
      refine t_val (v := .int .i64 (gn xs i).2.1) (v_load_pp ta3 (.inl rfl) (fun _ => by have := tn_at (j := 1) hi (by omega); exact this) rfl) rfl rfl (by decide) (by kernel_rfl) ?_
      refine t_val (v := .rp _ _) (v_indexAddr_rsl0 es25 (.inl rfl) (.inl rfl) (fun _ => by omega)) rfl rfl (by decide) (by kernel_rfl) ?_
      refine t_val (v := .int .i64 (gd ((prS xs (falI L (pthL xs)) (goB xs (falI L (pthL xs)) 0) i).2) (nLo xs i))) (v_load_rp1 ta3 (.inl rfl) rfl (fun _ => by rw [Nat.mul_one]; have h9 := icells_get (gd_get (show nLo xs i < ((prS xs (falI L (pthL xs)) (goB xs (falI L (pthL xs)) 0) i).2.set i (((prS xs (falI L (pthL xs)) (goB xs (falI L (pthL xs)) 0) i).1).length : Nat)).length by rw [List.length_set]; omega)); rw [gd_setc, if_neg (by omega)] at h9; exact h9) rfl) rfl rfl (by decide) (by kernel_rfl) ?_
      refine t_val (v := .rsl _ _ _ _ _) (v_move (.inl rfl) nf) rfl rfl (by decide) (by kernel_rfl) ?_
      refine t_val (v := .sl _ _) (v_move (.inl rfl) nf) rfl rfl (by decide) (by kernel_rfl) ?_
      refine t_val (v := .int _ _) (v_move (.inl rfl) nf) rfl rfl (by decide) (by kernel_rfl) ?_
      refine t_val (v := .pp _ _) (v_indexAddr_sl es42 (.inl rfl) (.inl rfl) (fun _ => ⟨by omega, by omega, tn_ne hi⟩)) rfl rfl (by decide) (by kernel_rfl) ?_
      refine t_val (v := .pp _ _) (v_fieldAddr_pp fo62_2 (.inl rfl)) rfl rfl (by decide) (by kernel_rfl) ?_
      refine t_val (v := .int .i64 (gn xs i).2.2.1) (v_load_pp ta3 (.inl rfl) (fun _ => by have := tn_at (j := 2) hi (by omega); exact this) rfl) rfl rfl (by decide) (by kernel_rfl) ?_
      refine t_val (v := .rp _ _) (v_indexAddr_rsl0 es25 (.inl rfl) (.inl rfl) (fun _ => by omega)) rfl rfl (by decide) (by kernel_rfl) ?_
      refine t_val (v := .int .i64 (gd ((prS xs (falI L (pthL xs)) (goB xs (falI L (pthL xs)) 0) i).2) (nHi xs i))) (v_load_rp1 ta3 (.inl rfl) rfl (fun _ => by rw [Nat.mul_one]; have h9 := icells_get (gd_get (show nHi xs i < ((prS xs (falI L (pthL xs)) (goB xs (falI L (pthL xs)) 0) i).2.set i (((prS xs (falI L (pthL xs)) (goB xs (falI L (pthL xs)) 0) i).1).length : Nat)).length by rw [List.length_set]; omega)); rw [gd_setc, if_neg (by omega)] at h9; exact h9) rfl) rfl rfl (by decide) (by kernel_rfl) ?_
      refine t_val (v := .agg [.int _ _, .int _ _, .int _ _, .int _ _]) (v_build sp62 rfl rfl) rfl rfl (by decide) (by kernel_rfl) ?_
      refine t_new (v := .osl _ _ _ _) (q_sliceLit (n := 1) (parts := [(0, .tmp 120)]) lt42 rfl rfl rfl rfl) rfl rfl (by decide) (by kernel_rfl) ?_
      refine t_nil ?_
      refine r_pre (ent_reloc_sl (t := 98) rfl rfl) ?_
      refine r_step rfl (o_append rfl ap42 rfl (by decide) (by decide) rfl (src_lit (.inl rfl) rfl rfl rfl) rfl (by rw [tncells_length]) (by omega)) ?_
      refine rv (v := .rsl _ _ _ _ _) (v_assign (.inl rfl) nf) ?_
      refine r_pre (ent_reloc_sl (t := 10) rfl rfl) ?_
      refine r_nil ?_
      refine a_pre (ent_look (L := [(1, .sl _ _), (2, .op [.int _ _, .sl _ _]), (6, .osl _ _ _ _), (8, .osl _ _ _ _), (10, .osl _ _ _ _), (11, .osl _ _ _ _), (12, .int _ _)]) ⟨Weak.rfl, Weak.rfl, Weak.rfl, Weak.rfl, Weak.rfl, Weak.rfl, Weak.rfl, trivial⟩) ?_
      refine a_region ?_
      refine rv (v := .int _ _) (v_move (.inl rfl) nf) ?_
      refine rv (v := .int _ _) (v_add (.inl rfl) (.inl rfl) (fun _ => by omega)) ?_
      refine rv (v := .int _ _) (v_assign (.inl rfl) nf) ?_
      refine r_nil ?_
      have hpx : (prS xs (falI L (pthL xs)) (goB xs (falI L (pthL xs)) 0) (i + 1)).1 = (prS xs (falI L (pthL xs)) (goB xs (falI L (pthL xs)) 0) i).1 ++ [prN xs (falI L (pthL xs)) (prS xs (falI L (pthL xs)) (goB xs (falI L (pthL xs)) 0) i).2 i] := (by rw [prS_left hgn])
      have hpy : (prS xs (falI L (pthL xs)) (goB xs (falI L (pthL xs)) 0) (i + 1)).2 = ((prS xs (falI L (pthL xs)) (goB xs (falI L (pthL xs)) 0) i).2).set i (((prS xs (falI L (pthL xs)) (goB xs (falI L (pthL xs)) 0) i).1).length : Nat) := (by rw [prS_left hgn])
      refine ⟨i + 1, ent_look ⟨Weak.of_eq rfl, Weak.of_eq rfl, Weak.of_eq rfl, Weak.of_eq rfl, Weak.osl (by rw [hpx, hpq, tn_append]; rfl) (by rw [hpx]; simp), Weak.osl (by rw [hpy]) rfl, Weak.of_eq (int_eq (by omega)), trivial⟩, by omega, by omega⟩
   ·
    skip
    refine a_exit ?_
    refine a_seq ?_
    refine a_region ?_
    refine rv (v := .rsl _ _ _ _ _) (v_move (.inl rfl) nf) ?_
    refine rv (v := .rsl _ _ _ _ _) (v_assign (.inl rfl) nf) ?_
    refine r_pre (ent_reloc_sl (t := 4) rfl rfl) ?_
    refine rv (v := .bool _) (v_assign (.inl rfl) nf) ?_
    refine r_nil ?_
    refine a_ret ?_
    refine retL (rs := [.tmp 4, .tmp 5]) [(4, .osl _ _ _ none), (5, _)] ⟨Weak.osl rfl rfl, Weak.rfl, trivial⟩ rfl Tryz.results20 (by decide) ⟨by decide, by decide, rfl⟩ (by decide) (by decide) (l2_eq (osl_eq2 ?_ ?_) (bool_eq ?_)) rfl
    all_goals (first | exact hty.symm | (rw [prnR_yes hty]; simp at ht72; rw [show i = xs.length by omega]))
end Go.Av
namespace Go.Av
open Go Go.Proofs Go.Sort
set_option maxRecDepth 10000
theorem hb13 : hasBody Tryz.prog 13 = true := by kernel_rfl
theorem hb15 : hasBody Tryz.prog 15 = true := by kernel_rfl
theorem hb19 : hasBody Tryz.prog 19 = true := by kernel_rfl
theorem hb20 : hasBody Tryz.prog 20 = true := by kernel_rfl
theorem hb21 : hasBody Tryz.prog 21 = true := by kernel_rfl
theorem hb22 : hasBody Tryz.prog 22 = true := by kernel_rfl
theorem hb23 : hasBody Tryz.prog 23 = true := by kernel_rfl
theorem hb24 : hasBody Tryz.prog 24 = true := by kernel_rfl
theorem hb25 : hasBody Tryz.prog 25 = true := by kernel_rfl
theorem hb5 : hasBody Tryz.prog 5 = true := by kernel_rfl
theorem hb8 : hasBody Tryz.prog 8 = true := by kernel_rfl
theorem ta24 : tyAgg Tryz.prog 24 = some (true, 2) := by kernel_rfl
theorem un4 : Tryz.prog.underlying 4 = some .bool := by kernel_rfl
theorem lawPruneTree_c (vars : Int) (L : List (List Int)) (xs : List TN) (hv : -9223372036854775808 ≤ vars ∧ vars ≤ 9223372036854775807) (hlen : ∀ i, ((gl L i).length : Int) ≤ 9223372036854775807) (hL : (L.length : Int) ≤ 9223372036854775807) (hbb : ∀ i j, -9223372036854775808 ≤ gd (gl L i) j ∧ gd (gl L i) j ≤ 9223372036854775807) (hlN : (xs.length : Int) ≤ 9223372036854775807) : ACall Tryz.prog 4 [.agg [.int .i64 vars, .sl (sls L) L.length], .sl (tncells xs) xs.length] [] (.bool true) [] := by
 have hpl := prnR_le vars L xs
 refine ACall.intro Tryz.func4 rfl (N := 119) rfl (by decide) (by simp) ?_
 refine a_seq ?_
 refine a_region ?_
 refine rn (v := .op [.int _ _, .sl _ _]) (q_box (.inl rfl) rfl rfl) ?_
 refine rv (v := .bool _) (v_assign (.inl rfl) nf) ?_
 refine r_nil ?_
 refine a_seq ?_
 refine a_region ?_
 refine rv (v := .int _ _) (v_assign (.inl rfl) nf) ?_
 refine r_nil ?_
 refine a_seq ?_
 refine a_region ?_
 refine rv (v := .agg [.int _ _, .sl _ _]) (v_load_rpa1 ta24 (.inl rfl) rfl rfl (fun _ => rfl) rfl) ?_
 refine rv (v := .int _ _) (v_move (.inl rfl) nf) ?_
 refine rn (v := .int _ _) (q_call (vs := [.agg [.int _ _, .sl _ _], .int _ _]) (args := [.agg [.int .i64 _, .sl _ _], .int .i64 _]) hb5 ⟨.inl rfl, .inl rfl, trivial⟩ rfl (fun hA => szCnf_c _ _ _ (by omega) hlen hL) rfl rfl) ?_
 refine rv (v := .int _ _) (v_assign (.inl rfl) nf) ?_
 refine r_nil ?_
 refine a_seq ?_
 refine a_seq ?_
 refine a_region ?_
 refine rv (v := .int _ _) (v_move (.inl rfl) nf) ?_
 refine rv (v := .bool _) (v_lss (.inl rfl) (.inl rfl)) ?_
 refine r_nil ?_
 refine a_cond rfl (fun ht21 => ?_) (fun ht21 => ?_)
 ·
  skip
  refine a_seq ?_
  refine a_region ?_
  refine rv (v := .bool _) (v_assign (.inl rfl) nf) ?_
  refine r_nil ?_
  refine a_ret ?_
  refine ret1 Tryz.results4 (by decide) (by decide) (Weak.of_eq (bool_eq ?_)) rfl Leaves.nil
  first | rfl | (exfalso; simp at ht21; done) | (exfalso; simp at ht21; omega)
 ·
  skip
  refine a_skip ?_
  refine a_seq ?_
  have hsz : L.length + tot L L.length ≤ 1048576 := (by have h9 := of_decide_eq_false ht21; unfold szR at h9; split at h9 <;> omega)
  have hk : CnfOk vars L := ⟨hv, by omega, by omega, hbb⟩
  have hll := fun i => len_tot (L := L) (i := i)
  have hsr : szR 1048576 ((L.length + tot L L.length : Nat) : Int) = 1048576 - ((L.length + tot L L.length : Nat) : Int) := (by unfold szR; rw [if_neg (by omega)])
  refine a_region ?_
  refine rv (v := .sl _ _) (v_move (.inl rfl) nf) ?_
  refine rv (v := .int _ _) (v_move (.inl rfl) nf) ?_
  refine rn (v := .int _ _) (q_call (vs := [.sl _ _, .int _ _]) (args := [.sl _ _, .int .i64 _]) hb19 ⟨.inl rfl, .inl rfl, trivial⟩ rfl (fun hA => szTN_c xs _ (by omega)) rfl rfl) ?_
  refine rv (v := .int _ _) (v_assign (.inl rfl) nf) ?_
  refine r_nil ?_
  refine a_seq ?_
  refine a_seq ?_
  refine a_region ?_
  refine rv (v := .int _ _) (v_move (.inl rfl) nf) ?_
  refine rv (v := .bool _) (v_lss (.inl rfl) (.inl rfl)) ?_
  refine r_nil ?_
  refine a_cond rfl (fun ht26 => ?_) (fun ht26 => ?_)
  ·
   skip
   refine a_seq ?_
   refine a_pre (ent_look (L := [(1, .sl _ _), (2, .op [.int _ _, .sl _ _]), (4, .bool _)]) ⟨Weak.rfl, Weak.rfl, Weak.rfl, trivial⟩) ?_
   refine a_region ?_
   refine rv (v := .bool _) (v_assign (.inl rfl) nf) ?_
   refine r_nil ?_
   refine a_ret ?_
   refine ret1 Tryz.results4 (by decide) (by decide) (Weak.of_eq (bool_eq ?_)) rfl Leaves.nil
   first | rfl | (exfalso; simp at ht26; done) | (exfalso; simp at ht26; omega)
  ·
   skip
   refine a_skip ?_
   refine a_seq ?_
   refine a_pre (ent_look (L := [(1, .sl _ _), (2, .op [.int _ _, .sl _ _]), (4, .bool _)]) ⟨Weak.rfl, Weak.rfl, Weak.rfl, trivial⟩) ?_
   have hsr : szR 1048576 ((L.length + tot L L.length : Nat) : Int) = 1048576 - ((L.length + tot L L.length : Nat) : Int) := (by unfold szR; rw [if_neg (by omega)])
   have hszN : xs.length ≤ 1048576 := (by have h9 := of_decide_eq_false ht26; rw [hsr] at h9; split at h9 <;> omega)
   refine a_region ?_
   refine rv (v := .agg [.int _ _, .sl _ _]) (v_load_rpa1 ta24 (.inl rfl) rfl rfl (fun _ => rfl) rfl) ?_
   refine rn (v := .agg [.int _ _, .osl _ _ _ _]) (q_call (vs := [.agg [.int _ _, .sl _ _]]) (args := [.agg [.int .i64 _, .sl _ _]]) hb8 ⟨.inl rfl, trivial⟩ rfl (fun hA => toCnf_c _ _ (by omega) (by omega)) (by simp [noSh, noShL, osls_noSh]) (by simp [noRef, noRefL, osls_noRef])) ?_
   refine rv (v := .sl _ _) (v_move (.inl rfl) nf) ?_
   refine rn (v := .osl _ _ _ _) (q_call (vs := [.sl _ _]) (args := [.sl _ _]) hb21 ⟨.inl rfl, trivial⟩ rfl (fun hA => toTNS_c xs (by omega)) (tn_noSh _) (tn_noRef _)) ?_
   refine rn (v := .tup [.osl _ _ _ _, .bool _]) (q_call (vs := [.agg [.int _ _, .rsl _ _ _ _ _], .rsl _ _ _ _ _]) (args := [.agg [.int .i64 _, .sl _ _], .sl _ _]) hb20 ⟨.inl rfl, .inl rfl, trivial⟩ (l2_eq (agg_eq (l2_eq rfl sl_osls)) (sl_sh (tn_pure _))) (fun hA => sPrn_c vars L xs hk hszN) (by simp [noSh, noShL, tn_noSh]) (by simp [noRef, noRefL, tn_noRef])) ?_
   refine rv (v := .tup [.rsl _ _ _ _ _, .bool _]) (v_mv rfl) ?_
   refine rv (v := .rsl _ _ _ _ _) (v_extract rfl rfl) ?_
   refine rv (v := .bool _) (v_extract rfl rfl) ?_
   refine rv (v := .rsl _ _ _ _ _) (v_assign (.inl rfl) nf) ?_
   refine r_pre (ent_reloc_sl (t := 6) rfl rfl) ?_
   refine rv (v := .bool _) (v_assign (.inl rfl) nf) ?_
   refine r_nil ?_
   refine a_seq ?_
   refine a_region ?_
   refine rv (v := .agg [.int _ _, .sl _ _]) (v_load_rpa1 ta24 (.inl rfl) rfl rfl (fun _ => rfl) rfl) ?_
   refine rn (v := .agg [.int _ _, .osl _ _ _ _]) (q_call (vs := [.agg [.int _ _, .sl _ _]]) (args := [.agg [.int .i64 _, .sl _ _]]) hb8 ⟨.inl rfl, trivial⟩ rfl (fun hA => toCnf_c _ _ (by omega) (by omega)) (by simp [noSh, noShL, osls_noSh]) (by simp [noRef, noRefL, osls_noRef])) ?_
   refine rn (v := .op [.int _ _, .nils]) (q_alloc zc30) ?_
   refine r_step rfl (o_store_own (v := .agg [.int _ _, .osl _ _ _ _]) (y' := .op [.int _ _, .osl _ _ _ _]) rfl rfl ta30 (.inl rfl) (by decide) rfl (by decide) rfl (by simp [cellsOf, noRefL, noRef, osls_noRef]) rfl rfl rfl rfl rfl (Nat.le_of_ble_eq_true rfl) rfl rfl) ?_
   refine r_nil ?_
   refine a_seq ?_
   refine a_pre (ent_look (L := [(1, .sl _ _), (2, .op [.int _ _, .sl _ _]), (4, .bool _), (6, .osl _ _ _ _), (7, .bool _), (8, .op [.int _ _, .osl _ _ _ _])]) ⟨Weak.rfl, Weak.rfl, Weak.rfl, Weak.rfl, Weak.rfl, Weak.rfl, trivial⟩) ?_
   refine a_region ?_
   refine rv (v := .sl _ _) (v_move (.inl rfl) nf) ?_
   refine rn (v := .osl _ _ _ _) (q_call (vs := [.sl _ _]) (args := [.sl _ _]) hb21 ⟨.inl rfl, trivial⟩ rfl (fun hA => toTNS_c xs (by omega)) (tn_noSh _) (tn_noRef _)) ?_
   refine rv (v := .rsl _ _ _ _ _) (v_assign (.inl rfl) nf) ?_
   refine r_pre (ent_reloc_sl (t := 9) rfl rfl) ?_
   refine r_nil ?_
   refine a_seq ?_
   refine a_region ?_
   refine rv (v := .agg [.int _ _, .rsl _ _ _ _ _]) (v_load_rpa (xs := [.int _ _, .osl _ _ _ _]) ta30 (.inl rfl) rfl rfl (fun _ => take_get rfl)) ?_
   refine rv (v := .rsl _ _ _ _ _) (v_move (.inl rfl) nf) ?_
   refine rn (v := .tup [.osl _ _ _ _, .bool _]) (q_call (vs := [.agg [.int _ _, .rsl _ _ _ _ _], .rsl _ _ _ _ _]) (args := [.agg [.int .i64 _, .sl _ _], .sl _ _]) hb22 ⟨.inl rfl, .inl rfl, trivial⟩ (l2_eq (agg_eq (l2_eq rfl sl_osls)) (sl_sh (tn_pure _))) (fun hA => iPrn_c vars L xs hk hszN) (by simp [noSh, noShL, tn_noSh]) (by simp [noRef, noRefL, tn_noRef])) ?_
   refine rv (v := .tup [.rsl _ _ _ _ _, .bool _]) (v_mv rfl) ?_
   refine rv (v := .rsl _ _ _ _ _) (v_extract rfl rfl) ?_
   refine rv (v := .bool _) (v_extract rfl rfl) ?_
   refine rv (v := .rsl _ _ _ _ _) (v_assign (.inl rfl) nf) ?_
   refine r_pre (ent_reloc_sl (t := 10) rfl rfl) ?_
   refine rv (v := .bool _) (v_assign (.inl rfl) nf) ?_
   refine r_nil ?_
   refine a_seq ?_
   refine a_seq ?_
   refine a_pre (ent_look (L := [(1, .sl _ _), (2, .op [.int _ _, .sl _ _]), (4, .bool _), (6, .osl _ _ _ _), (7, .bool _), (8, .op [.int _ _, .osl _ _ _ _]), (9, .osl _ _ _ _), (10, .osl _ _ _ _), (11, .bool _)]) ⟨Weak.rfl, Weak.rfl, Weak.rfl, Weak.rfl, Weak.rfl, Weak.rfl, Weak.rfl, Weak.rfl, Weak.rfl, trivial⟩) ?_
   refine a_region ?_
   refine rv (v := .rsl _ _ _ _ _) (v_move (.inl rfl) nf) ?_
   refine rv (v := .rsl _ _ _ _ _) (v_move (.inl rfl) nf) ?_
   refine rn (v := .bool _) (q_call (vs := [.rsl _ _ _ _ _, .rsl _ _ _ _ _]) (args := [.sl _ _, .sl _ _]) hb23 ⟨.inl rfl, .inl rfl, trivial⟩ (l2_eq (sl_sh (tn_pure _)) (sl_sh (tn_pure _))) (fun hA => eqTNS_c _ _ (by omega) (by omega)) rfl rfl) ?_
   refine rv (v := .bool _) (v_not (.inl rfl)) ?_
   refine rv (v := .bool _) (v_move (.inl rfl) nf) ?_
   refine r_gval (v := .bool _) (v_move (.inl rfl) nf) rfl rfl rfl (by decide) (.inl ⟨_, rfl, rfl⟩) rfl (by decide) ?_
   refine r_gval (v := .bool _) (v_move (.inl rfl) nf) rfl rfl rfl (by decide) (.inl ⟨_, rfl, rfl⟩) rfl (by decide) ?_
   refine r_gval (v := .bool _) (v_bne un4 (.inr ⟨_, rfl, fun h => h⟩) (.inr ⟨_, rfl, fun h => h⟩)) rfl rfl rfl (by decide) (.inl ⟨_, rfl, rfl⟩) rfl (by decide) ?_
   refine rv (v := .bool _) (v_pick (.inl rfl) (.inl rfl) (.inr ⟨_, rfl, fun h h2 => by simp_all⟩)) ?_
   refine r_nil ?_
   refine a_cond rfl (fun ht53 => ?_) (fun ht53 => ?_)
   ·
    skip
    refine a_seq ?_
    refine a_pre (ent_look (L := [(1, .sl _ _), (2, .op [.int _ _, .sl _ _]), (4, .bool _), (6, .osl _ _ _ _), (7, .bool _), (8, .op [.int _ _, .osl _ _ _ _]), (9, .osl _ _ _ _), (10, .osl _ _ _ _), (11, .bool _)]) ⟨Weak.rfl, Weak.rfl, Weak.rfl, Weak.rfl, Weak.rfl, Weak.rfl, Weak.rfl, Weak.rfl, Weak.rfl, trivial⟩) ?_
    refine a_region ?_
    refine rv (v := .bool _) (v_assign (.inl rfl) nf) ?_
    refine r_nil ?_
    refine a_ret ?_
    refine ret1 Tryz.results4 (by decide) (by decide) (Weak.of_eq (bool_eq ?_)) rfl Leaves.nil
    first | rfl | (exfalso; simp at ht53; done) | (exfalso; simp at ht53; omega)
   ·
    skip
    refine a_skip ?_
    refine a_seq ?_
    refine a_seq ?_
    refine a_pre (ent_look (L := [(1, .sl _ _), (2, .op [.int _ _, .sl _ _]), (4, .bool _), (6, .osl _ _ _ _), (7, .bool _), (8, .op [.int _ _, .osl _ _ _ _]), (9, .osl _ _ _ _), (10, .osl _ _ _ _), (11, .bool _)]) ⟨Weak.rfl, Weak.rfl, Weak.rfl, Weak.rfl, Weak.rfl, Weak.rfl, Weak.rfl, Weak.rfl, Weak.rfl, trivial⟩) ?_
    refine a_region_any mixed (by kernel_rfl) ?_
    refine yv (v := .agg [.int _ _, .rsl _ _ _ _ _]) (v_load_rpa (xs := [.int _ _, .osl _ _ _ _]) ta30 (.inl rfl) rfl rfl (fun _ => take_get rfl)) ?_
    refine yv (v := .agg [.int _ _, .sl _ _]) (v_load_rpa1 ta24 (.inl rfl) rfl rfl (fun _ => rfl) rfl) ?_
    refine y_new (v := .agg [.int _ _, .osl _ _ _ _]) (q_call (vs := [.agg [.int _ _, .sl _ _]]) (args := [.agg [.int .i64 _, .sl _ _]]) hb8 ⟨.inl rfl, trivial⟩ rfl (fun hA => toCnf_c _ _ (by omega) (by omega)) (by simp [noSh, noShL, osls_noSh]) (by simp [noRef, noRefL, osls_noRef])) rfl rfl (by decide) (by kernel_rfl) ?_
    refine y_new (v := .bool _) (q_call (vs := [.agg [.int _ _, .rsl _ _ _ _ _], .agg [.int _ _, .rsl _ _ _ _ _]]) (args := [.agg [.int .i64 _, .sl _ _], .agg [.int .i64 _, .sl _ _]]) hb13 ⟨.inl rfl, .inl rfl, trivial⟩ (l2_eq (agg_eq (l2_eq rfl sl_osls)) (agg_eq (l2_eq rfl sl_osls))) (fun hA => eqCnf_c _ _ _ _ (by omega) (by omega) (fun i => by first | (have := hrl i; omega) | (have := hll i; omega))) rfl rfl) rfl rfl (by decide) (by kernel_rfl) ?_
    refine yv (v := .bool _) (v_not (.inl rfl)) ?_
    refine y_nil ?_
    refine a_cond rfl (fun ht58 => ?_) (fun ht58 => ?_)
    ·
     skip
     refine a_seq ?_
     refine a_pre (ent_look (L := [(1, .sl _ _), (2, .op [.int _ _, .sl _ _]), (4, .bool _), (6, .osl _ _ _ _), (7, .bool _), (8, .op [.int _ _, .osl _ _ _ _]), (9, .osl _ _ _ _), (10, .osl _ _ _ _), (11, .bool _)]) ⟨Weak.rfl, Weak.rfl, Weak.rfl, Weak.rfl, Weak.rfl, Weak.rfl, Weak.rfl, Weak.rfl, Weak.rfl, trivial⟩) ?_
     refine a_region ?_
     refine rv (v := .bool _) (v_assign (.inl rfl) nf) ?_
     refine r_nil ?_
     refine a_ret ?_
     refine ret1 Tryz.results4 (by decide) (by decide) (Weak.of_eq (bool_eq ?_)) rfl Leaves.nil
     first | rfl | (exfalso; simp at ht58; done) | (exfalso; simp at ht58; omega)
    ·
     skip
     refine a_skip ?_
     refine a_seq ?_
     refine a_seq ?_
     refine a_pre (ent_look (L := [(1, .sl _ _), (2, .op [.int _ _, .sl _ _]), (4, .bool _), (6, .osl _ _ _ _), (7, .bool _), (8, .op [.int _ _, .osl _ _ _ _]), (9, .osl _ _ _ _), (10, .osl _ _ _ _), (11, .bool _)]) ⟨Weak.rfl, Weak.rfl, Weak.rfl, Weak.rfl, Weak.rfl, Weak.rfl, Weak.rfl, Weak.rfl, Weak.rfl, trivial⟩) ?_
     refine a_region ?_
     refine rv (v := .rsl _ _ _ _ _) (v_move (.inl rfl) nf) ?_
     refine rv (v := .sl _ _) (v_move (.inl rfl) nf) ?_
     refine rn (v := .osl _ _ _ _) (q_call (vs := [.sl _ _]) (args := [.sl _ _]) hb21 ⟨.inl rfl, trivial⟩ rfl (fun hA => toTNS_c xs (by omega)) (tn_noSh _) (tn_noRef _)) ?_
     refine rn (v := .bool _) (q_call (vs := [.rsl _ _ _ _ _, .rsl _ _ _ _ _]) (args := [.sl _ _, .sl _ _]) hb23 ⟨.inl rfl, .inl rfl, trivial⟩ (l2_eq (sl_sh (tn_pure _)) (sl_sh (tn_pure _))) (fun hA => eqTNS_c _ _ (by omega) (by omega)) rfl rfl) ?_
     refine rv (v := .bool _) (v_not (.inl rfl)) ?_
     refine r_nil ?_
     refine a_cond rfl (fun ht63 => ?_) (fun ht63 => ?_)
     ·
      skip
      refine a_seq ?_
      refine a_pre (ent_look (L := [(1, .sl _ _), (2, .op [.int _ _, .sl _ _]), (4, .bool _), (6, .osl _ _ _ _), (7, .bool _), (8, .op [.int _ _, .osl _ _ _ _]), (9, .osl _ _ _ _), (10, .osl _ _ _ _), (11, .bool _)]) ⟨Weak.rfl, Weak.rfl, Weak.rfl, Weak.rfl, Weak.rfl, Weak.rfl, Weak.rfl, Weak.rfl, Weak.rfl, trivial⟩) ?_
      refine a_region ?_
      refine rv (v := .bool _) (v_assign (.inl rfl) nf) ?_
      refine r_nil ?_
      refine a_ret ?_
      refine ret1 Tryz.results4 (by decide) (by decide) (Weak.of_eq (bool_eq ?_)) rfl Leaves.nil
      first | rfl | (exfalso; simp at ht63; done) | (exfalso; simp at ht63; omega)
     ·
      skip
      refine a_skip ?_
      refine a_seq ?_
      refine a_pre (ent_look (L := [(1, .sl _ _), (2, .op [.int _ _, .sl _ _]), (4, .bool _), (6, .osl _ _ _ _), (7, .bool _), (8, .op [.int _ _, .osl _ _ _ _]), (9, .osl _ _ _ _), (10, .osl _ _ _ _), (11, .bool _)]) ⟨Weak.rfl, Weak.rfl, Weak.rfl, Weak.rfl, Weak.rfl, Weak.rfl, Weak.rfl, Weak.rfl, Weak.rfl, trivial⟩) ?_
      refine a_region ?_
      refine rv (v := .int _ _) (v_assign (.inl rfl) nf) ?_
      refine r_nil ?_
      refine a_seq ?_
      refine a_region ?_
      refine rv (v := .agg [.int _ _, .rsl _ _ _ _ _]) (v_load_rpa (xs := [.int _ _, .osl _ _ _ _]) ta30 (.inl rfl) rfl rfl (fun _ => take_get rfl)) ?_
      refine rv (v := .int _ _) (v_move (.inl rfl) nf) ?_
      refine r_step rfl (o_callIO (q := (8, [1])) (vs := [.agg [.int _ _, .rsl _ _ _ _ _], .int _ _]) (args := [.agg [.int .i64 _, .rsl (INH, []) _ _ _ _], .int .i64 _]) (x0 := .osl _ _ _ _) (x1 := .osl _ _ _ _) (res := .int _ _) rfl hb15 rfl (by decide) ⟨.inl rfl, .inl rfl, trivial⟩ rfl rfl (markCnf_c _ _ _ (by omega) (by omega) (by omega)) rfl rfl rfl (osls_noSh _) (osls_noRef _) (Nat.le_of_ble_eq_true rfl) (by decide) rfl) ?_
      refine rv (v := .int _ _) (v_assign (.inl rfl) nf) ?_
      refine r_nil ?_
      refine a_seq ?_
      refine a_pre (ent_look (L := [(1, .sl _ _), (2, .op [.int _ _, .sl _ _]), (4, .bool _), (6, .osl _ _ _ _), (7, .bool _), (9, .osl _ _ _ _), (10, .osl _ _ _ _), (11, .bool _), (12, .int _ _)]) ⟨Weak.rfl, Weak.rfl, Weak.rfl, Weak.rfl, Weak.rfl, Weak.rfl, Weak.rfl, Weak.rfl, Weak.rfl, trivial⟩) ?_
      refine a_region ?_
      refine rv (v := .rsl _ _ _ _ _) (v_move (.inl rfl) nf) ?_
      refine rv (v := .int _ _) (v_move (.inl rfl) nf) ?_
      refine r_step rfl (o_callIO (q := (9, [])) (vs := [.rsl _ _ _ _ _, .int _ _]) (args := [.rsl (INH, []) _ _ _ _, .int .i64 _]) (x0 := .osl _ _ _ _) (x1 := .osl _ _ _ _) (res := .int _ _) rfl hb24 rfl (by decide) ⟨.inl rfl, .inl rfl, trivial⟩ rfl rfl (markTN_c _ _ (by omega)) rfl rfl rfl (ic_noSh _) (ic_noRef _) (Nat.le_of_ble_eq_true rfl) (by decide) rfl) ?_
      refine rv (v := .int _ _) (v_assign (.inl rfl) nf) ?_
      refine r_nil ?_
      refine a_seq ?_
      refine a_seq ?_
      refine a_region ?_
      refine rv (v := .int _ _) (v_move (.inl rfl) nf) ?_
      refine rv (v := .bool _) (v_lss (.inl rfl) (.inl rfl)) ?_
      refine rv (v := .bool _) (v_move (.inl rfl) nf) ?_
      refine r_gval (v := .rsl _ _ _ _ _) (v_move (.inl rfl) nf) rfl rfl rfl (by decide) (.inl ⟨_, rfl, rfl⟩) rfl (by decide) ?_
      refine r_gval (v := .rsl _ _ _ _ _) (v_move (.inl rfl) nf) rfl rfl rfl (by decide) (.inl ⟨_, rfl, rfl⟩) rfl (by decide) ?_
      refine r_guard (v := .bool _) (q_call (vs := [.rsl _ _ _ _ _, .rsl _ _ _ _ _]) (args := [.sl _ _, .sl _ _]) hb23 ⟨.inr ⟨_, rfl, fun h => h⟩, .inr ⟨_, rfl, fun h => h⟩, trivial⟩ (l2_eq (sl_sh (tn_pure _)) (sl_sh (tn_pure _))) (fun hA => eqTNS_c _ _ (by omega) (by omega)) rfl rfl) rfl rfl rfl (by decide) (.inl ⟨_, rfl, rfl⟩) rfl (by decide) ?_
      refine r_gval (v := .bool _) (v_not (.inr ⟨_, rfl, fun h => h⟩)) rfl rfl rfl (by decide) (.inl ⟨_, rfl, rfl⟩) rfl (by decide) ?_
      refine rv (v := .bool _) (v_pick (.inl rfl) (.inl rfl) (.inr ⟨_, rfl, fun h h2 => by simp_all⟩)) ?_
      refine rv (v := .bool _) (v_move (.inl rfl) nf) ?_
      refine r_gval (v := .bool _) (v_move (.inl rfl) nf) rfl rfl rfl (by decide) (.inl ⟨_, rfl, rfl⟩) rfl (by decide) ?_
      refine r_gval (v := .bool _) (v_move (.inl rfl) nf) rfl rfl rfl (by decide) (.inl ⟨_, rfl, rfl⟩) rfl (by decide) ?_
      refine r_gval (v := .bool _) (v_bne un4 (.inr ⟨_, rfl, fun h => h⟩) (.inr ⟨_, rfl, fun h => h⟩)) rfl rfl rfl (by decide) (.inl ⟨_, rfl, rfl⟩) rfl (by decide) ?_
      refine rv (v := .bool _) (v_pick (.inl rfl) (.inl rfl) (.inr ⟨_, rfl, fun h h2 => by simp_all⟩)) ?_
      refine r_nil ?_
      refine a_cond rfl (fun ht82 => ?_) (fun ht82 => ?_)
      ·
       skip
       refine a_seq ?_
       refine a_pre (ent_look (L := [(1, .sl _ _), (2, .op [.int _ _, .sl _ _]), (4, .bool _), (6, .osl _ _ _ _), (7, .bool _), (10, .osl _ _ _ _)]) ⟨Weak.rfl, Weak.rfl, Weak.rfl, Weak.rfl, Weak.rfl, Weak.rfl, trivial⟩) ?_
       refine a_region ?_
       refine rv (v := .bool _) (v_assign (.inl rfl) nf) ?_
       refine r_nil ?_
       refine a_ret ?_
       refine ret1 Tryz.results4 (by decide) (by decide) (Weak.of_eq (bool_eq ?_)) rfl Leaves.nil
       first | rfl | (exfalso; simp at ht82; done) | (exfalso; simp at ht82; omega)
      ·
       skip
       refine a_skip ?_
       refine a_seq ?_
       refine a_pre (ent_look (L := [(1, .sl _ _), (2, .op [.int _ _, .sl _ _]), (4, .bool _), (6, .osl _ _ _ _), (7, .bool _), (10, .osl _ _ _ _)]) ⟨Weak.rfl, Weak.rfl, Weak.rfl, Weak.rfl, Weak.rfl, Weak.rfl, trivial⟩) ?_
       refine a_region ?_
       refine rv (v := .int _ _) (v_assign (.inl rfl) nf) ?_
       refine r_nil ?_
       refine a_seq ?_
       refine a_region ?_
       refine rv (v := .rsl _ _ _ _ _) (v_move (.inl rfl) nf) ?_
       refine rv (v := .int _ _) (v_move (.inl rfl) nf) ?_
       refine r_step rfl (o_callIO (q := (10, [])) (vs := [.rsl _ _ _ _ _, .int _ _]) (args := [.rsl (INH, []) _ _ _ _, .int .i64 _]) (x0 := .osl _ _ _ _) (x1 := .osl _ _ _ _) (res := .int _ _) rfl hb24 rfl (by decide) ⟨.inl rfl, .inl rfl, trivial⟩ rfl rfl (markTN_c _ _ (by omega)) rfl rfl rfl (ic_noSh _) (ic_noRef _) (Nat.le_of_ble_eq_true rfl) (by decide) rfl) ?_
       refine rv (v := .int _ _) (v_assign (.inl rfl) nf) ?_
       refine r_nil ?_
       refine a_seq ?_
       refine a_region ?_
       refine rv (v := .int _ _) (v_assign (.inl rfl) nf) ?_
       refine r_nil ?_
       refine a_seq ?_
       refine a_region ?_
       refine rv (v := .rsl _ _ _ _ _) (v_move (.inl rfl) nf) ?_
       refine rv (v := .int _ _) (v_move (.inl rfl) nf) ?_
       refine rn (v := .int _ _) (q_call (vs := [.rsl _ _ _ _ _, .int _ _]) (args := [.sl _ _, .int .i64 _]) hb25 ⟨.inl rfl, .inl rfl, trivial⟩ (l2_eq (sl_sh (ic_pure _)) rfl) (fun hA => heldTN_c _ _ (by omega)) rfl rfl) ?_
       refine rv (v := .int _ _) (v_assign (.inl rfl) nf) ?_
       refine r_nil ?_
       refine a_seq ?_
       refine a_seq ?_
       refine a_pre (ent_look (L := [(1, .sl _ _), (2, .op [.int _ _, .sl _ _]), (4, .bool _), (6, .osl _ _ _ _), (7, .bool _), (10, .osl _ _ _ _), (13, .int _ _), (14, .int _ _)]) ⟨Weak.rfl, Weak.rfl, Weak.rfl, Weak.rfl, Weak.rfl, Weak.rfl, Weak.rfl, Weak.rfl, trivial⟩) ?_
       refine a_region ?_
       refine rv (v := .int _ _) (v_move (.inl rfl) nf) ?_
       refine rv (v := .bool _) (v_lss (.inl rfl) (.inl rfl)) ?_
       refine r_nil ?_
       refine a_cond rfl (fun ht90 => ?_) (fun ht90 => ?_)
       ·
        skip
        refine a_seq ?_
        refine a_region ?_
        refine rv (v := .bool _) (v_assign (.inl rfl) nf) ?_
        refine r_nil ?_
        refine a_ret ?_
        refine ret1 Tryz.results4 (by decide) (by decide) (Weak.of_eq (bool_eq ?_)) rfl Leaves.nil
        first | rfl | (exfalso; simp at ht90; done) | (exfalso; simp at ht90; omega)
       ·
        skip
        refine a_skip ?_
        refine a_seq ?_
        refine a_seq ?_
        refine a_region ?_
        refine rv (v := .int _ _) (v_move (.inl rfl) nf) ?_
        refine rv (v := .int _ _) (v_move (.inl rfl) nf) ?_
        refine rv (v := .bool _) (v_neq (.inl rfl) (.inl rfl)) ?_
        refine r_nil ?_
        refine a_cond rfl (fun ht93 => ?_) (fun ht93 => ?_)
        ·
         skip
         refine a_seq ?_
         refine a_region ?_
         refine rv (v := .bool _) (v_assign (.inl rfl) nf) ?_
         refine r_nil ?_
         refine a_ret ?_
         refine ret1 Tryz.results4 (by decide) (by decide) (Weak.of_eq (bool_eq ?_)) rfl Leaves.nil
         first | rfl | (exfalso; simp at ht93; done) | (exfalso; simp at ht93; omega)
        ·
         skip
         refine a_skip ?_
         refine a_seq ?_
         refine a_region ?_
         refine rv (v := .agg [.int _ _, .sl _ _]) (v_load_rpa1 ta24 (.inl rfl) rfl rfl (fun _ => rfl) rfl) ?_
         refine rn (v := .agg [.int _ _, .osl _ _ _ _]) (q_call (vs := [.agg [.int _ _, .sl _ _]]) (args := [.agg [.int .i64 _, .sl _ _]]) hb8 ⟨.inl rfl, trivial⟩ rfl (fun hA => toCnf_c _ _ (by omega) (by omega)) (by simp [noSh, noShL, osls_noSh]) (by simp [noRef, noRefL, osls_noRef])) ?_
         refine rv (v := .sl _ _) (v_move (.inl rfl) nf) ?_
         refine rn (v := .osl _ _ _ _) (q_call (vs := [.sl _ _]) (args := [.sl _ _]) hb21 ⟨.inl rfl, trivial⟩ rfl (fun hA => toTNS_c xs (by omega)) (tn_noSh _) (tn_noRef _)) ?_
         refine rn (v := .tup [.osl _ _ _ _, .bool _]) (q_call (vs := [.agg [.int _ _, .rsl _ _ _ _ _], .rsl _ _ _ _ _]) (args := [.agg [.int .i64 _, .sl _ _], .sl _ _]) hb22 ⟨.inl rfl, .inl rfl, trivial⟩ (l2_eq (agg_eq (l2_eq rfl sl_osls)) (sl_sh (tn_pure _))) (fun hA => iPrn_c vars L xs hk hszN) (by simp [noSh, noShL, tn_noSh]) (by simp [noRef, noRefL, tn_noRef])) ?_
         refine rv (v := .tup [.rsl _ _ _ _ _, .bool _]) (v_mv rfl) ?_
         refine rv (v := .rsl _ _ _ _ _) (v_extract rfl rfl) ?_
         refine rv (v := .bool _) (v_extract rfl rfl) ?_
         refine rv (v := .rsl _ _ _ _ _) (v_assign (.inl rfl) nf) ?_
         refine r_pre (ent_reloc_sl (t := 15) rfl rfl) ?_
         refine rv (v := .bool _) (v_assign (.inl rfl) nf) ?_
         refine r_nil ?_
         refine a_seq ?_
         refine a_seq ?_
         refine a_pre (ent_look (L := [(4, .bool _), (6, .osl _ _ _ _), (7, .bool _), (10, .osl _ _ _ _), (13, .int _ _), (14, .int _ _), (15, .osl _ _ _ _), (16, .bool _)]) ⟨Weak.rfl, Weak.rfl, Weak.rfl, Weak.rfl, Weak.rfl, Weak.rfl, Weak.rfl, Weak.rfl, trivial⟩) ?_
         refine a_region ?_
         refine rv (v := .rsl _ _ _ _ _) (v_move (.inl rfl) nf) ?_
         refine rv (v := .rsl _ _ _ _ _) (v_move (.inl rfl) nf) ?_
         refine rn (v := .bool _) (q_call (vs := [.rsl _ _ _ _ _, .rsl _ _ _ _ _]) (args := [.sl _ _, .sl _ _]) hb23 ⟨.inl rfl, .inl rfl, trivial⟩ (l2_eq (sl_sh (tn_pure _)) (sl_sh (tn_pure _))) (fun hA => eqTNS_c _ _ (by omega) (by omega)) rfl rfl) ?_
         refine rv (v := .bool _) (v_not (.inl rfl)) ?_
         refine rv (v := .bool _) (v_move (.inl rfl) nf) ?_
         refine r_gval (v := .bool _) (v_move (.inl rfl) nf) rfl rfl rfl (by decide) (.inl ⟨_, rfl, rfl⟩) rfl (by decide) ?_
         refine r_gval (v := .bool _) (v_move (.inl rfl) nf) rfl rfl rfl (by decide) (.inl ⟨_, rfl, rfl⟩) rfl (by decide) ?_
         refine r_gval (v := .bool _) (v_bne un4 (.inr ⟨_, rfl, fun h => h⟩) (.inr ⟨_, rfl, fun h => h⟩)) rfl rfl rfl (by decide) (.inl ⟨_, rfl, rfl⟩) rfl (by decide) ?_
         refine rv (v := .bool _) (v_pick (.inl rfl) (.inl rfl) (.inr ⟨_, rfl, fun h h2 => by simp_all⟩)) ?_
         refine r_nil ?_
         refine a_cond rfl (fun ht110 => ?_) (fun ht110 => ?_)
         ·
          skip
          refine a_seq ?_
          refine a_pre (ent_look (L := [(4, .bool _), (10, .osl _ _ _ _), (13, .int _ _), (14, .int _ _)]) ⟨Weak.rfl, Weak.rfl, Weak.rfl, Weak.rfl, trivial⟩) ?_
          refine a_region ?_
          refine rv (v := .bool _) (v_assign (.inl rfl) nf) ?_
          refine r_nil ?_
          refine a_ret ?_
          refine ret1 Tryz.results4 (by decide) (by decide) (Weak.of_eq (bool_eq ?_)) rfl Leaves.nil
          first | rfl | (exfalso; simp at ht110; done) | (exfalso; simp at ht110; omega)
         ·
          skip
          refine a_skip ?_
          refine a_seq ?_
          refine a_pre (ent_look (L := [(4, .bool _), (10, .osl _ _ _ _), (13, .int _ _), (14, .int _ _)]) ⟨Weak.rfl, Weak.rfl, Weak.rfl, Weak.rfl, trivial⟩) ?_
          refine a_region ?_
          refine rv (v := .int _ _) (v_assign (.inl rfl) nf) ?_
          refine r_nil ?_
          refine a_seq ?_
          refine a_region ?_
          refine rv (v := .rsl _ _ _ _ _) (v_move (.inl rfl) nf) ?_
          refine rv (v := .int _ _) (v_move (.inl rfl) nf) ?_
          refine rn (v := .int _ _) (q_call (vs := [.rsl _ _ _ _ _, .int _ _]) (args := [.sl _ _, .int .i64 _]) hb25 ⟨.inl rfl, .inl rfl, trivial⟩ (l2_eq (sl_sh (ic_pure _)) rfl) (fun hA => heldTN_c _ _ (by omega)) rfl rfl) ?_
          refine rv (v := .int _ _) (v_assign (.inl rfl) nf) ?_
          refine r_nil ?_
          refine a_seq ?_
          refine a_seq ?_
          refine a_region ?_
          refine rv (v := .int _ _) (v_move (.inl rfl) nf) ?_
          refine rv (v := .bool _) (v_lss (.inl rfl) (.inl rfl)) ?_
          refine r_nil ?_
          refine a_cond rfl (fun ht115 => ?_) (fun ht115 => ?_)
          ·
           skip
           refine a_seq ?_
           refine a_region ?_
           refine rv (v := .bool _) (v_assign (.inl rfl) nf) ?_
           refine r_nil ?_
           refine a_ret ?_
           refine ret1 Tryz.results4 (by decide) (by decide) (Weak.of_eq (bool_eq ?_)) rfl Leaves.nil
           first | rfl | (exfalso; simp at ht115; done) | (exfalso; simp at ht115; omega)
          ·
           skip
           refine a_skip ?_
           refine a_seq ?_
           refine a_seq ?_
           refine a_region ?_
           refine rv (v := .int _ _) (v_move (.inl rfl) nf) ?_
           refine rv (v := .int _ _) (v_move (.inl rfl) nf) ?_
           refine rv (v := .bool _) (v_neq (.inl rfl) (.inl rfl)) ?_
           refine r_nil ?_
           refine a_cond rfl (fun ht118 => ?_) (fun ht118 => ?_)
           ·
            skip
            refine a_seq ?_
            refine a_pre (ent_look (L := [(4, .bool _)]) ⟨Weak.rfl, trivial⟩) ?_
            refine a_region ?_
            refine rv (v := .bool _) (v_assign (.inl rfl) nf) ?_
            refine r_nil ?_
            refine a_ret ?_
            refine ret1 Tryz.results4 (by decide) (by decide) (Weak.of_eq (bool_eq ?_)) rfl Leaves.nil
            first | rfl | (exfalso; simp at ht118; done) | (exfalso; simp at ht118; omega)
           ·
            skip
            refine a_skip ?_
            refine a_seq ?_
            refine a_pre (ent_look (L := [(4, .bool _)]) ⟨Weak.rfl, trivial⟩) ?_
            refine a_region ?_
            refine rv (v := .bool _) (v_assign (.inl rfl) nf) ?_
            refine r_nil ?_
            refine a_ret ?_
            refine ret1 Tryz.results4 (by decide) (by decide) (Weak.of_eq (bool_eq ?_)) rfl Leaves.nil
            first | rfl | (exfalso; simp at ht118; done) | (exfalso; simp at ht118; omega)
end Go.Av
namespace Go.Av
open Go
theorem bd64 {n : Int} (h : (Lit.int .i64 n).wf = true) : -9223372036854775808 ≤ n ∧ n ≤ 9223372036854775807 := bounds_i64 h
theorem len64 {n : Nat} (h : n ≤ maxLen) : (n : Int) ≤ 9223372036854775807 := by unfold maxLen at h; omega
theorem icells_flat (xs : List Int) : xs.flatMap (fun n => [AV.int .i64 n]) = icells xs := by
 induction xs with
 | nil => rfl
 | cons x xs ih => rw [List.flatMap_cons, ih]; rfl
end Go.Av
namespace Go.Av
open Go
theorem sls_flat (L : List (List Int)) : L.flatMap (fun c => [AV.sl (icells c) c.length]) = sls L := by
  induction L with
  | nil => rfl
  | cons c L ih => rw [List.flatMap_cons, ih]; rfl
theorem cnf_hyp {L : List (List Int)} (h : L.length ≤ maxLen ∧ ∀ y ∈ L, (y.length ≤ maxLen ∧ ∀ z ∈ y, (Lit.int .i64 z).wf = true ∧ ([AV.int .i64 z]).length = 1) ∧ ([AV.sl (y.flatMap fun z => [AV.int .i64 z]) y.length]).length = 1) :
    (∀ i, ((gl L i).length : Int) ≤ 9223372036854775807) ∧ (L.length : Int) ≤ 9223372036854775807 ∧ ∀ i j, -9223372036854775808 ≤ gd (gl L i) j ∧ gd (gl L i) j ≤ 9223372036854775807 := by
  refine ⟨fun i => ?_, len64 h.1, fun i => ?_⟩
  · rcases Nat.lt_or_ge i L.length with hi | hi
    · exact len64 (h.2 _ (gl_mem hi)).1.1
    · rw [gl_out hi]; simp
  · rcases Nat.lt_or_ge i L.length with hi | hi
    · exact gd_bd fun x hx => bd64 ((h.2 _ (gl_mem hi)).1.2 x hx).1
    · intro j; rw [gl_out hi]; simp [gd]
end Go.Av
namespace Go.Av
open Go Go.Proofs Go.Proofs.YtmoncdcidlinfaaGreat
set_option maxRecDepth 100000
theorem arg24 : OpensV Tryz.prog 24 (fun x : (Int) × (List (List (Int))) => .agg (([AV.int .i64 x.1] ++ [AV.sl (x.2.flatMap fun y2 => [AV.sl (y2.flatMap fun y1 => [AV.int .i64 y1]) y2.length]) x.2.length]))) (fun x => (((Lit.int .i64 x.1).wf = true) ∧ ((x.2.length ≤ maxLen ∧ ∀ y2 ∈ x.2, (y2.length ≤ maxLen ∧ ∀ y1 ∈ y2, (Lit.int .i64 y1).wf = true ∧ ([AV.int .i64 y1]).length = 1) ∧ ([AV.sl (y2.flatMap fun y1 => [AV.int .i64 y1]) y2.length]).length = 1)))) :=
 opensV_agg (ok_agg (by rw [Tryz.underlying24])) (opens_struct Tryz.underlying24 (tot := (1 + 1)) (by kernel_rfl) (opensFs_cons rfl (by kernel_rfl) (opens_int Tryz.underlying3) (opensFs_one rfl (by kernel_rfl) (opens_slice (k := 1) Tryz.underlying22 (by kernel_rfl) (by decide) (opens_slice (k := 1) Tryz.underlying25 (by kernel_rfl) (by decide) (opens_int Tryz.underlying3) (fun _ => rfl)) (fun _ => rfl)))))
theorem arg40 : OpensV Tryz.prog 40 (fun x : List ((Int) × (Int) × (Int) × (Int)) => AV.sl (x.flatMap fun y3 => ([AV.int .i64 y3.1] ++ ([AV.int .i64 y3.2.1] ++ ([AV.int .i64 y3.2.2.1] ++ [AV.int .i64 y3.2.2.2])))) x.length) (fun x => (x.length ≤ maxLen ∧ ∀ y3 ∈ x, (((Lit.int .i64 y3.1).wf = true) ∧ (((Lit.int .i64 y3.2.1).wf = true) ∧ (((Lit.int .i64 y3.2.2.1).wf = true) ∧ ((Lit.int .i64 y3.2.2.2).wf = true)))) ∧ (([AV.int .i64 y3.1] ++ ([AV.int .i64 y3.2.1] ++ ([AV.int .i64 y3.2.2.1] ++ [AV.int .i64 y3.2.2.2])))).length = 4)) :=
 opensV_one (ok_scalar (by rw [Tryz.underlying40])) (opens_slice (k := 4) Tryz.underlying40 (by kernel_rfl) (by decide) (opens_struct Tryz.underlying64 (tot := (1 + (1 + (1 + 1)))) (by kernel_rfl) (opensFs_cons rfl (by kernel_rfl) (opens_int Tryz.underlying3) (opensFs_cons rfl (by kernel_rfl) (opens_int Tryz.underlying3) (opensFs_cons rfl (by kernel_rfl) (opens_int Tryz.underlying3) (opensFs_one rfl (by kernel_rfl) (opens_int Tryz.underlying3)))))) (fun _ => rfl)) (fun _ => rfl)
theorem rowOwn : ownKnob Tryz.prog.godebug = none := by kernel_rfl
theorem rowLaid : laidOutB Tryz.prog = true := by kernel_rfl
end Go.Av
