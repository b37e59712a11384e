/- Lemmas, part 7. -/
import Derived.Test.YtnlocliddcjplaaGreatA6
import Derived.Test.YtnlocliddcjplaaGreatRows
set_option linter.unusedVariables false
set_option linter.unusedSimpArgs false
namespace Go.Av
open Go Go.Proofs Go.Sort
set_option maxRecDepth 10000
theorem fo43_0 : fieldOff Tryz.prog 43 0 = some 0 := by kernel_rfl
theorem fo43_1 : fieldOff Tryz.prog 43 1 = some 1 := by kernel_rfl
theorem fo43_2 : fieldOff Tryz.prog 43 2 = some 2 := by kernel_rfl
theorem hb34 : hasBody Tryz.prog 34 = true := by kernel_rfl
theorem hb35 : hasBody Tryz.prog 35 = true := by kernel_rfl
theorem hb37 : hasBody Tryz.prog 37 = true := by kernel_rfl
theorem sp43 : structPl Tryz.prog 43 = some ([.nils, .nils, .nils], [(0, 1), (1, 1), (2, 1)]) := by kernel_rfl
theorem ta43 : tyAgg Tryz.prog 43 = some (true, 3) := by kernel_rfl
theorem zc43 : zeroCells Tryz.prog 43 = some [.nils, .nils, .nils] := by kernel_rfl
theorem play12_c (vars : Int) (L : List (List Int)) (hcl : ∀ i, i < L.length → clB vars (gl L i) = true) (hL : L.length ≤ 1048576) (hv : 0 ≤ vars ∧ vars ≤ 6) : ACall Tryz.prog 18 [.agg [.int .i64 vars, .sl (sls L) L.length]] [] (.agg [.osl 1 (icells (spB vars L)) (3 ^ vars.toNat) none, .osl 1 (icells (szA vars L)) (3 ^ vars.toNat) none, .osl 1 (icells (shA vars L)) (3 ^ vars.toNat) none]) [] := by
 have hn := pow36 hv
 refine ACall.intro Tryz.func18 rfl (N := 135) rfl (by decide) (by simp) ?_
 refine a_seq ?_
 refine a_region ?_
 refine rn (v := .op [.int _ _, .sl _ _]) (q_box il rfl rfl) ?_
 refine rn (v := .op [.nils, .nils, .nils]) (q_alloc zc43) ?_
 refine r_nil ?_
 refine a_seq ?_
 refine a_region ?_
 refine rv (v := .rp _ _) (v_fieldAddr_rp fo29_0 il) ?_
 refine rv (v := .int .i64 ((vars.toNat : Nat) : Int)) ((v_load_rp1 ta3 il rfl (fun _ => rfl) rfl).cast (int_eq (by omega))) ?_
 refine rn (v := .int _ _) (q_call (vs := [.int _ _]) (args := [.int .i64 _]) hb33 ⟨il, trivial⟩ rfl (fun hA => pow12_c vars.toNat (by omega)) rfl rfl) ?_
 refine rv (v := .int _ _) (v_assign il nf) ?_
 refine r_nil ?_
 refine a_seq ?_
 refine a_region_z (n := 8) [[(17, true)], [(18, true)], [(19, true)], [(20, true)], [(21, true)], [(22, true)], [(23, true)], [(4, true)]] mixed (by kernel_rfl) ?_
 refine z_val (v := .int _ _) (v_move il nf) rfl rfl (by decide) rfl (by kernel_rfl) ?_
 refine z_new (v := .osl _ _ _ _) (q_makeSlice us40 sb3 zc3 rfl (by decide) il il (fun _ => by omega)) rfl rfl (by decide) rfl (by kernel_rfl) ?_
 refine z_val (v := .int _ _) (v_move il nf) rfl rfl (by decide) rfl (by kernel_rfl) ?_
 refine z_new (v := .osl _ _ _ _) (q_makeSlice us40 sb3 zc3 rfl (by decide) il il (fun _ => by omega)) rfl rfl (by decide) rfl (by kernel_rfl) ?_
 refine z_val (v := .int _ _) (v_move il nf) rfl rfl (by decide) rfl (by kernel_rfl) ?_
 refine z_new (v := .osl _ _ _ _) (q_makeSlice us40 sb3 zc3 rfl (by decide) il il (fun _ => by omega)) rfl rfl (by decide) rfl (by kernel_rfl) ?_
 refine z_val (v := .agg [.rsl _ _ _ _ _, .rsl _ _ _ _ _, .rsl _ _ _ _ _]) (v_build sp43 rfl rfl) rfl rfl (by decide) rfl (by kernel_rfl) ?_
 refine z_new (v := .op [.nils, .nils, .nils]) (q_alloc zc43) rfl rfl (by decide) rfl (by kernel_rfl) ?_
 refine z_nil ?_
 refine r_pre (ent_eq (t := 18) (v' := .osl 1 (icells (List.replicate (3 ^ vars.toNat) 0)) (3 ^ vars.toNat) none) (Weak.osl (icells_rep _) rfl)) ?_
 refine r_pre (ent_eq (t := 20) (v' := .osl 1 (icells (List.replicate (3 ^ vars.toNat) 0)) (3 ^ vars.toNat) none) (Weak.osl (icells_rep _) rfl)) ?_
 refine r_pre (ent_eq (t := 22) (v' := .osl 1 (icells (List.replicate (3 ^ vars.toNat) 0)) (3 ^ vars.toNat) none) (Weak.osl (icells_rep _) rfl)) ?_
 refine r_pre (ent_reloc_at_sl (t := 23) (r := [0]) rfl (by decide) rfl rfl) ?_
 refine r_pre (ent_reloc_at_sl (t := 23) (r := [1]) rfl (by decide) rfl rfl) ?_
 refine r_pre (ent_reloc_at_sl (t := 23) (r := [2]) rfl (by decide) rfl rfl) ?_
 refine r_step rfl (o_store_own (v := .agg [.osl _ _ _ _, .osl _ _ _ _, .osl _ _ _ _]) (y' := .op [.osl _ _ _ _, .osl _ _ _ _, .osl _ _ _ _]) rfl rfl ta43 (.inl rfl) (by decide) rfl (by decide) rfl (by simp [cellsOf, noRefL, noRef, ic_noRef]) rfl rfl rfl rfl rfl (Nat.le_of_ble_eq_true rfl) rfl rfl) ?_
 refine r_nil ?_
 refine a_seq ?_
 refine a_seq ?_
 refine a_region ?_
 refine rv (v := .int _ _) (v_move il nf) ?_
 refine rv (v := .int _ _) (v_sub il il (fun _ => by omega)) ?_
 refine rv (v := .int _ _) (v_assign il nf) ?_
 refine r_nil ?_
 refine a_block ?_
 refine a_loop (X := Nat) (fun m => look [(1, .op [.int .i64 vars, .sl (sls L) L.length]), (2, .op [.nils, .nils, .nils]), (4, .op [.osl 1 (icells (tabZ zpS none vars L m)) (3 ^ vars.toNat) none, .osl 1 (icells (tabZ zSz (some 1) vars L m)) (3 ^ vars.toNat) none, .osl 1 (icells (tabZ zhI none vars L m)) (3 ^ vars.toNat) none]), (5, .int .i64 ((((3 ^ vars.toNat) : Nat) : Int) - 1 - (m : Nat)))]) (fun m => m ≤ (3 ^ vars.toNat)) (fun m => (3 ^ vars.toNat) - m) 0 (ent_look ⟨Weak.of_eq rfl, Weak.of_eq rfl, Weak.opL ⟨Weak.osl rfl rfl, Weak.osl rfl rfl, Weak.osl rfl rfl, trivial⟩ (by simp [noRefL, noRef, ic_noRef]), Weak.of_eq (int_eq (by omega)), trivial⟩) (Nat.zero_le _) (fun m hG => ?_)
 have ht1 := tabZ_len zpS none vars L m
 have ht2 := tabZ_len zSz (some 1) vars L m
 have ht3 := tabZ_len zhI none vars L m
 refine a_seq ?_
 refine a_seq ?_
 refine a_region ?_
 refine rv (v := .int _ _) (v_move il nf) ?_
 refine rv (v := .bool _) (v_geq il il) ?_
 refine r_nil ?_
 refine a_cond rfl (fun ht27 => ?_) (fun ht27 => ?_)
 ·
  skip
  refine a_skip ?_
  refine a_seq ?_
  refine a_block ?_
  refine a_seq ?_
  refine a_seq ?_
  have hm : m < (3 ^ vars.toNat) := (by have h9 := of_decide_eq_true ht27; exact Int.ofNat_lt.1 (by omega))
  have hcA := ofP_cl (vars := vars) (by omega) ((3 ^ vars.toNat) - 1 - m)
  have hlA := clB_len hcA
  have hcode : codeA (ofP ((3 ^ vars.toNat) - 1 - m) vars.toNat) = ((3 ^ vars.toNat) - 1 - m) := code_of (by omega)
  refine a_region_any mixed (by kernel_rfl) ?_
  refine yv (v := .agg [.int _ _, .sl _ _]) (v_load_rpa1 ta29 il rfl rfl (fun _ => rfl) rfl) ?_
  refine yv (v := .rp _ _) (v_fieldAddr_rp fo29_0 il) ?_
  refine yv (v := .int _ _) (v_load_rp1 ta3 il rfl (fun _ => rfl) rfl) ?_
  refine yv (v := .int .i64 ((((3 ^ vars.toNat) - 1 - m) : Nat) : Int)) ((v_move il nf).cast (int_eq (by omega))) ?_
  refine y_new (v := .sl _ _) (QSem.cast (q_callZ (vs := [.int _ _, .int _ _]) (args := [.int .i64 _, .int .i64 _]) hb35 ⟨.inl rfl, .inl rfl, trivial⟩ rfl (fun hA => of12_c vars ((3 ^ vars.toNat) - 1 - m) hv (by omega)) (ic_noSh _) (ic_noRef _)) (sl_shZ (ic_pure _))) rfl rfl (by decide) (by kernel_rfl) ?_
  refine y_new (v := .bool _) (q_call (vs := [.agg [.int _ _, .sl _ _], .sl _ _]) (args := [.agg [.int .i64 _, .sl _ _], .sl _ _]) hb34 ⟨.inl rfl, .inl rfl, trivial⟩ rfl (fun hA => fal12_c vars L (ofP ((3 ^ vars.toNat) - 1 - m) vars.toNat) hcl hL (by omega)) rfl rfl) rfl rfl (by decide) (by kernel_rfl) ?_
  refine y_nil ?_
  refine a_cond rfl (fun ht35 => ?_) (fun ht35 => ?_)
  ·
   skip
   refine a_seq ?_
   have hp1 : ((3 ^ vars.toNat) - 1 - m) * 1 + 1 ≤ (icells (tabZ zSz (some 1) vars L m)).length := (by rw [icells_length]; omega)
   have hs1 : (icells (tabZ zSz (some 1) vars L m)).set (((3 ^ vars.toNat) - 1 - m) * 1) (.int .i64 1) = icells ((tabZ zSz (some 1) vars L m).set ((3 ^ vars.toNat) - 1 - m) 1) := (by rw [Nat.mul_one, icells_set])
   refine a_region ?_
   refine rv (v := .rp _ _) (v_fieldAddr_rp fo43_1 il) ?_
   refine rv (v := .rsl _ _ _ _ _) (v_load_rp (c := .osl _ _ _ _) ta40 il rfl (fun _ => rfl)) ?_
   refine rv (v := .int .i64 ((((3 ^ vars.toNat) - 1 - m) : Nat) : Int)) ((v_move il nf).cast (int_eq (by omega))) ?_
   refine rv (v := .rp _ _) (v_indexAddr_rsl0 es40 il il (fun _ => by omega)) ?_
   refine r_step rfl (o_store (v := .int _ _) (y' := .op [.osl _ _ _ _, .osl _ _ _ _, .osl _ _ _ _]) rfl rfl ta3 il il rfl rfl rfl rfl rfl rfl hp1 (by decide) rfl (congrArg (fun c => AV.op [AV.osl 1 _ (3 ^ vars.toNat) none, AV.osl 1 c (3 ^ vars.toNat) none, AV.osl 1 _ (3 ^ vars.toNat) none]) hs1)) ?_
   refine r_nil ?_
   refine a_exit ?_
   refine a_region ?_
   refine rv (v := .int _ _) (v_move il nf) ?_
   refine rv (v := .int _ _) (v_sub il il (fun _ => by omega)) ?_
   refine rv (v := .int _ _) (v_assign il nf) ?_
   refine r_nil ?_
   refine ⟨m + 1, ent_look ⟨Weak.of_eq rfl, Weak.of_eq rfl, Weak.of_eq (by rw [tabZ_t0 ht35, tabZ_t1 ht35, tabZ_t0 ht35]; rfl), Weak.of_eq (int_eq (by omega)), trivial⟩, by omega, by omega⟩
  ·
   skip
   refine a_skip ?_
   refine a_seq ?_
   refine a_region ?_
   refine rv (v := .bool _) (v_assign il nf) ?_
   refine r_nil ?_
   refine a_seq ?_
   refine a_region ?_
   refine rv (v := .int _ _) (v_assign il nf) ?_
   refine r_nil ?_
   refine a_block ?_
   refine a_loop (X := Nat) (fun k => look [(1, .op [.int .i64 vars, .sl (sls L) L.length]), (2, .op [.nils, .nils, .nils]), (4, .op [.osl 1 (icells (flF (zpS ((3 ^ vars.toNat) - 1 - m)) ((3 ^ vars.toNat) - 1 - m) (tabZ zpS none vars L m) (opnP (ofP ((3 ^ vars.toNat) - 1 - m) vars.toNat) k)).2) (3 ^ vars.toNat) none, .osl 1 (icells (flF (zSz ((3 ^ vars.toNat) - 1 - m)) ((3 ^ vars.toNat) - 1 - m) (tabZ zSz (some 1) vars L m) (opnP (ofP ((3 ^ vars.toNat) - 1 - m) vars.toNat) k)).2) (3 ^ vars.toNat) none, .osl 1 (icells (flF (zhI ((3 ^ vars.toNat) - 1 - m)) ((3 ^ vars.toNat) - 1 - m) (tabZ zhI none vars L m) (opnP (ofP ((3 ^ vars.toNat) - 1 - m) vars.toNat) k)).2) (3 ^ vars.toNat) none]), (5, .int .i64 ((((3 ^ vars.toNat) : Nat) : Int) - 1 - (m : Nat))), (6, .bool (decide ((opnP (ofP ((3 ^ vars.toNat) - 1 - m) vars.toNat) k) = []))), (7, .int .i64 ((k + 1 : Nat) : Int))]) (fun k => (k : Int) ≤ vars) (fun k => vars.toNat - k) 0 (ent_look ⟨Weak.of_eq rfl, Weak.of_eq rfl, Weak.of_eq rfl, Weak.of_eq rfl, Weak.of_eq rfl, Weak.of_eq rfl, trivial⟩) (by omega) (fun k hG => ?_)
   have hl1 : (flF (zpS ((3 ^ vars.toNat) - 1 - m)) ((3 ^ vars.toNat) - 1 - m) (tabZ zpS none vars L m) (opnP (ofP ((3 ^ vars.toNat) - 1 - m) vars.toNat) k)).2.length = (3 ^ vars.toNat) := (by rw [flF_length]; exact ht1)
   have hl2 : (flF (zSz ((3 ^ vars.toNat) - 1 - m)) ((3 ^ vars.toNat) - 1 - m) (tabZ zSz (some 1) vars L m) (opnP (ofP ((3 ^ vars.toNat) - 1 - m) vars.toNat) k)).2.length = (3 ^ vars.toNat) := (by rw [flF_length]; exact ht2)
   have hl3 : (flF (zhI ((3 ^ vars.toNat) - 1 - m)) ((3 ^ vars.toNat) - 1 - m) (tabZ zhI none vars L m) (opnP (ofP ((3 ^ vars.toNat) - 1 - m) vars.toNat) k)).2.length = (3 ^ vars.toNat) := (by rw [flF_length]; exact ht3)
   refine a_seq ?_
   refine a_seq ?_
   refine a_region ?_
   refine rv (v := .int _ _) (v_move il nf) ?_
   refine rv (v := .rp _ _) (v_fieldAddr_rp fo29_0 il) ?_
   refine rv (v := .int _ _) (v_load_rp1 ta3 il rfl (fun _ => rfl) rfl) ?_
   refine rv (v := .bool _) (v_leq il il) ?_
   refine r_nil ?_
   refine a_cond rfl (fun ht43 => ?_) (fun ht43 => ?_)
   ·
    skip
    refine a_skip ?_
    refine a_seq ?_
    refine a_block ?_
    refine a_seq ?_
    have hi : ((k + 1 : Nat) : Int) ≤ vars := (by simpa using ht43)
    have hkn : k < vars.toNat := (by omega)
    have hdg := ofP_op (c := ((3 ^ vars.toNat) - 1 - m)) hkn
    refine a_region ?_
    refine rv (v := .int .i64 ((((3 ^ vars.toNat) - 1 - m) : Nat) : Int)) ((v_move il nf).cast (int_eq (by omega))) ?_
    refine rv (v := .int _ _) (v_move il nf) ?_
    refine rn (v := .tup [.int _ _, .int _ _, .bool _]) (q_call (vs := [.int _ _, .int _ _]) (args := [.int .i64 _, .int .i64 _]) hb36 ⟨il, il, trivial⟩ rfl (fun hA => after12_c ((3 ^ vars.toNat) - 1 - m) ((k + 1 : Nat) : Int) (by omega) (by omega)) rfl rfl) ?_
    refine rv (v := .tup [.int _ _, .int _ _, .bool _]) (v_mv rfl) ?_
    refine rv (v := .int _ _) (v_extract rfl rfl) ?_
    refine rv (v := .int _ _) (v_extract rfl rfl) ?_
    refine rv (v := .bool _) (v_extract rfl rfl) ?_
    refine rv (v := .int _ _) (v_assign il nf) ?_
    refine rv (v := .int _ _) (v_assign il nf) ?_
    refine rv (v := .bool _) (v_assign il nf) ?_
    refine r_nil ?_
    refine a_seq ?_
    refine a_seq ?_
    refine a_region ?_
    refine rv (v := .bool _) (v_move il nf) ?_
    refine rv (v := .bool _) (v_not il) ?_
    refine r_nil ?_
    refine a_cond rfl (fun ht54 => ?_) (fun ht54 => ?_)
    ·
     skip
     refine a_exit ?_
     refine a_region ?_
     refine rv (v := .int _ _) (v_move il nf) ?_
     refine rv (v := .int _ _) (v_add il il (fun _ => by omega)) ?_
     refine rv (v := .int _ _) (v_assign il nf) ?_
     refine r_nil ?_
     have hcl0 : opB (ofP ((3 ^ vars.toNat) - 1 - m) vars.toNat) ((k + 1 : Nat) : Int) = false := (by rw [hdg] at ht54; simpa using ht54)
     have hop0 := opnP_no hcl0
     refine ⟨k + 1, ent_look ⟨Weak.of_eq rfl, Weak.of_eq rfl, Weak.of_eq (by rw [hop0]; rfl), Weak.of_eq rfl, Weak.of_eq (by rw [hop0]; rfl), Weak.of_eq (int_eq (by omega)), trivial⟩, by omega, by omega⟩
    ·
     skip
     refine a_skip ?_
     refine a_seq ?_
     have hop1 : opB (ofP ((3 ^ vars.toNat) - 1 - m) vars.toNat) ((k + 1 : Nat) : Int) = true := (by rw [hdg] at ht54; simpa using ht54)
     have hopy := opnP_yes hop1
     have hcn : cNo ((3 ^ vars.toNat) - 1 - m) ((k + 1 : Nat) : Int) < (3 ^ vars.toNat) ∧ cYes ((3 ^ vars.toNat) - 1 - m) ((k + 1 : Nat) : Int) < (3 ^ vars.toNat) := (by have h9 := cNo_lt hcA ⟨by omega, hi⟩ hop1; rw [hcode] at h9; exact h9)
     have hp3 : ((3 ^ vars.toNat) - 1 - m) * 1 + 1 ≤ (icells (flF (zpS ((3 ^ vars.toNat) - 1 - m)) ((3 ^ vars.toNat) - 1 - m) (tabZ zpS none vars L m) (opnP (ofP ((3 ^ vars.toNat) - 1 - m) vars.toNat) k)).2).length := (by rw [icells_length]; omega)
     have hs3 : (icells (flF (zpS ((3 ^ vars.toNat) - 1 - m)) ((3 ^ vars.toNat) - 1 - m) (tabZ zpS none vars L m) (opnP (ofP ((3 ^ vars.toNat) - 1 - m) vars.toNat) k)).2).set (((3 ^ vars.toNat) - 1 - m) * 1) (.int .i64 (zpS ((3 ^ vars.toNat) - 1 - m) (flF (zpS ((3 ^ vars.toNat) - 1 - m)) ((3 ^ vars.toNat) - 1 - m) (tabZ zpS none vars L m) (opnP (ofP ((3 ^ vars.toNat) - 1 - m) vars.toNat) k)).2 ((k + 1 : Nat) : Int))) = icells ((flF (zpS ((3 ^ vars.toNat) - 1 - m)) ((3 ^ vars.toNat) - 1 - m) (tabZ zpS none vars L m) (opnP (ofP ((3 ^ vars.toNat) - 1 - m) vars.toNat) k)).2.set ((3 ^ vars.toNat) - 1 - m) (zpS ((3 ^ vars.toNat) - 1 - m) (flF (zpS ((3 ^ vars.toNat) - 1 - m)) ((3 ^ vars.toNat) - 1 - m) (tabZ zpS none vars L m) (opnP (ofP ((3 ^ vars.toNat) - 1 - m) vars.toNat) k)).2 ((k + 1 : Nat) : Int))) := (by rw [Nat.mul_one, icells_set])
     have hp4 : ((3 ^ vars.toNat) - 1 - m) * 1 + 1 ≤ (icells (flF (zSz ((3 ^ vars.toNat) - 1 - m)) ((3 ^ vars.toNat) - 1 - m) (tabZ zSz (some 1) vars L m) (opnP (ofP ((3 ^ vars.toNat) - 1 - m) vars.toNat) k)).2).length := (by rw [icells_length]; omega)
     have hs4 : (icells (flF (zSz ((3 ^ vars.toNat) - 1 - m)) ((3 ^ vars.toNat) - 1 - m) (tabZ zSz (some 1) vars L m) (opnP (ofP ((3 ^ vars.toNat) - 1 - m) vars.toNat) k)).2).set (((3 ^ vars.toNat) - 1 - m) * 1) (.int .i64 (zSz ((3 ^ vars.toNat) - 1 - m) (flF (zSz ((3 ^ vars.toNat) - 1 - m)) ((3 ^ vars.toNat) - 1 - m) (tabZ zSz (some 1) vars L m) (opnP (ofP ((3 ^ vars.toNat) - 1 - m) vars.toNat) k)).2 ((k + 1 : Nat) : Int))) = icells ((flF (zSz ((3 ^ vars.toNat) - 1 - m)) ((3 ^ vars.toNat) - 1 - m) (tabZ zSz (some 1) vars L m) (opnP (ofP ((3 ^ vars.toNat) - 1 - m) vars.toNat) k)).2.set ((3 ^ vars.toNat) - 1 - m) (zSz ((3 ^ vars.toNat) - 1 - m) (flF (zSz ((3 ^ vars.toNat) - 1 - m)) ((3 ^ vars.toNat) - 1 - m) (tabZ zSz (some 1) vars L m) (opnP (ofP ((3 ^ vars.toNat) - 1 - m) vars.toNat) k)).2 ((k + 1 : Nat) : Int))) := (by rw [Nat.mul_one, icells_set])
     have hp5 : ((3 ^ vars.toNat) - 1 - m) * 1 + 1 ≤ (icells (flF (zhI ((3 ^ vars.toNat) - 1 - m)) ((3 ^ vars.toNat) - 1 - m) (tabZ zhI none vars L m) (opnP (ofP ((3 ^ vars.toNat) - 1 - m) vars.toNat) k)).2).length := (by rw [icells_length]; omega)
     have hs5 : (icells (flF (zhI ((3 ^ vars.toNat) - 1 - m)) ((3 ^ vars.toNat) - 1 - m) (tabZ zhI none vars L m) (opnP (ofP ((3 ^ vars.toNat) - 1 - m) vars.toNat) k)).2).set (((3 ^ vars.toNat) - 1 - m) * 1) (.int .i64 (zhI ((3 ^ vars.toNat) - 1 - m) (flF (zhI ((3 ^ vars.toNat) - 1 - m)) ((3 ^ vars.toNat) - 1 - m) (tabZ zhI none vars L m) (opnP (ofP ((3 ^ vars.toNat) - 1 - m) vars.toNat) k)).2 ((k + 1 : Nat) : Int))) = icells ((flF (zhI ((3 ^ vars.toNat) - 1 - m)) ((3 ^ vars.toNat) - 1 - m) (tabZ zhI none vars L m) (opnP (ofP ((3 ^ vars.toNat) - 1 - m) vars.toNat) k)).2.set ((3 ^ vars.toNat) - 1 - m) (zhI ((3 ^ vars.toNat) - 1 - m) (flF (zhI ((3 ^ vars.toNat) - 1 - m)) ((3 ^ vars.toNat) - 1 - m) (tabZ zhI none vars L m) (opnP (ofP ((3 ^ vars.toNat) - 1 - m) vars.toNat) k)).2 ((k + 1 : Nat) : Int))) := (by rw [Nat.mul_one, icells_set])
     refine a_region_any mixed (by kernel_rfl) ?_
     refine yv (v := .rp _ _) (v_fieldAddr_rp fo43_0 il) ?_
     refine yv (v := .rsl _ _ _ _ _) (v_load_rp (c := .osl _ _ _ _) ta40 il rfl (fun _ => rfl)) ?_
     refine yv (v := .int _ _) (v_move il nf) ?_
     refine yv (v := .rp _ _) (v_indexAddr_rsl0 es40 il il (fun _ => by omega)) ?_
     refine yv (v := .int .i64 (gd (flF (zpS ((3 ^ vars.toNat) - 1 - m)) ((3 ^ vars.toNat) - 1 - m) (tabZ zpS none vars L m) (opnP (ofP ((3 ^ vars.toNat) - 1 - m) vars.toNat) k)).2 (cNo ((3 ^ vars.toNat) - 1 - m) ((k + 1 : Nat) : Int)))) (v_load_rp1 ta3 il rfl (fun _ => by rw [Nat.mul_one]; exact icells_get (gd_get (by omega))) rfl) ?_
     refine yv (v := .rp _ _) (v_fieldAddr_rp fo43_0 il) ?_
     refine yv (v := .rsl _ _ _ _ _) (v_load_rp (c := .osl _ _ _ _) ta40 il rfl (fun _ => rfl)) ?_
     refine yv (v := .int _ _) (v_move il nf) ?_
     refine yv (v := .rp _ _) (v_indexAddr_rsl0 es40 il il (fun _ => by omega)) ?_
     refine yv (v := .int .i64 (gd (flF (zpS ((3 ^ vars.toNat) - 1 - m)) ((3 ^ vars.toNat) - 1 - m) (tabZ zpS none vars L m) (opnP (ofP ((3 ^ vars.toNat) - 1 - m) vars.toNat) k)).2 (cYes ((3 ^ vars.toNat) - 1 - m) ((k + 1 : Nat) : Int)))) (v_load_rp1 ta3 il rfl (fun _ => by rw [Nat.mul_one]; exact icells_get (gd_get (by omega))) rfl) ?_
     refine y_new (v := .int .i64 (zpS ((3 ^ vars.toNat) - 1 - m) (flF (zpS ((3 ^ vars.toNat) - 1 - m)) ((3 ^ vars.toNat) - 1 - m) (tabZ zpS none vars L m) (opnP (ofP ((3 ^ vars.toNat) - 1 - m) vars.toNat) k)).2 ((k + 1 : Nat) : Int))) (QSem.cast (q_call (vs := [.int _ _, .int _ _]) (args := [.int .i64 _, .int .i64 _]) hb37 ⟨.inl rfl, .inl rfl, trivial⟩ rfl (fun hA => points12_c _ _) rfl rfl) (int_eq rfl)) rfl rfl (by decide) (by kernel_rfl) ?_
     refine yv (v := .rp _ _) (v_fieldAddr_rp fo43_1 il) ?_
     refine yv (v := .rsl _ _ _ _ _) (v_load_rp (c := .osl _ _ _ _) ta40 il rfl (fun _ => rfl)) ?_
     refine yv (v := .int _ _) (v_move il nf) ?_
     refine yv (v := .rp _ _) (v_indexAddr_rsl0 es40 il il (fun _ => by omega)) ?_
     refine yv (v := .int .i64 (gd (flF (zSz ((3 ^ vars.toNat) - 1 - m)) ((3 ^ vars.toNat) - 1 - m) (tabZ zSz (some 1) vars L m) (opnP (ofP ((3 ^ vars.toNat) - 1 - m) vars.toNat) k)).2 (cNo ((3 ^ vars.toNat) - 1 - m) ((k + 1 : Nat) : Int)))) (v_load_rp1 ta3 il rfl (fun _ => by rw [Nat.mul_one]; exact icells_get (gd_get (by omega))) rfl) ?_
     refine yv (v := .rp _ _) (v_fieldAddr_rp fo43_1 il) ?_
     refine yv (v := .rsl _ _ _ _ _) (v_load_rp (c := .osl _ _ _ _) ta40 il rfl (fun _ => rfl)) ?_
     refine yv (v := .int _ _) (v_move il nf) ?_
     refine yv (v := .rp _ _) (v_indexAddr_rsl0 es40 il il (fun _ => by omega)) ?_
     refine yv (v := .int .i64 (gd (flF (zSz ((3 ^ vars.toNat) - 1 - m)) ((3 ^ vars.toNat) - 1 - m) (tabZ zSz (some 1) vars L m) (opnP (ofP ((3 ^ vars.toNat) - 1 - m) vars.toNat) k)).2 (cYes ((3 ^ vars.toNat) - 1 - m) ((k + 1 : Nat) : Int)))) (v_load_rp1 ta3 il rfl (fun _ => by rw [Nat.mul_one]; exact icells_get (gd_get (by omega))) rfl) ?_
     refine yv (v := .int .i64 (zSz ((3 ^ vars.toNat) - 1 - m) (flF (zSz ((3 ^ vars.toNat) - 1 - m)) ((3 ^ vars.toNat) - 1 - m) (tabZ zSz (some 1) vars L m) (opnP (ofP ((3 ^ vars.toNat) - 1 - m) vars.toNat) k)).2 ((k + 1 : Nat) : Int))) ((v_addW il il).cast (int_eq rfl)) ?_
     refine yv (v := .rp _ _) (v_fieldAddr_rp fo43_2 il) ?_
     refine yv (v := .rsl _ _ _ _ _) (v_load_rp (c := .osl _ _ _ _) ta40 il rfl (fun _ => rfl)) ?_
     refine yv (v := .int _ _) (v_move il nf) ?_
     refine yv (v := .rp _ _) (v_indexAddr_rsl0 es40 il il (fun _ => by omega)) ?_
     refine yv (v := .int .i64 (gd (flF (zhI ((3 ^ vars.toNat) - 1 - m)) ((3 ^ vars.toNat) - 1 - m) (tabZ zhI none vars L m) (opnP (ofP ((3 ^ vars.toNat) - 1 - m) vars.toNat) k)).2 (cNo ((3 ^ vars.toNat) - 1 - m) ((k + 1 : Nat) : Int)))) (v_load_rp1 ta3 il rfl (fun _ => by rw [Nat.mul_one]; exact icells_get (gd_get (by omega))) rfl) ?_
     refine yv (v := .rp _ _) (v_fieldAddr_rp fo43_2 il) ?_
     refine yv (v := .rsl _ _ _ _ _) (v_load_rp (c := .osl _ _ _ _) ta40 il rfl (fun _ => rfl)) ?_
     refine yv (v := .int _ _) (v_move il nf) ?_
     refine yv (v := .rp _ _) (v_indexAddr_rsl0 es40 il il (fun _ => by omega)) ?_
     refine yv (v := .int .i64 (gd (flF (zhI ((3 ^ vars.toNat) - 1 - m)) ((3 ^ vars.toNat) - 1 - m) (tabZ zhI none vars L m) (opnP (ofP ((3 ^ vars.toNat) - 1 - m) vars.toNat) k)).2 (cYes ((3 ^ vars.toNat) - 1 - m) ((k + 1 : Nat) : Int)))) (v_load_rp1 ta3 il rfl (fun _ => by rw [Nat.mul_one]; exact icells_get (gd_get (by omega))) rfl) ?_
     refine y_new (v := .int _ _) (q_call (vs := [.int _ _, .int _ _]) (args := [.int .i64 _, .int .i64 _]) hb38 ⟨.inl rfl, .inl rfl, trivial⟩ rfl (fun hA => l1Most_c _ _) rfl rfl) rfl rfl (by decide) (by kernel_rfl) ?_
     refine yv (v := .int .i64 (zhI ((3 ^ vars.toNat) - 1 - m) (flF (zhI ((3 ^ vars.toNat) - 1 - m)) ((3 ^ vars.toNat) - 1 - m) (tabZ zhI none vars L m) (opnP (ofP ((3 ^ vars.toNat) - 1 - m) vars.toNat) k)).2 ((k + 1 : Nat) : Int))) ((v_addW il il).cast (int_eq rfl)) ?_
     refine yv (v := .int _ _) (v_assign il nf) ?_
     refine yv (v := .int _ _) (v_assign il nf) ?_
     refine yv (v := .int _ _) (v_assign il nf) ?_
     refine y_nil ?_
     refine a_seq ?_
     refine a_seq ?_
     refine a_pre (ent_look (L := [(1, .op [.int _ _, .sl _ _]), (2, .op [.nils, .nils, .nils]), (4, .op [.osl _ _ _ _, .osl _ _ _ _, .osl _ _ _ _]), (5, .int _ _), (6, .bool _), (7, .int _ _), (11, .int _ _), (12, .int _ _), (13, .int _ _)]) ⟨Weak.rfl, Weak.rfl, Weak.rfl, Weak.rfl, Weak.rfl, Weak.rfl, Weak.rfl, Weak.rfl, Weak.rfl, trivial⟩) ?_
     refine a_region ?_
     refine rv (v := .bool _) (v_move il nf) ?_
     refine rv (v := .bool _) (v_move il nf) ?_
     refine r_gval (v := .int _ _) (v_move il nf) rfl rfl rfl (by decide) (.inl ⟨_, rfl, rfl⟩) rfl (by decide) ?_
     refine r_gval (v := .rp _ _) (v_fieldAddr_rp fo43_0 il) rfl rfl rfl (by decide) (.inl ⟨_, rfl, rfl⟩) rfl (by decide) ?_
     refine r_gval (v := .rsl _ _ _ _ _) (v_load_rp (c := .osl _ _ _ _) ta40 (.inr ⟨_, rfl, fun h => h⟩) rfl (fun _ => rfl)) rfl rfl rfl (by decide) (.inl ⟨_, rfl, rfl⟩) rfl (by decide) ?_
     refine r_gval (v := .int .i64 ((((3 ^ vars.toNat) - 1 - m) : Nat) : Int)) ((v_move il nf).cast (int_eq (by omega))) rfl rfl rfl (by decide) (.inl ⟨_, rfl, rfl⟩) rfl (by decide) ?_
     refine r_gval (v := .rp _ _) (v_indexAddr_rsl0 es40 (.inr ⟨_, rfl, fun h => h⟩) (.inr ⟨_, rfl, fun h => h⟩) (fun _ => by omega)) rfl rfl rfl (by decide) (.inl ⟨_, rfl, rfl⟩) rfl (by decide) ?_
     refine r_gval (v := .int .i64 (gd (flF (zpS ((3 ^ vars.toNat) - 1 - m)) ((3 ^ vars.toNat) - 1 - m) (tabZ zpS none vars L m) (opnP (ofP ((3 ^ vars.toNat) - 1 - m) vars.toNat) k)).2 ((3 ^ vars.toNat) - 1 - m))) (v_load_rp1 ta3 (.inr ⟨_, rfl, fun h => h⟩) rfl (fun _ => by rw [Nat.mul_one]; exact icells_get (gd_get (by omega))) rfl) rfl rfl rfl (by decide) (.inl ⟨_, rfl, rfl⟩) rfl (by decide) ?_
     refine r_gval (v := .bool _) (v_lss (.inr ⟨_, rfl, fun h => h⟩) (.inr ⟨_, rfl, fun h => h⟩)) rfl rfl rfl (by decide) (.inl ⟨_, rfl, rfl⟩) rfl (by decide) ?_
     refine rv (v := .bool _) (v_pick (.inl rfl) (.inl rfl) (.inr ⟨_, rfl, fun h h2 => by simp_all⟩)) ?_
     refine r_nil ?_
     refine a_cond rfl (fun ht98 => ?_) (fun ht98 => ?_)
     ·
      skip
      refine a_region ?_
      refine rv (v := .rp _ _) (v_fieldAddr_rp fo43_0 il) ?_
      refine rv (v := .rsl _ _ _ _ _) (v_load_rp (c := .osl _ _ _ _) ta40 il rfl (fun _ => rfl)) ?_
      refine rv (v := .int .i64 ((((3 ^ vars.toNat) - 1 - m) : Nat) : Int)) ((v_move il nf).cast (int_eq (by omega))) ?_
      refine rv (v := .int _ _) (v_move il nf) ?_
      refine rv (v := .rp _ _) (v_indexAddr_rsl0 es40 il il (fun _ => by omega)) ?_
      refine r_step rfl (o_store (v := .int _ _) (y' := .op [.osl _ _ _ _, .osl _ _ _ _, .osl _ _ _ _]) rfl rfl ta3 il il rfl rfl rfl rfl rfl rfl hp3 (by decide) rfl (congrArg (fun c => AV.op [AV.osl 1 c (3 ^ vars.toNat) none, AV.osl 1 _ (3 ^ vars.toNat) none, AV.osl 1 _ (3 ^ vars.toNat) none]) hs3)) ?_
      refine r_nil ?_
      refine a_seq ?_
      refine a_seq ?_
      refine a_region ?_
      refine rv (v := .bool _) (v_move il nf) ?_
      refine rv (v := .bool _) (v_move il nf) ?_
      refine r_gval (v := .int _ _) (v_move il nf) rfl rfl rfl (by decide) (.inl ⟨_, rfl, rfl⟩) rfl (by decide) ?_
      refine r_gval (v := .rp _ _) (v_fieldAddr_rp fo43_1 il) rfl rfl rfl (by decide) (.inl ⟨_, rfl, rfl⟩) rfl (by decide) ?_
      refine r_gval (v := .rsl _ _ _ _ _) (v_load_rp (c := .osl _ _ _ _) ta40 (.inr ⟨_, rfl, fun h => h⟩) rfl (fun _ => rfl)) rfl rfl rfl (by decide) (.inl ⟨_, rfl, rfl⟩) rfl (by decide) ?_
      refine r_gval (v := .int .i64 ((((3 ^ vars.toNat) - 1 - m) : Nat) : Int)) ((v_move il nf).cast (int_eq (by omega))) rfl rfl rfl (by decide) (.inl ⟨_, rfl, rfl⟩) rfl (by decide) ?_
      refine r_gval (v := .rp _ _) (v_indexAddr_rsl0 es40 (.inr ⟨_, rfl, fun h => h⟩) (.inr ⟨_, rfl, fun h => h⟩) (fun _ => by omega)) rfl rfl rfl (by decide) (.inl ⟨_, rfl, rfl⟩) rfl (by decide) ?_
      refine r_gval (v := .int .i64 (gd (flF (zSz ((3 ^ vars.toNat) - 1 - m)) ((3 ^ vars.toNat) - 1 - m) (tabZ zSz (some 1) vars L m) (opnP (ofP ((3 ^ vars.toNat) - 1 - m) vars.toNat) k)).2 ((3 ^ vars.toNat) - 1 - m))) (v_load_rp1 ta3 (.inr ⟨_, rfl, fun h => h⟩) rfl (fun _ => by rw [Nat.mul_one]; exact icells_get (gd_get (by omega))) rfl) rfl rfl rfl (by decide) (.inl ⟨_, rfl, rfl⟩) rfl (by decide) ?_
      refine r_gval (v := .bool _) (v_lss (.inr ⟨_, rfl, fun h => h⟩) (.inr ⟨_, rfl, fun h => h⟩)) rfl rfl rfl (by decide) (.inl ⟨_, rfl, rfl⟩) rfl (by decide) ?_
      refine rv (v := .bool _) (v_pick (.inl rfl) (.inl rfl) (.inr ⟨_, rfl, fun h h2 => by simp_all⟩)) ?_
      refine r_nil ?_
      refine a_cond rfl (fun ht113 => ?_) (fun ht113 => ?_)
      ·
       skip
       refine a_region ?_
       refine rv (v := .rp _ _) (v_fieldAddr_rp fo43_1 il) ?_
       refine rv (v := .rsl _ _ _ _ _) (v_load_rp (c := .osl _ _ _ _) ta40 il rfl (fun _ => rfl)) ?_
       refine rv (v := .int .i64 ((((3 ^ vars.toNat) - 1 - m) : Nat) : Int)) ((v_move il nf).cast (int_eq (by omega))) ?_
       refine rv (v := .int _ _) (v_move il nf) ?_
       refine rv (v := .rp _ _) (v_indexAddr_rsl0 es40 il il (fun _ => by omega)) ?_
       refine r_step rfl (o_store (v := .int _ _) (y' := .op [.osl _ _ _ _, .osl _ _ _ _, .osl _ _ _ _]) rfl rfl ta3 il il rfl rfl rfl rfl rfl rfl hp4 (by decide) rfl (congrArg (fun c => AV.op [AV.osl 1 _ (3 ^ vars.toNat) none, AV.osl 1 c (3 ^ vars.toNat) none, AV.osl 1 _ (3 ^ vars.toNat) none]) hs4)) ?_
       refine r_nil ?_
       refine a_seq ?_
       refine a_seq ?_
       refine a_region ?_
       refine rv (v := .bool _) (v_move il nf) ?_
       refine rv (v := .bool _) (v_move il nf) ?_
       refine r_gval (v := .int _ _) (v_move il nf) rfl rfl rfl (by decide) (.inl ⟨_, rfl, rfl⟩) rfl (by decide) ?_
       refine r_gval (v := .rp _ _) (v_fieldAddr_rp fo43_2 il) rfl rfl rfl (by decide) (.inl ⟨_, rfl, rfl⟩) rfl (by decide) ?_
       refine r_gval (v := .rsl _ _ _ _ _) (v_load_rp (c := .osl _ _ _ _) ta40 (.inr ⟨_, rfl, fun h => h⟩) rfl (fun _ => rfl)) rfl rfl rfl (by decide) (.inl ⟨_, rfl, rfl⟩) rfl (by decide) ?_
       refine r_gval (v := .int .i64 ((((3 ^ vars.toNat) - 1 - m) : Nat) : Int)) ((v_move il nf).cast (int_eq (by omega))) rfl rfl rfl (by decide) (.inl ⟨_, rfl, rfl⟩) rfl (by decide) ?_
       refine r_gval (v := .rp _ _) (v_indexAddr_rsl0 es40 (.inr ⟨_, rfl, fun h => h⟩) (.inr ⟨_, rfl, fun h => h⟩) (fun _ => by omega)) rfl rfl rfl (by decide) (.inl ⟨_, rfl, rfl⟩) rfl (by decide) ?_
       refine r_gval (v := .int .i64 (gd (flF (zhI ((3 ^ vars.toNat) - 1 - m)) ((3 ^ vars.toNat) - 1 - m) (tabZ zhI none vars L m) (opnP (ofP ((3 ^ vars.toNat) - 1 - m) vars.toNat) k)).2 ((3 ^ vars.toNat) - 1 - m))) (v_load_rp1 ta3 (.inr ⟨_, rfl, fun h => h⟩) rfl (fun _ => by rw [Nat.mul_one]; exact icells_get (gd_get (by omega))) rfl) rfl rfl rfl (by decide) (.inl ⟨_, rfl, rfl⟩) rfl (by decide) ?_
       refine r_gval (v := .bool _) (v_lss (.inr ⟨_, rfl, fun h => h⟩) (.inr ⟨_, rfl, fun h => h⟩)) rfl rfl rfl (by decide) (.inl ⟨_, rfl, rfl⟩) rfl (by decide) ?_
       refine rv (v := .bool _) (v_pick (.inl rfl) (.inl rfl) (.inr ⟨_, rfl, fun h h2 => by simp_all⟩)) ?_
       refine r_nil ?_
       refine a_cond rfl (fun ht128 => ?_) (fun ht128 => ?_)
       ·
        skip
        refine a_pre (ent_look (L := [(1, .op [.int _ _, .sl _ _]), (2, .op [.nils, .nils, .nils]), (4, .op [.osl _ _ _ _, .osl _ _ _ _, .osl _ _ _ _]), (5, .int _ _), (6, .bool _), (7, .int _ _), (13, .int _ _)]) ⟨Weak.rfl, Weak.rfl, Weak.rfl, Weak.rfl, Weak.rfl, Weak.rfl, Weak.rfl, trivial⟩) ?_
        refine a_region ?_
        refine rv (v := .rp _ _) (v_fieldAddr_rp fo43_2 il) ?_
        refine rv (v := .rsl _ _ _ _ _) (v_load_rp (c := .osl _ _ _ _) ta40 il rfl (fun _ => rfl)) ?_
        refine rv (v := .int .i64 ((((3 ^ vars.toNat) - 1 - m) : Nat) : Int)) ((v_move il nf).cast (int_eq (by omega))) ?_
        refine rv (v := .int _ _) (v_move il nf) ?_
        refine rv (v := .rp _ _) (v_indexAddr_rsl0 es40 il il (fun _ => by omega)) ?_
        refine r_step rfl (o_store (v := .int _ _) (y' := .op [.osl _ _ _ _, .osl _ _ _ _, .osl _ _ _ _]) rfl rfl ta3 il il rfl rfl rfl rfl rfl rfl hp5 (by decide) rfl (congrArg (fun c => AV.op [AV.osl 1 _ (3 ^ vars.toNat) none, AV.osl 1 _ (3 ^ vars.toNat) none, AV.osl 1 c (3 ^ vars.toNat) none]) hs5)) ?_
        refine r_nil ?_
        refine a_region ?_
        refine rv (v := .bool _) (v_assign il nf) ?_
        refine r_nil ?_
        refine a_region ?_
        refine rv (v := .int _ _) (v_move il nf) ?_
        refine rv (v := .int _ _) (v_add il il (fun _ => by omega)) ?_
        refine rv (v := .int _ _) (v_assign il nf) ?_
        refine r_nil ?_
        refine ⟨k + 1, ent_look ⟨Weak.of_eq rfl, Weak.of_eq rfl, Weak.of_eq (by rw [hopy, flF_app, flF_app, flF_app, ht98, ht113, ht128]; rfl), Weak.of_eq rfl, Weak.of_eq (bool_eq (by rw [hopy]; exact (decide_eq_false (by simp)).symm)), Weak.of_eq (int_eq (by omega)), trivial⟩, by omega, by omega⟩
       ·
        skip
        refine a_skip ?_
        refine a_pre (ent_look (L := [(1, .op [.int _ _, .sl _ _]), (2, .op [.nils, .nils, .nils]), (4, .op [.osl _ _ _ _, .osl _ _ _ _, .osl _ _ _ _]), (5, .int _ _), (6, .bool _), (7, .int _ _)]) ⟨Weak.rfl, Weak.rfl, Weak.rfl, Weak.rfl, Weak.rfl, Weak.rfl, trivial⟩) ?_
        refine a_region ?_
        refine rv (v := .bool _) (v_assign il nf) ?_
        refine r_nil ?_
        refine a_region ?_
        refine rv (v := .int _ _) (v_move il nf) ?_
        refine rv (v := .int _ _) (v_add il il (fun _ => by omega)) ?_
        refine rv (v := .int _ _) (v_assign il nf) ?_
        refine r_nil ?_
        refine ⟨k + 1, ent_look ⟨Weak.of_eq rfl, Weak.of_eq rfl, Weak.of_eq (by rw [hopy, flF_app, flF_app, flF_app, ht98, ht113, ht128]; rfl), Weak.of_eq rfl, Weak.of_eq (bool_eq (by rw [hopy]; exact (decide_eq_false (by simp)).symm)), Weak.of_eq (int_eq (by omega)), trivial⟩, by omega, by omega⟩
      ·
       skip
       refine a_skip ?_
       refine a_seq ?_
       refine a_seq ?_
       refine a_region ?_
       refine rv (v := .bool _) (v_move il nf) ?_
       refine rv (v := .bool _) (v_move il nf) ?_
       refine r_gval (v := .int _ _) (v_move il nf) rfl rfl rfl (by decide) (.inl ⟨_, rfl, rfl⟩) rfl (by decide) ?_
       refine r_gval (v := .rp _ _) (v_fieldAddr_rp fo43_2 il) rfl rfl rfl (by decide) (.inl ⟨_, rfl, rfl⟩) rfl (by decide) ?_
       refine r_gval (v := .rsl _ _ _ _ _) (v_load_rp (c := .osl _ _ _ _) ta40 (.inr ⟨_, rfl, fun h => h⟩) rfl (fun _ => rfl)) rfl rfl rfl (by decide) (.inl ⟨_, rfl, rfl⟩) rfl (by decide) ?_
       refine r_gval (v := .int .i64 ((((3 ^ vars.toNat) - 1 - m) : Nat) : Int)) ((v_move il nf).cast (int_eq (by omega))) rfl rfl rfl (by decide) (.inl ⟨_, rfl, rfl⟩) rfl (by decide) ?_
       refine r_gval (v := .rp _ _) (v_indexAddr_rsl0 es40 (.inr ⟨_, rfl, fun h => h⟩) (.inr ⟨_, rfl, fun h => h⟩) (fun _ => by omega)) rfl rfl rfl (by decide) (.inl ⟨_, rfl, rfl⟩) rfl (by decide) ?_
       refine r_gval (v := .int .i64 (gd (flF (zhI ((3 ^ vars.toNat) - 1 - m)) ((3 ^ vars.toNat) - 1 - m) (tabZ zhI none vars L m) (opnP (ofP ((3 ^ vars.toNat) - 1 - m) vars.toNat) k)).2 ((3 ^ vars.toNat) - 1 - m))) (v_load_rp1 ta3 (.inr ⟨_, rfl, fun h => h⟩) rfl (fun _ => by rw [Nat.mul_one]; exact icells_get (gd_get (by omega))) rfl) rfl rfl rfl (by decide) (.inl ⟨_, rfl, rfl⟩) rfl (by decide) ?_
       refine r_gval (v := .bool _) (v_lss (.inr ⟨_, rfl, fun h => h⟩) (.inr ⟨_, rfl, fun h => h⟩)) rfl rfl rfl (by decide) (.inl ⟨_, rfl, rfl⟩) rfl (by decide) ?_
       refine rv (v := .bool _) (v_pick (.inl rfl) (.inl rfl) (.inr ⟨_, rfl, fun h h2 => by simp_all⟩)) ?_
       refine r_nil ?_
       refine a_cond rfl (fun ht128 => ?_) (fun ht128 => ?_)
       ·
        skip
        refine a_region ?_
        refine rv (v := .rp _ _) (v_fieldAddr_rp fo43_2 il) ?_
        refine rv (v := .rsl _ _ _ _ _) (v_load_rp (c := .osl _ _ _ _) ta40 il rfl (fun _ => rfl)) ?_
        refine rv (v := .int .i64 ((((3 ^ vars.toNat) - 1 - m) : Nat) : Int)) ((v_move il nf).cast (int_eq (by omega))) ?_
        refine rv (v := .int _ _) (v_move il nf) ?_
        refine rv (v := .rp _ _) (v_indexAddr_rsl0 es40 il il (fun _ => by omega)) ?_
        refine r_step rfl (o_store (v := .int _ _) (y' := .op [.osl _ _ _ _, .osl _ _ _ _, .osl _ _ _ _]) rfl rfl ta3 il il rfl rfl rfl rfl rfl rfl hp5 (by decide) rfl (congrArg (fun c => AV.op [AV.osl 1 _ (3 ^ vars.toNat) none, AV.osl 1 _ (3 ^ vars.toNat) none, AV.osl 1 c (3 ^ vars.toNat) none]) hs5)) ?_
        refine r_nil ?_
        refine a_pre (ent_look (L := [(1, .op [.int _ _, .sl _ _]), (2, .op [.nils, .nils, .nils]), (4, .op [.osl _ _ _ _, .osl _ _ _ _, .osl _ _ _ _]), (5, .int _ _), (6, .bool _), (7, .int _ _)]) ⟨Weak.rfl, Weak.rfl, Weak.rfl, Weak.rfl, Weak.rfl, Weak.rfl, trivial⟩) ?_
        refine a_region ?_
        refine rv (v := .bool _) (v_assign il nf) ?_
        refine r_nil ?_
        refine a_region ?_
        refine rv (v := .int _ _) (v_move il nf) ?_
        refine rv (v := .int _ _) (v_add il il (fun _ => by omega)) ?_
        refine rv (v := .int _ _) (v_assign il nf) ?_
        refine r_nil ?_
        refine ⟨k + 1, ent_look ⟨Weak.of_eq rfl, Weak.of_eq rfl, Weak.of_eq (by rw [hopy, flF_app, flF_app, flF_app, ht98, ht113, ht128]; rfl), Weak.of_eq rfl, Weak.of_eq (bool_eq (by rw [hopy]; exact (decide_eq_false (by simp)).symm)), Weak.of_eq (int_eq (by omega)), trivial⟩, by omega, by omega⟩
       ·
        skip
        refine a_skip ?_
        refine a_region ?_
        refine rv (v := .bool _) (v_assign il nf) ?_
        refine r_nil ?_
        refine a_region ?_
        refine rv (v := .int _ _) (v_move il nf) ?_
        refine rv (v := .int _ _) (v_add il il (fun _ => by omega)) ?_
        refine rv (v := .int _ _) (v_assign il nf) ?_
        refine r_nil ?_
        refine ⟨k + 1, ent_look ⟨Weak.of_eq rfl, Weak.of_eq rfl, Weak.of_eq (by rw [hopy, flF_app, flF_app, flF_app, ht98, ht113, ht128]; rfl), Weak.of_eq rfl, Weak.of_eq (bool_eq (by rw [hopy]; exact (decide_eq_false (by simp)).symm)), Weak.of_eq (int_eq (by omega)), trivial⟩, by omega, by omega⟩
     ·
      skip
      refine a_skip ?_
      refine a_seq ?_
      refine a_seq ?_
      refine a_region ?_
      refine rv (v := .bool _) (v_move il nf) ?_
      refine rv (v := .bool _) (v_move il nf) ?_
      refine r_gval (v := .int _ _) (v_move il nf) rfl rfl rfl (by decide) (.inl ⟨_, rfl, rfl⟩) rfl (by decide) ?_
      refine r_gval (v := .rp _ _) (v_fieldAddr_rp fo43_1 il) rfl rfl rfl (by decide) (.inl ⟨_, rfl, rfl⟩) rfl (by decide) ?_
      refine r_gval (v := .rsl _ _ _ _ _) (v_load_rp (c := .osl _ _ _ _) ta40 (.inr ⟨_, rfl, fun h => h⟩) rfl (fun _ => rfl)) rfl rfl rfl (by decide) (.inl ⟨_, rfl, rfl⟩) rfl (by decide) ?_
      refine r_gval (v := .int .i64 ((((3 ^ vars.toNat) - 1 - m) : Nat) : Int)) ((v_move il nf).cast (int_eq (by omega))) rfl rfl rfl (by decide) (.inl ⟨_, rfl, rfl⟩) rfl (by decide) ?_
      refine r_gval (v := .rp _ _) (v_indexAddr_rsl0 es40 (.inr ⟨_, rfl, fun h => h⟩) (.inr ⟨_, rfl, fun h => h⟩) (fun _ => by omega)) rfl rfl rfl (by decide) (.inl ⟨_, rfl, rfl⟩) rfl (by decide) ?_
      refine r_gval (v := .int .i64 (gd (flF (zSz ((3 ^ vars.toNat) - 1 - m)) ((3 ^ vars.toNat) - 1 - m) (tabZ zSz (some 1) vars L m) (opnP (ofP ((3 ^ vars.toNat) - 1 - m) vars.toNat) k)).2 ((3 ^ vars.toNat) - 1 - m))) (v_load_rp1 ta3 (.inr ⟨_, rfl, fun h => h⟩) rfl (fun _ => by rw [Nat.mul_one]; exact icells_get (gd_get (by omega))) rfl) rfl rfl rfl (by decide) (.inl ⟨_, rfl, rfl⟩) rfl (by decide) ?_
      refine r_gval (v := .bool _) (v_lss (.inr ⟨_, rfl, fun h => h⟩) (.inr ⟨_, rfl, fun h => h⟩)) rfl rfl rfl (by decide) (.inl ⟨_, rfl, rfl⟩) rfl (by decide) ?_
      refine rv (v := .bool _) (v_pick (.inl rfl) (.inl rfl) (.inr ⟨_, rfl, fun h h2 => by simp_all⟩)) ?_
      refine r_nil ?_
      refine a_cond rfl (fun ht113 => ?_) (fun ht113 => ?_)
      ·
       skip
       refine a_region ?_
       refine rv (v := .rp _ _) (v_fieldAddr_rp fo43_1 il) ?_
       refine rv (v := .rsl _ _ _ _ _) (v_load_rp (c := .osl _ _ _ _) ta40 il rfl (fun _ => rfl)) ?_
       refine rv (v := .int .i64 ((((3 ^ vars.toNat) - 1 - m) : Nat) : Int)) ((v_move il nf).cast (int_eq (by omega))) ?_
       refine rv (v := .int _ _) (v_move il nf) ?_
       refine rv (v := .rp _ _) (v_indexAddr_rsl0 es40 il il (fun _ => by omega)) ?_
       refine r_step rfl (o_store (v := .int _ _) (y' := .op [.osl _ _ _ _, .osl _ _ _ _, .osl _ _ _ _]) rfl rfl ta3 il il rfl rfl rfl rfl rfl rfl hp4 (by decide) rfl (congrArg (fun c => AV.op [AV.osl 1 _ (3 ^ vars.toNat) none, AV.osl 1 c (3 ^ vars.toNat) none, AV.osl 1 _ (3 ^ vars.toNat) none]) hs4)) ?_
       refine r_nil ?_
       refine a_seq ?_
       refine a_seq ?_
       refine a_region ?_
       refine rv (v := .bool _) (v_move il nf) ?_
       refine rv (v := .bool _) (v_move il nf) ?_
       refine r_gval (v := .int _ _) (v_move il nf) rfl rfl rfl (by decide) (.inl ⟨_, rfl, rfl⟩) rfl (by decide) ?_
       refine r_gval (v := .rp _ _) (v_fieldAddr_rp fo43_2 il) rfl rfl rfl (by decide) (.inl ⟨_, rfl, rfl⟩) rfl (by decide) ?_
       refine r_gval (v := .rsl _ _ _ _ _) (v_load_rp (c := .osl _ _ _ _) ta40 (.inr ⟨_, rfl, fun h => h⟩) rfl (fun _ => rfl)) rfl rfl rfl (by decide) (.inl ⟨_, rfl, rfl⟩) rfl (by decide) ?_
       refine r_gval (v := .int .i64 ((((3 ^ vars.toNat) - 1 - m) : Nat) : Int)) ((v_move il nf).cast (int_eq (by omega))) rfl rfl rfl (by decide) (.inl ⟨_, rfl, rfl⟩) rfl (by decide) ?_
       refine r_gval (v := .rp _ _) (v_indexAddr_rsl0 es40 (.inr ⟨_, rfl, fun h => h⟩) (.inr ⟨_, rfl, fun h => h⟩) (fun _ => by omega)) rfl rfl rfl (by decide) (.inl ⟨_, rfl, rfl⟩) rfl (by decide) ?_
       refine r_gval (v := .int .i64 (gd (flF (zhI ((3 ^ vars.toNat) - 1 - m)) ((3 ^ vars.toNat) - 1 - m) (tabZ zhI none vars L m) (opnP (ofP ((3 ^ vars.toNat) - 1 - m) vars.toNat) k)).2 ((3 ^ vars.toNat) - 1 - m))) (v_load_rp1 ta3 (.inr ⟨_, rfl, fun h => h⟩) rfl (fun _ => by rw [Nat.mul_one]; exact icells_get (gd_get (by omega))) rfl) rfl rfl rfl (by decide) (.inl ⟨_, rfl, rfl⟩) rfl (by decide) ?_
       refine r_gval (v := .bool _) (v_lss (.inr ⟨_, rfl, fun h => h⟩) (.inr ⟨_, rfl, fun h => h⟩)) rfl rfl rfl (by decide) (.inl ⟨_, rfl, rfl⟩) rfl (by decide) ?_
       refine rv (v := .bool _) (v_pick (.inl rfl) (.inl rfl) (.inr ⟨_, rfl, fun h h2 => by simp_all⟩)) ?_
       refine r_nil ?_
       refine a_cond rfl (fun ht128 => ?_) (fun ht128 => ?_)
       ·
        skip
        refine a_region ?_
        refine rv (v := .rp _ _) (v_fieldAddr_rp fo43_2 il) ?_
        refine rv (v := .rsl _ _ _ _ _) (v_load_rp (c := .osl _ _ _ _) ta40 il rfl (fun _ => rfl)) ?_
        refine rv (v := .int .i64 ((((3 ^ vars.toNat) - 1 - m) : Nat) : Int)) ((v_move il nf).cast (int_eq (by omega))) ?_
        refine rv (v := .int _ _) (v_move il nf) ?_
        refine rv (v := .rp _ _) (v_indexAddr_rsl0 es40 il il (fun _ => by omega)) ?_
        refine r_step rfl (o_store (v := .int _ _) (y' := .op [.osl _ _ _ _, .osl _ _ _ _, .osl _ _ _ _]) rfl rfl ta3 il il rfl rfl rfl rfl rfl rfl hp5 (by decide) rfl (congrArg (fun c => AV.op [AV.osl 1 _ (3 ^ vars.toNat) none, AV.osl 1 _ (3 ^ vars.toNat) none, AV.osl 1 c (3 ^ vars.toNat) none]) hs5)) ?_
        refine r_nil ?_
        refine a_pre (ent_look (L := [(1, .op [.int _ _, .sl _ _]), (2, .op [.nils, .nils, .nils]), (4, .op [.osl _ _ _ _, .osl _ _ _ _, .osl _ _ _ _]), (5, .int _ _), (6, .bool _), (7, .int _ _)]) ⟨Weak.rfl, Weak.rfl, Weak.rfl, Weak.rfl, Weak.rfl, Weak.rfl, trivial⟩) ?_
        refine a_region ?_
        refine rv (v := .bool _) (v_assign il nf) ?_
        refine r_nil ?_
        refine a_region ?_
        refine rv (v := .int _ _) (v_move il nf) ?_
        refine rv (v := .int _ _) (v_add il il (fun _ => by omega)) ?_
        refine rv (v := .int _ _) (v_assign il nf) ?_
        refine r_nil ?_
        refine ⟨k + 1, ent_look ⟨Weak.of_eq rfl, Weak.of_eq rfl, Weak.of_eq (by rw [hopy, flF_app, flF_app, flF_app, ht98, ht113, ht128]; rfl), Weak.of_eq rfl, Weak.of_eq (bool_eq (by rw [hopy]; exact (decide_eq_false (by simp)).symm)), Weak.of_eq (int_eq (by omega)), trivial⟩, by omega, by omega⟩
       ·
        skip
        refine a_skip ?_
        refine a_region ?_
        refine rv (v := .bool _) (v_assign il nf) ?_
        refine r_nil ?_
        refine a_region ?_
        refine rv (v := .int _ _) (v_move il nf) ?_
        refine rv (v := .int _ _) (v_add il il (fun _ => by omega)) ?_
        refine rv (v := .int _ _) (v_assign il nf) ?_
        refine r_nil ?_
        refine ⟨k + 1, ent_look ⟨Weak.of_eq rfl, Weak.of_eq rfl, Weak.of_eq (by rw [hopy, flF_app, flF_app, flF_app, ht98, ht113, ht128]; rfl), Weak.of_eq rfl, Weak.of_eq (bool_eq (by rw [hopy]; exact (decide_eq_false (by simp)).symm)), Weak.of_eq (int_eq (by omega)), trivial⟩, by omega, by omega⟩
      ·
       skip
       refine a_skip ?_
       refine a_seq ?_
       refine a_seq ?_
       refine a_region ?_
       refine rv (v := .bool _) (v_move il nf) ?_
       refine rv (v := .bool _) (v_move il nf) ?_
       refine r_gval (v := .int _ _) (v_move il nf) rfl rfl rfl (by decide) (.inl ⟨_, rfl, rfl⟩) rfl (by decide) ?_
       refine r_gval (v := .rp _ _) (v_fieldAddr_rp fo43_2 il) rfl rfl rfl (by decide) (.inl ⟨_, rfl, rfl⟩) rfl (by decide) ?_
       refine r_gval (v := .rsl _ _ _ _ _) (v_load_rp (c := .osl _ _ _ _) ta40 (.inr ⟨_, rfl, fun h => h⟩) rfl (fun _ => rfl)) rfl rfl rfl (by decide) (.inl ⟨_, rfl, rfl⟩) rfl (by decide) ?_
       refine r_gval (v := .int .i64 ((((3 ^ vars.toNat) - 1 - m) : Nat) : Int)) ((v_move il nf).cast (int_eq (by omega))) rfl rfl rfl (by decide) (.inl ⟨_, rfl, rfl⟩) rfl (by decide) ?_
       refine r_gval (v := .rp _ _) (v_indexAddr_rsl0 es40 (.inr ⟨_, rfl, fun h => h⟩) (.inr ⟨_, rfl, fun h => h⟩) (fun _ => by omega)) rfl rfl rfl (by decide) (.inl ⟨_, rfl, rfl⟩) rfl (by decide) ?_
       refine r_gval (v := .int .i64 (gd (flF (zhI ((3 ^ vars.toNat) - 1 - m)) ((3 ^ vars.toNat) - 1 - m) (tabZ zhI none vars L m) (opnP (ofP ((3 ^ vars.toNat) - 1 - m) vars.toNat) k)).2 ((3 ^ vars.toNat) - 1 - m))) (v_load_rp1 ta3 (.inr ⟨_, rfl, fun h => h⟩) rfl (fun _ => by rw [Nat.mul_one]; exact icells_get (gd_get (by omega))) rfl) rfl rfl rfl (by decide) (.inl ⟨_, rfl, rfl⟩) rfl (by decide) ?_
       refine r_gval (v := .bool _) (v_lss (.inr ⟨_, rfl, fun h => h⟩) (.inr ⟨_, rfl, fun h => h⟩)) rfl rfl rfl (by decide) (.inl ⟨_, rfl, rfl⟩) rfl (by decide) ?_
       refine rv (v := .bool _) (v_pick (.inl rfl) (.inl rfl) (.inr ⟨_, rfl, fun h h2 => by simp_all⟩)) ?_
       refine r_nil ?_
       refine a_cond rfl (fun ht128 => ?_) (fun ht128 => ?_)
       ·
        skip
        refine a_region ?_
        refine rv (v := .rp _ _) (v_fieldAddr_rp fo43_2 il) ?_
        refine rv (v := .rsl _ _ _ _ _) (v_load_rp (c := .osl _ _ _ _) ta40 il rfl (fun _ => rfl)) ?_
        refine rv (v := .int .i64 ((((3 ^ vars.toNat) - 1 - m) : Nat) : Int)) ((v_move il nf).cast (int_eq (by omega))) ?_
        refine rv (v := .int _ _) (v_move il nf) ?_
        refine rv (v := .rp _ _) (v_indexAddr_rsl0 es40 il il (fun _ => by omega)) ?_
        refine r_step rfl (o_store (v := .int _ _) (y' := .op [.osl _ _ _ _, .osl _ _ _ _, .osl _ _ _ _]) rfl rfl ta3 il il rfl rfl rfl rfl rfl rfl hp5 (by decide) rfl (congrArg (fun c => AV.op [AV.osl 1 _ (3 ^ vars.toNat) none, AV.osl 1 _ (3 ^ vars.toNat) none, AV.osl 1 c (3 ^ vars.toNat) none]) hs5)) ?_
        refine r_nil ?_
        refine a_region ?_
        refine rv (v := .bool _) (v_assign il nf) ?_
        refine r_nil ?_
        refine a_region ?_
        refine rv (v := .int _ _) (v_move il nf) ?_
        refine rv (v := .int _ _) (v_add il il (fun _ => by omega)) ?_
        refine rv (v := .int _ _) (v_assign il nf) ?_
        refine r_nil ?_
        refine ⟨k + 1, ent_look ⟨Weak.of_eq rfl, Weak.of_eq rfl, Weak.of_eq (by rw [hopy, flF_app, flF_app, flF_app, ht98, ht113, ht128]; rfl), Weak.of_eq rfl, Weak.of_eq (bool_eq (by rw [hopy]; exact (decide_eq_false (by simp)).symm)), Weak.of_eq (int_eq (by omega)), trivial⟩, by omega, by omega⟩
       ·
        skip
        refine a_skip ?_
        refine a_region ?_
        refine rv (v := .bool _) (v_assign il nf) ?_
        refine r_nil ?_
        refine a_region ?_
        refine rv (v := .int _ _) (v_move il nf) ?_
        refine rv (v := .int _ _) (v_add il il (fun _ => by omega)) ?_
        refine rv (v := .int _ _) (v_assign il nf) ?_
        refine r_nil ?_
        refine ⟨k + 1, ent_look ⟨Weak.of_eq rfl, Weak.of_eq rfl, Weak.of_eq (by rw [hopy, flF_app, flF_app, flF_app, ht98, ht113, ht128]; rfl), Weak.of_eq rfl, Weak.of_eq (bool_eq (by rw [hopy]; exact (decide_eq_false (by simp)).symm)), Weak.of_eq (int_eq (by omega)), trivial⟩, by omega, by omega⟩
   ·
    skip
    refine a_exit ?_
    refine a_region ?_
    refine rv (v := .int _ _) (v_move il nf) ?_
    refine rv (v := .int _ _) (v_sub il il (fun _ => by omega)) ?_
    refine rv (v := .int _ _) (v_assign il nf) ?_
    refine r_nil ?_
    have hke : (opnP (ofP ((3 ^ vars.toNat) - 1 - m) vars.toNat) k) = opensL vars (ofP ((3 ^ vars.toNat) - 1 - m) vars.toNat) := (by rw [show k = vars.toNat by simp at ht43; omega]; exact opnP_all hv.1)
    refine ⟨m + 1, ent_look ⟨Weak.of_eq rfl, Weak.of_eq rfl, Weak.of_eq (by rw [tabZ_f ht35, tabZ_f ht35, tabZ_f ht35, hke]; rfl), Weak.of_eq (int_eq (by omega)), trivial⟩, by omega, by omega⟩
 ·
  skip
  refine a_exit ?_
  refine a_seq ?_
  refine a_region ?_
  refine rv (v := .agg [.rsl _ _ _ _ _, .rsl _ _ _ _ _, .rsl _ _ _ _ _]) (v_load_rpa (xs := [.osl _ _ _ _, .osl _ _ _ _, .osl _ _ _ _]) ta43 il rfl rfl (fun _ => take_get rfl)) ?_
  refine r_pre (ent_reloc_at_sl (t := 134) (r := [0]) rfl (by decide) rfl rfl) ?_
  refine r_pre (ent_reloc_at_sl (t := 134) (r := [1]) rfl (by decide) rfl rfl) ?_
  refine r_pre (ent_reloc_at_sl (t := 134) (r := [2]) rfl (by decide) rfl rfl) ?_
  refine r_step rfl (o_store_own (v := .agg [.osl _ _ _ _, .osl _ _ _ _, .osl _ _ _ _]) (y' := .op [.osl _ _ _ _, .osl _ _ _ _, .osl _ _ _ _]) rfl rfl ta43 (.inl rfl) (by decide) rfl (by decide) rfl (by simp [cellsOf, noRefL, noRef, ic_noRef]) rfl rfl rfl rfl rfl (Nat.le_of_ble_eq_true rfl) rfl rfl) ?_
  refine r_nil ?_
  refine a_ret ?_
  refine retC1 (r := .cell 2 43) Tryz.results18 ⟨by decide, _, cell_agg rfl ta43, rfl⟩ (by decide) (Weak.of_eq (agg_eq (l3_eq (osl_eq2 ?_ ?_) (osl_eq2 ?_ ?_) (osl_eq2 ?_ ?_)))) rfl Leaves.nil
  all_goals (have hme : m = (3 ^ vars.toNat) := (by have h9 := of_decide_eq_false ht27; exact Nat.le_antisymm hG (Int.ofNat_le.1 (by omega))); subst hme; rfl)
end Go.Av
namespace Go.Av
open Go Go.Proofs Go.Sort
set_option maxRecDepth 10000
theorem hb27 : hasBody Tryz.prog 27 = true := by kernel_rfl
theorem hb28 : hasBody Tryz.prog 28 = true := by kernel_rfl
theorem hb29 : hasBody Tryz.prog 29 = true := by kernel_rfl
theorem takes12_c (vars : Int) (L : List (List Int)) (hk : CnfOk vars L) : ACall Tryz.prog 14 [.agg [.int .i64 vars, .sl (sls L) L.length]] [] (.bool (gmB vars L)) [] := by
 refine ACall.intro Tryz.func14 rfl (N := 15) rfl (by decide) (by simp) ?_
 refine a_seq ?_
 refine a_region ?_
 refine rn (v := .op [.int _ _, .sl _ _]) (q_box il rfl rfl) ?_
 refine rv (v := .bool _) (v_assign il nf) ?_
 refine r_nil ?_
 refine a_seq ?_
 refine a_region ?_
 refine rv (v := .agg [.int _ _, .sl _ _]) (v_load_rpa1 ta29 il rfl rfl (fun _ => rfl) rfl) ?_
 refine rn (v := .bool _) (q_call (vs := [.agg [.int _ _, .sl _ _]]) (args := [.agg [.int .i64 _, .sl _ _]]) hb27 ⟨il, trivial⟩ rfl (fun hA => l2Good_c vars L hk) rfl rfl) ?_
 refine rv (v := .bool _) (v_move il nf) ?_
 refine r_gval (v := .rp _ _) (v_fieldAddr_rp fo29_0 il) rfl rfl rfl (by decide) (.inl ⟨_, rfl, rfl⟩) rfl (by decide) ?_
 refine r_gval (v := .int _ _) (v_load_rp1 ta3 (.inr ⟨_, rfl, fun h => h⟩) rfl (fun _ => rfl) rfl) rfl rfl rfl (by decide) (.inl ⟨_, rfl, rfl⟩) rfl (by decide) ?_
 refine r_guard (v := .bool _) (q_call (vs := [.int _ _]) (args := [.int .i64 _]) hb28 ⟨.inr ⟨_, rfl, fun h => h⟩, trivial⟩ rfl (fun hA => size12_c vars) rfl rfl) rfl rfl rfl (by decide) (.inl ⟨_, rfl, rfl⟩) rfl (by decide) ?_
 refine rv (v := .bool _) (v_pick (.inl rfl) (.inr ⟨_, rfl, fun h h2 => by simp_all⟩) (.inl rfl)) ?_
 refine rv (v := .bool _) (v_move il nf) ?_
 refine r_gval (v := .agg [.int _ _, .sl _ _]) (v_load_rpa1 ta29 il rfl rfl (fun _ => rfl) rfl) rfl rfl rfl (by decide) (.inl ⟨_, rfl, rfl⟩) rfl (by decide) ?_
 refine r_guard (v := .bool _) (q_call (vs := [.agg [.int _ _, .sl _ _]]) (args := [.agg [.int .i64 _, .sl _ _]]) hb29 ⟨.inr ⟨_, rfl, fun h => h⟩, trivial⟩ rfl (fun hA => sat5_c vars L (by have h9 := hA; simp at h9; exact h9.1)) rfl rfl) rfl rfl rfl (by decide) (.inl ⟨_, rfl, rfl⟩) rfl (by decide) ?_
 refine r_gval (v := .bool _) (v_not (.inr ⟨_, rfl, fun h => h⟩)) rfl rfl rfl (by decide) (.inl ⟨_, rfl, rfl⟩) rfl (by decide) ?_
 refine rv (v := .bool _) (v_pick (.inl rfl) (.inr ⟨_, rfl, fun h h2 => by simp_all⟩) (.inl rfl)) ?_
 refine rv (v := .bool _) (v_assign il nf) ?_
 refine r_nil ?_
 refine a_ret ?_
 refine ret1 Tryz.results14 (by decide) (by decide) (Weak.of_eq (bool_eq ?_)) rfl Leaves.nil
 exact gm_bif vars L
end Go.Av
namespace Go.Av
open Go
theorem QSem.weak {P : Program} {N : Nat} {A : Bool} {op : Op} {ty : TypeId} {σ : Sig} {D : List Nat} {x y : AV} (h : QSem P N A op ty σ D x) (hw : Weak x y) : QSem P N A op ty σ D y := fun hA σ' hD gv e a w β F hi d o ho hty K Q hK =>
  h hA σ' hD gv e a w β F hi d o ho hty K Q fun v w' ⟨β', F', hi'⟩ => hK v w' ⟨β', F', hi'.weak (fun i => by
    have hr := hi'.rep i
    by_cases h1 : i = d
    · subst h1; rw [upd_same] at hr ⊢; exact hw.1 _ _ _ _ _ hr
    · rw [upd_other _ _ h1] at hr ⊢; exact hr) (fun q ⟨z, hz, ho'⟩ => by
    by_cases h1 : q.1 = d
    · rw [h1, upd_same] at hz
      obtain ⟨z', hz', ho2⟩ := hw.2 _ z hz ho'
      exact ⟨z', by rw [h1, upd_same]; exact hz', ho2⟩
    · rw [upd_other _ _ h1] at hz
      exact ⟨z, by rw [upd_other _ _ h1]; exact hz, ho'⟩)⟩
mutual
theorem passV_congr {q : Place} {σ σ0 : Sig} : ∀ (x : AV), (∀ p ∈ refs x, σ p.1 = σ0 p.1) → passV q σ x = passV q σ0 x
  | .rsl p sz off n cap, h => by
    simp only [passV]; split
    · rfl
    · exact snapV_congr _ h
  | .rp p off, h => by
    simp only [passV]; split
    · rfl
    · exact snapV_congr _ h
  | .agg cs, h => by simp only [passV, passL_congr cs (fun p hp => h p (by simpa [refs] using hp))]
  | .fn f us cs, h => by simp only [passV, passL_congr us (fun p hp => h p (by simp [refs, hp])), passL_congr cs (fun p hp => h p (by simp [refs, hp]))]
  | .undef, h | .int .., h | .bool _, h | .str _, h | .nilp, h | .nils, h | .emp, h | .sl .., h | .pp .., h | .tup _, h | .when .., h | .osl .., h | .op _, h => by simp only [passV]; exact snapV_congr _ h
theorem passL_congr {q : Place} {σ σ0 : Sig} : ∀ (cs : List AV), (∀ p ∈ refsL cs, σ p.1 = σ0 p.1) → passL q σ cs = passL q σ0 cs
  | [], _ => rfl
  | c :: cs, h => by simp only [passL, passV_congr c (fun p hp => h p (by simp [refsL, hp])), passL_congr cs (fun p hp => h p (by simp [refsL, hp]))]
end
theorem RdL.agree {N : Nat} {A : Bool} {σ σ' : Sig} : ∀ {xs : List Operand} {vs : List AV}, RdL N A σ xs vs → (∀ i ∈ slotsL xs, σ' i = σ i) → RdL N A σ' xs vs
  | [], [], _, _ => trivial
  | [], _ :: _, h, _ => h.elim
  | _ :: _, [], h, _ => h.elim
  | x :: xs, v :: vs, h, hD => ⟨h.1.agree (fun i hi => hD i (by simp only [slotsL, List.mem_flatMap]; exact ⟨x, List.mem_cons_self, hi⟩)), RdL.agree h.2 (fun i hi => hD i (by simp only [slotsL, List.mem_flatMap] at hi ⊢; obtain ⟨a, h1, h2⟩ := hi; exact ⟨a, List.mem_cons_of_mem _ h1, h2⟩))⟩
section
variable {P : Program} {N : Nat} {ops : Array Oper} {l rest : List Oper} {efs : EffsX} {o : Oper} {jj : Nat} {σ : Sig} {K : Sig → Prop}
theorem z_callIO {f : FuncId} {xs : List Operand} {tys : Array TypeId} {vs args : List AV} {res x0 : AV} {s d : Nat} (hg : o.guard = none) (ho : o.op = fnCall f xs tys) (hf : hasBody P f = true) (hd : o.dst = some d) (hN : d < N) (hx : RdL N true σ xs vs)
    (hz : σ s = x0) (hs : passL (s, []) (hole σ (s, [])) vs = args) (hc : ACall P f args [x0] res [.undef]) (hr0 : refs x0 = []) (hn : noSh res = true) (hr : noRef res = true) (hlen : args.length < INH) (hds : d ≠ s)
    (he : effX efs jj = [(d, true), (s, true)]) (hok : opOkX l efs jj (s :: (slotsL xs ++ (refsL vs).map (·.1))) (rootsU [(d, res), (s, .undef)]) = true)
    (h : AQz P N ops l efs rest (jj + 1) (updL σ [(d, res), (s, .undef)]) K) : AQz P N ops l efs (o :: rest) jj σ K := by
  refine z_step (D := s :: (slotsL xs ++ (refsL vs).map (·.1))) (us := [(d, res), (s, .undef)]) hg (fun σ' hD => ?_) he rfl hok h
  have es : σ' s = x0 := (hD s (by simp)).trans hz
  have hp : passL (s, []) (hole σ' (s, [])) vs = args := by
    rw [← hs]
    refine passL_congr vs fun p hp => ?_
    have e1 := hD p.1 (by simp only [List.mem_cons, List.mem_append, List.mem_map]; exact .inr (.inr ⟨p, hp, rfl⟩))
    simp only [hole, upd]
    split
    · rw [es, hz]
    · exact e1
  have hst := o_callIO (P := P) (N := N) (σ := σ') (q := (s, [])) ho hf hd hN (hx.agree fun i hi => hD i (by simp [hi])) (by simpa [node] using es) hp hc hr0 hn hr rfl rfl hlen hds (by rw [es, hr0]; rfl)
  have hfin : upd (upd (fun i => purgeV s (purgeV d (σ' i))) s (setNode (σ' s) [] .undef)) d res = updL (fun i => purgeD [d, s] (σ' i)) [(d, res), (s, .undef)] := by
    funext i
    simp only [updL, upd, purge2, setNode]
    by_cases h1 : i = d
    · subst h1; simp [hds]
    · by_cases h2 : i = s
      · subst h2; simp [h1]
      · simp [h1, h2]
  have hst2 : OStep P N o σ' (upd (upd (fun i => purgeV s (purgeV d (σ' i))) s (setNode (σ' s) [] .undef)) d res) := hst
  rw [hfin] at hst2
  exact hst2
end
end Go.Av
namespace Go.Av
open Go Go.Proofs Go.Sort
set_option maxRecDepth 10000
theorem fp43_1 : fieldPart Tryz.prog 43 1 = some (false, 1, 1) := by kernel_rfl
theorem hb14 : hasBody Tryz.prog 14 = true := by kernel_rfl
theorem hb15 : hasBody Tryz.prog 15 = true := by kernel_rfl
theorem hb17 : hasBody Tryz.prog 17 = true := by kernel_rfl
theorem hb18 : hasBody Tryz.prog 18 = true := by kernel_rfl
theorem sp46 : structPl Tryz.prog 46 = some ([.nils, .bool false, .nils], [(0, 1), (1, 1), (2, 1)]) := by kernel_rfl
theorem sBst_c (vars : Int) (L : List (List Int)) (hk : CnfOk vars L) : ACall Tryz.prog 5 [.agg [.int .i64 vars, .sl (sls L) L.length]] [] (.tup [.osl 4 (tncells (btR vars L)) (btR vars L).length none, .bool (btB vars L)]) [] := by
 refine ACall.intro Tryz.func5 rfl (N := 22) rfl (by decide) (by simp) ?_
 refine a_seq ?_
 refine a_region ?_
 refine rn (v := .op [.int _ _, .sl _ _]) (q_box il rfl rfl) ?_
 refine rv (v := .nils) (v_assign il nf) ?_
 refine rv (v := .bool _) (v_assign il nf) ?_
 refine r_nil ?_
 refine a_seq ?_
 refine a_seq ?_
 refine a_region ?_
 refine rv (v := .agg [.int _ _, .sl _ _]) (v_load_rpa1 ta29 il rfl rfl (fun _ => rfl) rfl) ?_
 refine rn (v := .bool _) (q_call (vs := [.agg [.int _ _, .sl _ _]]) (args := [.agg [.int .i64 _, .sl _ _]]) hb14 ⟨il, trivial⟩ rfl (fun hA => takes12_c vars L hk) rfl rfl) ?_
 refine rv (v := .bool _) (v_not il) ?_
 refine r_nil ?_
 refine a_cond rfl (fun ht6 => ?_) (fun ht6 => ?_)
 ·
  skip
  refine a_seq ?_
  have hg0 : gmB vars L = false := (by simpa using ht6)
  have hb9 : btB vars L = false := (by unfold btB; rw [hg0]; rfl)
  have hr9 : btR vars L = [] := (by unfold btR; rw [hg0]; rfl)
  refine a_region ?_
  refine rn (v := .osl _ _ _ _) (q_sliceLit (n := 0) (parts := []) lt26 rfl rfl rfl rfl) ?_
  refine rv (v := .rsl _ _ _ _ _) (v_assign il nf) ?_
  refine r_pre (ent_reloc_sl (t := 2) rfl rfl) ?_
  refine rv (v := .bool _) (v_assign il nf) ?_
  refine r_nil ?_
  refine a_ret ?_
  refine retL (rs := [.tmp 2, .tmp 3]) [(2, .osl _ _ _ none), (3, _)] ⟨Weak.osl rfl rfl, Weak.rfl, trivial⟩ rfl Tryz.results5 (by decide) ⟨by decide, by decide, rfl⟩ (by decide) (by decide) (l2_eq (osl_eq2 ?_ ?_) (bool_eq ?_)) rfl
  all_goals (first | exact hb9.symm | (rw [hr9]; done) | (rw [hr9]; rfl))
 ·
  skip
  refine a_skip ?_
  refine a_seq ?_
  have hg1 : gmB vars L = true := (by simpa using ht6)
  obtain ⟨hye, hv, hns⟩ := gm_spec hg1
  have hcs := cnfB_spec hye
  have hca0 := nil_cl hye
  have hul := upL_len hcs.1
  have hAo := bask_ok vars L
  have hUn := bask_un hcs.1 hcs.2.2 hns
  have hsame := gs_same hca0 hAo hUn
  have hb9 : (!decide (((grS L (bask vars L) 13 [] []).length : Int) > 199)) = btB vars L := (by rw [show (!decide (((grS L (bask vars L) 13 [] []).length : Int) > 199)) = gsB L (bask vars L) from rfl, hsame.1]; unfold btB; rw [hg1]; rfl)
  have hr9 : (if ((grS L (bask vars L) 13 [] []).length : Int) > 199 then [] else (grS L (bask vars L) 13 [] [])) = btR vars L := (by unfold btR; rw [hg1, if_pos rfl, ← hsame.2]; unfold gsR gsB; by_cases h : ((grS L (bask vars L) 13 [] []).length : Int) > 199 <;> simp [h])
  refine a_region_z (n := 14) [[(8, true)], [(9, true)], [(10, true)], [(11, true)], [(12, true)], [(13, true)], [(14, true)], [(15, true)], [(16, true)], [(17, true)], [(18, true), (17, true)], [(19, true), (18, true)], [(20, true)], [(21, true)]] mixed (by kernel_rfl) ?_
  refine z_val (v := .agg [.int _ _, .sl _ _]) (v_load_rpa1 ta29 il rfl rfl (fun _ => rfl) rfl) rfl rfl (by decide) rfl (by kernel_rfl) ?_
  refine z_new (v := .osl _ _ _ _) (q_sliceLit (n := 0) (parts := []) lt40 rfl rfl rfl rfl) rfl rfl (by decide) rfl (by kernel_rfl) ?_
  refine z_val (v := .rp _ _) (v_fieldAddr_rp fo29_0 il) rfl rfl (by decide) rfl (by kernel_rfl) ?_
  refine z_val (v := .int _ _) (v_load_rp1 ta3 il rfl (fun _ => rfl) rfl) rfl rfl (by decide) rfl (by kernel_rfl) ?_
  refine z_new (v := .sl (icells (upL vars)) (upL vars).length) (QSem.cast (q_callZ (vs := [.int _ _]) (args := [.int .i64 _]) hb17 ⟨il, trivial⟩ rfl (fun hA => vars9_c vars hcs.1) (ic_noSh _) (ic_noRef _)) (sl_shZ (ic_pure _))) rfl rfl (by decide) rfl (by kernel_rfl) ?_
  refine z_val (v := .agg [.int _ _, .sl _ _]) (v_load_rpa1 ta29 il rfl rfl (fun _ => rfl) rfl) rfl rfl (by decide) rfl (by kernel_rfl) ?_
  refine z_new (v := .agg [.sl _ _, .sl _ _, .sl _ _]) (QSem.cast (q_callFZ (vs := [.agg [.int _ _, .sl _ _]]) (args := [.agg [.int .i64 _, .sl _ _]]) hb18 ⟨il, trivial⟩ rfl (fun hA => play12_c vars L hcs.2.2 (by omega) hv) rfl (by simp [noRef, noRefL, ic_noRef])) (sp_shT)) rfl rfl (by decide) rfl (by kernel_rfl) ?_
  refine z_val (v := .sl _ _) (v_field fp43_1 rfl rfl) rfl rfl (by decide) rfl (by kernel_rfl) ?_
  refine z_val (v := .agg [.sl _ _, .bool _, .sl _ _]) (v_build sp46 rfl rfl) rfl rfl (by decide) rfl (by kernel_rfl) ?_
  refine z_new (v := .osl 4 (tncells []) ([] : List TN).length none) (QSem.weak (q_sliceLit (n := 0) (parts := []) lt26 rfl rfl rfl rfl) (Weak.osl rfl rfl)) rfl rfl (by decide) rfl (by kernel_rfl) ?_
  refine z_callIO (s := 17) (vs := [.agg [.int _ _, .sl _ _], .rsl _ _ _ _ _, .agg [.sl _ _, .bool _, .sl _ _], .rsl _ _ _ _ _]) (args := [.agg [.int .i64 _, .sl _ _], .sl _ _, .agg [.sl _ _, .bool _, .sl _ _], .rsl (INH, []) _ _ _ _]) (res := .osl _ _ _ _) rfl rfl hb16 rfl (by decide) ⟨.inl rfl, .inl rfl, .inl rfl, .inl rfl, trivial⟩ rfl rfl (growR9B_c vars L hcs.2.2 hcs.2.1 hv (bask vars L) (bask_ok vars L) (fun a h => rfl) hUn 13 (by omega) [] [] hca0 (by simp) (by simp)) rfl (tn_noSh _) (tn_noRef _) (Nat.le_of_ble_eq_true rfl) (by decide) rfl (by kernel_rfl) ?_
  refine z_callIO (s := 18) (vs := [.rsl _ _ _ _ _]) (args := [.rsl (INH, []) _ _ _ _]) (res := .tup [.osl _ _ _ _, .bool _]) rfl rfl hb15 rfl (by decide) ⟨.inl rfl, trivial⟩ rfl rfl (give9_c (grS L (bask vars L) 13 [] []) (by have := (grS_len L (bask vars L) 13 [] []).1; simp at this; omega)) rfl (by simp [noSh, noShL, tn_noSh]) (by simp [noRef, noRefL, tn_noRef]) (Nat.le_of_ble_eq_true rfl) (by decide) rfl (by kernel_rfl) ?_
  refine z_val (v := .rsl _ _ _ _ _) (v_extract rfl rfl) rfl rfl (by decide) rfl (by kernel_rfl) ?_
  refine z_val (v := .bool _) (v_extract rfl rfl) rfl rfl (by decide) rfl (by kernel_rfl) ?_
  refine z_nil ?_
  refine rv (v := .rsl _ _ _ _ _) (v_assign il nf) ?_
  refine r_pre (ent_reloc_sl (t := 2) rfl rfl) ?_
  refine rv (v := .bool _) (v_assign il nf) ?_
  refine r_nil ?_
  refine a_ret ?_
  refine retL (rs := [.tmp 2, .tmp 3]) [(2, .osl _ _ _ none), (3, _)] ⟨Weak.osl rfl rfl, Weak.rfl, trivial⟩ rfl Tryz.results5 (by decide) ⟨by decide, by decide, rfl⟩ (by decide) (by decide) (l2_eq (osl_eq2 ?_ ?_) (bool_eq ?_)) rfl
  all_goals (first | exact hb9 | (rw [hr9]; done) | (rw [← hr9]; rfl))
end Go.Av
namespace Go.Av
open Go Go.Proofs Go.Sort
set_option maxRecDepth 10000
theorem markTN_c (xs : List TN) (k : Int) (h : -9000000000000000000 ≤ k ∧ k + 4 * xs.length ≤ 9223372036854775807) : ACall Tryz.prog 11 [.rsl (INH, []) 4 0 xs.length none, .int .i64 k] [.osl 4 (tncells xs) xs.length none] (.int .i64 (k + 4 * xs.length)) [.osl 4 (icells (mkI k (xs.length * 4))) xs.length none] := by
 refine ACall.intro Tryz.func11 rfl (N := 41) rfl (by decide) (by simp) ?_
 refine a_seq ?_
 refine a_region ?_
 refine rv (v := .int _ _) (v_assign il nf) ?_
 refine r_nil ?_
 refine a_seq ?_
 refine a_seq ?_
 refine a_region ?_
 refine rv (v := .int _ _) (v_assign il nf) ?_
 refine r_nil ?_
 refine a_block ?_
 refine a_loop (X := Nat) (fun i => look [(0, .rsl (INH, []) 4 0 xs.length none), (1, .int .i64 (k + 4 * (i : Nat))), (5, .int .i64 ((i : Nat) : Int)), (INH, .osl 4 (mkC k (tncells xs) (i * 4)) xs.length none)]) (fun i => i ≤ xs.length) (fun i => xs.length - i) 0 (ent_look ⟨Weak.of_eq rfl, Weak.of_eq (int_eq (by omega)), Weak.of_eq rfl, Weak.of_eq (osl_eq (by rw [Nat.zero_mul, mkC_zero])), trivial⟩) (Nat.zero_le _) (fun i hG => ?_)
 refine a_seq ?_
 refine a_seq ?_
 refine a_region ?_
 refine rv (v := .int _ _) (v_move il nf) ?_
 refine rv (v := .rsl _ _ _ _ _) (v_move il nf) ?_
 refine rv (v := .int _ _) (v_len_rsl sl26 il) ?_
 refine rv (v := .bool _) (v_lss il il) ?_
 refine r_nil ?_
 refine a_cond rfl (fun ht9 => ?_) (fun ht9 => ?_)
 ·
  skip
  refine a_skip ?_
  refine a_seq ?_
  refine a_block ?_
  refine a_seq ?_
  have hi : i < xs.length := (by simp at ht9; omega)
  have hp0 : i * 4 + 0 + 1 ≤ (mkC k (tncells xs) (i * 4 + 0)).length := (by rw [mkC_length (by rw [tncells_length]; omega), tncells_length]; omega)
  have hs0 : (mkC k (tncells xs) (i * 4 + 0)).set (i * 4 + 0) (.int .i64 (k + 4 * (i : Nat))) = mkC k (tncells xs) (i * 4 + 1) := (by have h9 := mkC_set (k := k) (cs := tncells xs) (m := i * 4 + 0) (by rw [tncells_length]; omega); rw [show k + ((i * 4 + 0 : Nat) : Int) = (k + 4 * (i : Nat)) by omega] at h9; exact h9)
  have hp1 : i * 4 + 1 + 1 ≤ (mkC k (tncells xs) (i * 4 + 1)).length := (by rw [mkC_length (by rw [tncells_length]; omega), tncells_length]; omega)
  have hs1 : (mkC k (tncells xs) (i * 4 + 1)).set (i * 4 + 1) (.int .i64 (k + 4 * (i : Nat) + 1)) = mkC k (tncells xs) (i * 4 + 2) := (by have h9 := mkC_set (k := k) (cs := tncells xs) (m := i * 4 + 1) (by rw [tncells_length]; omega); rw [show k + ((i * 4 + 1 : Nat) : Int) = (k + 4 * (i : Nat) + 1) by omega] at h9; exact h9)
  have hp2 : i * 4 + 2 + 1 ≤ (mkC k (tncells xs) (i * 4 + 2)).length := (by rw [mkC_length (by rw [tncells_length]; omega), tncells_length]; omega)
  have hs2 : (mkC k (tncells xs) (i * 4 + 2)).set (i * 4 + 2) (.int .i64 (k + 4 * (i : Nat) + 1 + 1)) = mkC k (tncells xs) (i * 4 + 3) := (by have h9 := mkC_set (k := k) (cs := tncells xs) (m := i * 4 + 2) (by rw [tncells_length]; omega); rw [show k + ((i * 4 + 2 : Nat) : Int) = (k + 4 * (i : Nat) + 1 + 1) by omega] at h9; exact h9)
  have hp3 : i * 4 + 3 + 1 ≤ (mkC k (tncells xs) (i * 4 + 3)).length := (by rw [mkC_length (by rw [tncells_length]; omega), tncells_length]; omega)
  have hs3 : (mkC k (tncells xs) (i * 4 + 3)).set (i * 4 + 3) (.int .i64 (k + 4 * (i : Nat) + 1 + 1 + 1)) = mkC k (tncells xs) (i * 4 + 4) := (by have h9 := mkC_set (k := k) (cs := tncells xs) (m := i * 4 + 3) (by rw [tncells_length]; omega); rw [show k + ((i * 4 + 3 : Nat) : Int) = (k + 4 * (i : Nat) + 1 + 1 + 1) by omega] at h9; exact h9)
  refine a_region ?_
  refine rv (v := .rsl _ _ _ _ _) (v_move il nf) ?_
  refine rv (v := .int _ _) (v_move il nf) ?_
  refine rv (v := .int _ _) (v_move il nf) ?_
  refine rv (v := .rp _ _) (v_indexAddr_rsl0 es26 il il (fun _ => by omega)) ?_
  refine rv (v := .rp _ _) (v_fieldAddr_rp fo55_0 il) ?_
  refine r_step rfl (o_store (v := .int _ _) (y' := .osl _ _ _ _) rfl rfl ta3 il il rfl rfl rfl rfl rfl rfl hp0 (by decide) rfl (congrArg (fun c => AV.osl 4 c xs.length none) hs0)) ?_
  refine r_nil ?_
  refine a_seq ?_
  refine a_region ?_
  refine rv (v := .int _ _) (v_move il nf) ?_
  refine rv (v := .int _ _) (v_add il il (fun _ => by omega)) ?_
  refine rv (v := .int _ _) (v_assign il nf) ?_
  refine r_nil ?_
  refine a_seq ?_
  refine a_region ?_
  refine rv (v := .rsl _ _ _ _ _) (v_move il nf) ?_
  refine rv (v := .int _ _) (v_move il nf) ?_
  refine rv (v := .int _ _) (v_move il nf) ?_
  refine rv (v := .rp _ _) (v_indexAddr_rsl0 es26 il il (fun _ => by omega)) ?_
  refine rv (v := .rp _ _) (v_fieldAddr_rp fo55_1 il) ?_
  refine r_step rfl (o_store (v := .int _ _) (y' := .osl _ _ _ _) rfl rfl ta3 il il rfl rfl rfl rfl rfl rfl hp1 (by decide) rfl (congrArg (fun c => AV.osl 4 c xs.length none) hs1)) ?_
  refine r_nil ?_
  refine a_seq ?_
  refine a_region ?_
  refine rv (v := .int _ _) (v_move il nf) ?_
  refine rv (v := .int _ _) (v_add il il (fun _ => by omega)) ?_
  refine rv (v := .int _ _) (v_assign il nf) ?_
  refine r_nil ?_
  refine a_seq ?_
  refine a_region ?_
  refine rv (v := .rsl _ _ _ _ _) (v_move il nf) ?_
  refine rv (v := .int _ _) (v_move il nf) ?_
  refine rv (v := .int _ _) (v_move il nf) ?_
  refine rv (v := .rp _ _) (v_indexAddr_rsl0 es26 il il (fun _ => by omega)) ?_
  refine rv (v := .rp _ _) (v_fieldAddr_rp fo55_2 il) ?_
  refine r_step rfl (o_store (v := .int _ _) (y' := .osl _ _ _ _) rfl rfl ta3 il il rfl rfl rfl rfl rfl rfl hp2 (by decide) rfl (congrArg (fun c => AV.osl 4 c xs.length none) hs2)) ?_
  refine r_nil ?_
  refine a_seq ?_
  refine a_pre (ent_look (L := [(0, .rsl _ _ _ _ _), (1, .int _ _), (5, .int _ _), (INH, .osl _ _ _ _)]) ⟨Weak.rfl, Weak.rfl, Weak.rfl, Weak.rfl, trivial⟩) ?_
  refine a_region ?_
  refine rv (v := .int _ _) (v_move il nf) ?_
  refine rv (v := .int _ _) (v_add il il (fun _ => by omega)) ?_
  refine rv (v := .int _ _) (v_assign il nf) ?_
  refine r_nil ?_
  refine a_seq ?_
  refine a_region ?_
  refine rv (v := .rsl _ _ _ _ _) (v_move il nf) ?_
  refine rv (v := .int _ _) (v_move il nf) ?_
  refine rv (v := .int _ _) (v_move il nf) ?_
  refine rv (v := .rp _ _) (v_indexAddr_rsl0 es26 il il (fun _ => by omega)) ?_
  refine rv (v := .rp _ _) (v_fieldAddr_rp fo55_3 il) ?_
  refine r_step rfl (o_store (v := .int _ _) (y' := .osl _ _ _ _) rfl rfl ta3 il il rfl rfl rfl rfl rfl rfl hp3 (by decide) rfl (congrArg (fun c => AV.osl 4 c xs.length none) hs3)) ?_
  refine r_nil ?_
  refine a_region ?_
  refine rv (v := .int _ _) (v_move il nf) ?_
  refine rv (v := .int _ _) (v_add il il (fun _ => by omega)) ?_
  refine rv (v := .int _ _) (v_assign il nf) ?_
  refine r_nil ?_
  refine a_region ?_
  refine rv (v := .int _ _) (v_move il nf) ?_
  refine rv (v := .int _ _) (v_add il il (fun _ => by omega)) ?_
  refine rv (v := .int _ _) (v_assign il nf) ?_
  refine r_nil ?_
  refine ⟨i + 1, ent_look ⟨Weak.of_eq rfl, Weak.of_eq (int_eq (by omega)), Weak.of_eq (int_eq (by omega)), Weak.of_eq (osl_eq (by rw [show (i + 1) * 4 = i * 4 + 4 by omega])), trivial⟩, by omega, by omega⟩
 ·
  skip
  refine a_exit ?_
  refine a_seq ?_
  refine a_region ?_
  refine rv (v := .int _ _) (v_move il nf) ?_
  refine rv (v := .int _ _) (v_assign il nf) ?_
  refine r_nil ?_
  refine a_ret ?_
  refine ret1 Tryz.results11 (by decide) (by decide) (Weak.of_eq (int_eq ?_)) rfl (Leaves.one (Weak.of_eq (osl_eq (by simp at ht9; rw [show i = xs.length by omega, mkC_full (tncells_length xs)]))) rfl)
  simp at ht9; omega
theorem heldTN_c (n : Nat) (k : Int) (h : -9000000000000000000 ≤ k ∧ k + 4 * n ≤ 9223372036854775807) : ACall Tryz.prog 12 [.sl (icells (mkI k (n * 4))) n, .int .i64 k] [] (.int .i64 (k + 4 * n)) [] := by
 refine ACall.intro Tryz.func12 rfl (N := 49) rfl (by decide) (by simp) ?_
 refine a_seq ?_
 refine a_region ?_
 refine rv (v := .int _ _) (v_assign il nf) ?_
 refine r_nil ?_
 refine a_seq ?_
 refine a_seq ?_
 refine a_region ?_
 refine rv (v := .int _ _) (v_assign il nf) ?_
 refine r_nil ?_
 refine a_block ?_
 refine a_loop (X := Nat) (fun i => look [(0, .sl (icells (mkI k (n * 4))) n), (1, .int .i64 (k + 4 * (i : Nat))), (5, .int .i64 ((i : Nat) : Int))]) (fun i => i ≤ n) (fun i => n - i) 0 (ent_look ⟨Weak.of_eq rfl, Weak.of_eq (int_eq (by omega)), Weak.of_eq rfl, trivial⟩) (Nat.zero_le _) (fun i hG => ?_)
 refine a_seq ?_
 refine a_seq ?_
 refine a_region ?_
 refine rv (v := .int _ _) (v_move il nf) ?_
 refine rv (v := .sl _ _) (v_move il nf) ?_
 refine rv (v := .int _ _) (v_len_sl sl26 il) ?_
 refine rv (v := .bool _) (v_lss il il) ?_
 refine r_nil ?_
 refine a_cond rfl (fun ht9 => ?_) (fun ht9 => ?_)
 ·
  skip
  refine a_skip ?_
  refine a_seq ?_
  refine a_block ?_
  refine a_seq ?_
  refine a_seq ?_
  have hi : i < n := (by simp at ht9; omega)
  have hm0 : (icells (mkI k (n * 4)))[i * 4 + 0]? = some (.int .i64 (k + 4 * (i : Nat))) := (by have h9 := icells_get (gd_get (show i * 4 + 0 < (mkI k (n * 4)).length by rw [mkI_length]; omega)); rw [mkI_get (by omega)] at h9; exact h9.trans (congrArg (fun z => some (AV.int .i64 z)) (by omega)))
  have hm1 : (icells (mkI k (n * 4)))[i * 4 + 1]? = some (.int .i64 (k + 4 * (i : Nat) + 1)) := (by have h9 := icells_get (gd_get (show i * 4 + 1 < (mkI k (n * 4)).length by rw [mkI_length]; omega)); rw [mkI_get (by omega)] at h9; exact h9.trans (congrArg (fun z => some (AV.int .i64 z)) (by omega)))
  have hm2 : (icells (mkI k (n * 4)))[i * 4 + 2]? = some (.int .i64 (k + 4 * (i : Nat) + 1 + 1)) := (by have h9 := icells_get (gd_get (show i * 4 + 2 < (mkI k (n * 4)).length by rw [mkI_length]; omega)); rw [mkI_get (by omega)] at h9; exact h9.trans (congrArg (fun z => some (AV.int .i64 z)) (by omega)))
  have hm3 : (icells (mkI k (n * 4)))[i * 4 + 3]? = some (.int .i64 (k + 4 * (i : Nat) + 1 + 1 + 1)) := (by have h9 := icells_get (gd_get (show i * 4 + 3 < (mkI k (n * 4)).length by rw [mkI_length]; omega)); rw [mkI_get (by omega)] at h9; exact h9.trans (congrArg (fun z => some (AV.int .i64 z)) (by omega)))
  refine a_region ?_
  refine rv (v := .sl _ _) (v_move il nf) ?_
  refine rv (v := .int _ _) (v_move il nf) ?_
  refine rv (v := .pp _ _) (v_indexAddr_sl es26 il il (fun _ => ⟨by omega, by omega, icells_ne (show i * 4 < (mkI k (n * 4)).length by rw [mkI_length]; omega)⟩)) ?_
  refine rv (v := .pp _ _) (v_fieldAddr_pp fo55_0 il) ?_
  refine rv (v := .int .i64 (k + 4 * (i : Nat))) (v_load_pp ta3 il (fun _ => hm0) rfl) ?_
  refine rv (v := .int _ _) (v_move il nf) ?_
  refine rv (v := .bool _) (v_neq il il) ?_
  refine r_nil ?_
  refine a_cond rfl (fun ht18 => ?_) (fun ht18 => ?_)
  ·
   skip
   refine a_seq ?_
   refine a_region ?_
   refine rv (v := .int _ _) (v_assign il nf) ?_
   refine r_nil ?_
   refine a_ret ?_
   refine ret1 Tryz.results12 (by decide) (by decide) (Weak.of_eq (int_eq ?_)) rfl Leaves.nil
   exfalso; simp at ht18
  ·
   skip
   refine a_skip ?_
   refine a_seq ?_
   refine a_region ?_
   refine rv (v := .int _ _) (v_move il nf) ?_
   refine rv (v := .int _ _) (v_add il il (fun _ => by omega)) ?_
   refine rv (v := .int _ _) (v_assign il nf) ?_
   refine r_nil ?_
   refine a_seq ?_
   refine a_seq ?_
   refine a_region ?_
   refine rv (v := .sl _ _) (v_move il nf) ?_
   refine rv (v := .int _ _) (v_move il nf) ?_
   refine rv (v := .pp _ _) (v_indexAddr_sl es26 il il (fun _ => ⟨by omega, by omega, icells_ne (show i * 4 < (mkI k (n * 4)).length by rw [mkI_length]; omega)⟩)) ?_
   refine rv (v := .pp _ _) (v_fieldAddr_pp fo55_1 il) ?_
   refine rv (v := .int .i64 (k + 4 * (i : Nat) + 1)) (v_load_pp ta3 il (fun _ => hm1) rfl) ?_
   refine rv (v := .int _ _) (v_move il nf) ?_
   refine rv (v := .bool _) (v_neq il il) ?_
   refine r_nil ?_
   refine a_cond rfl (fun ht27 => ?_) (fun ht27 => ?_)
   ·
    skip
    refine a_seq ?_
    refine a_region ?_
    refine rv (v := .int _ _) (v_assign il nf) ?_
    refine r_nil ?_
    refine a_ret ?_
    refine ret1 Tryz.results12 (by decide) (by decide) (Weak.of_eq (int_eq ?_)) rfl Leaves.nil
    exfalso; simp at ht27
   ·
    skip
    refine a_skip ?_
    refine a_seq ?_
    refine a_region ?_
    refine rv (v := .int _ _) (v_move il nf) ?_
    refine rv (v := .int _ _) (v_add il il (fun _ => by omega)) ?_
    refine rv (v := .int _ _) (v_assign il nf) ?_
    refine r_nil ?_
    refine a_seq ?_
    refine a_seq ?_
    refine a_region ?_
    refine rv (v := .sl _ _) (v_move il nf) ?_
    refine rv (v := .int _ _) (v_move il nf) ?_
    refine rv (v := .pp _ _) (v_indexAddr_sl es26 il il (fun _ => ⟨by omega, by omega, icells_ne (show i * 4 < (mkI k (n * 4)).length by rw [mkI_length]; omega)⟩)) ?_
    refine rv (v := .pp _ _) (v_fieldAddr_pp fo55_2 il) ?_
    refine rv (v := .int .i64 (k + 4 * (i : Nat) + 1 + 1)) (v_load_pp ta3 il (fun _ => hm2) rfl) ?_
    refine rv (v := .int _ _) (v_move il nf) ?_
    refine rv (v := .bool _) (v_neq il il) ?_
    refine r_nil ?_
    refine a_cond rfl (fun ht36 => ?_) (fun ht36 => ?_)
    ·
     skip
     refine a_seq ?_
     refine a_pre (ent_look (L := [(0, .sl _ _), (1, .int _ _), (5, .int _ _)]) ⟨Weak.rfl, Weak.rfl, Weak.rfl, trivial⟩) ?_
     refine a_region ?_
     refine rv (v := .int _ _) (v_assign il nf) ?_
     refine r_nil ?_
     refine a_ret ?_
     refine ret1 Tryz.results12 (by decide) (by decide) (Weak.of_eq (int_eq ?_)) rfl Leaves.nil
     exfalso; simp at ht36
    ·
     skip
     refine a_skip ?_
     refine a_seq ?_
     refine a_pre (ent_look (L := [(0, .sl _ _), (1, .int _ _), (5, .int _ _)]) ⟨Weak.rfl, Weak.rfl, Weak.rfl, trivial⟩) ?_
     refine a_region ?_
     refine rv (v := .int _ _) (v_move il nf) ?_
     refine rv (v := .int _ _) (v_add il il (fun _ => by omega)) ?_
     refine rv (v := .int _ _) (v_assign il nf) ?_
     refine r_nil ?_
     refine a_seq ?_
     refine a_seq ?_
     refine a_region ?_
     refine rv (v := .sl _ _) (v_move il nf) ?_
     refine rv (v := .int _ _) (v_move il nf) ?_
     refine rv (v := .pp _ _) (v_indexAddr_sl es26 il il (fun _ => ⟨by omega, by omega, icells_ne (show i * 4 < (mkI k (n * 4)).length by rw [mkI_length]; omega)⟩)) ?_
     refine rv (v := .pp _ _) (v_fieldAddr_pp fo55_3 il) ?_
     refine rv (v := .int .i64 (k + 4 * (i : Nat) + 1 + 1 + 1)) (v_load_pp ta3 il (fun _ => hm3) rfl) ?_
     refine rv (v := .int _ _) (v_move il nf) ?_
     refine rv (v := .bool _) (v_neq il il) ?_
     refine r_nil ?_
     refine a_cond rfl (fun ht45 => ?_) (fun ht45 => ?_)
     ·
      skip
      refine a_seq ?_
      refine a_region ?_
      refine rv (v := .int _ _) (v_assign il nf) ?_
      refine r_nil ?_
      refine a_ret ?_
      refine ret1 Tryz.results12 (by decide) (by decide) (Weak.of_eq (int_eq ?_)) rfl Leaves.nil
      exfalso; simp at ht45
     ·
      skip
      refine a_skip ?_
      refine a_region ?_
      refine rv (v := .int _ _) (v_move il nf) ?_
      refine rv (v := .int _ _) (v_add il il (fun _ => by omega)) ?_
      refine rv (v := .int _ _) (v_assign il nf) ?_
      refine r_nil ?_
      refine a_region ?_
      refine rv (v := .int _ _) (v_move il nf) ?_
      refine rv (v := .int _ _) (v_add il il (fun _ => by omega)) ?_
      refine rv (v := .int _ _) (v_assign il nf) ?_
      refine r_nil ?_
      refine ⟨i + 1, ent_look ⟨Weak.of_eq rfl, Weak.of_eq (int_eq (by omega)), Weak.of_eq (int_eq (by omega)), trivial⟩, by omega, by omega⟩
 ·
  skip
  refine a_exit ?_
  refine a_seq ?_
  refine a_region ?_
  refine rv (v := .int _ _) (v_move il nf) ?_
  refine rv (v := .int _ _) (v_assign il nf) ?_
  refine r_nil ?_
  refine a_ret ?_
  refine ret1 Tryz.results12 (by decide) (by decide) (Weak.of_eq (int_eq ?_)) rfl Leaves.nil
  simp at ht9; omega
end Go.Av
namespace Go.Av
open Go Go.Proofs Go.Sort
set_option maxRecDepth 10000
theorem hb10 : hasBody Tryz.prog 10 = true := by kernel_rfl
theorem hb11 : hasBody Tryz.prog 11 = true := by kernel_rfl
theorem hb12 : hasBody Tryz.prog 12 = true := by kernel_rfl
theorem hb4 : hasBody Tryz.prog 4 = true := by kernel_rfl
theorem hb5 : hasBody Tryz.prog 5 = true := by kernel_rfl
theorem hb6 : hasBody Tryz.prog 6 = true := by kernel_rfl
theorem hb7 : hasBody Tryz.prog 7 = true := by kernel_rfl
theorem hb8 : hasBody Tryz.prog 8 = true := by kernel_rfl
theorem hb9 : hasBody Tryz.prog 9 = true := by kernel_rfl
theorem ta24 : tyAgg Tryz.prog 24 = some (true, 2) := by kernel_rfl
theorem lawBestTree_c (vars : Int) (L : List (List Int)) (hv : -9223372036854775808 ≤ vars ∧ vars ≤ 9223372036854775807) (hlen : ∀ i, ((gl L i).length : Int) ≤ 9223372036854775807) (hL : (L.length : Int) ≤ 9223372036854775807) (hbb : ∀ i j, -9223372036854775808 ≤ gd (gl L i) j ∧ gd (gl L i) j ≤ 9223372036854775807) : ACall Tryz.prog 3 [.agg [.int .i64 vars, .sl (sls L) L.length]] [] (.bool true) [] := by
 have hpl := btR_len vars L
 refine ACall.intro Tryz.func3 rfl (N := 96) rfl (by decide) (by simp) ?_
 refine a_seq ?_
 refine a_region ?_
 refine rn (v := .op [.int _ _, .sl _ _]) (q_box il rfl rfl) ?_
 refine rv (v := .bool _) (v_assign il nf) ?_
 refine r_nil ?_
 refine a_seq ?_
 refine a_region ?_
 refine rv (v := .int _ _) (v_assign il nf) ?_
 refine r_nil ?_
 refine a_seq ?_
 refine a_region ?_
 refine rv (v := .agg [.int _ _, .sl _ _]) (v_load_rpa1 ta24 il rfl rfl (fun _ => rfl) rfl) ?_
 refine rv (v := .int _ _) (v_move il nf) ?_
 refine rn (v := .int _ _) (q_call (vs := [.agg [.int _ _, .sl _ _], .int _ _]) (args := [.agg [.int .i64 _, .sl _ _], .int .i64 _]) hb4 ⟨il, il, trivial⟩ rfl (fun hA => szCnf_c _ _ _ (by omega) hlen hL) rfl rfl) ?_
 refine rv (v := .int _ _) (v_assign il nf) ?_
 refine r_nil ?_
 refine a_seq ?_
 refine a_seq ?_
 refine a_region ?_
 refine rv (v := .int _ _) (v_move il nf) ?_
 refine rv (v := .bool _) (v_lss il il) ?_
 refine r_nil ?_
 refine a_cond rfl (fun ht18 => ?_) (fun ht18 => ?_)
 ·
  skip
  refine a_seq ?_
  refine a_region ?_
  refine rv (v := .bool _) (v_assign il nf) ?_
  refine r_nil ?_
  refine a_ret ?_
  refine ret1 Tryz.results3 (by decide) (by decide) (Weak.of_eq (bool_eq ?_)) rfl Leaves.nil
  first | rfl | (exfalso; simp at ht18; done) | (exfalso; simp at ht18; omega)
 ·
  skip
  refine a_skip ?_
  refine a_seq ?_
  have hsz : L.length + tot L L.length ≤ 1048576 := (by have h9 := of_decide_eq_false ht18; unfold szR at h9; split at h9 <;> omega)
  have hk : CnfOk vars L := ⟨hv, by omega, by omega, hbb⟩
  have hll := fun i => len_tot (L := L) (i := i)
  refine a_region ?_
  refine rv (v := .agg [.int _ _, .sl _ _]) (v_load_rpa1 ta24 il rfl rfl (fun _ => rfl) rfl) ?_
  refine rn (v := .agg [.int _ _, .osl _ _ _ _]) (q_call (vs := [.agg [.int _ _, .sl _ _]]) (args := [.agg [.int .i64 _, .sl _ _]]) hb6 ⟨il, trivial⟩ rfl (fun hA => toCnf_c _ _ (by omega) (by omega)) (by simp [noSh, noShL, osls_noSh]) (by simp [noRef, noRefL, osls_noRef])) ?_
  refine rn (v := .tup [.osl _ _ _ _, .bool _]) (q_call (vs := [.agg [.int _ _, .rsl _ _ _ _ _]]) (args := [.agg [.int .i64 _, .sl _ _]]) hb5 ⟨il, trivial⟩ (l1_eq (agg_eq (l2_eq rfl sl_osls))) (fun hA => sBst_c vars L hk) (by simp [noSh, noShL, tn_noSh]) (by simp [noRef, noRefL, tn_noRef])) ?_
  refine rv (v := .tup [.rsl _ _ _ _ _, .bool _]) (v_mv rfl) ?_
  refine rv (v := .rsl _ _ _ _ _) (v_extract rfl rfl) ?_
  refine rv (v := .bool _) (v_extract rfl rfl) ?_
  refine rv (v := .rsl _ _ _ _ _) (v_assign il nf) ?_
  refine r_pre (ent_reloc_sl (t := 4) rfl rfl) ?_
  refine rv (v := .bool _) (v_assign il nf) ?_
  refine r_nil ?_
  refine a_seq ?_
  refine a_pre (ent_look (L := [(1, .op [.int _ _, .sl _ _]), (2, .bool _), (4, .osl _ _ _ _), (5, .bool _)]) ⟨Weak.rfl, Weak.rfl, Weak.rfl, Weak.rfl, trivial⟩) ?_
  refine a_region ?_
  refine rv (v := .agg [.int _ _, .sl _ _]) (v_load_rpa1 ta24 il rfl rfl (fun _ => rfl) rfl) ?_
  refine rn (v := .agg [.int _ _, .osl _ _ _ _]) (q_call (vs := [.agg [.int _ _, .sl _ _]]) (args := [.agg [.int .i64 _, .sl _ _]]) hb6 ⟨il, trivial⟩ rfl (fun hA => toCnf_c _ _ (by omega) (by omega)) (by simp [noSh, noShL, osls_noSh]) (by simp [noRef, noRefL, osls_noRef])) ?_
  refine rn (v := .op [.int _ _, .nils]) (q_alloc zc29) ?_
  refine r_step rfl (o_store_own (v := .agg [.int _ _, .osl _ _ _ _]) (y' := .op [.int _ _, .osl _ _ _ _]) rfl rfl ta29 (.inl rfl) (by decide) rfl (by decide) rfl (by simp [cellsOf, noRefL, noRef, osls_noRef]) rfl rfl rfl rfl rfl (Nat.le_of_ble_eq_true rfl) rfl rfl) ?_
  refine r_nil ?_
  refine a_seq ?_
  refine a_region ?_
  refine rv (v := .agg [.int _ _, .rsl _ _ _ _ _]) (v_load_rpa (xs := [.int _ _, .osl _ _ _ _]) ta29 il rfl rfl (fun _ => take_get rfl)) ?_
  refine rn (v := .tup [.osl _ _ _ _, .bool _]) (q_call (vs := [.agg [.int _ _, .rsl _ _ _ _ _]]) (args := [.agg [.int .i64 _, .sl _ _]]) hb7 ⟨il, trivial⟩ (l1_eq (agg_eq (l2_eq rfl sl_osls))) (fun hA => iBst_c vars L hk) (by simp [noSh, noShL, tn_noSh]) (by simp [noRef, noRefL, tn_noRef])) ?_
  refine rv (v := .tup [.rsl _ _ _ _ _, .bool _]) (v_mv rfl) ?_
  refine rv (v := .rsl _ _ _ _ _) (v_extract rfl rfl) ?_
  refine rv (v := .bool _) (v_extract rfl rfl) ?_
  refine rv (v := .rsl _ _ _ _ _) (v_assign il nf) ?_
  refine r_pre (ent_reloc_sl (t := 7) rfl rfl) ?_
  refine rv (v := .bool _) (v_assign il nf) ?_
  refine r_nil ?_
  refine a_seq ?_
  refine a_seq ?_
  refine a_pre (ent_look (L := [(1, .op [.int _ _, .sl _ _]), (2, .bool _), (4, .osl _ _ _ _), (5, .bool _), (6, .op [.int _ _, .osl _ _ _ _]), (7, .osl _ _ _ _), (8, .bool _)]) ⟨Weak.rfl, Weak.rfl, Weak.rfl, Weak.rfl, Weak.rfl, Weak.rfl, Weak.rfl, trivial⟩) ?_
  refine a_region ?_
  refine rv (v := .rsl _ _ _ _ _) (v_move il nf) ?_
  refine rv (v := .rsl _ _ _ _ _) (v_move il nf) ?_
  refine rn (v := .bool _) (q_call (vs := [.rsl _ _ _ _ _, .rsl _ _ _ _ _]) (args := [.sl _ _, .sl _ _]) hb8 ⟨il, il, trivial⟩ (l2_eq (sl_sh (tn_pure _)) (sl_sh (tn_pure _))) (fun hA => eqTNS_c _ _ (by omega) (by omega)) rfl rfl) ?_
  refine rv (v := .bool _) (v_not il) ?_
  refine rv (v := .bool _) (v_move il nf) ?_
  refine r_gval (v := .bool _) (v_move il nf) rfl rfl rfl (by decide) (.inl ⟨_, rfl, rfl⟩) rfl (by decide) ?_
  refine r_gval (v := .bool _) (v_move il nf) rfl rfl rfl (by decide) (.inl ⟨_, rfl, rfl⟩) rfl (by decide) ?_
  refine r_gval (v := .bool _) (v_bne un4 (.inr ⟨_, rfl, fun h => h⟩) (.inr ⟨_, rfl, fun h => h⟩)) rfl rfl rfl (by decide) (.inl ⟨_, rfl, rfl⟩) rfl (by decide) ?_
  refine rv (v := .bool _) (v_pick (.inl rfl) (.inl rfl) (.inr ⟨_, rfl, fun h h2 => by simp_all⟩)) ?_
  refine r_nil ?_
  refine a_cond rfl (fun ht40 => ?_) (fun ht40 => ?_)
  ·
   skip
   refine a_seq ?_
   refine a_pre (ent_look (L := [(1, .op [.int _ _, .sl _ _]), (2, .bool _), (4, .osl _ _ _ _), (5, .bool _), (6, .op [.int _ _, .osl _ _ _ _]), (7, .osl _ _ _ _), (8, .bool _)]) ⟨Weak.rfl, Weak.rfl, Weak.rfl, Weak.rfl, Weak.rfl, Weak.rfl, Weak.rfl, trivial⟩) ?_
   refine a_region ?_
   refine rv (v := .bool _) (v_assign il nf) ?_
   refine r_nil ?_
   refine a_ret ?_
   refine ret1 Tryz.results3 (by decide) (by decide) (Weak.of_eq (bool_eq ?_)) rfl Leaves.nil
   first | rfl | (exfalso; simp at ht40; done) | (exfalso; simp at ht40; omega)
  ·
   skip
   refine a_skip ?_
   refine a_seq ?_
   refine a_seq ?_
   refine a_pre (ent_look (L := [(1, .op [.int _ _, .sl _ _]), (2, .bool _), (4, .osl _ _ _ _), (5, .bool _), (6, .op [.int _ _, .osl _ _ _ _]), (7, .osl _ _ _ _), (8, .bool _)]) ⟨Weak.rfl, Weak.rfl, Weak.rfl, Weak.rfl, Weak.rfl, Weak.rfl, Weak.rfl, trivial⟩) ?_
   refine a_region_any mixed (by kernel_rfl) ?_
   refine yv (v := .agg [.int _ _, .rsl _ _ _ _ _]) (v_load_rpa (xs := [.int _ _, .osl _ _ _ _]) ta29 il rfl rfl (fun _ => take_get rfl)) ?_
   refine yv (v := .agg [.int _ _, .sl _ _]) (v_load_rpa1 ta24 il rfl rfl (fun _ => rfl) rfl) ?_
   refine y_new (v := .agg [.int _ _, .osl _ _ _ _]) (q_call (vs := [.agg [.int _ _, .sl _ _]]) (args := [.agg [.int .i64 _, .sl _ _]]) hb6 ⟨.inl rfl, trivial⟩ rfl (fun hA => toCnf_c _ _ (by omega) (by omega)) (by simp [noSh, noShL, osls_noSh]) (by simp [noRef, noRefL, osls_noRef])) rfl rfl (by decide) (by kernel_rfl) ?_
   refine y_new (v := .bool _) (q_call (vs := [.agg [.int _ _, .rsl _ _ _ _ _], .agg [.int _ _, .rsl _ _ _ _ _]]) (args := [.agg [.int .i64 _, .sl _ _], .agg [.int .i64 _, .sl _ _]]) hb9 ⟨.inl rfl, .inl rfl, trivial⟩ (l2_eq (agg_eq (l2_eq rfl sl_osls)) (agg_eq (l2_eq rfl sl_osls))) (fun hA => eqCnf_c _ _ _ _ (by omega) (by omega) (fun i => by first | (have := hrl i; omega) | (have := hll i; omega))) rfl rfl) rfl rfl (by decide) (by kernel_rfl) ?_
   refine yv (v := .bool _) (v_not il) ?_
   refine y_nil ?_
   refine a_cond rfl (fun ht45 => ?_) (fun ht45 => ?_)
   ·
    skip
    refine a_seq ?_
    refine a_region ?_
    refine rv (v := .bool _) (v_assign il nf) ?_
    refine r_nil ?_
    refine a_ret ?_
    refine ret1 Tryz.results3 (by decide) (by decide) (Weak.of_eq (bool_eq ?_)) rfl Leaves.nil
    first | rfl | (exfalso; simp at ht45; done) | (exfalso; simp at ht45; omega)
   ·
    skip
    refine a_skip ?_
    refine a_seq ?_
    refine a_region ?_
    refine rv (v := .int _ _) (v_assign il nf) ?_
    refine r_nil ?_
    refine a_seq ?_
    refine a_region ?_
    refine rv (v := .agg [.int _ _, .rsl _ _ _ _ _]) (v_load_rpa (xs := [.int _ _, .osl _ _ _ _]) ta29 il rfl rfl (fun _ => take_get rfl)) ?_
    refine rv (v := .int _ _) (v_move il nf) ?_
    refine r_step rfl (o_callIO (q := (6, [1])) (vs := [.agg [.int _ _, .rsl _ _ _ _ _], .int _ _]) (args := [.agg [.int .i64 _, .rsl (INH, []) _ _ _ _], .int .i64 _]) (x0 := .osl _ _ _ _) (x1 := .osl _ _ _ _) (res := .int _ _) rfl hb10 rfl (by decide) ⟨.inl rfl, .inl rfl, trivial⟩ rfl rfl (markCnf_c _ _ _ (by omega) (by omega) (by omega)) rfl rfl rfl (osls_noSh _) (osls_noRef _) (Nat.le_of_ble_eq_true rfl) (by decide) rfl) ?_
    refine rv (v := .int _ _) (v_assign il nf) ?_
    refine r_nil ?_
    refine a_seq ?_
    refine a_seq ?_
    refine a_pre (ent_look (L := [(1, .op [.int _ _, .sl _ _]), (2, .bool _), (4, .osl _ _ _ _), (5, .bool _), (7, .osl _ _ _ _), (8, .bool _), (9, .int _ _)]) ⟨Weak.rfl, Weak.rfl, Weak.rfl, Weak.rfl, Weak.rfl, Weak.rfl, Weak.rfl, trivial⟩) ?_
    refine a_region ?_
    refine rv (v := .int _ _) (v_move il nf) ?_
    refine rv (v := .bool _) (v_lss il il) ?_
    refine rv (v := .bool _) (v_move il nf) ?_
    refine r_gval (v := .rsl _ _ _ _ _) (v_move il nf) rfl rfl rfl (by decide) (.inl ⟨_, rfl, rfl⟩) rfl (by decide) ?_
    refine r_gval (v := .rsl _ _ _ _ _) (v_move il nf) rfl rfl rfl (by decide) (.inl ⟨_, rfl, rfl⟩) rfl (by decide) ?_
    refine r_guard (v := .bool _) (q_call (vs := [.rsl _ _ _ _ _, .rsl _ _ _ _ _]) (args := [.sl _ _, .sl _ _]) hb8 ⟨.inr ⟨_, rfl, fun h => h⟩, .inr ⟨_, rfl, fun h => h⟩, trivial⟩ (l2_eq (sl_sh (tn_pure _)) (sl_sh (tn_pure _))) (fun hA => eqTNS_c _ _ (by omega) (by omega)) rfl rfl) rfl rfl rfl (by decide) (.inl ⟨_, rfl, rfl⟩) rfl (by decide) ?_
    refine r_gval (v := .bool _) (v_not (.inr ⟨_, rfl, fun h => h⟩)) rfl rfl rfl (by decide) (.inl ⟨_, rfl, rfl⟩) rfl (by decide) ?_
    refine rv (v := .bool _) (v_pick (.inl rfl) (.inl rfl) (.inr ⟨_, rfl, fun h h2 => by simp_all⟩)) ?_
    refine rv (v := .bool _) (v_move il nf) ?_
    refine r_gval (v := .bool _) (v_move il nf) rfl rfl rfl (by decide) (.inl ⟨_, rfl, rfl⟩) rfl (by decide) ?_
    refine r_gval (v := .bool _) (v_move il nf) rfl rfl rfl (by decide) (.inl ⟨_, rfl, rfl⟩) rfl (by decide) ?_
    refine r_gval (v := .bool _) (v_bne un4 (.inr ⟨_, rfl, fun h => h⟩) (.inr ⟨_, rfl, fun h => h⟩)) rfl rfl rfl (by decide) (.inl ⟨_, rfl, rfl⟩) rfl (by decide) ?_
    refine rv (v := .bool _) (v_pick (.inl rfl) (.inl rfl) (.inr ⟨_, rfl, fun h h2 => by simp_all⟩)) ?_
    refine r_nil ?_
    refine a_cond rfl (fun ht61 => ?_) (fun ht61 => ?_)
    ·
     skip
     refine a_seq ?_
     refine a_pre (ent_look (L := [(1, .op [.int _ _, .sl _ _]), (2, .bool _), (4, .osl _ _ _ _), (5, .bool _), (7, .osl _ _ _ _)]) ⟨Weak.rfl, Weak.rfl, Weak.rfl, Weak.rfl, Weak.rfl, trivial⟩) ?_
     refine a_region ?_
     refine rv (v := .bool _) (v_assign il nf) ?_
     refine r_nil ?_
     refine a_ret ?_
     refine ret1 Tryz.results3 (by decide) (by decide) (Weak.of_eq (bool_eq ?_)) rfl Leaves.nil
     first | rfl | (exfalso; simp at ht61; done) | (exfalso; simp at ht61; omega)
    ·
     skip
     refine a_skip ?_
     refine a_seq ?_
     refine a_pre (ent_look (L := [(1, .op [.int _ _, .sl _ _]), (2, .bool _), (4, .osl _ _ _ _), (5, .bool _), (7, .osl _ _ _ _)]) ⟨Weak.rfl, Weak.rfl, Weak.rfl, Weak.rfl, Weak.rfl, trivial⟩) ?_
     refine a_region ?_
     refine rv (v := .int _ _) (v_assign il nf) ?_
     refine r_nil ?_
     refine a_seq ?_
     refine a_region ?_
     refine rv (v := .rsl _ _ _ _ _) (v_move il nf) ?_
     refine rv (v := .int _ _) (v_move il nf) ?_
     refine r_step rfl (o_callIO (q := (7, [])) (vs := [.rsl _ _ _ _ _, .int _ _]) (args := [.rsl (INH, []) _ _ _ _, .int .i64 _]) (x0 := .osl _ _ _ _) (x1 := .osl _ _ _ _) (res := .int _ _) rfl hb11 rfl (by decide) ⟨.inl rfl, .inl rfl, trivial⟩ rfl rfl (markTN_c _ _ (by omega)) rfl rfl rfl (ic_noSh _) (ic_noRef _) (Nat.le_of_ble_eq_true rfl) (by decide) rfl) ?_
     refine rv (v := .int _ _) (v_assign il nf) ?_
     refine r_nil ?_
     refine a_seq ?_
     refine a_region ?_
     refine rv (v := .int _ _) (v_assign il nf) ?_
     refine r_nil ?_
     refine a_seq ?_
     refine a_region ?_
     refine rv (v := .rsl _ _ _ _ _) (v_move il nf) ?_
     refine rv (v := .int _ _) (v_move il nf) ?_
     refine rn (v := .int _ _) (q_call (vs := [.rsl _ _ _ _ _, .int _ _]) (args := [.sl _ _, .int .i64 _]) hb12 ⟨il, il, trivial⟩ (l2_eq (sl_sh (ic_pure _)) rfl) (fun hA => heldTN_c _ _ (by omega)) rfl rfl) ?_
     refine rv (v := .int _ _) (v_assign il nf) ?_
     refine r_nil ?_
     refine a_seq ?_
     refine a_seq ?_
     refine a_pre (ent_look (L := [(1, .op [.int _ _, .sl _ _]), (2, .bool _), (4, .osl _ _ _ _), (5, .bool _), (7, .osl _ _ _ _), (10, .int _ _), (11, .int _ _)]) ⟨Weak.rfl, Weak.rfl, Weak.rfl, Weak.rfl, Weak.rfl, Weak.rfl, Weak.rfl, trivial⟩) ?_
     refine a_region ?_
     refine rv (v := .int _ _) (v_move il nf) ?_
     refine rv (v := .bool _) (v_lss il il) ?_
     refine r_nil ?_
     refine a_cond rfl (fun ht69 => ?_) (fun ht69 => ?_)
     ·
      skip
      refine a_seq ?_
      refine a_region ?_
      refine rv (v := .bool _) (v_assign il nf) ?_
      refine r_nil ?_
      refine a_ret ?_
      refine ret1 Tryz.results3 (by decide) (by decide) (Weak.of_eq (bool_eq ?_)) rfl Leaves.nil
      first | rfl | (exfalso; simp at ht69; done) | (exfalso; simp at ht69; omega)
     ·
      skip
      refine a_skip ?_
      refine a_seq ?_
      refine a_seq ?_
      refine a_region ?_
      refine rv (v := .int _ _) (v_move il nf) ?_
      refine rv (v := .int _ _) (v_move il nf) ?_
      refine rv (v := .bool _) (v_neq il il) ?_
      refine r_nil ?_
      refine a_cond rfl (fun ht72 => ?_) (fun ht72 => ?_)
      ·
       skip
       refine a_seq ?_
       refine a_region ?_
       refine rv (v := .bool _) (v_assign il nf) ?_
       refine r_nil ?_
       refine a_ret ?_
       refine ret1 Tryz.results3 (by decide) (by decide) (Weak.of_eq (bool_eq ?_)) rfl Leaves.nil
       first | rfl | (exfalso; simp at ht72; done) | (exfalso; simp at ht72; omega)
      ·
       skip
       refine a_skip ?_
       refine a_seq ?_
       refine a_region ?_
       refine rv (v := .agg [.int _ _, .sl _ _]) (v_load_rpa1 ta24 il rfl rfl (fun _ => rfl) rfl) ?_
       refine rn (v := .agg [.int _ _, .osl _ _ _ _]) (q_call (vs := [.agg [.int _ _, .sl _ _]]) (args := [.agg [.int .i64 _, .sl _ _]]) hb6 ⟨il, trivial⟩ rfl (fun hA => toCnf_c _ _ (by omega) (by omega)) (by simp [noSh, noShL, osls_noSh]) (by simp [noRef, noRefL, osls_noRef])) ?_
       refine rn (v := .tup [.osl _ _ _ _, .bool _]) (q_call (vs := [.agg [.int _ _, .rsl _ _ _ _ _]]) (args := [.agg [.int .i64 _, .sl _ _]]) hb7 ⟨il, trivial⟩ (l1_eq (agg_eq (l2_eq rfl sl_osls))) (fun hA => iBst_c vars L hk) (by simp [noSh, noShL, tn_noSh]) (by simp [noRef, noRefL, tn_noRef])) ?_
       refine rv (v := .tup [.rsl _ _ _ _ _, .bool _]) (v_mv rfl) ?_
       refine rv (v := .rsl _ _ _ _ _) (v_extract rfl rfl) ?_
       refine rv (v := .bool _) (v_extract rfl rfl) ?_
       refine rv (v := .rsl _ _ _ _ _) (v_assign il nf) ?_
       refine r_pre (ent_reloc_sl (t := 12) rfl rfl) ?_
       refine rv (v := .bool _) (v_assign il nf) ?_
       refine r_nil ?_
       refine a_seq ?_
       refine a_seq ?_
       refine a_pre (ent_look (L := [(2, .bool _), (4, .osl _ _ _ _), (5, .bool _), (7, .osl _ _ _ _), (10, .int _ _), (11, .int _ _), (12, .osl _ _ _ _), (13, .bool _)]) ⟨Weak.rfl, Weak.rfl, Weak.rfl, Weak.rfl, Weak.rfl, Weak.rfl, Weak.rfl, Weak.rfl, trivial⟩) ?_
       refine a_region ?_
       refine rv (v := .rsl _ _ _ _ _) (v_move il nf) ?_
       refine rv (v := .rsl _ _ _ _ _) (v_move il nf) ?_
       refine rn (v := .bool _) (q_call (vs := [.rsl _ _ _ _ _, .rsl _ _ _ _ _]) (args := [.sl _ _, .sl _ _]) hb8 ⟨il, il, trivial⟩ (l2_eq (sl_sh (tn_pure _)) (sl_sh (tn_pure _))) (fun hA => eqTNS_c _ _ (by omega) (by omega)) rfl rfl) ?_
       refine rv (v := .bool _) (v_not il) ?_
       refine rv (v := .bool _) (v_move il nf) ?_
       refine r_gval (v := .bool _) (v_move il nf) rfl rfl rfl (by decide) (.inl ⟨_, rfl, rfl⟩) rfl (by decide) ?_
       refine r_gval (v := .bool _) (v_move il nf) rfl rfl rfl (by decide) (.inl ⟨_, rfl, rfl⟩) rfl (by decide) ?_
       refine r_gval (v := .bool _) (v_bne un4 (.inr ⟨_, rfl, fun h => h⟩) (.inr ⟨_, rfl, fun h => h⟩)) rfl rfl rfl (by decide) (.inl ⟨_, rfl, rfl⟩) rfl (by decide) ?_
       refine rv (v := .bool _) (v_pick (.inl rfl) (.inl rfl) (.inr ⟨_, rfl, fun h h2 => by simp_all⟩)) ?_
       refine r_nil ?_
       refine a_cond rfl (fun ht87 => ?_) (fun ht87 => ?_)
       ·
        skip
        refine a_seq ?_
        refine a_pre (ent_look (L := [(2, .bool _), (7, .osl _ _ _ _), (10, .int _ _), (11, .int _ _)]) ⟨Weak.rfl, Weak.rfl, Weak.rfl, Weak.rfl, trivial⟩) ?_
        refine a_region ?_
        refine rv (v := .bool _) (v_assign il nf) ?_
        refine r_nil ?_
        refine a_ret ?_
        refine ret1 Tryz.results3 (by decide) (by decide) (Weak.of_eq (bool_eq ?_)) rfl Leaves.nil
        first | rfl | (exfalso; simp at ht87; done) | (exfalso; simp at ht87; omega)
       ·
        skip
        refine a_skip ?_
        refine a_seq ?_
        refine a_pre (ent_look (L := [(2, .bool _), (7, .osl _ _ _ _), (10, .int _ _), (11, .int _ _)]) ⟨Weak.rfl, Weak.rfl, Weak.rfl, Weak.rfl, trivial⟩) ?_
        refine a_region ?_
        refine rv (v := .int _ _) (v_assign il nf) ?_
        refine r_nil ?_
        refine a_seq ?_
        refine a_region ?_
        refine rv (v := .rsl _ _ _ _ _) (v_move il nf) ?_
        refine rv (v := .int _ _) (v_move il nf) ?_
        refine rn (v := .int _ _) (q_call (vs := [.rsl _ _ _ _ _, .int _ _]) (args := [.sl _ _, .int .i64 _]) hb12 ⟨il, il, trivial⟩ (l2_eq (sl_sh (ic_pure _)) rfl) (fun hA => heldTN_c _ _ (by omega)) rfl rfl) ?_
        refine rv (v := .int _ _) (v_assign il nf) ?_
        refine r_nil ?_
        refine a_seq ?_
        refine a_seq ?_
        refine a_region ?_
        refine rv (v := .int _ _) (v_move il nf) ?_
        refine rv (v := .bool _) (v_lss il il) ?_
        refine r_nil ?_
        refine a_cond rfl (fun ht92 => ?_) (fun ht92 => ?_)
        ·
         skip
         refine a_seq ?_
         refine a_region ?_
         refine rv (v := .bool _) (v_assign il nf) ?_
         refine r_nil ?_
         refine a_ret ?_
         refine ret1 Tryz.results3 (by decide) (by decide) (Weak.of_eq (bool_eq ?_)) rfl Leaves.nil
         first | rfl | (exfalso; simp at ht92; done) | (exfalso; simp at ht92; omega)
        ·
         skip
         refine a_skip ?_
         refine a_seq ?_
         refine a_seq ?_
         refine a_region ?_
         refine rv (v := .int _ _) (v_move il nf) ?_
         refine rv (v := .int _ _) (v_move il nf) ?_
         refine rv (v := .bool _) (v_neq il il) ?_
         refine r_nil ?_
         refine a_cond rfl (fun ht95 => ?_) (fun ht95 => ?_)
         ·
          skip
          refine a_seq ?_
          refine a_pre (ent_look (L := [(2, .bool _)]) ⟨Weak.rfl, trivial⟩) ?_
          refine a_region ?_
          refine rv (v := .bool _) (v_assign il nf) ?_
          refine r_nil ?_
          refine a_ret ?_
          refine ret1 Tryz.results3 (by decide) (by decide) (Weak.of_eq (bool_eq ?_)) rfl Leaves.nil
          first | rfl | (exfalso; simp at ht95; done) | (exfalso; simp at ht95; omega)
         ·
          skip
          refine a_skip ?_
          refine a_seq ?_
          refine a_pre (ent_look (L := [(2, .bool _)]) ⟨Weak.rfl, trivial⟩) ?_
          refine a_region ?_
          refine rv (v := .bool _) (v_assign il nf) ?_
          refine r_nil ?_
          refine a_ret ?_
          refine ret1 Tryz.results3 (by decide) (by decide) (Weak.of_eq (bool_eq ?_)) rfl Leaves.nil
          first | rfl | (exfalso; simp at ht95; done) | (exfalso; simp at ht95; omega)
end Go.Av
namespace Go.Av
open Go
theorem bd64 {n : Int} (h : (Lit.int .i64 n).wf = true) : -9223372036854775808 ≤ n ∧ n ≤ 9223372036854775807 := bounds_i64 h
theorem len64 {n : Nat} (h : n ≤ maxLen) : (n : Int) ≤ 9223372036854775807 := by unfold maxLen at h; omega
theorem icells_flat (xs : List Int) : xs.flatMap (fun n => [AV.int .i64 n]) = icells xs := by
 induction xs with
 | nil => rfl
 | cons x xs ih => rw [List.flatMap_cons, ih]; rfl
end Go.Av
namespace Go.Av
open Go
theorem sls_flat (L : List (List Int)) : L.flatMap (fun c => [AV.sl (icells c) c.length]) = sls L := by
  induction L with
  | nil => rfl
  | cons c L ih => rw [List.flatMap_cons, ih]; rfl
theorem cnf_hyp {L : List (List Int)} (h : L.length ≤ maxLen ∧ ∀ y ∈ L, (y.length ≤ maxLen ∧ ∀ z ∈ y, (Lit.int .i64 z).wf = true ∧ ([AV.int .i64 z]).length = 1) ∧ ([AV.sl (y.flatMap fun z => [AV.int .i64 z]) y.length]).length = 1) :
    (∀ i, ((gl L i).length : Int) ≤ 9223372036854775807) ∧ (L.length : Int) ≤ 9223372036854775807 ∧ ∀ i j, -9223372036854775808 ≤ gd (gl L i) j ∧ gd (gl L i) j ≤ 9223372036854775807 := by
  refine ⟨fun i => ?_, len64 h.1, fun i => ?_⟩
  · rcases Nat.lt_or_ge i L.length with hi | hi
    · exact len64 (h.2 _ (gl_mem hi)).1.1
    · rw [gl_out hi]; simp
  · rcases Nat.lt_or_ge i L.length with hi | hi
    · exact gd_bd fun x hx => bd64 ((h.2 _ (gl_mem hi)).1.2 x hx).1
    · intro j; rw [gl_out hi]; simp [gd]
end Go.Av
namespace Go.Av
open Go Go.Proofs Go.Proofs.YtnlocliddcjplaaGreat
set_option maxRecDepth 100000
theorem arg24 : OpensV Tryz.prog 24 (fun x : (Int) × (List (List (Int))) => .agg (([AV.int .i64 x.1] ++ [AV.sl (x.2.flatMap fun y2 => [AV.sl (y2.flatMap fun y1 => [AV.int .i64 y1]) y2.length]) x.2.length]))) (fun x => (((Lit.int .i64 x.1).wf = true) ∧ ((x.2.length ≤ maxLen ∧ ∀ y2 ∈ x.2, (y2.length ≤ maxLen ∧ ∀ y1 ∈ y2, (Lit.int .i64 y1).wf = true ∧ ([AV.int .i64 y1]).length = 1) ∧ ([AV.sl (y2.flatMap fun y1 => [AV.int .i64 y1]) y2.length]).length = 1)))) :=
 opensV_agg (ok_agg (by rw [Tryz.underlying24])) (opens_struct Tryz.underlying24 (tot := (1 + 1)) (by kernel_rfl) (opensFs_cons rfl (by kernel_rfl) (opens_int Tryz.underlying3) (opensFs_one rfl (by kernel_rfl) (opens_slice (k := 1) Tryz.underlying22 (by kernel_rfl) (by decide) (opens_slice (k := 1) Tryz.underlying40 (by kernel_rfl) (by decide) (opens_int Tryz.underlying3) (fun _ => rfl)) (fun _ => rfl)))))
theorem rowOwn : ownKnob Tryz.prog.godebug = none := by kernel_rfl
theorem rowLaid : laidOutB Tryz.prog = true := by kernel_rfl
end Go.Av
