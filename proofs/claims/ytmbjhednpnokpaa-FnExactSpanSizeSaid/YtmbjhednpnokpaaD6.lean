/- Lemmas, part 6. -/
import Derived.Test.YtmbjhednpnokpaaD5
import Derived.RangeFuncLeaves
import Derived.RangeFuncRecord
import Derived.RangeFuncSeq
import Derived.RangeFuncBound
import Derived.Test.YtmbjhednpnokpaaRows
set_option linter.unusedVariables false
set_option linter.unusedSimpArgs false
namespace Go.Av
open Go Go.Proofs Go.Sort
set_option maxRecDepth 10000
theorem es57 : elemSize Try.prog 57 = some 3 := by kernel_rfl
theorem fo80_2 : fieldOff Try.prog 80 2 = some 2 := by kernel_rfl
theorem hb58 : hasBody Try.prog 58 = true := by kernel_rfl
theorem hb59 : hasBody Try.prog 59 = true := by kernel_rfl
theorem hb60 : hasBody Try.prog 60 = true := by kernel_rfl
theorem hb61 : hasBody Try.prog 61 = true := by kernel_rfl
theorem sp59 : structPl Try.prog 59 = some ([.nils, .nils, .nils, .nils], [(0, 1), (1, 1), (2, 1), (3, 1)]) := by kernel_rfl
theorem ta59 : tyAgg Try.prog 59 = some (true, 4) := by kernel_rfl
theorem ta80 : tyAgg Try.prog 80 = some (true, 3) := by kernel_rfl
theorem zc59 : zeroCells Try.prog 59 = some [.nils, .nils, .nils, .nils] := by kernel_rfl
theorem span19_c (p vars : Int) (L : List (List Int)) (d : Nat) (ha : aOk p vars L = true) (hd6 : d ≤ 6) (hk0 : CnfOk vars L) : ACall Try.prog 40 [.int .i64 p, .agg [.int .i64 vars, .sl (sls L) L.length], .int .i64 ((d : Nat) : Int)] [] (.agg [.osl 1 (osls (sQ p (prL p vars L d L.length) (prL p vars L d L.length).length).1) (sQ p (prL p vars L d L.length) (prL p vars L d L.length).length).1.length none, .osl 1 (icells (sQ p (prL p vars L d L.length) (prL p vars L d L.length).length).2.1) (sQ p (prL p vars L d L.length) (prL p vars L d L.length).length).2.1.length none, .osl 1 (osls (sQ p (prL p vars L d L.length) (prL p vars L d L.length).length).2.2) (sQ p (prL p vars L d L.length) (prL p vars L d L.length).length).2.2.length none, .osl 3 (prC (kQ p (prL p vars L d L.length) (prL p vars L d L.length).length)) (kQ p (prL p vars L d L.length) (prL p vars L d L.length).length).length none]) [] := by
 obtain ⟨hp, hc⟩ := aOk_spec ha
 have hpp := prime_spec hp
 have hcs := cnfB_spec hc
 have hd := dn_le hpp.2
 have hw := pow6 hpp.2
 have hdn := dn_cast vars
 have hp5 : p = 2 ∨ p = 3 ∨ p = 5 := prime_or hp
 have hdn64 : dn vars ≤ 64 := (dn_le hpp.2).2
 have hQ : ∀ q ∈ (prL p vars L d L.length), q.2.2.length = dn vars ∧ Bd p q.2.2 := fun q hq => prL_mem (by omega) hq
 have hQl : (prL p vars L d L.length).length ≤ 448 * L.length := prL_len hpp.2 hd6 L.length
 have hL60 := hcs.2.1
 refine ACall.intro Try.func40 rfl (N := 115) rfl (by decide) (by simp) ?_
 refine a_seq ?_
 refine a_region ?_
 refine rn (v := .op [.int _ _, .sl _ _]) (q_box il rfl rfl) ?_
 refine rn (v := .op [.nils, .nils, .nils, .nils]) (q_alloc zc59) ?_
 refine r_nil ?_
 refine a_seq ?_
 refine a_region ?_
 refine rv (v := .agg [.nils, .nils, .nils, .nils]) (v_build sp59 rfl rfl) ?_
 refine rn (v := .op [.nils, .nils, .nils, .nils]) (q_alloc zc59) ?_
 refine r_step rfl (o_store (v := .agg [.nils, .nils, .nils, .nils]) (y' := .op [.nils, .nils, .nils, .nils]) rfl rfl ta59 il il rfl rfl rfl rfl rfl rfl (Nat.le_of_ble_eq_true rfl) (by decide) rfl rfl) ?_
 refine r_nil ?_
 refine a_seq ?_
 refine a_region ?_
 refine rv (v := .int _ _) (v_move il nf) ?_
 refine rv (v := .agg [.int _ _, .sl _ _]) (v_load_rpa1 ta24 il rfl rfl (fun _ => rfl) rfl) ?_
 refine rv (v := .int _ _) (v_move il nf) ?_
 refine rn (v := .osl _ _ _ _) (q_callF (vs := [.int _ _, .agg [.int _ _, .sl _ _], .int _ _]) (args := [.int .i64 _, .agg [.int .i64 _, .sl _ _], .int .i64 _]) hb58 ⟨il, il, il, trivial⟩ rfl (fun hA => prods19_c p vars L d ha hd6 hk0) rfl (prC_noRef _)) ?_
 refine rv (v := .rsl _ _ _ _ _) (v_assign il nf) ?_
 refine r_pre (ent_reloc_sl (t := 8) rfl rfl) ?_
 refine r_nil ?_
 refine a_seq ?_
 refine a_seq ?_
 refine a_pre (ent_nil_at (t := 7) (r := [0]) (sz := 1) rfl (.inl rfl) rfl rfl) ?_
 refine a_pre (ent_nil_at (t := 7) (r := [1]) (sz := 1) rfl (.inl rfl) rfl rfl) ?_
 refine a_pre (ent_nil_at (t := 7) (r := [2]) (sz := 1) rfl (.inl rfl) rfl rfl) ?_
 refine a_pre (ent_nil_at (t := 7) (r := [3]) (sz := 3) rfl (.inl rfl) rfl rfl) ?_
 refine a_region ?_
 refine rv (v := .int _ _) (v_assign il nf) ?_
 refine r_nil ?_
 refine a_block ?_
 refine a_loop (X := Nat) (fun i => look [(0, .int .i64 p), (6, .op [.nils, .nils, .nils, .nils]), (7, .op [.osl 1 (osls (sQ p (prL p vars L d L.length) i).1) (sQ p (prL p vars L d L.length) i).1.length none, .osl 1 (icells (sQ p (prL p vars L d L.length) i).2.1) (sQ p (prL p vars L d L.length) i).2.1.length none, .osl 1 (osls (sQ p (prL p vars L d L.length) i).2.2) (sQ p (prL p vars L d L.length) i).2.2.length none, .osl 3 (prC (kQ p (prL p vars L d L.length) i)) (kQ p (prL p vars L d L.length) i).length none]), (8, .osl 3 (prC (prL p vars L d L.length)) (prL p vars L d L.length).length none), (9, .int .i64 ((i : Nat) : Int))]) (fun i => i ≤ (prL p vars L d L.length).length) (fun i => (prL p vars L d L.length).length - i) 0 (ent_look ⟨Weak.of_eq rfl, Weak.of_eq rfl, Weak.of_eq rfl, Weak.of_eq rfl, Weak.of_eq rfl, trivial⟩) (Nat.zero_le _) (fun i hG => ?_)
 have hrk := rankQ (i := i) hp5 hdn64 hQ hG
 obtain ⟨hS, hI, hSI, hSi⟩ := hrk
 have hkl := kQ_len (p := p) hG
 have hi26 := hQl
 refine a_seq ?_
 refine a_seq ?_
 refine a_region ?_
 refine rv (v := .int _ _) (v_move il nf) ?_
 refine rv (v := .rsl _ _ _ _ _) (v_move il nf) ?_
 refine rv (v := .int _ _) (v_len_rsl sl57 il) ?_
 refine rv (v := .bool _) (v_lss il il) ?_
 refine r_nil ?_
 refine a_cond rfl (fun ht24 => ?_) (fun ht24 => ?_)
 ·
  skip
  refine a_skip ?_
  refine a_seq ?_
  refine a_block ?_
  refine a_seq ?_
  have hi : i < (prL p vars L d L.length).length := (by simp at ht24; omega)
  obtain ⟨hx, hbx⟩ := hQ _ (pq_mem hi)
  have hlfl := lfS_len (p := p) (S := (sQ p (prL p vars L d L.length) i)) hx
  have hlfb := lfS_bd (S := (sQ p (prL p vars L d L.length) i)) (by omega) hbx
  have hmdl := mdS_len (p := p) (S := (sQ p (prL p vars L d L.length) i)) (x := (pq (prL p vars L d L.length) i).2.2)
  have hmdb := mdS_bd (p := p) (S := (sQ p (prL p vars L d L.length) i)) (x := (pq (prL p vars L d L.length) i).2.2) (by omega)
  have hld0 := leadS_cases (lfS p (sQ p (prL p vars L d L.length) i) (pq (prL p vars L d L.length) i).2.2)
  have hsc := sQ_succ (p := p) hi
  refine a_region_any mixed (by kernel_rfl) ?_
  refine yv (v := .int _ _) (v_move il nf) ?_
  refine yv (v := .agg [.rsl _ _ _ _ _, .rsl _ _ _ _ _, .rsl _ _ _ _ _, .rsl _ _ _ _ _]) (v_load_rpa (xs := [.osl _ _ _ _, .osl _ _ _ _, .osl _ _ _ _, .osl _ _ _ _]) ta59 il rfl rfl (fun _ => take_get rfl)) ?_
  refine yv (v := .rsl _ _ _ _ _) (v_move il nf) ?_
  refine yv (v := .int _ _) (v_move il nf) ?_
  refine yv (v := .rp _ _) (v_indexAddr_rsl0 es57 il il (fun _ => by omega)) ?_
  refine yv (v := .rp _ _) (v_fieldAddr_rp fo80_2 il) ?_
  refine yv (v := .sl (icells (pq (prL p vars L d L.length) i).2.2) (pq (prL p vars L d L.length) i).2.2.length) (v_load_rp1 ta42 il rfl (fun _ => by rw [show ((i : Nat) : Int).toNat * 3 + 2 = i * 3 + 2 from rfl]; exact prC_at hi) rfl) ?_
  refine y_new (v := .tup [.osl _ _ _ _, .osl _ _ _ _]) (q_call (vs := [.int _ _, .agg [.rsl _ _ _ _ _, .rsl _ _ _ _ _, .rsl _ _ _ _ _, .rsl _ _ _ _ _], .sl _ _]) (args := [.int .i64 _, .agg [.sl _ _, .sl _ _, .sl _ _, .sl _ _], .sl _ _]) hb59 ⟨.inl rfl, .inl rfl, .inl rfl, trivial⟩ (l3_eq rfl (agg_eq (l4_eq sl_osls (sl_sh (ic_pure _)) sl_osls (sl_sh (prC_pure _)))) rfl) (fun hA => reduce19_c p (sQ p (prL p vars L d L.length) i) (kQ p (prL p vars L d L.length) i) (pq (prL p vars L d L.length) i).2.2 (dn vars) ⟨by omega, by omega⟩ hS hkl hx hbx hdn64 (by omega)) (by simp [noSh, noShL, ic_noSh]) (by simp [noRef, noRefL, ic_noRef])) rfl rfl (by decide) (by kernel_rfl) ?_
  refine yv (v := .tup [.rsl _ _ _ _ _, .rsl _ _ _ _ _]) (v_mv rfl) ?_
  refine yv (v := .rsl _ _ _ _ _) (v_extract rfl rfl) ?_
  refine yv (v := .rsl _ _ _ _ _) (v_extract rfl rfl) ?_
  refine yv (v := .rsl _ _ _ _ _) (v_assign il nf) ?_
  refine yv (v := .rsl _ _ _ _ _) (v_assign il nf) ?_
  refine y_nil ?_
  refine a_seq ?_
  refine a_pre (ent_reloc_sl (t := 10) rfl rfl) ?_
  refine a_pre (ent_reloc_sl (t := 11) rfl rfl) ?_
  refine a_pre (ent_eq (t := 10) (v' := .osl 1 (icells (lfS p (sQ p (prL p vars L d L.length) i) (pq (prL p vars L d L.length) i).2.2)) (lfS p (sQ p (prL p vars L d L.length) i) (pq (prL p vars L d L.length) i).2.2).length none) (Weak.osl rfl hlfl.symm)) ?_
  refine a_region ?_
  refine rv (v := .rsl _ _ _ _ _) (v_move il nf) ?_
  refine rn (v := .int _ _) (q_call (vs := [.rsl _ _ _ _ _]) (args := [.sl _ _]) hb60 ⟨il, trivial⟩ (l1_eq (sl_sh (ic_pure _))) (fun hA => lead19_c (lfS p (sQ p (prL p vars L d L.length) i) (pq (prL p vars L d L.length) i).2.2) (by omega)) rfl rfl) ?_
  refine rv (v := .int _ _) (v_assign il nf) ?_
  refine r_nil ?_
  refine a_seq ?_
  refine a_seq ?_
  refine a_pre (ent_look (L := [(0, .int _ _), (6, .op [.nils, .nils, .nils, .nils]), (7, .op [.osl _ _ _ _, .osl _ _ _ _, .osl _ _ _ _, .osl _ _ _ _]), (8, .osl _ _ _ _), (9, .int _ _), (10, .osl _ _ _ _), (11, .osl _ _ _ _), (12, .int _ _)]) ⟨Weak.rfl, Weak.rfl, Weak.rfl, Weak.rfl, Weak.rfl, Weak.rfl, Weak.rfl, Weak.rfl, trivial⟩) ?_
  refine a_region ?_
  refine rv (v := .int _ _) (v_move il nf) ?_
  refine rv (v := .bool _) (v_lss il il) ?_
  refine r_nil ?_
  refine a_cond rfl (fun ht41 => ?_) (fun ht41 => ?_)
  ·
   skip
   refine a_exit ?_
   refine a_region ?_
   refine rv (v := .int _ _) (v_move il nf) ?_
   refine rv (v := .int _ _) (v_add il il (fun _ => by omega)) ?_
   refine rv (v := .int _ _) (v_assign il nf) ?_
   refine r_nil ?_
   have hng : (leadS (lfS p (sQ p (prL p vars L d L.length) i) (pq (prL p vars L d L.length) i).2.2)) < 0 := (by simpa using ht41)
   have hst : (sQ p (prL p vars L d L.length) (i + 1)) = (sQ p (prL p vars L d L.length) i) := hsc.trans (stS_no hng)
   have hkq : (kQ p (prL p vars L d L.length) (i + 1)) = (kQ p (prL p vars L d L.length) i) := (by rw [kQ, if_pos hng])
   refine ⟨i + 1, ent_look ⟨Weak.of_eq rfl, Weak.of_eq rfl, Weak.of_eq (by rw [hst, hkq]; rfl), Weak.of_eq rfl, Weak.of_eq (int_eq (by omega)), trivial⟩, by omega, by omega⟩
  ·
   skip
   refine a_skip ?_
   refine a_seq ?_
   have hng : ¬ (leadS (lfS p (sQ p (prL p vars L d L.length) i) (pq (prL p vars L d L.length) i).2.2)) < 0 := (by simpa using ht41)
   obtain ⟨m, q1, q2, q3, q4, q5, q6, q7⟩ := S_new hp5 hx hbx hng
   have hgq : 0 < gd (lfS p (sQ p (prL p vars L d L.length) i) (pq (prL p vars L d L.length) i).2.2) (leadS (lfS p (sQ p (prL p vars L d L.length) i) (pq (prL p vars L d L.length) i).2.2)).toNat ∧ gd (lfS p (sQ p (prL p vars L d L.length) i) (pq (prL p vars L d L.length) i).2.2) (leadS (lfS p (sQ p (prL p vars L d L.length) i) (pq (prL p vars L d L.length) i).2.2)).toNat < p := (by rw [q2, Int.toNat_natCast]; exact ⟨q3, q4⟩)
   have hsl : (scl p (ivS p (sQ p (prL p vars L d L.length) i) (pq (prL p vars L d L.length) i).2.2) (lfS p (sQ p (prL p vars L d L.length) i) (pq (prL p vars L d L.length) i).2.2)).length = (lfS p (sQ p (prL p vars L d L.length) i) (pq (prL p vars L d L.length) i).2.2).length := scl_length _ _ _
   have hsm : (sclM p (ivS p (sQ p (prL p vars L d L.length) i) (pq (prL p vars L d L.length) i).2.2) (mdS p (sQ p (prL p vars L d L.length) i) (pq (prL p vars L d L.length) i).2.2)).length = (mdS p (sQ p (prL p vars L d L.length) i) (pq (prL p vars L d L.length) i).2.2).length := sclM_length _ _ _
   refine a_region ?_
   refine rv (v := .int _ _) (v_move il nf) ?_
   refine rv (v := .rsl _ _ _ _ _) (v_move il nf) ?_
   refine rv (v := .int _ _) (v_move il nf) ?_
   refine rv (v := .rp _ _) (v_indexAddr_rsl0 es42 il il (fun _ => by omega)) ?_
   refine rv (v := .int .i64 (gd (lfS p (sQ p (prL p vars L d L.length) i) (pq (prL p vars L d L.length) i).2.2) (leadS (lfS p (sQ p (prL p vars L d L.length) i) (pq (prL p vars L d L.length) i).2.2)).toNat)) (v_load_rp1 ta3 il rfl (fun _ => by rw [Nat.mul_one]; exact icells_get (gd_get (by omega))) rfl) ?_
   refine rn (v := .int .i64 (ivS p (sQ p (prL p vars L d L.length) i) (pq (prL p vars L d L.length) i).2.2)) (q_call (vs := [.int _ _, .int _ _]) (args := [.int .i64 _, .int .i64 _]) hb61 ⟨il, il, trivial⟩ rfl (fun hA => inv19_c p _ hp5 hgq) rfl rfl) ?_
   refine rv (v := .int _ _) (v_assign il nf) ?_
   refine r_nil ?_
   refine a_seq ?_
   refine a_seq ?_
   refine a_region ?_
   refine rv (v := .int _ _) (v_assign il nf) ?_
   refine r_nil ?_
   refine a_block ?_
   refine a_loop (X := Nat) (fun k => look [(0, .int .i64 p), (6, .op [.nils, .nils, .nils, .nils]), (7, .op [.osl 1 (osls (sQ p (prL p vars L d L.length) i).1) (sQ p (prL p vars L d L.length) i).1.length none, .osl 1 (icells (sQ p (prL p vars L d L.length) i).2.1) (sQ p (prL p vars L d L.length) i).2.1.length none, .osl 1 (osls (sQ p (prL p vars L d L.length) i).2.2) (sQ p (prL p vars L d L.length) i).2.2.length none, .osl 3 (prC (kQ p (prL p vars L d L.length) i)) (kQ p (prL p vars L d L.length) i).length none]), (8, .osl 3 (prC (prL p vars L d L.length)) (prL p vars L d L.length).length none), (9, .int .i64 ((i : Nat) : Int)), (10, .osl 1 (icells (mixL (scl p (ivS p (sQ p (prL p vars L d L.length) i) (pq (prL p vars L d L.length) i).2.2) (lfS p (sQ p (prL p vars L d L.length) i) (pq (prL p vars L d L.length) i).2.2)) (lfS p (sQ p (prL p vars L d L.length) i) (pq (prL p vars L d L.length) i).2.2) k)) (dn vars) none), (11, .osl 1 (icells (mdS p (sQ p (prL p vars L d L.length) i) (pq (prL p vars L d L.length) i).2.2)) (sQ p (prL p vars L d L.length) i).1.length none), (12, .int .i64 (leadS (lfS p (sQ p (prL p vars L d L.length) i) (pq (prL p vars L d L.length) i).2.2))), (13, .int .i64 (ivS p (sQ p (prL p vars L d L.length) i) (pq (prL p vars L d L.length) i).2.2)), (14, .int .i64 ((k : Nat) : Int))]) (fun k => k ≤ dn vars) (fun k => dn vars - k) 0 (ent_look ⟨Weak.of_eq rfl, Weak.of_eq rfl, Weak.of_eq rfl, Weak.of_eq rfl, Weak.of_eq rfl, Weak.osl (by rw [mixL_zero]) hlfl, Weak.of_eq rfl, Weak.of_eq rfl, Weak.of_eq rfl, Weak.of_eq rfl, trivial⟩) (Nat.zero_le _) (fun k hG => ?_)
   refine a_seq ?_
   refine a_seq ?_
   refine a_region ?_
   refine rv (v := .int _ _) (v_move il nf) ?_
   refine rv (v := .rsl _ _ _ _ _) (v_move il nf) ?_
   refine rv (v := .int _ _) (v_len_rsl sl42 il) ?_
   refine rv (v := .bool _) (v_lss il il) ?_
   refine r_nil ?_
   refine a_cond rfl (fun ht51 => ?_) (fun ht51 => ?_)
   ·
    skip
    refine a_skip ?_
    refine a_seq ?_
    refine a_block ?_
    have hk : k < dn vars := (by simp at ht51; omega)
    have hgm : gd (mixL (scl p (ivS p (sQ p (prL p vars L d L.length) i) (pq (prL p vars L d L.length) i).2.2) (lfS p (sQ p (prL p vars L d L.length) i) (pq (prL p vars L d L.length) i).2.2)) (lfS p (sQ p (prL p vars L d L.length) i) (pq (prL p vars L d L.length) i).2.2) k) k = gd (lfS p (sQ p (prL p vars L d L.length) i) (pq (prL p vars L d L.length) i).2.2) k := (by rw [gd_mixL hsl, if_neg (by omega)])
    have hmul := mul_bd (hlfb k) (b := (ivS p (sQ p (prL p vars L d L.length) i) (pq (prL p vars L d L.length) i).2.2)) ⟨by omega, q7⟩ (by omega)
    have hpl : k * 1 + 1 ≤ (icells (mixL (scl p (ivS p (sQ p (prL p vars L d L.length) i) (pq (prL p vars L d L.length) i).2.2) (lfS p (sQ p (prL p vars L d L.length) i) (pq (prL p vars L d L.length) i).2.2)) (lfS p (sQ p (prL p vars L d L.length) i) (pq (prL p vars L d L.length) i).2.2) k)).length := (by rw [icells_length, mixL_length hsl]; omega)
    have hset : (icells (mixL (scl p (ivS p (sQ p (prL p vars L d L.length) i) (pq (prL p vars L d L.length) i).2.2) (lfS p (sQ p (prL p vars L d L.length) i) (pq (prL p vars L d L.length) i).2.2)) (lfS p (sQ p (prL p vars L d L.length) i) (pq (prL p vars L d L.length) i).2.2) k)).set (k * 1) (.int .i64 (gd (lfS p (sQ p (prL p vars L d L.length) i) (pq (prL p vars L d L.length) i).2.2) k * (ivS p (sQ p (prL p vars L d L.length) i) (pq (prL p vars L d L.length) i).2.2) % p)) = icells (mixL (scl p (ivS p (sQ p (prL p vars L d L.length) i) (pq (prL p vars L d L.length) i).2.2) (lfS p (sQ p (prL p vars L d L.length) i) (pq (prL p vars L d L.length) i).2.2)) (lfS p (sQ p (prL p vars L d L.length) i) (pq (prL p vars L d L.length) i).2.2) (k + 1)) := (by rw [Nat.mul_one, icells_set, ← gd_scl, mixL_set hsl (by omega)])
    refine a_region ?_
    refine rv (v := .rsl _ _ _ _ _) (v_move il nf) ?_
    refine rv (v := .int _ _) (v_move il nf) ?_
    refine rv (v := .rsl _ _ _ _ _) (v_move il nf) ?_
    refine rv (v := .int _ _) (v_move il nf) ?_
    refine rv (v := .rp _ _) (v_indexAddr_rsl0 es42 il il (fun _ => by omega)) ?_
    refine rv (v := .int .i64 (gd (lfS p (sQ p (prL p vars L d L.length) i) (pq (prL p vars L d L.length) i).2.2) k)) (v_load_rp1 ta3 il rfl (fun _ => by rw [Nat.mul_one, ← hgm]; exact icells_get (gd_get (by rw [mixL_length hsl]; omega))) rfl) ?_
    refine rv (v := .int _ _) (v_move il nf) ?_
    refine rv (v := .int _ _) (v_mul il il (fun _ => by omega)) ?_
    refine rv (v := .int _ _) (v_move il nf) ?_
    refine rv (v := .int _ _) (v_rem il il (fun _ => ⟨by omega, by omega⟩)) ?_
    refine rv (v := .rp _ _) (v_indexAddr_rsl0 es42 il il (fun _ => by omega)) ?_
    refine r_step rfl (o_store (v := .int _ _) (y' := .osl _ _ _ _) rfl rfl ta3 il il rfl rfl rfl rfl rfl rfl hpl (by decide) rfl (congrArg (fun c => AV.osl 1 c (dn vars) none) hset)) ?_
    refine r_nil ?_
    refine a_pre (ent_look (L := [(0, .int _ _), (6, .op [.nils, .nils, .nils, .nils]), (7, .op [.osl _ _ _ _, .osl _ _ _ _, .osl _ _ _ _, .osl _ _ _ _]), (8, .osl _ _ _ _), (9, .int _ _), (10, .osl _ _ _ _), (11, .osl _ _ _ _), (12, .int _ _), (13, .int _ _), (14, .int _ _)]) ⟨Weak.rfl, Weak.rfl, Weak.rfl, Weak.rfl, Weak.rfl, Weak.rfl, Weak.rfl, Weak.rfl, Weak.rfl, Weak.rfl, trivial⟩) ?_
    refine a_region ?_
    refine rv (v := .int _ _) (v_move il nf) ?_
    refine rv (v := .int _ _) (v_add il il (fun _ => by omega)) ?_
    refine rv (v := .int _ _) (v_assign il nf) ?_
    refine r_nil ?_
    refine ⟨k + 1, ent_look ⟨Weak.of_eq rfl, Weak.of_eq rfl, Weak.of_eq rfl, Weak.of_eq rfl, Weak.of_eq rfl, Weak.of_eq rfl, Weak.of_eq rfl, Weak.of_eq rfl, Weak.of_eq rfl, Weak.of_eq (int_eq (by omega)), trivial⟩, by omega, by omega⟩
   ·
    skip
    refine a_exit ?_
    refine a_seq ?_
    refine a_seq ?_
    have hkd : dn vars ≤ k := (by simp at ht51; omega)
    refine a_pre (ent_eq (t := 10) (v' := .osl 1 (icells (scl p (ivS p (sQ p (prL p vars L d L.length) i) (pq (prL p vars L d L.length) i).2.2) (lfS p (sQ p (prL p vars L d L.length) i) (pq (prL p vars L d L.length) i).2.2))) (scl p (ivS p (sQ p (prL p vars L d L.length) i) (pq (prL p vars L d L.length) i).2.2) (lfS p (sQ p (prL p vars L d L.length) i) (pq (prL p vars L d L.length) i).2.2)).length none) (Weak.osl (by rw [mixL_full hsl (by omega)]) (by rw [hsl, hlfl]))) ?_
    refine a_region ?_
    refine rv (v := .int _ _) (v_assign il nf) ?_
    refine r_nil ?_
    refine a_block ?_
    refine a_loop (X := Nat) (fun k => look [(0, .int .i64 p), (6, .op [.nils, .nils, .nils, .nils]), (7, .op [.osl 1 (osls (sQ p (prL p vars L d L.length) i).1) (sQ p (prL p vars L d L.length) i).1.length none, .osl 1 (icells (sQ p (prL p vars L d L.length) i).2.1) (sQ p (prL p vars L d L.length) i).2.1.length none, .osl 1 (osls (sQ p (prL p vars L d L.length) i).2.2) (sQ p (prL p vars L d L.length) i).2.2.length none, .osl 3 (prC (kQ p (prL p vars L d L.length) i)) (kQ p (prL p vars L d L.length) i).length none]), (8, .osl 3 (prC (prL p vars L d L.length)) (prL p vars L d L.length).length none), (9, .int .i64 ((i : Nat) : Int)), (10, .osl 1 (icells (scl p (ivS p (sQ p (prL p vars L d L.length) i) (pq (prL p vars L d L.length) i).2.2) (lfS p (sQ p (prL p vars L d L.length) i) (pq (prL p vars L d L.length) i).2.2))) (scl p (ivS p (sQ p (prL p vars L d L.length) i) (pq (prL p vars L d L.length) i).2.2) (lfS p (sQ p (prL p vars L d L.length) i) (pq (prL p vars L d L.length) i).2.2)).length none), (11, .osl 1 (icells (mixL (sclM p (ivS p (sQ p (prL p vars L d L.length) i) (pq (prL p vars L d L.length) i).2.2) (mdS p (sQ p (prL p vars L d L.length) i) (pq (prL p vars L d L.length) i).2.2)) (mdS p (sQ p (prL p vars L d L.length) i) (pq (prL p vars L d L.length) i).2.2) k)) (sQ p (prL p vars L d L.length) i).1.length none), (12, .int .i64 (leadS (lfS p (sQ p (prL p vars L d L.length) i) (pq (prL p vars L d L.length) i).2.2))), (13, .int .i64 (ivS p (sQ p (prL p vars L d L.length) i) (pq (prL p vars L d L.length) i).2.2)), (15, .int .i64 ((k : Nat) : Int))]) (fun k => k ≤ (sQ p (prL p vars L d L.length) i).1.length) (fun k => (sQ p (prL p vars L d L.length) i).1.length - k) 0 (ent_look ⟨Weak.of_eq rfl, Weak.of_eq rfl, Weak.of_eq rfl, Weak.of_eq rfl, Weak.of_eq rfl, Weak.of_eq rfl, Weak.osl (by rw [mixL_zero]) rfl, Weak.of_eq rfl, Weak.of_eq rfl, Weak.of_eq rfl, trivial⟩) (Nat.zero_le _) (fun k hG => ?_)
    refine a_seq ?_
    refine a_seq ?_
    refine a_region ?_
    refine rv (v := .int _ _) (v_move il nf) ?_
    refine rv (v := .rsl _ _ _ _ _) (v_move il nf) ?_
    refine rv (v := .int _ _) (v_len_rsl sl42 il) ?_
    refine rv (v := .bool _) (v_lss il il) ?_
    refine r_nil ?_
    refine a_cond rfl (fun ht68 => ?_) (fun ht68 => ?_)
    ·
     skip
     refine a_skip ?_
     refine a_seq ?_
     refine a_block ?_
     have hk : k < (sQ p (prL p vars L d L.length) i).1.length := (by simp at ht68; omega)
     have hgm : gd (mixL (sclM p (ivS p (sQ p (prL p vars L d L.length) i) (pq (prL p vars L d L.length) i).2.2) (mdS p (sQ p (prL p vars L d L.length) i) (pq (prL p vars L d L.length) i).2.2)) (mdS p (sQ p (prL p vars L d L.length) i) (pq (prL p vars L d L.length) i).2.2) k) k = gd (mdS p (sQ p (prL p vars L d L.length) i) (pq (prL p vars L d L.length) i).2.2) k := (by rw [gd_mixL hsm, if_neg (by omega)])
     have hmk := hmdb k
     have hmul := mul_bd2 (a := p - gd (mdS p (sQ p (prL p vars L d L.length) i) (pq (prL p vars L d L.length) i).2.2) k) (b := (ivS p (sQ p (prL p vars L d L.length) i) (pq (prL p vars L d L.length) i).2.2)) (p := p) ⟨by omega, by omega⟩ ⟨by omega, q7⟩ (by omega)
     have hpl : k * 1 + 1 ≤ (icells (mixL (sclM p (ivS p (sQ p (prL p vars L d L.length) i) (pq (prL p vars L d L.length) i).2.2) (mdS p (sQ p (prL p vars L d L.length) i) (pq (prL p vars L d L.length) i).2.2)) (mdS p (sQ p (prL p vars L d L.length) i) (pq (prL p vars L d L.length) i).2.2) k)).length := (by rw [icells_length, mixL_length hsm]; omega)
     have hset : (icells (mixL (sclM p (ivS p (sQ p (prL p vars L d L.length) i) (pq (prL p vars L d L.length) i).2.2) (mdS p (sQ p (prL p vars L d L.length) i) (pq (prL p vars L d L.length) i).2.2)) (mdS p (sQ p (prL p vars L d L.length) i) (pq (prL p vars L d L.length) i).2.2) k)).set (k * 1) (.int .i64 ((p - gd (mdS p (sQ p (prL p vars L d L.length) i) (pq (prL p vars L d L.length) i).2.2) k) * (ivS p (sQ p (prL p vars L d L.length) i) (pq (prL p vars L d L.length) i).2.2) % p)) = icells (mixL (sclM p (ivS p (sQ p (prL p vars L d L.length) i) (pq (prL p vars L d L.length) i).2.2) (mdS p (sQ p (prL p vars L d L.length) i) (pq (prL p vars L d L.length) i).2.2)) (mdS p (sQ p (prL p vars L d L.length) i) (pq (prL p vars L d L.length) i).2.2) (k + 1)) := (by rw [Nat.mul_one, icells_set, ← gd_sclM (by omega), mixL_set hsm (by omega)])
     refine a_region ?_
     refine rv (v := .rsl _ _ _ _ _) (v_move il nf) ?_
     refine rv (v := .int _ _) (v_move il nf) ?_
     refine rv (v := .int _ _) (v_move il nf) ?_
     refine rv (v := .rsl _ _ _ _ _) (v_move il nf) ?_
     refine rv (v := .int _ _) (v_move il nf) ?_
     refine rv (v := .rp _ _) (v_indexAddr_rsl0 es42 il il (fun _ => by omega)) ?_
     refine rv (v := .int .i64 (gd (mdS p (sQ p (prL p vars L d L.length) i) (pq (prL p vars L d L.length) i).2.2) k)) (v_load_rp1 ta3 il rfl (fun _ => by rw [Nat.mul_one, ← hgm]; exact icells_get (gd_get (by rw [mixL_length hsm]; omega))) rfl) ?_
     refine rv (v := .int _ _) (v_sub il il (fun _ => by omega)) ?_
     refine rv (v := .int _ _) (v_move il nf) ?_
     refine rv (v := .int _ _) (v_mul il il (fun _ => by omega)) ?_
     refine rv (v := .int _ _) (v_move il nf) ?_
     refine rv (v := .int _ _) (v_rem il il (fun _ => ⟨by omega, by omega⟩)) ?_
     refine rv (v := .rp _ _) (v_indexAddr_rsl0 es42 il il (fun _ => by omega)) ?_
     refine r_step rfl (o_store (v := .int _ _) (y' := .osl _ _ _ _) rfl rfl ta3 il il rfl rfl rfl rfl rfl rfl hpl (by decide) rfl (congrArg (fun c => AV.osl 1 c (sQ p (prL p vars L d L.length) i).1.length none) hset)) ?_
     refine r_nil ?_
     refine a_pre (ent_look (L := [(0, .int _ _), (6, .op [.nils, .nils, .nils, .nils]), (7, .op [.osl _ _ _ _, .osl _ _ _ _, .osl _ _ _ _, .osl _ _ _ _]), (8, .osl _ _ _ _), (9, .int _ _), (10, .osl _ _ _ _), (11, .osl _ _ _ _), (12, .int _ _), (13, .int _ _), (15, .int _ _)]) ⟨Weak.rfl, Weak.rfl, Weak.rfl, Weak.rfl, Weak.rfl, Weak.rfl, Weak.rfl, Weak.rfl, Weak.rfl, Weak.rfl, trivial⟩) ?_
     refine a_region ?_
     refine rv (v := .int _ _) (v_move il nf) ?_
     refine rv (v := .int _ _) (v_add il il (fun _ => by omega)) ?_
     refine rv (v := .int _ _) (v_assign il nf) ?_
     refine r_nil ?_
     refine ⟨k + 1, ent_look ⟨Weak.of_eq rfl, Weak.of_eq rfl, Weak.of_eq rfl, Weak.of_eq rfl, Weak.of_eq rfl, Weak.of_eq rfl, Weak.of_eq rfl, Weak.of_eq rfl, Weak.of_eq rfl, Weak.of_eq (int_eq (by omega)), trivial⟩, by omega, by omega⟩
    ·
     skip
     refine a_exit ?_
     refine a_seq ?_
     have hkd : (sQ p (prL p vars L d L.length) i).1.length ≤ k := (by simp at ht68; omega)
     refine a_pre (ent_eq (t := 11) (v' := .osl 1 (icells (sclM p (ivS p (sQ p (prL p vars L d L.length) i) (pq (prL p vars L d L.length) i).2.2) (mdS p (sQ p (prL p vars L d L.length) i) (pq (prL p vars L d L.length) i).2.2))) (sQ p (prL p vars L d L.length) i).1.length none) (Weak.osl (by rw [mixL_full hsm (by omega)]) rfl)) ?_
     have hcell : AV.osl 1 (icells (sclM p (ivS p (sQ p (prL p vars L d L.length) i) (pq (prL p vars L d L.length) i).2.2) (mdS p (sQ p (prL p vars L d L.length) i) (pq (prL p vars L d L.length) i).2.2)) ++ icells [(ivS p (sQ p (prL p vars L d L.length) i) (pq (prL p vars L d L.length) i).2.2)]) ((sQ p (prL p vars L d L.length) i).1.length + 1) none = .osl 1 (icells ((sclM p (ivS p (sQ p (prL p vars L d L.length) i) (pq (prL p vars L d L.length) i).2.2) (mdS p (sQ p (prL p vars L d L.length) i) (pq (prL p vars L d L.length) i).2.2)) ++ [(ivS p (sQ p (prL p vars L d L.length) i) (pq (prL p vars L d L.length) i).2.2)])) ((sclM p (ivS p (sQ p (prL p vars L d L.length) i) (pq (prL p vars L d L.length) i).2.2) (mdS p (sQ p (prL p vars L d L.length) i) (pq (prL p vars L d L.length) i).2.2)) ++ [(ivS p (sQ p (prL p vars L d L.length) i) (pq (prL p vars L d L.length) i).2.2)]).length none := (by rw [icells_append, List.length_append, hsm, hmdl]; rfl)
     refine a_region ?_
     refine rv (v := .rp _ _) (v_fieldAddr_rp fo59_0 il) ?_
     refine rv (v := .rsl _ _ _ _ _) (v_load_rp (c := .osl _ _ _ _) ta22 il rfl (fun _ => rfl)) ?_
     refine rv (v := .rsl _ _ _ _ _) (v_move il nf) ?_
     refine r_pre (ent_reloc_sl (t := 86) rfl rfl) ?_
     refine r_step rfl (o_sliceLit1 (v := .osl _ _ _ _) rfl lt22 rfl rfl (by decide) (by decide) rfl rfl (by simp [cellsOf, noRefL, noRef, ic_noRef]) rfl rfl) ?_
     refine r_pre (ent_reloc_sl (t := 85) rfl rfl) ?_
     refine r_step rfl (o_append_own rfl ap22 rfl (by decide) (by decide) (by decide) (by decide) rfl rfl rfl (by rw [osls_length]; omega) rfl (by omega)) ?_
     refine rv (v := .rp _ _) (v_fieldAddr_rp fo59_0 il) ?_
     refine r_pre (ent_eq (t := 88) (v' := .osl 1 (osls ((sQ p (prL p vars L d L.length) i).1 ++ [(scl p (ivS p (sQ p (prL p vars L d L.length) i) (pq (prL p vars L d L.length) i).2.2) (lfS p (sQ p (prL p vars L d L.length) i) (pq (prL p vars L d L.length) i).2.2))])) ((sQ p (prL p vars L d L.length) i).1 ++ [(scl p (ivS p (sQ p (prL p vars L d L.length) i) (pq (prL p vars L d L.length) i).2.2) (lfS p (sQ p (prL p vars L d L.length) i) (pq (prL p vars L d L.length) i).2.2))]).length none) (Weak.osl (by rw [osls_append]; rfl) (by simp))) ?_
     refine r_step rfl (o_store_own (v := .osl _ _ _ _) (y' := .op [.osl _ _ _ _, .osl _ _ _ _, .osl _ _ _ _, .osl _ _ _ _]) rfl rfl ta22 (.inl rfl) (by decide) rfl (by decide) rfl (by simp [cellsOf, noRefL, noRef, osls_noRef]) rfl rfl rfl rfl rfl (Nat.le_of_ble_eq_true rfl) rfl rfl) ?_
     refine r_nil ?_
     refine a_seq ?_
     refine a_region ?_
     refine rv (v := .rp _ _) (v_fieldAddr_rp fo59_1 il) ?_
     refine rv (v := .rsl _ _ _ _ _) (v_load_rp (c := .osl _ _ _ _) ta42 il rfl (fun _ => rfl)) ?_
     refine rv (v := .int _ _) (v_move il nf) ?_
     refine rn (v := .osl 1 (icells [(leadS (lfS p (sQ p (prL p vars L d L.length) i) (pq (prL p vars L d L.length) i).2.2))]) 1 (some 1)) (q_sliceLit (n := 1) (parts := [(0, .tmp 92)]) lt42 rfl rfl rfl rfl) ?_
     refine r_pre (ent_reloc_sl (t := 91) rfl rfl) ?_
     refine r_step rfl (o_append rfl ap42 rfl (by decide) (by decide) rfl (src_lit (.inl rfl) rfl rfl (ic_pureL _)) (ic_cell _) (by rw [icells_length]; omega) (by rw [hS.ldl]; omega)) ?_
     refine rv (v := .rp _ _) (v_fieldAddr_rp fo59_1 il) ?_
     refine r_pre (ent_eq (t := 94) (v' := .osl 1 (icells ((sQ p (prL p vars L d L.length) i).2.1 ++ [(leadS (lfS p (sQ p (prL p vars L d L.length) i) (pq (prL p vars L d L.length) i).2.2))])) ((sQ p (prL p vars L d L.length) i).2.1 ++ [(leadS (lfS p (sQ p (prL p vars L d L.length) i) (pq (prL p vars L d L.length) i).2.2))]).length none) (Weak.osl (by rw [icells_append]) (by simp))) ?_
     refine r_step rfl (o_store_own (v := .osl _ _ _ _) (y' := .op [.osl _ _ _ _, .osl _ _ _ _, .osl _ _ _ _, .osl _ _ _ _]) rfl rfl ta42 (.inl rfl) (by decide) rfl (by decide) rfl (by simp [cellsOf, noRefL, noRef, ic_noRef]) rfl rfl rfl rfl rfl (Nat.le_of_ble_eq_true rfl) rfl rfl) ?_
     refine r_nil ?_
     refine a_seq ?_
     refine a_pre (ent_look (L := [(0, .int _ _), (6, .op [.nils, .nils, .nils, .nils]), (7, .op [.osl _ _ _ _, .osl _ _ _ _, .osl _ _ _ _, .osl _ _ _ _]), (8, .osl _ _ _ _), (9, .int _ _), (11, .osl _ _ _ _), (12, .int _ _), (13, .int _ _), (15, .int _ _)]) ⟨Weak.rfl, Weak.rfl, Weak.rfl, Weak.rfl, Weak.rfl, Weak.rfl, Weak.rfl, Weak.rfl, Weak.rfl, trivial⟩) ?_
     refine a_region_z (n := 9) [[(96, true)], [(97, true)], [(98, true)], [(99, true)], [(100, true)], [(11, false), (98, true), (100, false), (101, true)], [(101, false), (102, true)], [(7, false), (97, true), (102, false), (103, true)], [(104, true)]] mixed (by kernel_rfl) ?_
     refine z_val (v := .rp _ _) (v_fieldAddr_rp fo59_2 il) rfl rfl (by decide) rfl (by kernel_rfl) ?_
     refine z_val (v := .rsl _ _ _ _ _) (v_load_rp (c := .osl _ _ _ _) ta22 il rfl (fun _ => rfl)) rfl rfl (by decide) rfl (by kernel_rfl) ?_
     refine z_val (v := .rsl _ _ _ _ _) (v_move il nf) rfl rfl (by decide) rfl (by kernel_rfl) ?_
     refine z_val (v := .int _ _) (v_move il nf) rfl rfl (by decide) rfl (by kernel_rfl) ?_
     refine z_new (v := .osl 1 (icells [(ivS p (sQ p (prL p vars L d L.length) i) (pq (prL p vars L d L.length) i).2.2)]) 1 (some 1)) (q_sliceLit (n := 1) (parts := [(0, .tmp 99)]) lt42 rfl rfl rfl rfl) rfl rfl (by decide) rfl (by kernel_rfl) ?_
     refine z_append_own_ref rfl rfl ap42 rfl (by decide) (by decide) (by decide) (by decide) (by decide) (by decide) (by decide) (by decide) (by decide) rfl rfl rfl rfl rfl (ic_cell [(ivS p (sQ p (prL p vars L d L.length) i) (pq (prL p vars L d L.length) i).2.2)]) (by rw [icells_length, hsm, hmdl]; omega) rfl (by omega) rfl (by kernel_rfl) ?_
     refine z_sliceLit1 (v := .osl _ _ _ _) rfl rfl lt22 rfl rfl (by decide) (by decide) (by decide) rfl rfl (by simp [cellsOf, noRefL, noRef, ← icells_append, ic_noRef]) rfl rfl rfl (by kernel_rfl) ?_
     refine z_append_own_ref rfl rfl ap22 rfl (by decide) (by decide) (by decide) (by decide) (by decide) (by decide) (by decide) (by decide) (by decide) rfl rfl rfl rfl rfl rfl (by rw [osls_length]; omega) rfl (by rw [hS.mdl]; omega) rfl (by kernel_rfl) ?_
     refine z_val (v := .rp _ _) (v_fieldAddr_rp fo59_2 il) rfl rfl (by decide) rfl (by kernel_rfl) ?_
     refine z_nil ?_
     refine r_pre (ent_eq (t := 103) (v' := .osl 1 (osls ((sQ p (prL p vars L d L.length) i).2.2 ++ [(sclM p (ivS p (sQ p (prL p vars L d L.length) i) (pq (prL p vars L d L.length) i).2.2) (mdS p (sQ p (prL p vars L d L.length) i) (pq (prL p vars L d L.length) i).2.2)) ++ [(ivS p (sQ p (prL p vars L d L.length) i) (pq (prL p vars L d L.length) i).2.2)]])) ((sQ p (prL p vars L d L.length) i).2.2 ++ [(sclM p (ivS p (sQ p (prL p vars L d L.length) i) (pq (prL p vars L d L.length) i).2.2) (mdS p (sQ p (prL p vars L d L.length) i) (pq (prL p vars L d L.length) i).2.2)) ++ [(ivS p (sQ p (prL p vars L d L.length) i) (pq (prL p vars L d L.length) i).2.2)]]).length none) (Weak.osl (by rw [osls_append]; show _ = osls (sQ p (prL p vars L d L.length) i).2.2 ++ [AV.osl 1 (icells ((sclM p (ivS p (sQ p (prL p vars L d L.length) i) (pq (prL p vars L d L.length) i).2.2) (mdS p (sQ p (prL p vars L d L.length) i) (pq (prL p vars L d L.length) i).2.2)) ++ [(ivS p (sQ p (prL p vars L d L.length) i) (pq (prL p vars L d L.length) i).2.2)])) ((sclM p (ivS p (sQ p (prL p vars L d L.length) i) (pq (prL p vars L d L.length) i).2.2) (mdS p (sQ p (prL p vars L d L.length) i) (pq (prL p vars L d L.length) i).2.2)) ++ [(ivS p (sQ p (prL p vars L d L.length) i) (pq (prL p vars L d L.length) i).2.2)]).length none]; rw [← hcell]; rfl) (by simp))) ?_
     refine r_step rfl (o_store_own (v := .osl _ _ _ _) (y' := .op [.osl _ _ _ _, .osl _ _ _ _, .osl _ _ _ _, .osl _ _ _ _]) rfl rfl ta22 (.inl rfl) (by decide) rfl (by decide) rfl (by simp [cellsOf, noRefL, noRef, osls_noRef]) rfl rfl rfl rfl rfl (Nat.le_of_ble_eq_true rfl) rfl rfl) ?_
     refine r_nil ?_
     refine a_region_z (n := 9) [[(105, true)], [(106, true)], [(107, true)], [(108, true)], [(109, true)], [(110, true)], [(111, true)], [(7, false), (106, true), (111, false), (112, true)], [(113, true)]] mixed (by kernel_rfl) ?_
     refine z_val (v := .rp _ _) (v_fieldAddr_rp fo59_3 il) rfl rfl (by decide) rfl (by kernel_rfl) ?_
     refine z_val (v := .rsl _ _ _ _ _) (v_load_rp (c := .osl _ _ _ _) ta57 il rfl (fun _ => rfl)) rfl rfl (by decide) rfl (by kernel_rfl) ?_
     refine z_val (v := .rsl _ _ _ _ _) (v_move il nf) rfl rfl (by decide) rfl (by kernel_rfl) ?_
     refine z_val (v := .int _ _) (v_move il nf) rfl rfl (by decide) rfl (by kernel_rfl) ?_
     refine z_val (v := .rp _ _) (v_indexAddr_rsl0 es57 il il (fun _ => by omega)) rfl rfl (by decide) rfl (by kernel_rfl) ?_
     refine z_val (v := .agg [.int _ _, .int _ _, .sl _ _]) (v_load_rpa1 ta80 il rfl rfl (fun _ => by rw [show ((i : Nat) : Int).toNat * 3 = i * 3 from rfl]; exact prC_three hi) rfl) rfl rfl (by decide) rfl (by kernel_rfl) ?_
     refine z_new (v := .osl _ _ _ _) (q_sliceLit (n := 1) (parts := [(0, .tmp 110)]) lt57 rfl rfl rfl rfl) rfl rfl (by decide) rfl (by kernel_rfl) ?_
     refine z_append_own_ref rfl rfl ap57 rfl (by decide) (by decide) (by decide) (by decide) (by decide) (by decide) (by decide) (by decide) (by decide) rfl rfl rfl rfl rfl rfl (by rw [prC_length]) rfl (by omega) rfl (by kernel_rfl) ?_
     refine z_val (v := .rp _ _) (v_fieldAddr_rp fo59_3 il) rfl rfl (by decide) rfl (by kernel_rfl) ?_
     refine z_nil ?_
     refine r_pre (ent_eq (t := 112) (v' := .osl 3 (prC ((kQ p (prL p vars L d L.length) i) ++ [pq (prL p vars L d L.length) i])) ((kQ p (prL p vars L d L.length) i) ++ [pq (prL p vars L d L.length) i]).length none) (Weak.osl (by rw [prC_app]; rfl) (by simp))) ?_
     refine r_step rfl (o_store_own (v := .osl _ _ _ _) (y' := .op [.osl _ _ _ _, .osl _ _ _ _, .osl _ _ _ _, .osl _ _ _ _]) rfl rfl ta57 (.inl rfl) (by decide) rfl (by decide) rfl (by simp [cellsOf, noRefL, noRef, prC_noRef]) rfl rfl rfl rfl rfl (Nat.le_of_ble_eq_true rfl) rfl rfl) ?_
     refine r_nil ?_
     refine a_pre (ent_look (L := [(0, .int _ _), (6, .op [.nils, .nils, .nils, .nils]), (7, .op [.osl _ _ _ _, .osl _ _ _ _, .osl _ _ _ _, .osl _ _ _ _]), (8, .osl _ _ _ _), (9, .int _ _), (12, .int _ _), (13, .int _ _), (15, .int _ _)]) ⟨Weak.rfl, Weak.rfl, Weak.rfl, Weak.rfl, Weak.rfl, Weak.rfl, Weak.rfl, Weak.rfl, trivial⟩) ?_
     refine a_region ?_
     refine rv (v := .int _ _) (v_move il nf) ?_
     refine rv (v := .int _ _) (v_add il il (fun _ => by omega)) ?_
     refine rv (v := .int _ _) (v_assign il nf) ?_
     refine r_nil ?_
     have hst : (sQ p (prL p vars L d L.length) (i + 1)) = ((sQ p (prL p vars L d L.length) i).1 ++ [(scl p (ivS p (sQ p (prL p vars L d L.length) i) (pq (prL p vars L d L.length) i).2.2) (lfS p (sQ p (prL p vars L d L.length) i) (pq (prL p vars L d L.length) i).2.2))], (sQ p (prL p vars L d L.length) i).2.1 ++ [(leadS (lfS p (sQ p (prL p vars L d L.length) i) (pq (prL p vars L d L.length) i).2.2))], (sQ p (prL p vars L d L.length) i).2.2 ++ [(sclM p (ivS p (sQ p (prL p vars L d L.length) i) (pq (prL p vars L d L.length) i).2.2) (mdS p (sQ p (prL p vars L d L.length) i) (pq (prL p vars L d L.length) i).2.2)) ++ [(ivS p (sQ p (prL p vars L d L.length) i) (pq (prL p vars L d L.length) i).2.2)]]) := hsc.trans (stS_yes hng)
     have hkq : (kQ p (prL p vars L d L.length) (i + 1)) = (kQ p (prL p vars L d L.length) i) ++ [pq (prL p vars L d L.length) i] := (by rw [kQ, if_neg hng])
     refine ⟨i + 1, ent_look ⟨Weak.of_eq rfl, Weak.of_eq rfl, Weak.of_eq (by rw [hst, hkq]; rfl), Weak.of_eq rfl, Weak.of_eq (int_eq (by omega)), trivial⟩, by omega, by omega⟩
 ·
  skip
  refine a_exit ?_
  refine a_seq ?_
  refine a_region ?_
  refine rv (v := .agg [.rsl _ _ _ _ _, .rsl _ _ _ _ _, .rsl _ _ _ _ _, .rsl _ _ _ _ _]) (v_load_rpa (xs := [.osl _ _ _ _, .osl _ _ _ _, .osl _ _ _ _, .osl _ _ _ _]) ta59 il rfl rfl (fun _ => take_get rfl)) ?_
  refine r_pre (ent_reloc_at_sl (t := 114) (r := [0]) rfl (by decide) rfl rfl) ?_
  refine r_pre (ent_reloc_at_sl (t := 114) (r := [1]) rfl (by decide) rfl rfl) ?_
  refine r_pre (ent_reloc_at_sl (t := 114) (r := [2]) rfl (by decide) rfl rfl) ?_
  refine r_pre (ent_reloc_at_sl (t := 114) (r := [3]) rfl (by decide) rfl rfl) ?_
  refine r_step rfl (o_store_own (v := .agg [.osl _ _ _ _, .osl _ _ _ _, .osl _ _ _ _, .osl _ _ _ _]) (y' := .op [.osl _ _ _ _, .osl _ _ _ _, .osl _ _ _ _, .osl _ _ _ _]) rfl rfl ta59 (.inl rfl) (by decide) rfl (by decide) rfl (by simp [cellsOf, noRefL, noRef, osls_noRef, ic_noRef, prC_noRef]) rfl rfl rfl rfl rfl (Nat.le_of_ble_eq_true rfl) rfl rfl) ?_
  refine r_nil ?_
  refine a_ret ?_
  refine retC1 (r := .cell 6 59) Try.results40 ⟨by decide, _, cell_agg rfl ta59, rfl⟩ (by decide) (Weak.of_eq (agg_eq (l4_eq (osl_eq2 ?_ ?_) (osl_eq2 ?_ ?_) (osl_eq2 ?_ ?_) (osl_eq2 ?_ ?_)))) rfl Leaves.nil
  all_goals (have hie : i = (prL p vars L d L.length).length := (by simp at ht24; omega); subst hie; rfl)
end Go.Av
namespace Go.Av
open Go
section
variable {P : Program} (w : World)
theorem run_appmk_in (t it ty e t' : TypeId) (k : IntKind) (i : TypeInfo) (z : Value) (ht : P.underlying t = some (.slice e)) (hit : P.underlying it = some (.int k)) (hi : P.info? e = some i) (hz : i.zero = some z)
    (g sLen sCap : Nat) (cur : Array Value) (hg : w.heap[g]? = some (.cells cur t' (0, 0))) (m : Nat) (h0 : 0 < m) (hsz : 0 < i.size) (h63 : (m : Int) ≤ 9223372036854775807) (hfit48 : m * i.bytes ≤ 140737488355328)
    (news : List Value) (hn : news = (Builtin.zeroCells z.cells m).toList) (hl : news.length = m * i.size) (h1 : ∀ u ∈ news, u.oneCell' = true) (hroom : sLen + m ≤ sCap) (hfit : sLen * i.size + news.length ≤ cur.size) :
    (Builtin.append_ #[t, it] ty #[.slice (some ⟨g, 0, none⟩) sLen sCap, .int k m]).run P w =
      .ok (.slice (some ⟨g, 0, none⟩) (sLen + m) sCap) (w.setRow g (cur.toList.take (sLen * i.size) ++ news ++ cur.toList.drop (sLen * i.size + news.length)).toArray) := by
  have h48 : ¬ (281474976710656 < (m : Int) * (i.bytes : Int)) := by
    have : ((m : Int) * (i.bytes : Int)) = ((m * i.bytes : Nat) : Int) := by simp
    rw [this]; omega
  have e1 : IntKind.i64.wrap (m : Int) = m := IntWalk.i64_in _ (by omega)
  have hm : ¬ ((m : Int) < 0) := by omega
  have hms : ¬ (m * i.size = 0) := by have := Nat.mul_pos h0 hsz; omega
  have hm0 : ¬ (m = 0) := by omega
  have hs0 : ¬ (i.size = 0) := by omega
  have hst := run_storeCells_at P g (sLen * i.size) t' news 0 cur w hg (by simpa using hfit) h1
  simp only [Nat.add_zero] at hst
  subst hn
  simp [Builtin.append_, run_underlying ht, run_underlying hit, sizeOf, typeInfo, zeroValue, hi, hz, asInt, asIntOf, e1, hm, h48, hm0, hs0, hms, hroom, add_none, hst]
theorem run_appmk_new (t it ty e : TypeId) (k : IntKind) (i : TypeInfo) (z : Value) (ht : P.underlying t = some (.slice e)) (hit : P.underlying it = some (.int k)) (hi : P.info? e = some i) (hz : i.zero = some z)
    (ob : Option Addr) (sLen sCap : Nat) (olds : List Value) (hlo : olds.length = sLen * i.size) (holds : olds ≠ [] → ∃ b, ob = some b ∧ ∀ j v, olds[j]? = some v → w.cell? (b.add j) = some v)
    (m : Nat) (h0 : 0 < m) (hsz : 0 < i.size)
    (hg : sCap < sLen + m) (h63 : ((sLen + m : Nat) : Int) ≤ 9223372036854775807) (hfit : (sLen + m) * i.bytes ≤ 140737488355328) :
    (Builtin.append_ #[t, it] ty #[.slice ob sLen sCap, .int k m]).run P w =
      .ok (.slice (some ⟨w.heap.size, 0, none⟩) (sLen + m) (grownCap w (sLen + m) sCap e))
        (w.drew.alloc (.cells (olds.toArray ++ Builtin.zeroCells z.cells m ++ Builtin.zeroCells z.cells (grownCap w (sLen + m) sCap e - (sLen + m))) e)) := by
  have hn : ¬ (sLen + m ≤ sCap) := by omega
  have h63' : ¬ (9223372036854775807 < ((sLen : Int) + (m : Int))) := by omega
  have hmb := Nat.mul_le_mul_right i.bytes (Nat.le_add_left m sLen)
  have h48 : ¬ (281474976710656 < (m : Int) * (i.bytes : Int)) := by
    have : ((m : Int) * (i.bytes : Int)) = ((m * i.bytes : Nat) : Int) := by simp
    rw [this]; omega
  have h48' : ¬ (281474976710656 < Builtin.nextslicecap (sLen + m) sCap * i.bytes) := by have := growslice_fits hg hfit; omega
  have e1 : IntKind.i64.wrap (m : Int) = m := IntWalk.i64_in _ (by omega)
  have hm : ¬ ((m : Int) < 0) := by omega
  have hms : ¬ (m * i.size = 0) := by have := Nat.mul_pos h0 hsz; omega
  have hm0 : ¬ (m = 0) := by omega
  have hs0 : ¬ (i.size = 0) := by omega
  have hfo := run_first (P := P) w.drew i.size sLen ob sLen sCap olds hlo (by simpa using holds)
  simp [Builtin.append_, run_underlying ht, run_underlying hit, sizeOf, typeInfo, zeroValue, hi, hz, asInt, asIntOf, e1, hm, h48, hm0, hs0, hms, hn, h63', h48', Question.forced, hfo, newRow, grownCap, askRoom]
end
section
variable {P : Program} {N : Nat} {A : Bool} {σ σ' : Sig} {x y z : Operand} {D : List Nat} {o : Oper} {d : Nat} {ty : TypeId}
variable {e : Ctx} {val : Nat → Value} {w : World} {β : Place → Option (Nat × Nat)} {F : Nat → Prop}
theorem append_core_mk {t it el sz bytes : Nat} {k : IntKind} {ty : TypeId} (ht : P.underlying t = some (.slice el)) (hit : P.underlying it = some (.int k)) (hi' : (P.info? el).map (fun i => (i.size, i.bytes, i.zero.map fun z => z.cells.size)) = some (sz, bytes, some sz)) (_hsz : 0 < sz)
    (h : Inv e σ val w β F) {ob : Option Addr} {n capv m : Nat} {cap : Option Nat} {cs zs : List AV} {δ : List Nat → Option (Nat × Nat)} (hd : Det e σ w β F (.osl sz cs n cap) (.slice ob n capv) δ)
    (hz0 : zeroCells P el = some zs) (hm0 : 0 < m)
    (hcl : cs.length = n * sz) (hcell : cellL (rep m zs) = true) (hbd : n + m ≤ 9223372036854775807 ∧ (n + m) * bytes ≤ 140737488355328) :
    ∃ v w' δ2, (Builtin.append_ #[t, it] ty #[.slice ob n capv, .int k m]).run P w = .ok v w' ∧ Inv e σ val w' β F ∧ Det e σ w' β F (.osl sz (cs ++ rep m zs) (n + m) none) v δ2 := by
  cases hinf : P.info? el with
  | none => rw [hinf] at hi'; cases hi'
  | some i =>
  rw [hinf] at hi'
  simp only [Option.map_some, Option.some.injEq, Prod.mk.injEq] at hi'
  obtain ⟨rfl, rfl, hz⟩ := hi'
  cases hzv : i.zero with
  | none => rw [hzv] at hz; cases hz
  | some z =>
  rw [hzv] at hz
  simp only [Option.map_some, Option.some.injEq] at hz
  obtain ⟨i2, z2, hi2, hz2, rfl⟩ := zeroCells_spec hz0
  rw [hinf] at hi2; cases hi2
  rw [hzv] at hz2; cases hz2
  obtain ⟨us, hus⟩ : ∃ us, us = (Builtin.zeroCells z.cells m).toList := ⟨_, rfl⟩
  have hul : us.length = m * i.size := by rw [hus, Array.length_toList, size_zeroCells, hz]
  obtain ⟨ns, hns⟩ : ∃ ns, ns = rep m (z.cells.toList.map cstS) := ⟨_, rfl⟩
  rw [← hns] at hcell ⊢
  have hnsl : us.length = ns.length := by rw [hul, hns, rep_length]; simp [hz]
  have hget : ∀ j, j < m * i.size → us[j]? = z.cells.toList[j % i.size]? := fun j hj => by
    have h0 : j % i.size < z.cells.size := by rw [hz]; exact Nat.mod_lt _ _hsz
    simp only [hus, Builtin.zeroCells, Array.toList_map, Array.toList_range, List.getElem?_map, hz, List.getElem?_range hj, Option.map_some]
    rw [getElem!_pos z.cells _ h0]
    simp [h0]
  have hrl : RepL β F w ns (0, []) 0 us := RepL_iff.2 fun j c' hc' => by
    subst hns
    have hj : j < m * i.size := by
      rcases Nat.lt_or_ge j (m * i.size) with h | h
      · exact h
      · rw [List.getElem?_eq_none (by rw [rep_length]; simp [hz]; omega)] at hc'; cases hc'
    rw [rep_get (by simp [hz]; exact _hsz) (by simpa [hz] using hj)] at hc'
    simp only [List.length_map, Array.length_toList, hz, List.getElem?_map] at hc'
    rw [hget j hj]
    cases hv : z.cells.toList[j % i.size]? with
    | none => rw [hv] at hc'; cases hc'
    | some v => rw [hv] at hc'; simp at hc'; subst hc'; exact ⟨v, rfl, rep_cstS v _⟩
  have hpu : pureL ns = true := by
    rw [hns]
    exact pureL_iff.2 fun c' hc' => by
      simp only [rep, List.mem_flatten, List.mem_replicate] at hc'
      obtain ⟨l, ⟨_, rfl⟩, hc'⟩ := hc'
      exact pureL_mem (pure_cstL _) hc'
  have hnr := noRefL_pure ns hpu
  have hd' : Det e σ w β F (.agg ns) (.agg us.toArray) (fun _ => none) := det_agg_pure hnsl hrl hpu
  obtain ⟨δ', hδ'⟩ : ∃ δ' : List Nat → Option (Nat × Nat), δ' = fun _ => none := ⟨_, rfl⟩
  rw [← hδ'] at hd'
  have ha : ∀ r r' y y' b s s', node (.osl i.size cs n cap) r = some y → y.isOwn = true → node (.agg ns) r' = some y' → y'.isOwn = true → δ r = some (b, s) → δ' r' ≠ some (b, s') := by
    intro r r' y y' b s s' _ _ _ _ _ hb; rw [hδ'] at hb; cases hb
  have hzt : us.toArray = Builtin.zeroCells z.cells m := by rw [hus]
  have hnl := hd'.repL
  have hones : ∀ u ∈ us, u.oneCell' = true := ones_of hnl.2 hnl.1 hcell
  -- a new row over the cells 'olds' and 'us'
  have fresh : ∀ (olds : List Value) (δo : List Nat → Option (Nat × Nat)), olds.length = n * i.size → Det e σ w β F (.agg cs) (.agg olds.toArray) δo → noRefL cs = true →
      (∀ r r' y y' b s s', node (.agg cs) r = some y → y.isOwn = true → node (.agg ns) r' = some y' → y'.isOwn = true → δo r = some (b, s) → δ' r' ≠ some (b, s')) →
      (olds ≠ [] → ∃ b, ob = some b ∧ ∀ j v, olds[j]? = some v → w.cell? (b.add j) = some v) → capv < n + m →
      ∃ v w' δ2, (Builtin.append_ #[t, it] ty #[.slice ob n capv, .int k m]).run P w = .ok v w' ∧ Inv e σ val w' β F ∧ Det e σ w' β F (.osl i.size (cs ++ ns) (n + m) none) v δ2 := by
    intro olds δo hol hdo hnrc hao hold hg
    have hrun := run_appmk_new (P := P) w t it ty el k i z ht hit hinf hzv ob n capv olds hol hold m hm0 _hsz hg (by omega) hbd.2
    rw [← hzt] at hrun
    let arr : Array Value := olds.toArray ++ us.toArray ++ Builtin.zeroCells z.cells (grownCap w (n + m) capv el - (n + m))
    have hge := grownCap_ge w (n + m) capv el
    have hinv : Inv e σ val (w.drew.alloc (.cells arr el)) β F := (h.same (w' := w.drew) rfl rfl rfl).alloc _ (fun _ _ _ h => by cases h; rfl)
    have hb := hdo.both hd' hao
    have hold' : ∀ b, b < w.heap.size → (w.drew.alloc (.cells arr el)).heap[b]? = w.heap[b]? := fun b hb => heap_alloc_lt (w := w.drew) hb
    have hlt : ∀ r y b s, node (.agg (cs ++ ns)) r = some y → y.isOwn = true →
        glue cs.length δo δ' r = some (b, s) → b < w.heap.size := by
      intro r y b s hy ho hbs
      obtain ⟨u, hu⟩ := hb.rep.sub hy
      exact hu.own_lt ho (by simpa using hbs)
    have hb' := hb.world (w' := w.drew.alloc (.cells arr el)) (fun b hb => hold' b (h.fr b hb).1) (fun r y b s hy ho hbs => hold' b (hlt r y b s hy ho hbs))
    refine ⟨_, _, _, hrun, hinv, hb'.osl (arr := arr) (t := el) (noRefL_iff.2 fun c hc => ?_) (heap_alloc_new w.drew _) (fun j x hx => ?_) (fun hF => by have := (h.fr _ hF).1; simp at this) (.inl h.grow)
      (fun q s hq hb => by have := h.own_lt hq hb; simp at this) (fun r y s hy ho hbs => by have := hlt r y _ s hy ho hbs; simp at this) ?_ hge (fun c hc => by cases hc)⟩
    · rcases List.mem_append.1 hc with hc | hc
      · exact noRefL_mem hnrc hc
      · exact noRefL_mem hnr hc
    · have : j < (olds ++ us).length := by
        rcases Nat.lt_or_ge j (olds ++ us).length with h | h
        · exact h
        · rw [List.getElem?_eq_none h] at hx; cases hx
      simp only [arr, Array.toList_append]
      rw [List.getElem?_append_left this]
      exact hx
    · simp only [arr, Array.size_append, List.size_toArray, size_zeroCells, hz, hol, hul, ← Nat.add_mul]
      congr 1
      omega
  have noOwn_nil : ∀ {r : List Nat} {y : AV}, node (.agg []) r = some y → y.isOwn = true → False := fun {r y} hy ho => by
    obtain ⟨j, t, x, _, hx, _⟩ := own_agg hy ho; simp at hx
  have empty : cs = [] → n = 0 → capv = 0 → ∃ v w' δ2, (Builtin.append_ #[t, it] ty #[.slice ob n capv, .int k m]).run P w = .ok v w' ∧ Inv e σ val w' β F ∧ Det e σ w' β F (.osl i.size (cs ++ ns) (n + m) none) v δ2 := by
    rintro rfl rfl rfl
    exact fresh [] (fun _ => none) (by simp) (det_agg_pure (β0 := β) (p := (0, [])) (by simp) (by simp [RepL]) rfl) rfl
        (fun r r' y y' b s s' hy ho => (noOwn_nil hy ho).elim) (fun h => absurd rfl h) (by omega)
  cases ob with
  | none =>
    have := hd.rep
    simp only [Rep] at this
    rcases this with ⟨_, ⟨a, ha'⟩, h2, h3, _⟩ | ⟨_, b, capv', arr, t', _, h1, _⟩
    · cases ha'; exact empty h2 h3 rfl
    · cases h1
  | some ad =>
    rcases hd.cells with ⟨h1, h2, h3⟩ | ⟨b, arr, t', rfl, hδ, hh, hs, hnc, hnrc, hdc⟩
    · exact empty h1 h2 h3
    · have hfitc : cs.length ≤ arr.size := by rw [hcl, hs]; exact Nat.mul_le_mul_right _ hnc
      have hag : ∀ r r' y y' b s s', node (.agg cs) r = some y → y.isOwn = true → node (.agg ns) r' = some y' → y'.isOwn = true → δ r = some (b, s) → δ' r' ≠ some (b, s') := by
        intro r r' y y' b s s' hy ho hy' ho' hb
        obtain ⟨j, t, x, rfl, hx, hxy⟩ := own_agg hy ho
        exact ha _ r' y y' b s s' (by simpa [node, kids] using hy) ho hy' ho' hb
      by_cases hroom : n + m ≤ capv
      · -- in place
        have hfit : n * i.size + us.length ≤ arr.size := by rw [hul, hs, ← Nat.add_mul]; exact Nat.mul_le_mul_right _ hroom
        have hrun := run_appmk_in (P := P) w t it ty el t' k i z ht hit hinf hzv b n capv arr hh m hm0 _hsz (by omega) (by have := Nat.mul_le_mul_right i.bytes (Nat.le_add_left m n); omega) us hus hul hones hroom hfit
        let arr' : Array Value := (arr.toList.take (n * i.size) ++ us ++ arr.toList.drop (n * i.size + us.length)).toArray
        have hbs := hd.sep [] _ b _ rfl rfl hδ
        have hother : ∀ k, k ≠ b → (w.setRow b arr').heap[k]? = w.heap[k]? := fun k hk => setRow_other w b k _ hk
        have hinv : Inv e σ val (w.setRow b arr') β F := h.ext (fun k hk => hother k (fun h => hbs.1 (h ▸ hk))) (fun q k s hq hk => hother k (fun h => hbs.2.2 q s hq (h ▸ hk)))
          (fun k hk hi => hother k (fun h => by subst h; rcases hbs.2.1 with h | h; omega; exact hi h)) (by simp [World.setRow]) (tame_row h.tame hh)
        have hb2 := hdc.both hd' hag
        have hkids : ∀ j t y s, node (.agg cs) (j :: t) = some y → y.isOwn = true → δ (j :: t) ≠ some (b, s) := fun j t y s hy ho hb => by
          have := hd.inj [] (j :: t) _ y b _ s rfl rfl (by simpa [node, kids] using hy) ho hδ hb
          cases this
        have hne : ∀ r y s, node (.agg (cs ++ ns)) r = some y → y.isOwn = true →
            glue cs.length δ δ' r ≠ some (b, s) := by
          intro r y s hy ho hbs'
          obtain ⟨j, t, x, rfl, hx, hxy⟩ := own_agg hy ho
          simp only [glue] at hbs'
          by_cases hj : j < cs.length
          · rw [if_pos hj] at hbs'
            rw [List.getElem?_append_left hj] at hx
            exact hkids j t y s (by simp [node, kids, hx, hxy]) ho hbs'
          · rw [if_neg hj] at hbs'
            rw [List.getElem?_append_right (by omega)] at hx
            exact ha [] ((j - cs.length) :: t) _ y b _ s rfl rfl (by simp [node, kids, hx, hxy]) ho hδ hbs'
        have hb3 := hb2.world (w' := w.setRow b arr') (fun k hk => hother k (fun h => hbs.1 (h ▸ hk))) (fun r y k s hy ho hk => hother k (fun h => hne r y s hy ho (h ▸ hk)))
        refine ⟨_, _, _, hrun, hinv, hb3.osl (arr := arr') (t := t') (noRefL_iff.2 fun c hc => ?_) (setRow_heap w b arr arr' t' (0, 0) hh) (fun j x hx => ?_) hbs.1 hbs.2.1 hbs.2.2 (fun r y s hy ho => hne r y s hy ho) ?_ hroom (fun c hc => by cases hc)⟩
        · rcases List.mem_append.1 hc with hc | hc
          · exact noRefL_mem hnrc hc
          · exact noRefL_mem hnr hc
        · have : j < (arr.toList.take cs.length ++ us).length := by
            rcases Nat.lt_or_ge j (arr.toList.take cs.length ++ us).length with h | h
            · exact h
            · rw [List.getElem?_eq_none h] at hx; cases hx
          simp only [arr']
          rw [← hcl, List.getElem?_append_left (by simpa using this)]
          exact hx
        · simp only [arr', List.size_toArray, List.length_append, List.length_take, List.length_drop, Array.length_toList]
          rw [hs] at *
          omega
      · -- a new row
        refine fresh (arr.toList.take cs.length) δ (by simp; omega) hdc hnrc hag (fun _ => ⟨_, rfl, fun j v hv => ?_⟩) (by omega)
        rw [add_none, Nat.zero_add, cell_of hh]
        rw [List.getElem?_take] at hv
        split at hv
        · simpa using hv
        · cases hv
end
section
variable {P : Program} {N : Nat} {σ : Sig} {x : Operand} {o : Oper} {d : Nat} {ops : Array Oper} {l rest : List Oper} {efs : EffsX} {jj : Nat} {K : Sig → Prop}
theorem o_append_mk {s t it sz bytes el n m : Nat} {k : IntKind} {cap : Option Nat} {cs zs : List AV} (ho : o.op = appMk (.tmp s) x t it) (ht : appTy P t = some (sz, bytes)) (hel : P.underlying t = some (.slice el)) (hit : P.underlying it = some (.int k)) (hz0 : zeroCells P el = some zs) (hd : o.dst = some d) (hN : d < N) (hsN : s < N)
    (hs : σ s = .osl sz cs n cap) (hx : RdTo N true (upd σ s .undef) x (.int k m)) (hm0 : 0 < m) (hc : cellL (rep m zs) = true) (hcl : cs.length = n * sz)
    (hb : n + m ≤ 9223372036854775807 ∧ (n + m) * bytes ≤ 140737488355328) :
    OStep P N o σ (upd (fun i => purgeV d (upd σ s .undef i)) d (.osl sz (cs ++ rep m zs) (n + m) none)) := by
  intro gv e a w ⟨hdf, hsz, β, F, hi⟩ K Q hK
  obtain ⟨el', h1, h2, h3⟩ := appTy_spec ht
  rw [hel] at h1; cases h1
  obtain ⟨hi1, hd1⟩ := hi.detach_slot (t := s) (by rw [hs]; rfl)
  rw [hs] at hd1
  have hv : valOf N gv a s = a.eval (.tmp s) := by simp [valOf, hsN, Act.eval]
  rw [hv] at hd1
  have hsl : ∃ ob capv, a.eval (.tmp s) = .slice ob n capv := by
    have := hd1.rep
    simp only [Rep] at this
    rcases this with ⟨_, ⟨ob, h⟩, _, hn, _⟩ | ⟨_, b, capv, arr, t, _, h, _⟩
    · exact ⟨ob, 0, by rw [hn]; exact h⟩
    · exact ⟨_, capv, h⟩
  obtain ⟨ob, capv, es⟩ := hsl
  rw [es] at hd1
  have ex := hx.rep rfl (fun _ _ => rfl) hi1 (0, [])
  simp only [Rep] at ex
  obtain ⟨v, w', δ2, hrun, hinv, hdet⟩ := append_core_mk (ty := o.type) hel hit h2 h3 hi1 hd1 hz0 hm0 hcl hc hb
  have h9 := hinv.attach d hdet
  rw [← valOf_put hsz hN] at h9
  have hrun' : (execOp a.eval o).run P w = .ok (.value v) w' := by
    simp [execOp, ho, appMk, resolve, invoke, builtin, es, ex, hrun]
  exact wp_value hrun' (hK _ _ ⟨by rw [hd]; exact hdf, by rw [hd, size_put]; exact hsz, _, F, by rw [hd]; exact h9⟩)
theorem z_append_mk {s t it sz bytes el d n m : Nat} {k : IntKind} {cap : Option Nat} {cs zs : List AV} (hg : o.guard = none) (ho : o.op = appMk (.tmp s) x t it) (ht : appTy P t = some (sz, bytes)) (hel : P.underlying t = some (.slice el)) (hit : P.underlying it = some (.int k)) (hz0 : zeroCells P el = some zs) (hd : o.dst = some d) (hN : d < N) (hsN : s < N) (hsd : s ≠ d)
    (hs : σ s = .osl sz cs n cap) (hx : RdTo N true (upd σ s .undef) x (.int k m)) (hm0 : 0 < m) (hc : cellL (rep m zs) = true) (hcl : cs.length = n * sz)
    (hb : n + m ≤ 9223372036854775807 ∧ (n + m) * bytes ≤ 140737488355328) (he : effX efs jj = [(s, false), (d, true)]) (hok : opOkX l efs jj (s :: slots x) [] = true)
    (h : AQz P N ops l efs rest (jj + 1) (updL σ [(s, .undef), (d, .osl sz (cs ++ rep m zs) (n + m) none)]) K) : AQz P N ops l efs (o :: rest) jj σ K := by
  refine z_step (D := s :: slots x) (us := [(s, .undef), (d, .osl sz (cs ++ rep m zs) (n + m) none)]) hg (fun σ' hD => ?_) he rfl (by simpa [rootsU, roots, refs] using hok) h
  have hx' : RdTo N true (upd σ' s .undef) x (.int k m) := RdTo.agree hx fun i hi => by
    simp only [upd]; split
    · rfl
    · exact hD i (List.mem_cons_of_mem _ hi)
  have := o_append_mk ho ht hel hit hz0 hd hN hsN (by rw [hD s (by simp)]; exact hs) hx' hm0 hc hcl hb
  rw [← upd_purge2 hsd] at this
  exact this
end
theorem blk_osl {σ : Sig} {q : Place} {sz n : Nat} {cap : Option Nat} {cs : List AV} (h : node (σ q.1) q.2 = some (.osl sz cs n cap)) : blk σ q = some cs := by simp [blk, h]
theorem node_row {A cs : List AV} {sz n j i : Nat} {cap : Option Nat} {y : AV} (hA : A[j]? = some (.osl sz cs n cap)) (h : cs[i]? = some y) : node (.op A) [j, i] = some y := by simp [node, kids, hA, h]
theorem setNode_row {A cs : List AV} {sz n j i : Nat} {cap : Option Nat} {y v : AV} (hA : A[j]? = some (.osl sz cs n cap)) (h : cs[i]? = some y) : setNode (.op A) [j, i] v = .op (A.set j (.osl sz (cs.set i v) n cap)) := by simp [setNode, kids, setKids, hA, h]
theorem snap_osl {σ : Sig} {q : Place} {n : Nat} {cs : List AV} (h : node (σ q.1) q.2 = some (.osl 1 cs n none)) (hp : pureL cs = true ∧ noNilL cs = true) : snapV σ (.rsl q 1 0 n none) = .sl cs n := by
  simp only [snapV, blk, h, List.drop_zero, shL_id cs hp.1 hp.2]
end Go.Av
namespace Go.Av
open Go
section
variable {e : Ctx} {σ σ' : Sig} {val val' : Nat → Value} {w w' : World} {β β' : Place → Option (Nat × Nat)} {F F' : Nat → Prop} {ds : List Deferred}
theorem Inv.own_cells (h : Inv e σ val w β F) {q : Place} {b s : Nat} (ho : OwnAt σ q) (hb : β q = some (b, s)) : ∃ arr t fz, w.heap[b]? = some (.cells arr t fz) := by
  obtain ⟨x, hx, ho⟩ := ho
  obtain ⟨u, hu⟩ := (h.rep q.1).sub hx
  have hb' : β (q.1, [] ++ q.2) = some (b, s) := by simpa using hb
  cases x <;> simp [AV.isOwn] at ho <;> simp only [Rep] at hu
  · rcases hu with ⟨h0, _⟩ | ⟨_, b', _, _, _, h0, _, _, _, hh, _⟩
    · rw [h0] at hb'; cases hb'
    · rw [h0] at hb'; cases hb'; exact ⟨_, _, _, hh⟩
  · obtain ⟨_, b', _, _, h0, _, hh, _⟩ := hu
    rw [h0] at hb'; cases hb'; exact ⟨_, _, _, hh⟩
def nonCells : Obj → Prop
  | .cells .. => False
  | _ => True
theorem Inv.putObj (h : Inv e σ val w β F) {l : Nat} {o o' : Obj} (hl : w.heap[l]? = some o) (hc : nonCells o) (hc' : nonCells o') (hF : ¬ F l) (hk : e.w0.heap.size ≤ l) : Inv e σ val (w.putObj l o') β F := by
  have hlt : l < w.heap.size := (Array.getElem?_eq_some_iff.1 hl).1
  refine h.ext (fun b hb => World.putObj_heap_other (fun e => by subst e; exact hF hb)) (fun q b s hq hb => World.putObj_heap_other fun e => ?_) (fun b hb _ => World.putObj_heap_other (by omega)) (by simp) ?_
  · subst e
    obtain ⟨arr, t, fz, hh⟩ := h.own_cells hq hb
    rw [hl] at hh; cases hh; exact hc
  · refine ⟨h.tame.1, h.tame.2.1, fun b arr t fz hb hh => ?_⟩
    by_cases hbl : b = l
    · subst hbl
      rw [World.putObj_heap_same hlt] at hh
      cases hh; exact hc'.elim
    · rw [World.putObj_heap_other hbl] at hh
      exact h.tame.2.2 b arr t fz hb hh
end
def LND : Nat := 2000000
section
variable {N : Nat} {e : Ctx} {σ σ' : Sig} {w w' : World} {β β' : Place → Option (Nat × Nat)} {F F' : Nat → Prop} {gv : Nat → Value} {a a' : Act}
def BaseOk (N : Nat) (τ : Sig) : List (Nat × AV) → Prop
  | [] => True
  | (i, v) :: L => (i < N ∧ (pureV v = true ∨ v = refd (LND + i, []) (τ (LND + i)))) ∧ BaseOk N τ L
def keysFrom (N : Nat) : List (Nat × AV) → Bool
  | [] => true
  | (i, _) :: L => decide (N ≤ i) && keysFrom N L
end
end Go.Av
namespace Go.Av
open Go
def MkOk (e : Ctx) (ds : List Deferred) (w : World) (F : Nat → Prop) : Prop :=
  ds = [] ∨ ∃ D, ds = [{ target := .collected D, args := #[] }] ∧ w.heap[D]? = some (.deferred (some [])) ∧ e.w0.heap.size ≤ D ∧ ¬ F D
structure AllM (N : Nat) (gv : Nat → Value) (e : Ctx) (σ : Sig) (a : Act) (w : World) : Prop where
  size : a.tmps.size = N
  inv : ∃ β F, MkOk e a.defers w F ∧ Inv e σ (valOf N gv a) w β F
def BCode (P : Program) (N : Nat) (m : Bool) (c : Code) (σ : Sig) (Φ : Exit → Sig → Prop) : Prop :=
  ∀ (gv : Nat → Value) (e : Ctx) (a : Act) (w : World), (m = false → a.defers = []) → AllM N gv e σ a w → ∀ Q : Exit → Act → World → Prop, (∀ x a' w' σ', Φ x σ' → AllM N gv e σ' a' w' → Q x a' w') → c.wp P Q a w
section
variable {P : Program} {N : Nat} {m : Bool} {σ σ' : Sig} {Φ : Exit → Sig → Prop} {c c' : Code}
theorem BCall.intro {f : FuncId} {fn : Func} {args objs objs2 : List AV} {res : AV} (hf : P.funcs[f]? = some fn) (hb : fn.body = some c) (hN : fn.ntmps = N) (hNI : N < INH) (ha : args.length ≤ N)
    (h : BCode P N false c (argSig args objs) (fun x s => match x with | .normal => Returns P fn N s res objs2 | .ret => Returns P fn N s res objs2 | _ => False)) : ACall P f args objs res objs2 := by
  intro e vs val w β F hl hval hi
  refine (callsIn_wide (n := 1)).1 (callsIn_of_wp_marks hf hb trivial (wpIn_wide.2 ?_))
  have hsz : (vs.toArray ++ Array.replicate (fn.ntmps - vs.toArray.size) undef).size = N := by simp [hN]; omega
  refine h (fun i => val i) e _ w (fun _ => rfl) ⟨hsz, β, F, .inl rfl, ?_⟩ _ fun x a' w' s hx ha' => ?_
  · refine ⟨fun i => ?_, hi.disj, hi.sep, hi.fr, hi.kept, hi.grow, hi.tame⟩
    by_cases hlt : i < vs.length
    · have := hi.rep i
      rw [hval i hlt] at this
      have e1 : valOf N (fun i => val i) { tmps := vs.toArray ++ Array.replicate (fn.ntmps - vs.toArray.size) undef, defers := [] } i = vs.getD i undef := by
        have : i < N := by omega
        simp only [valOf, this, if_true]
        rw [Array.getD_eq_getD_getElem?, Array.getElem?_append_left (by simpa using hlt)]
        simp
      rw [e1]; exact this
    · by_cases hN' : i < N
      · have : argSig args objs i = .undef := by
          have h1 : i < INH := by omega
          have h2 : args[i]? = none := List.getElem?_eq_none (by omega)
          simp [argSig, h1, h2]
        rw [this]; simp [Rep]
      · have := hi.rep i
        simpa [valOf, hN'] using this
  · have key : ∀ (_ : Returns P fn N s res objs2), LeavesInM Fence.wide 1 P fn a'.tmps (fun en w' => ∃ v β' F', en = .returned v ∧ Inv e (argSig [res] objs2) (upd val 0 v) w' β' F') a'.defers .returning w' := by
      intro hret
      obtain ⟨hsz', β', F', hk, hi'⟩ := ha'
      rcases hk with hk | ⟨D, h1, h2, h3, h4⟩
      · obtain ⟨v, hr, β'', F'', hi''⟩ := hret (fun i => val i) { e with ds := [] } a' w' ⟨hk, hsz', β', F', ⟨hi'.rep, hi'.disj, hi'.sep, hi'.fr, hi'.kept, hi'.grow, hi'.tame⟩⟩
        rw [hk]
        exact ⟨v, hr, v, β'', F'', rfl, ⟨hi''.rep, hi''.disj, hi''.sep, hi''.fr, hi''.kept, hi''.grow, hi''.tame⟩⟩
      · rw [h1]
        have hi2 : Inv e s (valOf N (fun i => val i) a') (w'.putObj D (.deferred none)) β' F' := hi'.putObj h2 trivial trivial h4 h3
        obtain ⟨v, hr, β'', F'', hi''⟩ := hret (fun i => val i) { e with ds := a'.defers } a' _ ⟨rfl, hsz', β', F', ⟨hi2.rep, hi2.disj, hi2.sep, hi2.fr, hi2.kept, hi2.grow, hi2.tame⟩⟩
        refine ⟨by simp, .inl ⟨D, _, rfl, run_takeDeferred h2, ?_⟩⟩
        exact ⟨v, hr, v, β'', F'', rfl, ⟨hi''.rep, hi''.disj, hi''.sep, hi''.fr, hi''.kept, hi''.grow, hi''.tame⟩⟩
    cases x <;> simp only at hx
    · exact key hx
    · exact key hx
end
end Go.Av
namespace Go.Av
open Go
def NrAll (τ : Sig) : List Nat → Prop
 | [] => True
 | s :: S => noRef (τ (LND + s)) = true ∧ NrAll τ S
structure LpOk (N : Nat) (S : List Nat) (LB LP : List (Nat × AV)) : Prop where
 keys : keysFrom N LP = true
 base : BaseOk N (look LP) LB
 nr : NrAll (look LP) S
end Go.Av
namespace Go.Av
open Go
section
variable {P : Program} {e : Ctx} {σ τ : Sig} {val : Nat → Value} {w : World} {β : Place → Option (Nat × Nat)} {F : Nat → Prop}
theorem callIO_coreG {f : FuncId} {args vs' : List AV} {res x0 x1 : AV} {q : Place} {vs : List Value} {d : Nat} (hc : ACall P f args [x0] res [x1]) (hr : noRef res = true) (hr1 : noRef x1 = true)
    (h : Inv e σ val w β F) (hz : node (σ q.1) q.2 = some x0) (hr0 : refs x0 = []) (hfr : ∀ b arr t fz, (∃ r y s, node x0 r = some y ∧ y.isOwn = true ∧ β (q.1, q.2 ++ r) = some (b, s)) → w.heap[b]? = some (.cells arr t fz) → fz = (0, 0))
    (hl : vs.length = args.length) (ha : RepL (passB q β) F w args (0, []) 0 vs) (hq2 : q.2 = []) (hai : ∀ c ∈ args, NoOwn c) (hlen : args.length < INH)
    (hds : d ≠ q.1) (hrs : ∀ p ∈ refs (σ q.1), p.1 ≠ q.1 ∧ p.1 ≠ d)
    (hτ : ∀ i, i ≠ q.1 → τ i = purgeV d (σ i) ∨ τ i = .undef)
    (hτr : ∀ i, i ≠ q.1 → ∀ p ∈ refs (τ i), p.1 = q.1 → p = q ∧ ∃ off, τ i = .rp q off) (hop0 : ∃ cs, x0 = .op cs) (hop1 : ∃ cs, x1 = .op cs) :
    Calls P f vs.toArray w fun en w' => ∃ v β' F2, en = .returned v ∧ Inv e (upd (upd τ q.1 (setNode (σ q.1) q.2 x1)) d res) (upd val d v) w' β' F2 := by
  obtain ⟨u, hu, hue⟩ : ∃ u, Rep β F w x0 (q.1, [] ++ q.2) u ∧ val q.1 = u := by
    have hx : σ q.1 = x0 := by rw [hq2] at hz; simpa [node] using hz
    exact ⟨val q.1, by rw [hq2, ← hx]; exact h.rep q.1, rfl⟩
  simp only [List.nil_append] at hu
  have hh := h.hole hz
  let inh : Nat → Prop := fun b => ∃ r y s, node x0 r = some y ∧ y.isOwn = true ∧ β (q.1, q.2 ++ r) = some (b, s)
  let G : Nat → Prop := F
  -- what is handed over is owned by nothing else
  have inh_own : ∀ {b}, inh b → ∃ p s, OwnAt σ p ∧ β p = some (b, s) ∧ (p.1 = q.1 ∧ q.2 <+: p.2) := fun {b} ⟨r, y, s, hy, ho, hb⟩ => ⟨(q.1, q.2 ++ r), s, ownAt_sub hz hy ho, hb, rfl, List.prefix_append _ _⟩
  have inh_not : ∀ {b}, inh b → ¬ F b ∧ (e.w0.heap.size ≤ b ∨ e.inh b) ∧ ∀ p s, OwnAt (hole σ q) p → β p ≠ some (b, s) := fun {b} hb => by
    obtain ⟨p, s, hp, hpb, hpq⟩ := inh_own hb
    refine ⟨(h.sep p b s hp hpb).1, (h.sep p b s hp hpb).2, fun p' s' hp' hb' => ?_⟩
    obtain ⟨h1, h2⟩ := ownAt_hole hz hp'
    have := h.disj p p' b s s' hp h1 hpb hb'
    subst this
    exact h2 hpq
  have hinv : Inv ⟨w, inh, G, []⟩ (argSig args [x0]) (fun i => if i = INH then u else vs.getD i undef) w (passB q β) G := by
    have own : ∀ {p}, OwnAt (argSig args [x0]) p → p.1 = INH ∧ ∃ y, node x0 p.2 = some y ∧ y.isOwn = true := by
      rintro ⟨i, r⟩ ⟨y, hy, ho⟩
      dsimp only at hy
      unfold argSig at hy
      split at hy
      · cases hx : args[i]? with
        | none => rw [hx] at hy; exact (undef_node hy ho).elim
        | some c =>
          rw [hx] at hy
          rw [hai c (List.mem_of_getElem? hx) r y hy] at ho; cases ho
      · rename_i hi
        cases hj : i - INH with
        | zero =>
          rw [hj] at hy
          exact ⟨by dsimp only; omega, y, by simpa using hy, ho⟩
        | succ k => rw [hj] at hy; simp at hy; exact (undef_node hy ho).elim
    refine ⟨fun i => ?_, fun p p' b s s' hp hp' hb hb' => ?_, fun p b s hp hb => ?_, fun b hb => ⟨?_, fun _ => hb⟩, fun _ _ _ => rfl, Nat.le_refl _, Tame.refl' w (fun b arr t fz hb hh => hfr b arr t fz hb hh)⟩
    · by_cases hi : i = INH
      · subst hi
        rw [argSig_inh']
        simp only [if_true]
        exact hu.tr _ (fun b hb => ⟨hb, rfl⟩) (fun r y _ _ => ⟨by simp [passB], fun _ _ _ => rfl⟩) (fun p hp => by rw [hr0] at hp; cases hp)
      · simp only [hi, if_false]
        unfold argSig
        split
        · cases hx : args[i]? with
          | none => simp [Rep]
          | some c =>
            obtain ⟨u', hu', hru⟩ := RepL_iff.1 ha i c hx
            rw [List.getD_eq_getElem?_getD, hu']
            exact hru.tr _ (fun b hb => ⟨hb, rfl⟩) (fun r y hy ho => by rw [hai c (List.mem_of_getElem? hx) r y hy] at ho; cases ho) (fun _ _ => rfl)
        · have : ([x0] : List AV)[i - INH]? = none := List.getElem?_eq_none (by simp; omega)
          rw [this]; simp [Rep]
    · obtain ⟨h1, y, hy, ho⟩ := own hp
      obtain ⟨h1', y', hy', ho'⟩ := own hp'
      simp only [passB, h1, h1', if_true] at hb hb'
      have := h.disj _ _ b s s' (ownAt_sub hz hy ho) (ownAt_sub hz hy' ho') hb hb'
      simp only [Prod.mk.injEq, true_and] at this
      exact Prod.ext (h1.trans h1'.symm) (List.append_cancel_left this)
    · obtain ⟨h1, y, hy, ho⟩ := own hp
      simp only [passB, h1, if_true] at hb
      have hi : inh b := ⟨p.2, y, s, hy, ho, hb⟩
      exact ⟨fun hG => (inh_not hi).1 hG, .inr hi⟩
    · exact (h.fr b hb).1
  refine (hc _ vs _ w _ _ hl (fun i hi => by
    have : i ≠ INH := by omega
    simp [this]) hinv).mono fun en w' ⟨v, β', F', he, hi⟩ => ⟨v, ?_⟩
  have hkept : ∀ b, b < w.heap.size → ¬ inh b → w'.heap[b]? = w.heap[b]? := fun b hb hnb => hi.kept b hb hnb
  have hgrow : w.heap.size ≤ w'.heap.size := hi.grow
  have oldnot : ∀ {p b s}, OwnAt (hole σ q) p → β p = some (b, s) → ¬ inh b := fun {p b s} hp hb hi => (inh_not hi).2.2 p s hp hb
  have hF' : ∀ b, F' b → F b ∨ w.heap.size ≤ b := fun b hb => by
    rcases Nat.lt_or_ge b w.heap.size with hlt | hge
    · exact .inl ((hi.fr b hb).2 hlt)
    · exact .inr hge
  let F2 : Nat → Prop := fun b => F b ∨ F' b
  have hH0 : Inv e (hole σ q) val w' β F := hh.ext (fun b hb => hkept b (h.fr b hb).1 (fun hi => (inh_not hi).1 hb)) (fun p b s hp hb => hkept b (hh.own_lt hp hb) (oldnot hp hb))
    (fun b hb hni => hkept b (Nat.lt_of_lt_of_le hb h.grow) (fun hi => by
      rcases (inh_not hi).2.1 with h1 | h1
      · omega
      · exact hni h1)) hgrow (h.tame.trans' hi.tame hkept)
  have hH : Inv e (hole σ q) val w' β F2 := hH0.moreF (fun b hb => .inl hb) (fun b hb => by
    rcases hb with hb | hb
    · exact hH0.fr b hb
    · refine ⟨(hi.fr b hb).1, fun hlt => ?_⟩
      rcases hF' b hb with hb | hge
      · exact (h.fr b hb).2 hlt
      · have := h.grow; omega) (fun p b s hp hb hF => by
    rcases hF with hF | hF
    · exact (hH0.sep p b s hp hb).1 hF
    · rcases hF' b hF with hF | hge
      · exact (hH0.sep p b s hp hb).1 hF
      · have := hh.own_lt hp hb; omega)
  have hres : argSig [res] [x1] 0 = res := argSig_zero _ _
  have hobj : argSig [res] [x1] INH = x1 := argSig_inh _ _
  have newb : ∀ {p b s}, OwnAt (argSig [res] [x1]) p → β' p = some (b, s) → ¬ F2 b ∧ (e.w0.heap.size ≤ b ∨ e.inh b) ∧ ∀ p' s', OwnAt (hole σ q) p' → β p' ≠ some (b, s') := fun {p b s} hp hb => by
    have hnF : ¬ F' b := (hi.sep p b s hp hb).1
    rcases (hi.sep p b s hp hb).2 with hge | hin
    · have hge : w.heap.size ≤ b := hge
      exact ⟨fun hF => by rcases hF with hF | hF; have := (h.fr b hF).1; omega; exact hnF hF, .inl (Nat.le_trans h.grow hge), fun p' s' hp' hb' => by have := hh.own_lt hp' hb'; omega⟩
    · exact ⟨fun hF => by rcases hF with hF | hF; exact (inh_not hin).1 hF; exact hnF hF, (inh_not hin).2⟩
  have d0 : Det e (hole σ q) w' β F2 res v (fun r => β' (0, r)) := by
    refine ⟨?_, refs_of_noRef res hr, fun r r' y y' b s s' hy ho hy' ho' hb hb' => ?_, fun r y b s hy ho hb => newb (p := (0, r)) ⟨y, by rw [hres]; exact hy, ho⟩ hb⟩
    · have := hi.rep 0
      rw [hres, upd_same] at this
      exact this.tr _ (fun b hb => ⟨.inr hb, rfl⟩) (fun r y _ _ => ⟨by simp, fun _ _ _ => rfl⟩) (fun p hp => by rw [refs_of_noRef res hr] at hp; cases hp)
    · have := hi.disj (0, r) (0, r') b s s' ⟨y, by rw [hres]; exact hy, ho⟩ ⟨y', by rw [hres]; exact hy', ho'⟩ hb hb'
      simpa using this
  have I1 := hH.attach d d0
  have hINH0 : (INH : Nat) ≠ 0 := by decide
  have repX := hi.rep INH
  rw [hobj, upd_other _ _ hINH0] at repX
  simp only [if_true] at repX
  have d1 : Det e (upd (fun i => purgeV d (hole σ q i)) d res) w' (fun p => if p.1 = d then β' (0, p.2) else β p) F2 x1 u (fun r => β' (INH, r)) := by
    refine ⟨?_, refs_of_noRef x1 hr1, fun r r' y y' b s s' hy ho hy' ho' hb hb' => ?_, fun r y b s hy ho hb => ⟨(newb (p := (INH, r)) ⟨y, by rw [hobj]; exact hy, ho⟩ hb).1, (newb (p := (INH, r)) ⟨y, by rw [hobj]; exact hy, ho⟩ hb).2.1, fun p s' hp hb' => ?_⟩⟩
    · exact repX.tr _ (fun b hb => ⟨.inr hb, rfl⟩) (fun r y _ _ => ⟨by simp, fun _ _ _ => rfl⟩) (fun p hp => by rw [refs_of_noRef x1 hr1] at hp; cases hp)
    · have := hi.disj (INH, r) (INH, r') b s s' ⟨y, by rw [hobj]; exact hy, ho⟩ ⟨y', by rw [hobj]; exact hy', ho'⟩ hb hb'
      simpa using this
    · by_cases hpd : p.1 = d
      · obtain ⟨y', hy', ho'⟩ := hp
        rw [hpd, upd_same] at hy'
        simp only [hpd, if_true] at hb'
        have := hi.disj (INH, r) (0, p.2) b s s' ⟨y, by rw [hobj]; exact hy, ho⟩ ⟨y', by rw [hres]; exact hy', ho'⟩ hb hb'
        simp [hINH0] at this
      · simp only [hpd, if_false] at hb'
        have hp' := (own_upd_other hpd).1 hp
        have : OwnAt (hole σ q) p := by
          obtain ⟨z, hz', hoz⟩ := hp'
          dsimp only at hz'
          rcases purgeV_or d (hole σ q p.1) with hp | hp
          · rw [hp] at hz'; exact ⟨z, hz', hoz⟩
          · rw [hp] at hz'; exact (undef_node hz' hoz).elim
        exact (newb (p := (INH, r)) ⟨y, by rw [hobj]; exact hy, ho⟩ hb).2.2 p s' this hb'
  have hs1 : upd (fun i => purgeV d (hole σ q i)) d res q.1 = setNode (σ q.1) q.2 .undef := by
    rw [upd_other _ _ (Ne.symm hds)]
    have : hole σ q q.1 = setNode (σ q.1) q.2 .undef := by simp [hole, upd]
    rw [this]
    exact purge_id fun p hp => (hrs p (refs_setNode (by simp [refs]) hz p hp)).2
  have hval : upd val d v q.1 = val q.1 := upd_other _ _ (Ne.symm hds)
  have hnz : node (upd (fun i => purgeV d (hole σ q i)) d res q.1) q.2 = some .undef := by rw [hs1]; exact node_set_self hz
  obtain ⟨b0, s0, hbq, hu0⟩ : ∃ b s, β q = some (b, s) ∧ u = .pointer (some ⟨b, 0, none⟩) := by
    obtain ⟨cs, rfl⟩ := hop0
    have hu' : Rep β F w (.op cs) q u := by simpa using hu
    simp only [Rep] at hu'
    obtain ⟨_, b, arr, t, h1, h2, _⟩ := hu'
    exact ⟨b, _, h1, h2⟩
  obtain ⟨s1, hbX⟩ : ∃ s, β' (INH, []) = some (b0, s) := by
    obtain ⟨cs, rfl⟩ := hop1
    have hx := repX
    simp only [Rep] at hx
    obtain ⟨_, b, arr, t, h1, h2, _⟩ := hx
    rw [hu0] at h2
    simp only [Value.pointer.injEq, Option.some.injEq, Addr.mk.injEq] at h2
    obtain ⟨rfl, _⟩ := h2
    exact ⟨_, h1⟩
  have hno1 : ¬ OwnAt (upd (fun i => purgeV d (hole σ q i)) d res) q := by
    rintro ⟨y, hy, ho⟩
    rw [hnz] at hy; cases hy; simp [AV.isOwn] at ho
  have hq1d : q.1 ≠ d := Ne.symm hds
  have I2 := I1.rebeta (q := q) (b := b0) (s := s0) s1 (by simp only [hq1d, if_false]; exact hbq) hno1 (τ := fun i => if i = q.1 then upd (fun i => purgeV d (hole σ q i)) d res q.1 else if i = d then res else τ i) (fun i => by
    by_cases h1 : i = q.1
    · subst h1; left; simp
    · simp only [h1, if_false]
      by_cases hid : i = d
      · subst hid; left; simp [upd_same]
      · simp only [hid, if_false]
        rw [upd_other _ _ hid]
        have : hole σ q i = σ i := by simp [hole, upd, h1]
        rw [this]
        exact hτ i h1) (fun i p hp hpq => by
    by_cases h1 : i = q.1
    · subst h1
      simp only [if_true] at hp
      rw [hs1] at hp
      exact absurd (by rw [hpq]) (hrs p (refs_setNode (by simp [refs]) hz p hp)).1
    · simp only [h1, if_false] at hp ⊢
      by_cases hid : i = d
      · simp only [hid, if_true] at hp
        rw [refs_of_noRef res hr] at hp; cases hp
      · simp only [hid, if_false] at hp ⊢
        exact (hτr i h1 p hp (by rw [hpq])).2)
  have own21 : ∀ p, OwnAt (fun i => if i = q.1 then upd (fun i => purgeV d (hole σ q i)) d res q.1 else if i = d then res else τ i) p → OwnAt (upd (fun i => purgeV d (hole σ q i)) d res) p := by
    rintro ⟨i, r⟩ ⟨y, hy, ho⟩
    dsimp only at hy
    by_cases h1 : i = q.1
    · subst h1; simp only [if_true] at hy; exact ⟨y, hy, ho⟩
    · simp only [h1, if_false] at hy
      by_cases hid : i = d
      · subst hid; simp only [if_true] at hy; exact ⟨y, by dsimp only; rw [upd_same]; exact hy, ho⟩
      · simp only [hid, if_false] at hy
        rcases hτ i h1 with ht | ht
        · refine ⟨y, ?_, ho⟩
          dsimp only
          rw [upd_other _ _ hid]
          have : hole σ q i = σ i := by simp [hole, upd, h1]
          rw [this, ← ht]; exact hy
        · rw [ht] at hy; exact (undef_node hy ho).elim
  have d2 : Det e (fun i => if i = q.1 then upd (fun i => purgeV d (hole σ q i)) d res q.1 else if i = d then res else τ i) w' (fun p => if p = q then some (b0, s1) else (if p.1 = d then β' (0, p.2) else β p)) F2 x1 u (fun r => β' (INH, r)) :=
    ⟨d1.rep, d1.nr, d1.inj, fun r y b s hy ho hb => ⟨(d1.sep r y b s hy ho hb).1, (d1.sep r y b s hy ho hb).2.1, fun p s' hp hb' => by
      have hp1 := own21 p hp
      have hne : p ≠ q := fun he => hno1 (by have h9 := hp1; rw [he] at h9; exact h9)
      simp only [hne, if_false] at hb'
      exact (d1.sep r y b s hy ho hb).2.2 p s' hp1 hb'⟩⟩
  have hs2 : (fun i => if i = q.1 then upd (fun i => purgeV d (hole σ q i)) d res q.1 else if i = d then res else τ i) q.1 = setNode (σ q.1) q.2 .undef := by simp only [if_true]; exact hs1
  have hnz2 : node ((fun i => if i = q.1 then upd (fun i => purgeV d (hole σ q i)) d res q.1 else if i = d then res else τ i) q.1) q.2 = some .undef := by rw [hs2]; exact node_set_self hz
  have fin := I2.put (τ := fun i => if i = d then res else τ i) hnz2 d2 (by
    rw [if_pos rfl, hs1, setNode_setNode hz, hval]
    have hs0 : setNode (σ q.1) q.2 x1 = x1 := by rw [hq2]; rfl
    have hu1 : val q.1 = u := hue
    rw [hs0, hu1]
    exact repX.tr _ (fun b hb => ⟨.inr hb, rfl⟩) (fun r y _ _ => ⟨by
        have := glueAt_in (β := fun p => if p = q then some (b0, s1) else (if p.1 = d then β' (0, p.2) else β p)) (t := q.1) (r := q.2) (s := r) (δ := fun r => β' (INH, r))
        rw [hq2] at this ⊢
        simpa using this, fun _ _ _ => rfl⟩) (fun p hp => by rw [refs_of_noRef x1 hr1] at hp; cases hp)) (fun i hiq => by
    simp only [hiq, if_false]
    left; trivial) (fun i hiq p hp => by
    by_cases hid : i = d
    · subst hid
      simp only [if_true] at hp
      rw [refs_of_noRef res hr] at hp; cases hp
    · simp only [hid, if_false] at hp
      by_cases hpq : p.1 = q.1
      · obtain ⟨hpe, _⟩ := hτr i hiq p hp hpq
        subst hpe
        have h1 := glueAt_in (β := fun r => if r = p then some (b0, s1) else (if r.1 = d then β' (0, r.2) else β r)) (t := p.1) (r := p.2) (s := []) (δ := fun r => β' (INH, r))
        rw [List.append_nil] at h1
        refine h1.trans ?_
        simp only [if_true]
        exact hbX
      · exact glueAt_out (fun hh => hpq hh.1))
  rw [if_pos rfl, hs1, setNode_setNode hz] at fin
  have e1 : upd (fun i => if i = d then res else τ i) q.1 (setNode (σ q.1) q.2 x1) = upd (upd τ q.1 (setNode (σ q.1) q.2 x1)) d res := by
    funext i
    by_cases h1 : i = q.1
    · subst h1; rw [upd_same, upd_other _ _ (Ne.symm hds), upd_same]
    · by_cases h2 : i = d
      · subst h2; rw [upd_other _ _ h1, upd_same]; simp
      · rw [upd_other _ _ h1, upd_other _ _ h2, upd_other _ _ h1]; simp [h2]
  rw [e1] at fin
  exact ⟨_, _, he, fin⟩
end
section
variable {P : Program} {N : Nat} {σ τ : Sig} {o : Oper} {d : Nat}
theorem step_IOG {f : FuncId} {args vs : List AV} {res x0 x1 : AV} {q : Place} {us : Act → List Value} (hc : ACall P f args [x0] res [x1]) (hd : o.dst = some d) (hN : d < N)
    (hrun : ∀ a w gv e β F, All N gv e σ a w → Inv e σ (valOf N gv a) w β F → (execOp a.eval o).run P w = .ok (.enter f (us a).toArray) w ∧ RepL β F w vs (0, []) 0 (us a) ∧ (us a).length = vs.length ∧ ∀ c ∈ vs, NoOwn c)
    (hz : node (σ q.1) q.2 = some x0) (hs : passL q (fun _ => .undef) vs = args) (hq2 : q.2 = []) (hr0 : refs x0 = []) (hr : noRef res = true) (hr1 : noRef x1 = true)
    (hlen : args.length < INH) (hds : d ≠ q.1) (hrs : (refs (σ q.1)).all (fun p => p.1 != q.1 && p.1 != d) = true) (hop0 : ∃ cs, x0 = .op cs) (hop1 : ∃ cs, x1 = .op cs)
    (hτ : ∀ i, i ≠ q.1 → τ i = purgeV d (σ i) ∨ τ i = .undef)
    (hτr : ∀ i, i ≠ q.1 → ∀ p ∈ refs (τ i), p.1 = q.1 → p = q ∧ ∃ off, τ i = .rp q off) :
    OStep P N o σ (upd (upd τ q.1 (setNode (σ q.1) q.2 x1)) d res) := by
  intro gv e a w ha K Q hK
  have ha0 := ha
  obtain ⟨hdf, hsz, β, F, hi⟩ := ha
  obtain ⟨h1, h2, h3, hno⟩ := hrun a w gv e β F ha0 hi
  have hi0 : Inv e (fun _ => .undef) (valOf N gv a) w β F := hi.weak (fun i => by simp [Rep]) (fun q ⟨y, hy, hoy⟩ => by
    cases hr : q.2 with
    | nil => rw [hr] at hy; simp [node] at hy; subst hy; simp [AV.isOwn] at hoy
    | cons j r => rw [hr] at hy; simp [node, kids] at hy)
  have hlent : ∀ b, lent (fun _ => .undef) β F b → F b := fun b hb => by
    rcases hb with hb | ⟨q, s, ⟨y, hy, hoy⟩, _⟩
    · exact hb
    · cases hr : q.2 with
      | nil => rw [hr] at hy; simp [node] at hy; subst hy; simp [AV.isOwn] at hoy
      | cons j r => rw [hr] at hy; simp [node, kids] at hy
  have hpass0 := hi0.passL q vs (p' := (0, [])) h2 (fun i c hc => hno c (List.mem_of_getElem? hc))
  rw [hs] at hpass0
  have hnoa : ∀ c ∈ args, NoOwn c := by rw [← hs]; exact noOwn_passL _ _ _ hno
  have hpass : RepL (passB q β) F w args (0, []) 0 (us a) := hpass0.tr _ (fun b hb => ⟨hlent b hb, rfl⟩) (fun i c r y hc hy ho => by
    rw [hnoa c (List.mem_of_getElem? hc) r y hy] at ho; cases ho) (fun _ _ _ _ => rfl)
  have hl : (us a).length = args.length := by rw [h3, ← hs, passL_eq]; simp
  have hrs' : ∀ p ∈ refs (σ q.1), p.1 ≠ q.1 ∧ p.1 ≠ d := fun p hp => by
    have := List.all_eq_true.1 hrs p hp
    simpa using this
  obtain ⟨vz, hvz⟩ := (hi.rep q.1).sub hz
  simp only [List.nil_append] at hvz
  refine upon_enter' h1 ((callIO_coreG hc hr hr1 hi hz hr0 (fun b arr t fz ⟨r, y, s, hy, ho, hb⟩ hh => own_fz hvz hy ho hb hh) hl hpass hq2 hnoa hlen hds hrs' hτ hτr hop0 hop1 (vs' := vs)).mono fun en w' ⟨v, β', F', he, hi'⟩ => ⟨v, he, hK _ _ ⟨?_, ?_, β', F', ?_⟩⟩)
  · rw [hd]; exact hdf
  · rw [hd, size_put]; exact hsz
  · rw [hd, valOf_put hsz hN]; exact hi'
theorem o_callIOg {f : FuncId} {xs : List Operand} {tys : Array TypeId} {vs args : List AV} {res : AV} {cs0 cs1 : List AV} {q : Place} (ho : o.op = fnCall f xs tys) (hf : hasBody P f = true) (hd : o.dst = some d) (hN : d < N) (hx : RdL N true σ xs vs)
    (hz : node (σ q.1) q.2 = some (.op cs0)) (hs : passL q (fun _ => .undef) vs = args) (hc : ACall P f args [.op cs0] res [.op cs1])
    (hq2 : q.2 = []) (hr0 : refs (.op cs0) = []) (hr : noRef res = true) (hr1 : noRef (.op cs1) = true) (hlen : args.length < INH) (hds : d ≠ q.1) (hrs : (refs (σ q.1)).all (fun p => p.1 != q.1 && p.1 != d) = true) :
    OStep P N o σ (upd (upd (fun i => keepP q (purgeV d (σ i))) q.1 (setNode (σ q.1) q.2 (.op cs1))) d res) :=
  step_IOG (us := fun a => xs.map a.eval) hc hd hN (fun a w gv e β F _ hi => run_fnCall ho hf hx hi) hz hs hq2 hr0 hr hr1 hlen hds hrs ⟨_, rfl⟩ ⟨_, rfl⟩
    (fun i _ => by
      rcases keepP_or q (purgeV d (σ i)) with h | h
      · exact .inl h
      · exact .inr h) (fun i _ p hp hpq => keepP_refs hp hpq)
end
end Go.Av
namespace Go.Av
open Go Go.Proofs Go.Sort
set_option maxRecDepth 10000
theorem fo92_0 : fieldOff Try.prog 92 0 = some 0 := by kernel_rfl
theorem fo92_1 : fieldOff Try.prog 92 1 = some 2 := by kernel_rfl
theorem fo92_2 : fieldOff Try.prog 92 2 = some 3 := by kernel_rfl
theorem fo92_3 : fieldOff Try.prog 92 3 = some 4 := by kernel_rfl
theorem hb82 : hasBody Try.prog 82 = true := by kernel_rfl
theorem sl86 : isSlice Try.prog 86 = true := by kernel_rfl
theorem ered_c (p vars : Int) (I : ImS) (x : List Int) (hp : prime p vars = true) (hI : InvI p (dn vars) I) (hx : x.length = dn vars) (hb : Bd p x) (hn : I.1.length ≤ 1000000) : ACall Try.prog 81 [.rp (INH, []) 0, .sl (icells x) (dn vars)] [.op [.int .i64 p, .int .i64 vars, .osl 1 (sls I.1) I.1.length none, .osl 1 (osls I.2) I.1.length none, .int .i64 ((I.1.length : Nat) : Int)]] (.tup [.sl (icells (lfI p (dn vars) I x)) (dn vars), .osl 1 (icells (mdI p (dn vars) I x)) I.1.length none]) [.op [.int .i64 p, .int .i64 vars, .osl 1 (sls I.1) I.1.length none, .osl 1 (osls I.2) I.1.length none, .int .i64 ((I.1.length : Nat) : Int)]] := by
 have hpp := prime_spec hp
 have hN := (dn_le hpp.2).2
 have hp5 := prime_or hp
 have hmd := hI.mdl
 refine ACall.intro Try.func81 rfl (N := 82) rfl (by decide) (by simp) ?_
 refine a_seq ?_
 refine a_region ?_
 refine rv (v := .nils) (v_assign il nf) ?_
 refine rv (v := .nils) (v_assign il nf) ?_
 refine r_nil ?_
 refine a_seq ?_
 refine a_region ?_
 refine rv (v := .rp _ _) (v_move il nf) ?_
 refine rv (v := .rp _ _) (v_nilCheck il rfl) ?_
 refine rv (v := .rp _ _) (v_fieldAddr_rp fo92_3 il) ?_
 refine rv (v := .int _ _) (v_load_rp1 ta3 il rfl (fun _ => rfl) rfl) ?_
 refine rn (v := .osl _ _ _ _) (q_makeSlice us89 sb3 zc3 rfl (by decide) il il (fun _ => by omega)) ?_
 refine rv (v := .rsl _ _ _ _ _) (v_assign il nf) ?_
 refine r_pre (ent_reloc_sl (t := 6) rfl rfl) ?_
 refine r_nil ?_
 refine a_seq ?_
 refine a_seq ?_
 refine a_region ?_
 refine rv (v := .rp _ _) (v_move il nf) ?_
 refine rv (v := .rp _ _) (v_nilCheck il rfl) ?_
 refine rv (v := .rp _ _) (v_fieldAddr_rp fo92_1 il) ?_
 refine rv (v := .rsl _ _ _ _ _) (v_load_rp (c := .osl _ _ _ _) ta86 il rfl (fun _ => rfl)) ?_
 refine rv (v := .int _ _) (v_len_rsl sl86 il) ?_
 refine rv (v := .int _ _) (v_move il nf) ?_
 refine r_nil ?_
 refine a_block ?_
 refine a_loop (X := Nat) (fun i => look [(0, .rp (INH, []) 0), (1, .sl (icells (sRd p (ldI (dn vars) I.1) I.1 x i)) (dn vars)), (6, .osl 1 (icells (sMd p (ldI (dn vars) I.1) I.1 I.2 x I.1.length i)) I.1.length none), (20, .rsl (INH, [2]) 1 0 I.1.length none), (21, .int .i64 ((I.1.length : Nat) : Int)), (22, .int .i64 ((i : Nat) : Int)), (INH, .op [.int .i64 p, .int .i64 vars, .osl 1 (sls I.1) I.1.length none, .osl 1 (osls I.2) I.1.length none, .int .i64 ((I.1.length : Nat) : Int)])]) (fun i => i ≤ I.1.length) (fun i => I.1.length - i) 0 (ent_look ⟨Weak.of_eq rfl, Weak.of_eq rfl, Weak.osl (by exact (icells_rep _)) rfl, Weak.of_eq rfl, Weak.of_eq rfl, Weak.of_eq rfl, Weak.of_eq rfl, trivial⟩) (Nat.zero_le _) (fun i hG => ?_)
 have hll := sRd_len (p := p) (ld := ldI (dn vars) I.1) (R := I.1) (a := x) i
 have hlb := sRd_bd (p := p) (ld := ldI (dn vars) I.1) (R := I.1) (by omega) hb i
 have hml := sMd_len (p := p) (ld := ldI (dn vars) I.1) (R := I.1) (M := I.2) (a := x) (n := I.1.length) i
 have hmb := sMd_bd (p := p) (ld := ldI (dn vars) I.1) (R := I.1) (M := I.2) (a := x) (n := I.1.length) (by omega) i
 refine a_seq ?_
 refine a_region ?_
 refine rv (v := .bool _) (v_lss il il) ?_
 refine r_nil ?_
 refine a_seq ?_
 refine a_cond rfl (fun ht23 => ?_) (fun ht23 => ?_)
 ·
  skip
  refine a_skip ?_
  refine a_seq ?_
  refine a_block ?_
  refine a_seq ?_
  have hi : i < I.1.length := (by simp at ht23; omega)
  obtain ⟨hr1, hr2⟩ := hI.rows i hi
  obtain ⟨hl1, hl2⟩ := hI.lds i hi
  have hl3 := hl2.1
  obtain ⟨hm1, hm2⟩ := hI.mds i hi
  have hfb := hlb (ldI (dn vars) I.1 i)
  have hz : (osls I.2)[i]? = some (.osl 1 (icells (gl I.2 i)) I.1.length none) := osls_getN (by omega) rfl hm1
  refine a_region ?_
  refine rv (v := .int _ _) (v_move il nf) ?_
  refine rv (v := .rp _ _) (v_indexAddr_rsl0 es86 il il (fun _ => by omega)) ?_
  refine rv (v := .sl (icells (gl I.1 i)) (gl I.1 i).length) (v_load_rp1 ta89 il rfl (fun _ => by rw [Int.toNat_natCast, Nat.mul_one]; exact sls_get hi) rfl) ?_
  refine rv (v := .int _ _) (v_assign il nf) ?_
  refine rv (v := .sl _ _) (v_assign il nf) ?_
  refine r_nil ?_
  refine a_seq ?_
  refine a_region ?_
  refine rv (v := .sl _ _) (v_move il nf) ?_
  refine rv (v := .sl _ _) (v_move il nf) ?_
  refine rn (v := .int .i64 ((ldI (dn vars) I.1 i : Nat) : Int)) (QSem.cast (q_call (vs := [.sl _ _]) (args := [.sl _ _]) hb82 ⟨il, trivial⟩ rfl (fun hA => leading_c (gl I.1 i) (by omega)) rfl rfl) (int_eq (by rw [hr1]; exact hl1))) ?_
  refine rv (v := .pp _ _) (v_indexAddr_sl es89 il il (fun _ => ⟨by omega, by omega, icells_ne (show ldI (dn vars) I.1 i < (sRd p (ldI (dn vars) I.1) I.1 x i).length by omega)⟩)) ?_
  refine rv (v := .int .i64 (gd (sRd p (ldI (dn vars) I.1) I.1 x i) (ldI (dn vars) I.1 i))) (v_load_pp ta3 il (fun _ => by rw [Nat.mul_one]; exact icells_get (gd_get (by omega))) rfl) ?_
  refine rv (v := .int _ _) (v_assign il nf) ?_
  refine r_nil ?_
  refine a_seq ?_
  refine a_region ?_
  refine rv (v := .int _ _) (v_move il nf) ?_
  refine rv (v := .bool _) (v_neq il il) ?_
  refine r_nil ?_
  refine a_cond rfl (fun ht33 => ?_) (fun ht33 => ?_)
  ·
   skip
   refine a_seq ?_
   have hf0 : (gd (sRd p (ldI (dn vars) I.1) I.1 x i) (ldI (dn vars) I.1 i)) ≠ 0 := (by simpa using ht33)
   refine a_pre (ent_eq (t := 8) (v' := .sl (icells (gl I.1 i)) (dn vars)) (Weak.of_eq (sl_eq2 rfl hr1))) ?_
   refine a_region_tail (n := 14) mixed (by kernel_rfl) ?_
   refine t_val (v := .rp _ _) (v_move (.inl rfl) nf) rfl rfl (by decide) (by kernel_rfl) ?_
   refine t_val (v := .rp _ _) (v_nilCheck (.inl rfl) rfl) rfl rfl (by decide) (by kernel_rfl) ?_
   refine t_val (v := .rp _ _) (v_fieldAddr_rp fo92_0 (.inl rfl)) rfl rfl (by decide) (by kernel_rfl) ?_
   refine t_val (v := .agg [.int _ _, .int _ _]) (v_load_rpa1 ta83 (.inl rfl) rfl rfl (fun _ => rfl) rfl) rfl rfl (by decide) (by kernel_rfl) ?_
   refine t_val (v := .sl _ _) (v_move (.inl rfl) nf) rfl rfl (by decide) (by kernel_rfl) ?_
   refine t_val (v := .sl _ _) (v_move (.inl rfl) nf) rfl rfl (by decide) (by kernel_rfl) ?_
   refine t_val (v := .rp _ _) (v_move (.inl rfl) nf) rfl rfl (by decide) (by kernel_rfl) ?_
   refine t_val (v := .rp _ _) (v_nilCheck (.inl rfl) rfl) rfl rfl (by decide) (by kernel_rfl) ?_
   refine t_val (v := .rp _ _) (v_fieldAddr_rp fo92_0 (.inl rfl)) rfl rfl (by decide) (by kernel_rfl) ?_
   refine t_val (v := .rp _ _) (v_fieldAddr_rp fo83_0 (.inl rfl)) rfl rfl (by decide) (by kernel_rfl) ?_
   refine t_val (v := .int _ _) (v_load_rp1 ta3 (.inl rfl) rfl (fun _ => rfl) rfl) rfl rfl (by decide) (by kernel_rfl) ?_
   refine t_val (v := .int _ _) (v_move (.inl rfl) nf) rfl rfl (by decide) (by kernel_rfl) ?_
   refine t_val (v := .int _ _) (v_sub (.inl rfl) (.inl rfl) (fun _ => by omega)) rfl rfl (by decide) (by kernel_rfl) ?_
   refine t_new (v := .sl (icells (sRd p (ldI (dn vars) I.1) I.1 x (i + 1))) (dn vars)) (QSem.cast (q_callZ (vs := [.agg [.int _ _, .int _ _], .sl _ _, .sl _ _, .int _ _]) (args := [.agg [.int .i64 _, .int .i64 _], .sl _ _, .sl _ _, .int .i64 _]) hb84 ⟨.inl rfl, .inl rfl, .inl rfl, .inl rfl, trivial⟩ rfl (fun hA => plus_c p vars (sRd p (ldI (dn vars) I.1) I.1 x i) (gl I.1 i) (dn vars) (p - (gd (sRd p (ldI (dn vars) I.1) I.1 x i) (ldI (dn vars) I.1 i))) ⟨by omega, by omega⟩ ⟨by omega, by omega, by omega⟩ hlb hr2 ⟨by omega, by omega⟩) (ic_noSh _) (ic_noRef _)) (sl_shZ (ic_pure _))) rfl rfl (by decide) (by kernel_rfl) ?_
   refine t_nil ?_
   refine rv (v := .sl _ _) (v_assign il nf) ?_
   refine r_nil ?_
   refine a_seq ?_
   refine a_pre (ent_look (L := [(0, .rp _ _), (1, .sl _ _), (6, .osl _ _ _ _), (7, .int _ _), (9, .int _ _), (20, .rsl _ _ _ _ _), (21, .int _ _), (22, .int _ _), (INH, .op [.int _ _, .int _ _, .osl _ _ _ _, .osl _ _ _ _, .int _ _])]) ⟨Weak.rfl, Weak.rfl, Weak.rfl, Weak.rfl, Weak.rfl, Weak.rfl, Weak.rfl, Weak.rfl, Weak.rfl, trivial⟩) ?_
   refine a_region ?_
   refine rv (v := .rp _ _) (v_move il nf) ?_
   refine rv (v := .rp _ _) (v_nilCheck il rfl) ?_
   refine rv (v := .rp _ _) (v_fieldAddr_rp fo92_2 il) ?_
   refine rv (v := .rsl _ _ _ _ _) (v_load_rp (c := .osl _ _ _ _) ta86 il rfl (fun _ => rfl)) ?_
   refine rv (v := .int _ _) (v_move il nf) ?_
   refine rv (v := .rp _ _) (v_indexAddr_rsl0 es86 il il (fun _ => by omega)) ?_
   refine rv (v := .rsl (INH, [3, i]) 1 0 I.1.length none) ((v_load_rp (c := .osl _ _ _ _) ta89 il rfl (fun _ => by rw [Int.toNat_natCast, Nat.mul_one]; exact hz)).cast ((by show AV.rsl (INH, [3] ++ [(i : Int).toNat * 1]) 1 0 _ none = _; rw [Int.toNat_natCast, Nat.mul_one]; rfl))) ?_
   refine rv (v := .int _ _) (v_len_rsl sl89 il) ?_
   refine rv (v := .int _ _) (v_move il nf) ?_
   refine r_nil ?_
   refine a_block ?_
   refine a_loop (X := Nat) (fun k => look [(0, .rp (INH, []) 0), (1, .sl (icells (sRd p (ldI (dn vars) I.1) I.1 x (i + 1))) (dn vars)), (6, .osl 1 (icells (mixL (sMd p (ldI (dn vars) I.1) I.1 I.2 x I.1.length (i + 1)) (sMd p (ldI (dn vars) I.1) I.1 I.2 x I.1.length i) k)) I.1.length none), (9, .int .i64 (gd (sRd p (ldI (dn vars) I.1) I.1 x i) (ldI (dn vars) I.1 i))), (20, .rsl (INH, [2]) 1 0 I.1.length none), (21, .int .i64 ((I.1.length : Nat) : Int)), (22, .int .i64 ((i : Nat) : Int)), (54, .rsl (INH, [3, i]) 1 0 I.1.length none), (55, .int .i64 ((I.1.length : Nat) : Int)), (56, .int .i64 ((k : Nat) : Int)), (INH, .op [.int .i64 p, .int .i64 vars, .osl 1 (sls I.1) I.1.length none, .osl 1 (osls I.2) I.1.length none, .int .i64 ((I.1.length : Nat) : Int)])]) (fun k => k ≤ I.1.length) (fun k => I.1.length - k) 0 (ent_look ⟨Weak.of_eq rfl, Weak.of_eq rfl, Weak.osl (by rw [mixL_zero]) rfl, Weak.of_eq rfl, Weak.of_eq rfl, Weak.of_eq rfl, Weak.of_eq rfl, Weak.of_eq rfl, Weak.of_eq rfl, Weak.of_eq rfl, Weak.of_eq rfl, trivial⟩) (Nat.zero_le _) (fun k hG => ?_)
   refine a_seq ?_
   refine a_region ?_
   refine rv (v := .bool _) (v_lss il il) ?_
   refine r_nil ?_
   refine a_seq ?_
   refine a_cond rfl (fun ht57 => ?_) (fun ht57 => ?_)
   ·
    skip
    refine a_skip ?_
    refine a_seq ?_
    refine a_block ?_
    refine a_seq ?_
    have hk : k < I.1.length := (by simp at ht57; omega)
    have hgm : gd (mixL (sMd p (ldI (dn vars) I.1) I.1 I.2 x I.1.length (i + 1)) (sMd p (ldI (dn vars) I.1) I.1 I.2 x I.1.length i) k) k = gd (sMd p (ldI (dn vars) I.1) I.1 I.2 x I.1.length i) k := (by rw [gd_mixL (by rw [sMd_len, sMd_len]), if_neg (by omega)])
    have hmul := mul_bd (a := (gd (sRd p (ldI (dn vars) I.1) I.1 x i) (ldI (dn vars) I.1 i))) (b := gd (gl I.2 i) k) (p := p) ⟨by omega, by omega⟩ (hm2 k) hpp.1.2
    have hbk := hmb k
    have hpl : k * 1 + 1 ≤ (icells (mixL (sMd p (ldI (dn vars) I.1) I.1 I.2 x I.1.length (i + 1)) (sMd p (ldI (dn vars) I.1) I.1 I.2 x I.1.length i) k)).length := (by rw [icells_length, mixL_length (by rw [sMd_len, sMd_len])]; omega)
    have hset : (icells (mixL (sMd p (ldI (dn vars) I.1) I.1 I.2 x I.1.length (i + 1)) (sMd p (ldI (dn vars) I.1) I.1 I.2 x I.1.length i) k)).set (k * 1) (.int .i64 ((gd (sMd p (ldI (dn vars) I.1) I.1 I.2 x I.1.length i) k + (gd (sRd p (ldI (dn vars) I.1) I.1 x i) (ldI (dn vars) I.1 i)) * gd (gl I.2 i) k) % p)) = icells (mixL (sMd p (ldI (dn vars) I.1) I.1 I.2 x I.1.length (i + 1)) (sMd p (ldI (dn vars) I.1) I.1 I.2 x I.1.length i) (k + 1)) := (by rw [Nat.mul_one, icells_set, ← gd_axp (by omega), show axp p (gd (sRd p (ldI (dn vars) I.1) I.1 x i) (ldI (dn vars) I.1 i)) (sMd p (ldI (dn vars) I.1) I.1 I.2 x I.1.length i) (gl I.2 i) = (sMd p (ldI (dn vars) I.1) I.1 I.2 x I.1.length (i + 1)) from rfl, mixL_set (by rw [sMd_len, sMd_len]) (by omega)])
    refine a_region ?_
    refine rv (v := .int _ _) (v_move il nf) ?_
    refine rv (v := .rp _ _) (v_indexAddr_rsl0 es89 il il (fun _ => by omega)) ?_
    refine rv (v := .int .i64 (gd (gl I.2 i) k)) (v_load_rp1 ta3 il (blk_osl (by show node (.op _) [3, i] = _; exact node_row rfl hz)) (fun _ => by rw [Nat.mul_one]; exact icells_get (gd_get (by omega))) rfl) ?_
    refine rv (v := .int _ _) (v_assign il nf) ?_
    refine rv (v := .int _ _) (v_assign il nf) ?_
    refine r_nil ?_
    refine a_region_w [(61, true), (62, true), (63, true), (64, true), (65, true), (66, true), (67, true), (68, true), (69, true), (70, true), (71, true), (72, true), (73, true), (74, true), (75, true), (76, true), (77, true), (6, false)] mixed (by kernel_rfl) ?_
    refine wv (v := .rsl _ _ _ _ _) (v_move il nf) ?_
    refine wv (v := .int _ _) (v_move il nf) ?_
    refine wv (v := .rsl _ _ _ _ _) (v_move il nf) ?_
    refine wv (v := .int _ _) (v_move il nf) ?_
    refine wv (v := .rp _ _) (v_indexAddr_rsl0 es89 il il (fun _ => by omega)) ?_
    refine wv (v := .int .i64 (gd (sMd p (ldI (dn vars) I.1) I.1 I.2 x I.1.length i) k)) (v_load_rp1 ta3 il rfl (fun _ => by rw [Nat.mul_one, ← hgm]; exact icells_get (gd_get (by rw [mixL_length (by rw [sMd_len, sMd_len])]; omega))) rfl) ?_
    refine wv (v := .int _ _) (v_move il nf) ?_
    refine wv (v := .int _ _) (v_move il nf) ?_
    refine wv (v := .int _ _) (v_mul il il (fun _ => by omega)) ?_
    refine wv (v := .int _ _) (v_add il il (fun _ => by omega)) ?_
    refine wv (v := .rp _ _) (v_move il nf) ?_
    refine wv (v := .rp _ _) (v_nilCheck il rfl) ?_
    refine wv (v := .rp _ _) (v_fieldAddr_rp fo92_0 il) ?_
    refine wv (v := .rp _ _) (v_fieldAddr_rp fo83_0 il) ?_
    refine wv (v := .int _ _) (v_load_rp1 ta3 il rfl (fun _ => rfl) rfl) ?_
    refine wv (v := .int _ _) (v_rem il il (fun _ => ⟨by omega, by omega⟩)) ?_
    refine wv (v := .rp _ _) (v_indexAddr_rsl0 es89 il il (fun _ => by omega)) ?_
    refine w_store (v := .int _ _) (y' := .osl _ _ _ _) rfl rfl rfl ta3 (.inl rfl) (.inl rfl) rfl rfl rfl rfl rfl rfl hpl (by decide) rfl (congrArg (fun c => AV.osl 1 c I.1.length none) hset) rfl (by kernel_rfl) ?_
    refine w_nil ?_
    refine a_pre (ent_look (L := [(0, .rp _ _), (1, .sl _ _), (6, .osl _ _ _ _), (9, .int _ _), (20, .rsl _ _ _ _ _), (21, .int _ _), (22, .int _ _), (54, .rsl _ _ _ _ _), (55, .int _ _), (56, .int _ _), (INH, .op [.int _ _, .int _ _, .osl _ _ _ _, .osl _ _ _ _, .int _ _])]) ⟨Weak.rfl, Weak.rfl, Weak.rfl, Weak.rfl, Weak.rfl, Weak.rfl, Weak.rfl, Weak.rfl, Weak.rfl, Weak.rfl, Weak.rfl, trivial⟩) ?_
    refine a_region ?_
    refine rv (v := .int _ _) (v_add il il (fun _ => by omega)) ?_
    refine rv (v := .int _ _) (v_move il nf) ?_
    refine r_nil ?_
    refine ⟨k + 1, ent_look ⟨Weak.of_eq rfl, Weak.of_eq rfl, Weak.of_eq rfl, Weak.of_eq rfl, Weak.of_eq rfl, Weak.of_eq rfl, Weak.of_eq rfl, Weak.of_eq rfl, Weak.of_eq rfl, Weak.of_eq (int_eq (by omega)), Weak.of_eq rfl, trivial⟩, by omega, by omega⟩
   ·
    skip
    refine a_exit ?_
    refine a_region ?_
    refine rv (v := .int _ _) (v_add il il (fun _ => by omega)) ?_
    refine rv (v := .int _ _) (v_move il nf) ?_
    refine r_nil ?_
    have hdone : (mixL (sMd p (ldI (dn vars) I.1) I.1 I.2 x I.1.length (i + 1)) (sMd p (ldI (dn vars) I.1) I.1 I.2 x I.1.length i) k) = (sMd p (ldI (dn vars) I.1) I.1 I.2 x I.1.length (i + 1)) := mix_done hmb (.inr (.inr (by simp at ht57; omega)))
    refine ⟨i + 1, ent_look ⟨Weak.of_eq rfl, Weak.of_eq rfl, Weak.osl (by rw [hdone]) rfl, Weak.of_eq rfl, Weak.of_eq rfl, Weak.of_eq (int_eq (by omega)), Weak.of_eq rfl, trivial⟩, by omega, by omega⟩
  ·
   skip
   refine a_skip ?_
   refine a_region ?_
   refine rv (v := .int _ _) (v_add il il (fun _ => by omega)) ?_
   refine rv (v := .int _ _) (v_move il nf) ?_
   refine r_nil ?_
   have hf0 : (gd (sRd p (ldI (dn vars) I.1) I.1 x i) (ldI (dn vars) I.1 i)) = 0 := (by simpa using ht33)
   have hs1 : (sRd p (ldI (dn vars) I.1) I.1 x (i + 1)) = (sRd p (ldI (dn vars) I.1) I.1 x i) := axp_same hlb (.inr (by rw [hf0, Int.sub_zero]))
   have hs2 : (sMd p (ldI (dn vars) I.1) I.1 I.2 x I.1.length (i + 1)) = (sMd p (ldI (dn vars) I.1) I.1 I.2 x I.1.length i) := axp_same hmb (.inl hf0)
   refine ⟨i + 1, ent_look ⟨Weak.of_eq rfl, Weak.of_eq (sl_eq2 (by rw [hs1]) rfl), Weak.osl (by rw [hs2]) rfl, Weak.of_eq rfl, Weak.of_eq rfl, Weak.of_eq (int_eq (by omega)), Weak.of_eq rfl, trivial⟩, by omega, by omega⟩
 ·
  skip
  refine a_exit ?_
  refine a_seq ?_
  refine a_region ?_
  refine rv (v := .sl _ _) (v_move il nf) ?_
  refine rv (v := .rsl _ _ _ _ _) (v_move il nf) ?_
  refine rv (v := .sl _ _) (v_assign il nf) ?_
  refine rv (v := .rsl _ _ _ _ _) (v_assign il nf) ?_
  refine r_pre (ent_reloc_sl (t := 5) rfl rfl) ?_
  refine r_nil ?_
  refine a_ret ?_
  refine retLO (rs := [.tmp 4, .tmp 5]) [(4, _), (5, .osl _ _ _ none)] ⟨Weak.of_eq rfl, Weak.rfl, Weak.osl rfl rfl, trivial⟩ rfl Try.results81 (by decide) ⟨by decide, by decide, rfl⟩ (by decide) (by decide) (l2_eq (sl_eq2 ?_ ?_) (osl_eq2 ?_ ?_)) rfl rfl
  all_goals (have hie : i = I.1.length := (by simp at ht23; omega); subst hie; rfl)
end Go.Av
namespace Go.Av
open Go
section
variable {P : Program} {N : Nat} {A : Bool} {σ : Sig} {ty : TypeId} {o : Oper} {d : Nat}
theorem o_store_ownU {t off s y : Nat} {g : Bool} {q : Place} {x : Operand} {z v y' : AV} (ho : o.op = .store t x (.tmp y)) (hd : o.dst = none) (ht : tyAgg P t = some (g, s)) (hx : RdTo N true σ x (.rp q off)) (hyN : y < N) (hy : σ y = v)
    (hyq : Nat.beq y q.1 = false) (hv : bigV v = true) (hn : noRefL (cellsOf v) = true) (hrv : refs v = [])
    (hz : node (σ q.1) q.2 = some z) (hzo : z.isOwn = true) (hc : cellL (cellsOf v) = true) (hs : (cellsOf v).length = s) (hl : off + s ≤ (kids z).length)
    (hr : refs (σ q.1) = []) (hres : setNode (σ q.1) q.2 (setKids z (setL (kids z) off (cellsOf v))) = y') : OStep P N o σ (upd (fun i => purgeU q (upd σ y .undef i)) q.1 y') := by
  intro gv e a w ⟨hdf, hsz, β, F, hi⟩ K Q hK
  have hyq' : y ≠ q.1 := fun h => by subst h; simp at hyq
  have ex := hx.rep rfl (fun _ _ => rfl) hi (0, [])
  obtain ⟨hi1, hd1⟩ := hi.detach_slot (t := y) (by rw [hy]; exact hrv)
  rw [hy] at hd1
  have hval : valOf N gv a y = a.eval (.tmp y) := by simp [valOf, hyN, Act.eval]
  rw [hval] at hd1
  obtain ⟨δ', hd2⟩ := hd1.cellsOf hv hn
  have hul := hd2.repL.1
  have hur := hd2.repL.2
  have hz1 : node (upd σ y .undef q.1) q.2 = some z := by rw [upd_other _ _ (Ne.symm hyq')]; exact hz
  have hr1 : refs (upd σ y .undef q.1) = [] := by rw [upd_other _ _ (Ne.symm hyq')]; exact hr
  have hq : blk (upd σ y .undef) q = some (kids z) := by
    unfold blk; rw [hz1]
    cases z <;> simp [AV.isOwn] at hzo <;> rfl
  simp only [Rep] at ex
  obtain ⟨b, s1, hb1, ex⟩ := ex
  rcases hi1.block hq with ⟨hb2, _⟩ | ⟨b2, s2, arr, tt, hb2, hh, hrc, hnr⟩
  · rw [hb1] at hb2; cases hb2
  · rw [hb1] at hb2
    simp only [Option.some.injEq, Prod.mk.injEq] at hb2
    obtain ⟨rfl, rfl⟩ := hb2
    have hcl := hrc.len
    simp only [Array.length_toList] at hcl
    have hrun := run_storeAt (b := b) (off := off) ht (v := a.eval (.tmp y)) (hul.trans hs) hh (by omega) (ones_of hur hul hc)
    obtain ⟨β', h⟩ := hi1.store (ns := cellsOf v) (off := off) (cs := kids z) hz1 hzo rfl hb1 hh hr1 hd2 hn hnr (by rw [← hul]; omega) (σ1 := fun i => purgeU q (upd σ y .undef i)) (fun i _ => purge_under i)
    rw [upd_other _ _ (Ne.symm hyq'), hres] at h
    refine wp_unit (w' := w.setRow b (spliceV arr.toList off (a.eval (.tmp y)).cells.toList).toArray) ?_ (hK _ _ ⟨?_, ?_, β', F, ?_⟩)
    · simp only [execOp, ho, ex, hrun, Sem.run_bind, Sem.run_pure, Result.andThen_ok]
    · rw [hd]; exact hdf
    · rw [hd]; exact hsz
    · rw [hd]; exact h
end
end Go.Av
namespace Go.Av
open Go Go.Proofs Go.Sort
set_option maxRecDepth 10000
theorem hb81 : hasBody Try.prog 81 = true := by kernel_rfl
theorem hb83 : hasBody Try.prog 83 = true := by kernel_rfl
set_option maxHeartbeats 6400000 in
theorem eadd_c (p vars : Int) (I : ImS) (x : List Int) (hp : prime p vars = true) (hI : InvI p (dn vars) I) (hx : x.length = dn vars) (hb : Bd p x) (hn : I.1.length ≤ 1000000) : ACall Try.prog 66 [.rp (INH, []) 0, .sl (icells x) (dn vars)] [.op [.int .i64 p, .int .i64 vars, .osl 1 (sls I.1) I.1.length none, .osl 1 (osls I.2) I.1.length none, .int .i64 ((I.1.length : Nat) : Int)]] (.bool (!decide ((lI p (dn vars) I x) < 0))) [.op [.int .i64 p, .int .i64 vars, .osl 1 (sls (stI p (dn vars) I x).1) (stI p (dn vars) I x).1.length none, .osl 1 (osls (stI p (dn vars) I x).2) (stI p (dn vars) I x).1.length none, .int .i64 (((stI p (dn vars) I x).1.length : Nat) : Int)]] := by
 have hpp := prime_spec hp
 have hN := (dn_le hpp.2).2
 have hp5 := prime_or hp
 have hmd := hI.mdl
 have hlfl := lfI_len (p := p) (I := I) hx
 have hlfb := lfI_bd (p := p) (N := dn vars) (I := I) (by omega) hb
 have hmdl := mdI_len (p := p) (N := dn vars) (I := I) (x := x)
 have hmdb := mdI_bd (p := p) (N := dn vars) (I := I) (x := x) (by omega)
 refine ACall.intro Try.func66 rfl (N := 222) rfl (by decide) (by simp) ?_
 refine a_seq ?_
 refine a_region ?_
 refine rv (v := .bool _) (v_assign il nf) ?_
 refine r_nil ?_
 refine a_seq ?_
 refine a_region ?_
 refine rv (v := .rp _ _) (v_move il nf) ?_
 refine rv (v := .sl _ _) (v_move il nf) ?_
 refine r_step rfl (o_callIOg (q := (INH, [])) (vs := [.rp _ _, .sl _ _]) (args := [.rp (INH, []) _, .sl _ _]) (cs0 := [.int _ _, .int _ _, .osl _ _ _ _, .osl _ _ _ _, .int _ _]) (cs1 := [.int _ _, .int _ _, .osl _ _ _ _, .osl _ _ _ _, .int _ _]) (res := .tup [.sl _ _, .osl _ _ _ _]) rfl hb81 rfl (by decide) ⟨.inl rfl, .inl rfl, trivial⟩ rfl rfl (ered_c p vars I x hp hI hx hb (by omega)) rfl rfl (by simp [noRef, noRefL, ic_noRef]) (by simp [noRef, noRefL, sls_noRef, osls_noRef]) (Nat.le_of_ble_eq_true rfl) (by decide) rfl) ?_
 refine rv (v := .tup [.sl _ _, .rsl _ _ _ _ _]) (v_mv rfl) ?_
 refine rv (v := .sl _ _) (v_extract rfl rfl) ?_
 refine rv (v := .rsl _ _ _ _ _) (v_extract rfl rfl) ?_
 refine rv (v := .sl _ _) (v_assign il nf) ?_
 refine rv (v := .rsl _ _ _ _ _) (v_assign il nf) ?_
 refine r_pre (ent_reloc_sl (t := 6) rfl rfl) ?_
 refine r_nil ?_
 refine a_seq ?_
 refine a_pre (ent_eq (t := 5) (v' := .sl (icells (lfI p (dn vars) I x)) (lfI p (dn vars) I x).length) (Weak.of_eq (sl_eq2 rfl hlfl.symm))) ?_
 refine a_region ?_
 refine rv (v := .sl _ _) (v_move il nf) ?_
 refine rn (v := .int .i64 (lI p (dn vars) I x)) (QSem.cast (q_call (vs := [.sl _ _]) (args := [.sl _ _]) hb82 ⟨il, trivial⟩ rfl (fun hA => leading_c (lfI p (dn vars) I x) (by omega)) rfl rfl) (int_eq (by rw [hlfl]; rfl))) ?_
 refine rv (v := .int _ _) (v_assign il nf) ?_
 refine r_nil ?_
 refine a_seq ?_
 refine a_seq ?_
 refine a_region ?_
 refine rv (v := .int _ _) (v_move il nf) ?_
 refine rv (v := .bool _) (v_lss il il) ?_
 refine r_nil ?_
 refine a_cond rfl (fun ht26 => ?_) (fun ht26 => ?_)
 ·
  skip
  refine a_seq ?_
  have hneg : (lI p (dn vars) I x) < 0 := (by simpa using ht26)
  have hst := stI_no (I := I) (x := x) hneg
  refine a_region ?_
  refine rv (v := .bool _) (v_assign il nf) ?_
  refine r_nil ?_
  refine a_ret ?_
  refine ret1 Try.results66 (by decide) (by decide) (Weak.of_eq (bool_eq ?_)) rfl (Leaves.one (Weak.of_eq (by rw [hst]; rfl)) rfl)
  rw [decide_eq_true hneg]; rfl
 ·
  skip
  refine a_skip ?_
  refine a_seq ?_
  have hng : ¬ (lI p (dn vars) I x) < 0 := (by simpa using ht26)
  have hst := stI_yes (I := I) (x := x) hng
  obtain ⟨m, q1, q2, q3, q4, q5, q6, q7⟩ := I_new hp5 hx hN hb hng
  have hmN := q2.1
  have hgq : 0 < gd (lfI p (dn vars) I x) (lI p (dn vars) I x).toNat ∧ gd (lfI p (dn vars) I x) (lI p (dn vars) I x).toNat < p := (by rw [q1, Int.toNat_natCast]; exact ⟨q3, q4⟩)
  have hsm : (sclM p (ivI p (dn vars) I x) (mdI p (dn vars) I x)).length = I.1.length := (by rw [sclM_length, hmdl])
  have howl : (owI p (dn vars) I x).length = (I.1.length + 1) := owI_len
  have howb := owI_bd (N := dn vars) (I := I) (x := x) (p := p) (by omega) ⟨by omega, q7⟩
  have hrwl : (rwI p (dn vars) I x).length = dn vars := rwI_len
  have hrwb : Bd p (rwI p (dn vars) I x) := axp_bd (by omega) _ _ _
  have hurl0 := upR_len (p := p) (N := dn vars) (I := I) (x := x)
  have huml0 := upM_len (p := p) (N := dn vars) (I := I) (x := x)
  have hurl : (upR p (dn vars) I x).length = I.1.length := hurl0
  have huml : (upM p (dn vars) I x).length = I.2.length := huml0.trans hmd.symm
  have hgU : ∀ i, i < I.1.length → gl (upR p (dn vars) I x) i = axp p (p - gd (gl I.1 i) (lI p (dn vars) I x).toNat) (gl I.1 i) (rwI p (dn vars) I x) := fun i hi => upR_get hi
  have hgV : ∀ i, i < I.1.length → gl (upM p (dn vars) I x) i = axp p (p - gd (gl I.1 i) (lI p (dn vars) I x).toNat) (gl I.2 i ++ [0]) (owI p (dn vars) I x) := fun i hi => upM_get hi
  have heow : (owI p (dn vars) I x) = sclM p (ivI p (dn vars) I x) (mdI p (dn vars) I x) ++ [(ivI p (dn vars) I x)] := rfl
  have hrwe : modp p (linz (ivI p (dn vars) I x) (List.replicate (dn vars) 0) (lfI p (dn vars) I x)) = (rwI p (dn vars) I x) := rfl
  have hive : invp p (gd (lfI p (dn vars) I x) (lI p (dn vars) I x).toNat) = (ivI p (dn vars) I x) := rfl
  clear q2 q5
  generalize hx1 : (lfI p (dn vars) I x) = lf at *
  generalize hx2 : (mdI p (dn vars) I x) = md at *
  generalize hx3 : (lI p (dn vars) I x) = ll at *
  generalize hx4 : (ivI p (dn vars) I x) = iv at *
  generalize hx5 : (rwI p (dn vars) I x) = rw9 at *
  generalize hx6 : (owI p (dn vars) I x) = ow at *
  generalize hx7 : (upR p (dn vars) I x) = ur at *
  generalize hx8 : (upM p (dn vars) I x) = um at *
  clear hx1 hx2 hx3 hx4 hx5 hx6 hx7 hx8
  have hol : (sclM p iv md ++ [0]).length = (I.1.length + 1) := (by rw [List.length_append, hsm]; rfl)
  have hzl : (List.replicate (I.1.length + 1) (0 : Int)).length = (I.1.length + 1) := List.length_replicate
  refine a_region_any mixed (by kernel_rfl) ?_
  refine yv (v := .rp _ _) (v_move il nf) ?_
  refine yv (v := .rp _ _) (v_nilCheck il rfl) ?_
  refine yv (v := .rp _ _) (v_fieldAddr_rp fo92_0 il) ?_
  refine yv (v := .agg [.int _ _, .int _ _]) (v_load_rpa1 ta83 il rfl rfl (fun _ => rfl) rfl) ?_
  refine yv (v := .sl _ _) (v_move il nf) ?_
  refine yv (v := .int _ _) (v_move il nf) ?_
  refine yv (v := .pp _ _) (v_indexAddr_sl es89 il il (fun _ => ⟨by omega, by omega, icells_ne (show m < lf.length by omega)⟩)) ?_
  refine yv (v := .int .i64 (gd lf ll.toNat)) (v_load_pp ta3 il (fun _ => by rw [Nat.mul_one]; exact icells_get (gd_get (by omega))) rfl) ?_
  refine y_new (v := .int .i64 iv) (QSem.cast (q_call (vs := [.agg [.int _ _, .int _ _], .int _ _]) (args := [.agg [.int .i64 _, .int .i64 _], .int .i64 _]) hb83 ⟨.inl rfl, .inl rfl, trivial⟩ rfl (fun hA => inverse_c vars p _ hp5 hgq) rfl rfl) (int_eq hive)) rfl rfl (by decide) (by kernel_rfl) ?_
  refine yv (v := .int _ _) (v_assign il nf) ?_
  refine y_nil ?_
  refine a_seq ?_
  refine a_pre (ent_look (L := [(0, .rp _ _), (4, .bool _), (5, .sl _ _), (6, .osl _ _ _ _), (7, .int _ _), (8, .int _ _), (INH, .op [.int _ _, .int _ _, .osl _ _ _ _, .osl _ _ _ _, .int _ _])]) ⟨Weak.rfl, Weak.rfl, Weak.rfl, Weak.rfl, Weak.rfl, Weak.rfl, Weak.rfl, trivial⟩) ?_
  clear hive hgq
  refine a_pre (ent_eq (t := 5) (v' := .sl (icells lf) (dn vars)) (Weak.of_eq (sl_eq2 rfl hlfl))) ?_
  refine a_region_tail (n := 12) mixed (by kernel_rfl) ?_
  refine t_val (v := .rp _ _) (v_move (.inl rfl) nf) rfl rfl (by decide) (by kernel_rfl) ?_
  refine t_val (v := .rp _ _) (v_nilCheck (.inl rfl) rfl) rfl rfl (by decide) (by kernel_rfl) ?_
  refine t_val (v := .rp _ _) (v_fieldAddr_rp fo92_0 (.inl rfl)) rfl rfl (by decide) (by kernel_rfl) ?_
  refine t_val (v := .agg [.int _ _, .int _ _]) (v_load_rpa1 ta83 (.inl rfl) rfl rfl (fun _ => rfl) rfl) rfl rfl (by decide) (by kernel_rfl) ?_
  refine t_val (v := .rp _ _) (v_move (.inl rfl) nf) rfl rfl (by decide) (by kernel_rfl) ?_
  refine t_val (v := .rp _ _) (v_nilCheck (.inl rfl) rfl) rfl rfl (by decide) (by kernel_rfl) ?_
  refine t_val (v := .rp _ _) (v_fieldAddr_rp fo92_0 (.inl rfl)) rfl rfl (by decide) (by kernel_rfl) ?_
  refine t_val (v := .agg [.int _ _, .int _ _]) (v_load_rpa1 ta83 (.inl rfl) rfl rfl (fun _ => rfl) rfl) rfl rfl (by decide) (by kernel_rfl) ?_
  refine t_new (v := .osl _ _ _ _) (q_call (vs := [.agg [.int _ _, .int _ _]]) (args := [.agg [.int .i64 _, .int .i64 _]]) hb85 ⟨.inl rfl, trivial⟩ rfl (fun hA => zero_c p vars hpp.2) (ic_noSh _) (ic_noRef _)) rfl rfl (by decide) (by kernel_rfl) ?_
  refine t_val (v := .sl _ _) (v_move (.inl rfl) nf) rfl rfl (by decide) (by kernel_rfl) ?_
  refine t_val (v := .int _ _) (v_move (.inl rfl) nf) rfl rfl (by decide) (by kernel_rfl) ?_
  refine t_new (v := .sl (icells rw9) (dn vars)) (QSem.cast (q_callZ (vs := [.agg [.int _ _, .int _ _], .rsl _ _ _ _ _, .sl _ _, .int _ _]) (args := [.agg [.int .i64 _, .int .i64 _], .sl _ _, .sl _ _, .int .i64 _]) hb84 ⟨.inl rfl, .inl rfl, .inl rfl, .inl rfl, trivial⟩ (l4_eq rfl (sl_sh (ic_pure _)) rfl rfl) (fun hA => plus_c p vars (List.replicate (dn vars) 0) lf (dn vars) iv ⟨by omega, by omega⟩ ⟨List.length_replicate, hlfl, hN⟩ (rep_bd (by omega) _) hlfb ⟨by omega, q7⟩) (ic_noSh _) (ic_noRef _)) ((sl_shZ (ic_pure _)).trans (by rw [hrwe]))) rfl rfl (by decide) (by kernel_rfl) ?_
  refine t_nil ?_
  refine rv (v := .sl _ _) (v_assign il nf) ?_
  refine r_nil ?_
  refine a_seq ?_
  refine a_region ?_
  refine rv (v := .rp _ _) (v_move il nf) ?_
  refine rv (v := .rp _ _) (v_nilCheck il rfl) ?_
  refine rv (v := .rp _ _) (v_fieldAddr_rp fo92_3 il) ?_
  refine rv (v := .int _ _) (v_load_rp1 ta3 il rfl (fun _ => rfl) rfl) ?_
  refine rv (v := .int .i64 (((I.1.length + 1) : Nat) : Int)) ((v_add il il (fun _ => by omega)).cast (int_eq (by omega))) ?_
  refine rn (v := .osl _ _ _ _) (q_makeSlice us89 sb3 zc3 rfl (by decide) il il (fun _ => by omega)) ?_
  refine rv (v := .rsl _ _ _ _ _) (v_assign il nf) ?_
  refine r_pre (ent_reloc_sl (t := 9) rfl rfl) ?_
  refine r_nil ?_
  refine a_seq ?_
  refine a_seq ?_
  refine a_pre (ent_look (L := [(0, .rp _ _), (4, .bool _), (5, .sl _ _), (6, .osl _ _ _ _), (7, .int _ _), (8, .int _ _), (9, .osl _ _ _ _), (INH, .op [.int _ _, .int _ _, .osl _ _ _ _, .osl _ _ _ _, .int _ _])]) ⟨Weak.rfl, Weak.rfl, Weak.rfl, Weak.rfl, Weak.rfl, Weak.rfl, Weak.rfl, Weak.rfl, trivial⟩) ?_
  refine a_region ?_
  refine rv (v := .rsl _ _ _ _ _) (v_move il nf) ?_
  refine rv (v := .int _ _) (v_len_rsl sl89 il) ?_
  refine rv (v := .int _ _) (v_move il nf) ?_
  refine r_nil ?_
  refine a_block ?_
  refine a_loop (X := Nat) (fun k => look [(0, .rp (INH, []) 0), (5, .sl (icells rw9) (dn vars)), (6, .osl 1 (icells md) I.1.length none), (7, .int .i64 ll), (8, .int .i64 iv), (9, .osl 1 (icells (mixL (sclM p iv md ++ [0]) (List.replicate (I.1.length + 1) (0 : Int)) k)) (I.1.length + 1) none), (54, .rsl (6, []) 1 0 I.1.length none), (55, .int .i64 ((I.1.length : Nat) : Int)), (56, .int .i64 ((k : Nat) : Int)), (INH, .op [.int .i64 p, .int .i64 vars, .osl 1 (sls I.1) I.1.length none, .osl 1 (osls I.2) I.1.length none, .int .i64 ((I.1.length : Nat) : Int)])]) (fun k => k ≤ I.1.length) (fun k => I.1.length - k) 0 (ent_look ⟨Weak.of_eq rfl, Weak.of_eq rfl, Weak.of_eq rfl, Weak.of_eq rfl, Weak.of_eq rfl, Weak.osl (by rw [mixL_zero]; exact (icells_rep _)) rfl, Weak.of_eq rfl, Weak.of_eq rfl, Weak.of_eq rfl, Weak.of_eq rfl, trivial⟩) (Nat.zero_le _) (fun k hG => ?_)
  refine a_seq ?_
  refine a_region ?_
  refine rv (v := .bool _) (v_lss il il) ?_
  refine r_nil ?_
  refine a_seq ?_
  refine a_cond rfl (fun ht57 => ?_) (fun ht57 => ?_)
  ·
   skip
   refine a_skip ?_
   refine a_seq ?_
   refine a_block ?_
   refine a_seq ?_
   have hk : k < I.1.length := (by simp at ht57; omega)
   have hgm : True := trivial
   have hmk := hmdb k
   have hmul := mul_bd2 (a := p - gd md k) (b := iv) (p := p) ⟨by omega, by omega⟩ ⟨by omega, q7⟩ (by omega)
   have hpl : k * 1 + 1 ≤ (icells (mixL (sclM p iv md ++ [0]) (List.replicate (I.1.length + 1) (0 : Int)) k)).length := (by rw [icells_length, mixL_length (hol.trans hzl.symm)]; omega)
   have hset : (icells (mixL (sclM p iv md ++ [0]) (List.replicate (I.1.length + 1) (0 : Int)) k)).set (k * 1) (.int .i64 ((p - gd md k) * iv % p)) = icells (mixL (sclM p iv md ++ [0]) (List.replicate (I.1.length + 1) (0 : Int)) (k + 1)) := (by rw [Nat.mul_one, icells_set, ← gd_sclM (by omega), ← gd_lt (B := [0]) (by omega), mixL_set (hol.trans hzl.symm) (by omega)])
   refine a_region ?_
   refine rv (v := .int _ _) (v_move il nf) ?_
   refine rv (v := .rp _ _) (v_indexAddr_rsl0 es89 il il (fun _ => by omega)) ?_
   refine rv (v := .int .i64 (gd md k)) (v_load_rp1 ta3 il rfl (fun _ => by rw [Nat.mul_one]; exact icells_get (gd_get (by omega))) rfl) ?_
   refine rv (v := .int _ _) (v_assign il nf) ?_
   refine rv (v := .int _ _) (v_assign il nf) ?_
   refine r_nil ?_
   refine a_region_w [(61, true), (62, true), (63, true), (64, true), (65, true), (66, true), (67, true), (68, true), (69, true), (70, true), (71, true), (72, true), (73, true), (74, true), (75, true), (76, true), (77, true), (78, true), (9, false)] mixed (by kernel_rfl) ?_
   refine wv (v := .rsl _ _ _ _ _) (v_move il nf) ?_
   refine wv (v := .int _ _) (v_move il nf) ?_
   refine wv (v := .rp _ _) (v_move il nf) ?_
   refine wv (v := .rp _ _) (v_nilCheck il rfl) ?_
   refine wv (v := .rp _ _) (v_fieldAddr_rp fo92_0 il) ?_
   refine wv (v := .rp _ _) (v_fieldAddr_rp fo83_0 il) ?_
   refine wv (v := .int _ _) (v_load_rp1 ta3 il rfl (fun _ => rfl) rfl) ?_
   refine wv (v := .int _ _) (v_move il nf) ?_
   refine wv (v := .int _ _) (v_sub il il (fun _ => by omega)) ?_
   refine wv (v := .int _ _) (v_move il nf) ?_
   refine wv (v := .int _ _) (v_mul il il (fun _ => by omega)) ?_
   refine wv (v := .rp _ _) (v_move il nf) ?_
   refine wv (v := .rp _ _) (v_nilCheck il rfl) ?_
   refine wv (v := .rp _ _) (v_fieldAddr_rp fo92_0 il) ?_
   refine wv (v := .rp _ _) (v_fieldAddr_rp fo83_0 il) ?_
   refine wv (v := .int _ _) (v_load_rp1 ta3 il rfl (fun _ => rfl) rfl) ?_
   refine wv (v := .int _ _) (v_rem il il (fun _ => ⟨by omega, by omega⟩)) ?_
   refine wv (v := .rp _ _) (v_indexAddr_rsl0 es89 il il (fun _ => by omega)) ?_
   refine w_store (v := .int _ _) (y' := .osl _ _ _ _) rfl rfl rfl ta3 (.inl rfl) (.inl rfl) rfl rfl rfl rfl rfl rfl hpl (by decide) rfl (congrArg (fun c => AV.osl 1 c (I.1.length + 1) none) hset) rfl (by kernel_rfl) ?_
   refine w_nil ?_
   refine a_pre (ent_look (L := [(0, .rp _ _), (5, .sl _ _), (6, .osl _ _ _ _), (7, .int _ _), (8, .int _ _), (9, .osl _ _ _ _), (54, .rsl _ _ _ _ _), (55, .int _ _), (56, .int _ _), (INH, .op [.int _ _, .int _ _, .osl _ _ _ _, .osl _ _ _ _, .int _ _])]) ⟨Weak.rfl, Weak.rfl, Weak.rfl, Weak.rfl, Weak.rfl, Weak.rfl, Weak.rfl, Weak.rfl, Weak.rfl, Weak.rfl, trivial⟩) ?_
   refine a_region ?_
   refine rv (v := .int _ _) (v_add il il (fun _ => by omega)) ?_
   refine rv (v := .int _ _) (v_move il nf) ?_
   refine r_nil ?_
   refine ⟨k + 1, ent_look ⟨Weak.of_eq rfl, Weak.of_eq rfl, Weak.of_eq rfl, Weak.of_eq rfl, Weak.of_eq rfl, Weak.of_eq rfl, Weak.of_eq rfl, Weak.of_eq rfl, Weak.of_eq (int_eq (by omega)), Weak.of_eq rfl, trivial⟩, by omega, by omega⟩
  ·
   skip
   refine a_exit ?_
   refine a_seq ?_
   have hkn : k = I.1.length := (by simp at ht57; omega)
   have hmo : (mixL (sclM p iv md ++ [0]) (List.replicate (I.1.length + 1) (0 : Int)) k) = (sclM p iv md ++ [0]) := (by subst hkn; exact mix_zero hsm)
   refine a_pre (ent_eq (t := 9) (v' := .osl 1 (icells (sclM p iv md ++ [0])) (I.1.length + 1) none) (Weak.osl (by rw [hmo]) rfl)) ?_
   have hpl2 : I.1.length * 1 + 1 ≤ (icells (sclM p iv md ++ [0])).length := (by rw [icells_length]; omega)
   have hset2 : (icells (sclM p iv md ++ [0])).set (I.1.length * 1) (.int .i64 iv) = icells ow := (by rw [Nat.mul_one, icells_set, snoc_set hsm, heow])
   refine a_region ?_
   refine rv (v := .rsl _ _ _ _ _) (v_move il nf) ?_
   refine rv (v := .rp _ _) (v_move il nf) ?_
   refine rv (v := .rp _ _) (v_nilCheck il rfl) ?_
   refine rv (v := .rp _ _) (v_fieldAddr_rp fo92_3 il) ?_
   refine rv (v := .int _ _) (v_load_rp1 ta3 il rfl (fun _ => rfl) rfl) ?_
   refine rv (v := .int _ _) (v_move il nf) ?_
   refine rv (v := .rp _ _) (v_indexAddr_rsl0 es89 il il (fun _ => by omega)) ?_
   refine r_step rfl (o_store (v := .int _ _) (y' := .osl _ _ _ _) rfl rfl ta3 il il rfl rfl rfl rfl rfl rfl hpl2 (by decide) rfl (congrArg (fun c => AV.osl 1 c (I.1.length + 1) none) hset2)) ?_
   refine r_nil ?_
   refine a_seq ?_
   clear hpl2 hset2 hmo hol hzl heow hrwe hp5 hlfl hlfb hmdl hmdb q3 q4 q6 q7 hsm hx hb
   refine a_region ?_
   refine rv (v := .rp _ _) (v_move il nf) ?_
   refine rv (v := .rp _ _) (v_nilCheck il rfl) ?_
   refine rv (v := .rp _ _) (v_fieldAddr_rp fo92_3 il) ?_
   refine rv (v := .int _ _) (v_load_rp1 ta3 il rfl (fun _ => rfl) rfl) ?_
   refine rv (v := .int .i64 (((I.1.length + 1) : Nat) : Int)) ((v_add il il (fun _ => by omega)).cast (int_eq (by omega))) ?_
   refine rv (v := .rp _ _) (v_nilCheck il rfl) ?_
   refine rv (v := .rp _ _) (v_fieldAddr_rp fo92_3 il) ?_
   refine r_step rfl (o_store (v := .int _ _) (y' := .op [.int _ _, .int _ _, .osl _ _ _ _, .osl _ _ _ _, .int _ _]) rfl rfl ta3 il il rfl rfl rfl rfl rfl rfl (Nat.le_of_ble_eq_true rfl) (by decide) rfl rfl) ?_
   refine r_nil ?_
   refine a_seq ?_
   refine a_seq ?_
   refine a_pre (ent_look (L := [(0, .rp _ _), (5, .sl _ _), (6, .osl _ _ _ _), (7, .int _ _), (8, .int _ _), (9, .osl _ _ _ _), (54, .rsl _ _ _ _ _), (55, .int _ _), (56, .int _ _), (INH, .op [.int _ _, .int _ _, .osl _ _ _ _, .osl _ _ _ _, .int _ _])]) ⟨Weak.rfl, Weak.rfl, Weak.rfl, Weak.rfl, Weak.rfl, Weak.rfl, Weak.rfl, Weak.rfl, Weak.rfl, Weak.rfl, trivial⟩) ?_
   refine a_region ?_
   refine rv (v := .rp _ _) (v_move il nf) ?_
   refine rv (v := .rp _ _) (v_nilCheck il rfl) ?_
   refine rv (v := .rp _ _) (v_fieldAddr_rp fo92_1 il) ?_
   refine rv (v := .rsl _ _ _ _ _) (v_load_rp (c := .osl _ _ _ _) ta86 il rfl (fun _ => rfl)) ?_
   refine rv (v := .int _ _) (v_len_rsl sl86 il) ?_
   refine rv (v := .int _ _) (v_move il nf) ?_
   refine r_nil ?_
   refine a_block ?_
   refine a_loop (X := Nat) (fun i => look [(0, .rp (INH, []) 0), (5, .sl (icells rw9) (dn vars)), (7, .int .i64 ll), (9, .osl 1 (icells ow) (I.1.length + 1) none), (97, .rsl (INH, [2]) 1 0 I.1.length none), (98, .int .i64 ((I.1.length : Nat) : Int)), (99, .int .i64 ((i : Nat) : Int)), (INH, .op [.int .i64 p, .int .i64 vars, .osl 1 (sls (mixG ur I.1 i)) I.1.length none, .osl 1 (osls (mixG um I.2 i)) I.1.length none, .int .i64 ((I.1.length + 1 : Nat) : Int)])]) (fun i => i ≤ I.1.length) (fun i => I.1.length - i) 0 (ent_look ⟨Weak.of_eq rfl, Weak.of_eq rfl, Weak.of_eq rfl, Weak.of_eq rfl, Weak.of_eq rfl, Weak.of_eq rfl, Weak.of_eq rfl, Weak.of_eq (by rw [mixG_zero, mixG_zero]; rfl), trivial⟩) (Nat.zero_le _) (fun i hG => ?_)
   refine a_seq ?_
   refine a_region ?_
   refine rv (v := .bool _) (v_lss il il) ?_
   refine r_nil ?_
   refine a_seq ?_
   refine a_cond rfl (fun ht100 => ?_) (fun ht100 => ?_)
   ·
    skip
    refine a_skip ?_
    refine a_seq ?_
    refine a_block ?_
    refine a_seq ?_
    have hi : i < I.1.length := (by simp at ht100; omega)
    have hi2 : i < I.2.length := (by omega)
    have hib : 0 ≤ ((i : Nat) : Int) ∧ ((i : Nat) : Int) < ((I.1.length : Nat) : Int) := (by omega)
    obtain ⟨hr1, hr2⟩ := hI.rows i hi
    obtain ⟨hm1, hm2⟩ := hI.mds i hi
    have hgr : gl (mixG ur I.1 i) i = gl I.1 i := mixG_get hurl hi
    have hgM : gl (mixG um I.2 i) i = gl I.2 i := mixG_get huml hi2
    have hMl : (mixG um I.2 i).length = I.1.length := (by rw [mixG_length huml]; omega)
    have hRl : (mixG ur I.1 i).length = I.1.length := mixG_length hurl
    have hz : (osls (mixG um I.2 i))[i]? = some (.osl 1 (icells (gl I.2 i)) I.1.length none) := osls_getN (by omega) hgM hm1
    have hodl : (gl I.2 i ++ [0]).length = (I.1.length + 1) := (by rw [List.length_append, hm1]; rfl)
    have holdb : Bd p (gl I.2 i ++ [0]) := snoc_bd (by omega) hm2 ⟨by omega, by omega⟩
    have hp3 : i * 1 + 1 ≤ (osls (mixG um I.2 i)).length := (by rw [osls_length]; omega)
    have hs3 : (osls (mixG um I.2 i)).set (i * 1) (.osl 1 (icells (gl I.2 i ++ [0])) (I.1.length + 1) none) = osls ((mixG um I.2 i).set i (gl I.2 i ++ [0])) := (by rw [Nat.mul_one, osls_setN hodl])
    have hnl : (gl um i).length = (I.1.length + 1) := (by rw [hgV i hi, axp_length, hodl])
    have hnol : (gl um i).length = (gl I.2 i ++ [0]).length := hnl.trans hodl.symm
    have hcb := hr2 ll.toNat
    refine a_region ?_
    refine rv (v := .int _ _) (v_move il nf) ?_
    refine rv (v := .rp _ _) (v_indexAddr_rsl0 es86 il il (fun _ => hib)) ?_
    refine rv (v := .sl (icells (gl I.1 i)) (dn vars)) (v_load_rp1 ta89 il rfl (fun _ => by rw [Int.toNat_natCast, Nat.mul_one]; exact sls_getN (by omega) hgr hr1) rfl) ?_
    refine rv (v := .int _ _) (v_assign il nf) ?_
    refine rv (v := .sl _ _) (v_assign il nf) ?_
    refine r_nil ?_
    refine a_seq ?_
    refine a_region_z (n := 28) [[(104, true)], [(105, true)], [(106, true)], [(107, true)], [(108, true)], [(109, true)], [(110, true)], [(111, true)], [(112, true)], [(113, true)], [(114, true)], [(115, true)], [(116, true)], [(117, true)], [(118, true)], [(119, true)], [(120, true)], [(121, true)], [(122, true)], [(123, true)], [(124, true)], [(125, true)], [(126, true)], [(127, true)], [(128, true)], [(129, true)], [(116, false), (130, true)], [(131, true)]] mixed (by kernel_rfl) ?_
    refine z_val (v := .rp _ _) (v_move il nf) rfl rfl (by decide) rfl (by kernel_rfl) ?_
    refine z_val (v := .rp _ _) (v_nilCheck il rfl) rfl rfl (by decide) rfl (by kernel_rfl) ?_
    refine z_val (v := .rp _ _) (v_fieldAddr_rp fo92_2 il) rfl rfl (by decide) rfl (by kernel_rfl) ?_
    refine z_val (v := .rsl _ _ _ _ _) (v_load_rp (c := .osl _ _ _ _) ta86 il rfl (fun _ => rfl)) rfl rfl (by decide) rfl (by kernel_rfl) ?_
    refine z_val (v := .int _ _) (v_move il nf) rfl rfl (by decide) rfl (by kernel_rfl) ?_
    refine z_val (v := .rp _ _) (v_move il nf) rfl rfl (by decide) rfl (by kernel_rfl) ?_
    refine z_val (v := .rp _ _) (v_nilCheck il rfl) rfl rfl (by decide) rfl (by kernel_rfl) ?_
    refine z_val (v := .rp _ _) (v_fieldAddr_rp fo92_2 il) rfl rfl (by decide) rfl (by kernel_rfl) ?_
    refine z_val (v := .rsl _ _ _ _ _) (v_load_rp (c := .osl _ _ _ _) ta86 il rfl (fun _ => rfl)) rfl rfl (by decide) rfl (by kernel_rfl) ?_
    refine z_val (v := .int _ _) (v_move il nf) rfl rfl (by decide) rfl (by kernel_rfl) ?_
    refine z_val (v := .rp _ _) (v_indexAddr_rsl0 es86 il il (fun _ => hib)) rfl rfl (by decide) rfl (by kernel_rfl) ?_
    refine z_val (v := .rsl (INH, [3, i]) 1 0 I.1.length none) ((v_load_rp (c := .osl _ _ _ _) ta89 il rfl (fun _ => by rw [Int.toNat_natCast, Nat.mul_one]; exact hz)).cast ((by show AV.rsl (INH, [3] ++ [(i : Int).toNat * 1]) 1 0 _ none = _; rw [Int.toNat_natCast, Nat.mul_one]; rfl))) rfl rfl (by decide) rfl (by kernel_rfl) ?_
    refine z_new (v := .osl _ _ _ _) (q_call (vs := [.rsl _ _ _ _ _]) (args := [.sl _ _]) hb86 ⟨il, trivial⟩ (l1_eq (snap_osl (q := (INH, [3, i])) (by show node (.op _) [3, i] = _; exact node_row rfl hz) (ic_pure _))) (fun hA => cloneD_c (gl I.2 i) I.1.length ⟨hm1, by omega⟩) (ic_noSh _) (ic_noRef _)) rfl rfl (by decide) rfl (by kernel_rfl) ?_
    refine z_val (v := .rp _ _) (v_move il nf) rfl rfl (by decide) rfl (by kernel_rfl) ?_
    refine z_val (v := .rp _ _) (v_nilCheck il rfl) rfl rfl (by decide) rfl (by kernel_rfl) ?_
    refine z_val (v := .rp _ _) (v_fieldAddr_rp fo92_3 il) rfl rfl (by decide) rfl (by kernel_rfl) ?_
    refine z_val (v := .int .i64 (((I.1.length + 1) : Nat) : Int)) (v_load_rp1 ta3 il rfl (fun _ => rfl) rfl) rfl rfl (by decide) rfl (by kernel_rfl) ?_
    refine z_val (v := .rp _ _) (v_move il nf) rfl rfl (by decide) rfl (by kernel_rfl) ?_
    refine z_val (v := .rp _ _) (v_nilCheck il rfl) rfl rfl (by decide) rfl (by kernel_rfl) ?_
    refine z_val (v := .rp _ _) (v_fieldAddr_rp fo92_2 il) rfl rfl (by decide) rfl (by kernel_rfl) ?_
    refine z_val (v := .rsl _ _ _ _ _) (v_load_rp (c := .osl _ _ _ _) ta86 il rfl (fun _ => rfl)) rfl rfl (by decide) rfl (by kernel_rfl) ?_
    refine z_val (v := .int _ _) (v_move il nf) rfl rfl (by decide) rfl (by kernel_rfl) ?_
    refine z_val (v := .rp _ _) (v_indexAddr_rsl0 es86 il il (fun _ => hib)) rfl rfl (by decide) rfl (by kernel_rfl) ?_
    refine z_val (v := .rsl (INH, [3, i]) 1 0 I.1.length none) ((v_load_rp (c := .osl _ _ _ _) ta89 il rfl (fun _ => by rw [Int.toNat_natCast, Nat.mul_one]; exact hz)).cast ((by show AV.rsl (INH, [3] ++ [(i : Int).toNat * 1]) 1 0 _ none = _; rw [Int.toNat_natCast, Nat.mul_one]; rfl))) rfl rfl (by decide) rfl (by kernel_rfl) ?_
    refine z_val (v := .int _ _) (v_len_rsl sl89 il) rfl rfl (by decide) rfl (by kernel_rfl) ?_
    refine z_val (v := .int .i64 ((1 : Nat) : Int)) ((v_sub il il (fun _ => by omega)).cast (int_eq (by omega))) rfl rfl (by decide) rfl (by kernel_rfl) ?_
    refine z_append_mk rfl rfl ap89 us89 uni3 zc3 rfl (by decide) (by decide) (by decide) rfl (.inl rfl) (by decide) rfl (by rw [icells_length]; omega) (by omega) rfl (by kernel_rfl) ?_
    refine z_val (v := .rp _ _) (v_indexAddr_rsl0 es86 il il (fun _ => hib)) rfl rfl (by decide) rfl (by kernel_rfl) ?_
    refine z_nil ?_
    refine r_pre (ent_eq (t := 130) (v' := .osl 1 (icells (gl I.2 i ++ [0])) (I.1.length + 1) none) (Weak.osl (by rw [icells_append]; rfl) rfl)) ?_
    refine r_step rfl (o_store_ownU (v := .osl _ _ _ _) (y' := .op [.int _ _, .int _ _, .osl _ _ _ _, .osl _ _ _ _, .int _ _]) rfl rfl ta89 (.inl rfl) (by decide) rfl (by decide) rfl (by simp [cellsOf, noRefL, noRef, ic_noRef]) rfl rfl rfl rfl rfl hp3 rfl (congrArg (fun c => AV.op [.int .i64 p, .int .i64 vars, .osl 1 (sls (mixG ur I.1 i)) I.1.length none, .osl 1 c I.1.length none, .int .i64 ((I.1.length + 1 : Nat) : Int)]) hs3)) ?_
    refine r_nil ?_
    refine a_seq ?_
    refine a_pre (ent_look (L := [(0, .rp _ _), (5, .sl _ _), (7, .int _ _), (9, .osl _ _ _ _), (12, .int _ _), (13, .sl _ _), (97, .rsl _ _ _ _ _), (98, .int _ _), (99, .int _ _), (INH, .op [.int _ _, .int _ _, .osl _ _ _ _, .osl _ _ _ _, .int _ _])]) ⟨Weak.rfl, Weak.rfl, Weak.rfl, Weak.rfl, Weak.rfl, Weak.rfl, Weak.rfl, Weak.rfl, Weak.rfl, Weak.rfl, trivial⟩) ?_
    refine a_region ?_
    refine rv (v := .sl _ _) (v_move il nf) ?_
    refine rv (v := .int _ _) (v_move il nf) ?_
    refine rv (v := .pp _ _) (v_indexAddr_sl es89 il il (fun _ => ⟨by omega, by omega, icells_ne (show m < (gl I.1 i).length by omega)⟩)) ?_
    refine rv (v := .int .i64 (gd (gl I.1 i) ll.toNat)) (v_load_pp ta3 il (fun _ => by rw [Nat.mul_one]; exact icells_get (gd_get (by omega))) rfl) ?_
    refine rv (v := .int _ _) (v_assign il nf) ?_
    refine r_nil ?_
    refine a_seq ?_
    refine a_region ?_
    refine rv (v := .int _ _) (v_move il nf) ?_
    refine rv (v := .bool _) (v_neq il il) ?_
    refine r_nil ?_
    refine a_cond rfl (fun ht137 => ?_) (fun ht137 => ?_)
    ·
     skip
     refine a_seq ?_
     have hc0 : (gd (gl I.1 i) ll.toNat) ≠ 0 := (by simpa using ht137)
     have hgu : gl ur i = axp p (p - (gd (gl I.1 i) ll.toNat)) (gl I.1 i) rw9 := hgU i hi
     have hpR : i * 1 + 1 ≤ (sls (mixG ur I.1 i)).length := (by rw [sls_length]; omega)
     have hsR : (sls (mixG ur I.1 i)).set (i * 1) (.sl (icells (axp p (p - (gd (gl I.1 i) ll.toNat)) (gl I.1 i) rw9)) (dn vars)) = sls (mixG ur I.1 (i + 1)) := (by rw [Nat.mul_one, sls_setN (by rw [axp_length]; exact hr1), ← hgu, mixG_set hurl hi])
     refine a_region_w [(138, true), (139, true), (140, true), (141, true), (142, true), (143, true), (144, true), (145, true), (146, true), (147, true), (148, true), (149, true), (150, true), (151, true), (152, true), (153, true), (154, true), (155, true), (156, true), (157, true), (INH, false)] mixed (by kernel_rfl) ?_
     refine wv (v := .rp _ _) (v_move il nf) ?_
     refine wv (v := .rp _ _) (v_nilCheck il rfl) ?_
     refine wv (v := .rp _ _) (v_fieldAddr_rp fo92_1 il) ?_
     refine wv (v := .rsl _ _ _ _ _) (v_load_rp (c := .osl _ _ _ _) ta86 il rfl (fun _ => rfl)) ?_
     refine wv (v := .int _ _) (v_move il nf) ?_
     refine wv (v := .rp _ _) (v_move il nf) ?_
     refine wv (v := .rp _ _) (v_nilCheck il rfl) ?_
     refine wv (v := .rp _ _) (v_fieldAddr_rp fo92_0 il) ?_
     refine wv (v := .agg [.int _ _, .int _ _]) (v_load_rpa1 ta83 il rfl rfl (fun _ => rfl) rfl) ?_
     refine wv (v := .sl _ _) (v_move il nf) ?_
     refine wv (v := .sl _ _) (v_move il nf) ?_
     refine wv (v := .rp _ _) (v_move il nf) ?_
     refine wv (v := .rp _ _) (v_nilCheck il rfl) ?_
     refine wv (v := .rp _ _) (v_fieldAddr_rp fo92_0 il) ?_
     refine wv (v := .rp _ _) (v_fieldAddr_rp fo83_0 il) ?_
     refine wv (v := .int _ _) (v_load_rp1 ta3 il rfl (fun _ => rfl) rfl) ?_
     refine wv (v := .int _ _) (v_move il nf) ?_
     refine wv (v := .int _ _) (v_sub il il (fun _ => by omega)) ?_
     refine w_new (v := .sl (icells (axp p (p - (gd (gl I.1 i) ll.toNat)) (gl I.1 i) rw9)) (dn vars)) (QSem.cast (q_callZ (vs := [.agg [.int _ _, .int _ _], .sl _ _, .sl _ _, .int _ _]) (args := [.agg [.int .i64 _, .int .i64 _], .sl _ _, .sl _ _, .int .i64 _]) hb84 ⟨.inl rfl, .inl rfl, .inl rfl, .inl rfl, trivial⟩ rfl (fun hA => plus_c p vars (gl I.1 i) rw9 (dn vars) (p - (gd (gl I.1 i) ll.toNat)) ⟨by omega, by omega⟩ ⟨hr1, hrwl, hN⟩ hr2 hrwb ⟨by omega, by omega⟩) (ic_noSh _) (ic_noRef _)) (sl_shZ (ic_pure _))) rfl rfl (by decide) rfl (by kernel_rfl) ?_
     refine wv (v := .rp _ _) (v_indexAddr_rsl0 es86 il il (fun _ => hib)) ?_
     refine w_store (v := .sl _ _) (y' := .op [.int _ _, .int _ _, .osl _ _ _ _, .osl _ _ _ _, .int _ _]) rfl rfl rfl ta89 (.inl rfl) (.inl rfl) rfl rfl rfl rfl rfl rfl hpR (by decide) rfl (congrArg (fun c => AV.op [.int .i64 p, .int .i64 vars, .osl 1 c I.1.length none, .osl 1 (osls ((mixG um I.2 i).set i (gl I.2 i ++ [0]))) I.1.length none, .int .i64 ((I.1.length + 1 : Nat) : Int)]) hsR) rfl (by kernel_rfl) ?_
     refine w_nil ?_
     refine a_seq ?_
     refine a_pre (ent_look (L := [(0, .rp _ _), (5, .sl _ _), (7, .int _ _), (9, .osl _ _ _ _), (12, .int _ _), (14, .int _ _), (97, .rsl _ _ _ _ _), (98, .int _ _), (99, .int _ _), (INH, .op [.int _ _, .int _ _, .osl _ _ _ _, .osl _ _ _ _, .int _ _])]) ⟨Weak.rfl, Weak.rfl, Weak.rfl, Weak.rfl, Weak.rfl, Weak.rfl, Weak.rfl, Weak.rfl, Weak.rfl, Weak.rfl, trivial⟩) ?_
     clear hp3 hs3 hz hpR hsR hgu hgr hgM
     refine a_region ?_
     refine rv (v := .rsl _ _ _ _ _) (v_move il nf) ?_
     refine rv (v := .int _ _) (v_len_rsl sl89 il) ?_
     refine rv (v := .int _ _) (v_move il nf) ?_
     refine r_nil ?_
     refine a_block ?_
     refine a_loop (X := Nat) (fun k => look [(0, .rp (INH, []) 0), (5, .sl (icells rw9) (dn vars)), (7, .int .i64 ll), (9, .osl 1 (icells ow) (I.1.length + 1) none), (97, .rsl (INH, [2]) 1 0 I.1.length none), (98, .int .i64 ((I.1.length : Nat) : Int)), (99, .int .i64 ((i : Nat) : Int)), (12, .int .i64 ((i : Nat) : Int)), (14, .int .i64 (gd (gl I.1 i) ll.toNat)), (158, .rsl (9, []) 1 0 (I.1.length + 1) none), (159, .int .i64 (((I.1.length + 1) : Nat) : Int)), (160, .int .i64 ((k : Nat) : Int)), (INH, .op [.int .i64 p, .int .i64 vars, .osl 1 (sls (mixG ur I.1 (i + 1))) I.1.length none, .osl 1 (osls ((mixG um I.2 i).set i (mixL (gl um i) (gl I.2 i ++ [0]) k))) I.1.length none, .int .i64 ((I.1.length + 1 : Nat) : Int)])]) (fun k => k ≤ (I.1.length + 1)) (fun k => (I.1.length + 1) - k) 0 (ent_look ⟨Weak.of_eq rfl, Weak.of_eq rfl, Weak.of_eq rfl, Weak.of_eq rfl, Weak.of_eq rfl, Weak.of_eq rfl, Weak.of_eq rfl, Weak.of_eq rfl, Weak.of_eq rfl, Weak.of_eq rfl, Weak.of_eq rfl, Weak.of_eq rfl, Weak.of_eq (by rw [mixL_zero]; rfl), trivial⟩) (Nat.zero_le _) (fun k hG => ?_)
     refine a_seq ?_
     refine a_region ?_
     refine rv (v := .bool _) (v_lss il il) ?_
     refine r_nil ?_
     refine a_seq ?_
     refine a_cond rfl (fun ht161 => ?_) (fun ht161 => ?_)
     ·
      skip
      refine a_skip ?_
      refine a_seq ?_
      refine a_block ?_
      refine a_seq ?_
      have hk : k < (I.1.length + 1) := (by simp at ht161; omega)
      have hkb : 0 ≤ ((k : Nat) : Int) ∧ ((k : Nat) : Int) < ((I.1.length + 1 : Nat) : Int) := (by omega)
      have hkow : k < ow.length := howl ▸ hk
      have hc0 : (gd (gl I.1 i) ll.toNat) ≠ 0 := (by simpa using ht137)
      have hjl : (mixL (gl um i) (gl I.2 i ++ [0]) k).length = (I.1.length + 1) := (mixL_length hnol).trans hodl
      have hkj : k < (mixL (gl um i) (gl I.2 i ++ [0]) k).length := hjl ▸ hk
      have hz3 : (osls ((mixG um I.2 i).set i (mixL (gl um i) (gl I.2 i ++ [0]) k)))[i]? = some (.osl 1 (icells (mixL (gl um i) (gl I.2 i ++ [0]) k)) (I.1.length + 1) none) := osls_getN (by rw [List.length_set, hMl]; exact hi) (gl_set_eq (by rw [hMl]; exact hi)) hjl
      have hgm : gd (mixL (gl um i) (gl I.2 i ++ [0]) k) k = gd (gl I.2 i ++ [0]) k := (by rw [gd_mixL hnol, if_neg (Nat.lt_irrefl k)])
      have hmul := mul_bd (a := p - (gd (gl I.1 i) ll.toNat)) (b := gd ow k) (p := p) ⟨by omega, by omega⟩ (howb k) hpp.1.2
      have hbk := holdb k
      have hpl4 : k * 1 + 1 ≤ (icells (mixL (gl um i) (gl I.2 i ++ [0]) k)).length := (by rw [icells_length, Nat.mul_one]; exact hkj)
      have hs4 : (osls ((mixG um I.2 i).set i (mixL (gl um i) (gl I.2 i ++ [0]) k))).set i (.osl 1 ((icells (mixL (gl um i) (gl I.2 i ++ [0]) k)).set (k * 1) (.int .i64 ((gd (gl I.2 i ++ [0]) k + (p - (gd (gl I.1 i) ll.toNat)) * gd ow k) % p))) (I.1.length + 1) none) = osls ((mixG um I.2 i).set i (mixL (gl um i) (gl I.2 i ++ [0]) (k + 1))) := (by rw [icells_axp (hgV i hi) (hodl ▸ hk), osls_setN ((mixL_length hnol).trans hodl), List.set_set])
      have hadd : -9223372036854775808 ≤ gd (gl I.2 i ++ [0]) k + (p - (gd (gl I.1 i) ll.toNat)) * gd ow k ∧ gd (gl I.2 i ++ [0]) k + (p - (gd (gl I.1 i) ll.toNat)) * gd ow k ≤ 9223372036854775807 := (by omega)
      have hrem : 0 ≤ gd (gl I.2 i ++ [0]) k + (p - (gd (gl I.1 i) ll.toNat)) * gd ow k ∧ 1 ≤ p := (by omega)
      have hmu2 : -9223372036854775808 ≤ (p - (gd (gl I.1 i) ll.toNat)) * gd ow k ∧ (p - (gd (gl I.1 i) ll.toNat)) * gd ow k ≤ 9223372036854775807 := (by omega)
      have hsb : -9223372036854775808 ≤ p - (gd (gl I.1 i) ll.toNat) ∧ p - (gd (gl I.1 i) ll.toNat) ≤ 9223372036854775807 := (by omega)
      refine a_region ?_
      refine rv (v := .int _ _) (v_move il nf) ?_
      refine rv (v := .rp _ _) (v_indexAddr_rsl0 es89 il il (fun _ => hkb)) ?_
      refine rv (v := .int .i64 (gd ow k)) (v_load_rp1 ta3 il rfl (fun _ => by rw [Nat.mul_one]; exact icells_get (gd_get hkow)) rfl) ?_
      refine rv (v := .int _ _) (v_assign il nf) ?_
      refine rv (v := .int _ _) (v_assign il nf) ?_
      refine r_nil ?_
      refine a_region_z (n := 35) [[(165, true)], [(166, true)], [(167, true)], [(168, true)], [(169, true)], [(170, true)], [(171, true)], [(172, true)], [(173, true)], [(174, true)], [(175, true)], [(176, true)], [(177, true)], [(178, true)], [(179, true)], [(180, true)], [(181, true)], [(182, true)], [(183, true)], [(184, true)], [(185, true)], [(186, true)], [(187, true)], [(188, true)], [(189, true)], [(190, true)], [(191, true)], [(192, true)], [(193, true)], [(194, true)], [(195, true)], [(196, true)], [(197, true)], [(198, true)], [(199, true)]] mixed (by kernel_rfl) ?_
      refine z_val (v := .rp _ _) (v_move il nf) rfl rfl (by decide) rfl (by kernel_rfl) ?_
      refine z_val (v := .rp _ _) (v_nilCheck il rfl) rfl rfl (by decide) rfl (by kernel_rfl) ?_
      refine z_val (v := .rp _ _) (v_fieldAddr_rp fo92_2 il) rfl rfl (by decide) rfl (by kernel_rfl) ?_
      refine z_val (v := .rsl _ _ _ _ _) (v_load_rp (c := .osl _ _ _ _) ta86 il rfl (fun _ => rfl)) rfl rfl (by decide) rfl (by kernel_rfl) ?_
      refine z_val (v := .int _ _) (v_move il nf) rfl rfl (by decide) rfl (by kernel_rfl) ?_
      refine z_val (v := .rp _ _) (v_indexAddr_rsl0 es86 il il (fun _ => hib)) rfl rfl (by decide) rfl (by kernel_rfl) ?_
      refine z_val (v := .rsl (INH, [3, i]) 1 0 (I.1.length + 1) none) ((v_load_rp (c := .osl _ _ _ _) ta89 il rfl (fun _ => by rw [Int.toNat_natCast, Nat.mul_one]; exact hz3)).cast ((by show AV.rsl (INH, [3] ++ [(i : Int).toNat * 1]) 1 0 _ none = _; rw [Int.toNat_natCast, Nat.mul_one]; rfl))) rfl rfl (by decide) rfl (by kernel_rfl) ?_
      refine z_val (v := .int _ _) (v_move il nf) rfl rfl (by decide) rfl (by kernel_rfl) ?_
      refine z_val (v := .rp _ _) (v_move il nf) rfl rfl (by decide) rfl (by kernel_rfl) ?_
      refine z_val (v := .rp _ _) (v_nilCheck il rfl) rfl rfl (by decide) rfl (by kernel_rfl) ?_
      refine z_val (v := .rp _ _) (v_fieldAddr_rp fo92_2 il) rfl rfl (by decide) rfl (by kernel_rfl) ?_
      refine z_val (v := .rsl _ _ _ _ _) (v_load_rp (c := .osl _ _ _ _) ta86 il rfl (fun _ => rfl)) rfl rfl (by decide) rfl (by kernel_rfl) ?_
      refine z_val (v := .int _ _) (v_move il nf) rfl rfl (by decide) rfl (by kernel_rfl) ?_
      refine z_val (v := .rp _ _) (v_indexAddr_rsl0 es86 il il (fun _ => hib)) rfl rfl (by decide) rfl (by kernel_rfl) ?_
      refine z_val (v := .rsl (INH, [3, i]) 1 0 (I.1.length + 1) none) ((v_load_rp (c := .osl _ _ _ _) ta89 il rfl (fun _ => by rw [Int.toNat_natCast, Nat.mul_one]; exact hz3)).cast ((by show AV.rsl (INH, [3] ++ [(i : Int).toNat * 1]) 1 0 _ none = _; rw [Int.toNat_natCast, Nat.mul_one]; rfl))) rfl rfl (by decide) rfl (by kernel_rfl) ?_
      refine z_val (v := .int _ _) (v_move il nf) rfl rfl (by decide) rfl (by kernel_rfl) ?_
      refine z_val (v := .rp _ _) (v_indexAddr_rsl0 es89 il il (fun _ => hkb)) rfl rfl (by decide) rfl (by kernel_rfl) ?_
      refine z_val (v := .int .i64 (gd (gl I.2 i ++ [0]) k)) (v_load_rp1 ta3 il (blk_osl (by show node (.op _) [3, i] = _; exact node_row rfl hz3)) (fun _ => by rw [Nat.mul_one, ← hgm]; exact icells_get (gd_get hkj)) rfl) rfl rfl (by decide) rfl (by kernel_rfl) ?_
      refine z_val (v := .rp _ _) (v_move il nf) rfl rfl (by decide) rfl (by kernel_rfl) ?_
      refine z_val (v := .rp _ _) (v_nilCheck il rfl) rfl rfl (by decide) rfl (by kernel_rfl) ?_
      refine z_val (v := .rp _ _) (v_fieldAddr_rp fo92_0 il) rfl rfl (by decide) rfl (by kernel_rfl) ?_
      refine z_val (v := .rp _ _) (v_fieldAddr_rp fo83_0 il) rfl rfl (by decide) rfl (by kernel_rfl) ?_
      refine z_val (v := .int _ _) (v_load_rp1 ta3 il rfl (fun _ => rfl) rfl) rfl rfl (by decide) rfl (by kernel_rfl) ?_
      refine z_val (v := .int _ _) (v_move il nf) rfl rfl (by decide) rfl (by kernel_rfl) ?_
      refine z_val (v := .int _ _) (v_sub il il (fun _ => hsb)) rfl rfl (by decide) rfl (by kernel_rfl) ?_
      refine z_val (v := .int _ _) (v_move il nf) rfl rfl (by decide) rfl (by kernel_rfl) ?_
      refine z_val (v := .int _ _) (v_mul il il (fun _ => hmu2)) rfl rfl (by decide) rfl (by kernel_rfl) ?_
      refine z_val (v := .int _ _) (v_add il il (fun _ => hadd)) rfl rfl (by decide) rfl (by kernel_rfl) ?_
      refine z_val (v := .rp _ _) (v_move il nf) rfl rfl (by decide) rfl (by kernel_rfl) ?_
      refine z_val (v := .rp _ _) (v_nilCheck il rfl) rfl rfl (by decide) rfl (by kernel_rfl) ?_
      refine z_val (v := .rp _ _) (v_fieldAddr_rp fo92_0 il) rfl rfl (by decide) rfl (by kernel_rfl) ?_
      refine z_val (v := .rp _ _) (v_fieldAddr_rp fo83_0 il) rfl rfl (by decide) rfl (by kernel_rfl) ?_
      refine z_val (v := .int _ _) (v_load_rp1 ta3 il rfl (fun _ => rfl) rfl) rfl rfl (by decide) rfl (by kernel_rfl) ?_
      refine z_val (v := .int _ _) (v_rem il il (fun _ => hrem)) rfl rfl (by decide) rfl (by kernel_rfl) ?_
      refine z_val (v := .rp _ _) (v_indexAddr_rsl0 es89 il il (fun _ => hkb)) rfl rfl (by decide) rfl (by kernel_rfl) ?_
      refine z_nil ?_
      refine r_step rfl (o_store (v := .int _ _) (z := .osl 1 (icells (mixL (gl um i) (gl I.2 i ++ [0]) k)) (I.1.length + 1) none) (y' := .op [.int .i64 p, .int .i64 vars, .osl 1 (sls (mixG ur I.1 (i + 1))) I.1.length none, .osl 1 (osls ((mixG um I.2 i).set i (mixL (gl um i) (gl I.2 i ++ [0]) (k + 1)))) I.1.length none, .int .i64 ((I.1.length + 1 : Nat) : Int)]) rfl rfl ta3 il il (by show node (.op _) [3, i] = _; exact node_row rfl hz3) rfl rfl rfl rfl rfl hpl4 (by decide) rfl (by show setNode (.op _) [3, i] _ = _; rw [setNode_row rfl hz3]; exact congrArg (fun c => AV.op [.int .i64 p, .int .i64 vars, .osl 1 (sls (mixG ur I.1 (i + 1))) I.1.length none, .osl 1 c I.1.length none, .int .i64 ((I.1.length + 1 : Nat) : Int)]) hs4)) ?_
      refine r_nil ?_
      refine a_pre (ent_look (L := [(0, .rp _ _), (5, .sl _ _), (7, .int _ _), (9, .osl _ _ _ _), (12, .int _ _), (14, .int _ _), (97, .rsl _ _ _ _ _), (98, .int _ _), (99, .int _ _), (158, .rsl _ _ _ _ _), (159, .int _ _), (160, .int _ _), (INH, .op [.int _ _, .int _ _, .osl _ _ _ _, .osl _ _ _ _, .int _ _])]) ⟨Weak.rfl, Weak.rfl, Weak.rfl, Weak.rfl, Weak.rfl, Weak.rfl, Weak.rfl, Weak.rfl, Weak.rfl, Weak.rfl, Weak.rfl, Weak.rfl, Weak.rfl, trivial⟩) ?_
      refine a_region ?_
      refine rv (v := .int _ _) (v_add il il (fun _ => by omega)) ?_
      refine rv (v := .int _ _) (v_move il nf) ?_
      refine r_nil ?_
      refine ⟨k + 1, ent_look ⟨Weak.of_eq rfl, Weak.of_eq rfl, Weak.of_eq rfl, Weak.of_eq rfl, Weak.of_eq rfl, Weak.of_eq rfl, Weak.of_eq rfl, Weak.of_eq rfl, Weak.of_eq rfl, Weak.of_eq rfl, Weak.of_eq rfl, Weak.of_eq (int_eq (by omega)), Weak.of_eq rfl, trivial⟩, by omega, by omega⟩
     ·
      skip
      refine a_exit ?_
      refine a_region ?_
      refine rv (v := .int _ _) (v_add il il (fun _ => by omega)) ?_
      refine rv (v := .int _ _) (v_move il nf) ?_
      refine r_nil ?_
      have hkn : (I.1.length + 1) ≤ k := (by simp at ht161; omega)
      have hM4 : (mixG um I.2 (i + 1)) = ((mixG um I.2 i).set i (mixL (gl um i) (gl I.2 i ++ [0]) k)) := (by rw [← mixG_set huml hi2, mixL_full hnol (by omega)])
      refine ⟨i + 1, ent_look ⟨Weak.of_eq rfl, Weak.of_eq rfl, Weak.of_eq rfl, Weak.of_eq rfl, Weak.of_eq rfl, Weak.of_eq rfl, Weak.of_eq (int_eq (by omega)), Weak.of_eq (by rw [hM4]; rfl), trivial⟩, by omega, by omega⟩
    ·
     skip
     refine a_skip ?_
     refine a_region ?_
     refine rv (v := .int _ _) (v_add il il (fun _ => by omega)) ?_
     refine rv (v := .int _ _) (v_move il nf) ?_
     refine r_nil ?_
     have hc0 : (gd (gl I.1 i) ll.toNat) = 0 := (by simpa using ht137)
     have hR5 : (mixG ur I.1 (i + 1)) = (mixG ur I.1 i) := mixG_keep hurl hi (by rw [hgU i hi, hc0, Int.sub_zero]; exact axp_same hr2 (.inr rfl))
     have hM5 : (mixG um I.2 (i + 1)) = (mixG um I.2 i).set i (gl I.2 i ++ [0]) := (by rw [← mixG_set huml hi2, hgV i hi, hc0, Int.sub_zero, axp_same holdb (.inr rfl)])
     refine ⟨i + 1, ent_look ⟨Weak.of_eq rfl, Weak.of_eq rfl, Weak.of_eq rfl, Weak.of_eq rfl, Weak.of_eq rfl, Weak.of_eq rfl, Weak.of_eq (int_eq (by omega)), Weak.of_eq (by rw [hR5, hM5]; rfl), trivial⟩, by omega, by omega⟩
   ·
    skip
    refine a_exit ?_
    refine a_seq ?_
    have hin : i = I.1.length := (by simp at ht100; omega)
    have hRf : (mixG ur I.1 i) = ur := mixG_full hurl (by omega)
    have hMf : (mixG um I.2 i) = um := mixG_full huml (by omega)
    refine a_pre (ent_eq (t := INH) (v' := .op [.int .i64 p, .int .i64 vars, .osl 1 (sls ur) I.1.length none, .osl 1 (osls um) I.1.length none, .int .i64 ((I.1.length + 1 : Nat) : Int)]) (Weak.of_eq (by rw [hRf, hMf]; rfl))) ?_
    refine a_region ?_
    refine rv (v := .rp _ _) (v_move il nf) ?_
    refine rv (v := .rp _ _) (v_move il nf) ?_
    refine rv (v := .rp _ _) (v_nilCheck il rfl) ?_
    refine rv (v := .rp _ _) (v_fieldAddr_rp fo92_1 il) ?_
    refine rv (v := .rsl _ _ _ _ _) (v_load_rp (c := .osl _ _ _ _) ta86 il rfl (fun _ => rfl)) ?_
    refine rv (v := .sl _ _) (v_move il nf) ?_
    refine rn (v := .osl _ _ _ _) (q_sliceLit (n := 1) (parts := [(0, .tmp 207)]) lt86 rfl rfl rfl rfl) ?_
    refine r_pre (ent_reloc_sl (t := 206) rfl rfl) ?_
    refine r_step rfl (o_append rfl ap86 rfl (by decide) (by decide) rfl (src_lit (.inl rfl) rfl rfl rfl) rfl (by rw [sls_length]; omega) (by omega)) ?_
    refine rv (v := .rp _ _) (v_nilCheck il rfl) ?_
    refine rv (v := .rp _ _) (v_fieldAddr_rp fo92_1 il) ?_
    refine r_pre (ent_eq (t := 209) (v' := .osl 1 (sls (ur ++ [rw9])) (I.1.length + 1) none) (Weak.osl (by rw [sls_append]; show _ = sls ur ++ [AV.sl (icells rw9) rw9.length]; rw [hrwl]; rfl) rfl)) ?_
    refine r_step rfl (o_store_keep (t8 := 0) (v := .osl _ _ _ _) (y' := .op [.int _ _, .int _ _, .osl _ _ _ _, .osl _ _ _ _, .int _ _]) rfl rfl ta86 (.inl rfl) (by decide) rfl (by decide) rfl (by simp [cellsOf, noRefL, noRef, sls_noRef]) rfl rfl rfl rfl rfl (Nat.le_of_ble_eq_true rfl) rfl rfl rfl rfl rfl) ?_
    refine r_nil ?_
    refine a_seq ?_
    refine a_region ?_
    refine rv (v := .rp _ _) (v_move il nf) ?_
    refine rv (v := .rp _ _) (v_move il nf) ?_
    refine rv (v := .rp _ _) (v_nilCheck il rfl) ?_
    refine rv (v := .rp _ _) (v_fieldAddr_rp fo92_2 il) ?_
    refine rv (v := .rsl _ _ _ _ _) (v_load_rp (c := .osl _ _ _ _) ta86 il rfl (fun _ => rfl)) ?_
    refine rv (v := .rsl _ _ _ _ _) (v_move il nf) ?_
    refine r_pre (ent_reloc_sl (t := 217) rfl rfl) ?_
    refine r_step rfl (o_sliceLit1 (v := .osl _ _ _ _) rfl lt86 rfl rfl (by decide) (by decide) rfl rfl (by simp [cellsOf, noRefL, noRef, ic_noRef]) rfl rfl) ?_
    refine r_pre (ent_reloc_sl (t := 216) rfl rfl) ?_
    refine r_step rfl (o_append_own rfl ap86 rfl (by decide) (by decide) (by decide) (by decide) rfl rfl rfl (by rw [osls_length]; omega) rfl (by omega)) ?_
    refine rv (v := .rp _ _) (v_nilCheck il rfl) ?_
    refine rv (v := .rp _ _) (v_fieldAddr_rp fo92_2 il) ?_
    refine r_pre (ent_eq (t := 219) (v' := .osl 1 (osls (um ++ [ow])) (I.1.length + 1) none) (Weak.osl (by rw [osls_append]; show _ = osls um ++ [AV.osl 1 (icells ow) ow.length none]; rw [howl]; rfl) rfl)) ?_
    refine r_step rfl (o_store_keep (t8 := 0) (v := .osl _ _ _ _) (y' := .op [.int _ _, .int _ _, .osl _ _ _ _, .osl _ _ _ _, .int _ _]) rfl rfl ta86 (.inl rfl) (by decide) rfl (by decide) rfl (by simp [cellsOf, noRefL, noRef, osls_noRef]) rfl rfl rfl rfl rfl (Nat.le_of_ble_eq_true rfl) rfl rfl rfl rfl rfl) ?_
    refine r_nil ?_
    refine a_seq ?_
    refine a_pre (ent_look (L := [(0, .rp _ _), (5, .sl _ _), (7, .int _ _), (98, .int _ _), (99, .int _ _), (INH, .op [.int _ _, .int _ _, .osl _ _ _ _, .osl _ _ _ _, .int _ _])]) ⟨Weak.rfl, Weak.rfl, Weak.rfl, Weak.rfl, Weak.rfl, Weak.rfl, trivial⟩) ?_
    have hl9 : (ur ++ [rw9]).length = (I.1.length + 1) := (by rw [List.length_append, hurl0]; rfl)
    refine a_pre (ent_eq (t := INH) (v' := .op [.int .i64 p, .int .i64 vars, .osl 1 (sls (stI p (dn vars) I x).1) (stI p (dn vars) I x).1.length none, .osl 1 (osls (stI p (dn vars) I x).2) (stI p (dn vars) I x).1.length none, .int .i64 (((stI p (dn vars) I x).1.length : Nat) : Int)]) (Weak.of_eq (by rw [hst]; dsimp only; rw [hl9]; rfl))) ?_
    refine a_region ?_
    refine rv (v := .bool _) (v_assign il nf) ?_
    refine r_nil ?_
    refine a_ret ?_
    refine ret1 Try.results66 (by decide) (by decide) (Weak.of_eq (bool_eq ?_)) rfl (Leaves.one (Weak.of_eq rfl) rfl)
    rw [decide_eq_false hng]; rfl
end Go.Av
namespace Go.Av
open Go Go.Proofs Go.Sort
set_option maxRecDepth 10000
theorem es65 : elemSize Try.prog 65 = some 3 := by kernel_rfl
theorem fo95_2 : fieldOff Try.prog 95 2 = some 2 := by kernel_rfl
theorem hb65 : hasBody Try.prog 65 = true := by kernel_rfl
theorem hb66 : hasBody Try.prog 66 = true := by kernel_rfl
theorem sl65 : isSlice Try.prog 65 = true := by kernel_rfl
theorem sp92 : structPl Try.prog 92 = some ([.int .i64 0, .int .i64 0, .nils, .nils, .int .i64 0], [(0, 2), (2, 1), (3, 1), (4, 1)]) := by kernel_rfl
theorem ta95 : tyAgg Try.prog 95 = some (true, 3) := by kernel_rfl
theorem zc95 : zeroCells Try.prog 95 = some [.int .i64 0, .int .i64 0, .nils] := by kernel_rfl
theorem indep_c (p vars : Int) (L : List (List Int)) (d : Nat) (ha : aOk p vars L = true) (hd6 : d ≤ 6) : ACall Try.prog 44 [.pp [.int .i64 p, .int .i64 vars, .int .i64 vars, .sl (sls L) L.length, .sl (sls (qL p vars L)) L.length] 0, .int .i64 ((d : Nat) : Int)] [] (.tup [.osl 3 (prC (jQ p (dn vars) (prL p vars L d L.length) (prL p vars L d L.length).length)) (jQ p (dn vars) (prL p vars L d L.length) (prL p vars L d L.length).length).length none, .op [.int .i64 p, .int .i64 vars, .osl 1 (sls (iQ p (dn vars) (prL p vars L d L.length) (prL p vars L d L.length).length).1) (iQ p (dn vars) (prL p vars L d L.length) (prL p vars L d L.length).length).1.length none, .osl 1 (osls (iQ p (dn vars) (prL p vars L d L.length) (prL p vars L d L.length).length).2) (iQ p (dn vars) (prL p vars L d L.length) (prL p vars L d L.length).length).1.length none, .int .i64 (((iQ p (dn vars) (prL p vars L d L.length) (prL p vars L d L.length).length).1.length : Nat) : Int)]]) [] := by
 obtain ⟨hp, hc⟩ := aOk_spec ha
 have hpp := prime_spec hp
 have hcs := cnfB_spec hc
 have hd := dn_le hpp.2
 have hw := pow6 hpp.2
 have hdn := dn_cast vars
 have hp5 : p = 2 ∨ p = 3 ∨ p = 5 := prime_or hp
 have hdn64 : dn vars ≤ 64 := (dn_le hpp.2).2
 have hQ : ∀ q ∈ (prL p vars L d L.length), q.2.2.length = dn vars ∧ Bd p q.2.2 := fun q hq => prL_mem (by omega) hq
 have hQl : (prL p vars L d L.length).length ≤ 448 * L.length := prL_len hpp.2 hd6 L.length
 have hL60 := hcs.2.1
 refine ACall.intro Try.func44 rfl (N := 35) rfl (by decide) (by simp) ?_
 refine a_seq ?_
 refine a_region ?_
 refine rv (v := .nils) (v_assign il nf) ?_
 refine rv (v := .nilp) (v_assign il nf) ?_
 refine r_nil ?_
 refine a_seq ?_
 refine a_region ?_
 refine rv (v := .pp _ _) (v_move il nf) ?_
 refine rv (v := .pp _ _) (v_nilCheck il rfl) ?_
 refine rv (v := .pp _ _) (v_fieldAddr_pp fo88_0 il) ?_
 refine rv (v := .agg [.int _ _, .int _ _]) (v_load_ppa1 ta83 il rfl (fun _ => rfl) rfl) ?_
 refine rv (v := .agg [.int _ _, .int _ _, .nils, .nils, .int _ _]) (v_build sp92 rfl rfl) ?_
 refine rn (v := .op [.int _ _, .int _ _, .nils, .nils, .int _ _]) (q_box il rfl rfl) ?_
 refine rv (v := .rp _ _) (v_assign il nf) ?_
 refine r_pre (ent_reloc_op (t := 6) rfl rfl) ?_
 refine r_nil ?_
 refine a_seq ?_
 refine a_pre (ent_nil_at (t := 6) (r := [2]) (sz := 1) rfl (.inl rfl) rfl rfl) ?_
 refine a_pre (ent_nil_at (t := 6) (r := [3]) (sz := 1) rfl (.inl rfl) rfl rfl) ?_
 refine a_region ?_
 refine rv (v := .nils) (v_assign il nf) ?_
 refine r_nil ?_
 refine a_seq ?_
 refine a_seq ?_
 refine a_region ?_
 refine rv (v := .pp _ _) (v_move il nf) ?_
 refine rv (v := .int _ _) (v_move il nf) ?_
 refine rn (v := .osl _ _ _ _) (q_callF (vs := [.pp _ _, .int _ _]) (args := [.pp _ _, .int .i64 _]) hb65 ⟨il, il, trivial⟩ rfl (fun hA => iprods_c p vars L d ha hd6) rfl (prC_noRef _)) ?_
 refine rv (v := .int _ _) (v_len_rsl sl65 il) ?_
 refine rv (v := .int _ _) (v_move il nf) ?_
 refine r_nil ?_
 refine a_block ?_
 refine a_pre (ent_nil (t := 7) (sz := 3) (cap := none) (.inl rfl) (fun _ h => by cases h)) ?_
 refine a_loop (X := Nat) (fun i => look [(6, .op [.int .i64 p, .int .i64 vars, .osl 1 (sls (iQ p (dn vars) (prL p vars L d L.length) i).1) (iQ p (dn vars) (prL p vars L d L.length) i).1.length none, .osl 1 (osls (iQ p (dn vars) (prL p vars L d L.length) i).2) (iQ p (dn vars) (prL p vars L d L.length) i).1.length none, .int .i64 (((iQ p (dn vars) (prL p vars L d L.length) i).1.length : Nat) : Int)]), (7, .osl 3 (prC (jQ p (dn vars) (prL p vars L d L.length) i)) (jQ p (dn vars) (prL p vars L d L.length) i).length none), (18, .osl 3 (prC (prL p vars L d L.length)) (prL p vars L d L.length).length none), (19, .int .i64 ((prL p vars L d L.length).length : Int)), (20, .int .i64 ((i : Nat) : Int))]) (fun i => i ≤ (prL p vars L d L.length).length) (fun i => (prL p vars L d L.length).length - i) 0 (ent_look ⟨Weak.of_eq rfl, Weak.osl rfl rfl, Weak.of_eq rfl, Weak.of_eq rfl, Weak.of_eq rfl, trivial⟩) (Nat.zero_le _) (fun i hG => ?_)
 have hrk := rankQ (i := i) hp5 hdn64 hQ hG
 obtain ⟨hS, hI, hSI, hSi⟩ := hrk
 have hkl := kQ_len (p := p) hG
 have hi26 := hQl
 have hjl := jQ_len (p := p) (N := dn vars) hG
 refine a_seq ?_
 refine a_region ?_
 refine rv (v := .bool _) (v_lss il il) ?_
 refine r_nil ?_
 refine a_seq ?_
 refine a_cond rfl (fun ht21 => ?_) (fun ht21 => ?_)
 ·
  skip
  refine a_skip ?_
  refine a_seq ?_
  refine a_block ?_
  refine a_seq ?_
  have hi : i < (prL p vars L d L.length).length := (by simp at ht21; omega)
  obtain ⟨hx, hbx⟩ := hQ _ (pq_mem hi)
  refine a_region ?_
  refine rv (v := .rp _ _) (v_indexAddr_rsl0 es65 il il (fun _ => by omega)) ?_
  refine rv (v := .agg [.int _ _, .int _ _, .sl _ _]) (v_load_rpa1 ta95 il rfl rfl (fun _ => by rw [show ((i : Nat) : Int).toNat * 3 = i * 3 from rfl]; exact prC_three hi) rfl) ?_
  refine rn (v := .op [.int _ _, .int _ _, .nils]) (q_alloc zc95) ?_
  refine r_step rfl (o_store (v := .agg [.int _ _, .int _ _, .sl _ _]) (y' := .op [.int _ _, .int _ _, .sl _ _]) rfl rfl ta95 il il rfl rfl rfl rfl rfl rfl (Nat.le_of_ble_eq_true rfl) (by decide) rfl rfl) ?_
  refine r_nil ?_
  refine a_seq ?_
  refine a_region ?_
  refine rv (v := .rp _ _) (v_move il nf) ?_
  refine rv (v := .rp _ _) (v_fieldAddr_rp fo95_2 il) ?_
  refine rv (v := .sl (icells (pq (prL p vars L d L.length) i).2.2) (dn vars)) ((v_load_rp1 ta89 il rfl (fun _ => rfl) rfl).cast (sl_eq2 rfl hx)) ?_
  refine r_step rfl (o_callIOg (q := (6, [])) (vs := [.rp _ _, .sl _ _]) (args := [.rp (INH, []) _, .sl _ _]) (cs0 := [.int _ _, .int _ _, .osl _ _ _ _, .osl _ _ _ _, .int _ _]) (cs1 := [.int _ _, .int _ _, .osl _ _ _ _, .osl _ _ _ _, .int _ _]) (res := .bool _) rfl hb66 rfl (by decide) ⟨.inl rfl, .inl rfl, trivial⟩ rfl rfl (eadd_c p vars (iQ p (dn vars) (prL p vars L d L.length) i) (pq (prL p vars L d L.length) i).2.2 hp hI hx hbx (by omega)) rfl rfl rfl (by simp [noRef, noRefL, sls_noRef, osls_noRef]) (Nat.le_of_ble_eq_true rfl) (by decide) rfl) ?_
  refine r_nil ?_
  refine a_cond rfl (fun ht27 => ?_) (fun ht27 => ?_)
  ·
   skip
   refine a_region ?_
   refine rv (v := .rsl _ _ _ _ _) (v_move il nf) ?_
   refine rv (v := .agg [.int _ _, .int _ _, .sl _ _]) (v_load_rpa1 ta95 il rfl rfl (fun _ => rfl) rfl) ?_
   refine rn (v := .osl _ _ _ _) (q_sliceLit (n := 1) (parts := [(0, .tmp 29)]) lt65 rfl rfl rfl rfl) ?_
   refine r_pre (ent_reloc_sl (t := 28) rfl rfl) ?_
   refine r_step rfl (o_append_own rfl ap65 rfl (by decide) (by decide) (by decide) (by decide) rfl rfl rfl (by rw [prC_length]) rfl (by omega)) ?_
   refine rv (v := .rsl _ _ _ _ _) (v_assign il nf) ?_
   refine r_pre (ent_reloc_sl (t := 7) rfl rfl) ?_
   refine r_nil ?_
   refine a_region ?_
   refine rv (v := .int _ _) (v_add il il (fun _ => by omega)) ?_
   refine rv (v := .int _ _) (v_move il nf) ?_
   refine r_nil ?_
   have hng : ¬ (lI p (dn vars) (iQ p (dn vars) (prL p vars L d L.length) i) (pq (prL p vars L d L.length) i).2.2) < 0 := (by simpa using ht27)
   have hst : (iQ p (dn vars) (prL p vars L d L.length) (i + 1)) = stI p (dn vars) (iQ p (dn vars) (prL p vars L d L.length) i) (pq (prL p vars L d L.length) i).2.2 := iQ_succ hi
   have hkq : (jQ p (dn vars) (prL p vars L d L.length) (i + 1)) = (jQ p (dn vars) (prL p vars L d L.length) i) ++ [pq (prL p vars L d L.length) i] := (by rw [jQ, if_neg hng])
   refine ⟨i + 1, ent_look ⟨Weak.of_eq (by rw [hst]; rfl), Weak.osl (by rw [hkq, prC_app]; rfl) (by rw [hkq]; simp), Weak.of_eq rfl, Weak.of_eq rfl, Weak.of_eq (int_eq (by omega)), trivial⟩, by omega, by omega⟩
  ·
   skip
   refine a_skip ?_
   refine a_region ?_
   refine rv (v := .int _ _) (v_add il il (fun _ => by omega)) ?_
   refine rv (v := .int _ _) (v_move il nf) ?_
   refine r_nil ?_
   have hng : (lI p (dn vars) (iQ p (dn vars) (prL p vars L d L.length) i) (pq (prL p vars L d L.length) i).2.2) < 0 := (by simpa using ht27)
   have hst : (iQ p (dn vars) (prL p vars L d L.length) (i + 1)) = stI p (dn vars) (iQ p (dn vars) (prL p vars L d L.length) i) (pq (prL p vars L d L.length) i).2.2 := iQ_succ hi
   have hkq : (jQ p (dn vars) (prL p vars L d L.length) (i + 1)) = (jQ p (dn vars) (prL p vars L d L.length) i) := (by rw [jQ, if_pos hng])
   refine ⟨i + 1, ent_look ⟨Weak.of_eq (by rw [hst]; rfl), Weak.osl (by rw [hkq]) (by rw [hkq]), Weak.of_eq rfl, Weak.of_eq rfl, Weak.of_eq (int_eq (by omega)), trivial⟩, by omega, by omega⟩
 ·
  skip
  refine a_exit ?_
  refine a_seq ?_
  refine a_region ?_
  refine rv (v := .rsl _ _ _ _ _) (v_move il nf) ?_
  refine rv (v := .rp _ _) (v_move il nf) ?_
  refine rv (v := .rsl _ _ _ _ _) (v_assign il nf) ?_
  refine r_pre (ent_reloc_sl (t := 4) rfl rfl) ?_
  refine rv (v := .rp _ _) (v_assign il nf) ?_
  refine r_pre (ent_reloc_op (t := 5) rfl rfl) ?_
  refine r_nil ?_
  refine a_ret ?_
  refine retL (rs := [.tmp 4, .tmp 5]) [(4, .osl _ _ _ none), (5, _)] ⟨Weak.osl rfl rfl, Weak.rfl, trivial⟩ rfl Try.results44 (by decide) ⟨by decide, by decide, rfl⟩ (by decide) (by decide) (l2_eq (osl_eq2 ?_ ?_) ?_) rfl
  all_goals (have hie : i = (prL p vars L d L.length).length := (by simp at ht21; omega); subst hie; rfl)
end Go.Av
namespace Go.Av
open Go Go.Proofs Go.Sort
set_option maxRecDepth 10000
theorem fp59_0 : fieldPart Try.prog 59 0 = some (false, 0, 1) := by kernel_rfl
theorem hb16 : hasBody Try.prog 16 = true := by kernel_rfl
theorem hb17 : hasBody Try.prog 17 = true := by kernel_rfl
theorem hb18 : hasBody Try.prog 18 = true := by kernel_rfl
theorem hb19 : hasBody Try.prog 19 = true := by kernel_rfl
theorem hb38 : hasBody Try.prog 38 = true := by kernel_rfl
theorem hb39 : hasBody Try.prog 39 = true := by kernel_rfl
theorem hb40 : hasBody Try.prog 40 = true := by kernel_rfl
theorem hb42 : hasBody Try.prog 42 = true := by kernel_rfl
theorem hb43 : hasBody Try.prog 43 = true := by kernel_rfl
theorem hb44 : hasBody Try.prog 44 = true := by kernel_rfl
theorem hb9 : hasBody Try.prog 9 = true := by kernel_rfl
theorem ta32 : tyAgg Try.prog 32 = some (true, 2) := by kernel_rfl
theorem un4 : Try.prog.underlying 4 = some .bool := by kernel_rfl
theorem sSpan_c (p vars : Int) (L : List (List Int)) (d : Int) (hk : CnfOk vars L) : ACall Try.prog 17 [.int .i64 p, .agg [.int .i64 vars, .sl (sls L) L.length], .int .i64 d] [] (.tup [.int .i64 (if (okCnt p vars L d) then (rkS p vars L d.toNat : Int) else 0), .bool (okCnt p vars L d)]) [] := by
 refine ACall.intro Try.func17 rfl (N := 23) rfl (by decide) (by simp) ?_
 refine a_seq ?_
 refine a_region ?_
 refine rn (v := .op [.int _ _, .sl _ _]) (q_box il rfl rfl) ?_
 refine rv (v := .int _ _) (v_assign il nf) ?_
 refine rv (v := .bool _) (v_assign il nf) ?_
 refine r_nil ?_
 refine a_seq ?_
 refine a_seq ?_
 refine a_region ?_
 refine rv (v := .int _ _) (v_move il nf) ?_
 refine rv (v := .agg [.int _ _, .sl _ _]) (v_load_rpa1 ta24 il rfl rfl (fun _ => rfl) rfl) ?_
 refine rn (v := .bool _) (q_call (vs := [.int _ _, .agg [.int _ _, .sl _ _]]) (args := [.int .i64 _, .agg [.int .i64 _, .sl _ _]]) hb38 ⟨il, il, trivial⟩ rfl (fun hA => takes19_c p vars L hk) rfl rfl) ?_
 refine rv (v := .bool _) (v_not il) ?_
 refine rv (v := .bool _) (v_move il nf) ?_
 refine r_gval (v := .int _ _) (v_move il nf) rfl rfl rfl (by decide) (.inl ⟨_, rfl, rfl⟩) rfl (by decide) ?_
 refine r_guard (v := .bool _) (q_call (vs := [.int _ _]) (args := [.int .i64 _]) hb39 ⟨.inr ⟨_, rfl, fun h => h⟩, trivial⟩ rfl (fun hA => deg19_c d) rfl rfl) rfl rfl rfl (by decide) (.inl ⟨_, rfl, rfl⟩) rfl (by decide) ?_
 refine r_gval (v := .bool _) (v_not (.inr ⟨_, rfl, fun h => h⟩)) rfl rfl rfl (by decide) (.inl ⟨_, rfl, rfl⟩) rfl (by decide) ?_
 refine rv (v := .bool _) (v_pick (.inl rfl) (.inl rfl) (.inr ⟨_, rfl, fun h h2 => by simp_all⟩)) ?_
 refine r_nil ?_
 refine a_cond rfl (fun ht16 => ?_) (fun ht16 => ?_)
 ·
  skip
  refine a_seq ?_
  have hno : (okCnt p vars L d) = false := (by unfold okCnt; cases h1 : aOk p vars L <;> cases h2 : inR d 0 6 <;> simp_all)
  refine a_region ?_
  refine rv (v := .int _ _) (v_assign il nf) ?_
  refine rv (v := .bool _) (v_assign il nf) ?_
  refine r_nil ?_
  refine a_ret ?_
  refine retL (rs := [.tmp 6, .tmp 7]) [(6, _), (7, _)] ⟨Weak.rfl, Weak.rfl, trivial⟩ rfl Try.results17 (by decide) ⟨by decide, by decide, rfl⟩ (by decide) (by decide) (l2_eq (int_eq ?_) (bool_eq ?_)) rfl
  all_goals (rw [hno] <;> rfl)
 ·
  skip
  refine a_skip ?_
  refine a_seq ?_
  obtain ⟨ha, hdr⟩ : aOk p vars L = true ∧ inR d 0 6 = true := (by cases h1 : aOk p vars L <;> cases h2 : inR d 0 6 <;> simp_all)
  have hd9 := inR_spec.1 hdr
  have hok : (okCnt p vars L d) = true := (by unfold okCnt; rw [ha, hdr]; rfl)
  refine a_region ?_
  refine rv (v := .int _ _) (v_move il nf) ?_
  refine rv (v := .agg [.int _ _, .sl _ _]) (v_load_rpa1 ta24 il rfl rfl (fun _ => rfl) rfl) ?_
  refine rv (v := .int .i64 ((d.toNat : Nat) : Int)) ((v_move il nf).cast (int_eq (by omega))) ?_
  refine rn (v := .agg [.osl _ _ _ _, .osl _ _ _ _, .osl _ _ _ _, .osl _ _ _ _]) (q_callF (vs := [.int _ _, .agg [.int _ _, .sl _ _], .int _ _]) (args := [.int .i64 _, .agg [.int .i64 _, .sl _ _], .int .i64 _]) hb40 ⟨il, il, il, trivial⟩ rfl (fun hA => span19_c p vars L d.toNat ha (by omega) hk) rfl (by simp [noRef, noRefL, osls_noRef, ic_noRef, prC_noRef])) ?_
  refine rv (v := .rsl _ _ _ _ _) (v_field fp59_0 rfl rfl) ?_
  refine rv (v := .int _ _) (v_len_rsl sl22 il) ?_
  refine rv (v := .int _ _) (v_assign il nf) ?_
  refine rv (v := .bool _) (v_assign il nf) ?_
  refine r_nil ?_
  refine a_ret ?_
  refine retL (rs := [.tmp 6, .tmp 7]) [(6, _), (7, _)] ⟨Weak.rfl, Weak.rfl, trivial⟩ rfl Try.results17 (by decide) ⟨by decide, by decide, rfl⟩ (by decide) (by decide) (l2_eq (int_eq ?_) (bool_eq ?_)) rfl
  all_goals (rw [hok] <;> rfl)
theorem iSpan_c (p vars : Int) (L : List (List Int)) (d : Int) (hk : CnfOk vars L) : ACall Try.prog 19 [.int .i64 p, .agg [.int .i64 vars, .sl (sls L) L.length], .int .i64 d] [] (.tup [.int .i64 (if (okCnt p vars L d) then (rkS p vars L d.toNat : Int) else 0), .bool (okCnt p vars L d)]) [] := by
 refine ACall.intro Try.func19 rfl (N := 33) rfl (by decide) (by simp) ?_
 refine a_seq ?_
 refine a_region ?_
 refine rn (v := .op [.int _ _, .sl _ _]) (q_box il rfl rfl) ?_
 refine rv (v := .int _ _) (v_assign il nf) ?_
 refine rv (v := .bool _) (v_assign il nf) ?_
 refine r_nil ?_
 refine a_seq ?_
 cases ha : aOk p vars L
 ·
  skip
  refine a_region ?_
  refine rv (v := .int _ _) (v_move il nf) ?_
  refine rv (v := .agg [.int _ _, .sl _ _]) (v_load_rpa1 ta24 il rfl rfl (fun _ => rfl) rfl) ?_
  refine rn (v := .tup [.nilp, .bool _]) (q_call (vs := [.int _ _, .agg [.int _ _, .sl _ _]]) (args := [.int .i64 _, .agg [.int .i64 _, .sl _ _]]) hb42 ⟨il, il, trivial⟩ rfl (fun hA => algNo_c p vars L hk ha) rfl rfl) ?_
  refine rv (v := .tup [.nilp, .bool _]) (v_mv rfl) ?_
  refine rv (v := .nilp) (v_extract rfl rfl) ?_
  refine rv (v := .bool _) (v_extract rfl rfl) ?_
  refine rv (v := .nilp) (v_assign il nf) ?_
  refine rv (v := .bool _) (v_assign il nf) ?_
  refine r_nil ?_
  refine a_seq ?_
  refine a_seq ?_
  refine a_region ?_
  refine rv (v := .bool _) (v_move il nf) ?_
  refine rv (v := .bool _) (v_not il) ?_
  refine rv (v := .bool _) (v_move il nf) ?_
  refine r_gval (v := .int _ _) (v_move il nf) rfl rfl rfl (by decide) (.inl ⟨_, rfl, rfl⟩) rfl (by decide) ?_
  refine r_guard (v := .bool _) (q_call (vs := [.int _ _]) (args := [.int .i64 _]) hb43 ⟨.inr ⟨_, rfl, fun h => h⟩, trivial⟩ rfl (fun hA => degOk_c d) rfl rfl) rfl rfl rfl (by decide) (.inl ⟨_, rfl, rfl⟩) rfl (by decide) ?_
  refine r_gval (v := .bool _) (v_not (.inr ⟨_, rfl, fun h => h⟩)) rfl rfl rfl (by decide) (.inl ⟨_, rfl, rfl⟩) rfl (by decide) ?_
  refine rv (v := .bool _) (v_pick (.inl rfl) (.inl rfl) (.inr ⟨_, rfl, fun h h2 => by simp_all⟩)) ?_
  refine r_nil ?_
  refine a_cond rfl (fun ht24 => ?_) (fun ht24 => ?_)
  ·
   skip
   refine a_seq ?_
   have hno : (okCnt p vars L d) = false := (by unfold okCnt; cases h1 : aOk p vars L <;> cases h2 : inR d 0 6 <;> simp_all)
   refine a_region ?_
   refine rv (v := .int _ _) (v_assign il nf) ?_
   refine rv (v := .bool _) (v_assign il nf) ?_
   refine r_nil ?_
   refine a_ret ?_
   refine retL (rs := [.tmp 6, .tmp 7]) [(6, _), (7, _)] ⟨Weak.rfl, Weak.rfl, trivial⟩ rfl Try.results19 (by decide) ⟨by decide, by decide, rfl⟩ (by decide) (by decide) (l2_eq (int_eq ?_) (bool_eq ?_)) rfl
   all_goals (rw [hno] <;> rfl)
  ·
   skip
   refine a_skip ?_
   refine a_seq ?_
   exfalso
   simp at ht24
 ·
  skip
  refine a_region ?_
  refine rv (v := .int _ _) (v_move il nf) ?_
  refine rv (v := .agg [.int _ _, .sl _ _]) (v_load_rpa1 ta24 il rfl rfl (fun _ => rfl) rfl) ?_
  refine rn (v := .tup [.pp _ _, .bool _]) (QSem.cast (q_callFZ (vs := [.int _ _, .agg [.int _ _, .sl _ _]]) (args := [.int .i64 _, .agg [.int .i64 _, .sl _ _]]) hb42 ⟨il, il, trivial⟩ rfl (fun hA => algOk_c p vars L hk ha) rfl (by simp [noRef, noRefL, osls_noRef, sls_noRef])) (alg_shT p vars L)) ?_
  refine rv (v := .tup [.pp _ _, .bool _]) (v_mv rfl) ?_
  refine rv (v := .pp _ _) (v_extract rfl rfl) ?_
  refine rv (v := .bool _) (v_extract rfl rfl) ?_
  refine rv (v := .pp _ _) (v_assign il nf) ?_
  refine rv (v := .bool _) (v_assign il nf) ?_
  refine r_nil ?_
  refine a_seq ?_
  refine a_seq ?_
  refine a_region ?_
  refine rv (v := .bool _) (v_move il nf) ?_
  refine rv (v := .bool _) (v_not il) ?_
  refine rv (v := .bool _) (v_move il nf) ?_
  refine r_gval (v := .int _ _) (v_move il nf) rfl rfl rfl (by decide) (.inl ⟨_, rfl, rfl⟩) rfl (by decide) ?_
  refine r_guard (v := .bool _) (q_call (vs := [.int _ _]) (args := [.int .i64 _]) hb43 ⟨.inr ⟨_, rfl, fun h => h⟩, trivial⟩ rfl (fun hA => degOk_c d) rfl rfl) rfl rfl rfl (by decide) (.inl ⟨_, rfl, rfl⟩) rfl (by decide) ?_
  refine r_gval (v := .bool _) (v_not (.inr ⟨_, rfl, fun h => h⟩)) rfl rfl rfl (by decide) (.inl ⟨_, rfl, rfl⟩) rfl (by decide) ?_
  refine rv (v := .bool _) (v_pick (.inl rfl) (.inl rfl) (.inr ⟨_, rfl, fun h h2 => by simp_all⟩)) ?_
  refine r_nil ?_
  refine a_cond rfl (fun ht24 => ?_) (fun ht24 => ?_)
  ·
   skip
   refine a_seq ?_
   have hno : (okCnt p vars L d) = false := (by unfold okCnt; cases h1 : aOk p vars L <;> cases h2 : inR d 0 6 <;> simp_all)
   refine a_region ?_
   refine rv (v := .int _ _) (v_assign il nf) ?_
   refine rv (v := .bool _) (v_assign il nf) ?_
   refine r_nil ?_
   refine a_ret ?_
   refine retL (rs := [.tmp 6, .tmp 7]) [(6, _), (7, _)] ⟨Weak.rfl, Weak.rfl, trivial⟩ rfl Try.results19 (by decide) ⟨by decide, by decide, rfl⟩ (by decide) (by decide) (l2_eq (int_eq ?_) (bool_eq ?_)) rfl
   all_goals (rw [hno] <;> rfl)
  ·
   skip
   refine a_skip ?_
   refine a_seq ?_
   have ha9 := ha
   obtain ⟨_, hdr⟩ : True ∧ inR d 0 6 = true := (by cases h2 : inR d 0 6 <;> simp_all)
   have hd9 := inR_spec.1 hdr
   have hok : (okCnt p vars L d) = true := (by unfold okCnt; rw [ha, hdr]; rfl)
   have hrk := rk_same (p := p) (vars := vars) (L := L) (d := d.toNat) (aOk_spec ha).1
   refine a_region ?_
   refine rv (v := .pp _ _) (v_move il nf) ?_
   refine rv (v := .int .i64 ((d.toNat : Nat) : Int)) ((v_move il nf).cast (int_eq (by omega))) ?_
   refine rn (v := .tup [.osl _ _ _ _, .op [.int _ _, .int _ _, .osl _ _ _ _, .osl _ _ _ _, .int _ _]]) (q_callF (vs := [.pp _ _, .int _ _]) (args := [.pp _ _, .int .i64 _]) hb44 ⟨il, il, trivial⟩ rfl (fun hA => indep_c p vars L d.toNat ha (by omega)) rfl (by simp [noRef, noRefL, prC_noRef, sls_noRef, osls_noRef])) ?_
   refine rv (v := .tup [.rsl _ _ _ _ _, .rp _ _]) (v_mv rfl) ?_
   refine rv (v := .rsl _ _ _ _ _) (v_extract rfl rfl) ?_
   refine rv (v := .rp _ _) (v_extract rfl rfl) ?_
   refine rv (v := .rsl _ _ _ _ _) (v_assign il nf) ?_
   refine r_pre (ent_reloc_sl (t := 10) rfl rfl) ?_
   refine rv (v := .rp _ _) (v_assign il nf) ?_
   refine r_pre (ent_reloc_op (t := 11) rfl rfl) ?_
   refine r_nil ?_
   refine a_seq ?_
   refine a_region ?_
   refine rv (v := .rsl _ _ _ _ _) (v_move il nf) ?_
   refine rv (v := .int _ _) (v_len_rsl sl65 il) ?_
   refine rv (v := .int _ _) (v_assign il nf) ?_
   refine rv (v := .bool _) (v_assign il nf) ?_
   refine r_nil ?_
   refine a_ret ?_
   refine retL (rs := [.tmp 6, .tmp 7]) [(6, _), (7, _)] ⟨Weak.rfl, Weak.rfl, trivial⟩ rfl Try.results19 (by decide) ⟨by decide, by decide, rfl⟩ (by decide) (by decide) (l2_eq (int_eq ?_) (bool_eq ?_)) rfl
   all_goals (first | (rw [hok, hrk]; rfl) | (rw [hok]; rfl) | rw [hok])
theorem lawSpanSize_c (p vars : Int) (L : List (List Int)) (d : Int) (hv : -9223372036854775808 ≤ vars ∧ vars ≤ 9223372036854775807) (hlen : ∀ i, ((gl L i).length : Int) ≤ 9223372036854775807) (hL : (L.length : Int) ≤ 9223372036854775807) (hbb : ∀ i j, -9223372036854775808 ≤ gd (gl L i) j ∧ gd (gl L i) j ≤ 9223372036854775807) : ACall Try.prog 6 [.int .i64 p, .agg [.int .i64 vars, .sl (sls L) L.length], .int .i64 d] [] (.bool true) [] := by
 refine ACall.intro Try.func6 rfl (N := 48) rfl (by decide) (by simp) ?_
 refine a_seq ?_
 refine a_region ?_
 refine rn (v := .op [.int _ _, .sl _ _]) (q_box il rfl rfl) ?_
 refine rv (v := .bool _) (v_assign il nf) ?_
 refine r_nil ?_
 refine a_seq ?_
 refine a_region ?_
 refine rv (v := .int _ _) (v_assign il nf) ?_
 refine r_nil ?_
 refine a_seq ?_
 refine a_region ?_
 refine rv (v := .agg [.int _ _, .sl _ _]) (v_load_rpa1 ta32 il rfl rfl (fun _ => rfl) rfl) ?_
 refine rv (v := .int _ _) (v_move il nf) ?_
 refine rn (v := .int _ _) (q_call (vs := [.agg [.int _ _, .sl _ _], .int _ _]) (args := [.agg [.int .i64 _, .sl _ _], .int .i64 _]) hb16 ⟨il, il, trivial⟩ rfl (fun hA => szCnf_c _ _ _ (by omega) hlen hL) rfl rfl) ?_
 refine rv (v := .int _ _) (v_assign il nf) ?_
 refine r_nil ?_
 refine a_seq ?_
 refine a_seq ?_
 refine a_region ?_
 refine rv (v := .int _ _) (v_move il nf) ?_
 refine rv (v := .bool _) (v_lss il il) ?_
 refine r_nil ?_
 refine a_cond rfl (fun ht17 => ?_) (fun ht17 => ?_)
 ·
  skip
  refine a_seq ?_
  refine a_region ?_
  refine rv (v := .bool _) (v_assign il nf) ?_
  refine r_nil ?_
  refine a_ret ?_
  refine ret1 Try.results6 (by decide) (by decide) (Weak.of_eq (bool_eq ?_)) rfl Leaves.nil
  first | rfl | (exfalso; simp at ht17; done) | (exfalso; simp at ht17; omega)
 ·
  skip
  refine a_skip ?_
  refine a_seq ?_
  have hsz : L.length + tot L L.length ≤ 1048576 := (by have h9 := of_decide_eq_false ht17; unfold szR at h9; split at h9 <;> omega)
  have hk : CnfOk vars L := ⟨hv, by omega, by omega, hbb⟩
  have hll := fun i => len_tot (L := L) (i := i)
  refine a_region ?_
  refine rv (v := .int _ _) (v_move il nf) ?_
  refine rv (v := .agg [.int _ _, .sl _ _]) (v_load_rpa1 ta32 il rfl rfl (fun _ => rfl) rfl) ?_
  refine rn (v := .agg [.int _ _, .osl _ _ _ _]) (q_call (vs := [.agg [.int _ _, .sl _ _]]) (args := [.agg [.int .i64 _, .sl _ _]]) hb18 ⟨il, trivial⟩ rfl (fun hA => toCnf_c _ _ (by omega) (by omega)) (by simp [noSh, noShL, osls_noSh]) (by simp [noRef, noRefL, osls_noRef])) ?_
  refine rv (v := .int _ _) (v_move il nf) ?_
  refine rn (v := .tup [.int _ _, .bool _]) (q_call (vs := [.int _ _, .agg [.int _ _, .rsl _ _ _ _ _], .int _ _]) (args := [.int .i64 _, .agg [.int .i64 _, .sl _ _], .int .i64 _]) hb17 ⟨il, il, il, trivial⟩ (l3_eq rfl (agg_eq (l2_eq rfl sl_osls)) rfl) (fun hA => sSpan_c p vars L d hk) rfl rfl) ?_
  refine rv (v := .tup [.int _ _, .bool _]) (v_mv rfl) ?_
  refine rv (v := .int _ _) (v_extract rfl rfl) ?_
  refine rv (v := .bool _) (v_extract rfl rfl) ?_
  refine rv (v := .int _ _) (v_assign il nf) ?_
  refine rv (v := .bool _) (v_assign il nf) ?_
  refine r_nil ?_
  refine a_seq ?_
  refine a_pre (ent_look (L := [(0, .int _ _), (2, .int _ _), (4, .op [.int _ _, .sl _ _]), (6, .bool _), (8, .int _ _), (9, .bool _)]) ⟨Weak.rfl, Weak.rfl, Weak.rfl, Weak.rfl, Weak.rfl, Weak.rfl, trivial⟩) ?_
  refine a_region ?_
  refine rv (v := .agg [.int _ _, .sl _ _]) (v_load_rpa1 ta32 il rfl rfl (fun _ => rfl) rfl) ?_
  refine rn (v := .agg [.int _ _, .osl _ _ _ _]) (q_call (vs := [.agg [.int _ _, .sl _ _]]) (args := [.agg [.int .i64 _, .sl _ _]]) hb18 ⟨il, trivial⟩ rfl (fun hA => toCnf_c _ _ (by omega) (by omega)) (by simp [noSh, noShL, osls_noSh]) (by simp [noRef, noRefL, osls_noRef])) ?_
  refine rn (v := .op [.int _ _, .nils]) (q_alloc zc24) ?_
  refine r_step rfl (o_store_own (v := .agg [.int _ _, .osl _ _ _ _]) (y' := .op [.int _ _, .osl _ _ _ _]) rfl rfl ta24 (.inl rfl) (by decide) rfl (by decide) rfl (by simp [cellsOf, noRefL, noRef, osls_noRef]) rfl rfl rfl rfl rfl (Nat.le_of_ble_eq_true rfl) rfl rfl) ?_
  refine r_nil ?_
  refine a_seq ?_
  refine a_region ?_
  refine rv (v := .int _ _) (v_move il nf) ?_
  refine rv (v := .agg [.int _ _, .rsl _ _ _ _ _]) (v_load_rpa (xs := [.int _ _, .osl _ _ _ _]) ta24 il rfl rfl (fun _ => take_get rfl)) ?_
  refine rv (v := .int _ _) (v_move il nf) ?_
  refine rn (v := .tup [.int _ _, .bool _]) (q_call (vs := [.int _ _, .agg [.int _ _, .rsl _ _ _ _ _], .int _ _]) (args := [.int .i64 _, .agg [.int .i64 _, .sl _ _], .int .i64 _]) hb19 ⟨il, il, il, trivial⟩ (l3_eq rfl (agg_eq (l2_eq rfl sl_osls)) rfl) (fun hA => iSpan_c p vars L d hk) rfl rfl) ?_
  refine rv (v := .tup [.int _ _, .bool _]) (v_mv rfl) ?_
  refine rv (v := .int _ _) (v_extract rfl rfl) ?_
  refine rv (v := .bool _) (v_extract rfl rfl) ?_
  refine rv (v := .int _ _) (v_assign il nf) ?_
  refine rv (v := .bool _) (v_assign il nf) ?_
  refine r_nil ?_
  refine a_seq ?_
  refine a_seq ?_
  refine a_pre (ent_look (L := [(4, .op [.int _ _, .sl _ _]), (6, .bool _), (8, .int _ _), (9, .bool _), (10, .op [.int _ _, .osl _ _ _ _]), (11, .int _ _), (12, .bool _)]) ⟨Weak.rfl, Weak.rfl, Weak.rfl, Weak.rfl, Weak.rfl, Weak.rfl, Weak.rfl, trivial⟩) ?_
  refine a_region ?_
  refine rv (v := .int _ _) (v_move il nf) ?_
  refine rv (v := .int _ _) (v_move il nf) ?_
  refine rv (v := .bool _) (v_neq il il) ?_
  refine rv (v := .bool _) (v_move il nf) ?_
  refine r_gval (v := .bool _) (v_move il nf) rfl rfl rfl (by decide) (.inl ⟨_, rfl, rfl⟩) rfl (by decide) ?_
  refine r_gval (v := .bool _) (v_move il nf) rfl rfl rfl (by decide) (.inl ⟨_, rfl, rfl⟩) rfl (by decide) ?_
  refine r_gval (v := .bool _) (v_bne un4 (.inr ⟨_, rfl, fun h => h⟩) (.inr ⟨_, rfl, fun h => h⟩)) rfl rfl rfl (by decide) (.inl ⟨_, rfl, rfl⟩) rfl (by decide) ?_
  refine rv (v := .bool _) (v_pick (.inl rfl) (.inl rfl) (.inr ⟨_, rfl, fun h h2 => by simp_all⟩)) ?_
  refine r_nil ?_
  refine a_cond rfl (fun ht42 => ?_) (fun ht42 => ?_)
  ·
   skip
   refine a_seq ?_
   refine a_pre (ent_look (L := [(4, .op [.int _ _, .sl _ _]), (6, .bool _), (10, .op [.int _ _, .osl _ _ _ _])]) ⟨Weak.rfl, Weak.rfl, Weak.rfl, trivial⟩) ?_
   refine a_region ?_
   refine rv (v := .bool _) (v_assign il nf) ?_
   refine r_nil ?_
   refine a_ret ?_
   refine ret1 Try.results6 (by decide) (by decide) (Weak.of_eq (bool_eq ?_)) rfl Leaves.nil
   first | rfl | (exfalso; simp at ht42; done) | (exfalso; simp at ht42; omega)
  ·
   skip
   refine a_skip ?_
   refine a_seq ?_
   refine a_seq ?_
   refine a_pre (ent_look (L := [(4, .op [.int _ _, .sl _ _]), (6, .bool _), (10, .op [.int _ _, .osl _ _ _ _])]) ⟨Weak.rfl, Weak.rfl, Weak.rfl, trivial⟩) ?_
   refine a_region_any mixed (by kernel_rfl) ?_
   refine yv (v := .agg [.int _ _, .rsl _ _ _ _ _]) (v_load_rpa (xs := [.int _ _, .osl _ _ _ _]) ta24 il rfl rfl (fun _ => take_get rfl)) ?_
   refine yv (v := .agg [.int _ _, .sl _ _]) (v_load_rpa1 ta32 il rfl rfl (fun _ => rfl) rfl) ?_
   refine y_new (v := .agg [.int _ _, .osl _ _ _ _]) (q_call (vs := [.agg [.int _ _, .sl _ _]]) (args := [.agg [.int .i64 _, .sl _ _]]) hb18 ⟨.inl rfl, trivial⟩ rfl (fun hA => toCnf_c _ _ (by omega) (by omega)) (by simp [noSh, noShL, osls_noSh]) (by simp [noRef, noRefL, osls_noRef])) rfl rfl (by decide) (by kernel_rfl) ?_
   refine y_new (v := .bool _) (q_call (vs := [.agg [.int _ _, .rsl _ _ _ _ _], .agg [.int _ _, .rsl _ _ _ _ _]]) (args := [.agg [.int .i64 _, .sl _ _], .agg [.int .i64 _, .sl _ _]]) hb9 ⟨.inl rfl, .inl rfl, trivial⟩ (l2_eq (agg_eq (l2_eq rfl sl_osls)) (agg_eq (l2_eq rfl sl_osls))) (fun hA => eqCnf_c _ _ _ _ (by omega) (by omega) (fun i => by first | (have := hrl i; omega) | (have := hll i; omega))) rfl rfl) rfl rfl (by decide) (by kernel_rfl) ?_
   refine yv (v := .bool _) (v_not il) ?_
   refine y_nil ?_
   refine a_cond rfl (fun ht47 => ?_) (fun ht47 => ?_)
   ·
    skip
    refine a_seq ?_
    refine a_region ?_
    refine rv (v := .bool _) (v_assign il nf) ?_
    refine r_nil ?_
    refine a_ret ?_
    refine ret1 Try.results6 (by decide) (by decide) (Weak.of_eq (bool_eq ?_)) rfl Leaves.nil
    first | rfl | (exfalso; simp at ht47; done) | (exfalso; simp at ht47; omega)
   ·
    skip
    refine a_skip ?_
    refine a_seq ?_
    refine a_region ?_
    refine rv (v := .bool _) (v_assign il nf) ?_
    refine r_nil ?_
    refine a_ret ?_
    refine ret1 Try.results6 (by decide) (by decide) (Weak.of_eq (bool_eq ?_)) rfl Leaves.nil
    first | rfl | (exfalso; simp at ht47; done) | (exfalso; simp at ht47; omega)
end Go.Av
namespace Go.Av
open Go
theorem bd64 {n : Int} (h : (Lit.int .i64 n).wf = true) : -9223372036854775808 ≤ n ∧ n ≤ 9223372036854775807 := bounds_i64 h
theorem len64 {n : Nat} (h : n ≤ maxLen) : (n : Int) ≤ 9223372036854775807 := by unfold maxLen at h; omega
theorem icells_flat (xs : List Int) : xs.flatMap (fun n => [AV.int .i64 n]) = icells xs := by
 induction xs with
 | nil => rfl
 | cons x xs ih => rw [List.flatMap_cons, ih]; rfl
end Go.Av
namespace Go.Av
open Go
theorem sls_flat (L : List (List Int)) : L.flatMap (fun c => [AV.sl (icells c) c.length]) = sls L := by
  induction L with
  | nil => rfl
  | cons c L ih => rw [List.flatMap_cons, ih]; rfl
theorem cnf_hyp {L : List (List Int)} (h : L.length ≤ maxLen ∧ ∀ y ∈ L, (y.length ≤ maxLen ∧ ∀ z ∈ y, (Lit.int .i64 z).wf = true ∧ ([AV.int .i64 z]).length = 1) ∧ ([AV.sl (y.flatMap fun z => [AV.int .i64 z]) y.length]).length = 1) :
    (∀ i, ((gl L i).length : Int) ≤ 9223372036854775807) ∧ (L.length : Int) ≤ 9223372036854775807 ∧ ∀ i j, -9223372036854775808 ≤ gd (gl L i) j ∧ gd (gl L i) j ≤ 9223372036854775807 := by
  refine ⟨fun i => ?_, len64 h.1, fun i => ?_⟩
  · rcases Nat.lt_or_ge i L.length with hi | hi
    · exact len64 (h.2 _ (gl_mem hi)).1.1
    · rw [gl_out hi]; simp
  · rcases Nat.lt_or_ge i L.length with hi | hi
    · exact gd_bd fun x hx => bd64 ((h.2 _ (gl_mem hi)).1.2 x hx).1
    · intro j; rw [gl_out hi]; simp [gd]
end Go.Av
namespace Go.Av
open Go Go.Proofs Go.Proofs.Ytmbjhednpnokpaa
set_option maxRecDepth 100000
theorem arg3 : OpensV Try.prog 3 (fun x : Int => AV.int .i64 x) (fun x => (Lit.int .i64 x).wf = true) :=
 opensV_one (ok_scalar (by rw [Try.underlying3])) (opens_int Try.underlying3) (fun _ => rfl)
theorem arg32 : OpensV Try.prog 32 (fun x : (Int) × (List (List (Int))) => .agg (([AV.int .i64 x.1] ++ [AV.sl (x.2.flatMap fun y2 => [AV.sl (y2.flatMap fun y1 => [AV.int .i64 y1]) y2.length]) x.2.length]))) (fun x => (((Lit.int .i64 x.1).wf = true) ∧ ((x.2.length ≤ maxLen ∧ ∀ y2 ∈ x.2, (y2.length ≤ maxLen ∧ ∀ y1 ∈ y2, (Lit.int .i64 y1).wf = true ∧ ([AV.int .i64 y1]).length = 1) ∧ ([AV.sl (y2.flatMap fun y1 => [AV.int .i64 y1]) y2.length]).length = 1)))) :=
 opensV_agg (ok_agg (by rw [Try.underlying32])) (opens_struct Try.underlying32 (tot := (1 + 1)) (by kernel_rfl) (opensFs_cons rfl (by kernel_rfl) (opens_int Try.underlying3) (opensFs_one rfl (by kernel_rfl) (opens_slice (k := 1) Try.underlying22 (by kernel_rfl) (by decide) (opens_slice (k := 1) Try.underlying42 (by kernel_rfl) (by decide) (opens_int Try.underlying3) (fun _ => rfl)) (fun _ => rfl)))))
theorem rowOwn : ownKnob Try.prog.godebug = none := by kernel_rfl
theorem rowLaid : laidOutB Try.prog = true := by kernel_rfl
end Go.Av
