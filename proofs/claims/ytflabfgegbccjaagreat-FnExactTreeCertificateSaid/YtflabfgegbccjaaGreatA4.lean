/- Lemmas, part 4. -/
import Derived.Test.YtflabfgegbccjaaGreatA3
set_option linter.unusedVariables false
set_option linter.unusedSimpArgs false
set_option maxRecDepth 10000
namespace Go.Av
open Go Go.Proofs
theorem sOut_step {p : Int} {n : Nat} {xs ys : List (Int × Int)} {i : Nat} (h : i < xs.length) : sOut p n (xs.take (i + 1)) ys = sIn p (tm xs i) ys (sOut p n (xs.take i) ys) := by
  rw [take_tm h]; simp [sOut]
theorem sIn_step {p : Int} {t : Int × Int} {ys : List (Int × Int)} {l : List Int} {j : Nat} (h : j < ys.length) : sIn p t (ys.take (j + 1)) l = bumpp p (sIn p t (ys.take j) l) (t.1.toNat ||| (tm ys j).1.toNat) (t.2 * (tm ys j).2) := by
  rw [take_tm h]; simp [sIn]
theorem sIn_length {p : Int} {t : Int × Int} (ys : List (Int × Int)) (l : List Int) : (sIn p t ys l).length = l.length := foldl_len (fun l a => by simp [bumpp]) ys l
theorem sOut_length (p : Int) (n : Nat) (xs ys : List (Int × Int)) : (sOut p n xs ys).length = n := by
  unfold sOut; rw [foldl_len (fun l a => sIn_length ys l)]; simp
theorem sIn_bd {p : Int} (hp : 1 ≤ p) (t : Int × Int) (ys : List (Int × Int)) {l : List Int} (h : Bd p l) : Bd p (sIn p t ys l) := foldl_inv (P := Bd p) (fun l a h => bumpp_bd hp h) ys l h
theorem sOut_bd {p : Int} (hp : 1 ≤ p) (n : Nat) (xs ys : List (Int × Int)) : Bd p (sOut p n xs ys) := foldl_inv (P := Bd p) (fun l a h => sIn_bd hp a ys h) xs _ (rep_bd hp n)
theorem modp_id {p : Int} {l : List Int} (h : Bd p l) : modp p l = l := gd_ext (modp_length p l) fun i _ => by rw [gd_modp, Int.emod_eq_of_lt (h i).1 (h i).2]
theorem hb57 : hasBody Tryz.prog 57 = true := by kernel_rfl
theorem l18Mul_c (p vars : Int) (xs ys : List (Int × Int)) (hp : prime p vars = true) (hg : goodL p vars xs = true) (hg2 : goodL p vars ys = true) (hl : (xs.length : Int) ≤ 9223372036854775807) (hl2 : (ys.length : Int) ≤ 9223372036854775807) : ACall Tryz.prog 103 [.int .i64 p, .int .i64 vars, .sl (tcells xs) xs.length, .sl (tcells ys) ys.length] [] (.osl 2 (tcells (trm (sOut p (dn vars) xs ys))) (trm (sOut p (dn vars) xs ys)).length none) [] := by
  have hpp := prime_spec hp
  have hw := pow6 hpp.2
  have hd := dn_le hpp.2
  have hc := dn_cast vars
  refine ACall.intro Tryz.func103 rfl (N := 63) rfl (by decide) (by simp) ?_
  refine aq ?_
  refine ra .nils ?_
  refine r_nil ?_
  refine aq ?_
  refine rm (.int _ _) ?_
  refine rv (v := .int .i64 ((dn vars : Nat) : Int)) ((v_shl il il (fun _ => by omega)).cast (int_eq (by omega))) ?_
  refine rn (v := .osl _ _ _ _) (q_makeSlice us25 sb3 zc3 rfl (by decide) il il (fun _ => by omega)) ?_
  refine ra (.rsl _ _ _ _ _) ?_
  refine r_pre (ent_reloc_sl (t := 9) rfl rfl) ?_
  refine r_nil ?_
  refine a_seq ?_
  refine aq ?_
  refine ra (.int _ _) ?_
  refine r_nil ?_
  refine a_block ?_
  refine a_loop (X := Nat) (fun i => look [(0, .int .i64 p), (2, .sl (tcells xs) xs.length), (3, .sl (tcells ys) ys.length), (9, .osl 1 (icells (sOut p (dn vars) (xs.take i) ys)) (dn vars) none), (10, .int .i64 (i : Int))]) (fun i => i ≤ xs.length) (fun i => xs.length - i) 0 (ent_look ⟨wr, wr, wr, Weak.osl (by rw [icells_rep]; rfl) rfl, wr, trivial⟩) (Nat.zero_le _) (fun i hG => ?_)
  refine a_seq ?_
  refine aq ?_
  refine rm (.int _ _) ?_
  refine rm (.sl _ _) ?_
  refine rv (v := .int _ _) (v_len_sl sl72 il) ?_
  refine rv (v := .bool _) (v_lss il il) ?_
  refine r_nil ?_
  refine a_cond rfl (fun ht19 => ?_) (fun ht19 => ?_)
  ·
    refine a_skip ?_
    refine a_seq ?_
    refine a_block ?_
    refine a_seq ?_
    have hi : i < xs.length := (by simp at ht19; omega)
    have hs := good_spec hg hi
    refine a_region ?_
    refine ra (.int _ _) ?_
    refine r_nil ?_
    refine a_block ?_
    refine a_loop (X := Nat) (fun j => look [(0, .int .i64 p), (2, .sl (tcells xs) xs.length), (3, .sl (tcells ys) ys.length), (9, .osl 1 (icells (sIn p (tm xs i) (ys.take j) (sOut p (dn vars) (xs.take i) ys))) (dn vars) none), (10, .int .i64 (i : Int)), (11, .int .i64 (j : Int))]) (fun j => j ≤ ys.length) (fun j => ys.length - j) 0 (ent_look ⟨wr, wr, wr, wr, wr, wr, trivial⟩) (Nat.zero_le _) (fun j hG => ?_)
    refine a_seq ?_
    refine aq ?_
    refine rm (.int _ _) ?_
    refine rm (.sl _ _) ?_
    refine rv (v := .int _ _) (v_len_sl sl72 il) ?_
    refine rv (v := .bool _) (v_lss il il) ?_
    refine r_nil ?_
    refine a_cond rfl (fun ht25 => ?_) (fun ht25 => ?_)
    ·
      refine a_skip ?_
      refine a_seq ?_
      refine a_block ?_
      refine a_seq ?_
      have hj : j < ys.length := (by simp at ht25; omega)
      have hs2 := good_spec hg2 hj
      have hor : (tm xs i).1.toNat ||| (tm ys j).1.toNat < dn vars := or_lt (by omega) (by omega)
      have hbd := sIn_bd (p := p) (by omega) (tm xs i) (ys.take j) (sOut_bd (p := p) (by omega) (dn vars) (xs.take i) ys) ((tm xs i).1.toNat ||| (tm ys j).1.toNat)
      have hlen : (sIn p (tm xs i) (ys.take j) (sOut p (dn vars) (xs.take i) ys)).length = dn vars := (by rw [sIn_length, sOut_length])
      have hm := mul_bd (a := (tm xs i).2) (b := (tm ys j).2) (p := p) (by omega) (by omega) (by omega)
      have hpl : ((tm xs i).1.toNat ||| (tm ys j).1.toNat) * 1 + 1 ≤ (icells (sIn p (tm xs i) (ys.take j) (sOut p (dn vars) (xs.take i) ys))).length := (by rw [icells_length, hlen]; omega)
      have hset : (icells (sIn p (tm xs i) (ys.take j) (sOut p (dn vars) (xs.take i) ys))).set (((tm xs i).1.toNat ||| (tm ys j).1.toNat) * 1) (.int .i64 ((gd (sIn p (tm xs i) (ys.take j) (sOut p (dn vars) (xs.take i) ys)) ((tm xs i).1.toNat ||| (tm ys j).1.toNat) + (tm xs i).2 * (tm ys j).2) % p)) = icells (sIn p (tm xs i) (ys.take (j + 1)) (sOut p (dn vars) (xs.take i) ys)) := (by rw [Nat.mul_one, icells_set, sIn_step hj]; rfl)
      refine a_region_any mixed (by kernel_rfl) ?_
      refine yv (v := .sl _ _) (v_move il nf) ?_
      refine yv (v := .int _ _) (v_move il nf) ?_
      refine yv (v := .pp _ _) (v_indexAddr_sl es72 il il (fun _ => ⟨by omega, by omega, tcells_ne hi⟩)) ?_
      refine yv (v := .pp _ _) (v_fieldAddr_pp fo119_0 il) ?_
      refine yv (v := .int .i64 (tm xs i).1) (v_load_pp ta3 il (fun _ => tcells_get0 (i := i) (tm_get hi)) rfl) ?_
      refine yv (v := .sl _ _) (v_move il nf) ?_
      refine yv (v := .int _ _) (v_move il nf) ?_
      refine yv (v := .pp _ _) (v_indexAddr_sl es72 il il (fun _ => ⟨by omega, by omega, tcells_ne hj⟩)) ?_
      refine yv (v := .pp _ _) (v_fieldAddr_pp fo119_0 il) ?_
      refine yv (v := .int .i64 (tm ys j).1) (v_load_pp ta3 il (fun _ => tcells_get0 (i := j) (tm_get hj)) rfl) ?_
      refine yv (v := .int .i64 (((tm xs i).1.toNat ||| (tm ys j).1.toNat : Nat) : Int)) (v_or il il (fun _ => by omega)) ?_
      refine yv (v := .int _ _) (v_assign il nf) ?_
      refine y_nil ?_
      refine a_region_tail (n := 21) mixed (by kernel_rfl) ?_
      refine t_val (v := .rsl _ _ _ _ _) (v_move (.inl rfl) nf) rfl rfl (by decide) (by kernel_rfl) ?_
      refine t_val (v := .int _ _) (v_move (.inl rfl) nf) rfl rfl (by decide) (by kernel_rfl) ?_
      refine t_val (v := .rsl _ _ _ _ _) (v_move (.inl rfl) nf) rfl rfl (by decide) (by kernel_rfl) ?_
      refine t_val (v := .int _ _) (v_move (.inl rfl) nf) rfl rfl (by decide) (by kernel_rfl) ?_
      refine t_val (v := .rp _ _) (v_indexAddr_rsl0 es25 (.inl rfl) (.inl rfl) (fun _ => by omega)) rfl rfl (by decide) (by kernel_rfl) ?_
      refine t_val (v := .int .i64 (gd (sIn p (tm xs i) (ys.take j) (sOut p (dn vars) (xs.take i) ys)) ((tm xs i).1.toNat ||| (tm ys j).1.toNat))) (v_load_rp1 ta3 (.inl rfl) rfl (fun _ => by rw [Nat.mul_one]; exact icells_get (gd_get (by rw [hlen]; exact hor))) rfl) rfl rfl (by decide) (by kernel_rfl) ?_
      refine t_val (v := .sl _ _) (v_move (.inl rfl) nf) rfl rfl (by decide) (by kernel_rfl) ?_
      refine t_val (v := .int _ _) (v_move (.inl rfl) nf) rfl rfl (by decide) (by kernel_rfl) ?_
      refine t_val (v := .pp _ _) (v_indexAddr_sl es72 (.inl rfl) (.inl rfl) (fun _ => ⟨by omega, by omega, tcells_ne hi⟩)) rfl rfl (by decide) (by kernel_rfl) ?_
      refine t_val (v := .pp _ _) (v_fieldAddr_pp fo119_1 (.inl rfl)) rfl rfl (by decide) (by kernel_rfl) ?_
      refine t_val (v := .int .i64 (tm xs i).2) (v_load_pp ta3 (.inl rfl) (fun _ => tcells_get1 (i := i) (tm_get hi)) rfl) rfl rfl (by decide) (by kernel_rfl) ?_
      refine t_val (v := .sl _ _) (v_move (.inl rfl) nf) rfl rfl (by decide) (by kernel_rfl) ?_
      refine t_val (v := .int _ _) (v_move (.inl rfl) nf) rfl rfl (by decide) (by kernel_rfl) ?_
      refine t_val (v := .pp _ _) (v_indexAddr_sl es72 (.inl rfl) (.inl rfl) (fun _ => ⟨by omega, by omega, tcells_ne hj⟩)) rfl rfl (by decide) (by kernel_rfl) ?_
      refine t_val (v := .pp _ _) (v_fieldAddr_pp fo119_1 (.inl rfl)) rfl rfl (by decide) (by kernel_rfl) ?_
      refine t_val (v := .int .i64 (tm ys j).2) (v_load_pp ta3 (.inl rfl) (fun _ => tcells_get1 (i := j) (tm_get hj)) rfl) rfl rfl (by decide) (by kernel_rfl) ?_
      refine t_val (v := .int _ _) (v_mul (.inl rfl) (.inl rfl) (fun _ => by omega)) rfl rfl (by decide) (by kernel_rfl) ?_
      refine t_val (v := .int _ _) (v_add (.inl rfl) (.inl rfl) (fun _ => by omega)) rfl rfl (by decide) (by kernel_rfl) ?_
      refine t_val (v := .int _ _) (v_move (.inl rfl) nf) rfl rfl (by decide) (by kernel_rfl) ?_
      refine t_val (v := .int _ _) (v_rem (.inl rfl) (.inl rfl) (fun _ => by omega)) rfl rfl (by decide) (by kernel_rfl) ?_
      refine t_val (v := .rp _ _) (v_indexAddr_rsl0 es25 (.inl rfl) (.inl rfl) (fun _ => by omega)) rfl rfl (by decide) (by kernel_rfl) ?_
      refine t_nil ?_
      refine r_step rfl (o_store (v := .int _ _) (y' := .osl _ _ _ _) rfl rfl ta3 il il rfl rfl rfl rfl rfl rfl hpl (by decide) rfl (congrArg (fun c => AV.osl 1 c (dn vars) none) hset)) ?_
      refine r_nil ?_
      refine a_pre (ent_look (L := [(0, .int _ _), (2, .sl _ _), (3, .sl _ _), (9, .osl _ _ _ _), (10, .int _ _), (11, .int _ _)]) ⟨wr, wr, wr, wr, wr, wr, trivial⟩) ?_
      refine a_region ?_
      refine rm (.int _ _) ?_
      refine rv (v := .int _ _) (v_add il il (fun _ => by omega)) ?_
      refine ra (.int _ _) ?_
      refine r_nil ?_
      refine ⟨j + 1, ent_look ⟨wr, wr, wr, wr, wr, Weak.of_eq (int_eq (by omega)), trivial⟩, by omega, by omega⟩
    ·
      refine a_exit ?_
      refine a_region ?_
      refine rm (.int _ _) ?_
      refine rv (v := .int _ _) (v_add il il (fun _ => by omega)) ?_
      refine ra (.int _ _) ?_
      refine r_nil ?_
      refine ⟨i + 1, ent_look ⟨wr, wr, wr, Weak.osl (by rw [sOut_step hi]; simp at ht25; rw [List.take_of_length_le (by omega)]) rfl, Weak.of_eq (int_eq (by omega)), trivial⟩, by omega, by omega⟩
  ·
    refine a_exit ?_
    refine a_seq ?_
    refine a_pre (ent_eq (t := 9) (v' := .osl 1 (icells (sOut p (dn vars) xs ys)) (dn vars) none) (Weak.osl (by simp at ht19; rw [List.take_of_length_le (by omega)]) rfl)) ?_
    refine a_region ?_
    refine rm (.int _ _) ?_
    refine rm (.rsl _ _ _ _ _) ?_
    refine rn (v := .osl _ _ _ _) (q_call (vs := [.int _ _, .rsl _ _ _ _ _]) (args := [.int .i64 _, .sl _ _]) hb102 ⟨il, il, trivial⟩ (l2_eq rfl (sl_sh (ic_pure _))) (fun hA => l18Sparse_c _ _ _ ⟨by omega, sOut_length _ _ _ _, by omega, fun m => (sOut_bd (p := p) (by omega) (dn vars) xs ys m).1⟩) (tc_noSh _) (tc_noRef _)) ?_
    refine ra (.rsl _ _ _ _ _) ?_
    refine r_pre (ent_reloc_sl (t := 8) rfl rfl) ?_
    refine r_nil ?_
    refine a_ret ?_
    refine ret1 Tryz.results103 (by decide) (by decide) (Weak.osl ?_ ?_) rfl Leaves.nil
    all_goals rw [modp_id (sOut_bd (p := p) (by omega) (dn vars) xs ys)]
theorem times_c (p vars : Int) (A B : List Int) (n : Nat) (hp : prime p vars = true) (hn : A.length = n ∧ B.length = n ∧ n = dn vars) (hbA : Bd p A) (hbB : Bd p B) : ACall Tryz.prog 60 [.agg [.int .i64 p, .int .i64 vars], .sl (icells A) n, .sl (icells B) n] [] (.osl 1 (icells (mulp p n A B)) n none) [] := by
  have hpp := prime_spec hp
  have hd := dn_le hpp.2
  obtain ⟨hA, hB, hn⟩ := hn
  refine ACall.intro Tryz.func60 rfl (N := 49) rfl (by decide) (by simp) ?_
  refine aq ?_
  refine rn (v := .op [.int _ _, .int _ _]) (q_box il rfl rfl) ?_
  refine ra .nils ?_
  refine r_nil ?_
  refine aq ?_
  refine rv (v := .agg [.int _ _, .int _ _]) (v_load_rpa1 ta90 il rfl rfl (fun _ => rfl) rfl) ?_
  refine rn (v := .osl _ _ _ _) (q_call (vs := [.agg [.int _ _, .int _ _]]) (args := [.agg [.int .i64 _, .int .i64 _]]) hb57 ⟨il, trivial⟩ rfl (fun hA => zero_c _ _ hpp.2) (ic_noSh _) (ic_noRef _)) ?_
  refine ra (.rsl _ _ _ _ _) ?_
  refine r_pre (ent_reloc_sl (t := 7) rfl rfl) ?_
  refine r_nil ?_
  refine a_seq ?_
  refine aq ?_
  refine rm (.sl _ _) ?_
  refine rv (v := .int _ _) (v_len_sl sl87 il) ?_
  refine rm (.int _ _) ?_
  refine r_nil ?_
  refine a_block ?_
  refine a_loop (X := Nat) (fun i => look [(2, .sl (icells B) n), (3, .op [.int .i64 p, .int .i64 vars]), (7, .osl 1 (icells (mOut p n A B i)) n none), (14, .sl (icells A) n), (15, .int .i64 (n : Int)), (16, .int .i64 (i : Int))]) (fun i => i ≤ n) (fun i => n - i) 0 (ent_look ⟨wr, wr, Weak.osl (by rw [← hn]; rfl) hn.symm, wr, wr, wr, trivial⟩) (Nat.zero_le _) (fun i hG => ?_)
  refine aq ?_
  refine rv (v := .bool _) (v_lss il il) ?_
  refine r_nil ?_
  refine a_seq ?_
  refine a_cond rfl (fun ht17 => ?_) (fun ht17 => ?_)
  ·
    refine a_skip ?_
    refine a_seq ?_
    refine a_block ?_
    refine a_seq ?_
    have hi : i < n := (by simp at ht17; omega)
    refine a_region ?_
    refine rm (.int _ _) ?_
    refine rv (v := .pp _ _) (v_indexAddr_sl es87 il il (fun _ => ⟨by omega, by omega, icells_ne (i := i) (by omega)⟩)) ?_
    refine rv (v := .int .i64 (gd A i)) (v_load_pp ta3 il (fun _ => by rw [Nat.mul_one]; exact icells_get (gd_get (by omega))) rfl) ?_
    refine ra (.int _ _) ?_
    refine ra (.int _ _) ?_
    refine r_nil ?_
    refine aq ?_
    refine rm (.sl _ _) ?_
    refine rv (v := .int _ _) (v_len_sl sl87 il) ?_
    refine rm (.int _ _) ?_
    refine r_nil ?_
    refine a_block ?_
    refine a_loop (X := Nat) (fun j => look [(2, .sl (icells B) n), (3, .op [.int .i64 p, .int .i64 vars]), (7, .osl 1 (icells (mIn p B i (gd A i) j (mOut p n A B i))) n none), (8, .int .i64 (i : Int)), (9, .int .i64 (gd A i)), (14, .sl (icells A) n), (15, .int .i64 (n : Int)), (16, .int .i64 (i : Int)), (21, .sl (icells B) n), (22, .int .i64 (n : Int)), (23, .int .i64 (j : Int))]) (fun j => j ≤ n) (fun j => n - j) 0 (ent_look ⟨wr, wr, wr, wr, wr, wr, wr, wr, wr, wr, wr, trivial⟩) (Nat.zero_le _) (fun j hG => ?_)
    refine aq ?_
    refine rv (v := .bool _) (v_lss il il) ?_
    refine r_nil ?_
    refine a_seq ?_
    refine a_cond rfl (fun ht24 => ?_) (fun ht24 => ?_)
    ·
      refine a_skip ?_
      refine a_seq ?_
      refine a_block ?_
      refine a_seq ?_
      have hj : j < n := (by simp at ht24; omega)
      have hor : i ||| j < dn vars := or_lt (by omega) (by omega)
      have hbd := mIn_bd (p := p) (c := gd A i) (B := B) (m := i) (by omega) j (mOut_bd (p := p) (n := n) (A := A) (B := B) (by omega) i) (i ||| j)
      have hlen : (mIn p B i (gd A i) j (mOut p n A B i)).length = n := (by rw [mIn_length, mOut_length])
      have hm := mul_bd (hbA i) (hbB j) (by omega)
      have hpl : (i ||| j) * 1 + 1 ≤ (icells (mIn p B i (gd A i) j (mOut p n A B i))).length := (by rw [icells_length, hlen]; omega)
      have hset : (icells (mIn p B i (gd A i) j (mOut p n A B i))).set ((i ||| j) * 1) (.int .i64 ((gd (mIn p B i (gd A i) j (mOut p n A B i)) (i ||| j) + gd A i * gd B j) % p)) = icells (mIn p B i (gd A i) (j + 1) (mOut p n A B i)) := (by rw [Nat.mul_one, icells_set]; rfl)
      refine a_region ?_
      refine rm (.int _ _) ?_
      refine rv (v := .pp _ _) (v_indexAddr_sl es87 il il (fun _ => ⟨by omega, by omega, icells_ne (i := j) (by omega)⟩)) ?_
      refine rv (v := .int .i64 (gd B j)) (v_load_pp ta3 il (fun _ => by rw [Nat.mul_one]; exact icells_get (gd_get (by omega))) rfl) ?_
      refine ra (.int _ _) ?_
      refine ra (.int _ _) ?_
      refine r_nil ?_
      refine a_region_tail (n := 18) mixed (by kernel_rfl) ?_
      refine t_val (v := .rsl _ _ _ _ _) (v_move (.inl rfl) nf) rfl rfl (by decide) (by kernel_rfl) ?_
      refine t_val (v := .int _ _) (v_move (.inl rfl) nf) rfl rfl (by decide) (by kernel_rfl) ?_
      refine t_val (v := .int _ _) (v_move (.inl rfl) nf) rfl rfl (by decide) (by kernel_rfl) ?_
      refine t_val (v := .int _ _) (v_or (.inl rfl) (.inl rfl) (fun _ => by omega)) rfl rfl (by decide) (by kernel_rfl) ?_
      refine t_val (v := .rsl _ _ _ _ _) (v_move (.inl rfl) nf) rfl rfl (by decide) (by kernel_rfl) ?_
      refine t_val (v := .int _ _) (v_move (.inl rfl) nf) rfl rfl (by decide) (by kernel_rfl) ?_
      refine t_val (v := .int _ _) (v_move (.inl rfl) nf) rfl rfl (by decide) (by kernel_rfl) ?_
      refine t_val (v := .int _ _) (v_or (.inl rfl) (.inl rfl) (fun _ => by omega)) rfl rfl (by decide) (by kernel_rfl) ?_
      refine t_val (v := .rp _ _) (v_indexAddr_rsl0 es87 (.inl rfl) (.inl rfl) (fun _ => by simp only [Int.toNat_natCast]; omega)) rfl rfl (by decide) (by kernel_rfl) ?_
      refine t_val (v := .int .i64 (gd (mIn p B i (gd A i) j (mOut p n A B i)) (i ||| j))) (v_load_rp1 ta3 (.inl rfl) rfl (fun _ => by simp only [Int.toNat_natCast]; rw [Nat.mul_one]; exact icells_get (gd_get (by rw [hlen]; omega))) rfl) rfl rfl (by decide) (by kernel_rfl) ?_
      refine t_val (v := .int _ _) (v_move (.inl rfl) nf) rfl rfl (by decide) (by kernel_rfl) ?_
      refine t_val (v := .int _ _) (v_move (.inl rfl) nf) rfl rfl (by decide) (by kernel_rfl) ?_
      refine t_val (v := .int _ _) (v_mul (.inl rfl) (.inl rfl) (fun _ => by omega)) rfl rfl (by decide) (by kernel_rfl) ?_
      refine t_val (v := .int _ _) (v_add (.inl rfl) (.inl rfl) (fun _ => by omega)) rfl rfl (by decide) (by kernel_rfl) ?_
      refine t_val (v := .rp _ _) (v_fieldAddr_rp fo90_0 (.inl rfl)) rfl rfl (by decide) (by kernel_rfl) ?_
      refine t_val (v := .int _ _) (v_load_rp1 ta3 (.inl rfl) rfl (fun _ => rfl) rfl) rfl rfl (by decide) (by kernel_rfl) ?_
      refine t_val (v := .int _ _) (v_rem (.inl rfl) (.inl rfl) (fun _ => by omega)) rfl rfl (by decide) (by kernel_rfl) ?_
      refine t_val (v := .rp _ _) (v_indexAddr_rsl0 es87 (.inl rfl) (.inl rfl) (fun _ => by simp only [Int.toNat_natCast]; omega)) rfl rfl (by decide) (by kernel_rfl) ?_
      refine t_nil ?_
      refine r_step rfl (o_store (v := .int _ _) (y' := .osl _ _ _ _) rfl rfl ta3 il il rfl rfl rfl rfl rfl rfl hpl (by decide) rfl (congrArg (fun c => AV.osl 1 c n none) hset)) ?_
      refine r_nil ?_
      refine a_pre (ent_look (L := [(2, .sl _ _), (3, .op [.int _ _, .int _ _]), (7, .osl _ _ _ _), (8, .int _ _), (9, .int _ _), (14, .sl _ _), (15, .int _ _), (16, .int _ _), (21, .sl _ _), (22, .int _ _), (23, .int _ _)]) ⟨wr, wr, wr, wr, wr, wr, wr, wr, wr, wr, wr, trivial⟩) ?_
      refine a_region ?_
      refine rv (v := .int _ _) (v_add il il (fun _ => by omega)) ?_
      refine rm (.int _ _) ?_
      refine r_nil ?_
      refine ⟨j + 1, ent_look ⟨wr, wr, wr, wr, wr, wr, wr, wr, wr, wr, Weak.of_eq (int_eq (by omega)), trivial⟩, by omega, by omega⟩
    ·
      refine a_exit ?_
      refine a_region ?_
      refine rv (v := .int _ _) (v_add il il (fun _ => by omega)) ?_
      refine rm (.int _ _) ?_
      refine r_nil ?_
      refine ⟨i + 1, ent_look ⟨wr, wr, Weak.osl (by rw [mOut, show j = B.length by simp at ht24; omega]) rfl, wr, wr, Weak.of_eq (int_eq (by omega)), trivial⟩, by omega, by omega⟩
  ·
    refine a_exit ?_
    refine aq ?_
    refine rm (.rsl _ _ _ _ _) ?_
    refine ra (.rsl _ _ _ _ _) ?_
    refine r_pre (ent_reloc_sl (t := 6) rfl rfl) ?_
    refine r_nil ?_
    refine a_ret ?_
    refine ret1 Tryz.results60 (by decide) (by decide) (Weak.osl ?_ ?_) rfl Leaves.nil
    · simp at ht17; rw [show i = A.length by omega]; rfl
    · rfl
end Go.Av
namespace Go.Av
open Go
theorem goodL_append {p vars : Int} {xs : List (Int × Int)} {t : Int × Int} (h : goodL p vars xs = true) (ht : 0 ≤ t.1 ∧ t.1 < 2 ^ vars.toNat ∧ 1 ≤ t.2 ∧ t.2 < p) (hl : ∀ s ∈ xs, s.1 < t.1) : goodL p vars (xs ++ [t]) = true := by
  refine good_true fun j hj => ?_
  simp only [List.length_append, List.length_singleton] at hj
  have hin : ∀ i, i < xs.length → tm (xs ++ [t]) i = tm xs i := fun i hi => by simp [tm, List.getElem?_append_left hi]
  rcases Nat.lt_or_ge j xs.length with hlt | hge
  · have := good_ok h hlt
    unfold okAt at this ⊢
    rw [hin j hlt, hin (j - 1) (by omega)]; exact this
  · have hj' : j = xs.length := by omega
    subst hj'
    have h1 : tm (xs ++ [t]) xs.length = t := by simp [tm]
    unfold okAt inR
    rw [h1]
    by_cases h0 : xs.length = 0
    · simp [h0]; omega
    · have h2 := hl _ (List.mem_of_getElem? (tm_get (show xs.length - 1 < xs.length by omega)))
      rw [hin _ (by omega)]
      simp; omega
theorem trmTo_mem {D : List Int} {t : Int × Int} : ∀ {i : Nat}, t ∈ trmTo D i → ∃ j, j < i ∧ t = ((j : Int), gd D j) ∧ gd D j ≠ 0
  | 0, h => by simp [trmTo] at h
  | i + 1, h => by
    simp only [trmTo] at h
    split at h
    · obtain ⟨j, hj, h⟩ := trmTo_mem h; exact ⟨j, by omega, h⟩
    · rename_i h0
      rcases List.mem_append.1 h with h | h
      · obtain ⟨j, hj, h⟩ := trmTo_mem h; exact ⟨j, by omega, h⟩
      · simp at h; exact ⟨i, by omega, h, h0⟩
theorem trm_good {p vars : Int} {D : List Int} (hB : Bd p D) (hl : D.length = dn vars) : goodL p vars (trm D) = true := by
  have hdn := dn_cast vars
  have key : ∀ i, i ≤ dn vars → goodL p vars (trmTo D i) = true := by
    intro i
    induction i with
    | zero => intro _; rfl
    | succ i ih =>
      intro hi
      by_cases h0 : gd D i = 0
      · rw [trmTo_skip h0]; exact ih (by omega)
      · rw [trmTo_more h0]
        have := hB i
        refine goodL_append (ih (by omega)) ⟨by simp, by simp; omega, by simp; omega, by simp; omega⟩ fun s hs => ?_
        obtain ⟨j, hj, rfl, _⟩ := trmTo_mem hs
        simp; omega
  unfold trm; rw [hl]; exact key _ (Nat.le_refl _)
theorem accp_trm {p : Int} {n : Nat} {D : List Int} (hB : Bd p D) (hl : D.length = n) : accp p n (trm D) = D := by
  have key : ∀ i, i ≤ n → ∀ m, gd (accp p n (trmTo D i)) m = if m < i then gd D m else 0 := by
    intro i
    induction i with
    | zero => intro _ m; simp [trmTo, accp, gd_rep]
    | succ i ih =>
      intro hi m
      have ih := ih (by omega)
      by_cases h0 : gd D i = 0
      · rw [trmTo_skip h0, ih]
        by_cases h1 : m < i
        · rw [if_pos h1, if_pos (by omega)]
        · rw [if_neg h1]
          by_cases h2 : m = i
          · subst h2; rw [if_pos (by omega), h0]
          · rw [if_neg (by omega)]
      · have e : accp p n (trmTo D i ++ [((i : Int), gd D i)]) = bumpp p (accp p n (trmTo D i)) i (gd D i) := by simp [accp]
        rw [trmTo_more h0, e]
        unfold bumpp
        rw [gd_setc, accp_length, ih, ih]
        by_cases h2 : i = m
        · subst h2
          have := hB i
          rw [if_pos ⟨rfl, by omega⟩, if_neg (by omega), if_pos (by omega), Int.zero_add, Int.emod_eq_of_lt this.1 this.2]
        · rw [if_neg (by omega)]
          by_cases h1 : m < i
          · rw [if_pos h1, if_pos (by omega)]
          · rw [if_neg h1, if_neg (by omega)]
  unfold trm
  refine gd_ext (by rw [accp_length, hl]) fun m hm => ?_
  rw [accp_length] at hm
  rw [hl, key n (Nat.le_refl _), if_pos hm]
def one (n m : Nat) : List Int := (List.replicate n 0).set m 1
theorem one_length (n m : Nat) : (one n m).length = n := by simp [one]
theorem one_bd {p : Int} (hp : 2 ≤ p) (n m : Nat) : Bd p (one n m) := fun j => by
  unfold one; rw [gd_setc]; split
  · omega
  · rw [gd_rep]; omega
def litP (p : Int) (n : Nat) (l : Int) : List Int := if 0 < l then one n (2 ^ (l - 1).toNat) else modp p (linz (p - 1) (one n 0) (one n (2 ^ (-l - 1).toNat)))
theorem litP_length (p : Int) (n : Nat) (l : Int) : (litP p n l).length = n := by
  unfold litP; split
  · exact one_length _ _
  · rw [modp_length, linz_length, one_length]
theorem litP_bd {p : Int} (hp : 2 ≤ p) (n : Nat) (l : Int) : Bd p (litP p n l) := by
  unfold litP; split
  · exact one_bd hp _ _
  · exact modp_bd (by omega) _
def fT (p l : Int) : List (Int × Int) := if l < 0 then [(2 ^ (vr l - 1).toNat, 1)] else [(0, 1), (2 ^ (vr l - 1).toNat, p - 1)]
theorem pow_pos' (n : Nat) : (1 : Int) ≤ 2 ^ n := by have := Int.pow_pos (n := 2) (m := n) (by decide); omega
theorem pow_lt' {a b : Nat} (h : a < b) : (2 : Int) ^ a < 2 ^ b := by
  have : (2 : Nat) ^ a < 2 ^ b := Nat.pow_lt_pow_right (by decide) h
  exact_mod_cast this
theorem lit_pow {vars l : Int} (hl : litB vars l = true) : (2 : Int) ^ (vr l - 1).toNat < 2 ^ vars.toNat ∧ (1 : Int) ≤ 2 ^ (vr l - 1).toNat := by
  have h := litB_spec.1 hl
  refine ⟨pow_lt' ?_, pow_pos' _⟩
  unfold vr; split <;> omega
theorem fT_good {p vars l : Int} (hp : 2 ≤ p) (hl : litB vars l = true) : goodL p vars (fT p l) = true := by
  have hw := lit_pow hl
  unfold fT
  split
  · exact goodL_append (xs := []) rfl ⟨by dsimp only; omega, by dsimp only; omega, by simp, by dsimp only; omega⟩ (fun s hs => by cases hs)
  · exact goodL_append (xs := [(0, 1)]) (goodL_append (xs := []) rfl ⟨by simp, by dsimp only; omega, by simp, by dsimp only; omega⟩ (fun s hs => by cases hs)) ⟨by dsimp only; omega, by dsimp only; omega, by dsimp only; omega, by dsimp only; omega⟩ (fun s hs => by simp only [List.mem_singleton] at hs; subst hs; dsimp only; omega)
theorem accp_fT {p vars l : Int} (hp : 2 ≤ p) (hl : litB vars l = true) : accp p (dn vars) (fT p l) = litP p (dn vars) (-l) := by
  have hw := lit_pow hl
  have hdn := dn_cast vars
  have h := litB_spec.1 hl
  have e1 : ((2 : Int) ^ (vr l - 1).toNat).toNat = 2 ^ (vr l - 1).toNat := by
    have : ((2 : Int) ^ (vr l - 1).toNat) = ((2 ^ (vr l - 1).toNat : Nat) : Int) := by simp
    rw [this, Int.toNat_natCast]
  have hlt : 2 ^ (vr l - 1).toNat < dn vars := by
    have : ((2 ^ (vr l - 1).toNat : Nat) : Int) = (2 : Int) ^ (vr l - 1).toNat := by simp
    omega
  have hpos : 1 ≤ 2 ^ (vr l - 1).toNat := Nat.one_le_two_pow
  have h0 : (0 + 1 : Int) % p = 1 := (Int.emod_eq_of_lt (by decide) (show (0 + 1 : Int) < p by omega))
  have h2 : (0 + (p - 1) : Int) % p = p - 1 := by rw [Int.zero_add]; exact Int.emod_eq_of_lt (by omega) (by omega)
  unfold fT litP
  by_cases hn : l < 0
  · have e2 : vr l = -l := by unfold vr; rw [if_pos hn]
    rw [if_pos hn, if_pos (by omega), e2] 
    rw [e2] at e1
    simp only [accp, List.foldl_cons, List.foldl_nil, bumpp, gd_rep, h0, e1, one]
  · have e2 : vr l = l := by unfold vr; rw [if_neg hn]
    rw [if_neg hn, if_neg (by omega)]
    rw [e2] at e1 hlt hpos ⊢
    rw [show (- -l - 1).toNat = (l - 1).toNat by omega]
    simp only [accp, List.foldl_cons, List.foldl_nil, bumpp, gd_rep, h0, e1, Int.toNat_zero]
    rw [gd_set_ne (by omega), gd_rep, h2]
    refine gd_ext (by rw [modp_length, linz_length, one_length]; simp) fun m hm => ?_
    simp only [List.length_set, List.length_replicate] at hm
    rw [gd_modp, gd_linz (by rw [one_length]; exact hm)]
    unfold one
    simp only [gd_setc, gd_rep]
    simp only [List.length_set, List.length_replicate]
    by_cases h3 : m = 0
    · subst h3
      rw [if_neg (by omega), if_pos ⟨rfl, hm⟩, if_neg (by omega), Int.mul_zero]
      exact (Int.emod_eq_of_lt (by omega) (by omega)).symm
    · by_cases h4 : 2 ^ (l - 1).toNat = m
      · rw [if_pos ⟨h4, by omega⟩, if_neg (by omega), if_pos ⟨h4, by omega⟩, Int.mul_one, h2]
      · rw [if_neg (by omega), if_neg (by omega), if_neg (by omega)]; simp
def clP (p : Int) (n : Nat) (c : List Int) : Nat → List Int
  | 0 => one n 0
  | i + 1 => mulp p n (clP p n c i) (litP p n (-(gd c i)))
theorem mulp_length {p : Int} {n : Nat} {A B : List Int} : (mulp p n A B).length = n := mOut_length _
theorem mulp_bd {p : Int} (hp : 1 ≤ p) {n : Nat} {A B : List Int} : Bd p (mulp p n A B) := mOut_bd hp _
theorem clP_length {p : Int} {n : Nat} {c : List Int} : ∀ i, (clP p n c i).length = n
  | 0 => one_length _ _
  | i + 1 => mulp_length
theorem clP_bd {p : Int} (hp : 2 ≤ p) {n : Nat} {c : List Int} : ∀ i, Bd p (clP p n c i)
  | 0 => one_bd hp _ _
  | i + 1 => mulp_bd (by omega)
theorem trm_one {p vars : Int} (hp : 2 ≤ p) (hv : 0 ≤ vars) : trm (one (dn vars) 0) = [(0, 1)] := by
  have hw := pow_pos' vars.toNat
  have hg : goodL p vars [(0, 1)] = true := goodL_append (xs := []) rfl ⟨by simp, by simp; omega, by simp, by simp; omega⟩ (fun s hs => by cases hs)
  have := good_trm hv hg
  have e : accp p (dn vars) [(0, 1)] = one (dn vars) 0 := by
    have h0 : (0 + 1 : Int) % p = 1 := (Int.emod_eq_of_lt (by decide) (show (0 + 1 : Int) < p by omega))
    simp only [accp, List.foldl_cons, List.foldl_nil, bumpp, gd_rep, h0, one, Int.toNat_zero]
  rwa [e] at this
theorem sOut_mul {p vars : Int} {D : List Int} {ys : List (Int × Int)} (hp : prime p vars = true) (hD : Bd p D) (hl : D.length = dn vars) (hy : goodL p vars ys = true) : sOut p (dn vars) (trm D) ys = mulp p (dn vars) D (accp p (dn vars) ys) := by
  rw [sOut_good hp (trm_good hD hl) hy, accp_trm hD hl]
end Go.Av
namespace Go.Av
open Go Go.Proofs
theorem hb113 : hasBody Tryz.prog 113 = true := by kernel_rfl
theorem hb114 : hasBody Tryz.prog 114 = true := by kernel_rfl
theorem hb117 : hasBody Tryz.prog 117 = true := by kernel_rfl
theorem hb118 : hasBody Tryz.prog 118 = true := by kernel_rfl
theorem hb119 : hasBody Tryz.prog 119 = true := by kernel_rfl
theorem hb76 : hasBody Tryz.prog 76 = true := by kernel_rfl
theorem l2Vars_c (n : Int) : ACall Tryz.prog 113 [.int .i64 n] [] (.bool (inR n 0 12)) [] := by
 refine ACall.intro Tryz.func113 rfl (N := 5) rfl (by decide) (by simp) ?_
 refine aq ?_
 refine ra (.bool _) ?_
 refine r_nil ?_
 refine aq ?_
 refine rm (.int _ _) ?_
 refine rn (v := .bool _) (q_call (vs := [.int _ _, .int _ _, .int _ _]) (args := [.int .i64 _, .int .i64 _, .int .i64 _]) hb112 ⟨il, il, il, trivial⟩ rfl (fun hA => l1In_c _ _ _) rfl rfl) ?_
 refine ra (.bool _) ?_
 refine r_nil ?_
 refine a_ret ?_
 refine ret1 Tryz.results113 (by decide) (by decide) (Weak.of_eq (bool_eq ?_)) rfl Leaves.nil
 rfl
theorem varsOk_c (n : Int) : ACall Tryz.prog 117 [.int .i64 n] [] (.bool (inR n 0 12)) [] := by
 refine ACall.intro Tryz.func117 rfl (N := 5) rfl (by decide) (by simp) ?_
 refine aq ?_
 refine ra (.bool _) ?_
 refine r_nil ?_
 refine aq ?_
 refine rm (.int _ _) ?_
 refine rn (v := .bool _) (q_call (vs := [.int _ _, .int _ _, .int _ _]) (args := [.int .i64 _, .int .i64 _, .int .i64 _]) hb82 ⟨il, il, il, trivial⟩ rfl (fun hA => within_c _ _ _) rfl rfl) ?_
 refine ra (.bool _) ?_
 refine r_nil ?_
 refine a_ret ?_
 refine ret1 Tryz.results117 (by decide) (by decide) (Weak.of_eq (bool_eq ?_)) rfl Leaves.nil
 rfl
theorem l2Var_c (l : Int) (h : -9223372036854775807 ≤ l ∧ l ≤ 9223372036854775807) : ACall Tryz.prog 76 [.int .i64 l] [] (.int .i64 (vr l)) [] := by
 refine ACall.intro Tryz.func76 rfl (N := 8) rfl (by decide) (by simp) ?_
 refine aq ?_
 refine ra (.int _ _) ?_
 refine r_nil ?_
 refine a_seq ?_
 refine aq ?_
 refine rm (.int _ _) ?_
 refine rv (v := .bool _) (v_lss il il) ?_
 refine r_nil ?_
 refine a_cond rfl (fun ht4 => ?_) (fun ht4 => ?_)
 ·
  refine aq ?_
  refine rm (.int _ _) ?_
  refine rv (v := .int _ _) (v_neg il (fun _ => by omega)) ?_
  refine ra (.int _ _) ?_
  refine r_nil ?_
  refine a_ret ?_
  refine ret1 Tryz.results76 (by decide) (by decide) (Weak.of_eq (int_eq ?_)) rfl Leaves.nil
  unfold vr; simp at ht4; rw [if_pos ht4]
 ·
  refine a_skip ?_
  refine aq ?_
  refine rm (.int _ _) ?_
  refine ra (.int _ _) ?_
  refine r_nil ?_
  refine a_ret ?_
  refine ret1 Tryz.results76 (by decide) (by decide) (Weak.of_eq (int_eq ?_)) rfl Leaves.nil
  unfold vr; simp at ht4; rw [if_neg (by omega)]
theorem abs_c (l : Int) (hl : -9223372036854775808 ≤ l ∧ l ≤ 9223372036854775807) : ACall Tryz.prog 119 [.int .i64 l] [] (.int .i64 (absW l)) [] := by
 refine ACall.intro Tryz.func119 rfl (N := 7) rfl (by decide) (by simp) ?_
 refine aq ?_
 refine ra (.int _ _) ?_
 refine r_nil ?_
 refine aq ?_
 refine rm (.int _ _) ?_
 refine rm (.int _ _) ?_
 refine rv (v := .int _ _) (v_negw il (fun _ => by omega)) ?_
 refine rv (v := .int _ _) (v_max il il) ?_
 refine ra (.int _ _) ?_
 refine r_nil ?_
 refine a_ret ?_
 refine ret1 Tryz.results119 (by decide) (by decide) (Weak.of_eq (int_eq ?_)) rfl Leaves.nil
 rfl
theorem l2Lit_c (vars l : Int) (hv : -9223372036854775807 ≤ vars ∧ vars ≤ 9223372036854775807) : ACall Tryz.prog 114 [.int .i64 vars, .int .i64 l] [] (.bool (litB vars l)) [] := by
 refine ACall.intro Tryz.func114 rfl (N := 14) rfl (by decide) (by simp) ?_
 refine aq ?_
 refine ra (.bool _) ?_
 refine r_nil ?_
 refine aq ?_
 refine rm (.int _ _) ?_
 refine rm (.int _ _) ?_
 refine rv (v := .int _ _) (v_neg il (fun _ => by omega)) ?_
 refine rm (.int _ _) ?_
 refine rn (v := .bool _) (q_call (vs := [.int _ _, .int _ _, .int _ _]) (args := [.int .i64 _, .int .i64 _, .int .i64 _]) hb112 ⟨il, il, il, trivial⟩ rfl (fun hA => l1In_c _ _ _) rfl rfl) ?_
 refine rm (.bool _) ?_
 refine rg (v := .int _ _) (v_move il nf) ?_
 refine r_gval (v := .bool _) (v_neq (.inr ⟨_, rfl, fun h => h⟩) il) rfl rfl rfl (by decide) (.inl ⟨_, rfl, rfl⟩) rfl (by decide) ?_
 refine rv (v := .bool _) (v_pick (.inl rfl) (.inr ⟨_, rfl, fun h h2 => by simp_all⟩) (.inl rfl)) ?_
 refine ra (.bool _) ?_
 refine r_nil ?_
 refine a_ret ?_
 refine ret1 Tryz.results114 (by decide) (by decide) (Weak.of_eq (bool_eq ?_)) rfl Leaves.nil
 unfold litB; cases inR l (-vars) vars <;> simp
theorem isLit_c (vars l : Int) (hvars : -9223372036854775808 ≤ vars ∧ vars ≤ 9223372036854775807) : ACall Tryz.prog 118 [.int .i64 vars, .int .i64 l] [] (.bool (litW vars l)) [] := by
 refine ACall.intro Tryz.func118 rfl (N := 14) rfl (by decide) (by simp) ?_
 refine aq ?_
 refine ra (.bool _) ?_
 refine r_nil ?_
 refine aq ?_
 refine rm (.int _ _) ?_
 refine rv (v := .bool _) (v_neq il il) ?_
 refine rm (.bool _) ?_
 refine rg (v := .int _ _) (v_move il nf) ?_
 refine rg (v := .int _ _) (v_move il nf) ?_
 refine r_gval (v := .int _ _) (v_negw (.inr ⟨_, rfl, fun h => h⟩) (fun _ => by omega)) rfl rfl rfl (by decide) (.inl ⟨_, rfl, rfl⟩) rfl (by decide) ?_
 refine rg (v := .int _ _) (v_move il nf) ?_
 refine r_guard (v := .bool _) (q_call (vs := [.int _ _, .int _ _, .int _ _]) (args := [.int .i64 _, .int .i64 _, .int .i64 _]) hb82 ⟨.inr ⟨_, rfl, fun h => h⟩, .inr ⟨_, rfl, fun h => h⟩, .inr ⟨_, rfl, fun h => h⟩, trivial⟩ rfl (fun hA => within_c _ _ _) rfl rfl) rfl rfl rfl (by decide) (.inl ⟨_, rfl, rfl⟩) rfl (by decide) ?_
 refine rv (v := .bool _) (v_pick (.inl rfl) (.inr ⟨_, rfl, fun h h2 => by simp_all⟩) (.inl rfl)) ?_
 refine ra (.bool _) ?_
 refine r_nil ?_
 refine a_ret ?_
 refine ret1 Tryz.results118 (by decide) (by decide) (Weak.of_eq (bool_eq ?_)) rfl Leaves.nil
 unfold litW; cases h : decide (l ≠ 0) <;> simp_all
theorem l2Clause_c (vars : Int) (c : List Int) (hv : -9223372036854775808 ≤ vars ∧ vars ≤ 9223372036854775807) (hl : (c.length : Int) ≤ 9223372036854775807) (hb : ∀ j, -9223372036854775808 ≤ gd c j ∧ gd c j ≤ 9223372036854775807) : ACall Tryz.prog 71 [.int .i64 vars, .sl (icells c) c.length] [] (.bool (clB vars c)) [] := by
 refine ACall.intro Tryz.func71 rfl (N := 40) rfl (by decide) (by simp) ?_
 refine aq ?_
 refine ra (.bool _) ?_
 refine r_nil ?_
 refine a_seq ?_
 refine aq ?_
 refine rm (.int _ _) ?_
 refine rn (v := .bool _) (q_call (vs := [.int _ _]) (args := [.int .i64 _]) hb113 ⟨il, trivial⟩ rfl (fun hA => l2Vars_c _) rfl rfl) ?_
 refine rv (v := .bool _) (v_not il) ?_
 refine r_nil ?_
 refine a_cond rfl (fun ht8 => ?_) (fun ht8 => ?_)
 ·
  refine aq ?_
  refine ra (.bool _) ?_
  refine r_nil ?_
  refine a_ret ?_
  refine ret1 Tryz.results71 (by decide) (by decide) (Weak.of_eq (bool_eq ?_)) rfl Leaves.nil
  simp at ht8; unfold clB; rw [ht8]; rfl
 ·
  refine a_skip ?_
  refine a_seq ?_
  refine a_seq ?_
  have hv0 := inR_spec.1 (show inR vars 0 12 = true by simpa using ht8)
  refine a_region ?_
  refine ra (.int _ _) ?_
  refine r_nil ?_
  refine a_block ?_
  refine a_loop (X := Nat) (fun i => look [(0, .int .i64 vars), (1, .sl (icells c) c.length), (5, .int .i64 (i : Int))]) (fun i => i ≤ c.length ∧ ∀ j, j < i → okC vars c j = true) (fun i => c.length - i) 0 (ent_look ⟨wr, wr, wr, trivial⟩) ⟨Nat.zero_le _, fun j h => by omega⟩ (fun i hG => ?_)
  obtain ⟨h1, h2⟩ := hG
  refine a_seq ?_
  refine aq ?_
  refine rm (.int _ _) ?_
  refine rm (.sl _ _) ?_
  refine rv (v := .int _ _) (v_len_sl sl25 il) ?_
  refine rv (v := .bool _) (v_lss il il) ?_
  refine r_nil ?_
  refine a_cond rfl (fun ht12 => ?_) (fun ht12 => ?_)
  ·
   refine a_skip ?_
   refine a_seq ?_
   refine a_block ?_
   refine a_seq ?_
   have hi : i < c.length := (by simp at ht12; omega)
   have hbi := hb i
   have hpr : i ≠ 0 → litB vars (gd c (i - 1)) = true := fun h0 => by
     have := h2 (i - 1) (by omega)
     simp only [okC, Bool.and_eq_true] at this
     exact this.1
   refine a_region_any mixed (by kernel_rfl) ?_
   refine yv (v := .int _ _) (v_move il nf) ?_
   refine yv (v := .sl _ _) (v_move il nf) ?_
   refine yv (v := .int _ _) (v_move il nf) ?_
   refine yv (v := .pp _ _) (v_indexAddr_sl es25 il il (fun _ => ⟨by omega, by omega, icells_ne hi⟩)) ?_
   refine yv (v := .int .i64 (gd c i)) (v_load_pp ta3 il (fun _ => by rw [Nat.mul_one]; exact icells_get (gd_get hi)) rfl) ?_
   refine y_new (v := .bool _) (q_call (vs := [.int _ _, .int _ _]) (args := [.int .i64 _, .int .i64 _]) hb114 ⟨.inl rfl, .inl rfl, trivial⟩ rfl (fun hA => l2Lit_c _ _ (by omega)) rfl rfl) rfl rfl (by decide) (by kernel_rfl) ?_
   refine yv (v := .bool _) (v_not il) ?_
   refine yv (v := .bool _) (v_move il nf) ?_
   refine yh (v := .int _ _) (v_move il nf).quiet ?_
   refine yg (v := .bool _) (v_gtr (.inr ⟨_, rfl, fun h => h⟩) il).quiet rfl rfl rfl (by decide) (.inl ⟨_, rfl, rfl⟩) ?_
   refine yg (v := .bool _) (v_move (.inr ⟨_, rfl, fun h => h⟩) nf).quiet rfl rfl rfl (by decide) (.inl ⟨_, rfl, rfl⟩) ?_
   refine yg (v := .sl _ _) (v_move il nf).quiet rfl rfl rfl (by decide) (.inr ⟨_, _, rfl, rfl⟩) ?_
   refine yg (v := .int _ _) (v_move il nf).quiet rfl rfl rfl (by decide) (.inr ⟨_, _, rfl, rfl⟩) ?_
   refine yg (v := .int _ _) (v_sub (.inr ⟨_, rfl, fun h => h⟩) il (fun hA => by omega)).quiet rfl rfl rfl (by decide) (.inr ⟨_, _, rfl, rfl⟩) ?_
   refine yg (v := .pp _ _) (v_indexAddr_sl es25 (.inr ⟨_, rfl, fun h => h⟩) (.inr ⟨_, rfl, fun h => h⟩) (fun hA => ⟨by simp at hA; omega, by omega, icells_ne hi⟩)).quiet rfl rfl rfl (by decide) (.inr ⟨_, _, rfl, rfl⟩) ?_
   refine yg (v := .int .i64 (gd c (i - 1))) (v_load_pp ta3 (.inr ⟨_, rfl, fun h => h⟩) (fun hA => by simp at hA; rw [show ((i : Int) - 1).toNat = i - 1 by omega, Nat.mul_one]; exact icells_get (gd_get (by omega))) rfl).quiet rfl rfl rfl (by decide) (.inr ⟨_, _, rfl, rfl⟩) ?_
   refine yg (v := .int _ _) (q_call (vs := [.int _ _]) (args := [.int .i64 _]) hb76 ⟨.inr ⟨_, rfl, fun h => h⟩, trivial⟩ rfl (fun hA => l2Var_c _ (by simp at hA; have := litB_spec.1 (hpr (by omega)); omega)) rfl rfl) rfl rfl rfl (by decide) (.inr ⟨_, _, rfl, rfl⟩) ?_
   refine yg (v := .sl _ _) (v_move il nf).quiet rfl rfl rfl (by decide) (.inr ⟨_, _, rfl, rfl⟩) ?_
   refine yg (v := .int _ _) (v_move il nf).quiet rfl rfl rfl (by decide) (.inr ⟨_, _, rfl, rfl⟩) ?_
   refine yg (v := .pp _ _) (v_indexAddr_sl es25 (.inr ⟨_, rfl, fun h => h⟩) (.inr ⟨_, rfl, fun h => h⟩) (fun _ => ⟨by omega, by omega, icells_ne hi⟩)).quiet rfl rfl rfl (by decide) (.inr ⟨_, _, rfl, rfl⟩) ?_
   refine yg (v := .int .i64 (gd c i)) (v_load_pp ta3 (.inr ⟨_, rfl, fun h => h⟩) (fun _ => by rw [Nat.mul_one]; exact icells_get (gd_get hi)) rfl).quiet rfl rfl rfl (by decide) (.inr ⟨_, _, rfl, rfl⟩) ?_
   refine yg (v := .int _ _) (q_call (vs := [.int _ _]) (args := [.int .i64 _]) hb76 ⟨.inr ⟨_, rfl, fun h => h⟩, trivial⟩ rfl (fun hA => l2Var_c _ (by simp at hA; have := litB_spec.1 hA.1; omega)) rfl rfl) rfl rfl rfl (by decide) (.inr ⟨_, _, rfl, rfl⟩) ?_
   refine yg (v := .bool _) (v_geq (.inr ⟨_, rfl, fun h => h⟩) (.inr ⟨_, rfl, fun h => h⟩)).quiet rfl rfl rfl (by decide) (.inr ⟨_, _, rfl, rfl⟩) ?_
   refine yg (v := .bool _) (v_pick (.inr ⟨_, rfl, fun h => h⟩) (.inr ⟨_, rfl, fun h h2 => by simp_all⟩) (.inl rfl)).quiet rfl rfl rfl (by decide) (.inl ⟨_, rfl, rfl⟩) ?_
   refine yv (v := .bool _) (v_pick (.inl rfl) (.inl rfl) (.inr ⟨_, rfl, fun h h2 => by simp_all⟩)) ?_
   refine y_nil ?_
   refine a_cond rfl (fun ht39 => ?_) (fun ht39 => ?_)
   ·
    refine a_seq ?_
    refine a_pre (ent_look (L := [(0, .int _ _), (1, .sl _ _), (5, .int _ _)]) ⟨wr, wr, wr, trivial⟩) ?_
    refine a_region ?_
    refine ra (.bool _) ?_
    refine r_nil ?_
    refine a_ret ?_
    refine ret1 Tryz.results71 (by decide) (by decide) (Weak.of_eq (bool_eq ?_)) rfl Leaves.nil
    have hk : okC vars c i = false := by unfold okC; cases ha : litB vars (gd c i) <;> simp [ha] at ht39 ⊢ <;> omega
    rw [clB_false hi hk]
   ·
    refine a_skip ?_
    refine a_pre (ent_look (L := [(0, .int _ _), (1, .sl _ _), (5, .int _ _)]) ⟨wr, wr, wr, trivial⟩) ?_
    refine a_region ?_
    refine rm (.int _ _) ?_
    refine rv (v := .int _ _) (v_add il il (fun _ => by omega)) ?_
    refine ra (.int _ _) ?_
    refine r_nil ?_
    have hk : okC vars c i = true := by unfold okC; cases ha : litB vars (gd c i) <;> simp [ha] at ht39 ⊢ <;> omega
    refine ⟨i + 1, ent_look ⟨wr, wr, Weak.of_eq (int_eq (by omega)), trivial⟩, ⟨by omega, ok_step h2 hk⟩, by omega⟩
  ·
   refine a_exit ?_
   refine aq ?_
   refine ra (.bool _) ?_
   refine r_nil ?_
   refine a_ret ?_
   refine ret1 Tryz.results71 (by decide) (by decide) (Weak.of_eq (bool_eq ?_)) rfl Leaves.nil
   simp at ht12; rw [clB_true (inR_spec.2 hv0) (fun j hj => h2 j (by omega))]
theorem isClause_c (vars : Int) (c : List Int) (hv : -9223372036854775808 ≤ vars ∧ vars ≤ 9223372036854775807) (hl : (c.length : Int) ≤ 9223372036854775807) (hb : ∀ j, -9223372036854775808 ≤ gd c j ∧ gd c j ≤ 9223372036854775807) : ACall Tryz.prog 83 [.int .i64 vars, .sl (icells c) c.length] [] (.bool (clB vars c)) [] := by
 refine ACall.intro Tryz.func83 rfl (N := 36) rfl (by decide) (by simp) ?_
 refine aq ?_
 refine ra (.bool _) ?_
 refine r_nil ?_
 refine a_seq ?_
 refine aq ?_
 refine rm (.sl _ _) ?_
 refine rv (v := .int _ _) (v_len_sl sl25 il) ?_
 refine rm (.int _ _) ?_
 refine r_nil ?_
 refine a_block ?_
 refine a_loop (X := Nat) (fun i => look [(0, .int .i64 vars), (1, .sl (icells c) c.length), (7, .sl (icells c) c.length), (8, .int .i64 (c.length : Int)), (9, .int .i64 (i : Int))]) (fun i => i ≤ c.length ∧ ∀ j, j < i → okW vars c j = true) (fun i => c.length - i) 0 (ent_look ⟨wr, wr, wr, wr, wr, trivial⟩) ⟨Nat.zero_le _, fun j h => by omega⟩ (fun i hG => ?_)
 obtain ⟨h1, h2⟩ := hG
 refine aq ?_
 refine rv (v := .bool _) (v_lss il il) ?_
 refine r_nil ?_
 refine a_seq ?_
 refine a_cond rfl (fun ht10 => ?_) (fun ht10 => ?_)
 ·
  refine a_skip ?_
  refine a_seq ?_
  refine a_block ?_
  refine a_seq ?_
  have hi : i < c.length := (by simp at ht10; omega)
  have hbi := hb i
  have hbi2 := hb (i - 1)
  refine a_region ?_
  refine rm (.int _ _) ?_
  refine rv (v := .pp _ _) (v_indexAddr_sl es25 il il (fun _ => ⟨by omega, by omega, icells_ne hi⟩)) ?_
  refine rv (v := .int .i64 (gd c i)) (v_load_pp ta3 il (fun _ => by rw [Nat.mul_one]; exact icells_get (gd_get hi)) rfl) ?_
  refine ra (.int _ _) ?_
  refine ra (.int _ _) ?_
  refine r_nil ?_
  refine a_seq ?_
  refine a_region_any mixed (by kernel_rfl) ?_
  refine yv (v := .int _ _) (v_move il nf) ?_
  refine yv (v := .int _ _) (v_move il nf) ?_
  refine y_new (v := .bool _) (q_call (vs := [.int _ _, .int _ _]) (args := [.int .i64 _, .int .i64 _]) hb118 ⟨.inl rfl, .inl rfl, trivial⟩ rfl (fun hA => isLit_c _ _ (by omega)) rfl rfl) rfl rfl (by decide) (by kernel_rfl) ?_
  refine yv (v := .bool _) (v_not il) ?_
  refine yv (v := .bool _) (v_move il nf) ?_
  refine yh (v := .int _ _) (v_move il nf).quiet ?_
  refine yg (v := .bool _) (v_gtr (.inr ⟨_, rfl, fun h => h⟩) il).quiet rfl rfl rfl (by decide) (.inl ⟨_, rfl, rfl⟩) ?_
  refine yg (v := .bool _) (v_move (.inr ⟨_, rfl, fun h => h⟩) nf).quiet rfl rfl rfl (by decide) (.inl ⟨_, rfl, rfl⟩) ?_
  refine yg (v := .int _ _) (v_move il nf).quiet rfl rfl rfl (by decide) (.inr ⟨_, _, rfl, rfl⟩) ?_
  refine yg (v := .int _ _) (q_call (vs := [.int _ _]) (args := [.int .i64 _]) hb119 ⟨.inr ⟨_, rfl, fun h => h⟩, trivial⟩ rfl (fun hA => abs_c _ (by omega)) rfl rfl) rfl rfl rfl (by decide) (.inr ⟨_, _, rfl, rfl⟩) ?_
  refine yg (v := .sl _ _) (v_move il nf).quiet rfl rfl rfl (by decide) (.inr ⟨_, _, rfl, rfl⟩) ?_
  refine yg (v := .int _ _) (v_move il nf).quiet rfl rfl rfl (by decide) (.inr ⟨_, _, rfl, rfl⟩) ?_
  refine yg (v := .int _ _) (v_sub (.inr ⟨_, rfl, fun h => h⟩) il (fun hA => by omega)).quiet rfl rfl rfl (by decide) (.inr ⟨_, _, rfl, rfl⟩) ?_
  refine yg (v := .pp _ _) (v_indexAddr_sl es25 (.inr ⟨_, rfl, fun h => h⟩) (.inr ⟨_, rfl, fun h => h⟩) (fun hA => ⟨by simp at hA; omega, by omega, icells_ne hi⟩)).quiet rfl rfl rfl (by decide) (.inr ⟨_, _, rfl, rfl⟩) ?_
  refine yg (v := .int .i64 (gd c (i - 1))) (v_load_pp ta3 (.inr ⟨_, rfl, fun h => h⟩) (fun hA => by simp at hA; rw [show ((i : Int) - 1).toNat = i - 1 by omega, Nat.mul_one]; exact icells_get (gd_get (by omega))) rfl).quiet rfl rfl rfl (by decide) (.inr ⟨_, _, rfl, rfl⟩) ?_
  refine yg (v := .int _ _) (q_call (vs := [.int _ _]) (args := [.int .i64 _]) hb119 ⟨.inr ⟨_, rfl, fun h => h⟩, trivial⟩ rfl (fun hA => abs_c _ (by omega)) rfl rfl) rfl rfl rfl (by decide) (.inr ⟨_, _, rfl, rfl⟩) ?_
  refine yg (v := .bool _) (v_leq (.inr ⟨_, rfl, fun h => h⟩) (.inr ⟨_, rfl, fun h => h⟩)).quiet rfl rfl rfl (by decide) (.inr ⟨_, _, rfl, rfl⟩) ?_
  refine yg (v := .bool _) (v_pick (.inr ⟨_, rfl, fun h => h⟩) (.inr ⟨_, rfl, fun h h2 => by simp_all⟩) (.inl rfl)).quiet rfl rfl rfl (by decide) (.inl ⟨_, rfl, rfl⟩) ?_
  refine yv (v := .bool _) (v_pick (.inl rfl) (.inl rfl) (.inr ⟨_, rfl, fun h h2 => by simp_all⟩)) ?_
  refine y_nil ?_
  refine a_cond rfl (fun ht32 => ?_) (fun ht32 => ?_)
  ·
   refine a_seq ?_
   refine a_pre (ent_look (L := [(0, .int _ _), (1, .sl _ _), (7, .sl _ _), (8, .int _ _), (9, .int _ _)]) ⟨wr, wr, wr, wr, wr, trivial⟩) ?_
   refine a_region ?_
   refine ra (.bool _) ?_
   refine r_nil ?_
   refine a_ret ?_
   refine ret1 Tryz.results83 (by decide) (by decide) (Weak.of_eq (bool_eq ?_)) rfl Leaves.nil
   have hk : okW vars c i = false := by unfold okW; cases ha : litW vars (gd c i) <;> simp [ha] at ht32 ⊢ <;> omega
   rw [clB_bad hi h2 hk]
  ·
   refine a_skip ?_
   refine a_pre (ent_look (L := [(0, .int _ _), (1, .sl _ _), (7, .sl _ _), (8, .int _ _), (9, .int _ _)]) ⟨wr, wr, wr, wr, wr, trivial⟩) ?_
   refine a_region ?_
   refine rv (v := .int _ _) (v_add il il (fun _ => by omega)) ?_
   refine rm (.int _ _) ?_
   refine r_nil ?_
   have hk : okW vars c i = true := by unfold okW; cases ha : litW vars (gd c i) <;> simp [ha] at ht32 ⊢ <;> omega
   refine ⟨i + 1, ent_look ⟨wr, wr, wr, wr, Weak.of_eq (int_eq (by omega)), trivial⟩, ⟨by omega, ok_step h2 hk⟩, by omega⟩
 ·
  refine a_exit ?_
  refine aq ?_
  refine rm (.int _ _) ?_
  refine rn (v := .bool _) (q_call (vs := [.int _ _]) (args := [.int .i64 _]) hb117 ⟨il, trivial⟩ rfl (fun hA => varsOk_c _) rfl rfl) ?_
  refine ra (.bool _) ?_
  refine r_nil ?_
  refine a_ret ?_
  refine ret1 Tryz.results83 (by decide) (by decide) (Weak.of_eq (bool_eq ?_)) rfl Leaves.nil
  simp at ht10; rw [clB_end (fun j hj => h2 j (by omega))]
theorem hb58 : hasBody Tryz.prog 58 = true := by kernel_rfl
theorem hb62 : hasBody Tryz.prog 62 = true := by kernel_rfl
theorem mono_c (p vars : Int) (m : Nat) (hv : 0 ≤ vars ∧ vars ≤ 6) (hm : m < dn vars) : ACall Tryz.prog 58 [.agg [.int .i64 p, .int .i64 vars], .int .i64 ((m : Nat) : Int)] [] (.osl 1 (icells (one (dn vars) m)) (dn vars) none) [] := by
  have hd := dn_le hv
  have hpl : m * 1 + 1 ≤ (icells (List.replicate (dn vars) 0)).length := (by rw [icells_length, List.length_replicate]; omega)
  have hset : (icells (List.replicate (dn vars) 0)).set (m * 1) (.int .i64 1) = icells (one (dn vars) m) := (by rw [Nat.mul_one, icells_set]; rfl)
  refine ACall.intro Tryz.func58 rfl (N := 12) rfl (by decide) (by simp) ?_
  refine aq ?_
  refine rn (v := .op [.int _ _, .int _ _]) (q_box il rfl rfl) ?_
  refine ra .nils ?_
  refine r_nil ?_
  refine aq ?_
  refine rv (v := .agg [.int _ _, .int _ _]) (v_load_rpa1 ta90 il rfl rfl (fun _ => rfl) rfl) ?_
  refine rn (v := .osl _ _ _ _) (q_call (vs := [.agg [.int _ _, .int _ _]]) (args := [.agg [.int .i64 _, .int .i64 _]]) hb57 ⟨il, trivial⟩ rfl (fun hA => zero_c _ _ hv) (ic_noSh _) (ic_noRef _)) ?_
  refine ra (.rsl _ _ _ _ _) ?_
  refine r_pre (ent_reloc_sl (t := 5) rfl rfl) ?_
  refine r_nil ?_
  refine aq ?_
  refine rm (.rsl _ _ _ _ _) ?_
  refine rm (.int _ _) ?_
  refine rv (v := .rp _ _) (v_indexAddr_rsl0 es87 il il (fun _ => by omega)) ?_
  refine r_step rfl (o_store (v := .int _ _) (y' := .osl _ _ _ _) rfl rfl ta3 il il rfl rfl rfl rfl rfl rfl hpl (by decide) rfl (congrArg (fun c => AV.osl 1 c (dn vars) none) hset)) ?_
  refine r_nil ?_
  refine aq ?_
  refine rm (.rsl _ _ _ _ _) ?_
  refine ra (.rsl _ _ _ _ _) ?_
  refine r_pre (ent_reloc_sl (t := 4) rfl rfl) ?_
  refine r_nil ?_
  refine a_ret ?_
  refine ret1 Tryz.results58 (by decide) (by decide) (Weak.osl ?_ ?_) rfl Leaves.nil
  · rfl
  · rfl
theorem literal_c (p vars l : Int) (hp : prime p vars = true) (hl : litB vars l = true) : ACall Tryz.prog 61 [.agg [.int .i64 p, .int .i64 vars], .int .i64 l] [] (.osl 1 (icells (litP p (dn vars) l)) (dn vars) none) [] := by
  have hpp := prime_spec hp
  have hl2 := litB_spec.1 hl
  have hd := dn_le hpp.2
  have hlit := lit_pow hl
  have hw := pow6 hpp.2
  have hdn := dn_cast vars
  refine ACall.intro Tryz.func61 rfl (N := 25) rfl (by decide) (by simp) ?_
  refine aq ?_
  refine rn (v := .op [.int _ _, .int _ _]) (q_box il rfl rfl) ?_
  refine ra .nils ?_
  refine r_nil ?_
  refine a_seq ?_
  refine aq ?_
  refine rm (.int _ _) ?_
  refine rv (v := .bool _) (v_gtr il il) ?_
  refine r_nil ?_
  refine a_cond rfl (fun ht6 => ?_) (fun ht6 => ?_)
  ·
    refine a_seq ?_
    have hl0 : 0 < l := (by simpa using ht6)
    have e2 : vr l = l := (by unfold vr; rw [if_neg (by omega)])
    rw [e2] at hlit
    have ep : (2 : Int) ^ (l - 1).toNat = ((2 ^ (l - 1).toNat : Nat) : Int) := (by simp)
    refine a_region_any mixed (by kernel_rfl) ?_
    refine yv (v := .agg [.int _ _, .int _ _]) (v_load_rpa1 ta90 il rfl rfl (fun _ => rfl) rfl) ?_
    refine yv (v := .int _ _) (v_move il nf) ?_
    refine yv (v := .int _ _) (v_sub il il (fun _ => by omega)) ?_
    refine yv (v := .int .i64 ((2 ^ (l - 1).toNat : Nat) : Int)) ((v_shl il il (fun _ => by omega)).cast (int_eq (by omega))) ?_
    refine y_new (v := .osl _ _ _ _) (q_call (vs := [.agg [.int _ _, .int _ _], .int _ _]) (args := [.agg [.int .i64 _, .int .i64 _], .int .i64 _]) hb58 ⟨.inl rfl, .inl rfl, trivial⟩ rfl (fun hA => mono_c _ _ (2 ^ (l - 1).toNat) hpp.2 (by omega)) (ic_noSh _) (ic_noRef _)) rfl rfl (by decide) (by kernel_rfl) ?_
    refine yv (v := .rsl _ _ _ _ _) (v_assign il nf) ?_
    refine y_nil ?_
    refine a_pre (ent_reloc_sl (t := 4) rfl rfl) ?_
    refine a_ret ?_
    refine ret1 Tryz.results61 (by decide) (by decide) (Weak.osl ?_ ?_) rfl Leaves.nil
    all_goals (try unfold litP; rw [if_pos hl0])
    all_goals rfl
  ·
    refine a_skip ?_
    refine a_seq ?_
    have hl0 : l < 0 := (by simp at ht6; omega)
    have e2 : vr l = -l := (by unfold vr; rw [if_pos hl0])
    rw [e2] at hlit
    have ep : (2 : Int) ^ (-l - 1).toNat = ((2 ^ (-l - 1).toNat : Nat) : Int) := (by simp)
    refine a_region_any mixed (by kernel_rfl) ?_
    refine yv (v := .agg [.int _ _, .int _ _]) (v_load_rpa1 ta90 il rfl rfl (fun _ => rfl) rfl) ?_
    refine yv (v := .agg [.int _ _, .int _ _]) (v_load_rpa1 ta90 il rfl rfl (fun _ => rfl) rfl) ?_
    refine y_new (v := .osl _ _ _ _) (q_call (vs := [.agg [.int _ _, .int _ _], .int _ _]) (args := [.agg [.int .i64 _, .int .i64 _], .int .i64 ((0 : Nat) : Int)]) hb58 ⟨.inl rfl, .inl rfl, trivial⟩ rfl (fun hA => mono_c _ _ 0 hpp.2 (by omega)) (ic_noSh _) (ic_noRef _)) rfl rfl (by decide) (by kernel_rfl) ?_
    refine yv (v := .agg [.int _ _, .int _ _]) (v_load_rpa1 ta90 il rfl rfl (fun _ => rfl) rfl) ?_
    refine yv (v := .int _ _) (v_move il nf) ?_
    refine yv (v := .int _ _) (v_neg il (fun _ => by omega)) ?_
    refine yv (v := .int _ _) (v_sub il il (fun _ => by omega)) ?_
    refine yv (v := .int .i64 ((2 ^ (-l - 1).toNat : Nat) : Int)) ((v_shl il il (fun _ => by omega)).cast (int_eq (by omega))) ?_
    refine y_new (v := .osl _ _ _ _) (q_call (vs := [.agg [.int _ _, .int _ _], .int _ _]) (args := [.agg [.int .i64 _, .int .i64 _], .int .i64 _]) hb58 ⟨.inl rfl, .inl rfl, trivial⟩ rfl (fun hA => mono_c _ _ (2 ^ (-l - 1).toNat) hpp.2 (by omega)) (ic_noSh _) (ic_noRef _)) rfl rfl (by decide) (by kernel_rfl) ?_
    refine yv (v := .rp _ _) (v_fieldAddr_rp fo90_0 il) ?_
    refine yv (v := .int _ _) (v_load_rp1 ta3 il rfl (fun _ => rfl) rfl) ?_
    refine yv (v := .int _ _) (v_sub il il (fun _ => by omega)) ?_
    refine y_new (v := .osl _ _ _ _) (q_call (vs := [.agg [.int _ _, .int _ _], .rsl _ _ _ _ _, .rsl _ _ _ _ _, .int _ _]) (args := [.agg [.int .i64 _, .int .i64 _], .sl _ _, .sl _ _, .int .i64 _]) hb62 ⟨.inl rfl, .inl rfl, .inl rfl, .inl rfl, trivial⟩ (l4_eq rfl (sl_sh (ic_pure _)) (sl_sh (ic_pure _)) rfl) (fun hA => plus_c _ _ _ _ _ _ hpp.1 ⟨one_length _ _, one_length _ _, by omega⟩ (one_bd (by omega) _ _) (one_bd (by omega) _ _) ⟨by omega, by omega⟩) (ic_noSh _) (ic_noRef _)) rfl rfl (by decide) (by kernel_rfl) ?_
    refine yv (v := .rsl _ _ _ _ _) (v_assign il nf) ?_
    refine y_nil ?_
    refine a_pre (ent_reloc_sl (t := 4) rfl rfl) ?_
    refine a_ret ?_
    refine ret1 Tryz.results61 (by decide) (by decide) (Weak.osl ?_ ?_) rfl Leaves.nil
    all_goals (try unfold litP; rw [if_neg (by omega)])
    all_goals rfl
theorem toIntS_c (xs : List Int) (hl : (xs.length : Int) ≤ 8388608) : ACall Tryz.prog 8 [.sl (icells xs) xs.length] [] (.osl 1 (icells xs) xs.length none) [] := by
  refine ACall.intro Tryz.func8 rfl (N := 22) rfl (by decide) (by simp) ?_
  refine aq ?_
  refine ra .nils ?_
  refine r_nil ?_
  refine aq ?_
  refine rm (.sl _ _) ?_
  refine rv (v := .int _ _) (v_len_sl sl25 il) ?_
  refine rn (v := .osl _ _ _ _) (q_makeSlice us25 sb3 zc3 rfl (by decide) il il (fun _ => by omega)) ?_
  refine ra (.rsl _ _ _ _ _) ?_
  refine r_pre (ent_reloc_sl (t := 3) rfl rfl) ?_
  refine r_nil ?_
  refine a_seq ?_
  refine aq ?_
  refine ra (.int _ _) ?_
  refine r_nil ?_
  refine a_block ?_
  refine a_loop (X := Nat) (fun i => look [(0, .sl (icells xs) xs.length), (3, .osl 1 (icells (part 0 xs i)) xs.length (some xs.length)), (4, .int .i64 (i : Int))]) (fun i => i ≤ xs.length) (fun i => xs.length - i) 0 (ent_look ⟨wr, Weak.of_eq (osl_eq (by rw [part_zero, ← icells_rep])), wr, trivial⟩) (Nat.zero_le _) (fun i hG => ?_)
  refine a_seq ?_
  refine aq ?_
  refine rm (.int _ _) ?_
  refine rm (.sl _ _) ?_
  refine rv (v := .int _ _) (v_len_sl sl25 il) ?_
  refine rv (v := .bool _) (v_lss il il) ?_
  refine r_nil ?_
  refine a_cond rfl (fun ht11 => ?_) (fun ht11 => ?_)
  ·
    refine a_skip ?_
    refine a_seq ?_
    refine a_block ?_
    refine a_region ?_
    have hi : i < xs.length := (by simp at ht11; omega)
    have hpl : i * 1 + 1 ≤ (icells (part 0 xs i)).length := (by rw [icells_length, part_length _ _ (by omega)]; omega)
    have hset : (icells (part 0 xs i)).set (i * 1) (.int .i64 (gd xs i)) = icells (part 0 xs (i + 1)) := (by rw [Nat.mul_one, icells_set, part_set 0 xs (gd_get hi)])
    refine rm (.rsl _ _ _ _ _) ?_
    refine rm (.int _ _) ?_
    refine rm (.sl _ _) ?_
    refine rm (.int _ _) ?_
    refine rv (v := .pp _ _) (v_indexAddr_sl es25 il il (fun _ => ⟨by omega, by omega, icells_ne hi⟩)) ?_
    refine rv (v := .int .i64 (gd xs i)) (v_load_pp ta3 il (fun _ => by rw [Nat.mul_one]; exact icells_get (gd_get hi)) rfl) ?_
    refine rv (v := .rp _ _) (v_indexAddr_rsl0 es25 il il (fun _ => by omega)) ?_
    refine r_step rfl (o_store (v := .int _ _) (y' := .osl _ _ _ _) rfl rfl ta3 il il rfl rfl rfl rfl rfl rfl hpl (by decide) rfl (congrArg (fun c => AV.osl 1 c xs.length (some xs.length)) hset)) ?_
    refine r_nil ?_
    refine a_region ?_
    refine rm (.int _ _) ?_
    refine rv (v := .int _ _) (v_add il il (fun _ => by omega)) ?_
    refine ra (.int _ _) ?_
    refine r_nil ?_
    refine ⟨i + 1, ent_look ⟨wr, wr, Weak.of_eq (int_eq (by omega)), trivial⟩, by omega, by omega⟩
  ·
    refine a_exit ?_
    refine aq ?_
    refine rm (.rsl _ _ _ _ _) ?_
    refine ra (.rsl _ _ _ _ _) ?_
    refine r_pre (ent_reloc_sl (t := 2) rfl rfl) ?_
    refine r_nil ?_
    refine a_ret ?_
    refine ret1 Tryz.results8 (by decide) (by decide) (Weak.osl ?_ ?_) rfl Leaves.nil
    · simp at ht11; rw [part_full _ _ (by omega)]
    · rfl
theorem eqIntS_c (xs ys : List Int) (hl : (xs.length : Int) ≤ 9223372036854775807) : ACall Tryz.prog 12 [.sl (icells xs) xs.length, .sl (icells ys) ys.length] [] (.bool (decide (xs = ys))) [] := by
  refine ACall.intro Tryz.func12 rfl (N := 26) rfl (by decide) (by simp) ?_
  refine aq ?_
  refine ra (.bool _) ?_
  refine r_nil ?_
  refine a_seq ?_
  refine aq ?_
  refine rm (.sl _ _) ?_
  refine rv (v := .int _ _) (v_len_sl sl25 il) ?_
  refine rm (.sl _ _) ?_
  refine rv (v := .int _ _) (v_len_sl sl25 il) ?_
  refine rv (v := .bool _) (v_neq il il) ?_
  refine r_nil ?_
  refine a_cond rfl (fun ht10 => ?_) (fun ht10 => ?_)
  ·
    refine aq ?_
    refine ra (.bool _) ?_
    refine r_nil ?_
    refine a_ret ?_
    refine ret1 Tryz.results12 (by decide) (by decide) (Weak.of_eq (bool_eq ?_)) rfl Leaves.nil
    simp at ht10; exact (decide_eq_false (fun h => ht10 (by rw [h]))).symm
  ·
    refine a_skip ?_
    refine a_seq ?_
    refine aq ?_
    refine ra (.int _ _) ?_
    refine r_nil ?_
    refine a_block ?_
    refine a_loop (X := Nat) (fun i => look [(0, .sl (icells xs) xs.length), (1, .sl (icells ys) ys.length), (5, .int .i64 (i : Int))]) (fun i => i ≤ xs.length ∧ xs.length = ys.length ∧ xs.take i = ys.take i) (fun i => xs.length - i) 0 (ent_look ⟨wr, wr, wr, trivial⟩) ⟨Nat.zero_le _, by simp at ht10; omega, rfl⟩ (fun i hG => ?_)
    obtain ⟨h1, h2, h3⟩ := hG
    refine a_seq ?_
    refine aq ?_
    refine rm (.int _ _) ?_
    refine rm (.sl _ _) ?_
    refine rv (v := .int _ _) (v_len_sl sl25 il) ?_
    refine rv (v := .bool _) (v_lss il il) ?_
    refine r_nil ?_
    refine a_cond rfl (fun ht14 => ?_) (fun ht14 => ?_)
    ·
      refine a_skip ?_
      refine a_seq ?_
      refine a_block ?_
      refine a_seq ?_
      refine a_region_any mixed (by kernel_rfl) ?_
      have hi : i < xs.length := (by simp at ht14; omega)
      have hi2 : i < ys.length := (by omega)
      refine yv (v := .sl _ _) (v_move il nf) ?_
      refine yv (v := .int _ _) (v_move il nf) ?_
      refine yv (v := .pp _ _) (v_indexAddr_sl es25 il il (fun _ => ⟨by omega, by omega, icells_ne hi⟩)) ?_
      refine yv (v := .int .i64 (gd xs i)) (v_load_pp ta3 il (fun _ => by rw [Nat.mul_one]; exact icells_get (gd_get hi)) rfl) ?_
      refine yv (v := .sl _ _) (v_move il nf) ?_
      refine yv (v := .int _ _) (v_move il nf) ?_
      refine yv (v := .pp _ _) (v_indexAddr_sl es25 il il (fun _ => ⟨by omega, by omega, icells_ne hi2⟩)) ?_
      refine yv (v := .int .i64 (gd ys i)) (v_load_pp ta3 il (fun _ => by rw [Nat.mul_one]; exact icells_get (gd_get hi2)) rfl) ?_
      refine yv (v := .bool _) (v_neq il il) ?_
      refine y_nil ?_
      refine a_cond rfl (fun ht25 => ?_) (fun ht25 => ?_)
      ·
        refine aq ?_
        refine ra (.bool _) ?_
        refine r_nil ?_
        refine a_ret ?_
        refine ret1 Tryz.results12 (by decide) (by decide) (Weak.of_eq (bool_eq ?_)) rfl Leaves.nil
        simp at ht25; refine (decide_eq_false (fun h => ?_)).symm
        subst h
        simp at ht25
      ·
        refine a_skip ?_
        refine a_region ?_
        refine rm (.int _ _) ?_
        refine rv (v := .int _ _) (v_add il il (fun _ => by omega)) ?_
        refine ra (.int _ _) ?_
        refine r_nil ?_
        refine ⟨i + 1, ent_look ⟨wr, wr, Weak.of_eq (int_eq (by omega)), trivial⟩, ⟨by omega, h2, take_step hi (by omega) h3 (by rw [gd_elem hi, gd_elem (by omega)]; simpa using ht25)⟩, by omega⟩
    ·
      refine a_exit ?_
      refine aq ?_
      refine ra (.bool _) ?_
      refine r_nil ?_
      refine a_ret ?_
      refine ret1 Tryz.results12 (by decide) (by decide) (Weak.of_eq (bool_eq ?_)) rfl Leaves.nil
      simp at ht14; refine (decide_eq_true ?_).symm
      rw [List.take_of_length_le (by omega), List.take_of_length_le (by omega)] at h3; exact h3
theorem markIntS_c (xs : List Int) (k : Int) (h : -9000000000000000000 ≤ k ∧ k + xs.length ≤ 9223372036854775807 ∧ (xs.length : Int) ≤ 9223372036854775807) : ACall Tryz.prog 14 [.rsl (INH, []) 1 0 xs.length none, .int .i64 k] [.osl 1 (icells xs) xs.length none] (.int .i64 (k + xs.length)) [.osl 1 (icells (mkI k xs.length)) xs.length none] := by
  refine ACall.intro Tryz.func14 rfl (N := 19) rfl (by decide) (by simp) ?_
  refine aq ?_
  refine ra (.int _ _) ?_
  refine r_nil ?_
  refine a_seq ?_
  refine aq ?_
  refine ra (.int _ _) ?_
  refine r_nil ?_
  refine a_block ?_
  refine a_loop (X := Nat) (fun i => look [(0, .rsl (INH, []) 1 0 xs.length none), (1, .int .i64 (k + (i : Nat))), (5, .int .i64 (i : Int)), (INH, .osl 1 (icells (mkIPart k xs i)) xs.length none)]) (fun i => i ≤ xs.length) (fun i => xs.length - i) 0 (ent_look ⟨wr, Weak.of_eq (int_eq (by omega)), wr, Weak.of_eq (osl_eq (by rw [mkIPart_zero])), trivial⟩) (Nat.zero_le _) (fun i hG => ?_)
  refine a_seq ?_
  refine aq ?_
  refine rm (.int _ _) ?_
  refine rm (.rsl _ _ _ _ _) ?_
  refine rv (v := .int _ _) (v_len_rsl sl25 il) ?_
  refine rv (v := .bool _) (v_lss il il) ?_
  refine r_nil ?_
  refine a_cond rfl (fun ht9 => ?_) (fun ht9 => ?_)
  ·
    refine a_skip ?_
    refine a_seq ?_
    refine a_block ?_
    refine aq ?_
    have hi : i < xs.length := (by simp at ht9; omega)
    have hpl : i * 1 + 1 ≤ (icells (mkIPart k xs i)).length := (by rw [icells_length, mkIPart_length (by omega)]; omega)
    have hset : (icells (mkIPart k xs i)).set (i * 1) (.int .i64 (k + (i : Nat))) = icells (mkIPart k xs (i + 1)) := (by rw [Nat.mul_one, icells_set, ← mkIPart_set hi])
    refine rm (.rsl _ _ _ _ _) ?_
    refine rm (.int _ _) ?_
    refine rm (.int _ _) ?_
    refine rv (v := .rp _ _) (v_indexAddr_rsl0 es25 il il (fun _ => by omega)) ?_
    refine r_step rfl (o_store (v := .int _ _) (y' := .osl _ _ _ _) rfl rfl ta3 il il rfl rfl rfl rfl rfl rfl hpl (by decide) rfl (congrArg (fun c => AV.osl 1 c xs.length none) hset)) ?_
    refine r_nil ?_
    refine a_region ?_
    refine rm (.int _ _) ?_
    refine rv (v := .int _ _) (v_add il il (fun _ => by omega)) ?_
    refine ra (.int _ _) ?_
    refine r_nil ?_
    refine a_region ?_
    refine rm (.int _ _) ?_
    refine rv (v := .int _ _) (v_add il il (fun _ => by omega)) ?_
    refine ra (.int _ _) ?_
    refine r_nil ?_
    refine ⟨i + 1, ent_look ⟨wr, Weak.of_eq (int_eq (by omega)), Weak.of_eq (int_eq (by omega)), wr, trivial⟩, by omega, by omega⟩
  ·
    refine a_exit ?_
    refine aq ?_
    refine rm (.int _ _) ?_
    refine ra (.int _ _) ?_
    refine r_nil ?_
    refine a_ret ?_
    refine ret1 Tryz.results14 (by decide) (by decide) (Weak.of_eq (int_eq ?_)) rfl (Leaves.one (Weak.of_eq (osl_eq (by simp at ht9; rw [mkIPart_full (by omega)]))) rfl)
    simp at ht9; omega
theorem hb103 : hasBody Tryz.prog 103 = true := by kernel_rfl
theorem hb60 : hasBody Tryz.prog 60 = true := by kernel_rfl
theorem hb61 : hasBody Tryz.prog 61 = true := by kernel_rfl
theorem zc119 : zeroCells Tryz.prog 119 = some [.int .i64 0, .int .i64 0] := by kernel_rfl
theorem l18Clause_c (p vars : Int) (c : List Int) (hp : prime p vars = true) (hc : clB vars c = true) (hl : (c.length : Int) ≤ 9223372036854775807) : ACall Tryz.prog 52 [.int .i64 p, .int .i64 vars, .sl (icells c) c.length] [] (.osl 2 (tcells (trm (clP p (dn vars) c c.length))) (trm (clP p (dn vars) c c.length)).length none) [] := by
 have hpp := prime_spec hp
 have hd := dn_le hpp.2
 have hw := pow6 hpp.2
 refine ACall.intro Tryz.func52 rfl (N := 49) rfl (by decide) (by simp) ?_
 refine aq ?_
 refine ra .nils ?_
 refine r_nil ?_
 refine aq ?_
 refine rv (v := .agg [.int _ _, .int _ _]) (v_build sp119 rfl rfl) ?_
 refine rn (v := .osl _ _ _ _) (q_sliceLit (n := 1) (parts := [(0, .tmp 10)]) lt72 rfl rfl rfl rfl) ?_
 refine ra (.rsl _ _ _ _ _) ?_
 refine r_pre (ent_reloc_sl (t := 7) rfl rfl) ?_
 refine r_nil ?_
 refine a_seq ?_
 refine aq ?_
 refine ra (.int _ _) ?_
 refine r_nil ?_
 refine a_block ?_
 refine a_loop (X := Nat) (fun i => look [(0, .int .i64 p), (1, .int .i64 vars), (2, .sl (icells c) c.length), (7, .osl 2 (tcells (trm (clP p (dn vars) c i))) (trm (clP p (dn vars) c i)).length none), (8, .int .i64 (i : Int))]) (fun i => i ≤ c.length) (fun i => c.length - i) 0 (ent_look ⟨wr, wr, wr, Weak.osl (by rw [show clP p (dn vars) c 0 = one (dn vars) 0 from rfl, trm_one (p := p) (by omega) (by omega)]; rfl) (by rw [show clP p (dn vars) c 0 = one (dn vars) 0 from rfl, trm_one (p := p) (by omega) (by omega)]; rfl), wr, trivial⟩) (Nat.zero_le _) (fun i hG => ?_)
 refine a_seq ?_
 refine aq ?_
 refine rm (.int _ _) ?_
 refine rm (.sl _ _) ?_
 refine rv (v := .int _ _) (v_len_sl sl25 il) ?_
 refine rv (v := .bool _) (v_lss il il) ?_
 refine r_nil ?_
 refine a_cond rfl (fun ht15 => ?_) (fun ht15 => ?_)
 ·
  refine a_skip ?_
  refine a_seq ?_
  refine a_block ?_
  refine a_seq ?_
  have hi : i < c.length := (by simp at ht15; omega)
  have hlt := clB_lit hc hi
  have hlb := litB_spec.1 hlt
  have hlit := lit_pow hlt
  have hvr : 1 ≤ vr (gd c i) ∧ vr (gd c i) ≤ 6 := (by unfold vr; split <;> omega)
  refine a_region ?_
  refine rm (.sl _ _) ?_
  refine rm (.int _ _) ?_
  refine rv (v := .pp _ _) (v_indexAddr_sl es25 il il (fun _ => ⟨by omega, by omega, icells_ne hi⟩)) ?_
  refine rv (v := .int .i64 (gd c i)) (v_load_pp ta3 il (fun _ => by rw [Nat.mul_one]; exact icells_get (gd_get hi)) rfl) ?_
  refine rn (v := .int _ _) (q_call (vs := [.int _ _]) (args := [.int .i64 _]) hb76 ⟨il, trivial⟩ rfl (fun hA => l2Var_c _ (by omega)) rfl rfl) ?_
  refine rv (v := .int _ _) (v_sub il il (fun _ => by omega)) ?_
  refine rv (v := .int .i64 (2 ^ (vr (gd c i) - 1).toNat)) ((v_shl il il (fun _ => by omega)).cast (int_eq (Int.one_mul _))) ?_
  refine rv (v := .agg [.int _ _, .int _ _]) (v_build sp119 rfl rfl) ?_
  refine rn (v := .op [.int _ _, .int _ _]) (q_alloc zc119) ?_
  refine r_step rfl (o_store (v := .agg [.int _ _, .int _ _]) (y' := .op [.int _ _, .int _ _]) rfl rfl ta119 il il rfl rfl rfl rfl rfl rfl (Nat.le_of_ble_eq_true rfl) (by decide) rfl rfl) ?_
  refine r_nil ?_
  refine aq ?_
  refine rm (.sl _ _) ?_
  refine rm (.int _ _) ?_
  refine rv (v := .pp _ _) (v_indexAddr_sl es25 il il (fun _ => ⟨by omega, by omega, icells_ne hi⟩)) ?_
  refine rv (v := .int .i64 (gd c i)) (v_load_pp ta3 il (fun _ => by rw [Nat.mul_one]; exact icells_get (gd_get hi)) rfl) ?_
  refine rv (v := .bool _) (v_lss il il) ?_
  refine r_nil ?_
  refine a_cond rfl (fun ht30 => ?_) (fun ht30 => ?_)
  ·
   have hn : gd c i < 0 := (by simpa using ht30)
   have hfe : fT p (gd c i) = [((2 ^ (vr (gd c i) - 1).toNat), 1)] := (by unfold fT; rw [if_pos hn])
   have hgf : goodL p vars [((2 ^ (vr (gd c i) - 1).toNat), 1)] = true := (by rw [← hfe]; exact fT_good (by omega) hlt)
   have he : sOut p (dn vars) (trm (clP p (dn vars) c i)) [((2 ^ (vr (gd c i) - 1).toNat), 1)] = clP p (dn vars) c (i + 1) := (by rw [sOut_mul hp (clP_bd (by omega) i) (clP_length i) hgf, ← hfe, accp_fT (by omega) hlt]; rfl)
   refine a_region ?_
   refine rm (.int _ _) ?_
   refine rm (.int _ _) ?_
   refine rm (.rsl _ _ _ _ _) ?_
   refine rv (v := .agg [.int _ _, .int _ _]) (v_load_rpa1 ta119 il rfl rfl (fun _ => rfl) rfl) ?_
   refine rn (v := .osl _ _ _ _) (q_sliceLit (n := 1) (parts := [(0, .tmp 34)]) lt72 rfl rfl rfl rfl) ?_
   refine rn (v := .osl _ _ _ _) (q_call (vs := [.int _ _, .int _ _, .rsl _ _ _ _ _, .rsl _ _ _ _ _]) (args := [.int .i64 _, .int .i64 _, .sl _ _, .sl _ _]) hb103 ⟨il, il, il, il, trivial⟩ (l4_eq rfl rfl (sl_sh (tc_pure _)) (sl_sh (tc_pure [((2 ^ (vr (gd c i) - 1).toNat), 1)]))) (fun hA => l18Mul_c p vars (trm (clP p (dn vars) c i)) [((2 ^ (vr (gd c i) - 1).toNat), 1)] hp (trm_good (clP_bd (by omega) i) (clP_length i)) hgf (by have := trm_len (clP p (dn vars) c i); rw [clP_length] at this; omega) (by simp)) (tc_noSh _) (tc_noRef _)) ?_
   refine ra (.rsl _ _ _ _ _) ?_
   refine r_pre (ent_reloc_sl (t := 7) rfl rfl) ?_
   refine r_nil ?_
   refine a_pre (ent_look (L := [(0, .int _ _), (1, .int _ _), (2, .sl _ _), (7, .osl _ _ _ _), (8, .int _ _)]) ⟨wr, wr, wr, wr, wr, trivial⟩) ?_
   refine a_region ?_
   refine rm (.int _ _) ?_
   refine rv (v := .int _ _) (v_add il il (fun _ => by omega)) ?_
   refine ra (.int _ _) ?_
   refine r_nil ?_
   refine ⟨i + 1, ent_look ⟨wr, wr, wr, Weak.osl (by rw [he]) (by rw [he]), Weak.of_eq (int_eq (by omega)), trivial⟩, by omega, by omega⟩
  ·
   have hn : ¬ gd c i < 0 := (by simpa using ht30)
   have hfe : fT p (gd c i) = [(0, 1), ((2 ^ (vr (gd c i) - 1).toNat), p - 1)] := (by unfold fT; rw [if_neg hn])
   have hgf : goodL p vars [(0, 1), ((2 ^ (vr (gd c i) - 1).toNat), p - 1)] = true := (by rw [← hfe]; exact fT_good (by omega) hlt)
   have he : sOut p (dn vars) (trm (clP p (dn vars) c i)) [(0, 1), ((2 ^ (vr (gd c i) - 1).toNat), p - 1)] = clP p (dn vars) c (i + 1) := (by rw [sOut_mul hp (clP_bd (by omega) i) (clP_length i) hgf, ← hfe, accp_fT (by omega) hlt]; rfl)
   refine a_region ?_
   refine rm (.int _ _) ?_
   refine rm (.int _ _) ?_
   refine rm (.rsl _ _ _ _ _) ?_
   refine rv (v := .agg [.int _ _, .int _ _]) (v_build sp119 rfl rfl) ?_
   refine rv (v := .rp _ _) (v_fieldAddr_rp fo119_0 il) ?_
   refine rv (v := .int _ _) (v_load_rp1 ta3 il rfl (fun _ => rfl) rfl) ?_
   refine rm (.int _ _) ?_
   refine rv (v := .int _ _) (v_sub il il (fun _ => by omega)) ?_
   refine rv (v := .agg [.int _ _, .int _ _]) (v_build sp119 rfl rfl) ?_
   refine rn (v := .osl _ _ _ _) (q_sliceLit (n := 2) (parts := [(0, .tmp 40), (1, .tmp 45)]) lt72 rfl rfl rfl rfl) ?_
   refine rn (v := .osl _ _ _ _) (q_call (vs := [.int _ _, .int _ _, .rsl _ _ _ _ _, .rsl _ _ _ _ _]) (args := [.int .i64 _, .int .i64 _, .sl _ _, .sl _ _]) hb103 ⟨il, il, il, il, trivial⟩ (l4_eq rfl rfl (sl_sh (tc_pure _)) (sl_sh (tc_pure [(0, 1), ((2 ^ (vr (gd c i) - 1).toNat), p - 1)]))) (fun hA => l18Mul_c p vars (trm (clP p (dn vars) c i)) [(0, 1), ((2 ^ (vr (gd c i) - 1).toNat), p - 1)] hp (trm_good (clP_bd (by omega) i) (clP_length i)) hgf (by have := trm_len (clP p (dn vars) c i); rw [clP_length] at this; omega) (by simp)) (tc_noSh _) (tc_noRef _)) ?_
   refine ra (.rsl _ _ _ _ _) ?_
   refine r_pre (ent_reloc_sl (t := 7) rfl rfl) ?_
   refine r_nil ?_
   refine a_pre (ent_look (L := [(0, .int _ _), (1, .int _ _), (2, .sl _ _), (7, .osl _ _ _ _), (8, .int _ _)]) ⟨wr, wr, wr, wr, wr, trivial⟩) ?_
   refine a_region ?_
   refine rm (.int _ _) ?_
   refine rv (v := .int _ _) (v_add il il (fun _ => by omega)) ?_
   refine ra (.int _ _) ?_
   refine r_nil ?_
   refine ⟨i + 1, ent_look ⟨wr, wr, wr, Weak.osl (by rw [he]) (by rw [he]), Weak.of_eq (int_eq (by omega)), trivial⟩, by omega, by omega⟩
 ·
  refine a_exit ?_
  refine aq ?_
  refine rm (.rsl _ _ _ _ _) ?_
  refine ra (.rsl _ _ _ _ _) ?_
  refine r_pre (ent_reloc_sl (t := 6) rfl rfl) ?_
  refine r_nil ?_
  refine a_ret ?_
  refine ret1 Tryz.results52 (by decide) (by decide) (Weak.osl ?_ ?_) rfl Leaves.nil
  all_goals (simp at ht15; have e : i = c.length := (by omega); subst e; rfl)
theorem rclause_c (p vars : Int) (c : List Int) (hp : prime p vars = true) (hc : clB vars c = true) (hl : (c.length : Int) ≤ 9223372036854775807) : ACall Tryz.prog 105 [.agg [.int .i64 p, .int .i64 vars], .sl (icells c) c.length] [] (.osl 1 (icells (clP p (dn vars) c c.length)) (dn vars) none) [] := by
 have hpp := prime_spec hp
 have hd := dn_le hpp.2
 have hw := pow6 hpp.2
 refine ACall.intro Tryz.func105 rfl (N := 25) rfl (by decide) (by simp) ?_
 refine aq ?_
 refine rn (v := .op [.int _ _, .int _ _]) (q_box il rfl rfl) ?_
 refine ra .nils ?_
 refine r_nil ?_
 refine aq ?_
 refine rv (v := .agg [.int _ _, .int _ _]) (v_load_rpa1 ta90 il rfl rfl (fun _ => rfl) rfl) ?_
 refine rn (v := .osl _ _ _ _) (q_call (vs := [.agg [.int _ _, .int _ _], .int _ _]) (args := [.agg [.int .i64 _, .int .i64 _], .int .i64 ((0 : Nat) : Int)]) hb58 ⟨il, il, trivial⟩ rfl (fun hA => mono_c _ _ 0 hpp.2 (by omega)) (ic_noSh _) (ic_noRef _)) ?_
 refine ra (.rsl _ _ _ _ _) ?_
 refine r_pre (ent_reloc_sl (t := 5) rfl rfl) ?_
 refine r_nil ?_
 refine a_seq ?_
 refine aq ?_
 refine rm (.sl _ _) ?_
 refine rv (v := .int _ _) (v_len_sl sl25 il) ?_
 refine rm (.int _ _) ?_
 refine r_nil ?_
 refine a_block ?_
 refine a_loop (X := Nat) (fun i => look [(2, .op [.int .i64 p, .int .i64 vars]), (5, .osl 1 (icells (clP p (dn vars) c i)) (dn vars) none), (10, .sl (icells c) c.length), (11, .int .i64 (c.length : Int)), (12, .int .i64 (i : Int))]) (fun i => i ≤ c.length) (fun i => c.length - i) 0 (ent_look ⟨wr, wr, wr, wr, wr, trivial⟩) (Nat.zero_le _) (fun i hG => ?_)
 refine aq ?_
 refine rv (v := .bool _) (v_lss il il) ?_
 refine r_nil ?_
 refine a_seq ?_
 refine a_cond rfl (fun ht13 => ?_) (fun ht13 => ?_)
 ·
  refine a_skip ?_
  refine a_seq ?_
  refine a_block ?_
  refine a_seq ?_
  have hi : i < c.length := (by simp at ht13; omega)
  have hlt := clB_lit hc hi
  have hlb := litB_spec.1 hlt
  have hnl : litB vars (-(gd c i)) = true := litB_spec.2 (by omega)
  refine a_region ?_
  refine rv (v := .pp _ _) (v_indexAddr_sl es25 il il (fun _ => ⟨by omega, by omega, icells_ne hi⟩)) ?_
  refine rv (v := .int .i64 (gd c i)) (v_load_pp ta3 il (fun _ => by rw [Nat.mul_one]; exact icells_get (gd_get hi)) rfl) ?_
  refine ra (.int _ _) ?_
  refine r_nil ?_
  refine a_region_tail (n := 7) mixed (by kernel_rfl) ?_
  refine t_val (v := .agg [.int _ _, .int _ _]) (v_load_rpa1 ta90 (.inl rfl) rfl rfl (fun _ => rfl) rfl) rfl rfl (by decide) (by kernel_rfl) ?_
  refine t_val (v := .rsl _ _ _ _ _) (v_move (.inl rfl) nf) rfl rfl (by decide) (by kernel_rfl) ?_
  refine t_val (v := .agg [.int _ _, .int _ _]) (v_load_rpa1 ta90 (.inl rfl) rfl rfl (fun _ => rfl) rfl) rfl rfl (by decide) (by kernel_rfl) ?_
  refine t_val (v := .int _ _) (v_move (.inl rfl) nf) rfl rfl (by decide) (by kernel_rfl) ?_
  refine t_val (v := .int _ _) (v_neg (.inl rfl) (fun _ => by omega)) rfl rfl (by decide) (by kernel_rfl) ?_
  refine t_new (v := .osl _ _ _ _) (q_call (vs := [.agg [.int _ _, .int _ _], .int _ _]) (args := [.agg [.int .i64 _, .int .i64 _], .int .i64 _]) hb61 ⟨.inl rfl, .inl rfl, trivial⟩ rfl (fun hA => literal_c _ _ _ hp hnl) (ic_noSh _) (ic_noRef _)) rfl rfl (by decide) (by kernel_rfl) ?_
  refine t_new (v := .osl _ _ _ _) (q_call (vs := [.agg [.int _ _, .int _ _], .rsl _ _ _ _ _, .rsl _ _ _ _ _]) (args := [.agg [.int .i64 _, .int .i64 _], .sl _ _, .sl _ _]) hb60 ⟨.inl rfl, .inl rfl, .inl rfl, trivial⟩ (l3_eq rfl (sl_sh (ic_pure _)) (sl_sh (ic_pure _))) (fun hA => times_c _ _ _ _ _ hp ⟨clP_length i, litP_length _ _ _, rfl⟩ (clP_bd (by omega) i) (litP_bd (by omega) _ _)) (ic_noSh _) (ic_noRef _)) rfl rfl (by decide) (by kernel_rfl) ?_
  refine t_nil ?_
  refine ra (.rsl _ _ _ _ _) ?_
  refine r_pre (ent_reloc_sl (t := 5) rfl rfl) ?_
  refine r_nil ?_
  refine a_region ?_
  refine rv (v := .int _ _) (v_add il il (fun _ => by omega)) ?_
  refine rm (.int _ _) ?_
  refine r_nil ?_
  refine ⟨i + 1, ent_look ⟨wr, Weak.osl rfl rfl, wr, wr, Weak.of_eq (int_eq (by omega)), trivial⟩, by omega, by omega⟩
 ·
  refine a_exit ?_
  refine aq ?_
  refine rm (.rsl _ _ _ _ _) ?_
  refine ra (.rsl _ _ _ _ _) ?_
  refine r_pre (ent_reloc_sl (t := 4) rfl rfl) ?_
  refine r_nil ?_
  refine a_ret ?_
  refine ret1 Tryz.results105 (by decide) (by decide) (Weak.osl ?_ ?_) rfl Leaves.nil
  all_goals (simp at ht13; have e : i = c.length := (by omega); subst e; rfl)
end Go.Av
namespace Go.Av
open Go
def lb (l : Int) : Nat := 2 ^ (vr l - 1).toNat
end Go.Av
namespace Go.Av
open Go Go.Proofs
theorem ap25 : appTy Tryz.prog 25 = some (1, 8) := by kernel_rfl
theorem lt25 : litTy Tryz.prog 25 = some (1, [.int .i64 0]) := by kernel_rfl
theorem idxI_c (f : Nat) (caps : List AV) (hb : hasBody Tryz.prog f = true) (hcap : capOk caps = true) (xs : List Int) (p : Nat → Bool) (hl : (xs.length : Int) ≤ 9223372036854775807) (hc : ∀ i, i < xs.length → ACall Tryz.prog f (.int .i64 (gd xs i) :: caps) [] (.bool (p i)) []) : ACall Tryz.prog 147 [.sl (icells xs) xs.length, .fn f [] caps] [] (.int .i64 (fidx p xs.length)) [] := by
  refine ACall.intro Tryz.func147 rfl (N := 19) rfl (by decide) (by simp) ?_
  refine aq ?_
  refine ra (.int _ _) ?_
  refine r_nil ?_
  refine a_seq ?_
  refine aq ?_
  refine rm (.sl _ _) ?_
  refine rv (v := .int _ _) (v_len_sl sl25 il) ?_
  refine rm (.int _ _) ?_
  refine r_nil ?_
  refine a_block ?_
  refine a_loop (X := Nat) (fun i => look [(0, .sl (icells xs) xs.length), (1, .fn f [] caps), (7, .int .i64 (xs.length : Int)), (8, .int .i64 (i : Int))]) (fun i => i ≤ xs.length ∧ ∀ j, j < i → p j = false) (fun i => xs.length - i) 0 (ent_look ⟨wr, wr, wr, wr, trivial⟩) ⟨Nat.zero_le _, fun j h => by omega⟩ (fun i hG => ?_)
  obtain ⟨h1, h2⟩ := hG
  refine aq ?_
  refine rv (v := .bool _) (v_lss il il) ?_
  refine r_nil ?_
  refine a_seq ?_
  refine a_cond rfl (fun ht9 => ?_) (fun ht9 => ?_)
  ·
    refine a_skip ?_
    refine a_seq ?_
    refine a_block ?_
    refine aq ?_
    have hi : i < xs.length := (by simp at ht9; omega)
    refine rm (.int _ _) ?_
    refine ra (.int _ _) ?_
    refine r_nil ?_
    refine aq ?_
    refine rv (v := .fn _ _ _) (v_mv rfl) ?_
    refine rm (.sl _ _) ?_
    refine rm (.int _ _) ?_
    refine rv (v := .pp _ _) (v_indexAddr_sl es25 il il (fun _ => ⟨by omega, by omega, icells_ne hi⟩)) ?_
    refine rv (v := .int .i64 (gd xs i)) (v_load_pp ta3 il (fun _ => by rw [Nat.mul_one]; exact icells_get (gd_get hi)) rfl) ?_
    refine rn (v := .bool _) (q_clo (vs := [.int _ _]) (args := (.int _ _ :: caps)) hb il ⟨il, trivial⟩ (snap_clo1 hcap rfl) (fun hA => hc i hi) rfl rfl) ?_
    refine r_nil ?_
    refine a_cond rfl (fun ht16 => ?_) (fun ht16 => ?_)
    ·
      refine aq ?_
      refine rm (.int _ _) ?_
      refine ra (.int _ _) ?_
      refine r_nil ?_
      refine a_ret ?_
      refine ret1 Tryz.results147 (by decide) (by decide) (Weak.of_eq (int_eq ?_)) rfl Leaves.nil
      exact (fidx_found hi ht16 h2).symm
    ·
      refine a_skip ?_
      refine a_region ?_
      refine rv (v := .int _ _) (v_add il il (fun _ => by omega)) ?_
      refine rm (.int _ _) ?_
      refine r_nil ?_
      refine ⟨i + 1, ent_look ⟨wr, (Weak.of_eq (purge_fn hcap)), wr, Weak.of_eq (int_eq (by omega)), trivial⟩, ⟨by omega, ok_stepF h2 ht16⟩, by omega⟩
  ·
    refine a_exit ?_
    refine aq ?_
    refine ra (.int _ _) ?_
    refine r_nil ?_
    refine a_ret ?_
    refine ret1 Tryz.results147 (by decide) (by decide) (Weak.of_eq (int_eq ?_)) rfl Leaves.nil
    simp at ht9; exact (fidx_none (fun j hj => h2 j (by omega))).symm
theorem cloneI_c (xs : List Int) (n : Nat) (h : xs.length = n ∧ n ≤ 1048576) : ACall Tryz.prog 43 [.sl (icells xs) n] [] (.osl 1 (icells xs) n none) [] := by
  refine ACall.intro Tryz.func43 rfl (N := 8) rfl (by decide) (by simp) ?_
  refine aq ?_
  refine ra .nils ?_
  refine r_nil ?_
  refine a_seq ?_
  refine aq ?_
  refine rm (.sl _ _) ?_
  refine r_nileq rfl rfl us25 (.inl rfl) rfl (by decide) (fun b4 hb4 => ?_)
  refine r_nil ?_
  refine a_cond rfl (fun ht4 => ?_) (fun ht4 => ?_)
  ·
    refine aq ?_
    refine ra .nils ?_
    refine r_nil ?_
    refine a_pre (ent_nil (t := 2) (sz := 1) (cap := none) (.inl rfl) (fun _ h => by cases h)) ?_
    refine a_ret ?_
    refine ret1 Tryz.results43 (by decide) (by decide) (Weak.osl ?_ ?_) rfl Leaves.nil
    all_goals (have he := hb4 ht4)
    · exact he.symm
    · have := icells_length xs; rw [he] at this; simp at this; omega
  ·
    refine a_skip ?_
    refine aq ?_
    refine rn (v := .osl _ _ _ _) (q_sliceLit (n := 0) (parts := []) lt25 rfl rfl rfl rfl) ?_
    refine rm (.sl _ _) ?_
    refine r_step rfl (o_append rfl ap25 rfl (by decide) (by decide) rfl (src_sl (.inl rfl) (fun _ => by rw [icells_length]; omega) (ic_pureL _)) (ic_cell _) rfl (by omega)) ?_
    refine ra (.rsl _ _ _ _ _) ?_
    refine r_pre (ent_reloc_sl (t := 2) rfl rfl) ?_
    refine r_nil ?_
    refine a_ret ?_
    refine ret1 Tryz.results43 (by decide) (by decide) (Weak.osl ?_ ?_) rfl Leaves.nil
    · rfl
    · omega
theorem l1Own_c (xs : List Int) (n : Nat) (h : xs.length = n ∧ n ≤ 1048576) : ACall Tryz.prog 32 [.sl (icells xs) n] [] (.osl 1 (icells xs) n none) [] := by
  refine ACall.intro Tryz.func32 rfl (N := 6) rfl (by decide) (by simp) ?_
  refine aq ?_
  refine ra .nils ?_
  refine r_nil ?_
  refine aq ?_
  refine rn (v := .osl _ _ _ _) (q_sliceLit (n := 0) (parts := []) lt25 rfl rfl rfl rfl) ?_
  refine rm (.sl _ _) ?_
  refine r_step rfl (o_append rfl ap25 rfl (by decide) (by decide) rfl (src_sl (.inl rfl) (fun _ => by rw [icells_length]; omega) (ic_pureL _)) (ic_cell _) rfl (by omega)) ?_
  refine ra (.rsl _ _ _ _ _) ?_
  refine r_pre (ent_reloc_sl (t := 2) rfl rfl) ?_
  refine r_nil ?_
  refine a_ret ?_
  refine ret1 Tryz.results32 (by decide) (by decide) (Weak.osl ?_ ?_) rfl Leaves.nil
  · rfl
  · omega
end Go.Av
namespace Go.Av
open Go Go.Proofs Go.Sort
theorem insertion_c (f : Nat) (hb : hasBody Tryz.prog f = true) (cf : Int → Int → Int) (hc : ∀ x y, ACall Tryz.prog f [.int .i64 x, .int .i64 y] [] (.int .i64 (cf x y)) []) (d : Array Int) (n a b : Nat) (hd : d.size = n) (hab : a ≤ b ∧ b ≤ n) (hn : n ≤ 4611686018427387904) : ACall Tryz.prog 185 [.rsl (INH, []) 1 0 n none, .int .i64 ((a : Nat) : Int), .int .i64 ((b : Nat) : Int), .fn f [] []] [.osl 1 (acells d) n none] (.tup []) [.osl 1 (acells (insertionSort (ltc cf) d a b)) n none] := by
 refine ACall.intro Tryz.func185 rfl (N := 53) rfl (by decide) (by simp) ?_
 refine aq ?_
 refine rm (.int _ _) ?_
 refine rv (v := .int _ _) (v_add il il (fun _ => by omega)) ?_
 refine ra (.int _ _) ?_
 refine r_nil ?_
 refine a_block ?_
 refine a_loop (X := (Nat × Array Int)) (fun x => look [(0, .rsl (INH, []) 1 0 n none), (1, .int .i64 ((a : Nat) : Int)), (2, .int .i64 ((b : Nat) : Int)), (3, .fn f [] []), (8, .int .i64 ((x.1 : Nat) : Int)), (INH, .osl 1 (acells x.2) n none)]) (fun x => a + 1 ≤ x.1 ∧ x.2.size = n ∧ insOuter (ltc cf) a b x.1 x.2 = insertionSort (ltc cf) d a b) (fun x => b - x.1) (a + 1, d) (ent_look ⟨wr, wr, wr, wr, Weak.of_eq (int_eq (by omega)), wr, trivial⟩) ⟨Nat.le_refl _, hd, rfl⟩ (fun x hG => ?_)
 obtain ⟨g1, g2, g3⟩ := hG
 refine a_seq ?_
 refine aq ?_
 refine rm (.int _ _) ?_
 refine rm (.int _ _) ?_
 refine rv (v := .bool _) (v_lss il il) ?_
 refine r_nil ?_
 refine a_cond rfl (fun ht14 => ?_) (fun ht14 => ?_)
 ·
  refine a_skip ?_
  refine a_seq ?_
  refine a_block ?_
  refine a_seq ?_
  have hxb : x.1 < b := (by simpa using ht14)
  refine a_region ?_
  refine rm (.int _ _) ?_
  refine ra (.int _ _) ?_
  refine r_nil ?_
  refine a_block ?_
  refine a_loop (X := (Nat × Array Int)) (fun y => look [(0, .rsl (INH, []) 1 0 n none), (1, .int .i64 ((a : Nat) : Int)), (2, .int .i64 ((b : Nat) : Int)), (3, .fn f [] []), (8, .int .i64 ((x.1 : Nat) : Int)), (9, .int .i64 ((y.1 : Nat) : Int)), (INH, .osl 1 (acells y.2) n none)]) (fun y => a ≤ y.1 ∧ y.1 ≤ x.1 ∧ y.2.size = n ∧ insInner (ltc cf) a y.1 y.2 = insInner (ltc cf) a x.1 x.2) (fun y => y.1) (x.1, x.2) (ent_look ⟨wr, wr, wr, wr, wr, wr, wr, trivial⟩) ⟨by omega, Nat.le_refl _, g2, rfl⟩ (fun y hG => ?_)
  obtain ⟨k1, k2, k3, k4⟩ := hG
  refine a_seq ?_
  refine a_seq ?_
  refine a_region_any mixed (by kernel_rfl) ?_
  refine yv (v := .int _ _) (v_move il nf) ?_
  refine yv (v := .int _ _) (v_move il nf) ?_
  refine yv (v := .bool _) (v_gtr il il) ?_
  refine yv (v := .bool _) (v_move il nf) ?_
  refine yh (v := .fn _ _ _) (v_move il nf).quiet ?_
  refine yh (v := .rsl _ _ _ _ _) (v_move il nf).quiet ?_
  refine yh (v := .int _ _) (v_move il nf).quiet ?_
  refine yg (v := .rp _ _) (v_indexAddr_rsl0 es25 (.inr ⟨_, rfl, fun h => h⟩) (.inr ⟨_, rfl, fun h => h⟩) (fun hA => by simp at hA; omega)).quiet rfl rfl rfl (by decide) (.inl ⟨_, rfl, rfl⟩) ?_
  refine yg (v := .int .i64 y.2[y.1]!) (v_load_rp1 ta3 (.inr ⟨_, rfl, fun h => h⟩) rfl (fun hA => by simp at hA; rw [Nat.mul_one]; exact acells_get (by omega)) rfl).quiet rfl rfl rfl (by decide) (.inl ⟨_, rfl, rfl⟩) ?_
  refine yh (v := .rsl _ _ _ _ _) (v_move il nf).quiet ?_
  refine yh (v := .int _ _) (v_move il nf).quiet ?_
  refine yg (v := .int _ _) (v_sub (.inr ⟨_, rfl, fun h => h⟩) il (fun hA => by simp at hA; omega)).quiet rfl rfl rfl (by decide) (.inl ⟨_, rfl, rfl⟩) ?_
  refine yg (v := .rp _ _) (v_indexAddr_rsl0 es25 (.inr ⟨_, rfl, fun h => h⟩) (.inr ⟨_, rfl, fun h => h⟩) (fun hA => by simp at hA; omega)).quiet rfl rfl rfl (by decide) (.inl ⟨_, rfl, rfl⟩) ?_
  refine yg (v := .int .i64 y.2[y.1 - 1]!) (v_load_rp1 ta3 (.inr ⟨_, rfl, fun h => h⟩) rfl (fun hA => by simp at hA; rw [show ((y.1 : Int) - 1).toNat = y.1 - 1 by omega, Nat.mul_one]; exact acells_get (by omega)) rfl).quiet rfl rfl rfl (by decide) (.inl ⟨_, rfl, rfl⟩) ?_
  refine yg (v := .int _ _) (q_clo (vs := [.int _ _, .int _ _]) (args := [.int .i64 _, .int .i64 _]) hb (.inr ⟨_, rfl, fun h => h⟩) ⟨.inr ⟨_, rfl, fun h => h⟩, .inr ⟨_, rfl, fun h => h⟩, trivial⟩ rfl (fun hA => hc _ _) rfl rfl) rfl rfl rfl (by decide) (.inl ⟨_, rfl, rfl⟩) ?_
  refine yg (v := .bool _) (v_lss (.inr ⟨_, rfl, fun h => h⟩) il).quiet rfl rfl rfl (by decide) (.inl ⟨_, rfl, rfl⟩) ?_
  refine yv (v := .bool _) (v_pick (.inl rfl) (.inr ⟨_, rfl, fun h h2 => by simp_all⟩) (.inl rfl)) ?_
  refine y_nil ?_
  refine a_cond rfl (fun ht34 => ?_) (fun ht34 => ?_)
  ·
   refine a_skip ?_
   refine a_seq ?_
   refine a_block ?_
   have hjl : a < y.1 ∧ ltc cf y.2[y.1]! y.2[y.1 - 1]! = true := (by simpa [ltc] using ht34)
   obtain ⟨hj, hl⟩ := hjl
   have hp1 : y.1 * 1 + 1 ≤ (acells y.2).length := (by rw [acells_length]; omega)
   have hp2 : (y.1 - 1) * 1 + 1 ≤ ((acells y.2).set (y.1 * 1) (.int .i64 y.2[(y.1 - 1)]!)).length := (by rw [List.length_set, acells_length]; omega)
   have hset : ((acells y.2).set (y.1 * 1) (.int .i64 y.2[(y.1 - 1)]!)).set ((y.1 - 1) * 1) (.int .i64 y.2[y.1]!) = acells (swp y.2 y.1 (y.1 - 1)) := (by rw [Nat.mul_one, Nat.mul_one]; exact acells_swp _ _ _)
   refine a_region_w [(37, true), (38, true), (39, true), (40, true), (41, true), (42, true), (43, true), (44, true), (45, true), (46, true), (47, true), (48, true), (49, true), (50, true), (51, true), (INH, false), (52, true), (INH, false)] mixed (by kernel_rfl) ?_
   refine wv (v := .rsl _ _ _ _ _) (v_move il nf) ?_
   refine wv (v := .int _ _) (v_move il nf) ?_
   refine wv (v := .rsl _ _ _ _ _) (v_move il nf) ?_
   refine wv (v := .int _ _) (v_move il nf) ?_
   refine wv (v := .int .i64 ((y.1 - 1 : Nat) : Int)) ((v_sub il il (fun _ => by omega)).cast (int_eq (by omega))) ?_
   refine wv (v := .rsl _ _ _ _ _) (v_move il nf) ?_
   refine wv (v := .int _ _) (v_move il nf) ?_
   refine wv (v := .int .i64 ((y.1 - 1 : Nat) : Int)) ((v_sub il il (fun _ => by omega)).cast (int_eq (by omega))) ?_
   refine wv (v := .rp _ _) (v_indexAddr_rsl0 es25 il il (fun _ => by omega)) ?_
   refine wv (v := .int .i64 y.2[y.1 - 1]!) (v_load_rp1 ta3 il rfl (fun _ => by rw [Nat.mul_one]; exact acells_get (by omega)) rfl) ?_
   refine wv (v := .rsl _ _ _ _ _) (v_move il nf) ?_
   refine wv (v := .int _ _) (v_move il nf) ?_
   refine wv (v := .rp _ _) (v_indexAddr_rsl0 es25 il il (fun _ => by omega)) ?_
   refine wv (v := .int .i64 y.2[y.1]!) (v_load_rp1 ta3 il rfl (fun _ => by rw [Nat.mul_one]; exact acells_get (by omega)) rfl) ?_
   refine wv (v := .rp _ _) (v_indexAddr_rsl0 es25 il il (fun _ => by omega)) ?_
   refine w_store (v := .int _ _) (y' := .osl _ _ _ _) rfl rfl rfl ta3 (.inl rfl) (.inl rfl) rfl rfl rfl rfl rfl rfl hp1 (by decide) rfl rfl rfl (by kernel_rfl) ?_
   refine wv (v := .rp _ _) (v_indexAddr_rsl0 es25 il il (fun _ => by omega)) ?_
   refine w_store (v := .int _ _) (y' := .osl _ _ _ _) rfl rfl rfl ta3 (.inl rfl) (.inl rfl) rfl rfl rfl rfl rfl rfl hp2 (by decide) rfl (congrArg (fun c => AV.osl 1 c n none) hset) rfl (by kernel_rfl) ?_
   refine w_nil ?_
   refine a_pre (ent_look (L := [(0, .rsl _ _ _ _ _), (1, .int _ _), (2, .int _ _), (3, .fn _ _ _), (8, .int _ _), (9, .int _ _), (INH, .osl _ _ _ _)]) ⟨wr, wr, wr, wr, wr, wr, wr, trivial⟩) ?_
   refine a_region ?_
   refine rm (.int _ _) ?_
   refine rv (v := .int _ _) (v_sub il il (fun _ => by omega)) ?_
   refine ra (.int _ _) ?_
   refine r_nil ?_
   refine ⟨(y.1 - 1, swp y.2 y.1 (y.1 - 1)), ent_look ⟨wr, wr, wr, wr, wr, Weak.of_eq (int_eq (by omega)), wr, trivial⟩, ⟨by omega, by omega, by rw [swp_size]; exact k3, by rw [← k4, insInner_more hj hl]⟩, by omega⟩
  ·
   refine a_exit ?_
   have hdone : insInner (ltc cf) a y.1 y.2 = y.2 := insInner_stop (by simpa [ltc] using ht34)
   refine a_region ?_
   refine rm (.int _ _) ?_
   refine rv (v := .int _ _) (v_add il il (fun _ => by omega)) ?_
   refine ra (.int _ _) ?_
   refine r_nil ?_
   refine ⟨(x.1 + 1, y.2), ent_look ⟨wr, wr, wr, wr, Weak.of_eq (int_eq (by omega)), wr, trivial⟩, ⟨by omega, k3, by rw [← g3, insOuter.eq_1 _ _ _ x.1, if_pos hxb, ← k4, hdone]⟩, by omega⟩
 ·
  refine a_exit ?_
  refine ret0_look Tryz.results185 (by decide) ?_ rfl
  exact Weak.of_eq (osl_eq (by rw [← g3, insOuter.eq_1 _ _ _ x.1, if_neg (by simpa using ht14)]))
theorem hb194 : hasBody Tryz.prog 194 = true := by kernel_rfl
theorem siftDown_c (f : Nat) (hb : hasBody Tryz.prog f = true) (cf : Int → Int → Int) (hc : ∀ x y, ACall Tryz.prog f [.int .i64 x, .int .i64 y] [] (.int .i64 (cf x y)) []) (d : Array Int) (n lo hi first : Nat) (hd : d.size = n) (hab : first + hi ≤ n ∧ lo ≤ n) (hn : n ≤ 1152921504606846976) : ACall Tryz.prog 194 [.rsl (INH, []) 1 0 n none, .int .i64 ((lo : Nat) : Int), .int .i64 ((hi : Nat) : Int), .int .i64 ((first : Nat) : Int), .fn f [] []] [.osl 1 (acells d) n none] (.tup []) [.osl 1 (acells (siftDown (ltc cf) hi first lo d)) n none] := by
 refine ACall.intro Tryz.func194 rfl (N := 82) rfl (by decide) (by simp) ?_
 refine aq ?_
 refine rm (.int _ _) ?_
 refine ra (.int _ _) ?_
 refine r_nil ?_
 refine a_block ?_
 refine a_loop (X := (Nat × Array Int)) (fun x => look [(0, .rsl (INH, []) 1 0 n none), (2, .int .i64 ((hi : Nat) : Int)), (3, .int .i64 ((first : Nat) : Int)), (4, .fn f [] []), (10, .int .i64 ((x.1 : Nat) : Int)), (INH, .osl 1 (acells x.2) n none)]) (fun x => x.1 ≤ n ∧ x.2.size = n ∧ siftDown (ltc cf) hi first x.1 x.2 = siftDown (ltc cf) hi first lo d) (fun x => hi - x.1) (lo, d) (ent_look ⟨wr, wr, wr, wr, wr, wr, trivial⟩) ⟨by omega, hd, rfl⟩ (fun x hG => ?_)
 obtain ⟨g1, g2, g3⟩ := hG
 refine a_block ?_
 refine aq ?_
 refine rm (.int _ _) ?_
 refine rv (v := .int _ _) (v_mul il il (fun _ => by omega)) ?_
 refine rv (v := .int .i64 ((2 * x.1 + 1 : Nat) : Int)) ((v_add il il (fun _ => by omega)).cast (int_eq (by omega))) ?_
 refine ra (.int _ _) ?_
 refine r_nil ?_
 refine a_seq ?_
 refine aq ?_
 refine rm (.int _ _) ?_
 refine rm (.int _ _) ?_
 refine rv (v := .bool _) (v_geq il il) ?_
 refine r_nil ?_
 refine a_cond rfl (fun ht18 => ?_) (fun ht18 => ?_)
 ·
  refine a_exit ?_
  refine ret0_look Tryz.results194 (by decide) ?_ rfl
  exact Weak.of_eq (osl_eq (by rw [← g3, sift_end (by simp at ht18; omega)]))
 ·
  refine a_skip ?_
  refine a_seq ?_
  refine a_seq ?_
  have hch : 2 * x.1 + 1 < hi := (by simp at ht18; omega)
  have hcb := chi_bd (lt := ltc cf) (hi := hi) (first := first) (r := x.1) (d := x.2) hch
  refine a_region_any mixed (by kernel_rfl) ?_
  refine yv (v := .int _ _) (v_move il nf) ?_
  refine yv (v := .int _ _) (v_add il il (fun _ => by omega)) ?_
  refine yv (v := .int _ _) (v_move il nf) ?_
  refine yv (v := .bool _) (v_lss il il) ?_
  refine yv (v := .bool _) (v_move il nf) ?_
  refine yh (v := .fn _ _ _) (v_move il nf).quiet ?_
  refine yh (v := .rsl _ _ _ _ _) (v_move il nf).quiet ?_
  refine yh (v := .int _ _) (v_move il nf).quiet ?_
  refine yh (v := .int _ _) (v_move il nf).quiet ?_
  refine yg (v := .int .i64 ((first + (2 * x.1 + 1) : Nat) : Int)) ((v_add (.inr ⟨_, rfl, fun h => h⟩) (.inr ⟨_, rfl, fun h => h⟩) (fun _ => by omega)).cast (int_eq (by omega))).quiet rfl rfl rfl (by decide) (.inl ⟨_, rfl, rfl⟩) ?_
  refine yg (v := .rp _ _) (v_indexAddr_rsl0 es25 (.inr ⟨_, rfl, fun h => h⟩) (.inr ⟨_, rfl, fun h => h⟩) (fun hA => by simp at hA; omega)).quiet rfl rfl rfl (by decide) (.inl ⟨_, rfl, rfl⟩) ?_
  refine yg (v := .int .i64 x.2[first + (2 * x.1 + 1)]!) (v_load_rp1 ta3 (.inr ⟨_, rfl, fun h => h⟩) rfl (fun _ => by rw [Nat.mul_one]; exact acells_get (by omega)) rfl).quiet rfl rfl rfl (by decide) (.inl ⟨_, rfl, rfl⟩) ?_
  refine yh (v := .rsl _ _ _ _ _) (v_move il nf).quiet ?_
  refine yh (v := .int _ _) (v_move il nf).quiet ?_
  refine yh (v := .int _ _) (v_move il nf).quiet ?_
  refine yg (v := .int _ _) (v_add (.inr ⟨_, rfl, fun h => h⟩) (.inr ⟨_, rfl, fun h => h⟩) (fun _ => by omega)).quiet rfl rfl rfl (by decide) (.inl ⟨_, rfl, rfl⟩) ?_
  refine yg (v := .int .i64 ((first + (2 * x.1 + 1) + 1 : Nat) : Int)) ((v_add (.inr ⟨_, rfl, fun h => h⟩) il (fun _ => by omega)).cast (int_eq (by omega))).quiet rfl rfl rfl (by decide) (.inl ⟨_, rfl, rfl⟩) ?_
  refine yg (v := .rp _ _) (v_indexAddr_rsl0 es25 (.inr ⟨_, rfl, fun h => h⟩) (.inr ⟨_, rfl, fun h => h⟩) (fun hA => by simp at hA; omega)).quiet rfl rfl rfl (by decide) (.inl ⟨_, rfl, rfl⟩) ?_
  refine yg (v := .int .i64 x.2[first + (2 * x.1 + 1) + 1]!) (v_load_rp1 ta3 (.inr ⟨_, rfl, fun h => h⟩) rfl (fun hA => by simp at hA; rw [Nat.mul_one]; exact acells_get (by omega)) rfl).quiet rfl rfl rfl (by decide) (.inl ⟨_, rfl, rfl⟩) ?_
  refine yg (v := .int _ _) (q_clo (vs := [.int _ _, .int _ _]) (args := [.int .i64 _, .int .i64 _]) hb (.inr ⟨_, rfl, fun h => h⟩) ⟨.inr ⟨_, rfl, fun h => h⟩, .inr ⟨_, rfl, fun h => h⟩, trivial⟩ rfl (fun hA => hc _ _) rfl rfl) rfl rfl rfl (by decide) (.inl ⟨_, rfl, rfl⟩) ?_
  refine yg (v := .bool _) (v_lss (.inr ⟨_, rfl, fun h => h⟩) il).quiet rfl rfl rfl (by decide) (.inl ⟨_, rfl, rfl⟩) ?_
  refine yv (v := .bool _) (v_pick (.inl rfl) (.inr ⟨_, rfl, fun h h2 => by simp_all⟩) (.inl rfl)) ?_
  refine y_nil ?_
  refine a_cond rfl (fun ht40 => ?_) (fun ht40 => ?_)
  ·
   refine a_pre (ent_look (L := [(0, .rsl _ _ _ _ _), (2, .int _ _), (3, .int _ _), (4, .fn _ _ _), (10, .int _ _), (11, .int _ _), (INH, .osl _ _ _ _)]) ⟨wr, wr, wr, wr, wr, wr, wr, trivial⟩) ?_
   refine a_region ?_
   refine rm (.int _ _) ?_
   refine rv (v := .int .i64 ((2 * x.1 + 2 : Nat) : Int)) ((v_add il il (fun _ => by omega)).cast (int_eq (by omega))) ?_
   refine ra (.int _ _) ?_
   refine r_nil ?_
   refine a_seq ?_
   refine a_seq ?_
   have hcc : (decide (2 * x.1 + 1 + 1 < hi) && ltc cf x.2[first + (2 * x.1 + 1)]! x.2[first + (2 * x.1 + 1) + 1]!) = (bif decide (((2 * x.1 + 1 : Nat) : Int) + 1 < (hi : Int)) then decide (cf x.2[first + (2 * x.1 + 1)]! x.2[first + (2 * x.1 + 1) + 1]! < 0) else false) := (by rw [decide_eq_decide.2 (show 2 * x.1 + 1 + 1 < hi ↔ ((2 * x.1 + 1 : Nat) : Int) + 1 < (hi : Int) by omega)]; cases decide (((2 * x.1 + 1 : Nat) : Int) + 1 < (hi : Int)) <;> rfl)
   refine a_pre (ent_eq (t := 11) (v' := .int .i64 (((chi (ltc cf) hi first x.1 x.2) : Nat) : Int)) (Weak.of_eq (int_eq (by unfold chi; first | (rw [if_pos (by rw [hcc]; exact ht40)]; done) | (rw [if_neg (by rw [hcc, ht40]; decide)])))) ) ?_
   have hsw := sift_eq (lt := ltc cf) (hi := hi) (first := first) (r := x.1) (d := x.2) hch
   refine a_region_any mixed (by kernel_rfl) ?_
   refine yv (v := .fn _ _ _) (v_mv rfl) ?_
   refine yv (v := .rsl _ _ _ _ _) (v_move il nf) ?_
   refine yv (v := .int _ _) (v_move il nf) ?_
   refine yv (v := .int _ _) (v_move il nf) ?_
   refine yv (v := .int .i64 ((first + x.1 : Nat) : Int)) ((v_add il il (fun _ => by omega)).cast (int_eq (by omega))) ?_
   refine yv (v := .rp _ _) (v_indexAddr_rsl0 es25 il il (fun _ => by omega)) ?_
   refine yv (v := .int .i64 x.2[first + x.1]!) (v_load_rp1 ta3 il rfl (fun _ => by rw [Nat.mul_one]; exact acells_get (by omega)) rfl) ?_
   refine yv (v := .rsl _ _ _ _ _) (v_move il nf) ?_
   refine yv (v := .int _ _) (v_move il nf) ?_
   refine yv (v := .int _ _) (v_move il nf) ?_
   refine yv (v := .int .i64 ((first + (chi (ltc cf) hi first x.1 x.2) : Nat) : Int)) ((v_add il il (fun _ => by omega)).cast (int_eq (by omega))) ?_
   refine yv (v := .rp _ _) (v_indexAddr_rsl0 es25 il il (fun _ => by omega)) ?_
   refine yv (v := .int .i64 x.2[first + (chi (ltc cf) hi first x.1 x.2)]!) (v_load_rp1 ta3 il rfl (fun _ => by rw [Nat.mul_one]; exact acells_get (by omega)) rfl) ?_
   refine y_new (v := .int _ _) (q_clo (vs := [.int _ _, .int _ _]) (args := [.int .i64 _, .int .i64 _]) hb (.inl rfl) ⟨.inl rfl, .inl rfl, trivial⟩ rfl (fun hA => hc _ _) rfl rfl) rfl rfl (by decide) (by kernel_rfl) ?_
   refine yv (v := .bool _) (v_lss il il) ?_
   refine yv (v := .bool _) (v_not il) ?_
   refine y_nil ?_
   refine a_cond rfl (fun ht58 => ?_) (fun ht58 => ?_)
   ·
    refine a_ret ?_
    refine ret0_look Tryz.results194 (by decide) ?_ rfl
    exact Weak.of_eq (osl_eq (by rw [← g3, hsw, if_neg (by simpa [ltc] using ht58)]))
   ·
    refine a_skip ?_
    refine a_seq ?_
    have hl : ltc cf x.2[first + x.1]! x.2[first + (chi (ltc cf) hi first x.1 x.2)]! = true := (by simpa [ltc] using ht58)
    have hp1 : (first + x.1) * 1 + 1 ≤ (acells x.2).length := (by rw [acells_length]; omega)
    have hp2 : (first + (chi (ltc cf) hi first x.1 x.2)) * 1 + 1 ≤ ((acells x.2).set ((first + x.1) * 1) (.int .i64 x.2[(first + (chi (ltc cf) hi first x.1 x.2))]!)).length := (by rw [List.length_set, acells_length]; omega)
    have hset : ((acells x.2).set ((first + x.1) * 1) (.int .i64 x.2[(first + (chi (ltc cf) hi first x.1 x.2))]!)).set ((first + (chi (ltc cf) hi first x.1 x.2)) * 1) (.int .i64 x.2[(first + x.1)]!) = acells (swp x.2 (first + x.1) (first + (chi (ltc cf) hi first x.1 x.2))) := (by rw [Nat.mul_one, Nat.mul_one]; exact acells_swp _ _ _)
    refine a_region_w [(59, true), (60, true), (61, true), (62, true), (63, true), (64, true), (65, true), (66, true), (67, true), (68, true), (69, true), (70, true), (71, true), (72, true), (73, true), (74, true), (75, true), (76, true), (77, true), (78, true), (79, true), (INH, false), (80, true), (INH, false)] mixed (by kernel_rfl) ?_
    refine wv (v := .rsl _ _ _ _ _) (v_move il nf) ?_
    refine wv (v := .int _ _) (v_move il nf) ?_
    refine wv (v := .int _ _) (v_move il nf) ?_
    refine wv (v := .int .i64 ((first + x.1 : Nat) : Int)) ((v_add il il (fun _ => by omega)).cast (int_eq (by omega))) ?_
    refine wv (v := .rsl _ _ _ _ _) (v_move il nf) ?_
    refine wv (v := .int _ _) (v_move il nf) ?_
    refine wv (v := .int _ _) (v_move il nf) ?_
    refine wv (v := .int .i64 ((first + (chi (ltc cf) hi first x.1 x.2) : Nat) : Int)) ((v_add il il (fun _ => by omega)).cast (int_eq (by omega))) ?_
    refine wv (v := .rsl _ _ _ _ _) (v_move il nf) ?_
    refine wv (v := .int _ _) (v_move il nf) ?_
    refine wv (v := .int _ _) (v_move il nf) ?_
    refine wv (v := .int .i64 ((first + (chi (ltc cf) hi first x.1 x.2) : Nat) : Int)) ((v_add il il (fun _ => by omega)).cast (int_eq (by omega))) ?_
    refine wv (v := .rp _ _) (v_indexAddr_rsl0 es25 il il (fun _ => by omega)) ?_
    refine wv (v := .int .i64 x.2[first + (chi (ltc cf) hi first x.1 x.2)]!) (v_load_rp1 ta3 il rfl (fun _ => by rw [Nat.mul_one]; exact acells_get (by omega)) rfl) ?_
    refine wv (v := .rsl _ _ _ _ _) (v_move il nf) ?_
    refine wv (v := .int _ _) (v_move il nf) ?_
    refine wv (v := .int _ _) (v_move il nf) ?_
    refine wv (v := .int .i64 ((first + x.1 : Nat) : Int)) ((v_add il il (fun _ => by omega)).cast (int_eq (by omega))) ?_
    refine wv (v := .rp _ _) (v_indexAddr_rsl0 es25 il il (fun _ => by omega)) ?_
    refine wv (v := .int .i64 x.2[first + x.1]!) (v_load_rp1 ta3 il rfl (fun _ => by rw [Nat.mul_one]; exact acells_get (by omega)) rfl) ?_
    refine wv (v := .rp _ _) (v_indexAddr_rsl0 es25 il il (fun _ => by omega)) ?_
    refine w_store (v := .int _ _) (y' := .osl _ _ _ _) rfl rfl rfl ta3 (.inl rfl) (.inl rfl) rfl rfl rfl rfl rfl rfl hp1 (by decide) rfl rfl rfl (by kernel_rfl) ?_
    refine wv (v := .rp _ _) (v_indexAddr_rsl0 es25 il il (fun _ => by omega)) ?_
    refine w_store (v := .int _ _) (y' := .osl _ _ _ _) rfl rfl rfl ta3 (.inl rfl) (.inl rfl) rfl rfl rfl rfl rfl rfl hp2 (by decide) rfl (congrArg (fun c => AV.osl 1 c n none) hset) rfl (by kernel_rfl) ?_
    refine w_nil ?_
    refine a_pre (ent_look (L := [(0, .rsl _ _ _ _ _), (2, .int _ _), (3, .int _ _), (4, .fn _ _ _), (10, .int _ _), (11, .int _ _), (INH, .osl _ _ _ _)]) ⟨wr, wr, wr, wr, wr, wr, wr, trivial⟩) ?_
    refine a_region ?_
    refine rm (.int _ _) ?_
    refine ra (.int _ _) ?_
    refine r_nil ?_
    refine ⟨((chi (ltc cf) hi first x.1 x.2), swp x.2 (first + x.1) (first + (chi (ltc cf) hi first x.1 x.2))), ent_look ⟨wr, wr, wr, wr, wr, wr, trivial⟩, ⟨by omega, by rw [swp_size]; exact g2, by rw [← g3, sift_eq (r := x.1) (by omega), if_pos hl]⟩, by dsimp only; omega⟩
  ·
   refine a_skip ?_
   refine a_seq ?_
   refine a_seq ?_
   refine a_pre (ent_look (L := [(0, .rsl _ _ _ _ _), (2, .int _ _), (3, .int _ _), (4, .fn _ _ _), (10, .int _ _), (11, .int _ _), (INH, .osl _ _ _ _)]) ⟨wr, wr, wr, wr, wr, wr, wr, trivial⟩) ?_
   have hcc : (decide (2 * x.1 + 1 + 1 < hi) && ltc cf x.2[first + (2 * x.1 + 1)]! x.2[first + (2 * x.1 + 1) + 1]!) = (bif decide (((2 * x.1 + 1 : Nat) : Int) + 1 < (hi : Int)) then decide (cf x.2[first + (2 * x.1 + 1)]! x.2[first + (2 * x.1 + 1) + 1]! < 0) else false) := (by rw [decide_eq_decide.2 (show 2 * x.1 + 1 + 1 < hi ↔ ((2 * x.1 + 1 : Nat) : Int) + 1 < (hi : Int) by omega)]; cases decide (((2 * x.1 + 1 : Nat) : Int) + 1 < (hi : Int)) <;> rfl)
   refine a_pre (ent_eq (t := 11) (v' := .int .i64 (((chi (ltc cf) hi first x.1 x.2) : Nat) : Int)) (Weak.of_eq (int_eq (by unfold chi; first | (rw [if_pos (by rw [hcc]; exact ht40)]; done) | (rw [if_neg (by rw [hcc, ht40]; decide)])))) ) ?_
   have hsw := sift_eq (lt := ltc cf) (hi := hi) (first := first) (r := x.1) (d := x.2) hch
   refine a_region_any mixed (by kernel_rfl) ?_
   refine yv (v := .fn _ _ _) (v_mv rfl) ?_
   refine yv (v := .rsl _ _ _ _ _) (v_move il nf) ?_
   refine yv (v := .int _ _) (v_move il nf) ?_
   refine yv (v := .int _ _) (v_move il nf) ?_
   refine yv (v := .int .i64 ((first + x.1 : Nat) : Int)) ((v_add il il (fun _ => by omega)).cast (int_eq (by omega))) ?_
   refine yv (v := .rp _ _) (v_indexAddr_rsl0 es25 il il (fun _ => by omega)) ?_
   refine yv (v := .int .i64 x.2[first + x.1]!) (v_load_rp1 ta3 il rfl (fun _ => by rw [Nat.mul_one]; exact acells_get (by omega)) rfl) ?_
   refine yv (v := .rsl _ _ _ _ _) (v_move il nf) ?_
   refine yv (v := .int _ _) (v_move il nf) ?_
   refine yv (v := .int _ _) (v_move il nf) ?_
   refine yv (v := .int .i64 ((first + (chi (ltc cf) hi first x.1 x.2) : Nat) : Int)) ((v_add il il (fun _ => by omega)).cast (int_eq (by omega))) ?_
   refine yv (v := .rp _ _) (v_indexAddr_rsl0 es25 il il (fun _ => by omega)) ?_
   refine yv (v := .int .i64 x.2[first + (chi (ltc cf) hi first x.1 x.2)]!) (v_load_rp1 ta3 il rfl (fun _ => by rw [Nat.mul_one]; exact acells_get (by omega)) rfl) ?_
   refine y_new (v := .int _ _) (q_clo (vs := [.int _ _, .int _ _]) (args := [.int .i64 _, .int .i64 _]) hb (.inl rfl) ⟨.inl rfl, .inl rfl, trivial⟩ rfl (fun hA => hc _ _) rfl rfl) rfl rfl (by decide) (by kernel_rfl) ?_
   refine yv (v := .bool _) (v_lss il il) ?_
   refine yv (v := .bool _) (v_not il) ?_
   refine y_nil ?_
   refine a_cond rfl (fun ht58 => ?_) (fun ht58 => ?_)
   ·
    refine a_ret ?_
    refine ret0_look Tryz.results194 (by decide) ?_ rfl
    exact Weak.of_eq (osl_eq (by rw [← g3, hsw, if_neg (by simpa [ltc] using ht58)]))
   ·
    refine a_skip ?_
    refine a_seq ?_
    have hl : ltc cf x.2[first + x.1]! x.2[first + (chi (ltc cf) hi first x.1 x.2)]! = true := (by simpa [ltc] using ht58)
    have hp1 : (first + x.1) * 1 + 1 ≤ (acells x.2).length := (by rw [acells_length]; omega)
    have hp2 : (first + (chi (ltc cf) hi first x.1 x.2)) * 1 + 1 ≤ ((acells x.2).set ((first + x.1) * 1) (.int .i64 x.2[(first + (chi (ltc cf) hi first x.1 x.2))]!)).length := (by rw [List.length_set, acells_length]; omega)
    have hset : ((acells x.2).set ((first + x.1) * 1) (.int .i64 x.2[(first + (chi (ltc cf) hi first x.1 x.2))]!)).set ((first + (chi (ltc cf) hi first x.1 x.2)) * 1) (.int .i64 x.2[(first + x.1)]!) = acells (swp x.2 (first + x.1) (first + (chi (ltc cf) hi first x.1 x.2))) := (by rw [Nat.mul_one, Nat.mul_one]; exact acells_swp _ _ _)
    refine a_region_w [(59, true), (60, true), (61, true), (62, true), (63, true), (64, true), (65, true), (66, true), (67, true), (68, true), (69, true), (70, true), (71, true), (72, true), (73, true), (74, true), (75, true), (76, true), (77, true), (78, true), (79, true), (INH, false), (80, true), (INH, false)] mixed (by kernel_rfl) ?_
    refine wv (v := .rsl _ _ _ _ _) (v_move il nf) ?_
    refine wv (v := .int _ _) (v_move il nf) ?_
    refine wv (v := .int _ _) (v_move il nf) ?_
    refine wv (v := .int .i64 ((first + x.1 : Nat) : Int)) ((v_add il il (fun _ => by omega)).cast (int_eq (by omega))) ?_
    refine wv (v := .rsl _ _ _ _ _) (v_move il nf) ?_
    refine wv (v := .int _ _) (v_move il nf) ?_
    refine wv (v := .int _ _) (v_move il nf) ?_
    refine wv (v := .int .i64 ((first + (chi (ltc cf) hi first x.1 x.2) : Nat) : Int)) ((v_add il il (fun _ => by omega)).cast (int_eq (by omega))) ?_
    refine wv (v := .rsl _ _ _ _ _) (v_move il nf) ?_
    refine wv (v := .int _ _) (v_move il nf) ?_
    refine wv (v := .int _ _) (v_move il nf) ?_
    refine wv (v := .int .i64 ((first + (chi (ltc cf) hi first x.1 x.2) : Nat) : Int)) ((v_add il il (fun _ => by omega)).cast (int_eq (by omega))) ?_
    refine wv (v := .rp _ _) (v_indexAddr_rsl0 es25 il il (fun _ => by omega)) ?_
    refine wv (v := .int .i64 x.2[first + (chi (ltc cf) hi first x.1 x.2)]!) (v_load_rp1 ta3 il rfl (fun _ => by rw [Nat.mul_one]; exact acells_get (by omega)) rfl) ?_
    refine wv (v := .rsl _ _ _ _ _) (v_move il nf) ?_
    refine wv (v := .int _ _) (v_move il nf) ?_
    refine wv (v := .int _ _) (v_move il nf) ?_
    refine wv (v := .int .i64 ((first + x.1 : Nat) : Int)) ((v_add il il (fun _ => by omega)).cast (int_eq (by omega))) ?_
    refine wv (v := .rp _ _) (v_indexAddr_rsl0 es25 il il (fun _ => by omega)) ?_
    refine wv (v := .int .i64 x.2[first + x.1]!) (v_load_rp1 ta3 il rfl (fun _ => by rw [Nat.mul_one]; exact acells_get (by omega)) rfl) ?_
    refine wv (v := .rp _ _) (v_indexAddr_rsl0 es25 il il (fun _ => by omega)) ?_
    refine w_store (v := .int _ _) (y' := .osl _ _ _ _) rfl rfl rfl ta3 (.inl rfl) (.inl rfl) rfl rfl rfl rfl rfl rfl hp1 (by decide) rfl rfl rfl (by kernel_rfl) ?_
    refine wv (v := .rp _ _) (v_indexAddr_rsl0 es25 il il (fun _ => by omega)) ?_
    refine w_store (v := .int _ _) (y' := .osl _ _ _ _) rfl rfl rfl ta3 (.inl rfl) (.inl rfl) rfl rfl rfl rfl rfl rfl hp2 (by decide) rfl (congrArg (fun c => AV.osl 1 c n none) hset) rfl (by kernel_rfl) ?_
    refine w_nil ?_
    refine a_pre (ent_look (L := [(0, .rsl _ _ _ _ _), (2, .int _ _), (3, .int _ _), (4, .fn _ _ _), (10, .int _ _), (11, .int _ _), (INH, .osl _ _ _ _)]) ⟨wr, wr, wr, wr, wr, wr, wr, trivial⟩) ?_
    refine a_region ?_
    refine rm (.int _ _) ?_
    refine ra (.int _ _) ?_
    refine r_nil ?_
    refine ⟨((chi (ltc cf) hi first x.1 x.2), swp x.2 (first + x.1) (first + (chi (ltc cf) hi first x.1 x.2))), ent_look ⟨wr, wr, wr, wr, wr, wr, trivial⟩, ⟨by omega, by rw [swp_size]; exact g2, by rw [← g3, sift_eq (r := x.1) (by omega), if_pos hl]⟩, by dsimp only; omega⟩
theorem reverse_c (f : Nat) (d : Array Int) (n a b : Nat) (hd : d.size = n) (hab : a < b ∧ b ≤ n) (hn : n ≤ 1152921504606846976) : ACall Tryz.prog 189 [.rsl (INH, []) 1 0 n none, .int .i64 ((a : Nat) : Int), .int .i64 ((b : Nat) : Int), .fn f [] []] [.osl 1 (acells d) n none] (.tup []) [.osl 1 (acells (reverseRange d a b)) n none] := by
 refine ACall.intro Tryz.func189 rfl (N := 34) rfl (by decide) (by simp) ?_
 refine aq ?_
 refine rm (.int _ _) ?_
 refine ra (.int _ _) ?_
 refine r_nil ?_
 refine aq ?_
 refine rm (.int _ _) ?_
 refine rv (v := .int _ _) (v_sub il il (fun _ => by omega)) ?_
 refine ra (.int _ _) ?_
 refine r_nil ?_
 refine a_block ?_
 refine a_loop (X := (Nat × Nat × Array Int)) (fun x => look [(0, .rsl (INH, []) 1 0 n none), (8, .int .i64 ((x.1 : Nat) : Int)), (9, .int .i64 ((x.2.1 : Nat) : Int)), (INH, .osl 1 (acells x.2.2) n none)]) (fun x => x.1 ≤ n ∧ x.2.1 < n ∧ x.2.2.size = n ∧ reverseLoop x.1 x.2.1 x.2.2 = reverseRange d a b) (fun x => x.2.1 - x.1) (a, b - 1, d) (ent_look ⟨wr, wr, Weak.of_eq (int_eq (by dsimp only; omega)), wr, trivial⟩) ⟨by omega, by dsimp only; omega, hd, rfl⟩ (fun x hG => ?_)
 obtain ⟨g1, g2, g3, g4⟩ := hG
 refine a_seq ?_
 refine aq ?_
 refine rm (.int _ _) ?_
 refine rm (.int _ _) ?_
 refine rv (v := .bool _) (v_lss il il) ?_
 refine r_nil ?_
 refine a_cond rfl (fun ht15 => ?_) (fun ht15 => ?_)
 ·
  refine a_skip ?_
  refine a_block ?_
  refine a_seq ?_
  have hij : x.1 < x.2.1 := (by simpa using ht15)
  have hp1 : x.1 * 1 + 1 ≤ (acells x.2.2).length := (by rw [acells_length]; omega)
  have hp2 : x.2.1 * 1 + 1 ≤ ((acells x.2.2).set (x.1 * 1) (.int .i64 x.2.2[x.2.1]!)).length := (by rw [List.length_set, acells_length]; omega)
  have hset : ((acells x.2.2).set (x.1 * 1) (.int .i64 x.2.2[x.2.1]!)).set (x.2.1 * 1) (.int .i64 x.2.2[x.1]!) = acells (swp x.2.2 x.1 x.2.1) := (by rw [Nat.mul_one, Nat.mul_one]; exact acells_swp _ _ _)
  refine a_region_w [(16, true), (17, true), (18, true), (19, true), (20, true), (21, true), (22, true), (23, true), (24, true), (25, true), (26, true), (27, true), (28, true), (INH, false), (29, true), (INH, false)] mixed (by kernel_rfl) ?_
  refine wv (v := .rsl _ _ _ _ _) (v_move il nf) ?_
  refine wv (v := .int _ _) (v_move il nf) ?_
  refine wv (v := .rsl _ _ _ _ _) (v_move il nf) ?_
  refine wv (v := .int _ _) (v_move il nf) ?_
  refine wv (v := .rsl _ _ _ _ _) (v_move il nf) ?_
  refine wv (v := .int _ _) (v_move il nf) ?_
  refine wv (v := .rp _ _) (v_indexAddr_rsl0 es25 il il (fun _ => by omega)) ?_
  refine wv (v := .int .i64 x.2.2[x.2.1]!) (v_load_rp1 ta3 il rfl (fun _ => by rw [Nat.mul_one]; exact acells_get (by omega)) rfl) ?_
  refine wv (v := .rsl _ _ _ _ _) (v_move il nf) ?_
  refine wv (v := .int _ _) (v_move il nf) ?_
  refine wv (v := .rp _ _) (v_indexAddr_rsl0 es25 il il (fun _ => by omega)) ?_
  refine wv (v := .int .i64 x.2.2[x.1]!) (v_load_rp1 ta3 il rfl (fun _ => by rw [Nat.mul_one]; exact acells_get (by omega)) rfl) ?_
  refine wv (v := .rp _ _) (v_indexAddr_rsl0 es25 il il (fun _ => by omega)) ?_
  refine w_store (v := .int _ _) (y' := .osl _ _ _ _) rfl rfl rfl ta3 (.inl rfl) (.inl rfl) rfl rfl rfl rfl rfl rfl hp1 (by decide) rfl rfl rfl (by kernel_rfl) ?_
  refine wv (v := .rp _ _) (v_indexAddr_rsl0 es25 il il (fun _ => by omega)) ?_
  refine w_store (v := .int _ _) (y' := .osl _ _ _ _) rfl rfl rfl ta3 (.inl rfl) (.inl rfl) rfl rfl rfl rfl rfl rfl hp2 (by decide) rfl (congrArg (fun c => AV.osl 1 c n none) hset) rfl (by kernel_rfl) ?_
  refine w_nil ?_
  refine aq ?_
  refine rm (.int _ _) ?_
  refine rv (v := .int _ _) (v_add il il (fun _ => by omega)) ?_
  refine ra (.int _ _) ?_
  refine r_nil ?_
  refine a_region ?_
  refine rm (.int _ _) ?_
  refine rv (v := .int _ _) (v_sub il il (fun _ => by omega)) ?_
  refine ra (.int _ _) ?_
  refine r_nil ?_
  refine ⟨(x.1 + 1, x.2.1 - 1, swp x.2.2 x.1 x.2.1), ent_look ⟨wr, Weak.of_eq (int_eq (by omega)), Weak.of_eq (int_eq (by dsimp only; omega)), wr, trivial⟩, ⟨by dsimp only; omega, by dsimp only; omega, by rw [swp_size]; exact g3, by rw [← g4, reverse_more (i := x.1) hij]⟩, by dsimp only; omega⟩
 ·
  refine a_exit ?_
  refine ret0_look Tryz.results189 (by decide) ?_ rfl
  exact Weak.of_eq (osl_eq (by rw [← g4, reverse_end (by simpa using ht15)]))
theorem heapSort_c (f : Nat) (hb : hasBody Tryz.prog f = true) (cf : Int → Int → Int) (hc : ∀ x y, ACall Tryz.prog f [.int .i64 x, .int .i64 y] [] (.int .i64 (cf x y)) []) (d : Array Int) (n a b : Nat) (hd : d.size = n) (hab : a < b ∧ b ≤ n) (hn : n ≤ 1152921504606846976) : ACall Tryz.prog 186 [.rsl (INH, []) 1 0 n none, .int .i64 ((a : Nat) : Int), .int .i64 ((b : Nat) : Int), .fn f [] []] [.osl 1 (acells d) n none] (.tup []) [.osl 1 (acells (heapSort (ltc cf) d a b)) n none] := by
 refine ACall.intro Tryz.func186 rfl (N := 60) rfl (by decide) (by simp) ?_
 refine aq ?_
 refine rm (.int _ _) ?_
 refine ra (.int _ _) ?_
 refine r_nil ?_
 refine aq ?_
 refine ra (.int _ _) ?_
 refine r_nil ?_
 refine aq ?_
 refine rm (.int _ _) ?_
 refine rm (.int _ _) ?_
 refine rv (v := .int .i64 ((b - a : Nat) : Int)) ((v_sub il il (fun _ => by omega)).cast (int_eq (by omega))) ?_
 refine ra (.int _ _) ?_
 refine r_nil ?_
 refine a_seq ?_
 refine aq ?_
 refine rm (.int _ _) ?_
 refine rv (v := .int _ _) (v_sub il il (fun _ => by omega)) ?_
 refine rv (v := .int _ _) (v_quo il il (fun _ => by omega)) ?_
 refine ra (.int _ _) ?_
 refine r_nil ?_
 refine a_block ?_
 refine a_loop (X := (Nat × Array Int)) (fun x => look [(0, .rsl (INH, []) 1 0 n none), (3, .fn f [] []), (8, .int .i64 ((a : Nat) : Int)), (9, .int .i64 0), (10, .int .i64 ((b - a : Nat) : Int)), (11, .int .i64 ((x.1 : Nat) - 1 : Int)), (INH, .osl 1 (acells x.2) n none)]) (fun x => x.1 ≤ n ∧ x.2.size = n ∧ heapBuild (ltc cf) (b - a) a x.1 x.2 = heapBuild (ltc cf) (b - a) a ((b - a - 1) / 2 + 1) d) (fun x => x.1) ((b - a - 1) / 2 + 1, d) (ent_look ⟨wr, wr, wr, wr, wr, Weak.of_eq (int_eq (by omega)), wr, trivial⟩) ⟨by dsimp only; omega, hd, rfl⟩ (fun x hG => ?_)
 obtain ⟨g1, g2, g3⟩ := hG
 refine a_seq ?_
 refine aq ?_
 refine rm (.int _ _) ?_
 refine rv (v := .bool _) (v_geq il il) ?_
 refine r_nil ?_
 refine a_cond rfl (fun ht21 => ?_) (fun ht21 => ?_)
 ·
  refine a_skip ?_
  refine a_seq ?_
  refine a_block ?_
  have hx1 : 1 ≤ x.1 := (by simp at ht21; omega)
  refine a_region ?_
  refine rm (.rsl _ _ _ _ _) ?_
  refine rv (v := .int .i64 ((x.1 - 1 : Nat) : Int)) ((v_move il nf).cast (int_eq (by omega))) ?_
  refine rm (.int _ _) ?_
  refine rm (.int _ _) ?_
  refine rv (v := .fn _ _ _) (v_mv rfl) ?_
  refine r_step rfl (o_callIOk (q := (INH, [])) (vs := [.rsl _ _ _ _ _, .int _ _, .int _ _, .int _ _, .fn _ _ _]) (args := [.rsl (INH, []) _ _ _ _, .int .i64 _, .int .i64 _, .int .i64 _, .fn _ _ _]) (x0 := .osl _ _ _ _) (x1 := .osl _ _ _ _) (res := .tup []) rfl hb194 rfl (by decide) ⟨.inl rfl, .inl rfl, .inl rfl, .inl rfl, .inl rfl, trivial⟩ rfl rfl (siftDown_c f hb cf hc x.2 n (x.1 - 1) (b - a) a g2 (by omega) hn) (by simp [stays]; omega) rfl rfl rfl (ac_noSh _) (ac_noRef _) (Nat.le_of_ble_eq_true rfl) (by decide) rfl) ?_
  refine r_nil ?_
  refine a_region ?_
  refine rm (.int _ _) ?_
  refine rv (v := .int _ _) (v_sub il il (fun _ => by omega)) ?_
  refine ra (.int _ _) ?_
  refine r_nil ?_
  refine ⟨(x.1 - 1, siftDown (ltc cf) (b - a) a (x.1 - 1) x.2), ent_look ⟨wr, wr, wr, wr, wr, Weak.of_eq (int_eq (by omega)), wr, trivial⟩, ⟨by dsimp only; omega, by rw [sift_size]; exact g2, by rw [← g3]; exact heapBuild_more (by omega)⟩, by dsimp only; omega⟩
 ·
  refine a_exit ?_
  refine aq ?_
  refine rm (.int _ _) ?_
  refine rv (v := .int _ _) (v_sub il il (fun _ => by omega)) ?_
  refine ra (.int _ _) ?_
  refine r_nil ?_
  refine a_block ?_
  refine a_loop (X := (Nat × Array Int)) (fun y => look [(0, .rsl (INH, []) 1 0 n none), (3, .fn f [] []), (8, .int .i64 ((a : Nat) : Int)), (9, .int .i64 0), (12, .int .i64 ((y.1 : Nat) - 1 : Int)), (INH, .osl 1 (acells y.2) n none)]) (fun y => y.1 ≤ b - a ∧ y.2.size = n ∧ heapPop (ltc cf) a y.1 y.2 = heapSort (ltc cf) d a b) (fun y => y.1) (b - a, x.2) (ent_look ⟨wr, wr, wr, wr, Weak.of_eq (int_eq (by omega)), wr, trivial⟩) ⟨Nat.le_refl _, g2, by unfold heapSort; rw [← g3, show x.1 = 0 by simp at ht21; omega]; rfl⟩ (fun y hG => ?_)
  obtain ⟨k1, k2, k3⟩ := hG
  refine a_seq ?_
  refine aq ?_
  refine rm (.int _ _) ?_
  refine rv (v := .bool _) (v_geq il il) ?_
  refine r_nil ?_
  refine a_cond rfl (fun ht33 => ?_) (fun ht33 => ?_)
  ·
   refine a_skip ?_
   refine a_seq ?_
   refine a_block ?_
   refine a_seq ?_
   have hy1 : 1 ≤ y.1 := (by simp at ht33; omega)
   have hp1 : a * 1 + 1 ≤ (acells y.2).length := (by rw [acells_length]; omega)
   have hp2 : (a + (y.1 - 1)) * 1 + 1 ≤ ((acells y.2).set (a * 1) (.int .i64 y.2[(a + (y.1 - 1))]!)).length := (by rw [List.length_set, acells_length]; omega)
   have hset : ((acells y.2).set (a * 1) (.int .i64 y.2[(a + (y.1 - 1))]!)).set ((a + (y.1 - 1)) * 1) (.int .i64 y.2[a]!) = acells (swp y.2 a (a + (y.1 - 1))) := (by rw [Nat.mul_one, Nat.mul_one]; exact acells_swp _ _ _)
   refine a_region_w [(36, true), (37, true), (38, true), (39, true), (40, true), (41, true), (42, true), (43, true), (44, true), (45, true), (46, true), (47, true), (48, true), (49, true), (50, true), (51, true), (52, true), (INH, false), (53, true), (INH, false)] mixed (by kernel_rfl) ?_
   refine wv (v := .rsl _ _ _ _ _) (v_move il nf) ?_
   refine wv (v := .int _ _) (v_move il nf) ?_
   refine wv (v := .rsl _ _ _ _ _) (v_move il nf) ?_
   refine wv (v := .int _ _) (v_move il nf) ?_
   refine wv (v := .int _ _) (v_move il nf) ?_
   refine wv (v := .int .i64 ((a + (y.1 - 1) : Nat) : Int)) ((v_add il il (fun _ => by omega)).cast (int_eq (by omega))) ?_
   refine wv (v := .rsl _ _ _ _ _) (v_move il nf) ?_
   refine wv (v := .int _ _) (v_move il nf) ?_
   refine wv (v := .int _ _) (v_move il nf) ?_
   refine wv (v := .int .i64 ((a + (y.1 - 1) : Nat) : Int)) ((v_add il il (fun _ => by omega)).cast (int_eq (by omega))) ?_
   refine wv (v := .rp _ _) (v_indexAddr_rsl0 es25 il il (fun _ => by omega)) ?_
   refine wv (v := .int .i64 y.2[a + (y.1 - 1)]!) (v_load_rp1 ta3 il rfl (fun _ => by rw [Nat.mul_one]; exact acells_get (by omega)) rfl) ?_
   refine wv (v := .rsl _ _ _ _ _) (v_move il nf) ?_
   refine wv (v := .int _ _) (v_move il nf) ?_
   refine wv (v := .rp _ _) (v_indexAddr_rsl0 es25 il il (fun _ => by omega)) ?_
   refine wv (v := .int .i64 y.2[a]!) (v_load_rp1 ta3 il rfl (fun _ => by rw [Nat.mul_one]; exact acells_get (by omega)) rfl) ?_
   refine wv (v := .rp _ _) (v_indexAddr_rsl0 es25 il il (fun _ => by omega)) ?_
   refine w_store (v := .int _ _) (y' := .osl _ _ _ _) rfl rfl rfl ta3 (.inl rfl) (.inl rfl) rfl rfl rfl rfl rfl rfl hp1 (by decide) rfl rfl rfl (by kernel_rfl) ?_
   refine wv (v := .rp _ _) (v_indexAddr_rsl0 es25 il il (fun _ => by omega)) ?_
   refine w_store (v := .int _ _) (y' := .osl _ _ _ _) rfl rfl rfl ta3 (.inl rfl) (.inl rfl) rfl rfl rfl rfl rfl rfl hp2 (by decide) rfl (congrArg (fun c => AV.osl 1 c n none) hset) rfl (by kernel_rfl) ?_
   refine w_nil ?_
   refine a_region ?_
   refine rm (.rsl _ _ _ _ _) ?_
   refine rv (v := .int .i64 ((0 : Nat) : Int)) ((v_move il nf).cast (int_eq (by omega))) ?_
   refine rv (v := .int .i64 ((y.1 - 1 : Nat) : Int)) ((v_move il nf).cast (int_eq (by omega))) ?_
   refine rm (.int _ _) ?_
   refine rv (v := .fn _ _ _) (v_mv rfl) ?_
   refine r_step rfl (o_callIOk (q := (INH, [])) (vs := [.rsl _ _ _ _ _, .int _ _, .int _ _, .int _ _, .fn _ _ _]) (args := [.rsl (INH, []) _ _ _ _, .int .i64 _, .int .i64 _, .int .i64 _, .fn _ _ _]) (x0 := .osl _ _ _ _) (x1 := .osl _ _ _ _) (res := .tup []) rfl hb194 rfl (by decide) ⟨.inl rfl, .inl rfl, .inl rfl, .inl rfl, .inl rfl, trivial⟩ rfl rfl (siftDown_c f hb cf hc _ n 0 (y.1 - 1) a (by rw [swp_size]; exact k2) (by omega) hn) (by simp [stays]; omega) rfl rfl rfl (ac_noSh _) (ac_noRef _) (Nat.le_of_ble_eq_true rfl) (by decide) rfl) ?_
   refine r_nil ?_
   refine a_pre (ent_look (L := [(0, .rsl _ _ _ _ _), (3, .fn _ _ _), (8, .int _ _), (9, .int _ _), (12, .int _ _), (INH, .osl _ _ _ _)]) ⟨wr, wr, wr, wr, wr, wr, trivial⟩) ?_
   refine a_region ?_
   refine rm (.int _ _) ?_
   refine rv (v := .int _ _) (v_sub il il (fun _ => by omega)) ?_
   refine ra (.int _ _) ?_
   refine r_nil ?_
   refine ⟨(y.1 - 1, siftDown (ltc cf) (y.1 - 1) a 0 (swp y.2 a (a + (y.1 - 1)))), ent_look ⟨wr, wr, wr, wr, Weak.of_eq (int_eq (by omega)), wr, trivial⟩, ⟨by dsimp only; omega, by rw [sift_size, swp_size]; exact k2, by rw [← k3]; exact heapPop_more (by omega)⟩, by dsimp only; omega⟩
  ·
   refine a_exit ?_
   refine ret0_look Tryz.results186 (by decide) ?_ rfl
   exact Weak.of_eq (osl_eq (by rw [← k3, show y.1 = 0 by simp at ht33; omega]; rfl))
theorem partEq_c (f : Nat) (hb : hasBody Tryz.prog f = true) (cf : Int → Int → Int) (hc : ∀ x y, ACall Tryz.prog f [.int .i64 x, .int .i64 y] [] (.int .i64 (cf x y)) []) (d : Array Int) (n a b pivot : Nat) (hd : d.size = n) (hab : a ≤ pivot ∧ pivot < b ∧ b ≤ n) (hn : n ≤ 1152921504606846976) : ACall Tryz.prog 191 [.rsl (INH, []) 1 0 n none, .int .i64 ((a : Nat) : Int), .int .i64 ((b : Nat) : Int), .int .i64 ((pivot : Nat) : Int), .fn f [] []] [.osl 1 (acells d) n none] (.int .i64 (((partitionEqual (ltc cf) d a b pivot).1 : Nat) : Int)) [.osl 1 (acells (partitionEqual (ltc cf) d a b pivot).2) n none] := by
 refine ACall.intro Tryz.func191 rfl (N := 90) rfl (by decide) (by simp) ?_
 refine aq ?_
 refine ra (.int _ _) ?_
 refine r_nil ?_
 refine a_seq ?_
 have hp1 : a * 1 + 1 ≤ (acells d).length := (by rw [acells_length]; omega)
 have hp2 : pivot * 1 + 1 ≤ ((acells d).set (a * 1) (.int .i64 d[pivot]!)).length := (by rw [List.length_set, acells_length]; omega)
 have hset : ((acells d).set (a * 1) (.int .i64 d[pivot]!)).set (pivot * 1) (.int .i64 d[a]!) = acells (swp d a pivot) := (by rw [Nat.mul_one, Nat.mul_one]; exact acells_swp _ _ _)
 refine a_region_w [(13, true), (14, true), (15, true), (16, true), (17, true), (18, true), (19, true), (20, true), (21, true), (22, true), (23, true), (24, true), (25, true), (INH, false), (26, true), (INH, false)] mixed (by kernel_rfl) ?_
 refine wv (v := .rsl _ _ _ _ _) (v_move il nf) ?_
 refine wv (v := .int _ _) (v_move il nf) ?_
 refine wv (v := .rsl _ _ _ _ _) (v_move il nf) ?_
 refine wv (v := .int _ _) (v_move il nf) ?_
 refine wv (v := .rsl _ _ _ _ _) (v_move il nf) ?_
 refine wv (v := .int _ _) (v_move il nf) ?_
 refine wv (v := .rp _ _) (v_indexAddr_rsl0 es25 il il (fun _ => by omega)) ?_
 refine wv (v := .int .i64 d[pivot]!) (v_load_rp1 ta3 il rfl (fun _ => by rw [Nat.mul_one]; exact acells_get (by omega)) rfl) ?_
 refine wv (v := .rsl _ _ _ _ _) (v_move il nf) ?_
 refine wv (v := .int _ _) (v_move il nf) ?_
 refine wv (v := .rp _ _) (v_indexAddr_rsl0 es25 il il (fun _ => by omega)) ?_
 refine wv (v := .int .i64 d[a]!) (v_load_rp1 ta3 il rfl (fun _ => by rw [Nat.mul_one]; exact acells_get (by omega)) rfl) ?_
 refine wv (v := .rp _ _) (v_indexAddr_rsl0 es25 il il (fun _ => by omega)) ?_
 refine w_store (v := .int _ _) (y' := .osl _ _ _ _) rfl rfl rfl ta3 (.inl rfl) (.inl rfl) rfl rfl rfl rfl rfl rfl hp1 (by decide) rfl rfl rfl (by kernel_rfl) ?_
 refine wv (v := .rp _ _) (v_indexAddr_rsl0 es25 il il (fun _ => by omega)) ?_
 refine w_store (v := .int _ _) (y' := .osl _ _ _ _) rfl rfl rfl ta3 (.inl rfl) (.inl rfl) rfl rfl rfl rfl rfl rfl hp2 (by decide) rfl (congrArg (fun c => AV.osl 1 c n none) hset) rfl (by kernel_rfl) ?_
 refine w_nil ?_
 refine aq ?_
 refine rm (.int _ _) ?_
 refine rv (v := .int _ _) (v_add il il (fun _ => by omega)) ?_
 refine rm (.int _ _) ?_
 refine rv (v := .int _ _) (v_sub il il (fun _ => by omega)) ?_
 refine ra (.int _ _) ?_
 refine ra (.int _ _) ?_
 refine r_nil ?_
 refine a_seq ?_
 refine a_block ?_
 refine a_loop (X := (Nat × Nat × Array Int)) (fun x => look [(0, .rsl (INH, []) 1 0 n none), (1, .int .i64 ((a : Nat) : Int)), (4, .fn f [] []), (11, .int .i64 ((x.1 : Nat) : Int)), (12, .int .i64 ((x.2.1 : Nat) : Int)), (INH, .osl 1 (acells x.2.2) n none)]) (fun x => a < x.1 ∧ x.2.1 < b ∧ x.2.2.size = n ∧ x.1 ≤ n ∧ partEqLoop (ltc cf) a x.1 x.2.1 x.2.2 = partitionEqual (ltc cf) d a b pivot) (fun x => x.2.1 + 1 - x.1) (a + 1, b - 1, swp d a pivot) (ent_look ⟨wr, wr, wr, Weak.of_eq (int_eq (by dsimp only; omega)), Weak.of_eq (int_eq (by dsimp only; omega)), wr, trivial⟩) ⟨by dsimp only; omega, by dsimp only; omega, by rw [swp_size]; exact hd, by dsimp only; omega, rfl⟩ (fun x hG => ?_)
 obtain ⟨g1, g2, g3, g4, g5⟩ := hG
 refine a_block ?_
 refine a_seq ?_
 refine a_block ?_
 refine a_loop (X := Nat) (fun u => look [(0, .rsl (INH, []) 1 0 n none), (1, .int .i64 ((a : Nat) : Int)), (4, .fn f [] []), (11, .int .i64 ((u : Nat) : Int)), (12, .int .i64 ((x.2.1 : Nat) : Int)), (INH, .osl 1 (acells x.2.2) n none)]) (fun u => x.1 ≤ u ∧ u ≤ n ∧ scanUp (fun w => !ltc cf x.2.2[a]! w) x.2.2 x.2.1 u = scanUp (fun w => !ltc cf x.2.2[a]! w) x.2.2 x.2.1 x.1) (fun u => x.2.1 + 1 - u) x.1 (ent_look ⟨wr, wr, wr, wr, wr, wr, trivial⟩) ⟨Nat.le_refl _, g4, rfl⟩ (fun u hG => ?_)
 obtain ⟨u1, u2, u3⟩ := hG
 refine a_seq ?_
 refine a_seq ?_
 refine a_region_any mixed (by kernel_rfl) ?_
 refine yv (v := .int _ _) (v_move il nf) ?_
 refine yv (v := .int _ _) (v_move il nf) ?_
 refine yv (v := .bool _) (v_leq il il) ?_
 refine yv (v := .bool _) (v_move il nf) ?_
 refine yh (v := .fn _ _ _) (v_move il nf).quiet ?_
 refine yh (v := .rsl _ _ _ _ _) (v_move il nf).quiet ?_
 refine yh (v := .int _ _) (v_move il nf).quiet ?_
 refine yg (v := .rp _ _) (v_indexAddr_rsl0 es25 (.inr ⟨_, rfl, fun h => h⟩) (.inr ⟨_, rfl, fun h => h⟩) (fun hA => by simp at hA; omega)).quiet rfl rfl rfl (by decide) (.inl ⟨_, rfl, rfl⟩) ?_
 refine yg (v := .int .i64 x.2.2[a]!) (v_load_rp1 ta3 (.inr ⟨_, rfl, fun h => h⟩) rfl (fun hA => by simp at hA; rw [Nat.mul_one]; exact acells_get (by omega)) rfl).quiet rfl rfl rfl (by decide) (.inl ⟨_, rfl, rfl⟩) ?_
 refine yh (v := .rsl _ _ _ _ _) (v_move il nf).quiet ?_
 refine yh (v := .int _ _) (v_move il nf).quiet ?_
 refine yg (v := .rp _ _) (v_indexAddr_rsl0 es25 (.inr ⟨_, rfl, fun h => h⟩) (.inr ⟨_, rfl, fun h => h⟩) (fun hA => by simp at hA; omega)).quiet rfl rfl rfl (by decide) (.inl ⟨_, rfl, rfl⟩) ?_
 refine yg (v := .int .i64 x.2.2[u]!) (v_load_rp1 ta3 (.inr ⟨_, rfl, fun h => h⟩) rfl (fun hA => by simp at hA; rw [Nat.mul_one]; exact acells_get (by omega)) rfl).quiet rfl rfl rfl (by decide) (.inl ⟨_, rfl, rfl⟩) ?_
 refine yg (v := .int _ _) (q_clo (vs := [.int _ _, .int _ _]) (args := [.int .i64 _, .int .i64 _]) hb (.inr ⟨_, rfl, fun h => h⟩) ⟨.inr ⟨_, rfl, fun h => h⟩, .inr ⟨_, rfl, fun h => h⟩, trivial⟩ rfl (fun hA => hc _ _) rfl rfl) rfl rfl rfl (by decide) (.inl ⟨_, rfl, rfl⟩) ?_
 refine yg (v := .bool _) (v_lss (.inr ⟨_, rfl, fun h => h⟩) il).quiet rfl rfl rfl (by decide) (.inl ⟨_, rfl, rfl⟩) ?_
 refine yg (v := .bool _) (v_not (.inr ⟨_, rfl, fun h => h⟩)).quiet rfl rfl rfl (by decide) (.inl ⟨_, rfl, rfl⟩) ?_
 refine yv (v := .bool _) (v_pick (.inl rfl) (.inr ⟨_, rfl, fun h h2 => by simp_all⟩) (.inl rfl)) ?_
 refine y_nil ?_
 refine a_cond rfl (fun ht47 => ?_) (fun ht47 => ?_)
 ·
  refine a_skip ?_
  refine a_block ?_
  refine a_region ?_
  refine rm (.int _ _) ?_
  refine rv (v := .int _ _) (v_add il il (fun _ => by omega)) ?_
  refine ra (.int _ _) ?_
  refine r_nil ?_
  have hcu : (decide (u ≤ x.2.1) && !ltc cf x.2.2[a]! x.2.2[u]!) = true := (by simpa [ltc] using ht47)
  refine ⟨u + 1, ent_look ⟨wr, wr, wr, Weak.of_eq (int_eq (by omega)), wr, wr, trivial⟩, ⟨by omega, by simp at hcu; omega, by rw [← u3]; exact up_more hcu⟩, by simp at hcu; omega⟩
 ·
  refine a_exit ?_
  refine a_seq ?_
  refine a_block ?_
  refine a_loop (X := Nat) (fun v => look [(0, .rsl (INH, []) 1 0 n none), (1, .int .i64 ((a : Nat) : Int)), (4, .fn f [] []), (11, .int .i64 ((u : Nat) : Int)), (12, .int .i64 ((v : Nat) : Int)), (INH, .osl 1 (acells x.2.2) n none)]) (fun v => v ≤ x.2.1 ∧ scanDown (fun w => ltc cf x.2.2[a]! w) x.2.2 u v = scanDown (fun w => ltc cf x.2.2[a]! w) x.2.2 u x.2.1) (fun v => v) x.2.1 (ent_look ⟨wr, wr, wr, wr, wr, wr, trivial⟩) ⟨Nat.le_refl _, rfl⟩ (fun v hG => ?_)
  obtain ⟨v1, v2⟩ := hG
  refine a_seq ?_
  refine a_seq ?_
  refine a_region_any mixed (by kernel_rfl) ?_
  refine yv (v := .int _ _) (v_move il nf) ?_
  refine yv (v := .int _ _) (v_move il nf) ?_
  refine yv (v := .bool _) (v_leq il il) ?_
  refine yv (v := .bool _) (v_move il nf) ?_
  refine yh (v := .fn _ _ _) (v_move il nf).quiet ?_
  refine yh (v := .rsl _ _ _ _ _) (v_move il nf).quiet ?_
  refine yh (v := .int _ _) (v_move il nf).quiet ?_
  refine yg (v := .rp _ _) (v_indexAddr_rsl0 es25 (.inr ⟨_, rfl, fun h => h⟩) (.inr ⟨_, rfl, fun h => h⟩) (fun hA => by simp at hA; omega)).quiet rfl rfl rfl (by decide) (.inl ⟨_, rfl, rfl⟩) ?_
  refine yg (v := .int .i64 x.2.2[a]!) (v_load_rp1 ta3 (.inr ⟨_, rfl, fun h => h⟩) rfl (fun hA => by simp at hA; rw [Nat.mul_one]; exact acells_get (by omega)) rfl).quiet rfl rfl rfl (by decide) (.inl ⟨_, rfl, rfl⟩) ?_
  refine yh (v := .rsl _ _ _ _ _) (v_move il nf).quiet ?_
  refine yh (v := .int _ _) (v_move il nf).quiet ?_
  refine yg (v := .rp _ _) (v_indexAddr_rsl0 es25 (.inr ⟨_, rfl, fun h => h⟩) (.inr ⟨_, rfl, fun h => h⟩) (fun hA => by simp at hA; omega)).quiet rfl rfl rfl (by decide) (.inl ⟨_, rfl, rfl⟩) ?_
  refine yg (v := .int .i64 x.2.2[v]!) (v_load_rp1 ta3 (.inr ⟨_, rfl, fun h => h⟩) rfl (fun hA => by simp at hA; rw [Nat.mul_one]; exact acells_get (by omega)) rfl).quiet rfl rfl rfl (by decide) (.inl ⟨_, rfl, rfl⟩) ?_
  refine yg (v := .int _ _) (q_clo (vs := [.int _ _, .int _ _]) (args := [.int .i64 _, .int .i64 _]) hb (.inr ⟨_, rfl, fun h => h⟩) ⟨.inr ⟨_, rfl, fun h => h⟩, .inr ⟨_, rfl, fun h => h⟩, trivial⟩ rfl (fun hA => hc _ _) rfl rfl) rfl rfl rfl (by decide) (.inl ⟨_, rfl, rfl⟩) ?_
  refine yg (v := .bool _) (v_lss (.inr ⟨_, rfl, fun h => h⟩) il).quiet rfl rfl rfl (by decide) (.inl ⟨_, rfl, rfl⟩) ?_
  refine yv (v := .bool _) (v_pick (.inl rfl) (.inr ⟨_, rfl, fun h h2 => by simp_all⟩) (.inl rfl)) ?_
  refine y_nil ?_
  refine a_cond rfl (fun ht65 => ?_) (fun ht65 => ?_)
  ·
   refine a_skip ?_
   refine a_block ?_
   refine a_region ?_
   refine rm (.int _ _) ?_
   refine rv (v := .int _ _) (v_sub il il (fun _ => by omega)) ?_
   refine ra (.int _ _) ?_
   refine r_nil ?_
   have hcv : (decide (u ≤ v) && ltc cf x.2.2[a]! x.2.2[v]!) = true := (by simpa [ltc] using ht65)
   refine ⟨v - 1, ent_look ⟨wr, wr, wr, wr, Weak.of_eq (int_eq (by simp at hcv; omega)), wr, trivial⟩, ⟨by omega, by rw [← v2]; exact down_more (by simp at hcv; omega) hcv⟩, by simp at hcv; omega⟩
  ·
   refine a_exit ?_
   refine a_seq ?_
   refine a_seq ?_
   have hup : scanUp (fun w => !ltc cf x.2.2[a]! w) x.2.2 x.2.1 x.1 = u := (by rw [← u3]; exact up_stop (by simpa [ltc] using ht47))
   have hdn : scanDown (fun w => ltc cf x.2.2[a]! w) x.2.2 u x.2.1 = v := (by rw [← v2]; exact down_stop (by simpa [ltc] using ht65))
   refine a_region ?_
   refine rm (.int _ _) ?_
   refine rm (.int _ _) ?_
   refine rv (v := .bool _) (v_gtr il il) ?_
   refine r_nil ?_
   refine a_cond rfl (fun ht70 => ?_) (fun ht70 => ?_)
   ·
    refine a_exit ?_
    refine a_seq ?_
    have hfin : partitionEqual (ltc cf) d a b pivot = (u, x.2.2) := (by rw [← g5]; exact peq_end hup hdn (by simp at ht70; omega))
    refine a_region ?_
    refine rm (.int _ _) ?_
    refine ra (.int _ _) ?_
    refine r_nil ?_
    refine a_ret ?_
    refine ret1 Tryz.results191 (by decide) (by decide) (Weak.of_eq (int_eq ?_)) rfl (Leaves.one (Weak.of_eq (osl_eq (by rw [hfin]))) rfl)
    rw [hfin]
   ·
    refine a_skip ?_
    refine a_seq ?_
    have huv : u ≤ v := (by simp at ht70; omega)
    have hp1 : u * 1 + 1 ≤ (acells x.2.2).length := (by rw [acells_length]; omega)
    have hp2 : v * 1 + 1 ≤ ((acells x.2.2).set (u * 1) (.int .i64 x.2.2[v]!)).length := (by rw [List.length_set, acells_length]; omega)
    have hset : ((acells x.2.2).set (u * 1) (.int .i64 x.2.2[v]!)).set (v * 1) (.int .i64 x.2.2[u]!) = acells (swp x.2.2 u v) := (by rw [Nat.mul_one, Nat.mul_one]; exact acells_swp _ _ _)
    refine a_region_w [(71, true), (72, true), (73, true), (74, true), (75, true), (76, true), (77, true), (78, true), (79, true), (80, true), (81, true), (82, true), (83, true), (INH, false), (84, true), (INH, false)] mixed (by kernel_rfl) ?_
    refine wv (v := .rsl _ _ _ _ _) (v_move il nf) ?_
    refine wv (v := .int _ _) (v_move il nf) ?_
    refine wv (v := .rsl _ _ _ _ _) (v_move il nf) ?_
    refine wv (v := .int _ _) (v_move il nf) ?_
    refine wv (v := .rsl _ _ _ _ _) (v_move il nf) ?_
    refine wv (v := .int _ _) (v_move il nf) ?_
    refine wv (v := .rp _ _) (v_indexAddr_rsl0 es25 il il (fun _ => by omega)) ?_
    refine wv (v := .int .i64 x.2.2[v]!) (v_load_rp1 ta3 il rfl (fun _ => by rw [Nat.mul_one]; exact acells_get (by omega)) rfl) ?_
    refine wv (v := .rsl _ _ _ _ _) (v_move il nf) ?_
    refine wv (v := .int _ _) (v_move il nf) ?_
    refine wv (v := .rp _ _) (v_indexAddr_rsl0 es25 il il (fun _ => by omega)) ?_
    refine wv (v := .int .i64 x.2.2[u]!) (v_load_rp1 ta3 il rfl (fun _ => by rw [Nat.mul_one]; exact acells_get (by omega)) rfl) ?_
    refine wv (v := .rp _ _) (v_indexAddr_rsl0 es25 il il (fun _ => by omega)) ?_
    refine w_store (v := .int _ _) (y' := .osl _ _ _ _) rfl rfl rfl ta3 (.inl rfl) (.inl rfl) rfl rfl rfl rfl rfl rfl hp1 (by decide) rfl rfl rfl (by kernel_rfl) ?_
    refine wv (v := .rp _ _) (v_indexAddr_rsl0 es25 il il (fun _ => by omega)) ?_
    refine w_store (v := .int _ _) (y' := .osl _ _ _ _) rfl rfl rfl ta3 (.inl rfl) (.inl rfl) rfl rfl rfl rfl rfl rfl hp2 (by decide) rfl (congrArg (fun c => AV.osl 1 c n none) hset) rfl (by kernel_rfl) ?_
    refine w_nil ?_
    refine a_seq ?_
    refine a_pre (ent_look (L := [(0, .rsl _ _ _ _ _), (1, .int _ _), (4, .fn _ _ _), (11, .int _ _), (12, .int _ _), (INH, .osl _ _ _ _)]) ⟨wr, wr, wr, wr, wr, wr, trivial⟩) ?_
    refine a_region ?_
    refine rm (.int _ _) ?_
    refine rv (v := .int _ _) (v_add il il (fun _ => by omega)) ?_
    refine ra (.int _ _) ?_
    refine r_nil ?_
    refine a_region ?_
    refine rm (.int _ _) ?_
    refine rv (v := .int _ _) (v_sub il il (fun _ => by omega)) ?_
    refine ra (.int _ _) ?_
    refine r_nil ?_
    refine ⟨(u + 1, v - 1, swp x.2.2 u v), ent_look ⟨wr, wr, wr, Weak.of_eq (int_eq (by dsimp only; omega)), Weak.of_eq (int_eq (by dsimp only; omega)), wr, trivial⟩, ⟨by dsimp only; omega, by dsimp only; omega, by rw [swp_size]; exact g3, by dsimp only; omega, by rw [← g5]; exact (peq_more hup hdn (by omega)).symm⟩, by dsimp only; omega⟩
theorem partition_c (f : Nat) (hb : hasBody Tryz.prog f = true) (cf : Int → Int → Int) (hc : ∀ x y, ACall Tryz.prog f [.int .i64 x, .int .i64 y] [] (.int .i64 (cf x y)) []) (d : Array Int) (n a b pivot : Nat) (hd : d.size = n) (hab : a ≤ pivot ∧ pivot < b ∧ b ≤ n) (hn : n ≤ 1152921504606846976) : ACall Tryz.prog 192 [.rsl (INH, []) 1 0 n none, .int .i64 ((a : Nat) : Int), .int .i64 ((b : Nat) : Int), .int .i64 ((pivot : Nat) : Int), .fn f [] []] [.osl 1 (acells d) n none] (.tup [.int .i64 (((partition (ltc cf) d a b pivot).1 : Nat) : Int), .bool (partition (ltc cf) d a b pivot).2.1]) [.osl 1 (acells ((partition (ltc cf) d a b pivot).2.2)) n none] := by
  refine ACall.intro Tryz.func192 rfl (N := 178) rfl (by decide) (by simp) ?_
  refine aq ?_
  refine ra (.int _ _) ?_
  refine ra (.bool _) ?_
  refine r_nil ?_
  refine a_seq ?_
  have hp1 : a * 1 + 1 ≤ (acells d).length := (by rw [acells_length]; omega)
  have hp2 : pivot * 1 + 1 ≤ ((acells d).set (a * 1) (.int .i64 d[pivot]!)).length := (by rw [List.length_set, acells_length]; omega)
  have hset : ((acells d).set (a * 1) (.int .i64 d[pivot]!)).set (pivot * 1) (.int .i64 d[a]!) = acells (swp d a pivot) := (by rw [Nat.mul_one, Nat.mul_one]; exact acells_swp _ _ _)
  refine a_region_w [(14, true), (15, true), (16, true), (17, true), (18, true), (19, true), (20, true), (21, true), (22, true), (23, true), (24, true), (25, true), (26, true), (INH, false), (27, true), (INH, false)] mixed (by kernel_rfl) ?_
  refine wv (v := .rsl _ _ _ _ _) (v_move il nf) ?_
  refine wv (v := .int _ _) (v_move il nf) ?_
  refine wv (v := .rsl _ _ _ _ _) (v_move il nf) ?_
  refine wv (v := .int _ _) (v_move il nf) ?_
  refine wv (v := .rsl _ _ _ _ _) (v_move il nf) ?_
  refine wv (v := .int _ _) (v_move il nf) ?_
  refine wv (v := .rp _ _) (v_indexAddr_rsl0 es25 il il (fun _ => by omega)) ?_
  refine wv (v := .int .i64 d[pivot]!) (v_load_rp1 ta3 il rfl (fun _ => by rw [Nat.mul_one]; exact acells_get (by omega)) rfl) ?_
  refine wv (v := .rsl _ _ _ _ _) (v_move il nf) ?_
  refine wv (v := .int _ _) (v_move il nf) ?_
  refine wv (v := .rp _ _) (v_indexAddr_rsl0 es25 il il (fun _ => by omega)) ?_
  refine wv (v := .int .i64 d[a]!) (v_load_rp1 ta3 il rfl (fun _ => by rw [Nat.mul_one]; exact acells_get (by omega)) rfl) ?_
  refine wv (v := .rp _ _) (v_indexAddr_rsl0 es25 il il (fun _ => by omega)) ?_
  refine w_store (v := .int _ _) (y' := .osl _ _ _ _) rfl rfl rfl ta3 (.inl rfl) (.inl rfl) rfl rfl rfl rfl rfl rfl hp1 (by decide) rfl rfl rfl (by kernel_rfl) ?_
  refine wv (v := .rp _ _) (v_indexAddr_rsl0 es25 il il (fun _ => by omega)) ?_
  refine w_store (v := .int _ _) (y' := .osl _ _ _ _) rfl rfl rfl ta3 (.inl rfl) (.inl rfl) rfl rfl rfl rfl rfl rfl hp2 (by decide) rfl (congrArg (fun c => AV.osl 1 c n none) hset) rfl (by kernel_rfl) ?_
  refine w_nil ?_
  refine aq ?_
  refine rm (.int _ _) ?_
  refine rv (v := .int _ _) (v_add il il (fun _ => by omega)) ?_
  refine rm (.int _ _) ?_
  refine rv (v := .int _ _) (v_sub il il (fun _ => by omega)) ?_
  refine ra (.int _ _) ?_
  refine ra (.int _ _) ?_
  refine r_nil ?_
  refine a_seq ?_
  refine a_block ?_
  refine a_loop (X := Nat) (fun u0 => look [(0, .rsl (INH, []) 1 0 n none), (1, .int .i64 ((a : Nat) : Int)), (4, .fn f [] []), (12, .int .i64 ((u0 : Nat) : Int)), (13, .int .i64 ((b - 1 : Nat) : Int)), (INH, .osl 1 (acells (swp d a pivot)) n none)]) (fun u0 => a + 1 ≤ u0 ∧ u0 ≤ n ∧ scanUp (fun w => ltc cf w (swp d a pivot)[a]!) (swp d a pivot) (b - 1) u0 = scanUp (fun w => ltc cf w (swp d a pivot)[a]!) (swp d a pivot) (b - 1) (a + 1)) (fun u0 => b - u0) (a + 1) (ent_look ⟨wr, wr, wr, Weak.of_eq (int_eq (by omega)), Weak.of_eq (int_eq (by omega)), wr, trivial⟩) ⟨Nat.le_refl _, by omega, rfl⟩ (fun u0 hG => ?_)
  obtain ⟨a1, a2, a3⟩ := hG
  refine a_seq ?_
  refine a_seq ?_
  have hsz := swp_size (d := d) (i := a) (j := pivot)
  refine a_region_any mixed (by kernel_rfl) ?_
  refine yv (v := .int _ _) (v_move il nf) ?_
  refine yv (v := .int _ _) (v_move il nf) ?_
  refine yv (v := .bool _) (v_leq il il) ?_
  refine yv (v := .bool _) (v_move il nf) ?_
  refine yh (v := .fn _ _ _) (v_move il nf).quiet ?_
  refine yh (v := .rsl _ _ _ _ _) (v_move il nf).quiet ?_
  refine yh (v := .int _ _) (v_move il nf).quiet ?_
  refine yg (v := .rp _ _) (v_indexAddr_rsl0 es25 (.inr ⟨_, rfl, fun h => h⟩) (.inr ⟨_, rfl, fun h => h⟩) (fun hA => by simp at hA; omega)).quiet rfl rfl rfl (by decide) (.inl ⟨_, rfl, rfl⟩) ?_
  refine yg (v := .int .i64 (swp d a pivot)[u0]!) (v_load_rp1 ta3 (.inr ⟨_, rfl, fun h => h⟩) rfl (fun hA => by simp at hA; rw [Nat.mul_one]; exact acells_get (by omega)) rfl).quiet rfl rfl rfl (by decide) (.inl ⟨_, rfl, rfl⟩) ?_
  refine yh (v := .rsl _ _ _ _ _) (v_move il nf).quiet ?_
  refine yh (v := .int _ _) (v_move il nf).quiet ?_
  refine yg (v := .rp _ _) (v_indexAddr_rsl0 es25 (.inr ⟨_, rfl, fun h => h⟩) (.inr ⟨_, rfl, fun h => h⟩) (fun hA => by simp at hA; omega)).quiet rfl rfl rfl (by decide) (.inl ⟨_, rfl, rfl⟩) ?_
  refine yg (v := .int .i64 (swp d a pivot)[a]!) (v_load_rp1 ta3 (.inr ⟨_, rfl, fun h => h⟩) rfl (fun hA => by simp at hA; rw [Nat.mul_one]; exact acells_get (by omega)) rfl).quiet rfl rfl rfl (by decide) (.inl ⟨_, rfl, rfl⟩) ?_
  refine yg (v := .int _ _) (q_clo (vs := [.int _ _, .int _ _]) (args := [.int .i64 _, .int .i64 _]) hb (.inr ⟨_, rfl, fun h => h⟩) ⟨.inr ⟨_, rfl, fun h => h⟩, .inr ⟨_, rfl, fun h => h⟩, trivial⟩ rfl (fun hA => hc _ _) rfl rfl) rfl rfl rfl (by decide) (.inl ⟨_, rfl, rfl⟩) ?_
  refine yg (v := .bool _) (v_lss (.inr ⟨_, rfl, fun h => h⟩) il).quiet rfl rfl rfl (by decide) (.inl ⟨_, rfl, rfl⟩) ?_
  refine yv (v := .bool _) (v_pick (.inl rfl) (.inr ⟨_, rfl, fun h h2 => by simp_all⟩) (.inl rfl)) ?_
  refine y_nil ?_
  refine a_cond rfl (fun ht47 => ?_) (fun ht47 => ?_)
  ·
    refine a_skip ?_
    refine a_block ?_
    refine a_region ?_
    refine rm (.int _ _) ?_
    refine rv (v := .int _ _) (v_add il il (fun _ => by omega)) ?_
    refine ra (.int _ _) ?_
    refine r_nil ?_
    have hcu : (decide (u0 ≤ b - 1) && ltc cf (swp d a pivot)[u0]! (swp d a pivot)[a]!) = true := (by simpa [ltc] using ht47)
    refine ⟨u0 + 1, ent_look ⟨wr, wr, wr, Weak.of_eq (int_eq (by omega)), wr, wr, trivial⟩, ⟨by omega, by simp at hcu; omega, by rw [← a3]; exact up_more hcu⟩, by simp at hcu; omega⟩
  ·
    refine a_exit ?_
    refine a_seq ?_
    refine a_block ?_
    refine a_loop (X := Nat) (fun v0 => look [(0, .rsl (INH, []) 1 0 n none), (1, .int .i64 ((a : Nat) : Int)), (4, .fn f [] []), (12, .int .i64 ((u0 : Nat) : Int)), (13, .int .i64 ((v0 : Nat) : Int)), (INH, .osl 1 (acells (swp d a pivot)) n none)]) (fun v0 => v0 ≤ b - 1 ∧ scanDown (fun w => !ltc cf w (swp d a pivot)[a]!) (swp d a pivot) u0 v0 = scanDown (fun w => !ltc cf w (swp d a pivot)[a]!) (swp d a pivot) u0 (b - 1)) (fun v0 => v0) (b - 1) (ent_look ⟨wr, wr, wr, wr, wr, wr, trivial⟩) ⟨Nat.le_refl _, rfl⟩ (fun v0 hG => ?_)
    obtain ⟨b1, b2⟩ := hG
    refine a_seq ?_
    refine a_seq ?_
    have hsz := swp_size (d := d) (i := a) (j := pivot)
    refine a_region_any mixed (by kernel_rfl) ?_
    refine yv (v := .int _ _) (v_move il nf) ?_
    refine yv (v := .int _ _) (v_move il nf) ?_
    refine yv (v := .bool _) (v_leq il il) ?_
    refine yv (v := .bool _) (v_move il nf) ?_
    refine yh (v := .fn _ _ _) (v_move il nf).quiet ?_
    refine yh (v := .rsl _ _ _ _ _) (v_move il nf).quiet ?_
    refine yh (v := .int _ _) (v_move il nf).quiet ?_
    refine yg (v := .rp _ _) (v_indexAddr_rsl0 es25 (.inr ⟨_, rfl, fun h => h⟩) (.inr ⟨_, rfl, fun h => h⟩) (fun hA => by simp at hA; omega)).quiet rfl rfl rfl (by decide) (.inl ⟨_, rfl, rfl⟩) ?_
    refine yg (v := .int .i64 (swp d a pivot)[v0]!) (v_load_rp1 ta3 (.inr ⟨_, rfl, fun h => h⟩) rfl (fun hA => by simp at hA; rw [Nat.mul_one]; exact acells_get (by omega)) rfl).quiet rfl rfl rfl (by decide) (.inl ⟨_, rfl, rfl⟩) ?_
    refine yh (v := .rsl _ _ _ _ _) (v_move il nf).quiet ?_
    refine yh (v := .int _ _) (v_move il nf).quiet ?_
    refine yg (v := .rp _ _) (v_indexAddr_rsl0 es25 (.inr ⟨_, rfl, fun h => h⟩) (.inr ⟨_, rfl, fun h => h⟩) (fun hA => by simp at hA; omega)).quiet rfl rfl rfl (by decide) (.inl ⟨_, rfl, rfl⟩) ?_
    refine yg (v := .int .i64 (swp d a pivot)[a]!) (v_load_rp1 ta3 (.inr ⟨_, rfl, fun h => h⟩) rfl (fun hA => by simp at hA; rw [Nat.mul_one]; exact acells_get (by omega)) rfl).quiet rfl rfl rfl (by decide) (.inl ⟨_, rfl, rfl⟩) ?_
    refine yg (v := .int _ _) (q_clo (vs := [.int _ _, .int _ _]) (args := [.int .i64 _, .int .i64 _]) hb (.inr ⟨_, rfl, fun h => h⟩) ⟨.inr ⟨_, rfl, fun h => h⟩, .inr ⟨_, rfl, fun h => h⟩, trivial⟩ rfl (fun hA => hc _ _) rfl rfl) rfl rfl rfl (by decide) (.inl ⟨_, rfl, rfl⟩) ?_
    refine yg (v := .bool _) (v_lss (.inr ⟨_, rfl, fun h => h⟩) il).quiet rfl rfl rfl (by decide) (.inl ⟨_, rfl, rfl⟩) ?_
    refine yg (v := .bool _) (v_not (.inr ⟨_, rfl, fun h => h⟩)).quiet rfl rfl rfl (by decide) (.inl ⟨_, rfl, rfl⟩) ?_
    refine yv (v := .bool _) (v_pick (.inl rfl) (.inr ⟨_, rfl, fun h h2 => by simp_all⟩) (.inl rfl)) ?_
    refine y_nil ?_
    refine a_cond rfl (fun ht66 => ?_) (fun ht66 => ?_)
    ·
      refine a_skip ?_
      refine a_block ?_
      refine a_region ?_
      refine rm (.int _ _) ?_
      refine rv (v := .int _ _) (v_sub il il (fun _ => by omega)) ?_
      refine ra (.int _ _) ?_
      refine r_nil ?_
      have hcv : (decide (u0 ≤ v0) && !ltc cf (swp d a pivot)[v0]! (swp d a pivot)[a]!) = true := (by simpa [ltc] using ht66)
      refine ⟨v0 - 1, ent_look ⟨wr, wr, wr, wr, Weak.of_eq (int_eq (by simp at hcv; omega)), wr, trivial⟩, ⟨by omega, by rw [← b2]; exact down_more (by simp at hcv; omega) hcv⟩, by simp at hcv; omega⟩
    ·
      refine a_exit ?_
      refine a_seq ?_
      refine a_seq ?_
      have hsz := swp_size (d := d) (i := a) (j := pivot)
      have hup0 : scanUp (fun w => ltc cf w (swp d a pivot)[a]!) (swp d a pivot) (b - 1) (a + 1) = u0 := (by rw [← a3]; exact up_stop (by simpa [ltc] using ht47))
      have hdn0 : scanDown (fun w => !ltc cf w (swp d a pivot)[a]!) (swp d a pivot) u0 (b - 1) = v0 := (by rw [← b2]; exact down_stop (by simpa [ltc] using ht66))
      refine a_region ?_
      refine rm (.int _ _) ?_
      refine rm (.int _ _) ?_
      refine rv (v := .bool _) (v_gtr il il) ?_
      refine r_nil ?_
      refine a_cond rfl (fun ht71 => ?_) (fun ht71 => ?_)
      ·
        refine a_seq ?_
        have hfin : (partition (ltc cf) d a b pivot) = (v0, true, swp (swp d a pivot) v0 a) := part_end hup0 hdn0 (by simp at ht71; omega)
        have hp1 : v0 * 1 + 1 ≤ (acells (swp d a pivot)).length := (by rw [acells_length]; omega)
        have hp2 : a * 1 + 1 ≤ ((acells (swp d a pivot)).set (v0 * 1) (.int .i64 (swp d a pivot)[a]!)).length := (by rw [List.length_set, acells_length]; omega)
        have hset : ((acells (swp d a pivot)).set (v0 * 1) (.int .i64 (swp d a pivot)[a]!)).set (a * 1) (.int .i64 (swp d a pivot)[v0]!) = acells (swp (swp d a pivot) v0 a) := (by rw [Nat.mul_one, Nat.mul_one]; exact acells_swp _ _ _)
        refine a_region_w [(72, true), (73, true), (74, true), (75, true), (76, true), (77, true), (78, true), (79, true), (80, true), (81, true), (82, true), (83, true), (84, true), (INH, false), (85, true), (INH, false)] mixed (by kernel_rfl) ?_
        refine wv (v := .rsl _ _ _ _ _) (v_move il nf) ?_
        refine wv (v := .int _ _) (v_move il nf) ?_
        refine wv (v := .rsl _ _ _ _ _) (v_move il nf) ?_
        refine wv (v := .int _ _) (v_move il nf) ?_
        refine wv (v := .rsl _ _ _ _ _) (v_move il nf) ?_
        refine wv (v := .int _ _) (v_move il nf) ?_
        refine wv (v := .rp _ _) (v_indexAddr_rsl0 es25 il il (fun _ => by omega)) ?_
        refine wv (v := .int .i64 (swp d a pivot)[a]!) (v_load_rp1 ta3 il rfl (fun _ => by rw [Nat.mul_one]; exact acells_get (by omega)) rfl) ?_
        refine wv (v := .rsl _ _ _ _ _) (v_move il nf) ?_
        refine wv (v := .int _ _) (v_move il nf) ?_
        refine wv (v := .rp _ _) (v_indexAddr_rsl0 es25 il il (fun _ => by omega)) ?_
        refine wv (v := .int .i64 (swp d a pivot)[v0]!) (v_load_rp1 ta3 il rfl (fun _ => by rw [Nat.mul_one]; exact acells_get (by omega)) rfl) ?_
        refine wv (v := .rp _ _) (v_indexAddr_rsl0 es25 il il (fun _ => by omega)) ?_
        refine w_store (v := .int _ _) (y' := .osl _ _ _ _) rfl rfl rfl ta3 (.inl rfl) (.inl rfl) rfl rfl rfl rfl rfl rfl hp1 (by decide) rfl rfl rfl (by kernel_rfl) ?_
        refine wv (v := .rp _ _) (v_indexAddr_rsl0 es25 il il (fun _ => by omega)) ?_
        refine w_store (v := .int _ _) (y' := .osl _ _ _ _) rfl rfl rfl ta3 (.inl rfl) (.inl rfl) rfl rfl rfl rfl rfl rfl hp2 (by decide) rfl (congrArg (fun c => AV.osl 1 c n none) hset) rfl (by kernel_rfl) ?_
        refine w_nil ?_
        refine a_seq ?_
        refine a_pre (ent_look (L := [(0, .rsl _ _ _ _ _), (1, .int _ _), (4, .fn _ _ _), (12, .int _ _), (13, .int _ _), (INH, .osl _ _ _ _)]) ⟨wr, wr, wr, wr, wr, wr, trivial⟩) ?_
        refine a_region ?_
        refine rm (.int _ _) ?_
        refine ra (.int _ _) ?_
        refine ra (.bool _) ?_
        refine r_nil ?_
        refine a_ret ?_
        refine retLO (rs := [.tmp 10, .tmp 11]) [(10, _), (11, _)] ⟨(Weak.of_eq (osl_eq (by rw [hfin]))), wr, wr, trivial⟩ rfl Tryz.results192 (by decide) ⟨by decide, by decide, rfl⟩ (by decide) (by decide) (l2_eq (int_eq ?_) (bool_eq ?_)) rfl rfl
        · rw [hfin]
        · rw [hfin]
      ·
        refine a_skip ?_
        refine a_seq ?_
        have huv0 : u0 ≤ v0 := (by simp at ht71; omega)
        have hpm := part_more (lt := ltc cf) (d := d) (a := a) (b := b) (pivot := pivot) hup0 hdn0 (by omega)
        have hp1 : u0 * 1 + 1 ≤ (acells (swp d a pivot)).length := (by rw [acells_length]; omega)
        have hp2 : v0 * 1 + 1 ≤ ((acells (swp d a pivot)).set (u0 * 1) (.int .i64 (swp d a pivot)[v0]!)).length := (by rw [List.length_set, acells_length]; omega)
        have hset : ((acells (swp d a pivot)).set (u0 * 1) (.int .i64 (swp d a pivot)[v0]!)).set (v0 * 1) (.int .i64 (swp d a pivot)[u0]!) = acells (swp (swp d a pivot) u0 v0) := (by rw [Nat.mul_one, Nat.mul_one]; exact acells_swp _ _ _)
        refine a_region_w [(87, true), (88, true), (89, true), (90, true), (91, true), (92, true), (93, true), (94, true), (95, true), (96, true), (97, true), (98, true), (99, true), (INH, false), (100, true), (INH, false)] mixed (by kernel_rfl) ?_
        refine wv (v := .rsl _ _ _ _ _) (v_move il nf) ?_
        refine wv (v := .int _ _) (v_move il nf) ?_
        refine wv (v := .rsl _ _ _ _ _) (v_move il nf) ?_
        refine wv (v := .int _ _) (v_move il nf) ?_
        refine wv (v := .rsl _ _ _ _ _) (v_move il nf) ?_
        refine wv (v := .int _ _) (v_move il nf) ?_
        refine wv (v := .rp _ _) (v_indexAddr_rsl0 es25 il il (fun _ => by omega)) ?_
        refine wv (v := .int .i64 (swp d a pivot)[v0]!) (v_load_rp1 ta3 il rfl (fun _ => by rw [Nat.mul_one]; exact acells_get (by omega)) rfl) ?_
        refine wv (v := .rsl _ _ _ _ _) (v_move il nf) ?_
        refine wv (v := .int _ _) (v_move il nf) ?_
        refine wv (v := .rp _ _) (v_indexAddr_rsl0 es25 il il (fun _ => by omega)) ?_
        refine wv (v := .int .i64 (swp d a pivot)[u0]!) (v_load_rp1 ta3 il rfl (fun _ => by rw [Nat.mul_one]; exact acells_get (by omega)) rfl) ?_
        refine wv (v := .rp _ _) (v_indexAddr_rsl0 es25 il il (fun _ => by omega)) ?_
        refine w_store (v := .int _ _) (y' := .osl _ _ _ _) rfl rfl rfl ta3 (.inl rfl) (.inl rfl) rfl rfl rfl rfl rfl rfl hp1 (by decide) rfl rfl rfl (by kernel_rfl) ?_
        refine wv (v := .rp _ _) (v_indexAddr_rsl0 es25 il il (fun _ => by omega)) ?_
        refine w_store (v := .int _ _) (y' := .osl _ _ _ _) rfl rfl rfl ta3 (.inl rfl) (.inl rfl) rfl rfl rfl rfl rfl rfl hp2 (by decide) rfl (congrArg (fun c => AV.osl 1 c n none) hset) rfl (by kernel_rfl) ?_
        refine w_nil ?_
        refine a_seq ?_
        refine a_pre (ent_look (L := [(0, .rsl _ _ _ _ _), (1, .int _ _), (4, .fn _ _ _), (12, .int _ _), (13, .int _ _), (INH, .osl _ _ _ _)]) ⟨wr, wr, wr, wr, wr, wr, trivial⟩) ?_
        refine a_region ?_
        refine rm (.int _ _) ?_
        refine rv (v := .int _ _) (v_add il il (fun _ => by omega)) ?_
        refine ra (.int _ _) ?_
        refine r_nil ?_
        refine aq ?_
        refine rm (.int _ _) ?_
        refine rv (v := .int _ _) (v_sub il il (fun _ => by omega)) ?_
        refine ra (.int _ _) ?_
        refine r_nil ?_
        refine a_seq ?_
        refine a_block ?_
        refine a_loop (X := (Nat × Nat × Array Int)) (fun x => look [(0, .rsl (INH, []) 1 0 n none), (1, .int .i64 ((a : Nat) : Int)), (4, .fn f [] []), (12, .int .i64 ((x.1 : Nat) : Int)), (13, .int .i64 ((x.2.1 : Nat) : Int)), (INH, .osl 1 (acells x.2.2) n none)]) (fun x => a < x.1 ∧ x.2.1 < b ∧ x.2.2.size = n ∧ x.1 ≤ n ∧ partLoop (ltc cf) a x.1 x.2.1 x.2.2 = partLoop (ltc cf) a (u0 + 1) (v0 - 1) (swp (swp d a pivot) u0 v0)) (fun x => x.2.1 + 1 - x.1) (u0 + 1, v0 - 1, swp (swp d a pivot) u0 v0) (ent_look ⟨wr, wr, wr, Weak.of_eq (int_eq (by dsimp only; omega)), Weak.of_eq (int_eq (by dsimp only; omega)), wr, trivial⟩) ⟨by dsimp only; omega, by dsimp only; omega, by rw [swp_size, swp_size]; exact hd, by dsimp only; omega, rfl⟩ (fun x hG => ?_)
        obtain ⟨g1, g2, g3, g4, g5⟩ := hG
        refine a_block ?_
        refine a_seq ?_
        refine a_block ?_
        refine a_loop (X := Nat) (fun u => look [(0, .rsl (INH, []) 1 0 n none), (1, .int .i64 ((a : Nat) : Int)), (4, .fn f [] []), (12, .int .i64 ((u : Nat) : Int)), (13, .int .i64 ((x.2.1 : Nat) : Int)), (INH, .osl 1 (acells x.2.2) n none)]) (fun u => x.1 ≤ u ∧ u ≤ n ∧ scanUp (fun w => ltc cf w x.2.2[a]!) x.2.2 x.2.1 u = scanUp (fun w => ltc cf w x.2.2[a]!) x.2.2 x.2.1 x.1) (fun u => x.2.1 + 1 - u) x.1 (ent_look ⟨wr, wr, wr, wr, wr, wr, trivial⟩) ⟨Nat.le_refl _, g4, rfl⟩ (fun u hG => ?_)
        obtain ⟨u1, u2, u3⟩ := hG
        refine a_seq ?_
        refine a_seq ?_
        refine a_region_any mixed (by kernel_rfl) ?_
        refine yv (v := .int _ _) (v_move il nf) ?_
        refine yv (v := .int _ _) (v_move il nf) ?_
        refine yv (v := .bool _) (v_leq il il) ?_
        refine yv (v := .bool _) (v_move il nf) ?_
        refine yh (v := .fn _ _ _) (v_move il nf).quiet ?_
        refine yh (v := .rsl _ _ _ _ _) (v_move il nf).quiet ?_
        refine yh (v := .int _ _) (v_move il nf).quiet ?_
        refine yg (v := .rp _ _) (v_indexAddr_rsl0 es25 (.inr ⟨_, rfl, fun h => h⟩) (.inr ⟨_, rfl, fun h => h⟩) (fun hA => by simp at hA; omega)).quiet rfl rfl rfl (by decide) (.inl ⟨_, rfl, rfl⟩) ?_
        refine yg (v := .int .i64 x.2.2[u]!) (v_load_rp1 ta3 (.inr ⟨_, rfl, fun h => h⟩) rfl (fun hA => by simp at hA; rw [Nat.mul_one]; exact acells_get (by omega)) rfl).quiet rfl rfl rfl (by decide) (.inl ⟨_, rfl, rfl⟩) ?_
        refine yh (v := .rsl _ _ _ _ _) (v_move il nf).quiet ?_
        refine yh (v := .int _ _) (v_move il nf).quiet ?_
        refine yg (v := .rp _ _) (v_indexAddr_rsl0 es25 (.inr ⟨_, rfl, fun h => h⟩) (.inr ⟨_, rfl, fun h => h⟩) (fun hA => by simp at hA; omega)).quiet rfl rfl rfl (by decide) (.inl ⟨_, rfl, rfl⟩) ?_
        refine yg (v := .int .i64 x.2.2[a]!) (v_load_rp1 ta3 (.inr ⟨_, rfl, fun h => h⟩) rfl (fun hA => by simp at hA; rw [Nat.mul_one]; exact acells_get (by omega)) rfl).quiet rfl rfl rfl (by decide) (.inl ⟨_, rfl, rfl⟩) ?_
        refine yg (v := .int _ _) (q_clo (vs := [.int _ _, .int _ _]) (args := [.int .i64 _, .int .i64 _]) hb (.inr ⟨_, rfl, fun h => h⟩) ⟨.inr ⟨_, rfl, fun h => h⟩, .inr ⟨_, rfl, fun h => h⟩, trivial⟩ rfl (fun hA => hc _ _) rfl rfl) rfl rfl rfl (by decide) (.inl ⟨_, rfl, rfl⟩) ?_
        refine yg (v := .bool _) (v_lss (.inr ⟨_, rfl, fun h => h⟩) il).quiet rfl rfl rfl (by decide) (.inl ⟨_, rfl, rfl⟩) ?_
        refine yv (v := .bool _) (v_pick (.inl rfl) (.inr ⟨_, rfl, fun h h2 => by simp_all⟩) (.inl rfl)) ?_
        refine y_nil ?_
        refine a_cond rfl (fun ht120 => ?_) (fun ht120 => ?_)
        ·
          refine a_skip ?_
          refine a_block ?_
          refine a_region ?_
          refine rm (.int _ _) ?_
          refine rv (v := .int _ _) (v_add il il (fun _ => by omega)) ?_
          refine ra (.int _ _) ?_
          refine r_nil ?_
          have hcu : (decide (u ≤ x.2.1) && ltc cf x.2.2[u]! x.2.2[a]!) = true := (by simpa [ltc] using ht120)
          refine ⟨u + 1, ent_look ⟨wr, wr, wr, Weak.of_eq (int_eq (by omega)), wr, wr, trivial⟩, ⟨by omega, by simp at hcu; omega, by rw [← u3]; exact up_more hcu⟩, by simp at hcu; omega⟩
        ·
          refine a_exit ?_
          refine a_seq ?_
          refine a_block ?_
          refine a_loop (X := Nat) (fun v => look [(0, .rsl (INH, []) 1 0 n none), (1, .int .i64 ((a : Nat) : Int)), (4, .fn f [] []), (12, .int .i64 ((u : Nat) : Int)), (13, .int .i64 ((v : Nat) : Int)), (INH, .osl 1 (acells x.2.2) n none)]) (fun v => v ≤ x.2.1 ∧ scanDown (fun w => !ltc cf w x.2.2[a]!) x.2.2 u v = scanDown (fun w => !ltc cf w x.2.2[a]!) x.2.2 u x.2.1) (fun v => v) x.2.1 (ent_look ⟨wr, wr, wr, wr, wr, wr, trivial⟩) ⟨Nat.le_refl _, rfl⟩ (fun v hG => ?_)
          obtain ⟨v1, v2⟩ := hG
          refine a_seq ?_
          refine a_seq ?_
          refine a_region_any mixed (by kernel_rfl) ?_
          refine yv (v := .int _ _) (v_move il nf) ?_
          refine yv (v := .int _ _) (v_move il nf) ?_
          refine yv (v := .bool _) (v_leq il il) ?_
          refine yv (v := .bool _) (v_move il nf) ?_
          refine yh (v := .fn _ _ _) (v_move il nf).quiet ?_
          refine yh (v := .rsl _ _ _ _ _) (v_move il nf).quiet ?_
          refine yh (v := .int _ _) (v_move il nf).quiet ?_
          refine yg (v := .rp _ _) (v_indexAddr_rsl0 es25 (.inr ⟨_, rfl, fun h => h⟩) (.inr ⟨_, rfl, fun h => h⟩) (fun hA => by simp at hA; omega)).quiet rfl rfl rfl (by decide) (.inl ⟨_, rfl, rfl⟩) ?_
          refine yg (v := .int .i64 x.2.2[v]!) (v_load_rp1 ta3 (.inr ⟨_, rfl, fun h => h⟩) rfl (fun hA => by simp at hA; rw [Nat.mul_one]; exact acells_get (by omega)) rfl).quiet rfl rfl rfl (by decide) (.inl ⟨_, rfl, rfl⟩) ?_
          refine yh (v := .rsl _ _ _ _ _) (v_move il nf).quiet ?_
          refine yh (v := .int _ _) (v_move il nf).quiet ?_
          refine yg (v := .rp _ _) (v_indexAddr_rsl0 es25 (.inr ⟨_, rfl, fun h => h⟩) (.inr ⟨_, rfl, fun h => h⟩) (fun hA => by simp at hA; omega)).quiet rfl rfl rfl (by decide) (.inl ⟨_, rfl, rfl⟩) ?_
          refine yg (v := .int .i64 x.2.2[a]!) (v_load_rp1 ta3 (.inr ⟨_, rfl, fun h => h⟩) rfl (fun hA => by simp at hA; rw [Nat.mul_one]; exact acells_get (by omega)) rfl).quiet rfl rfl rfl (by decide) (.inl ⟨_, rfl, rfl⟩) ?_
          refine yg (v := .int _ _) (q_clo (vs := [.int _ _, .int _ _]) (args := [.int .i64 _, .int .i64 _]) hb (.inr ⟨_, rfl, fun h => h⟩) ⟨.inr ⟨_, rfl, fun h => h⟩, .inr ⟨_, rfl, fun h => h⟩, trivial⟩ rfl (fun hA => hc _ _) rfl rfl) rfl rfl rfl (by decide) (.inl ⟨_, rfl, rfl⟩) ?_
          refine yg (v := .bool _) (v_lss (.inr ⟨_, rfl, fun h => h⟩) il).quiet rfl rfl rfl (by decide) (.inl ⟨_, rfl, rfl⟩) ?_
          refine yg (v := .bool _) (v_not (.inr ⟨_, rfl, fun h => h⟩)).quiet rfl rfl rfl (by decide) (.inl ⟨_, rfl, rfl⟩) ?_
          refine yv (v := .bool _) (v_pick (.inl rfl) (.inr ⟨_, rfl, fun h h2 => by simp_all⟩) (.inl rfl)) ?_
          refine y_nil ?_
          refine a_cond rfl (fun ht139 => ?_) (fun ht139 => ?_)
          ·
            refine a_skip ?_
            refine a_block ?_
            refine a_region ?_
            refine rm (.int _ _) ?_
            refine rv (v := .int _ _) (v_sub il il (fun _ => by omega)) ?_
            refine ra (.int _ _) ?_
            refine r_nil ?_
            have hcv : (decide (u ≤ v) && !ltc cf x.2.2[v]! x.2.2[a]!) = true := (by simpa [ltc] using ht139)
            refine ⟨v - 1, ent_look ⟨wr, wr, wr, wr, Weak.of_eq (int_eq (by simp at hcv; omega)), wr, trivial⟩, ⟨by omega, by rw [← v2]; exact down_more (by simp at hcv; omega) hcv⟩, by simp at hcv; omega⟩
          ·
            refine a_exit ?_
            refine a_seq ?_
            refine a_seq ?_
            have hup : scanUp (fun w => ltc cf w x.2.2[a]!) x.2.2 x.2.1 x.1 = u := (by rw [← u3]; exact up_stop (by simpa [ltc] using ht120))
            have hdn : scanDown (fun w => !ltc cf w x.2.2[a]!) x.2.2 u x.2.1 = v := (by rw [← v2]; exact down_stop (by simpa [ltc] using ht139))
            refine a_region ?_
            refine rm (.int _ _) ?_
            refine rm (.int _ _) ?_
            refine rv (v := .bool _) (v_gtr il il) ?_
            refine r_nil ?_
            refine a_cond rfl (fun ht144 => ?_) (fun ht144 => ?_)
            ·
              refine a_exit ?_
              refine a_seq ?_
              have hfin : (partition (ltc cf) d a b pivot) = (v, false, swp x.2.2 v a) := (by rw [hpm, ← g5, pl_end hup hdn (by simp at ht144; omega)])
              have hp1 : v * 1 + 1 ≤ (acells x.2.2).length := (by rw [acells_length]; omega)
              have hp2 : a * 1 + 1 ≤ ((acells x.2.2).set (v * 1) (.int .i64 x.2.2[a]!)).length := (by rw [List.length_set, acells_length]; omega)
              have hset : ((acells x.2.2).set (v * 1) (.int .i64 x.2.2[a]!)).set (a * 1) (.int .i64 x.2.2[v]!) = acells (swp x.2.2 v a) := (by rw [Nat.mul_one, Nat.mul_one]; exact acells_swp _ _ _)
              refine a_region_w [(163, true), (164, true), (165, true), (166, true), (167, true), (168, true), (169, true), (170, true), (171, true), (172, true), (173, true), (174, true), (175, true), (INH, false), (176, true), (INH, false)] mixed (by kernel_rfl) ?_
              refine wv (v := .rsl _ _ _ _ _) (v_move il nf) ?_
              refine wv (v := .int _ _) (v_move il nf) ?_
              refine wv (v := .rsl _ _ _ _ _) (v_move il nf) ?_
              refine wv (v := .int _ _) (v_move il nf) ?_
              refine wv (v := .rsl _ _ _ _ _) (v_move il nf) ?_
              refine wv (v := .int _ _) (v_move il nf) ?_
              refine wv (v := .rp _ _) (v_indexAddr_rsl0 es25 il il (fun _ => by omega)) ?_
              refine wv (v := .int .i64 x.2.2[a]!) (v_load_rp1 ta3 il rfl (fun _ => by rw [Nat.mul_one]; exact acells_get (by omega)) rfl) ?_
              refine wv (v := .rsl _ _ _ _ _) (v_move il nf) ?_
              refine wv (v := .int _ _) (v_move il nf) ?_
              refine wv (v := .rp _ _) (v_indexAddr_rsl0 es25 il il (fun _ => by omega)) ?_
              refine wv (v := .int .i64 x.2.2[v]!) (v_load_rp1 ta3 il rfl (fun _ => by rw [Nat.mul_one]; exact acells_get (by omega)) rfl) ?_
              refine wv (v := .rp _ _) (v_indexAddr_rsl0 es25 il il (fun _ => by omega)) ?_
              refine w_store (v := .int _ _) (y' := .osl _ _ _ _) rfl rfl rfl ta3 (.inl rfl) (.inl rfl) rfl rfl rfl rfl rfl rfl hp1 (by decide) rfl rfl rfl (by kernel_rfl) ?_
              refine wv (v := .rp _ _) (v_indexAddr_rsl0 es25 il il (fun _ => by omega)) ?_
              refine w_store (v := .int _ _) (y' := .osl _ _ _ _) rfl rfl rfl ta3 (.inl rfl) (.inl rfl) rfl rfl rfl rfl rfl rfl hp2 (by decide) rfl (congrArg (fun c => AV.osl 1 c n none) hset) rfl (by kernel_rfl) ?_
              refine w_nil ?_
              refine a_seq ?_
              refine a_pre (ent_look (L := [(0, .rsl _ _ _ _ _), (1, .int _ _), (4, .fn _ _ _), (12, .int _ _), (13, .int _ _), (INH, .osl _ _ _ _)]) ⟨wr, wr, wr, wr, wr, wr, trivial⟩) ?_
              refine a_region ?_
              refine rm (.int _ _) ?_
              refine ra (.int _ _) ?_
              refine ra (.bool _) ?_
              refine r_nil ?_
              refine a_ret ?_
              refine retLO (rs := [.tmp 10, .tmp 11]) [(10, _), (11, _)] ⟨(Weak.of_eq (osl_eq (by rw [hfin]))), wr, wr, trivial⟩ rfl Tryz.results192 (by decide) ⟨by decide, by decide, rfl⟩ (by decide) (by decide) (l2_eq (int_eq ?_) (bool_eq ?_)) rfl rfl
              · rw [hfin]
              · rw [hfin]
            ·
              refine a_skip ?_
              refine a_seq ?_
              have huv : u ≤ v := (by simp at ht144; omega)
              have hp1 : u * 1 + 1 ≤ (acells x.2.2).length := (by rw [acells_length]; omega)
              have hp2 : v * 1 + 1 ≤ ((acells x.2.2).set (u * 1) (.int .i64 x.2.2[v]!)).length := (by rw [List.length_set, acells_length]; omega)
              have hset : ((acells x.2.2).set (u * 1) (.int .i64 x.2.2[v]!)).set (v * 1) (.int .i64 x.2.2[u]!) = acells (swp x.2.2 u v) := (by rw [Nat.mul_one, Nat.mul_one]; exact acells_swp _ _ _)
              refine a_region_w [(145, true), (146, true), (147, true), (148, true), (149, true), (150, true), (151, true), (152, true), (153, true), (154, true), (155, true), (156, true), (157, true), (INH, false), (158, true), (INH, false)] mixed (by kernel_rfl) ?_
              refine wv (v := .rsl _ _ _ _ _) (v_move il nf) ?_
              refine wv (v := .int _ _) (v_move il nf) ?_
              refine wv (v := .rsl _ _ _ _ _) (v_move il nf) ?_
              refine wv (v := .int _ _) (v_move il nf) ?_
              refine wv (v := .rsl _ _ _ _ _) (v_move il nf) ?_
              refine wv (v := .int _ _) (v_move il nf) ?_
              refine wv (v := .rp _ _) (v_indexAddr_rsl0 es25 il il (fun _ => by omega)) ?_
              refine wv (v := .int .i64 x.2.2[v]!) (v_load_rp1 ta3 il rfl (fun _ => by rw [Nat.mul_one]; exact acells_get (by omega)) rfl) ?_
              refine wv (v := .rsl _ _ _ _ _) (v_move il nf) ?_
              refine wv (v := .int _ _) (v_move il nf) ?_
              refine wv (v := .rp _ _) (v_indexAddr_rsl0 es25 il il (fun _ => by omega)) ?_
              refine wv (v := .int .i64 x.2.2[u]!) (v_load_rp1 ta3 il rfl (fun _ => by rw [Nat.mul_one]; exact acells_get (by omega)) rfl) ?_
              refine wv (v := .rp _ _) (v_indexAddr_rsl0 es25 il il (fun _ => by omega)) ?_
              refine w_store (v := .int _ _) (y' := .osl _ _ _ _) rfl rfl rfl ta3 (.inl rfl) (.inl rfl) rfl rfl rfl rfl rfl rfl hp1 (by decide) rfl rfl rfl (by kernel_rfl) ?_
              refine wv (v := .rp _ _) (v_indexAddr_rsl0 es25 il il (fun _ => by omega)) ?_
              refine w_store (v := .int _ _) (y' := .osl _ _ _ _) rfl rfl rfl ta3 (.inl rfl) (.inl rfl) rfl rfl rfl rfl rfl rfl hp2 (by decide) rfl (congrArg (fun c => AV.osl 1 c n none) hset) rfl (by kernel_rfl) ?_
              refine w_nil ?_
              refine a_seq ?_
              refine a_pre (ent_look (L := [(0, .rsl _ _ _ _ _), (1, .int _ _), (4, .fn _ _ _), (12, .int _ _), (13, .int _ _), (INH, .osl _ _ _ _)]) ⟨wr, wr, wr, wr, wr, wr, trivial⟩) ?_
              refine a_region ?_
              refine rm (.int _ _) ?_
              refine rv (v := .int _ _) (v_add il il (fun _ => by omega)) ?_
              refine ra (.int _ _) ?_
              refine r_nil ?_
              refine a_region ?_
              refine rm (.int _ _) ?_
              refine rv (v := .int _ _) (v_sub il il (fun _ => by omega)) ?_
              refine ra (.int _ _) ?_
              refine r_nil ?_
              refine ⟨(u + 1, v - 1, swp x.2.2 u v), ent_look ⟨wr, wr, wr, Weak.of_eq (int_eq (by dsimp only; omega)), Weak.of_eq (int_eq (by dsimp only; omega)), wr, trivial⟩, ⟨by dsimp only; omega, by dsimp only; omega, by rw [swp_size]; exact g3, by dsimp only; omega, by rw [← g5]; exact (pl_more hup hdn (by omega)).symm⟩, by dsimp only; omega⟩
theorem partialIns_c (f : Nat) (hb : hasBody Tryz.prog f = true) (cf : Int → Int → Int) (hc : ∀ x y, ACall Tryz.prog f [.int .i64 x, .int .i64 y] [] (.int .i64 (cf x y)) []) (d : Array Int) (n a b : Nat) (hd : d.size = n) (hab : a < b ∧ b ≤ n) (hn : n ≤ 1152921504606846976) : ACall Tryz.prog 190 [.rsl (INH, []) 1 0 n none, .int .i64 ((a : Nat) : Int), .int .i64 ((b : Nat) : Int), .fn f [] []] [.osl 1 (acells d) n none] (.bool (partialInsertionSort (ltc cf) d a b).2) [.osl 1 (acells ((partialInsertionSort (ltc cf) d a b).1)) n none] := by
 refine ACall.intro Tryz.func190 rfl (N := 141) rfl (by decide) (by simp) ?_
 refine aq ?_
 refine ra (.bool _) ?_
 refine r_nil ?_
 refine aq ?_
 refine rm (.int _ _) ?_
 refine rv (v := .int _ _) (v_add il il (fun _ => by omega)) ?_
 refine ra (.int _ _) ?_
 refine r_nil ?_
 refine a_seq ?_
 refine aq ?_
 refine ra (.int _ _) ?_
 refine r_nil ?_
 refine a_block ?_
 refine a_loop (X := (Nat × Nat × Array Int)) (fun x => look [(0, .rsl (INH, []) 1 0 n none), (1, .int .i64 ((a : Nat) : Int)), (2, .int .i64 ((b : Nat) : Int)), (3, .fn f [] []), (9, .int .i64 ((x.2.1 : Nat) : Int)), (10, .int .i64 ((x.1 : Nat) : Int)), (INH, .osl 1 (acells x.2.2) n none)]) (fun x => x.1 ≤ 5 ∧ a < x.2.1 ∧ x.2.1 ≤ b ∧ x.2.2.size = n ∧ partialIns (ltc cf) a b (5 - x.1) x.2.1 x.2.2 = (partialInsertionSort (ltc cf) d a b)) (fun x => 5 - x.1) (0, a + 1, d) (ent_look ⟨wr, wr, wr, wr, Weak.of_eq (int_eq (by dsimp only; omega)), Weak.of_eq (int_eq (by dsimp only; omega)), wr, trivial⟩) ⟨by dsimp only; omega, by dsimp only; omega, by dsimp only; omega, hd, rfl⟩ (fun x hG => ?_)
 obtain ⟨g1, g2, g3, g4, g5⟩ := hG
 refine a_seq ?_
 refine aq ?_
 refine rm (.int _ _) ?_
 refine rv (v := .bool _) (v_lss il il) ?_
 refine r_nil ?_
 refine a_cond rfl (fun ht16 => ?_) (fun ht16 => ?_)
 ·
  refine a_skip ?_
  refine a_seq ?_
  refine a_block ?_
  refine a_seq ?_
  refine a_block ?_
  refine a_loop (X := Nat) (fun u => look [(0, .rsl (INH, []) 1 0 n none), (1, .int .i64 ((a : Nat) : Int)), (2, .int .i64 ((b : Nat) : Int)), (3, .fn f [] []), (9, .int .i64 ((u : Nat) : Int)), (10, .int .i64 ((x.1 : Nat) : Int)), (INH, .osl 1 (acells x.2.2) n none)]) (fun u => x.2.1 ≤ u ∧ u ≤ b ∧ scanSorted (ltc cf) x.2.2 b u = scanSorted (ltc cf) x.2.2 b x.2.1) (fun u => b - u) x.2.1 (ent_look ⟨wr, wr, wr, wr, wr, wr, wr, trivial⟩) ⟨Nat.le_refl _, g3, rfl⟩ (fun u hG => ?_)
  obtain ⟨u1, u2, u3⟩ := hG
  refine a_seq ?_
  refine a_seq ?_
  refine a_region_any mixed (by kernel_rfl) ?_
  refine yv (v := .int _ _) (v_move il nf) ?_
  refine yv (v := .int _ _) (v_move il nf) ?_
  refine yv (v := .bool _) (v_lss il il) ?_
  refine yv (v := .bool _) (v_move il nf) ?_
  refine yh (v := .fn _ _ _) (v_move il nf).quiet ?_
  refine yh (v := .rsl _ _ _ _ _) (v_move il nf).quiet ?_
  refine yh (v := .int _ _) (v_move il nf).quiet ?_
  refine yg (v := .rp _ _) (v_indexAddr_rsl0 es25 (.inr ⟨_, rfl, fun h => h⟩) (.inr ⟨_, rfl, fun h => h⟩) (fun hA => by simp at hA; omega)).quiet rfl rfl rfl (by decide) (.inl ⟨_, rfl, rfl⟩) ?_
  refine yg (v := .int .i64 x.2.2[u]!) (v_load_rp1 ta3 (.inr ⟨_, rfl, fun h => h⟩) rfl (fun hA => by simp at hA; rw [Nat.mul_one]; exact acells_get (by omega)) rfl).quiet rfl rfl rfl (by decide) (.inl ⟨_, rfl, rfl⟩) ?_
  refine yh (v := .rsl _ _ _ _ _) (v_move il nf).quiet ?_
  refine yh (v := .int _ _) (v_move il nf).quiet ?_
  refine yg (v := .int _ _) (v_sub (.inr ⟨_, rfl, fun h => h⟩) il (fun hA => by simp at hA; omega)).quiet rfl rfl rfl (by decide) (.inl ⟨_, rfl, rfl⟩) ?_
  refine yg (v := .rp _ _) (v_indexAddr_rsl0 es25 (.inr ⟨_, rfl, fun h => h⟩) (.inr ⟨_, rfl, fun h => h⟩) (fun hA => by simp at hA; omega)).quiet rfl rfl rfl (by decide) (.inl ⟨_, rfl, rfl⟩) ?_
  refine yg (v := .int .i64 x.2.2[u - 1]!) (v_load_rp1 ta3 (.inr ⟨_, rfl, fun h => h⟩) rfl (fun hA => by simp at hA; rw [show ((u : Int) - 1).toNat = u - 1 by omega, Nat.mul_one]; exact acells_get (by omega)) rfl).quiet rfl rfl rfl (by decide) (.inl ⟨_, rfl, rfl⟩) ?_
  refine yg (v := .int _ _) (q_clo (vs := [.int _ _, .int _ _]) (args := [.int .i64 _, .int .i64 _]) hb (.inr ⟨_, rfl, fun h => h⟩) ⟨.inr ⟨_, rfl, fun h => h⟩, .inr ⟨_, rfl, fun h => h⟩, trivial⟩ rfl (fun hA => hc _ _) rfl rfl) rfl rfl rfl (by decide) (.inl ⟨_, rfl, rfl⟩) ?_
  refine yg (v := .bool _) (v_lss (.inr ⟨_, rfl, fun h => h⟩) il).quiet rfl rfl rfl (by decide) (.inl ⟨_, rfl, rfl⟩) ?_
  refine yg (v := .bool _) (v_not (.inr ⟨_, rfl, fun h => h⟩)).quiet rfl rfl rfl (by decide) (.inl ⟨_, rfl, rfl⟩) ?_
  refine yv (v := .bool _) (v_pick (.inl rfl) (.inr ⟨_, rfl, fun h h2 => by simp_all⟩) (.inl rfl)) ?_
  refine y_nil ?_
  refine a_cond rfl (fun ht36 => ?_) (fun ht36 => ?_)
  ·
   refine a_skip ?_
   refine a_block ?_
   refine a_region ?_
   refine rm (.int _ _) ?_
   refine rv (v := .int _ _) (v_add il il (fun _ => by omega)) ?_
   refine ra (.int _ _) ?_
   refine r_nil ?_
   have hcu : (decide (u < b) && !ltc cf x.2.2[u]! x.2.2[u - 1]!) = true := (by simpa [ltc] using ht36)
   refine ⟨u + 1, ent_look ⟨wr, wr, wr, wr, Weak.of_eq (int_eq (by omega)), wr, wr, trivial⟩, ⟨by omega, by simp at hcu; omega, by rw [← u3]; exact ss_more hcu⟩, by simp at hcu; omega⟩
  ·
   refine a_exit ?_
   refine a_seq ?_
   refine a_seq ?_
   have hss : scanSorted (ltc cf) x.2.2 b x.2.1 = u := (by rw [← u3]; exact ss_stop (by simpa [ltc] using ht36))
   have hx4 : x.1 < 5 := (by simp at ht16; omega)
   have e5 : 5 - x.1 = (5 - (x.1 + 1)) + 1 := (by omega)
   refine a_region ?_
   refine rm (.int _ _) ?_
   refine rm (.int _ _) ?_
   refine rv (v := .bool _) (v_eql il il) ?_
   refine r_nil ?_
   refine a_cond rfl (fun ht41 => ?_) (fun ht41 => ?_)
   ·
    refine a_seq ?_
    have hfin : (partialInsertionSort (ltc cf) d a b) = (x.2.2, true) := (by rw [← g5, e5]; exact pi_true hss (by simp at ht41; omega))
    refine a_region ?_
    refine ra (.bool _) ?_
    refine r_nil ?_
    refine a_ret ?_
    refine ret1 Tryz.results190 (by decide) (by decide) (Weak.of_eq (bool_eq ?_)) rfl (Leaves.one (Weak.of_eq (osl_eq (by rw [hfin]))) rfl)
    rw [hfin]
   ·
    refine a_skip ?_
    refine a_seq ?_
    refine a_seq ?_
    have hub : ¬ u = b := (by simp at ht41; omega)
    refine a_region ?_
    refine rm (.int _ _) ?_
    refine rm (.int _ _) ?_
    refine rv (v := .int _ _) (v_sub il il (fun _ => by omega)) ?_
    refine rv (v := .bool _) (v_lss il il) ?_
    refine r_nil ?_
    refine a_cond rfl (fun ht45 => ?_) (fun ht45 => ?_)
    ·
     refine a_seq ?_
     refine a_pre (ent_look (L := [(0, .rsl _ _ _ _ _), (1, .int _ _), (2, .int _ _), (3, .fn _ _ _), (9, .int _ _), (10, .int _ _), (INH, .osl _ _ _ _)]) ⟨wr, wr, wr, wr, wr, wr, wr, trivial⟩) ?_
     have hfin : (partialInsertionSort (ltc cf) d a b) = (x.2.2, false) := (by rw [← g5, e5]; exact pi_false hss hub (by simp at ht45; omega))
     refine a_region ?_
     refine ra (.bool _) ?_
     refine r_nil ?_
     refine a_ret ?_
     refine ret1 Tryz.results190 (by decide) (by decide) (Weak.of_eq (bool_eq ?_)) rfl (Leaves.one (Weak.of_eq (osl_eq (by rw [hfin]))) rfl)
     rw [hfin]
    ·
     refine a_skip ?_
     refine a_seq ?_
     refine a_pre (ent_look (L := [(0, .rsl _ _ _ _ _), (1, .int _ _), (2, .int _ _), (3, .fn _ _ _), (9, .int _ _), (10, .int _ _), (INH, .osl _ _ _ _)]) ⟨wr, wr, wr, wr, wr, wr, wr, trivial⟩) ?_
     have h50 : ¬ b - a < 50 := (by simp at ht45; omega)
     have hp1 : u * 1 + 1 ≤ (acells x.2.2).length := (by rw [acells_length]; omega)
     have hp2 : (u - 1) * 1 + 1 ≤ ((acells x.2.2).set (u * 1) (.int .i64 x.2.2[(u - 1)]!)).length := (by rw [List.length_set, acells_length]; omega)
     have hset : ((acells x.2.2).set (u * 1) (.int .i64 x.2.2[(u - 1)]!)).set ((u - 1) * 1) (.int .i64 x.2.2[u]!) = acells (swp x.2.2 u (u - 1)) := (by rw [Nat.mul_one, Nat.mul_one]; exact acells_swp _ _ _)
     refine a_region_w [(46, true), (47, true), (48, true), (49, true), (50, true), (51, true), (52, true), (53, true), (54, true), (55, true), (56, true), (57, true), (58, true), (59, true), (60, true), (INH, false), (61, true), (INH, false)] mixed (by kernel_rfl) ?_
     refine wv (v := .rsl _ _ _ _ _) (v_move il nf) ?_
     refine wv (v := .int _ _) (v_move il nf) ?_
     refine wv (v := .rsl _ _ _ _ _) (v_move il nf) ?_
     refine wv (v := .int _ _) (v_move il nf) ?_
     refine wv (v := .int .i64 ((u - 1 : Nat) : Int)) ((v_sub il il (fun _ => by omega)).cast (int_eq (by omega))) ?_
     refine wv (v := .rsl _ _ _ _ _) (v_move il nf) ?_
     refine wv (v := .int _ _) (v_move il nf) ?_
     refine wv (v := .int .i64 ((u - 1 : Nat) : Int)) ((v_sub il il (fun _ => by omega)).cast (int_eq (by omega))) ?_
     refine wv (v := .rp _ _) (v_indexAddr_rsl0 es25 il il (fun _ => by omega)) ?_
     refine wv (v := .int .i64 x.2.2[u - 1]!) (v_load_rp1 ta3 il rfl (fun _ => by rw [Nat.mul_one]; exact acells_get (by omega)) rfl) ?_
     refine wv (v := .rsl _ _ _ _ _) (v_move il nf) ?_
     refine wv (v := .int _ _) (v_move il nf) ?_
     refine wv (v := .rp _ _) (v_indexAddr_rsl0 es25 il il (fun _ => by omega)) ?_
     refine wv (v := .int .i64 x.2.2[u]!) (v_load_rp1 ta3 il rfl (fun _ => by rw [Nat.mul_one]; exact acells_get (by omega)) rfl) ?_
     refine wv (v := .rp _ _) (v_indexAddr_rsl0 es25 il il (fun _ => by omega)) ?_
     refine w_store (v := .int _ _) (y' := .osl _ _ _ _) rfl rfl rfl ta3 (.inl rfl) (.inl rfl) rfl rfl rfl rfl rfl rfl hp1 (by decide) rfl rfl rfl (by kernel_rfl) ?_
     refine wv (v := .rp _ _) (v_indexAddr_rsl0 es25 il il (fun _ => by omega)) ?_
     refine w_store (v := .int _ _) (y' := .osl _ _ _ _) rfl rfl rfl ta3 (.inl rfl) (.inl rfl) rfl rfl rfl rfl rfl rfl hp2 (by decide) rfl (congrArg (fun c => AV.osl 1 c n none) hset) rfl (by kernel_rfl) ?_
     refine w_nil ?_
     refine a_seq ?_
     refine aq ?_
     refine rm (.int _ _) ?_
     refine rm (.int _ _) ?_
     refine rv (v := .int _ _) (v_sub il il (fun _ => by omega)) ?_
     refine rv (v := .bool _) (v_geq il il) ?_
     refine r_nil ?_
     refine a_cond rfl (fun ht65 => ?_) (fun ht65 => ?_)
     ·
      refine aq ?_
      refine rm (.int _ _) ?_
      refine rv (v := .int _ _) (v_sub il il (fun _ => by omega)) ?_
      refine ra (.int _ _) ?_
      refine r_nil ?_
      refine a_block ?_
      refine a_loop (X := (Nat × Array Int)) (fun y => look [(0, .rsl (INH, []) 1 0 n none), (1, .int .i64 ((a : Nat) : Int)), (2, .int .i64 ((b : Nat) : Int)), (3, .fn f [] []), (9, .int .i64 ((u : Nat) : Int)), (10, .int .i64 ((x.1 : Nat) : Int)), (11, .int .i64 ((y.1 : Nat) : Int)), (INH, .osl 1 (acells y.2) n none)]) (fun y => y.1 < n ∧ y.2.size = n ∧ shiftDown (ltc cf) y.1 y.2 = shiftDown (ltc cf) (u - 1) (swp x.2.2 u (u - 1))) (fun y => y.1) (u - 1, swp x.2.2 u (u - 1)) (ent_look ⟨wr, wr, wr, wr, wr, wr, Weak.of_eq (int_eq (by dsimp only; omega)), wr, trivial⟩) ⟨by dsimp only; omega, by rw [swp_size]; exact g4, rfl⟩ (fun y hG => ?_)
      obtain ⟨y1, y2, y3⟩ := hG
      refine a_seq ?_
      refine aq ?_
      refine rm (.int _ _) ?_
      refine rv (v := .bool _) (v_geq il il) ?_
      refine r_nil ?_
      refine a_cond rfl (fun ht69 => ?_) (fun ht69 => ?_)
      ·
       refine a_skip ?_
       refine a_seq ?_
       refine a_block ?_
       refine a_seq ?_
       refine a_seq ?_
       have hy1 : 1 ≤ y.1 := (by simp at ht69; omega)
       refine a_region_any mixed (by kernel_rfl) ?_
       refine yv (v := .fn _ _ _) (v_mv rfl) ?_
       refine yv (v := .rsl _ _ _ _ _) (v_move il nf) ?_
       refine yv (v := .int _ _) (v_move il nf) ?_
       refine yv (v := .rp _ _) (v_indexAddr_rsl0 es25 il il (fun _ => by omega)) ?_
       refine yv (v := .int .i64 y.2[y.1]!) (v_load_rp1 ta3 il rfl (fun _ => by rw [Nat.mul_one]; exact acells_get (by omega)) rfl) ?_
       refine yv (v := .rsl _ _ _ _ _) (v_move il nf) ?_
       refine yv (v := .int _ _) (v_move il nf) ?_
       refine yv (v := .int .i64 ((y.1 - 1 : Nat) : Int)) ((v_sub il il (fun _ => by omega)).cast (int_eq (by omega))) ?_
       refine yv (v := .rp _ _) (v_indexAddr_rsl0 es25 il il (fun _ => by omega)) ?_
       refine yv (v := .int .i64 y.2[y.1 - 1]!) (v_load_rp1 ta3 il rfl (fun _ => by rw [Nat.mul_one]; exact acells_get (by omega)) rfl) ?_
       refine y_new (v := .int _ _) (q_clo (vs := [.int _ _, .int _ _]) (args := [.int .i64 _, .int .i64 _]) hb (.inl rfl) ⟨.inl rfl, .inl rfl, trivial⟩ rfl (fun hA => hc _ _) rfl rfl) rfl rfl (by decide) (by kernel_rfl) ?_
       refine yv (v := .bool _) (v_lss il il) ?_
       refine yv (v := .bool _) (v_not il) ?_
       refine y_nil ?_
       refine a_cond rfl (fun ht84 => ?_) (fun ht84 => ?_)
       ·
        refine a_exit ?_
        refine a_seq ?_
        refine a_pre (ent_eq (t := INH) (v' := .osl 1 (acells (afterDown (ltc cf) a u (swp x.2.2 u (u - 1)))) n none) (Weak.of_eq (osl_eq (by unfold afterDown; first | (rw [if_pos (by simp at ht65; omega), ← y3, show y.1 = 0 by simp at ht69; omega]; rfl) | (rw [if_pos (by simp at ht65; omega), ← y3, sd_stop (by simpa [ltc] using ht84)]; done) | (rw [if_neg (by simp at ht65; omega)]))))) ?_
        refine a_region ?_
        refine rm (.int _ _) ?_
        refine rm (.int _ _) ?_
        refine rv (v := .int _ _) (v_sub il il (fun _ => by omega)) ?_
        refine rv (v := .bool _) (v_geq il il) ?_
        refine r_nil ?_
        refine a_cond rfl (fun ht104 => ?_) (fun ht104 => ?_)
        ·
         refine a_seq ?_
         have hup2 : b - u ≥ 2 := (by simp at ht104; omega)
         refine a_region ?_
         refine rm (.int _ _) ?_
         refine rv (v := .int _ _) (v_add il il (fun _ => by omega)) ?_
         refine ra (.int _ _) ?_
         refine r_nil ?_
         refine a_block ?_
         refine a_loop (X := (Nat × Array Int)) (fun z => look [(0, .rsl (INH, []) 1 0 n none), (1, .int .i64 ((a : Nat) : Int)), (2, .int .i64 ((b : Nat) : Int)), (3, .fn f [] []), (9, .int .i64 ((u : Nat) : Int)), (10, .int .i64 ((x.1 : Nat) : Int)), (12, .int .i64 ((z.1 : Nat) : Int)), (INH, .osl 1 (acells z.2) n none)]) (fun z => 1 ≤ z.1 ∧ z.1 ≤ n ∧ z.2.size = n ∧ shiftUp (ltc cf) b z.1 z.2 = shiftUp (ltc cf) b (u + 1) (afterDown (ltc cf) a u (swp x.2.2 u (u - 1)))) (fun z => b - z.1) (u + 1, (afterDown (ltc cf) a u (swp x.2.2 u (u - 1)))) (ent_look ⟨wr, wr, wr, wr, wr, wr, Weak.of_eq (int_eq (by dsimp only; omega)), wr, trivial⟩) ⟨by dsimp only; omega, by dsimp only; omega, by rw [ad_size, swp_size]; exact g4, rfl⟩ (fun z hG => ?_)
         obtain ⟨w0, w1, w2, w3⟩ := hG
         refine a_seq ?_
         refine aq ?_
         refine rm (.int _ _) ?_
         refine rm (.int _ _) ?_
         refine rv (v := .bool _) (v_lss il il) ?_
         refine r_nil ?_
         refine a_cond rfl (fun ht109 => ?_) (fun ht109 => ?_)
         ·
          refine a_skip ?_
          refine a_seq ?_
          refine a_block ?_
          refine a_seq ?_
          refine a_seq ?_
          have hzb : z.1 < b := (by simpa using ht109)
          refine a_region_any mixed (by kernel_rfl) ?_
          refine yv (v := .fn _ _ _) (v_mv rfl) ?_
          refine yv (v := .rsl _ _ _ _ _) (v_move il nf) ?_
          refine yv (v := .int _ _) (v_move il nf) ?_
          refine yv (v := .rp _ _) (v_indexAddr_rsl0 es25 il il (fun _ => by omega)) ?_
          refine yv (v := .int .i64 z.2[z.1]!) (v_load_rp1 ta3 il rfl (fun _ => by rw [Nat.mul_one]; exact acells_get (by omega)) rfl) ?_
          refine yv (v := .rsl _ _ _ _ _) (v_move il nf) ?_
          refine yv (v := .int _ _) (v_move il nf) ?_
          refine yv (v := .int .i64 ((z.1 - 1 : Nat) : Int)) ((v_sub il il (fun _ => by omega)).cast (int_eq (by omega))) ?_
          refine yv (v := .rp _ _) (v_indexAddr_rsl0 es25 il il (fun _ => by omega)) ?_
          refine yv (v := .int .i64 z.2[z.1 - 1]!) (v_load_rp1 ta3 il rfl (fun _ => by rw [Nat.mul_one]; exact acells_get (by omega)) rfl) ?_
          refine y_new (v := .int _ _) (q_clo (vs := [.int _ _, .int _ _]) (args := [.int .i64 _, .int .i64 _]) hb (.inl rfl) ⟨.inl rfl, .inl rfl, trivial⟩ rfl (fun hA => hc _ _) rfl rfl) rfl rfl (by decide) (by kernel_rfl) ?_
          refine yv (v := .bool _) (v_lss il il) ?_
          refine yv (v := .bool _) (v_not il) ?_
          refine y_nil ?_
          refine a_cond rfl (fun ht124 => ?_) (fun ht124 => ?_)
          ·
           refine a_exit ?_
           refine a_region ?_
           refine rm (.int _ _) ?_
           refine rv (v := .int _ _) (v_add il il (fun _ => by omega)) ?_
           refine ra (.int _ _) ?_
           refine r_nil ?_
           refine ⟨(x.1 + 1, u, afterUp (ltc cf) b u (afterDown (ltc cf) a u (swp x.2.2 u (u - 1)))), ent_look ⟨wr, wr, wr, wr, wr, Weak.of_eq (int_eq (by dsimp only; omega)), Weak.of_eq (osl_eq (by unfold afterUp; first | (rw [if_pos hup2, ← w3, su_end (by simpa using ht109)]; done) | (rw [if_pos hup2, ← w3, su_stop (by simpa [ltc] using ht124)]; done) | (rw [if_neg (by simp at ht104; omega)]))), trivial⟩, ⟨by dsimp only; omega, by dsimp only; omega, by dsimp only; omega, by rw [au_size, ad_size, swp_size]; exact g4, by rw [← g5, show 5 - x.1 = (5 - (x.1 + 1)) + 1 by omega]; exact (pi_more hss hub h50).symm⟩, by dsimp only; omega⟩
          ·
           refine a_skip ?_
           have hzl : ltc cf z.2[z.1]! z.2[z.1 - 1]! = true := (by simpa [ltc] using ht124)
           have hp1 : z.1 * 1 + 1 ≤ (acells z.2).length := (by rw [acells_length]; omega)
           have hp2 : (z.1 - 1) * 1 + 1 ≤ ((acells z.2).set (z.1 * 1) (.int .i64 z.2[(z.1 - 1)]!)).length := (by rw [List.length_set, acells_length]; omega)
           have hset : ((acells z.2).set (z.1 * 1) (.int .i64 z.2[(z.1 - 1)]!)).set ((z.1 - 1) * 1) (.int .i64 z.2[z.1]!) = acells (swp z.2 z.1 (z.1 - 1)) := (by rw [Nat.mul_one, Nat.mul_one]; exact acells_swp _ _ _)
           refine a_region_w [(125, true), (126, true), (127, true), (128, true), (129, true), (130, true), (131, true), (132, true), (133, true), (134, true), (135, true), (136, true), (137, true), (138, true), (139, true), (INH, false), (140, true), (INH, false)] mixed (by kernel_rfl) ?_
           refine wv (v := .rsl _ _ _ _ _) (v_move il nf) ?_
           refine wv (v := .int _ _) (v_move il nf) ?_
           refine wv (v := .rsl _ _ _ _ _) (v_move il nf) ?_
           refine wv (v := .int _ _) (v_move il nf) ?_
           refine wv (v := .int .i64 ((z.1 - 1 : Nat) : Int)) ((v_sub il il (fun _ => by omega)).cast (int_eq (by omega))) ?_
           refine wv (v := .rsl _ _ _ _ _) (v_move il nf) ?_
           refine wv (v := .int _ _) (v_move il nf) ?_
           refine wv (v := .int .i64 ((z.1 - 1 : Nat) : Int)) ((v_sub il il (fun _ => by omega)).cast (int_eq (by omega))) ?_
           refine wv (v := .rp _ _) (v_indexAddr_rsl0 es25 il il (fun _ => by omega)) ?_
           refine wv (v := .int .i64 z.2[z.1 - 1]!) (v_load_rp1 ta3 il rfl (fun _ => by rw [Nat.mul_one]; exact acells_get (by omega)) rfl) ?_
           refine wv (v := .rsl _ _ _ _ _) (v_move il nf) ?_
           refine wv (v := .int _ _) (v_move il nf) ?_
           refine wv (v := .rp _ _) (v_indexAddr_rsl0 es25 il il (fun _ => by omega)) ?_
           refine wv (v := .int .i64 z.2[z.1]!) (v_load_rp1 ta3 il rfl (fun _ => by rw [Nat.mul_one]; exact acells_get (by omega)) rfl) ?_
           refine wv (v := .rp _ _) (v_indexAddr_rsl0 es25 il il (fun _ => by omega)) ?_
           refine w_store (v := .int _ _) (y' := .osl _ _ _ _) rfl rfl rfl ta3 (.inl rfl) (.inl rfl) rfl rfl rfl rfl rfl rfl hp1 (by decide) rfl rfl rfl (by kernel_rfl) ?_
           refine wv (v := .rp _ _) (v_indexAddr_rsl0 es25 il il (fun _ => by omega)) ?_
           refine w_store (v := .int _ _) (y' := .osl _ _ _ _) rfl rfl rfl ta3 (.inl rfl) (.inl rfl) rfl rfl rfl rfl rfl rfl hp2 (by decide) rfl (congrArg (fun c => AV.osl 1 c n none) hset) rfl (by kernel_rfl) ?_
           refine w_nil ?_
           refine a_pre (ent_look (L := [(0, .rsl _ _ _ _ _), (1, .int _ _), (2, .int _ _), (3, .fn _ _ _), (9, .int _ _), (10, .int _ _), (12, .int _ _), (INH, .osl _ _ _ _)]) ⟨wr, wr, wr, wr, wr, wr, wr, wr, trivial⟩) ?_
           refine a_region ?_
           refine rm (.int _ _) ?_
           refine rv (v := .int _ _) (v_add il il (fun _ => by omega)) ?_
           refine ra (.int _ _) ?_
           refine r_nil ?_
           refine ⟨(z.1 + 1, swp z.2 z.1 (z.1 - 1)), ent_look ⟨wr, wr, wr, wr, wr, wr, Weak.of_eq (int_eq (by dsimp only; omega)), wr, trivial⟩, ⟨by dsimp only; omega, by dsimp only; omega, by rw [swp_size]; exact w2, by rw [← w3]; exact su_more hzb hzl⟩, by dsimp only; omega⟩
         ·
          refine a_exit ?_
          refine a_region ?_
          refine rm (.int _ _) ?_
          refine rv (v := .int _ _) (v_add il il (fun _ => by omega)) ?_
          refine ra (.int _ _) ?_
          refine r_nil ?_
          refine ⟨(x.1 + 1, u, afterUp (ltc cf) b u (afterDown (ltc cf) a u (swp x.2.2 u (u - 1)))), ent_look ⟨wr, wr, wr, wr, wr, Weak.of_eq (int_eq (by dsimp only; omega)), Weak.of_eq (osl_eq (by unfold afterUp; first | (rw [if_pos hup2, ← w3, su_end (by simpa using ht109)]; done) | (rw [if_pos hup2, ← w3, su_stop (by simpa [ltc] using ht124)]; done) | (rw [if_neg (by simp at ht104; omega)]))), trivial⟩, ⟨by dsimp only; omega, by dsimp only; omega, by dsimp only; omega, by rw [au_size, ad_size, swp_size]; exact g4, by rw [← g5, show 5 - x.1 = (5 - (x.1 + 1)) + 1 by omega]; exact (pi_more hss hub h50).symm⟩, by dsimp only; omega⟩
        ·
         refine a_skip ?_
         refine a_region ?_
         refine rm (.int _ _) ?_
         refine rv (v := .int _ _) (v_add il il (fun _ => by omega)) ?_
         refine ra (.int _ _) ?_
         refine r_nil ?_
         refine ⟨(x.1 + 1, u, afterUp (ltc cf) b u (afterDown (ltc cf) a u (swp x.2.2 u (u - 1)))), ent_look ⟨wr, wr, wr, wr, wr, Weak.of_eq (int_eq (by dsimp only; omega)), Weak.of_eq (osl_eq (by unfold afterUp; first | (rw [if_pos hup2, ← w3, su_end (by simpa using ht109)]; done) | (rw [if_pos hup2, ← w3, su_stop (by simpa [ltc] using ht124)]; done) | (rw [if_neg (by simp at ht104; omega)]))), trivial⟩, ⟨by dsimp only; omega, by dsimp only; omega, by dsimp only; omega, by rw [au_size, ad_size, swp_size]; exact g4, by rw [← g5, show 5 - x.1 = (5 - (x.1 + 1)) + 1 by omega]; exact (pi_more hss hub h50).symm⟩, by dsimp only; omega⟩
       ·
        refine a_skip ?_
        have hyl : ltc cf y.2[y.1]! y.2[y.1 - 1]! = true := (by simpa [ltc] using ht84)
        have hp1 : y.1 * 1 + 1 ≤ (acells y.2).length := (by rw [acells_length]; omega)
        have hp2 : (y.1 - 1) * 1 + 1 ≤ ((acells y.2).set (y.1 * 1) (.int .i64 y.2[(y.1 - 1)]!)).length := (by rw [List.length_set, acells_length]; omega)
        have hset : ((acells y.2).set (y.1 * 1) (.int .i64 y.2[(y.1 - 1)]!)).set ((y.1 - 1) * 1) (.int .i64 y.2[y.1]!) = acells (swp y.2 y.1 (y.1 - 1)) := (by rw [Nat.mul_one, Nat.mul_one]; exact acells_swp _ _ _)
        refine a_region_w [(85, true), (86, true), (87, true), (88, true), (89, true), (90, true), (91, true), (92, true), (93, true), (94, true), (95, true), (96, true), (97, true), (98, true), (99, true), (INH, false), (100, true), (INH, false)] mixed (by kernel_rfl) ?_
        refine wv (v := .rsl _ _ _ _ _) (v_move il nf) ?_
        refine wv (v := .int _ _) (v_move il nf) ?_
        refine wv (v := .rsl _ _ _ _ _) (v_move il nf) ?_
        refine wv (v := .int _ _) (v_move il nf) ?_
        refine wv (v := .int .i64 ((y.1 - 1 : Nat) : Int)) ((v_sub il il (fun _ => by omega)).cast (int_eq (by omega))) ?_
        refine wv (v := .rsl _ _ _ _ _) (v_move il nf) ?_
        refine wv (v := .int _ _) (v_move il nf) ?_
        refine wv (v := .int .i64 ((y.1 - 1 : Nat) : Int)) ((v_sub il il (fun _ => by omega)).cast (int_eq (by omega))) ?_
        refine wv (v := .rp _ _) (v_indexAddr_rsl0 es25 il il (fun _ => by omega)) ?_
        refine wv (v := .int .i64 y.2[y.1 - 1]!) (v_load_rp1 ta3 il rfl (fun _ => by rw [Nat.mul_one]; exact acells_get (by omega)) rfl) ?_
        refine wv (v := .rsl _ _ _ _ _) (v_move il nf) ?_
        refine wv (v := .int _ _) (v_move il nf) ?_
        refine wv (v := .rp _ _) (v_indexAddr_rsl0 es25 il il (fun _ => by omega)) ?_
        refine wv (v := .int .i64 y.2[y.1]!) (v_load_rp1 ta3 il rfl (fun _ => by rw [Nat.mul_one]; exact acells_get (by omega)) rfl) ?_
        refine wv (v := .rp _ _) (v_indexAddr_rsl0 es25 il il (fun _ => by omega)) ?_
        refine w_store (v := .int _ _) (y' := .osl _ _ _ _) rfl rfl rfl ta3 (.inl rfl) (.inl rfl) rfl rfl rfl rfl rfl rfl hp1 (by decide) rfl rfl rfl (by kernel_rfl) ?_
        refine wv (v := .rp _ _) (v_indexAddr_rsl0 es25 il il (fun _ => by omega)) ?_
        refine w_store (v := .int _ _) (y' := .osl _ _ _ _) rfl rfl rfl ta3 (.inl rfl) (.inl rfl) rfl rfl rfl rfl rfl rfl hp2 (by decide) rfl (congrArg (fun c => AV.osl 1 c n none) hset) rfl (by kernel_rfl) ?_
        refine w_nil ?_
        refine a_pre (ent_look (L := [(0, .rsl _ _ _ _ _), (1, .int _ _), (2, .int _ _), (3, .fn _ _ _), (9, .int _ _), (10, .int _ _), (11, .int _ _), (INH, .osl _ _ _ _)]) ⟨wr, wr, wr, wr, wr, wr, wr, wr, trivial⟩) ?_
        refine a_region ?_
        refine rm (.int _ _) ?_
        refine rv (v := .int _ _) (v_sub il il (fun _ => by omega)) ?_
        refine ra (.int _ _) ?_
        refine r_nil ?_
        refine ⟨(y.1 - 1, swp y.2 y.1 (y.1 - 1)), ent_look ⟨wr, wr, wr, wr, wr, wr, Weak.of_eq (int_eq (by dsimp only; omega)), wr, trivial⟩, ⟨by dsimp only; omega, by rw [swp_size]; exact y2, by rw [← y3]; exact sd_more hy1 hyl⟩, by dsimp only; omega⟩
      ·
       refine a_exit ?_
       refine a_seq ?_
       refine a_pre (ent_eq (t := INH) (v' := .osl 1 (acells (afterDown (ltc cf) a u (swp x.2.2 u (u - 1)))) n none) (Weak.of_eq (osl_eq (by unfold afterDown; first | (rw [if_pos (by simp at ht65; omega), ← y3, show y.1 = 0 by simp at ht69; omega]; rfl) | (rw [if_pos (by simp at ht65; omega), ← y3, sd_stop (by simpa [ltc] using ht84)]; done) | (rw [if_neg (by simp at ht65; omega)]))))) ?_
       refine a_region ?_
       refine rm (.int _ _) ?_
       refine rm (.int _ _) ?_
       refine rv (v := .int _ _) (v_sub il il (fun _ => by omega)) ?_
       refine rv (v := .bool _) (v_geq il il) ?_
       refine r_nil ?_
       refine a_cond rfl (fun ht104 => ?_) (fun ht104 => ?_)
       ·
        refine a_seq ?_
        have hup2 : b - u ≥ 2 := (by simp at ht104; omega)
        refine a_region ?_
        refine rm (.int _ _) ?_
        refine rv (v := .int _ _) (v_add il il (fun _ => by omega)) ?_
        refine ra (.int _ _) ?_
        refine r_nil ?_
        refine a_block ?_
        refine a_loop (X := (Nat × Array Int)) (fun z => look [(0, .rsl (INH, []) 1 0 n none), (1, .int .i64 ((a : Nat) : Int)), (2, .int .i64 ((b : Nat) : Int)), (3, .fn f [] []), (9, .int .i64 ((u : Nat) : Int)), (10, .int .i64 ((x.1 : Nat) : Int)), (12, .int .i64 ((z.1 : Nat) : Int)), (INH, .osl 1 (acells z.2) n none)]) (fun z => 1 ≤ z.1 ∧ z.1 ≤ n ∧ z.2.size = n ∧ shiftUp (ltc cf) b z.1 z.2 = shiftUp (ltc cf) b (u + 1) (afterDown (ltc cf) a u (swp x.2.2 u (u - 1)))) (fun z => b - z.1) (u + 1, (afterDown (ltc cf) a u (swp x.2.2 u (u - 1)))) (ent_look ⟨wr, wr, wr, wr, wr, wr, Weak.of_eq (int_eq (by dsimp only; omega)), wr, trivial⟩) ⟨by dsimp only; omega, by dsimp only; omega, by rw [ad_size, swp_size]; exact g4, rfl⟩ (fun z hG => ?_)
        obtain ⟨w0, w1, w2, w3⟩ := hG
        refine a_seq ?_
        refine aq ?_
        refine rm (.int _ _) ?_
        refine rm (.int _ _) ?_
        refine rv (v := .bool _) (v_lss il il) ?_
        refine r_nil ?_
        refine a_cond rfl (fun ht109 => ?_) (fun ht109 => ?_)
        ·
         refine a_skip ?_
         refine a_seq ?_
         refine a_block ?_
         refine a_seq ?_
         refine a_seq ?_
         have hzb : z.1 < b := (by simpa using ht109)
         refine a_region_any mixed (by kernel_rfl) ?_
         refine yv (v := .fn _ _ _) (v_mv rfl) ?_
         refine yv (v := .rsl _ _ _ _ _) (v_move il nf) ?_
         refine yv (v := .int _ _) (v_move il nf) ?_
         refine yv (v := .rp _ _) (v_indexAddr_rsl0 es25 il il (fun _ => by omega)) ?_
         refine yv (v := .int .i64 z.2[z.1]!) (v_load_rp1 ta3 il rfl (fun _ => by rw [Nat.mul_one]; exact acells_get (by omega)) rfl) ?_
         refine yv (v := .rsl _ _ _ _ _) (v_move il nf) ?_
         refine yv (v := .int _ _) (v_move il nf) ?_
         refine yv (v := .int .i64 ((z.1 - 1 : Nat) : Int)) ((v_sub il il (fun _ => by omega)).cast (int_eq (by omega))) ?_
         refine yv (v := .rp _ _) (v_indexAddr_rsl0 es25 il il (fun _ => by omega)) ?_
         refine yv (v := .int .i64 z.2[z.1 - 1]!) (v_load_rp1 ta3 il rfl (fun _ => by rw [Nat.mul_one]; exact acells_get (by omega)) rfl) ?_
         refine y_new (v := .int _ _) (q_clo (vs := [.int _ _, .int _ _]) (args := [.int .i64 _, .int .i64 _]) hb (.inl rfl) ⟨.inl rfl, .inl rfl, trivial⟩ rfl (fun hA => hc _ _) rfl rfl) rfl rfl (by decide) (by kernel_rfl) ?_
         refine yv (v := .bool _) (v_lss il il) ?_
         refine yv (v := .bool _) (v_not il) ?_
         refine y_nil ?_
         refine a_cond rfl (fun ht124 => ?_) (fun ht124 => ?_)
         ·
          refine a_exit ?_
          refine a_region ?_
          refine rm (.int _ _) ?_
          refine rv (v := .int _ _) (v_add il il (fun _ => by omega)) ?_
          refine ra (.int _ _) ?_
          refine r_nil ?_
          refine ⟨(x.1 + 1, u, afterUp (ltc cf) b u (afterDown (ltc cf) a u (swp x.2.2 u (u - 1)))), ent_look ⟨wr, wr, wr, wr, wr, Weak.of_eq (int_eq (by dsimp only; omega)), Weak.of_eq (osl_eq (by unfold afterUp; first | (rw [if_pos hup2, ← w3, su_end (by simpa using ht109)]; done) | (rw [if_pos hup2, ← w3, su_stop (by simpa [ltc] using ht124)]; done) | (rw [if_neg (by simp at ht104; omega)]))), trivial⟩, ⟨by dsimp only; omega, by dsimp only; omega, by dsimp only; omega, by rw [au_size, ad_size, swp_size]; exact g4, by rw [← g5, show 5 - x.1 = (5 - (x.1 + 1)) + 1 by omega]; exact (pi_more hss hub h50).symm⟩, by dsimp only; omega⟩
         ·
          refine a_skip ?_
          have hzl : ltc cf z.2[z.1]! z.2[z.1 - 1]! = true := (by simpa [ltc] using ht124)
          have hp1 : z.1 * 1 + 1 ≤ (acells z.2).length := (by rw [acells_length]; omega)
          have hp2 : (z.1 - 1) * 1 + 1 ≤ ((acells z.2).set (z.1 * 1) (.int .i64 z.2[(z.1 - 1)]!)).length := (by rw [List.length_set, acells_length]; omega)
          have hset : ((acells z.2).set (z.1 * 1) (.int .i64 z.2[(z.1 - 1)]!)).set ((z.1 - 1) * 1) (.int .i64 z.2[z.1]!) = acells (swp z.2 z.1 (z.1 - 1)) := (by rw [Nat.mul_one, Nat.mul_one]; exact acells_swp _ _ _)
          refine a_region_w [(125, true), (126, true), (127, true), (128, true), (129, true), (130, true), (131, true), (132, true), (133, true), (134, true), (135, true), (136, true), (137, true), (138, true), (139, true), (INH, false), (140, true), (INH, false)] mixed (by kernel_rfl) ?_
          refine wv (v := .rsl _ _ _ _ _) (v_move il nf) ?_
          refine wv (v := .int _ _) (v_move il nf) ?_
          refine wv (v := .rsl _ _ _ _ _) (v_move il nf) ?_
          refine wv (v := .int _ _) (v_move il nf) ?_
          refine wv (v := .int .i64 ((z.1 - 1 : Nat) : Int)) ((v_sub il il (fun _ => by omega)).cast (int_eq (by omega))) ?_
          refine wv (v := .rsl _ _ _ _ _) (v_move il nf) ?_
          refine wv (v := .int _ _) (v_move il nf) ?_
          refine wv (v := .int .i64 ((z.1 - 1 : Nat) : Int)) ((v_sub il il (fun _ => by omega)).cast (int_eq (by omega))) ?_
          refine wv (v := .rp _ _) (v_indexAddr_rsl0 es25 il il (fun _ => by omega)) ?_
          refine wv (v := .int .i64 z.2[z.1 - 1]!) (v_load_rp1 ta3 il rfl (fun _ => by rw [Nat.mul_one]; exact acells_get (by omega)) rfl) ?_
          refine wv (v := .rsl _ _ _ _ _) (v_move il nf) ?_
          refine wv (v := .int _ _) (v_move il nf) ?_
          refine wv (v := .rp _ _) (v_indexAddr_rsl0 es25 il il (fun _ => by omega)) ?_
          refine wv (v := .int .i64 z.2[z.1]!) (v_load_rp1 ta3 il rfl (fun _ => by rw [Nat.mul_one]; exact acells_get (by omega)) rfl) ?_
          refine wv (v := .rp _ _) (v_indexAddr_rsl0 es25 il il (fun _ => by omega)) ?_
          refine w_store (v := .int _ _) (y' := .osl _ _ _ _) rfl rfl rfl ta3 (.inl rfl) (.inl rfl) rfl rfl rfl rfl rfl rfl hp1 (by decide) rfl rfl rfl (by kernel_rfl) ?_
          refine wv (v := .rp _ _) (v_indexAddr_rsl0 es25 il il (fun _ => by omega)) ?_
          refine w_store (v := .int _ _) (y' := .osl _ _ _ _) rfl rfl rfl ta3 (.inl rfl) (.inl rfl) rfl rfl rfl rfl rfl rfl hp2 (by decide) rfl (congrArg (fun c => AV.osl 1 c n none) hset) rfl (by kernel_rfl) ?_
          refine w_nil ?_
          refine a_pre (ent_look (L := [(0, .rsl _ _ _ _ _), (1, .int _ _), (2, .int _ _), (3, .fn _ _ _), (9, .int _ _), (10, .int _ _), (12, .int _ _), (INH, .osl _ _ _ _)]) ⟨wr, wr, wr, wr, wr, wr, wr, wr, trivial⟩) ?_
          refine a_region ?_
          refine rm (.int _ _) ?_
          refine rv (v := .int _ _) (v_add il il (fun _ => by omega)) ?_
          refine ra (.int _ _) ?_
          refine r_nil ?_
          refine ⟨(z.1 + 1, swp z.2 z.1 (z.1 - 1)), ent_look ⟨wr, wr, wr, wr, wr, wr, Weak.of_eq (int_eq (by dsimp only; omega)), wr, trivial⟩, ⟨by dsimp only; omega, by dsimp only; omega, by rw [swp_size]; exact w2, by rw [← w3]; exact su_more hzb hzl⟩, by dsimp only; omega⟩
        ·
         refine a_exit ?_
         refine a_region ?_
         refine rm (.int _ _) ?_
         refine rv (v := .int _ _) (v_add il il (fun _ => by omega)) ?_
         refine ra (.int _ _) ?_
         refine r_nil ?_
         refine ⟨(x.1 + 1, u, afterUp (ltc cf) b u (afterDown (ltc cf) a u (swp x.2.2 u (u - 1)))), ent_look ⟨wr, wr, wr, wr, wr, Weak.of_eq (int_eq (by dsimp only; omega)), Weak.of_eq (osl_eq (by unfold afterUp; first | (rw [if_pos hup2, ← w3, su_end (by simpa using ht109)]; done) | (rw [if_pos hup2, ← w3, su_stop (by simpa [ltc] using ht124)]; done) | (rw [if_neg (by simp at ht104; omega)]))), trivial⟩, ⟨by dsimp only; omega, by dsimp only; omega, by dsimp only; omega, by rw [au_size, ad_size, swp_size]; exact g4, by rw [← g5, show 5 - x.1 = (5 - (x.1 + 1)) + 1 by omega]; exact (pi_more hss hub h50).symm⟩, by dsimp only; omega⟩
       ·
        refine a_skip ?_
        refine a_region ?_
        refine rm (.int _ _) ?_
        refine rv (v := .int _ _) (v_add il il (fun _ => by omega)) ?_
        refine ra (.int _ _) ?_
        refine r_nil ?_
        refine ⟨(x.1 + 1, u, afterUp (ltc cf) b u (afterDown (ltc cf) a u (swp x.2.2 u (u - 1)))), ent_look ⟨wr, wr, wr, wr, wr, Weak.of_eq (int_eq (by dsimp only; omega)), Weak.of_eq (osl_eq (by unfold afterUp; first | (rw [if_pos hup2, ← w3, su_end (by simpa using ht109)]; done) | (rw [if_pos hup2, ← w3, su_stop (by simpa [ltc] using ht124)]; done) | (rw [if_neg (by simp at ht104; omega)]))), trivial⟩, ⟨by dsimp only; omega, by dsimp only; omega, by dsimp only; omega, by rw [au_size, ad_size, swp_size]; exact g4, by rw [← g5, show 5 - x.1 = (5 - (x.1 + 1)) + 1 by omega]; exact (pi_more hss hub h50).symm⟩, by dsimp only; omega⟩
     ·
      refine a_skip ?_
      refine a_seq ?_
      refine a_pre (ent_eq (t := INH) (v' := .osl 1 (acells (afterDown (ltc cf) a u (swp x.2.2 u (u - 1)))) n none) (Weak.of_eq (osl_eq (by unfold afterDown; first | (rw [if_pos (by simp at ht65; omega), ← y3, show y.1 = 0 by simp at ht69; omega]; rfl) | (rw [if_pos (by simp at ht65; omega), ← y3, sd_stop (by simpa [ltc] using ht84)]; done) | (rw [if_neg (by simp at ht65; omega)]))))) ?_
      refine a_region ?_
      refine rm (.int _ _) ?_
      refine rm (.int _ _) ?_
      refine rv (v := .int _ _) (v_sub il il (fun _ => by omega)) ?_
      refine rv (v := .bool _) (v_geq il il) ?_
      refine r_nil ?_
      refine a_cond rfl (fun ht104 => ?_) (fun ht104 => ?_)
      ·
       refine a_seq ?_
       refine a_pre (ent_look (L := [(0, .rsl _ _ _ _ _), (1, .int _ _), (2, .int _ _), (3, .fn _ _ _), (9, .int _ _), (10, .int _ _), (INH, .osl _ _ _ _)]) ⟨wr, wr, wr, wr, wr, wr, wr, trivial⟩) ?_
       have hup2 : b - u ≥ 2 := (by simp at ht104; omega)
       refine a_region ?_
       refine rm (.int _ _) ?_
       refine rv (v := .int _ _) (v_add il il (fun _ => by omega)) ?_
       refine ra (.int _ _) ?_
       refine r_nil ?_
       refine a_block ?_
       refine a_loop (X := (Nat × Array Int)) (fun z => look [(0, .rsl (INH, []) 1 0 n none), (1, .int .i64 ((a : Nat) : Int)), (2, .int .i64 ((b : Nat) : Int)), (3, .fn f [] []), (9, .int .i64 ((u : Nat) : Int)), (10, .int .i64 ((x.1 : Nat) : Int)), (12, .int .i64 ((z.1 : Nat) : Int)), (INH, .osl 1 (acells z.2) n none)]) (fun z => 1 ≤ z.1 ∧ z.1 ≤ n ∧ z.2.size = n ∧ shiftUp (ltc cf) b z.1 z.2 = shiftUp (ltc cf) b (u + 1) (afterDown (ltc cf) a u (swp x.2.2 u (u - 1)))) (fun z => b - z.1) (u + 1, (afterDown (ltc cf) a u (swp x.2.2 u (u - 1)))) (ent_look ⟨wr, wr, wr, wr, wr, wr, Weak.of_eq (int_eq (by dsimp only; omega)), wr, trivial⟩) ⟨by dsimp only; omega, by dsimp only; omega, by rw [ad_size, swp_size]; exact g4, rfl⟩ (fun z hG => ?_)
       obtain ⟨w0, w1, w2, w3⟩ := hG
       refine a_seq ?_
       refine aq ?_
       refine rm (.int _ _) ?_
       refine rm (.int _ _) ?_
       refine rv (v := .bool _) (v_lss il il) ?_
       refine r_nil ?_
       refine a_cond rfl (fun ht109 => ?_) (fun ht109 => ?_)
       ·
        refine a_skip ?_
        refine a_seq ?_
        refine a_block ?_
        refine a_seq ?_
        refine a_seq ?_
        have hzb : z.1 < b := (by simpa using ht109)
        refine a_region_any mixed (by kernel_rfl) ?_
        refine yv (v := .fn _ _ _) (v_mv rfl) ?_
        refine yv (v := .rsl _ _ _ _ _) (v_move il nf) ?_
        refine yv (v := .int _ _) (v_move il nf) ?_
        refine yv (v := .rp _ _) (v_indexAddr_rsl0 es25 il il (fun _ => by omega)) ?_
        refine yv (v := .int .i64 z.2[z.1]!) (v_load_rp1 ta3 il rfl (fun _ => by rw [Nat.mul_one]; exact acells_get (by omega)) rfl) ?_
        refine yv (v := .rsl _ _ _ _ _) (v_move il nf) ?_
        refine yv (v := .int _ _) (v_move il nf) ?_
        refine yv (v := .int .i64 ((z.1 - 1 : Nat) : Int)) ((v_sub il il (fun _ => by omega)).cast (int_eq (by omega))) ?_
        refine yv (v := .rp _ _) (v_indexAddr_rsl0 es25 il il (fun _ => by omega)) ?_
        refine yv (v := .int .i64 z.2[z.1 - 1]!) (v_load_rp1 ta3 il rfl (fun _ => by rw [Nat.mul_one]; exact acells_get (by omega)) rfl) ?_
        refine y_new (v := .int _ _) (q_clo (vs := [.int _ _, .int _ _]) (args := [.int .i64 _, .int .i64 _]) hb (.inl rfl) ⟨.inl rfl, .inl rfl, trivial⟩ rfl (fun hA => hc _ _) rfl rfl) rfl rfl (by decide) (by kernel_rfl) ?_
        refine yv (v := .bool _) (v_lss il il) ?_
        refine yv (v := .bool _) (v_not il) ?_
        refine y_nil ?_
        refine a_cond rfl (fun ht124 => ?_) (fun ht124 => ?_)
        ·
         refine a_exit ?_
         refine a_region ?_
         refine rm (.int _ _) ?_
         refine rv (v := .int _ _) (v_add il il (fun _ => by omega)) ?_
         refine ra (.int _ _) ?_
         refine r_nil ?_
         refine ⟨(x.1 + 1, u, afterUp (ltc cf) b u (afterDown (ltc cf) a u (swp x.2.2 u (u - 1)))), ent_look ⟨wr, wr, wr, wr, wr, Weak.of_eq (int_eq (by dsimp only; omega)), Weak.of_eq (osl_eq (by unfold afterUp; first | (rw [if_pos hup2, ← w3, su_end (by simpa using ht109)]; done) | (rw [if_pos hup2, ← w3, su_stop (by simpa [ltc] using ht124)]; done) | (rw [if_neg (by simp at ht104; omega)]))), trivial⟩, ⟨by dsimp only; omega, by dsimp only; omega, by dsimp only; omega, by rw [au_size, ad_size, swp_size]; exact g4, by rw [← g5, show 5 - x.1 = (5 - (x.1 + 1)) + 1 by omega]; exact (pi_more hss hub h50).symm⟩, by dsimp only; omega⟩
        ·
         refine a_skip ?_
         have hzl : ltc cf z.2[z.1]! z.2[z.1 - 1]! = true := (by simpa [ltc] using ht124)
         have hp1 : z.1 * 1 + 1 ≤ (acells z.2).length := (by rw [acells_length]; omega)
         have hp2 : (z.1 - 1) * 1 + 1 ≤ ((acells z.2).set (z.1 * 1) (.int .i64 z.2[(z.1 - 1)]!)).length := (by rw [List.length_set, acells_length]; omega)
         have hset : ((acells z.2).set (z.1 * 1) (.int .i64 z.2[(z.1 - 1)]!)).set ((z.1 - 1) * 1) (.int .i64 z.2[z.1]!) = acells (swp z.2 z.1 (z.1 - 1)) := (by rw [Nat.mul_one, Nat.mul_one]; exact acells_swp _ _ _)
         refine a_region_w [(125, true), (126, true), (127, true), (128, true), (129, true), (130, true), (131, true), (132, true), (133, true), (134, true), (135, true), (136, true), (137, true), (138, true), (139, true), (INH, false), (140, true), (INH, false)] mixed (by kernel_rfl) ?_
         refine wv (v := .rsl _ _ _ _ _) (v_move il nf) ?_
         refine wv (v := .int _ _) (v_move il nf) ?_
         refine wv (v := .rsl _ _ _ _ _) (v_move il nf) ?_
         refine wv (v := .int _ _) (v_move il nf) ?_
         refine wv (v := .int .i64 ((z.1 - 1 : Nat) : Int)) ((v_sub il il (fun _ => by omega)).cast (int_eq (by omega))) ?_
         refine wv (v := .rsl _ _ _ _ _) (v_move il nf) ?_
         refine wv (v := .int _ _) (v_move il nf) ?_
         refine wv (v := .int .i64 ((z.1 - 1 : Nat) : Int)) ((v_sub il il (fun _ => by omega)).cast (int_eq (by omega))) ?_
         refine wv (v := .rp _ _) (v_indexAddr_rsl0 es25 il il (fun _ => by omega)) ?_
         refine wv (v := .int .i64 z.2[z.1 - 1]!) (v_load_rp1 ta3 il rfl (fun _ => by rw [Nat.mul_one]; exact acells_get (by omega)) rfl) ?_
         refine wv (v := .rsl _ _ _ _ _) (v_move il nf) ?_
         refine wv (v := .int _ _) (v_move il nf) ?_
         refine wv (v := .rp _ _) (v_indexAddr_rsl0 es25 il il (fun _ => by omega)) ?_
         refine wv (v := .int .i64 z.2[z.1]!) (v_load_rp1 ta3 il rfl (fun _ => by rw [Nat.mul_one]; exact acells_get (by omega)) rfl) ?_
         refine wv (v := .rp _ _) (v_indexAddr_rsl0 es25 il il (fun _ => by omega)) ?_
         refine w_store (v := .int _ _) (y' := .osl _ _ _ _) rfl rfl rfl ta3 (.inl rfl) (.inl rfl) rfl rfl rfl rfl rfl rfl hp1 (by decide) rfl rfl rfl (by kernel_rfl) ?_
         refine wv (v := .rp _ _) (v_indexAddr_rsl0 es25 il il (fun _ => by omega)) ?_
         refine w_store (v := .int _ _) (y' := .osl _ _ _ _) rfl rfl rfl ta3 (.inl rfl) (.inl rfl) rfl rfl rfl rfl rfl rfl hp2 (by decide) rfl (congrArg (fun c => AV.osl 1 c n none) hset) rfl (by kernel_rfl) ?_
         refine w_nil ?_
         refine a_pre (ent_look (L := [(0, .rsl _ _ _ _ _), (1, .int _ _), (2, .int _ _), (3, .fn _ _ _), (9, .int _ _), (10, .int _ _), (12, .int _ _), (INH, .osl _ _ _ _)]) ⟨wr, wr, wr, wr, wr, wr, wr, wr, trivial⟩) ?_
         refine a_region ?_
         refine rm (.int _ _) ?_
         refine rv (v := .int _ _) (v_add il il (fun _ => by omega)) ?_
         refine ra (.int _ _) ?_
         refine r_nil ?_
         refine ⟨(z.1 + 1, swp z.2 z.1 (z.1 - 1)), ent_look ⟨wr, wr, wr, wr, wr, wr, Weak.of_eq (int_eq (by dsimp only; omega)), wr, trivial⟩, ⟨by dsimp only; omega, by dsimp only; omega, by rw [swp_size]; exact w2, by rw [← w3]; exact su_more hzb hzl⟩, by dsimp only; omega⟩
       ·
        refine a_exit ?_
        refine a_region ?_
        refine rm (.int _ _) ?_
        refine rv (v := .int _ _) (v_add il il (fun _ => by omega)) ?_
        refine ra (.int _ _) ?_
        refine r_nil ?_
        refine ⟨(x.1 + 1, u, afterUp (ltc cf) b u (afterDown (ltc cf) a u (swp x.2.2 u (u - 1)))), ent_look ⟨wr, wr, wr, wr, wr, Weak.of_eq (int_eq (by dsimp only; omega)), Weak.of_eq (osl_eq (by unfold afterUp; first | (rw [if_pos hup2, ← w3, su_end (by simpa using ht109)]; done) | (rw [if_pos hup2, ← w3, su_stop (by simpa [ltc] using ht124)]; done) | (rw [if_neg (by simp at ht104; omega)]))), trivial⟩, ⟨by dsimp only; omega, by dsimp only; omega, by dsimp only; omega, by rw [au_size, ad_size, swp_size]; exact g4, by rw [← g5, show 5 - x.1 = (5 - (x.1 + 1)) + 1 by omega]; exact (pi_more hss hub h50).symm⟩, by dsimp only; omega⟩
      ·
       refine a_skip ?_
       refine a_pre (ent_look (L := [(0, .rsl _ _ _ _ _), (1, .int _ _), (2, .int _ _), (3, .fn _ _ _), (9, .int _ _), (10, .int _ _), (INH, .osl _ _ _ _)]) ⟨wr, wr, wr, wr, wr, wr, wr, trivial⟩) ?_
       refine a_region ?_
       refine rm (.int _ _) ?_
       refine rv (v := .int _ _) (v_add il il (fun _ => by omega)) ?_
       refine ra (.int _ _) ?_
       refine r_nil ?_
       refine ⟨(x.1 + 1, u, afterUp (ltc cf) b u (afterDown (ltc cf) a u (swp x.2.2 u (u - 1)))), ent_look ⟨wr, wr, wr, wr, wr, Weak.of_eq (int_eq (by dsimp only; omega)), Weak.of_eq (osl_eq (by unfold afterUp; first | (rw [if_pos hup2, ← w3, su_end (by simpa using ht109)]; done) | (rw [if_pos hup2, ← w3, su_stop (by simpa [ltc] using ht124)]; done) | (rw [if_neg (by simp at ht104; omega)]))), trivial⟩, ⟨by dsimp only; omega, by dsimp only; omega, by dsimp only; omega, by rw [au_size, ad_size, swp_size]; exact g4, by rw [← g5, show 5 - x.1 = (5 - (x.1 + 1)) + 1 by omega]; exact (pi_more hss hub h50).symm⟩, by dsimp only; omega⟩
 ·
  refine a_exit ?_
  refine a_seq ?_
  have hfin : (partialInsertionSort (ltc cf) d a b) = (x.2.2, false) := (by rw [← g5, show 5 - x.1 = 0 by simp at ht16; omega]; rfl)
  refine a_region ?_
  refine ra (.bool _) ?_
  refine r_nil ?_
  refine a_ret ?_
  refine ret1 Tryz.results190 (by decide) (by decide) (Weak.of_eq (bool_eq ?_)) rfl (Leaves.one (Weak.of_eq (osl_eq (by rw [hfin]))) rfl)
  rw [hfin]
theorem order2_c (f : Nat) (hb : hasBody Tryz.prog f = true) (cf : Int → Int → Int) (hc : ∀ x y, ACall Tryz.prog f [.int .i64 x, .int .i64 y] [] (.int .i64 (cf x y)) []) (d : Array Int) (n a b s : Nat) (hd : d.size = n) (hab : a < n ∧ b < n ∧ s ≤ 1000) (hn : n ≤ 1152921504606846976) : ACall Tryz.prog 197 [.sl (acells d) n, .int .i64 ((a : Nat) : Int), .int .i64 ((b : Nat) : Int), .rp (INH, []) 0, .fn f [] []] [.op [.int .i64 ((s : Nat) : Int)]] (.tup [.int .i64 (((order2 (ltc cf) d a b s).1 : Nat) : Int), .int .i64 (((order2 (ltc cf) d a b s).2.1 : Nat) : Int)]) [.op [.int .i64 (((order2 (ltc cf) d a b s).2.2 : Nat) : Int)]] := by
  refine ACall.intro Tryz.func197 rfl (N := 32) rfl (by decide) (by simp) ?_
  refine aq ?_
  refine ra (.int _ _) ?_
  refine ra (.int _ _) ?_
  refine r_nil ?_
  refine a_seq ?_
  refine a_seq ?_
  refine a_region_any mixed (by kernel_rfl) ?_
  refine yv (v := .fn _ _ _) (v_mv rfl) ?_
  refine yv (v := .sl _ _) (v_move il nf) ?_
  refine yv (v := .int _ _) (v_move il nf) ?_
  refine yv (v := .pp _ _) (v_indexAddr_sl es25 il il (fun _ => ⟨by omega, by omega, acells_ne (d := d) (i := b) (by omega)⟩)) ?_
  refine yv (v := .int .i64 d[b]!) (v_load_pp ta3 il (fun _ => by rw [Nat.mul_one]; exact acells_get (by omega)) rfl) ?_
  refine yv (v := .sl _ _) (v_move il nf) ?_
  refine yv (v := .int _ _) (v_move il nf) ?_
  refine yv (v := .pp _ _) (v_indexAddr_sl es25 il il (fun _ => ⟨by omega, by omega, acells_ne (d := d) (i := a) (by omega)⟩)) ?_
  refine yv (v := .int .i64 d[a]!) (v_load_pp ta3 il (fun _ => by rw [Nat.mul_one]; exact acells_get (by omega)) rfl) ?_
  refine y_new (v := .int _ _) (q_clo (vs := [.int _ _, .int _ _]) (args := [.int .i64 _, .int .i64 _]) hb (.inl rfl) ⟨.inl rfl, .inl rfl, trivial⟩ rfl (fun hA => hc _ _) rfl rfl) rfl rfl (by decide) (by kernel_rfl) ?_
  refine yv (v := .bool _) (v_lss il il) ?_
  refine y_nil ?_
  refine a_cond rfl (fun ht22 => ?_) (fun ht22 => ?_)
  ·
    refine a_seq ?_
    have hl : ltc cf d[b]! d[a]! = true := (by simpa [ltc] using ht22)
    have hfin : (order2 (ltc cf) d a b s) = (b, a, s + 1) := (by unfold order2; rw [if_pos hl])
    refine a_region ?_
    refine rm (.rp _ _) ?_
    refine rv (v := .rp _ _) (v_nilCheck il rfl) ?_
    refine rv (v := .int _ _) (v_load_rp1 ta3 il rfl (fun _ => rfl) rfl) ?_
    refine rv (v := .int .i64 ((s + 1 : Nat) : Int)) ((v_add il il (fun _ => by omega)).cast (int_eq (by omega))) ?_
    refine rv (v := .rp _ _) (v_nilCheck il rfl) ?_
    refine r_step rfl (o_store (v := .int _ _) (y' := .op [.int _ _]) rfl rfl ta3 il il rfl rfl rfl rfl rfl rfl (Nat.le_of_ble_eq_true rfl) (by decide) rfl rfl) ?_
    refine r_nil ?_
    refine aq ?_
    refine rm (.int _ _) ?_
    refine rm (.int _ _) ?_
    refine ra (.int _ _) ?_
    refine ra (.int _ _) ?_
    refine r_nil ?_
    refine a_ret ?_
    refine retLO (rs := [.tmp 10, .tmp 11]) [(10, _), (11, _)] ⟨(Weak.of_eq (congrArg (fun z : Nat => AV.op [.int .i64 (z : Int)]) (by rw [hfin]))), wr, wr, trivial⟩ rfl Tryz.results197 (by decide) ⟨by decide, by decide, rfl⟩ (by decide) (by decide) (l2_eq (int_eq ?_) (int_eq ?_)) rfl rfl
    · rw [hfin]
    · rw [hfin]
  ·
    refine a_skip ?_
    refine a_seq ?_
    have hl : ¬ ltc cf d[b]! d[a]! = true := (by simpa [ltc] using ht22)
    have hfin : (order2 (ltc cf) d a b s) = (a, b, s) := (by unfold order2; rw [if_neg hl])
    refine a_region ?_
    refine rm (.int _ _) ?_
    refine rm (.int _ _) ?_
    refine ra (.int _ _) ?_
    refine ra (.int _ _) ?_
    refine r_nil ?_
    refine a_ret ?_
    refine retLO (rs := [.tmp 10, .tmp 11]) [(10, _), (11, _)] ⟨(Weak.of_eq (congrArg (fun z : Nat => AV.op [.int .i64 (z : Int)]) (by rw [hfin]))), wr, wr, trivial⟩ rfl Tryz.results197 (by decide) ⟨by decide, by decide, rfl⟩ (by decide) (by decide) (l2_eq (int_eq ?_) (int_eq ?_)) rfl rfl
    · rw [hfin]
    · rw [hfin]
theorem hb196 : hasBody Tryz.prog 196 = true := by kernel_rfl
theorem hb197 : hasBody Tryz.prog 197 = true := by kernel_rfl
theorem median_c (f : Nat) (hb : hasBody Tryz.prog f = true) (cf : Int → Int → Int) (hc : ∀ x y, ACall Tryz.prog f [.int .i64 x, .int .i64 y] [] (.int .i64 (cf x y)) []) (d : Array Int) (n a b c s : Nat) (hd : d.size = n) (hab : a < n ∧ b < n ∧ c < n ∧ s ≤ 900) (hn : n ≤ 1152921504606846976) : ACall Tryz.prog 196 [.sl (acells d) n, .int .i64 ((a : Nat) : Int), .int .i64 ((b : Nat) : Int), .int .i64 ((c : Nat) : Int), .rp (INH, []) 0, .fn f [] []] [.op [.int .i64 ((s : Nat) : Int)]] (.int .i64 (((median (ltc cf) d a b c s).1 : Nat) : Int)) [.op [.int .i64 (((median (ltc cf) d a b c s).2 : Nat) : Int)]] := by
 have q1 := o2_bd (lt := ltc cf) (d := d) (s := s) hab.1 hab.2.1
 have q2 := o2_bd (lt := ltc cf) (d := d) (s := (order2 (ltc cf) d a b s).2.2) q1.2.1 hab.2.2.1
 have q3 := o2_bd (lt := ltc cf) (d := d) (s := (order2 (ltc cf) d (order2 (ltc cf) d a b s).2.1 c (order2 (ltc cf) d a b s).2.2).2.2) q1.1 q2.1
 refine ACall.intro Tryz.func196 rfl (N := 41) rfl (by decide) (by simp) ?_
 refine aq ?_
 refine ra (.int _ _) ?_
 refine r_nil ?_
 refine aq ?_
 refine rm (.sl _ _) ?_
 refine rm (.int _ _) ?_
 refine rm (.int _ _) ?_
 refine rm (.rp _ _) ?_
 refine rv (v := .fn _ _ _) (v_mv rfl) ?_
 refine r_step rfl (o_callIOp (q := (INH, [])) (vs := [.sl _ _, .int _ _, .int _ _, .rp _ _, .fn _ _ _]) (args := [.sl _ _, .int .i64 _, .int .i64 _, .rp (INH, []) _, .fn _ _ _]) (cs0 := [.int _ _]) (cs1 := [.int _ _]) (res := .tup [.int _ _, .int _ _]) rfl hb197 rfl (by decide) ⟨.inl rfl, .inl rfl, .inl rfl, .inl rfl, .inl rfl, trivial⟩ rfl rfl (order2_c f hb cf hc d n _ _ _ hd (by omega) hn) rfl rfl rfl rfl rfl (Nat.le_of_ble_eq_true rfl) (by decide) rfl) ?_
 refine rv (v := .tup [.int _ _, .int _ _]) (v_mv rfl) ?_
 refine rv (v := .int _ _) (v_extract rfl rfl) ?_
 refine rv (v := .int _ _) (v_extract rfl rfl) ?_
 refine ra (.int _ _) ?_
 refine ra (.int _ _) ?_
 refine r_nil ?_
 refine aq ?_
 refine rm (.sl _ _) ?_
 refine rm (.int _ _) ?_
 refine rm (.int _ _) ?_
 refine rm (.rp _ _) ?_
 refine rv (v := .fn _ _ _) (v_mv rfl) ?_
 refine r_step rfl (o_callIOp (q := (INH, [])) (vs := [.sl _ _, .int _ _, .int _ _, .rp _ _, .fn _ _ _]) (args := [.sl _ _, .int .i64 _, .int .i64 _, .rp (INH, []) _, .fn _ _ _]) (cs0 := [.int _ _]) (cs1 := [.int _ _]) (res := .tup [.int _ _, .int _ _]) rfl hb197 rfl (by decide) ⟨.inl rfl, .inl rfl, .inl rfl, .inl rfl, .inl rfl, trivial⟩ rfl rfl (order2_c f hb cf hc d n _ _ _ hd (by omega) hn) rfl rfl rfl rfl rfl (Nat.le_of_ble_eq_true rfl) (by decide) rfl) ?_
 refine rv (v := .tup [.int _ _, .int _ _]) (v_mv rfl) ?_
 refine rv (v := .int _ _) (v_extract rfl rfl) ?_
 refine rv (v := .int _ _) (v_extract rfl rfl) ?_
 refine ra (.int _ _) ?_
 refine ra (.int _ _) ?_
 refine r_nil ?_
 refine aq ?_
 refine rm (.sl _ _) ?_
 refine rm (.int _ _) ?_
 refine rm (.int _ _) ?_
 refine rm (.rp _ _) ?_
 refine rv (v := .fn _ _ _) (v_mv rfl) ?_
 refine r_step rfl (o_callIOp (q := (INH, [])) (vs := [.sl _ _, .int _ _, .int _ _, .rp _ _, .fn _ _ _]) (args := [.sl _ _, .int .i64 _, .int .i64 _, .rp (INH, []) _, .fn _ _ _]) (cs0 := [.int _ _]) (cs1 := [.int _ _]) (res := .tup [.int _ _, .int _ _]) rfl hb197 rfl (by decide) ⟨.inl rfl, .inl rfl, .inl rfl, .inl rfl, .inl rfl, trivial⟩ rfl rfl (order2_c f hb cf hc d n _ _ _ hd (by omega) hn) rfl rfl rfl rfl rfl (Nat.le_of_ble_eq_true rfl) (by decide) rfl) ?_
 refine rv (v := .tup [.int _ _, .int _ _]) (v_mv rfl) ?_
 refine rv (v := .int _ _) (v_extract rfl rfl) ?_
 refine rv (v := .int _ _) (v_extract rfl rfl) ?_
 refine ra (.int _ _) ?_
 refine ra (.int _ _) ?_
 refine r_nil ?_
 refine a_seq ?_
 refine a_pre (ent_look (L := [(2, .int _ _), (12, .int _ _), (INH, .op [.int _ _])]) ⟨wr, wr, wr, trivial⟩) ?_
 refine a_region ?_
 refine rm (.int _ _) ?_
 refine ra (.int _ _) ?_
 refine r_nil ?_
 refine a_ret ?_
 refine ret1 Tryz.results196 (by decide) (by decide) (Weak.of_eq (int_eq ?_)) rfl (Leaves.one (wr) rfl)
 rfl
theorem medianAdj_c (f : Nat) (hb : hasBody Tryz.prog f = true) (cf : Int → Int → Int) (hc : ∀ x y, ACall Tryz.prog f [.int .i64 x, .int .i64 y] [] (.int .i64 (cf x y)) []) (d : Array Int) (n a s : Nat) (hd : d.size = n) (hab : 1 ≤ a ∧ a + 1 < n ∧ s ≤ 900) (hn : n ≤ 1152921504606846976) : ACall Tryz.prog 195 [.sl (acells d) n, .int .i64 ((a : Nat) : Int), .rp (INH, []) 0, .fn f [] []] [.op [.int .i64 ((s : Nat) : Int)]] (.int .i64 (((medianAdjacent (ltc cf) d a s).1 : Nat) : Int)) [.op [.int .i64 (((medianAdjacent (ltc cf) d a s).2 : Nat) : Int)]] := by
 refine ACall.intro Tryz.func195 rfl (N := 18) rfl (by decide) (by simp) ?_
 refine aq ?_
 refine ra (.int _ _) ?_
 refine r_nil ?_
 refine aq ?_
 refine rm (.sl _ _) ?_
 refine rm (.int _ _) ?_
 refine rv (v := .int .i64 ((a - 1 : Nat) : Int)) ((v_sub il il (fun _ => by omega)).cast (int_eq (by omega))) ?_
 refine rm (.int _ _) ?_
 refine rm (.int _ _) ?_
 refine rv (v := .int .i64 ((a + 1 : Nat) : Int)) ((v_add il il (fun _ => by omega)).cast (int_eq (by omega))) ?_
 refine rm (.rp _ _) ?_
 refine rv (v := .fn _ _ _) (v_mv rfl) ?_
 refine r_step rfl (o_callIOp (q := (INH, [])) (vs := [.sl _ _, .int _ _, .int _ _, .int _ _, .rp _ _, .fn _ _ _]) (args := [.sl _ _, .int .i64 _, .int .i64 _, .int .i64 _, .rp (INH, []) _, .fn _ _ _]) (cs0 := [.int _ _]) (cs1 := [.int _ _]) (res := .int _ _) rfl hb196 rfl (by decide) ⟨.inl rfl, .inl rfl, .inl rfl, .inl rfl, .inl rfl, .inl rfl, trivial⟩ rfl rfl (median_c f hb cf hc d n (a - 1) a (a + 1) s hd (by omega) hn) rfl rfl rfl rfl rfl (Nat.le_of_ble_eq_true rfl) (by decide) rfl) ?_
 refine ra (.int _ _) ?_
 refine r_nil ?_
 refine a_ret ?_
 refine ret1 Tryz.results195 (by decide) (by decide) (Weak.of_eq (int_eq ?_)) rfl (Leaves.one (wr) rfl)
 rfl
end Go.Av
