/- Lemmas, part 5. -/
import Derived.Test.YtmoncdcidlinfaaGreatA4
set_option linter.unusedVariables false
set_option linter.unusedSimpArgs false
namespace Go.Av
open Go Go.Proofs Go.Sort
set_option maxRecDepth 10000
theorem hb123 : hasBody Tryz.prog 123 = true := by kernel_rfl
theorem hb135 : hasBody Tryz.prog 135 = true := by kernel_rfl
theorem hb136 : hasBody Tryz.prog 136 = true := by kernel_rfl
theorem hb137 : hasBody Tryz.prog 137 = true := by kernel_rfl
theorem hb138 : hasBody Tryz.prog 138 = true := by kernel_rfl
theorem hb139 : hasBody Tryz.prog 139 = true := by kernel_rfl
theorem hb140 : hasBody Tryz.prog 140 = true := by kernel_rfl
theorem hb141 : hasBody Tryz.prog 141 = true := by kernel_rfl
theorem hb142 : hasBody Tryz.prog 142 = true := by kernel_rfl
theorem pdq_step (f : Nat) (hb : hasBody Tryz.prog f = true) (cf : Int → Int → Int) (hc : ∀ x y, ACall Tryz.prog f [.int .i64 x, .int .i64 y] [] (.int .i64 (cf x y)) []) (hS : SWO (ltc cf)) (n N : Nat) (hn : n ≤ 1152921504606846976) (ih : ∀ (d' : Array Int) (a' b' l' : Nat), d'.size = n → a' ≤ b' → b' ≤ n → b' - a' < N → l' ≤ 100 → Below (ltc cf) a' b' d' → ACall Tryz.prog 123 [.rsl (INH, []) 1 0 n none, .int .i64 ((a' : Nat) : Int), .int .i64 ((b' : Nat) : Int), .int .i64 ((l' : Nat) : Int), .fn f [] []] [.osl 1 (acells d') n none] (.tup []) [.osl 1 (acells (pdq (ltc cf) d' a' b' l' true true)) n none]) (d : Array Int) (a b limit : Nat) (hd : d.size = n) (hab : a ≤ b ∧ b ≤ n ∧ b - a ≤ N ∧ limit ≤ 100) (hB : Below (ltc cf) a b d)  : ACall Tryz.prog 123 [.rsl (INH, []) 1 0 n none, .int .i64 ((a : Nat) : Int), .int .i64 ((b : Nat) : Int), .int .i64 ((limit : Nat) : Int), .fn f [] []] [.osl 1 (acells d) n none] (.tup []) [.osl 1 (acells (pdq (ltc cf) d a b limit true true)) n none] := by
 refine ACall.intro Tryz.func123 rfl (N := 148) rfl (by decide) (by simp) ?_
 refine a_seq ?_
 refine a_region ?_
 refine rv (v := .bool _) (v_assign (.inl rfl) nf) ?_
 refine r_nil ?_
 refine a_seq ?_
 refine a_region ?_
 refine rv (v := .bool _) (v_assign (.inl rfl) nf) ?_
 refine r_nil ?_
 refine a_block ?_
 refine a_loop (X := PS) (fun x => look [(0, .rsl (INH, []) 1 0 n none), (1, .int .i64 ((x.a : Nat) : Int)), (2, .int .i64 ((x.b : Nat) : Int)), (3, .int .i64 ((x.lim : Nat) : Int)), (4, .fn f [] []), (10, .bool x.wb), (11, .bool x.wp), (INH, .osl 1 (acells x.d) n none)]) (fun x => PInv (ltc cf) n N (pdq (ltc cf) d a b limit true true) x) (fun x => x.b - x.a) ⟨a, b, limit, true, true, d⟩ (ent_look ⟨Weak.of_eq rfl, Weak.of_eq rfl, Weak.of_eq rfl, Weak.of_eq rfl, Weak.of_eq rfl, Weak.of_eq rfl, Weak.of_eq rfl, Weak.of_eq rfl, trivial⟩) ⟨hab.1, hab.2.1, hab.2.2.1, hab.2.2.2, hd, hB, rfl⟩ (fun x hG => ?_)
 have hP := hG
 obtain ⟨g1, g2, g3, g4, g5, g6, g7⟩ := hG
 refine a_block ?_
 refine a_seq ?_
 refine a_region ?_
 refine rv (v := .int _ _) (v_move (.inl rfl) nf) ?_
 refine rv (v := .int _ _) (v_move (.inl rfl) nf) ?_
 refine rv (v := .int .i64 ((x.b - x.a : Nat) : Int)) ((v_sub (.inl rfl) (.inl rfl) (fun _ => by omega)).cast (int_eq (by omega))) ?_
 refine rv (v := .int _ _) (v_assign (.inl rfl) nf) ?_
 refine r_nil ?_
 refine a_seq ?_
 refine a_seq ?_
 refine a_region ?_
 refine rv (v := .int _ _) (v_move (.inl rfl) nf) ?_
 refine rv (v := .bool _) (v_leq (.inl rfl) (.inl rfl)) ?_
 refine r_nil ?_
 refine a_cond rfl (fun ht25 => ?_) (fun ht25 => ?_)
 ·
  skip
  refine a_seq ?_
  have h12 : x.b - x.a ≤ 12 := (by simp at ht25; omega)
  refine a_region ?_
  refine rv (v := .rsl _ _ _ _ _) (v_move (.inl rfl) nf) ?_
  refine rv (v := .int _ _) (v_move (.inl rfl) nf) ?_
  refine rv (v := .int _ _) (v_move (.inl rfl) nf) ?_
  refine rv (v := .fn _ _ _) (v_mv rfl) ?_
  refine r_step rfl (o_callIO (q := (INH, [])) (vs := [.rsl _ _ _ _ _, .int _ _, .int _ _, .fn _ _ _]) (args := [.rsl (INH, []) _ _ _ _, .int .i64 _, .int .i64 _, .fn _ _ _]) (x0 := .osl _ _ _ _) (x1 := .osl _ _ _ _) (res := .tup []) rfl hb135 rfl (by decide) ⟨.inl rfl, .inl rfl, .inl rfl, .inl rfl, trivial⟩ rfl rfl (insertion_c f hb cf hc x.d n x.a x.b g5 (by omega) (by omega)) rfl rfl rfl (ac_noSh _) (ac_noRef _) (Nat.le_of_ble_eq_true rfl) (by decide) rfl) ?_
  refine r_nil ?_
  refine a_ret ?_
  refine ret0_look Tryz.results123 (by decide) ?_ rfl
  exact Weak.of_eq (osl_eq (by rw [← g7, pdq_small h12]))
 ·
  skip
  refine a_skip ?_
  refine a_seq ?_
  refine a_seq ?_
  refine a_region ?_
  refine rv (v := .int _ _) (v_move (.inl rfl) nf) ?_
  refine rv (v := .bool _) (v_eql (.inl rfl) (.inl rfl)) ?_
  refine r_nil ?_
  refine a_cond rfl (fun ht32 => ?_) (fun ht32 => ?_)
  ·
   skip
   refine a_seq ?_
   have h12 : ¬ x.b - x.a ≤ 12 := (by simp at ht25; omega)
   have h0 : x.lim = 0 := (by simp at ht32; omega)
   refine a_region ?_
   refine rv (v := .rsl _ _ _ _ _) (v_move (.inl rfl) nf) ?_
   refine rv (v := .int _ _) (v_move (.inl rfl) nf) ?_
   refine rv (v := .int _ _) (v_move (.inl rfl) nf) ?_
   refine rv (v := .fn _ _ _) (v_mv rfl) ?_
   refine r_step rfl (o_callIOk (q := (INH, [])) (vs := [.rsl _ _ _ _ _, .int _ _, .int _ _, .fn _ _ _]) (args := [.rsl (INH, []) _ _ _ _, .int .i64 _, .int .i64 _, .fn _ _ _]) (x0 := .osl _ _ _ _) (x1 := .osl _ _ _ _) (res := .tup []) rfl hb136 rfl (by decide) ⟨.inl rfl, .inl rfl, .inl rfl, .inl rfl, trivial⟩ rfl rfl (heapSort_c f hb cf hc x.d n x.a x.b g5 (by omega) hn) (by simp [stays]; omega) rfl rfl rfl (ac_noSh _) (ac_noRef _) (Nat.le_of_ble_eq_true rfl) (by decide) rfl) ?_
   refine r_nil ?_
   refine a_ret ?_
   refine ret0_look Tryz.results123 (by decide) ?_ rfl
   exact Weak.of_eq (osl_eq (by rw [← g7, pdq_heap h12 h0]))
  ·
   skip
   refine a_skip ?_
   refine a_join (X := Unit) (fun _u => look [(0, .rsl (INH, []) 1 0 n none), (1, .int .i64 ((x.a : Nat) : Int)), (2, .int .i64 ((x.b : Nat) : Int)), (3, .int .i64 (((x.rd (ltc cf)).lim : Nat) : Int)), (4, .fn f [] []), (10, .bool x.wb), (11, .bool x.wp), (12, .int .i64 ((x.b - x.a : Nat) : Int)), (INH, .osl 1 (acells (x.rd (ltc cf)).d1) n none)]) (fun _u => True) ?_ (fun _u hJ => ?_)
   ·
    skip
    refine a_seq ?_
    have h12 : ¬ x.b - x.a ≤ 12 := (by simp at ht25; omega)
    have h0 : ¬ x.lim = 0 := (by simp at ht32; omega)
    have hf := hP.facts hS h12
    refine a_region ?_
    refine rv (v := .bool _) (v_move (.inl rfl) nf) ?_
    refine rv (v := .bool _) (v_not (.inl rfl)) ?_
    refine r_nil ?_
    refine a_cond rfl (fun ht39 => ?_) (fun ht39 => ?_)
    ·
     skip
     refine a_seq ?_
     refine a_region ?_
     refine rv (v := .rsl _ _ _ _ _) (v_move (.inl rfl) nf) ?_
     refine rv (v := .int _ _) (v_move (.inl rfl) nf) ?_
     refine rv (v := .int _ _) (v_move (.inl rfl) nf) ?_
     refine rv (v := .fn _ _ _) (v_mv rfl) ?_
     refine r_step rfl (o_callIOk (q := (INH, [])) (vs := [.rsl _ _ _ _ _, .int _ _, .int _ _, .fn _ _ _]) (args := [.rsl (INH, []) _ _ _ _, .int .i64 _, .int .i64 _, .fn _ _ _]) (x0 := .osl _ _ _ _) (x1 := .osl _ _ _ _) (res := .tup []) rfl hb137 rfl (by decide) ⟨.inl rfl, .inl rfl, .inl rfl, .inl rfl, trivial⟩ rfl rfl (breakPatterns_c f x.d n x.a x.b g5 (by omega) hn) (by simp [stays]; omega) rfl rfl rfl (ac_noSh _) (ac_noRef _) (Nat.le_of_ble_eq_true rfl) (by decide) rfl) ?_
     refine r_nil ?_
     refine a_region ?_
     refine rv (v := .int _ _) (v_move (.inl rfl) nf) ?_
     refine rv (v := .int _ _) (v_sub (.inl rfl) (.inl rfl) (fun _ => by omega)) ?_
     refine rv (v := .int _ _) (v_assign (.inl rfl) nf) ?_
     refine r_nil ?_
     have hw : x.wb = false := (by simpa using ht39)
     have hl := (rdF (lt := (ltc cf)) hw)
     exact ⟨(), ent_look ⟨Weak.of_eq rfl, Weak.of_eq rfl, Weak.of_eq rfl, Weak.of_eq (int_eq (by have := hl.1; omega)), Weak.of_eq rfl, Weak.of_eq rfl, Weak.of_eq rfl, Weak.of_eq rfl, Weak.of_eq (osl_eq (by rw [hl.2])), trivial⟩, trivial⟩
    ·
     skip
     refine a_skip ?_
     have hw : x.wb = true := (by simpa using ht39)
     have hl := (rdT (lt := (ltc cf)) hw)
     exact ⟨(), ent_look ⟨Weak.of_eq rfl, Weak.of_eq rfl, Weak.of_eq rfl, Weak.of_eq (int_eq (by have := hl.1; omega)), Weak.of_eq rfl, Weak.of_eq rfl, Weak.of_eq rfl, Weak.of_eq rfl, Weak.of_eq (osl_eq (by rw [hl.2])), trivial⟩, trivial⟩
   ·
    skip
    have h12 : ¬ x.b - x.a ≤ 12 := (by simp at ht25; omega)
    have h0 : ¬ x.lim = 0 := (by simp at ht32; omega)
    have hf := hP.facts hS h12
    refine a_seq ?_
    refine a_region ?_
    refine rv (v := .rsl _ _ _ _ _) (v_move (.inl rfl) nf) ?_
    refine rv (v := .int _ _) (v_move (.inl rfl) nf) ?_
    refine rv (v := .int _ _) (v_move (.inl rfl) nf) ?_
    refine rv (v := .fn _ _ _) (v_mv rfl) ?_
    refine rn (v := .tup [.int _ _, .int _ _]) (q_call (vs := [.rsl _ _ _ _ _, .int _ _, .int _ _, .fn _ _ _]) (args := [.sl _ _, .int .i64 _, .int .i64 _, .fn _ _ _]) hb138 ⟨.inl rfl, .inl rfl, .inl rfl, .inl rfl, trivial⟩ (l4_eq (sl_sh (ac_pure _)) rfl rfl rfl) (fun hA => choosePivot_c f hb cf hc _ n x.a x.b hf.1 (by omega) hn) rfl rfl) ?_
    refine rv (v := .tup [.int _ _, .int _ _]) (v_mv rfl) ?_
    refine rv (v := .int .i64 (((x.rd (ltc cf)).c.1 : Nat) : Int)) ((v_extract rfl rfl).cast (int_eq rfl)) ?_
    refine rv (v := .int .i64 ((hintN (x.rd (ltc cf)).c.2 : Nat) : Int)) ((v_extract rfl rfl).cast (int_eq rfl)) ?_
    refine rv (v := .int _ _) (v_assign (.inl rfl) nf) ?_
    refine rv (v := .int _ _) (v_assign (.inl rfl) nf) ?_
    refine r_nil ?_
    refine a_join (X := Unit) (fun _u => look [(0, .rsl (INH, []) 1 0 n none), (1, .int .i64 ((x.a : Nat) : Int)), (2, .int .i64 ((x.b : Nat) : Int)), (3, .int .i64 (((x.rd (ltc cf)).lim : Nat) : Int)), (4, .fn f [] []), (10, .bool x.wb), (11, .bool x.wp), (12, .int .i64 ((x.b - x.a : Nat) : Int)), (13, .int .i64 (((x.rd (ltc cf)).pivot : Nat) : Int)), (14, .int .i64 ((hintN (x.rd (ltc cf)).hint : Nat) : Int)), (INH, .osl 1 (acells (x.rd (ltc cf)).d2) n none)]) (fun _u => True) ?_ (fun _u hJ => ?_)
    ·
     skip
     refine a_seq ?_
     refine a_region ?_
     refine rv (v := .int _ _) (v_move (.inl rfl) nf) ?_
     refine rv (v := .bool _) (v_eql (.inl rfl) (.inl rfl)) ?_
     refine r_nil ?_
     refine a_cond rfl (fun ht56 => ?_) (fun ht56 => ?_)
     ·
      skip
      refine a_seq ?_
      refine a_region ?_
      refine rv (v := .rsl _ _ _ _ _) (v_move (.inl rfl) nf) ?_
      refine rv (v := .int _ _) (v_move (.inl rfl) nf) ?_
      refine rv (v := .int _ _) (v_move (.inl rfl) nf) ?_
      refine rv (v := .fn _ _ _) (v_mv rfl) ?_
      refine r_step rfl (o_callIOk (q := (INH, [])) (vs := [.rsl _ _ _ _ _, .int _ _, .int _ _, .fn _ _ _]) (args := [.rsl (INH, []) _ _ _ _, .int .i64 _, .int .i64 _, .fn _ _ _]) (x0 := .osl _ _ _ _) (x1 := .osl _ _ _ _) (res := .tup []) rfl hb139 rfl (by decide) ⟨.inl rfl, .inl rfl, .inl rfl, .inl rfl, trivial⟩ rfl rfl (reverse_c f _ n x.a x.b hf.1 (by omega) hn) (by simp [stays]; omega) rfl rfl rfl (ac_noSh _) (ac_noRef _) (Nat.le_of_ble_eq_true rfl) (by decide) rfl) ?_
      refine r_nil ?_
      refine a_seq ?_
      refine a_region ?_
      refine rv (v := .int _ _) (v_move (.inl rfl) nf) ?_
      refine rv (v := .int _ _) (v_sub (.inl rfl) (.inl rfl) (fun _ => by omega)) ?_
      refine rv (v := .int _ _) (v_move (.inl rfl) nf) ?_
      refine rv (v := .int _ _) (v_move (.inl rfl) nf) ?_
      refine rv (v := .int _ _) (v_sub (.inl rfl) (.inl rfl) (fun _ => by omega)) ?_
      refine rv (v := .int _ _) (v_sub (.inl rfl) (.inl rfl) (fun _ => by omega)) ?_
      refine rv (v := .int _ _) (v_assign (.inl rfl) nf) ?_
      refine r_nil ?_
      refine a_pre (ent_look (L := [(0, .rsl _ _ _ _ _), (1, .int _ _), (2, .int _ _), (3, .int _ _), (4, .fn _ _ _), (10, .bool _), (11, .bool _), (12, .int _ _), (13, .int _ _), (14, .int _ _), (INH, .osl _ _ _ _)]) ⟨Weak.rfl, Weak.rfl, Weak.rfl, Weak.rfl, Weak.rfl, Weak.rfl, Weak.rfl, Weak.rfl, Weak.rfl, Weak.rfl, Weak.rfl, trivial⟩) ?_
      refine a_region ?_
      refine rv (v := .int _ _) (v_assign (.inl rfl) nf) ?_
      refine r_nil ?_
      have hd2 := rd_dec (lt := (ltc cf)) (hintN_two.1 (of_decide_eq_true ht56) : (x.rd (ltc cf)).c.2 = .decreasing)
      exact ⟨(), ent_look ⟨Weak.of_eq rfl, Weak.of_eq rfl, Weak.of_eq rfl, Weak.of_eq rfl, Weak.of_eq rfl, Weak.of_eq rfl, Weak.of_eq rfl, Weak.of_eq rfl, Weak.of_eq (int_eq (by have h1 := hd2.2.1; have h2 := hf.2.1; dsimp only [PS.rd] at *; omega)), Weak.of_eq (int_eq (by rw [hd2.2.2]; rfl)), Weak.of_eq (osl_eq (by rw [hd2.1])), trivial⟩, trivial⟩
     ·
      skip
      refine a_skip ?_
      have hd2 := rd_not (lt := (ltc cf)) (fun h => of_decide_eq_false ht56 (hintN_two.2 h) : (x.rd (ltc cf)).c.2 ≠ .decreasing)
      exact ⟨(), ent_look ⟨Weak.of_eq rfl, Weak.of_eq rfl, Weak.of_eq rfl, Weak.of_eq rfl, Weak.of_eq rfl, Weak.of_eq rfl, Weak.of_eq rfl, Weak.of_eq rfl, Weak.of_eq (int_eq (by rw [hd2.2.1])), Weak.of_eq (int_eq (by rw [hd2.2.2])), Weak.of_eq (osl_eq (by rw [hd2.1])), trivial⟩, trivial⟩
    ·
     skip
     refine a_join (X := Unit) (fun _u => look [(0, .rsl (INH, []) 1 0 n none), (1, .int .i64 ((x.a : Nat) : Int)), (2, .int .i64 ((x.b : Nat) : Int)), (3, .int .i64 (((x.rd (ltc cf)).lim : Nat) : Int)), (4, .fn f [] []), (10, .bool x.wb), (11, .bool x.wp), (12, .int .i64 ((x.b - x.a : Nat) : Int)), (13, .int .i64 (((x.rd (ltc cf)).pivot : Nat) : Int)), (INH, .osl 1 (acells (x.rd (ltc cf)).pi.1) n none)]) (fun _u => (x.rd (ltc cf)).pi.2 = false) ?_ (fun _u hJ => ?_)
     ·
      skip
      refine a_seq ?_
      refine a_region ?_
      refine rv (v := .bool _) (v_move (.inl rfl) nf) ?_
      refine rv (v := .bool _) (v_move (.inl rfl) nf) ?_
      refine r_gval (v := .bool _) (v_move (.inl rfl) nf) rfl rfl rfl (by decide) (.inl ⟨_, rfl, rfl⟩) rfl (by decide) ?_
      refine rv (v := .bool _) (v_pick (.inl rfl) (.inr ⟨_, rfl, fun h h2 => by simp_all⟩) (.inl rfl)) ?_
      refine rv (v := .bool _) (v_move (.inl rfl) nf) ?_
      refine r_gval (v := .int _ _) (v_move (.inl rfl) nf) rfl rfl rfl (by decide) (.inl ⟨_, rfl, rfl⟩) rfl (by decide) ?_
      refine r_gval (v := .bool _) (v_eql (.inr ⟨_, rfl, fun h => h⟩) (.inl rfl)) rfl rfl rfl (by decide) (.inl ⟨_, rfl, rfl⟩) rfl (by decide) ?_
      refine rv (v := .bool _) (v_pick (.inl rfl) (.inr ⟨_, rfl, fun h h2 => by simp_all⟩) (.inl rfl)) ?_
      refine r_nil ?_
      refine a_cond rfl (fun ht75 => ?_) (fun ht75 => ?_)
      ·
       skip
       refine a_seq ?_
       have hpi := rd_pi_yes (lt := (ltc cf)) (d := x.d) (a := x.a) (b := x.b) (limit := x.lim) (wb := x.wb) (wp := x.wp) (pi_cond ht75)
       refine a_region ?_
       refine rv (v := .rsl _ _ _ _ _) (v_move (.inl rfl) nf) ?_
       refine rv (v := .int _ _) (v_move (.inl rfl) nf) ?_
       refine rv (v := .int _ _) (v_move (.inl rfl) nf) ?_
       refine rv (v := .fn _ _ _) (v_mv rfl) ?_
       refine r_step rfl (o_callIOk (q := (INH, [])) (vs := [.rsl _ _ _ _ _, .int _ _, .int _ _, .fn _ _ _]) (args := [.rsl (INH, []) _ _ _ _, .int .i64 _, .int .i64 _, .fn _ _ _]) (x0 := .osl _ _ _ _) (x1 := .osl _ _ _ _) (res := .bool _) rfl hb140 rfl (by decide) ⟨.inl rfl, .inl rfl, .inl rfl, .inl rfl, trivial⟩ rfl rfl (partialIns_c f hb cf hc _ n x.a x.b hf.2.2.1 (by omega) hn) (by simp [stays]; omega) rfl rfl rfl (ac_noSh _) (ac_noRef _) (Nat.le_of_ble_eq_true rfl) (by decide) rfl) ?_
       refine r_nil ?_
       refine a_cond rfl (fun ht80 => ?_) (fun ht80 => ?_)
       ·
        skip
        refine a_ret ?_
        refine ret0_look Tryz.results123 (by decide) ?_ rfl
        exact Weak.of_eq (osl_eq (by rw [← g7, pdq_done h12 h0 (by rw [hpi]; exact ht80), hpi]))
       ·
        skip
        refine a_skip ?_
        exact ⟨(), ent_look ⟨Weak.of_eq rfl, Weak.of_eq rfl, Weak.of_eq rfl, Weak.of_eq rfl, Weak.of_eq rfl, Weak.of_eq rfl, Weak.of_eq rfl, Weak.of_eq rfl, Weak.of_eq rfl, Weak.of_eq (osl_eq (by rw [hpi])), trivial⟩, (by rw [hpi]; exact ht80)⟩
      ·
       skip
       refine a_skip ?_
       have hpi := rd_pi_no (lt := (ltc cf)) (d := x.d) (a := x.a) (b := x.b) (limit := x.lim) (wb := x.wb) (wp := x.wp) (pi_cond ht75)
       exact ⟨(), ent_look ⟨Weak.of_eq rfl, Weak.of_eq rfl, Weak.of_eq rfl, Weak.of_eq rfl, Weak.of_eq rfl, Weak.of_eq rfl, Weak.of_eq rfl, Weak.of_eq rfl, Weak.of_eq rfl, Weak.of_eq (osl_eq (by rw [hpi])), trivial⟩, (by rw [hpi])⟩
     ·
      skip
      have hpf := hJ
      refine a_seq ?_
      refine a_seq ?_
      refine a_region_any mixed (by kernel_rfl) ?_
      refine yv (v := .int _ _) (v_move (.inl rfl) nf) ?_
      refine yv (v := .bool _) (v_gtr (.inl rfl) (.inl rfl)) ?_
      refine yv (v := .bool _) (v_move (.inl rfl) nf) ?_
      refine yg (v := .fn _ _ _) (v_move (.inl rfl) nf).quiet rfl rfl rfl (by decide) (.inl ⟨_, rfl, rfl⟩) ?_
      refine yg (v := .rsl _ _ _ _ _) (v_move (.inl rfl) nf).quiet rfl rfl rfl (by decide) (.inl ⟨_, rfl, rfl⟩) ?_
      refine yg (v := .int _ _) (v_move (.inl rfl) nf).quiet rfl rfl rfl (by decide) (.inl ⟨_, rfl, rfl⟩) ?_
      refine yg (v := .int _ _) (v_sub (.inr ⟨_, rfl, fun h => h⟩) (.inl rfl) (fun _ => by omega)).quiet rfl rfl rfl (by decide) (.inl ⟨_, rfl, rfl⟩) ?_
      refine yg (v := .rp _ _) (v_indexAddr_rsl0 es25 (.inr ⟨_, rfl, fun h => h⟩) (.inr ⟨_, rfl, fun h => h⟩) (fun hA => by simp at hA; omega)).quiet rfl rfl rfl (by decide) (.inl ⟨_, rfl, rfl⟩) ?_
      refine yg (v := .int .i64 (x.rd (ltc cf)).pi.1[x.a - 1]!) (v_load_rp1 ta3 (.inr ⟨_, rfl, fun h => h⟩) rfl (fun hA => by simp at hA; rw [show ((x.a : Int) - 1).toNat = x.a - 1 by omega, Nat.mul_one]; exact acells_get (by omega)) rfl).quiet rfl rfl rfl (by decide) (.inl ⟨_, rfl, rfl⟩) ?_
      refine yg (v := .rsl _ _ _ _ _) (v_move (.inl rfl) nf).quiet rfl rfl rfl (by decide) (.inl ⟨_, rfl, rfl⟩) ?_
      refine yg (v := .int _ _) (v_move (.inl rfl) nf).quiet rfl rfl rfl (by decide) (.inl ⟨_, rfl, rfl⟩) ?_
      refine yg (v := .rp _ _) (v_indexAddr_rsl0 es25 (.inr ⟨_, rfl, fun h => h⟩) (.inr ⟨_, rfl, fun h => h⟩) (fun hA => by simp at hA; omega)).quiet rfl rfl rfl (by decide) (.inl ⟨_, rfl, rfl⟩) ?_
      refine yg (v := .int .i64 (x.rd (ltc cf)).pi.1[(x.rd (ltc cf)).pivot]!) (v_load_rp1 ta3 (.inr ⟨_, rfl, fun h => h⟩) rfl (fun hA => by simp at hA; rw [Nat.mul_one]; exact acells_get (by omega)) rfl).quiet rfl rfl rfl (by decide) (.inl ⟨_, rfl, rfl⟩) ?_
      refine yg (v := .int _ _) (q_clo (vs := [.int _ _, .int _ _]) (args := [.int .i64 _, .int .i64 _]) hb (.inr ⟨_, rfl, fun h => h⟩) ⟨.inr ⟨_, rfl, fun h => h⟩, .inr ⟨_, rfl, fun h => h⟩, trivial⟩ rfl (fun hA => hc _ _) rfl rfl) rfl rfl rfl (by decide) (.inl ⟨_, rfl, rfl⟩) ?_
      refine yg (v := .bool _) (v_lss (.inr ⟨_, rfl, fun h => h⟩) (.inl rfl)).quiet rfl rfl rfl (by decide) (.inl ⟨_, rfl, rfl⟩) ?_
      refine yg (v := .bool _) (v_not (.inr ⟨_, rfl, fun h => h⟩)).quiet rfl rfl rfl (by decide) (.inl ⟨_, rfl, rfl⟩) ?_
      refine yv (v := .bool _) (v_pick (.inl rfl) (.inr ⟨_, rfl, fun h h2 => by simp_all⟩) (.inl rfl)) ?_
      refine y_nil ?_
      refine a_cond rfl (fun ht97 => ?_) (fun ht97 => ?_)
      ·
       skip
       refine a_seq ?_
       have hts : x.test (ltc cf) = true := test_cond ht97
       have hnx := hP.eq hS h12 h0 hpf hts
       refine a_region ?_
       refine rv (v := .rsl _ _ _ _ _) (v_move (.inl rfl) nf) ?_
       refine rv (v := .int _ _) (v_move (.inl rfl) nf) ?_
       refine rv (v := .int _ _) (v_move (.inl rfl) nf) ?_
       refine rv (v := .int _ _) (v_move (.inl rfl) nf) ?_
       refine rv (v := .fn _ _ _) (v_mv rfl) ?_
       refine r_step rfl (o_callIOk (q := (INH, [])) (vs := [.rsl _ _ _ _ _, .int _ _, .int _ _, .int _ _, .fn _ _ _]) (args := [.rsl (INH, []) _ _ _ _, .int .i64 _, .int .i64 _, .int .i64 _, .fn _ _ _]) (x0 := .osl _ _ _ _) (x1 := .osl _ _ _ _) (res := .int _ _) rfl hb141 rfl (by decide) ⟨.inl rfl, .inl rfl, .inl rfl, .inl rfl, .inl rfl, trivial⟩ rfl rfl (partEq_c f hb cf hc _ n x.a x.b _ hf.2.2.2.2.1 (by have := hf.2.2.2.1; omega) hn) (by simp [stays]; omega) rfl rfl rfl (ac_noSh _) (ac_noRef _) (Nat.le_of_ble_eq_true rfl) (by decide) rfl) ?_
       refine rv (v := .int _ _) (v_assign (.inl rfl) nf) ?_
       refine r_nil ?_
       refine a_seq ?_
       refine a_pre (ent_look (L := [(0, .rsl _ _ _ _ _), (1, .int _ _), (2, .int _ _), (3, .int _ _), (4, .fn _ _ _), (10, .bool _), (11, .bool _), (12, .int _ _), (13, .int _ _), (15, .int _ _), (INH, .osl _ _ _ _)]) ⟨Weak.rfl, Weak.rfl, Weak.rfl, Weak.rfl, Weak.rfl, Weak.rfl, Weak.rfl, Weak.rfl, Weak.rfl, Weak.rfl, Weak.rfl, trivial⟩) ?_
       refine a_region ?_
       refine rv (v := .int _ _) (v_move (.inl rfl) nf) ?_
       refine rv (v := .int _ _) (v_assign (.inl rfl) nf) ?_
       refine r_nil ?_
       refine a_exit ?_
       refine ⟨(x.eq (ltc cf)), ent_look ⟨Weak.of_eq rfl, Weak.of_eq rfl, Weak.of_eq rfl, Weak.of_eq rfl, Weak.of_eq rfl, Weak.of_eq rfl, Weak.of_eq rfl, Weak.of_eq rfl, trivial⟩, hnx.1, (by have h1 := hnx.2; have h2 := hnx.1.1; have h3 : (x.eq (ltc cf)).b = x.b := rfl; omega)⟩
      ·
       skip
       refine a_skip ?_
       refine a_seq ?_
       have hts : x.test (ltc cf) = false := test_cond ht97
       have hpt := hP.part hS h12
       refine a_region ?_
       refine rv (v := .rsl _ _ _ _ _) (v_move (.inl rfl) nf) ?_
       refine rv (v := .int _ _) (v_move (.inl rfl) nf) ?_
       refine rv (v := .int _ _) (v_move (.inl rfl) nf) ?_
       refine rv (v := .int _ _) (v_move (.inl rfl) nf) ?_
       refine rv (v := .fn _ _ _) (v_mv rfl) ?_
       refine r_step rfl (o_callIOk (q := (INH, [])) (vs := [.rsl _ _ _ _ _, .int _ _, .int _ _, .int _ _, .fn _ _ _]) (args := [.rsl (INH, []) _ _ _ _, .int .i64 _, .int .i64 _, .int .i64 _, .fn _ _ _]) (x0 := .osl _ _ _ _) (x1 := .osl _ _ _ _) (res := .tup [.int _ _, .bool _]) rfl hb142 rfl (by decide) ⟨.inl rfl, .inl rfl, .inl rfl, .inl rfl, .inl rfl, trivial⟩ rfl rfl (partition_c f hb cf hc _ n x.a x.b _ hf.2.2.2.2.1 (by have := hf.2.2.2.1; omega) hn) (by simp [stays]; omega) rfl rfl rfl (ac_noSh _) (ac_noRef _) (Nat.le_of_ble_eq_true rfl) (by decide) rfl) ?_
       refine rv (v := .tup [.int _ _, .bool _]) (v_mv rfl) ?_
       refine rv (v := .int .i64 (((x.pt (ltc cf)).1 : Nat) : Int)) ((v_extract rfl rfl).cast (int_eq rfl)) ?_
       refine rv (v := .bool (x.pt (ltc cf)).2.1) ((v_extract rfl rfl).cast (bool_eq rfl)) ?_
       refine rv (v := .int _ _) (v_assign (.inl rfl) nf) ?_
       refine rv (v := .bool _) (v_assign (.inl rfl) nf) ?_
       refine r_nil ?_
       refine a_seq ?_
       refine a_pre (ent_look (L := [(0, .rsl _ _ _ _ _), (1, .int _ _), (2, .int _ _), (3, .int _ _), (4, .fn _ _ _), (10, .bool _), (11, .bool _), (12, .int _ _), (16, .int _ _), (17, .bool _), (INH, .osl _ _ _ _)]) ⟨Weak.rfl, Weak.rfl, Weak.rfl, Weak.rfl, Weak.rfl, Weak.rfl, Weak.rfl, Weak.rfl, Weak.rfl, Weak.rfl, Weak.rfl, trivial⟩) ?_
       refine a_region ?_
       refine rv (v := .bool _) (v_move (.inl rfl) nf) ?_
       refine rv (v := .bool _) (v_assign (.inl rfl) nf) ?_
       refine r_nil ?_
       refine a_seq ?_
       refine a_region ?_
       refine rv (v := .int _ _) (v_move (.inl rfl) nf) ?_
       refine rv (v := .int _ _) (v_move (.inl rfl) nf) ?_
       refine rv (v := .int .i64 (((x.pt (ltc cf)).1 - x.a : Nat) : Int)) ((v_sub (.inl rfl) (.inl rfl) (fun _ => by omega)).cast (int_eq (by omega))) ?_
       refine rv (v := .int _ _) (v_move (.inl rfl) nf) ?_
       refine rv (v := .int _ _) (v_move (.inl rfl) nf) ?_
       refine rv (v := .int .i64 ((x.b - (x.pt (ltc cf)).1 : Nat) : Int)) ((v_sub (.inl rfl) (.inl rfl) (fun _ => by omega)).cast (int_eq (by omega))) ?_
       refine rv (v := .int _ _) (v_assign (.inl rfl) nf) ?_
       refine rv (v := .int _ _) (v_assign (.inl rfl) nf) ?_
       refine r_nil ?_
       refine a_seq ?_
       refine a_region ?_
       refine rv (v := .int _ _) (v_move (.inl rfl) nf) ?_
       refine rv (v := .int .i64 (((x.b - x.a) / 8 : Nat) : Int)) ((v_quo (.inl rfl) (.inl rfl) (fun _ => by omega)).cast (int_eq (by omega))) ?_
       refine rv (v := .int _ _) (v_assign (.inl rfl) nf) ?_
       refine r_nil ?_
       refine a_seq ?_
       refine a_region ?_
       refine rv (v := .int _ _) (v_move (.inl rfl) nf) ?_
       refine rv (v := .int _ _) (v_move (.inl rfl) nf) ?_
       refine rv (v := .bool _) (v_lss (.inl rfl) (.inl rfl)) ?_
       refine r_nil ?_
       refine a_cond rfl (fun ht125 => ?_) (fun ht125 => ?_)
       ·
        skip
        refine a_seq ?_
        have hll : (x.pt (ltc cf)).1 - x.a < x.b - (x.pt (ltc cf)).1 := (by simp at ht125; omega)
        have hnx := hP.left hS h12 h0 hpf hts hll
        refine a_region ?_
        refine rv (v := .int _ _) (v_move (.inl rfl) nf) ?_
        refine rv (v := .int _ _) (v_move (.inl rfl) nf) ?_
        refine rv (v := .bool _) (v_geq (.inl rfl) (.inl rfl)) ?_
        refine rv (v := .bool _) (v_assign (.inl rfl) nf) ?_
        refine r_nil ?_
        refine a_seq ?_
        refine a_pre (ent_look (L := [(0, .rsl _ _ _ _ _), (1, .int _ _), (2, .int _ _), (3, .int _ _), (4, .fn _ _ _), (10, .bool _), (11, .bool _), (16, .int _ _), (19, .int _ _), (20, .int _ _), (INH, .osl _ _ _ _)]) ⟨Weak.rfl, Weak.rfl, Weak.rfl, Weak.rfl, Weak.rfl, Weak.rfl, Weak.rfl, Weak.rfl, Weak.rfl, Weak.rfl, Weak.rfl, trivial⟩) ?_
        refine a_region ?_
        refine rv (v := .rsl _ _ _ _ _) (v_move (.inl rfl) nf) ?_
        refine rv (v := .int _ _) (v_move (.inl rfl) nf) ?_
        refine rv (v := .int _ _) (v_move (.inl rfl) nf) ?_
        refine rv (v := .int _ _) (v_move (.inl rfl) nf) ?_
        refine rv (v := .fn _ _ _) (v_mv rfl) ?_
        refine r_step rfl (o_callIOk (q := (INH, [])) (vs := [.rsl _ _ _ _ _, .int _ _, .int _ _, .int _ _, .fn _ _ _]) (args := [.rsl (INH, []) _ _ _ _, .int .i64 _, .int .i64 _, .int .i64 _, .fn _ _ _]) (x0 := .osl _ _ _ _) (x1 := .osl _ _ _ _) (res := .tup []) rfl hb123 rfl (by decide) ⟨.inl rfl, .inl rfl, .inl rfl, .inl rfl, .inl rfl, trivial⟩ rfl rfl (ih _ _ _ _ hpt.2.2.1 hpt.1 (by omega) (by omega) hf.2.2.2.2.2.2 hpt.2.2.2.1) (by simp [stays]; omega) rfl rfl rfl (ac_noSh _) (ac_noRef _) (Nat.le_of_ble_eq_true rfl) (by decide) rfl) ?_
        refine r_nil ?_
        refine a_region ?_
        refine rv (v := .int _ _) (v_move (.inl rfl) nf) ?_
        refine rv (v := .int .i64 (((x.pt (ltc cf)).1 + 1 : Nat) : Int)) ((v_add (.inl rfl) (.inl rfl) (fun _ => by omega)).cast (int_eq (by omega))) ?_
        refine rv (v := .int _ _) (v_assign (.inl rfl) nf) ?_
        refine r_nil ?_
        refine ⟨(x.left (ltc cf)), ent_look ⟨Weak.of_eq rfl, Weak.of_eq rfl, Weak.of_eq rfl, Weak.of_eq rfl, Weak.of_eq rfl, Weak.of_eq (bool_eq (decide_eq_decide.2 (by simp only [ge_iff_le]; omega))), Weak.of_eq rfl, Weak.of_eq rfl, trivial⟩, hnx.1, hnx.2⟩
       ·
        skip
        refine a_seq ?_
        have hll : ¬ (x.pt (ltc cf)).1 - x.a < x.b - (x.pt (ltc cf)).1 := (by simp at ht125; omega)
        have hnx := hP.right hS h12 h0 hpf hts hll
        refine a_region ?_
        refine rv (v := .int _ _) (v_move (.inl rfl) nf) ?_
        refine rv (v := .int _ _) (v_move (.inl rfl) nf) ?_
        refine rv (v := .bool _) (v_geq (.inl rfl) (.inl rfl)) ?_
        refine rv (v := .bool _) (v_assign (.inl rfl) nf) ?_
        refine r_nil ?_
        refine a_seq ?_
        refine a_pre (ent_look (L := [(0, .rsl _ _ _ _ _), (1, .int _ _), (2, .int _ _), (3, .int _ _), (4, .fn _ _ _), (10, .bool _), (11, .bool _), (16, .int _ _), (INH, .osl _ _ _ _)]) ⟨Weak.rfl, Weak.rfl, Weak.rfl, Weak.rfl, Weak.rfl, Weak.rfl, Weak.rfl, Weak.rfl, Weak.rfl, trivial⟩) ?_
        refine a_region ?_
        refine rv (v := .rsl _ _ _ _ _) (v_move (.inl rfl) nf) ?_
        refine rv (v := .int _ _) (v_move (.inl rfl) nf) ?_
        refine rv (v := .int .i64 (((x.pt (ltc cf)).1 + 1 : Nat) : Int)) ((v_add (.inl rfl) (.inl rfl) (fun _ => by omega)).cast (int_eq (by omega))) ?_
        refine rv (v := .int _ _) (v_move (.inl rfl) nf) ?_
        refine rv (v := .int _ _) (v_move (.inl rfl) nf) ?_
        refine rv (v := .fn _ _ _) (v_mv rfl) ?_
        refine r_step rfl (o_callIOk (q := (INH, [])) (vs := [.rsl _ _ _ _ _, .int _ _, .int _ _, .int _ _, .fn _ _ _]) (args := [.rsl (INH, []) _ _ _ _, .int .i64 _, .int .i64 _, .int .i64 _, .fn _ _ _]) (x0 := .osl _ _ _ _) (x1 := .osl _ _ _ _) (res := .tup []) rfl hb123 rfl (by decide) ⟨.inl rfl, .inl rfl, .inl rfl, .inl rfl, .inl rfl, trivial⟩ rfl rfl (ih _ _ _ _ hpt.2.2.1 (by omega) (by omega) (by omega) hf.2.2.2.2.2.2 hpt.2.2.2.2) (by simp [stays]; omega) rfl rfl rfl (ac_noSh _) (ac_noRef _) (Nat.le_of_ble_eq_true rfl) (by decide) rfl) ?_
        refine r_nil ?_
        refine a_region ?_
        refine rv (v := .int _ _) (v_move (.inl rfl) nf) ?_
        refine rv (v := .int _ _) (v_assign (.inl rfl) nf) ?_
        refine r_nil ?_
        refine ⟨(x.right (ltc cf)), ent_look ⟨Weak.of_eq rfl, Weak.of_eq rfl, Weak.of_eq rfl, Weak.of_eq rfl, Weak.of_eq rfl, Weak.of_eq (bool_eq (decide_eq_decide.2 (by simp only [ge_iff_le]; omega))), Weak.of_eq rfl, Weak.of_eq rfl, trivial⟩, hnx.1, hnx.2⟩
theorem pdq_c (f : Nat) (hb : hasBody Tryz.prog f = true) (cf : Int → Int → Int) (hc : ∀ x y, ACall Tryz.prog f [.int .i64 x, .int .i64 y] [] (.int .i64 (cf x y)) []) (hS : SWO (ltc cf)) (n : Nat) (hn : n ≤ 1152921504606846976) (d : Array Int) (a b limit : Nat) (hd : d.size = n) (hab : a ≤ b ∧ b ≤ n ∧ limit ≤ 100) (hB : Below (ltc cf) a b d) :
  ACall Tryz.prog 123 [.rsl (INH, []) 1 0 n none, .int .i64 ((a : Nat) : Int), .int .i64 ((b : Nat) : Int), .int .i64 ((limit : Nat) : Int), .fn f [] []] [.osl 1 (acells d) n none] (.tup []) [.osl 1 (acells (pdq (ltc cf) d a b limit true true)) n none] := by
 have key : ∀ (N : Nat) (d : Array Int) (a b limit : Nat), d.size = n → a ≤ b → b ≤ n → b - a < N → limit ≤ 100 → Below (ltc cf) a b d → ACall Tryz.prog 123 [.rsl (INH, []) 1 0 n none, .int .i64 ((a : Nat) : Int), .int .i64 ((b : Nat) : Int), .int .i64 ((limit : Nat) : Int), .fn f [] []] [.osl 1 (acells d) n none] (.tup []) [.osl 1 (acells (pdq (ltc cf) d a b limit true true)) n none] := by
  intro N
  induction N with
  | zero => intro d a b limit _ _ _ h; omega
  | succ N ih => intro d a b limit h1 h2 h3 h4 h5 h6; exact pdq_step f hb cf hc hS n N hn ih d a b limit h1 ⟨h2, h3, by omega, h5⟩ h6
 exact key (b - a + 1) d a b limit hd hab.1 hab.2.1 (by omega) hab.2.2 hB
end Go.Av
namespace Go.Av
open Go Go.Proofs Go.Sort
set_option maxRecDepth 10000
theorem sortFunc_c (f : Nat) (hb : hasBody Tryz.prog f = true) (cf : Int → Int → Int) (hc : ∀ x y, ACall Tryz.prog f [.int .i64 x, .int .i64 y] [] (.int .i64 (cf x y)) []) (hS : SWO (ltc cf)) (d : Array Int) (n : Nat) (hd : d.size = n) (hn : n ≤ 1152921504606846976) : ACall Tryz.prog 112 [.rsl (INH, []) 1 0 n none, .fn f [] []] [.osl 1 (acells d) n none] (.tup []) [.osl 1 (acells (Go.Sort.sort (ltc cf) d)) n none] := by
 have hbl : bitsLen n ≤ 61 := (bitsLen_le_iff _ _).2 (by omega)
 refine ACall.intro Tryz.func112 rfl (N := 14) rfl (by decide) (by simp) ?_
 refine a_seq ?_
 refine a_region ?_
 refine rv (v := .rsl _ _ _ _ _) (v_move (.inl rfl) nf) ?_
 refine rv (v := .int _ _) (v_len_rsl sl25 (.inl rfl)) ?_
 refine rv (v := .int _ _) (v_assign (.inl rfl) nf) ?_
 refine r_nil ?_
 refine a_region ?_
 refine rv (v := .rsl _ _ _ _ _) (v_move (.inl rfl) nf) ?_
 refine rv (v := .int _ _) (v_move (.inl rfl) nf) ?_
 refine rv (v := .int _ _) (v_move (.inl rfl) nf) ?_
 refine rv (v := .int .u64 ((n : Nat) : Int)) ((v_conv iss3 uni108 (.inl rfl) (fun _ => IntWalk.u64_in _ (by omega))).cast (int_eq rfl)) ?_
 refine rn (v := .int _ _) (q_call (vs := [.int _ _]) (args := [.int .u64 ((_ : Nat) : Int)]) hb118 ⟨.inl rfl, trivial⟩ rfl (fun hA => len_c n (by omega)) rfl rfl) ?_
 refine rv (v := .fn _ _ _) (v_mv rfl) ?_
 refine r_step rfl (o_callIO (q := (INH, [])) (vs := [.rsl _ _ _ _ _, .int _ _, .int _ _, .int _ _, .fn _ _ _]) (args := [.rsl (INH, []) _ _ _ _, .int .i64 _, .int .i64 _, .int .i64 _, .fn _ _ _]) (x0 := .osl _ _ _ _) (x1 := .osl _ _ _ _) (res := .tup []) rfl hb123 rfl (by decide) ⟨.inl rfl, .inl rfl, .inl rfl, .inl rfl, .inl rfl, trivial⟩ rfl rfl (pdq_c f hb cf hc hS n hn d 0 n (bitsLen n) hd ⟨Nat.zero_le _, Nat.le_refl _, Nat.le_trans hbl (by decide)⟩ (Or.inl rfl)) rfl rfl rfl (ac_noSh _) (ac_noRef _) (Nat.le_of_ble_eq_true rfl) (by decide) rfl) ?_
 refine r_nil ?_
 refine ret0_look Tryz.results112 (by decide) ?_ rfl
 exact Weak.of_eq (osl_eq (by unfold Go.Sort.sort; rw [hd]))
end Go.Av
namespace Go.Av
open Go Go.Proofs Go.Sort
set_option maxRecDepth 10000
theorem hb104 : hasBody Tryz.prog 104 = true := by kernel_rfl
theorem hb105 : hasBody Tryz.prog 105 = true := by kernel_rfl
theorem hb120 : hasBody Tryz.prog 120 = true := by kernel_rfl
theorem isNaN_c (x : Int) : ACall Tryz.prog 120 [.int .i64 x] [] (.bool false) [] := by
 refine ACall.intro Tryz.func120 rfl (N := 6) rfl (by decide) (by simp) ?_
 refine a_seq ?_
 refine a_region ?_
 refine rv (v := .bool _) (v_assign (.inl rfl) nf) ?_
 refine r_nil ?_
 refine a_seq ?_
 refine a_region ?_
 refine rv (v := .int _ _) (v_move (.inl rfl) nf) ?_
 refine rv (v := .int _ _) (v_move (.inl rfl) nf) ?_
 refine rv (v := .bool _) (v_neq (.inl rfl) (.inl rfl)) ?_
 refine rv (v := .bool _) (v_assign (.inl rfl) nf) ?_
 refine r_nil ?_
 refine a_ret ?_
 refine ret1 Tryz.results120 (by decide) (by decide) (Weak.of_eq (bool_eq ?_)) rfl Leaves.nil
 simp
theorem cmp_c (x y : Int) : ACall Tryz.prog 105 [.int .i64 x, .int .i64 y] [] (.int .i64 (cmpI x y)) [] := by
 refine ACall.intro Tryz.func105 rfl (N := 20) rfl (by decide) (by simp) ?_
 refine a_seq ?_
 refine a_region ?_
 refine rv (v := .int _ _) (v_assign (.inl rfl) nf) ?_
 refine r_nil ?_
 refine a_seq ?_
 refine a_region ?_
 refine rv (v := .int _ _) (v_move (.inl rfl) nf) ?_
 refine rn (v := .bool _) (q_call (vs := [.int _ _]) (args := [.int .i64 _]) hb120 ⟨.inl rfl, trivial⟩ rfl (fun hA => isNaN_c _) rfl rfl) ?_
 refine rv (v := .bool _) (v_assign (.inl rfl) nf) ?_
 refine r_nil ?_
 refine a_seq ?_
 refine a_region ?_
 refine rv (v := .int _ _) (v_move (.inl rfl) nf) ?_
 refine rn (v := .bool _) (q_call (vs := [.int _ _]) (args := [.int .i64 _]) hb120 ⟨.inl rfl, trivial⟩ rfl (fun hA => isNaN_c _) rfl rfl) ?_
 refine rv (v := .bool _) (v_assign (.inl rfl) nf) ?_
 refine r_nil ?_
 refine a_seq ?_
 refine a_seq ?_
 refine a_region ?_
 refine rv (v := .bool _) (v_move (.inl rfl) nf) ?_
 refine r_nil ?_
 refine a_cond rfl (fun ht11 => ?_) (fun ht11 => ?_)
 ·
  skip
  refine a_seq ?_
  refine a_seq ?_
  refine a_region ?_
  refine rv (v := .bool _) (v_move (.inl rfl) nf) ?_
  refine r_nil ?_
  refine a_cond rfl (fun ht12 => ?_) (fun ht12 => ?_)
  ·
   skip
   refine a_seq ?_
   refine a_region ?_
   refine rv (v := .int _ _) (v_assign (.inl rfl) nf) ?_
   refine r_nil ?_
   refine a_ret ?_
   refine ret1 Tryz.results105 (by decide) (by decide) (Weak.of_eq (int_eq ?_)) rfl Leaves.nil
   exact absurd ht11 (by simp)
  ·
   skip
   refine a_skip ?_
   refine a_seq ?_
   refine a_region ?_
   refine rv (v := .int _ _) (v_assign (.inl rfl) nf) ?_
   refine r_nil ?_
   refine a_ret ?_
   refine ret1 Tryz.results105 (by decide) (by decide) (Weak.of_eq (int_eq ?_)) rfl Leaves.nil
   exact absurd ht11 (by simp)
 ·
  skip
  refine a_skip ?_
  refine a_seq ?_
  refine a_seq ?_
  refine a_region ?_
  refine rv (v := .bool _) (v_move (.inl rfl) nf) ?_
  refine r_nil ?_
  refine a_cond rfl (fun ht13 => ?_) (fun ht13 => ?_)
  ·
   skip
   refine a_seq ?_
   refine a_region ?_
   refine rv (v := .int _ _) (v_assign (.inl rfl) nf) ?_
   refine r_nil ?_
   refine a_ret ?_
   refine ret1 Tryz.results105 (by decide) (by decide) (Weak.of_eq (int_eq ?_)) rfl Leaves.nil
   exact absurd ht13 (by simp)
  ·
   skip
   refine a_skip ?_
   refine a_seq ?_
   refine a_seq ?_
   refine a_region ?_
   refine rv (v := .int _ _) (v_move (.inl rfl) nf) ?_
   refine rv (v := .int _ _) (v_move (.inl rfl) nf) ?_
   refine rv (v := .bool _) (v_lss (.inl rfl) (.inl rfl)) ?_
   refine r_nil ?_
   refine a_cond rfl (fun ht16 => ?_) (fun ht16 => ?_)
   ·
    skip
    refine a_seq ?_
    refine a_region ?_
    refine rv (v := .int _ _) (v_assign (.inl rfl) nf) ?_
    refine r_nil ?_
    refine a_ret ?_
    refine ret1 Tryz.results105 (by decide) (by decide) (Weak.of_eq (int_eq ?_)) rfl Leaves.nil
    unfold cmpI; rw [if_pos (by simpa using ht16)]
   ·
    skip
    refine a_skip ?_
    refine a_seq ?_
    refine a_seq ?_
    refine a_region ?_
    refine rv (v := .int _ _) (v_move (.inl rfl) nf) ?_
    refine rv (v := .int _ _) (v_move (.inl rfl) nf) ?_
    refine rv (v := .bool _) (v_gtr (.inl rfl) (.inl rfl)) ?_
    refine r_nil ?_
    refine a_cond rfl (fun ht19 => ?_) (fun ht19 => ?_)
    ·
     skip
     refine a_seq ?_
     refine a_region ?_
     refine rv (v := .int _ _) (v_assign (.inl rfl) nf) ?_
     refine r_nil ?_
     refine a_ret ?_
     refine ret1 Tryz.results105 (by decide) (by decide) (Weak.of_eq (int_eq ?_)) rfl Leaves.nil
     unfold cmpI; rw [if_neg (by simpa using ht16), if_pos (by simpa using ht19)]
    ·
     skip
     refine a_skip ?_
     refine a_seq ?_
     refine a_region ?_
     refine rv (v := .int _ _) (v_assign (.inl rfl) nf) ?_
     refine r_nil ?_
     refine a_ret ?_
     refine ret1 Tryz.results105 (by decide) (by decide) (Weak.of_eq (int_eq ?_)) rfl Leaves.nil
     unfold cmpI; rw [if_neg (by simpa using ht16), if_neg (by simpa using ht19)]
theorem or_c (l : List Int) (hl : (l.length : Int) ≤ 9223372036854775807) : ACall Tryz.prog 104 [.sl (icells l) l.length] [] (.int .i64 (orL l)) [] := by
 refine ACall.intro Tryz.func104 rfl (N := 18) rfl (by decide) (by simp) ?_
 refine a_seq ?_
 refine a_region ?_
 refine rv (v := .int _ _) (v_assign (.inl rfl) nf) ?_
 refine r_nil ?_
 refine a_seq ?_
 refine a_region ?_
 refine rv (v := .int _ _) (v_assign (.inl rfl) nf) ?_
 refine r_nil ?_
 refine a_seq ?_
 refine a_seq ?_
 refine a_region ?_
 refine rv (v := .sl _ _) (v_move (.inl rfl) nf) ?_
 refine rv (v := .int _ _) (v_len_sl sl25 (.inl rfl)) ?_
 refine rv (v := .int _ _) (v_move (.inl rfl) nf) ?_
 refine r_nil ?_
 refine a_block ?_
 refine a_loop (X := Nat) (fun i => look [(3, .int .i64 0), (6, .sl (icells l) l.length), (7, .int .i64 (l.length : Int)), (8, .int .i64 (i : Int))]) (fun i => i ≤ l.length ∧ orL (l.drop i) = orL l) (fun i => l.length - i) 0 (ent_look ⟨Weak.of_eq rfl, Weak.of_eq rfl, Weak.of_eq rfl, Weak.of_eq rfl, trivial⟩) ⟨Nat.zero_le _, rfl⟩ (fun i hG => ?_)
 obtain ⟨h1, h2⟩ := hG
 refine a_seq ?_
 refine a_region ?_
 refine rv (v := .bool _) (v_lss (.inl rfl) (.inl rfl)) ?_
 refine r_nil ?_
 refine a_seq ?_
 refine a_cond rfl (fun ht9 => ?_) (fun ht9 => ?_)
 ·
  skip
  refine a_skip ?_
  refine a_seq ?_
  refine a_block ?_
  refine a_seq ?_
  have hi : i < l.length := (by simp at ht9; omega)
  refine a_region ?_
  refine rv (v := .pp _ _) (v_indexAddr_sl es25 (.inl rfl) (.inl rfl) (fun _ => ⟨by omega, by omega, icells_ne hi⟩)) ?_
  refine rv (v := .int .i64 (gd l i)) (v_load_pp ta3 (.inl rfl) (fun _ => by rw [Nat.mul_one]; exact icells_get (gd_get hi)) rfl) ?_
  refine rv (v := .int _ _) (v_assign (.inl rfl) nf) ?_
  refine r_nil ?_
  refine a_seq ?_
  refine a_region ?_
  refine rv (v := .int _ _) (v_move (.inl rfl) nf) ?_
  refine rv (v := .int _ _) (v_move (.inl rfl) nf) ?_
  refine rv (v := .bool _) (v_neq (.inl rfl) (.inl rfl)) ?_
  refine r_nil ?_
  refine a_cond rfl (fun ht14 => ?_) (fun ht14 => ?_)
  ·
   skip
   refine a_seq ?_
   refine a_region ?_
   refine rv (v := .int _ _) (v_move (.inl rfl) nf) ?_
   refine rv (v := .int _ _) (v_assign (.inl rfl) nf) ?_
   refine r_nil ?_
   refine a_ret ?_
   refine ret1 Tryz.results104 (by decide) (by decide) (Weak.of_eq (int_eq ?_)) rfl Leaves.nil
   rw [← h2, orL_drop hi, if_pos (by simpa using ht14)]
  ·
   skip
   refine a_skip ?_
   refine a_region ?_
   refine rv (v := .int _ _) (v_add (.inl rfl) (.inl rfl) (fun _ => by omega)) ?_
   refine rv (v := .int _ _) (v_move (.inl rfl) nf) ?_
   refine r_nil ?_
   refine ⟨i + 1, ent_look ⟨Weak.of_eq rfl, Weak.of_eq rfl, Weak.of_eq rfl, Weak.of_eq (int_eq (by omega)), trivial⟩, ⟨by omega, by rw [← h2, orL_drop hi, if_neg (by simpa using ht14)]⟩, by omega⟩
 ·
  skip
  refine a_exit ?_
  refine a_seq ?_
  refine a_region ?_
  refine rv (v := .int _ _) (v_move (.inl rfl) nf) ?_
  refine rv (v := .int _ _) (v_assign (.inl rfl) nf) ?_
  refine r_nil ?_
  refine a_ret ?_
  refine ret1 Tryz.results104 (by decide) (by decide) (Weak.of_eq (int_eq ?_)) rfl Leaves.nil
  rw [← h2, show l.drop i = [] from List.drop_eq_nil_of_le (by simp at ht9; omega)]; rfl
theorem absA_c (l : Int) : ACall Tryz.prog 59 [.int .i64 l] [] (.int .i64 (absA l)) [] := by
 refine ACall.intro Tryz.func59 rfl (N := 7) rfl (by decide) (by simp) ?_
 refine a_seq ?_
 refine a_region ?_
 refine rv (v := .int _ _) (v_assign (.inl rfl) nf) ?_
 refine r_nil ?_
 refine a_seq ?_
 refine a_region ?_
 refine rv (v := .int _ _) (v_move (.inl rfl) nf) ?_
 refine rv (v := .int _ _) (v_move (.inl rfl) nf) ?_
 refine rv (v := .int _ _) (v_negA (.inl rfl)) ?_
 refine rv (v := .int _ _) (v_max (.inl rfl) (.inl rfl)) ?_
 refine rv (v := .int _ _) (v_assign (.inl rfl) nf) ?_
 refine r_nil ?_
 refine a_ret ?_
 refine ret1 Tryz.results59 (by decide) (by decide) (Weak.of_eq (int_eq ?_)) rfl Leaves.nil
 rfl
theorem cmpLit_c (x y : Int) : ACall Tryz.prog 107 [.int .i64 x, .int .i64 y] [] (.int .i64 (cfLit x y)) [] := by
 refine ACall.intro Tryz.func107 rfl (N := 15) rfl (by decide) (by simp) ?_
 refine a_seq ?_
 refine a_region ?_
 refine rv (v := .int _ _) (v_assign (.inl rfl) nf) ?_
 refine r_nil ?_
 refine a_seq ?_
 refine a_region ?_
 refine rv (v := .int _ _) (v_move (.inl rfl) nf) ?_
 refine rn (v := .int _ _) (q_call (vs := [.int _ _]) (args := [.int .i64 _]) hb59 ⟨.inl rfl, trivial⟩ rfl (fun hA => absA_c _) rfl rfl) ?_
 refine rv (v := .int _ _) (v_move (.inl rfl) nf) ?_
 refine rn (v := .int _ _) (q_call (vs := [.int _ _]) (args := [.int .i64 _]) hb59 ⟨.inl rfl, trivial⟩ rfl (fun hA => absA_c _) rfl rfl) ?_
 refine rn (v := .int _ _) (q_call (vs := [.int _ _, .int _ _]) (args := [.int .i64 _, .int .i64 _]) hb105 ⟨.inl rfl, .inl rfl, trivial⟩ rfl (fun hA => cmp_c _ _) rfl rfl) ?_
 refine rv (v := .int _ _) (v_move (.inl rfl) nf) ?_
 refine rv (v := .int _ _) (v_move (.inl rfl) nf) ?_
 refine rn (v := .int _ _) (q_call (vs := [.int _ _, .int _ _]) (args := [.int .i64 _, .int .i64 _]) hb105 ⟨.inl rfl, .inl rfl, trivial⟩ rfl (fun hA => cmp_c _ _) rfl rfl) ?_
 refine rn (v := .osl 1 (icells [cmpI (absA x) (absA y), cmpI y x]) 2 (some 2)) (q_sliceLit (n := 2) (parts := [(0, .tmp 9), (1, .tmp 12)]) lt25 rfl rfl rfl rfl) ?_
 refine rn (v := .int _ _) (q_call (vs := [.rsl _ _ _ _ _]) (args := [.sl _ _]) hb104 ⟨.inl rfl, trivial⟩ (l1_eq (sl_sh (ic_pure _))) (fun hA => or_c [cmpI (absA x) (absA y), cmpI y x] (by simp)) rfl rfl) ?_
 refine rv (v := .int _ _) (v_assign (.inl rfl) nf) ?_
 refine r_nil ?_
 refine a_ret ?_
 refine ret1 Tryz.results107 (by decide) (by decide) (Weak.of_eq (int_eq ?_)) rfl Leaves.nil
 rw [cfLit_eq]
end Go.Av
namespace Go.Av
open Go Go.Proofs Go.Sort
set_option maxRecDepth 10000
theorem compact_c (d : Array Int) (n : Nat) (hd : d.size = n) (hn : n ≤ 1152921504606846976) : ACall Tryz.prog 96 [.rsl (INH, []) 1 0 n none] [.osl 1 (acells d) n none] (.osl 1 (icells (dedN d n)) (dedN d n).length none) [.undef] := by
  refine ACall.intro Tryz.func96 rfl (N := 61) rfl (by decide) (by simp) ?_
  refine a_seq ?_
  refine a_region ?_
  refine rv (v := .nils) (v_assign (.inl rfl) nf) ?_
  refine r_nil ?_
  refine a_seq ?_
  refine a_seq ?_
  refine a_region ?_
  refine rv (v := .rsl _ _ _ _ _) (v_move (.inl rfl) nf) ?_
  refine rv (v := .int _ _) (v_len_rsl sl25 (.inl rfl)) ?_
  refine rv (v := .bool _) (v_lss (.inl rfl) (.inl rfl)) ?_
  refine r_nil ?_
  refine a_cond rfl (fun ht8 => ?_) (fun ht8 => ?_)
  ·
    skip
    refine a_seq ?_
    have hall := ded_few hd (by simp at ht8; omega)
    refine a_region ?_
    refine rv (v := .rsl _ _ _ _ _) (v_move (.inl rfl) nf) ?_
    refine rv (v := .rsl _ _ _ _ _) (v_assign (.inl rfl) nf) ?_
    refine r_nil ?_
    refine a_pre (ent_reloc_sl (t := 2) rfl rfl) ?_
    refine a_ret ?_
    refine ret1 Tryz.results96 (by decide) (by decide) (Weak.osl ?_ ?_) rfl (Leaves.one Weak.undef rfl)
    · rw [ded_all hd hall]
    · rw [ded_all_len hd hall]
  ·
    skip
    refine a_skip ?_
    refine a_seq ?_
    refine a_seq ?_
    refine a_region ?_
    refine rv (v := .int _ _) (v_assign (.inl rfl) nf) ?_
    refine r_nil ?_
    refine a_block ?_
    refine a_loop (X := Nat) (fun k => look [(0, .rsl (INH, []) 1 0 n none), (3, .int .i64 ((k : Nat) : Int)), (INH, .osl 1 (acells d) n none)]) (fun k => 1 ≤ k ∧ k ≤ n ∧ dedN d k = d.toList.take k) (fun k => n - k) 1 (ent_look ⟨Weak.of_eq rfl, Weak.of_eq rfl, Weak.of_eq rfl, trivial⟩) ⟨Nat.le_refl _, by simp at ht8; omega, ded_one (by simp at ht8; omega)⟩ (fun k hG => ?_)
    obtain ⟨g1, g2, g3⟩ := hG
    refine a_seq ?_
    refine a_seq ?_
    refine a_region ?_
    refine rv (v := .int _ _) (v_move (.inl rfl) nf) ?_
    refine rv (v := .rsl _ _ _ _ _) (v_move (.inl rfl) nf) ?_
    refine rv (v := .int _ _) (v_len_rsl sl25 (.inl rfl)) ?_
    refine rv (v := .bool _) (v_lss (.inl rfl) (.inl rfl)) ?_
    refine r_nil ?_
    refine a_cond rfl (fun ht13 => ?_) (fun ht13 => ?_)
    ·
      skip
      refine a_skip ?_
      refine a_seq ?_
      refine a_block ?_
      refine a_seq ?_
      have hkn : k < n := (by simp at ht13; omega)
      refine a_region_any mixed (by kernel_rfl) ?_
      refine yv (v := .rsl _ _ _ _ _) (v_move (.inl rfl) nf) ?_
      refine yv (v := .int _ _) (v_move (.inl rfl) nf) ?_
      refine yv (v := .rp _ _) (v_indexAddr_rsl0 es25 (.inl rfl) (.inl rfl) (fun _ => by omega)) ?_
      refine yv (v := .int .i64 d[k]!) (v_load_rp1 ta3 (.inl rfl) rfl (fun _ => by rw [Nat.mul_one]; exact acells_get (by omega)) rfl) ?_
      refine yv (v := .rsl _ _ _ _ _) (v_move (.inl rfl) nf) ?_
      refine yv (v := .int _ _) (v_move (.inl rfl) nf) ?_
      refine yv (v := .int _ _) (v_sub (.inl rfl) (.inl rfl) (fun _ => by omega)) ?_
      refine yv (v := .rp _ _) (v_indexAddr_rsl0 es25 (.inl rfl) (.inl rfl) (fun _ => by omega)) ?_
      refine yv (v := .int .i64 d[k - 1]!) (v_load_rp1 ta3 (.inl rfl) rfl (fun _ => by rw [show ((k : Int) - 1).toNat = k - 1 by omega, Nat.mul_one]; exact acells_get (by omega)) rfl) ?_
      refine yv (v := .bool _) (v_eql (.inl rfl) (.inl rfl)) ?_
      refine y_nil ?_
      refine a_cond rfl (fun ht25 => ?_) (fun ht25 => ?_)
      ·
        skip
        refine a_seq ?_
        refine a_region ?_
        refine rv (v := .rsl _ _ _ _ _) (v_move (.inl rfl) nf) ?_
        refine rv (v := .int _ _) (v_move (.inl rfl) nf) ?_
        refine rv (v := .rsl (INH, []) 1 (0 + k * 1) (n - k) none) ((v_slice_rsl (l := k) (h := n) es25 (.inl rfl) (.inr ⟨_, _, rfl, .inl rfl⟩) (.inl ⟨rfl, rfl⟩) (fun _ => by omega)).cast (rfl)) ?_
        refine rv (v := .rsl _ _ _ _ _) (v_assign (.inl rfl) nf) ?_
        refine r_nil ?_
        refine a_seq ?_
        refine a_seq ?_
        refine a_region ?_
        refine rv (v := .int _ _) (v_assign (.inl rfl) nf) ?_
        refine r_nil ?_
        refine a_block ?_
        refine a_loop (X := (Nat × Nat × Array Int)) (fun x => look [(0, .rsl (INH, []) 1 0 n none), (3, .int .i64 ((x.2.1 : Nat) : Int)), (4, .rsl (INH, []) 1 (0 + k * 1) (n - k) none), (5, .int .i64 ((x.1 : Nat) : Int)), (INH, .osl 1 (acells x.2.2) n none)]) (fun x => Cpt d n k x.1 x.2.1 x.2.2) (fun x => n - (k + x.1)) (1, k, d) (ent_look ⟨Weak.of_eq rfl, Weak.of_eq rfl, Weak.of_eq rfl, Weak.of_eq rfl, Weak.of_eq rfl, trivial⟩) (Cpt.first hd (by omega) (by simp at ht13; omega) g3 (by simpa using ht25)) (fun x hG => ?_)
        have hC := hG
        obtain ⟨c1, c2, c3, c4, c5, c6⟩ := hG
        refine a_seq ?_
        refine a_seq ?_
        refine a_region ?_
        refine rv (v := .int _ _) (v_move (.inl rfl) nf) ?_
        refine rv (v := .rsl _ _ _ _ _) (v_move (.inl rfl) nf) ?_
        refine rv (v := .int _ _) (v_len_rsl sl25 (.inl rfl)) ?_
        refine rv (v := .bool _) (v_lss (.inl rfl) (.inl rfl)) ?_
        refine r_nil ?_
        refine a_cond rfl (fun ht32 => ?_) (fun ht32 => ?_)
        ·
          skip
          refine a_skip ?_
          refine a_seq ?_
          refine a_block ?_
          refine a_seq ?_
          have hx1 : x.1 < n - k := (by simp at ht32; omega)
          refine a_region_any mixed (by kernel_rfl) ?_
          refine yv (v := .rsl _ _ _ _ _) (v_move (.inl rfl) nf) ?_
          refine yv (v := .int _ _) (v_move (.inl rfl) nf) ?_
          refine yv (v := .rp _ _) (v_indexAddr_rsl es25 (.inl rfl) (.inl rfl) (fun _ => by omega)) ?_
          refine yv (v := .int .i64 x.2.2[k + x.1]!) (v_load_rp1 ta3 (.inl rfl) rfl (fun _ => by rw [show 0 + k * 1 + (x.1 : Int).toNat * 1 = k + x.1 by omega]; exact acells_get (by omega)) rfl) ?_
          refine yv (v := .rsl _ _ _ _ _) (v_move (.inl rfl) nf) ?_
          refine yv (v := .int _ _) (v_move (.inl rfl) nf) ?_
          refine yv (v := .int _ _) (v_sub (.inl rfl) (.inl rfl) (fun _ => by omega)) ?_
          refine yv (v := .rp _ _) (v_indexAddr_rsl es25 (.inl rfl) (.inl rfl) (fun _ => by omega)) ?_
          refine yv (v := .int .i64 x.2.2[k + x.1 - 1]!) (v_load_rp1 ta3 (.inl rfl) rfl (fun _ => by rw [show 0 + k * 1 + ((x.1 : Int) - 1).toNat * 1 = k + x.1 - 1 by omega]; exact acells_get (by omega)) rfl) ?_
          refine yv (v := .bool _) (v_neq (.inl rfl) (.inl rfl)) ?_
          refine y_nil ?_
          refine a_cond rfl (fun ht44 => ?_) (fun ht44 => ?_)
          ·
            skip
            refine a_seq ?_
            have hne : ¬ x.2.2[k + x.1]! = x.2.2[k + x.1 - 1]! := (by simpa using ht44)
            have hpl : x.2.1 * 1 + 1 ≤ (acells x.2.2).length := (by rw [acells_length]; omega)
            have hset : (acells x.2.2).set (x.2.1 * 1) (.int .i64 x.2.2[k + x.1]!) = acells (x.2.2.set! x.2.1 x.2.2[k + x.1]!) := (by rw [Nat.mul_one, acells_set])
            refine a_region ?_
            refine rv (v := .rsl _ _ _ _ _) (v_move (.inl rfl) nf) ?_
            refine rv (v := .int _ _) (v_move (.inl rfl) nf) ?_
            refine rv (v := .rsl _ _ _ _ _) (v_move (.inl rfl) nf) ?_
            refine rv (v := .int _ _) (v_move (.inl rfl) nf) ?_
            refine rv (v := .rp _ _) (v_indexAddr_rsl es25 (.inl rfl) (.inl rfl) (fun _ => by omega)) ?_
            refine rv (v := .int .i64 x.2.2[k + x.1]!) (v_load_rp1 ta3 (.inl rfl) rfl (fun _ => by rw [show 0 + k * 1 + (x.1 : Int).toNat * 1 = k + x.1 by omega]; exact acells_get (by omega)) rfl) ?_
            refine rv (v := .rp _ _) (v_indexAddr_rsl0 es25 (.inl rfl) (.inl rfl) (fun _ => by omega)) ?_
            refine r_step rfl (o_store (v := .int _ _) (y' := .osl _ _ _ _) rfl rfl ta3 (.inl rfl) (.inl rfl) rfl rfl rfl rfl rfl rfl hpl (by decide) rfl (congrArg (fun c => AV.osl 1 c n none) hset)) ?_
            refine r_nil ?_
            refine a_region ?_
            refine rv (v := .int _ _) (v_move (.inl rfl) nf) ?_
            refine rv (v := .int _ _) (v_add (.inl rfl) (.inl rfl) (fun _ => by omega)) ?_
            refine rv (v := .int _ _) (v_assign (.inl rfl) nf) ?_
            refine r_nil ?_
            refine a_pre (ent_look (L := [(0, .rsl _ _ _ _ _), (3, .int _ _), (4, .rsl _ _ _ _ _), (5, .int _ _), (INH, .osl _ _ _ _)]) ⟨Weak.rfl, Weak.rfl, Weak.rfl, Weak.rfl, Weak.rfl, trivial⟩) ?_
            refine a_region ?_
            refine rv (v := .int _ _) (v_move (.inl rfl) nf) ?_
            refine rv (v := .int _ _) (v_add (.inl rfl) (.inl rfl) (fun _ => by omega)) ?_
            refine rv (v := .int _ _) (v_assign (.inl rfl) nf) ?_
            refine r_nil ?_
            refine ⟨(x.1 + 1, x.2.1 + 1, x.2.2.set! x.2.1 x.2.2[k + x.1]!), ent_look ⟨Weak.of_eq rfl, Weak.of_eq (int_eq (by dsimp only; omega)), Weak.of_eq rfl, Weak.of_eq (int_eq (by dsimp only; omega)), Weak.of_eq rfl, trivial⟩, hC.new (by omega) hne, by dsimp only; omega⟩
          ·
            skip
            refine a_skip ?_
            refine a_region ?_
            refine rv (v := .int _ _) (v_move (.inl rfl) nf) ?_
            refine rv (v := .int _ _) (v_add (.inl rfl) (.inl rfl) (fun _ => by omega)) ?_
            refine rv (v := .int _ _) (v_assign (.inl rfl) nf) ?_
            refine r_nil ?_
            refine ⟨(x.1 + 1, x.2.1, x.2.2), ent_look ⟨Weak.of_eq rfl, Weak.of_eq rfl, Weak.of_eq rfl, Weak.of_eq (int_eq (by dsimp only; omega)), Weak.of_eq rfl, trivial⟩, hC.same (by omega) (by simpa using ht44), by dsimp only; omega⟩
        ·
          skip
          refine a_exit ?_
          refine a_seq ?_
          have hend : k + x.1 = n := (by simp at ht32; omega)
          have hdn := hC.done hend
          refine a_region ?_
          refine rv (v := .rsl _ _ _ _ _) (v_move (.inl rfl) nf) ?_
          refine rv (v := .int _ _) (v_move (.inl rfl) nf) ?_
          refine rv (v := .rsl (INH, []) 1 (0 + x.2.1 * 1) (n - x.2.1) none) ((v_slice_rsl (l := x.2.1) (h := n) es25 (.inl rfl) (.inr ⟨_, _, rfl, .inl rfl⟩) (.inl ⟨rfl, rfl⟩) (fun _ => by omega)).cast (rfl)) ?_
          refine r_step rfl (o_clear rfl rfl us25 zc3 rfl (.inl rfl) rfl (by rw [acells_length]; omega) rfl rfl) ?_
          refine r_nil ?_
          refine a_seq ?_
          refine a_region ?_
          refine rv (v := .rsl _ _ _ _ _) (v_move (.inl rfl) nf) ?_
          refine rv (v := .int _ _) (v_move (.inl rfl) nf) ?_
          refine rv (v := .rsl (INH, []) 1 0 x.2.1 none) ((v_slice_rsl (l := 0) (h := x.2.1) es25 (.inl rfl) (.inl ⟨rfl, rfl⟩) (.inr ⟨_, _, rfl, .inl rfl⟩) (fun _ => by omega)).cast (rfl)) ?_
          refine rv (v := .rsl _ _ _ _ _) (v_assign (.inl rfl) nf) ?_
          refine r_nil ?_
          refine a_pre (ent_reloc_sl (t := 2) rfl rfl) ?_
          refine a_ret ?_
          refine ret1 Tryz.results96 (by decide) (by decide) (Weak.osl_take (ds := List.replicate (n - x.2.1) (.int .i64 0)) ?_ ?_) rfl (Leaves.one Weak.undef rfl)
          · exact hdn.1
          · exact hdn.2
      ·
        skip
        refine a_skip ?_
        refine a_region ?_
        refine rv (v := .int _ _) (v_move (.inl rfl) nf) ?_
        refine rv (v := .int _ _) (v_add (.inl rfl) (.inl rfl) (fun _ => by omega)) ?_
        refine rv (v := .int _ _) (v_assign (.inl rfl) nf) ?_
        refine r_nil ?_
        refine ⟨k + 1, ent_look ⟨Weak.of_eq rfl, Weak.of_eq (int_eq (by omega)), Weak.of_eq rfl, trivial⟩, ⟨by omega, by omega, ded_grow (by omega) g3 (by simp at ht25; exact fun h => ht25 h.2)⟩, by omega⟩
    ·
      skip
      refine a_exit ?_
      refine a_seq ?_
      have hkn : k = n := (by simp at ht13; omega)
      refine a_region ?_
      refine rv (v := .rsl _ _ _ _ _) (v_move (.inl rfl) nf) ?_
      refine rv (v := .rsl _ _ _ _ _) (v_assign (.inl rfl) nf) ?_
      refine r_nil ?_
      refine a_pre (ent_reloc_sl (t := 2) rfl rfl) ?_
      refine a_ret ?_
      refine ret1 Tryz.results96 (by decide) (by decide) (Weak.osl ?_ ?_) rfl (Leaves.one Weak.undef rfl)
      · subst hkn; rw [ded_all hd g3]
      · subst hkn; rw [ded_all_len hd g3]
end Go.Av
namespace Go.Av
open Go Go.Proofs Go.Sort
set_option maxRecDepth 10000
theorem hb107 : hasBody Tryz.prog 107 = true := by kernel_rfl
theorem hb112 : hasBody Tryz.prog 112 = true := by kernel_rfl
theorem hb85 : hasBody Tryz.prog 85 = true := by kernel_rfl
theorem hb96 : hasBody Tryz.prog 96 = true := by kernel_rfl
theorem clause_c (l : List Int) (hn : l.length ≤ 1048576) : ACall Tryz.prog 83 [.sl (icells l) l.length] [] (.tup [.osl 1 (icells ((clR l).getD [])) ((clR l).getD []).length none, .bool (clR l).isSome]) [] := by
 refine ACall.intro Tryz.func83 rfl (N := 30) rfl (by decide) (by simp) ?_
 refine a_seq ?_
 refine a_region ?_
 refine rv (v := .nils) (v_assign (.inl rfl) nf) ?_
 refine rv (v := .bool _) (v_assign (.inl rfl) nf) ?_
 refine r_nil ?_
 refine a_seq ?_
 refine a_region ?_
 refine rv (v := .sl _ _) (v_move (.inl rfl) nf) ?_
 refine rn (v := .osl _ _ _ _) (q_call (vs := [.sl _ _]) (args := [.sl _ _]) hb85 ⟨.inl rfl, trivial⟩ rfl (fun hA => cloneI_c _ _ ⟨rfl, by omega⟩) (ic_noSh _) (ic_noRef _)) ?_
 refine rv (v := .rsl _ _ _ _ _) (v_assign (.inl rfl) nf) ?_
 refine r_pre (ent_reloc_sl (t := 4) rfl rfl) ?_
 refine r_nil ?_
 refine a_seq ?_
 refine a_region ?_
 refine rv (v := .rsl _ _ _ _ _) (v_move (.inl rfl) nf) ?_
 refine r_step rfl (o_callIO (q := (4, [])) (vs := [.rsl _ _ _ _ _, .fn _ _ _]) (args := [.rsl (INH, []) _ _ _ _, .fn _ _ _]) (x0 := .osl _ _ _ _) (x1 := .osl _ _ _ _) (res := .tup []) rfl hb112 rfl (by decide) ⟨.inl rfl, .inl rfl, trivial⟩ rfl rfl (sortFunc_c 107 hb107 cfLit cmpLit_c cfLit_swo l.toArray l.length (by simp) (by omega)) rfl rfl rfl (ac_noSh _) (ac_noRef _) (Nat.le_of_ble_eq_true rfl) (by decide) rfl) ?_
 refine r_nil ?_
 refine a_seq ?_
 refine a_region ?_
 refine rv (v := .rsl _ _ _ _ _) (v_move (.inl rfl) nf) ?_
 refine r_step rfl (o_callIO (q := (4, [])) (vs := [.rsl _ _ _ _ _]) (args := [.rsl (INH, []) _ _ _ _]) (x0 := .osl _ _ _ _) (x1 := .undef) (res := .osl _ _ _ _) rfl hb96 rfl (by decide) ⟨.inl rfl, trivial⟩ rfl rfl (compact_c _ l.length (sort_size l) (by omega)) rfl (ic_noSh _) (ic_noRef _) rfl rfl (Nat.le_of_ble_eq_true rfl) (by decide) rfl) ?_
 refine rv (v := .rsl _ _ _ _ _) (v_assign (.inl rfl) nf) ?_
 refine r_pre (ent_reloc_sl (t := 4) rfl rfl) ?_
 refine r_nil ?_
 refine a_seq ?_
 refine a_seq ?_
 refine a_region ?_
 refine rv (v := .int _ _) (v_assign (.inl rfl) nf) ?_
 refine r_nil ?_
 refine a_block ?_
 refine a_loop (X := Nat) (fun i => look [(4, .osl 1 (icells (dsrt l)) (dsrt l).length none), (5, .int .i64 ((i : Nat) : Int))]) (fun i => 1 ≤ i ∧ (∀ j, 1 ≤ j → j < i → oppB (dsrt l) j = false)) (fun i => (dsrt l).length - i) 1 (ent_look ⟨Weak.osl rfl rfl, Weak.of_eq rfl, trivial⟩) ⟨Nat.le_refl _, fun j h1 h2 => by omega⟩ (fun i hG => ?_)
 obtain ⟨g1, g2⟩ := hG
 have hdl : (dsrt l).length ≤ l.length := dedN_le _ _
 refine a_seq ?_
 refine a_seq ?_
 refine a_region ?_
 refine rv (v := .int _ _) (v_move (.inl rfl) nf) ?_
 refine rv (v := .rsl _ _ _ _ _) (v_move (.inl rfl) nf) ?_
 refine rv (v := .int _ _) (v_len_rsl sl25 (.inl rfl)) ?_
 refine rv (v := .bool _) (v_lss (.inl rfl) (.inl rfl)) ?_
 refine r_nil ?_
 refine a_cond rfl (fun ht15 => ?_) (fun ht15 => ?_)
 ·
  skip
  refine a_skip ?_
  refine a_seq ?_
  refine a_block ?_
  refine a_seq ?_
  have hi : i < (dsrt l).length := (by simp at ht15; omega)
  refine a_region_any mixed (by kernel_rfl) ?_
  refine yv (v := .rsl _ _ _ _ _) (v_move (.inl rfl) nf) ?_
  refine yv (v := .int _ _) (v_move (.inl rfl) nf) ?_
  refine yv (v := .rp _ _) (v_indexAddr_rsl0 es25 (.inl rfl) (.inl rfl) (fun _ => by omega)) ?_
  refine yv (v := .int .i64 (gd (dsrt l) i)) (v_load_rp1 ta3 (.inl rfl) rfl (fun _ => by rw [Nat.mul_one]; exact icells_get (gd_get (by omega))) rfl) ?_
  refine yv (v := .rsl _ _ _ _ _) (v_move (.inl rfl) nf) ?_
  refine yv (v := .int _ _) (v_move (.inl rfl) nf) ?_
  refine yv (v := .int _ _) (v_sub (.inl rfl) (.inl rfl) (fun _ => by omega)) ?_
  refine yv (v := .rp _ _) (v_indexAddr_rsl0 es25 (.inl rfl) (.inl rfl) (fun _ => by omega)) ?_
  refine yv (v := .int .i64 (gd (dsrt l) (i - 1))) (v_load_rp1 ta3 (.inl rfl) rfl (fun _ => by rw [show ((i : Int) - 1).toNat = i - 1 by omega, Nat.mul_one]; exact icells_get (gd_get (by omega))) rfl) ?_
  refine yv (v := .int _ _) (v_negA (.inl rfl)) ?_
  refine yv (v := .bool _) (v_eql (.inl rfl) (.inl rfl)) ?_
  refine y_nil ?_
  refine a_cond rfl (fun ht28 => ?_) (fun ht28 => ?_)
  ·
   skip
   refine a_seq ?_
   have hfin : clR l = none := clR_none hi g1 (by simpa [oppB] using ht28)
   refine a_region ?_
   refine rv (v := .nils) (v_assign (.inl rfl) nf) ?_
   refine rv (v := .bool _) (v_assign (.inl rfl) nf) ?_
   refine r_nil ?_
   refine a_pre (ent_nil (t := 2) (sz := 1) (cap := none) (.inl rfl) (fun _ h => by cases h)) ?_
   refine a_ret ?_
   refine retL (rs := [.tmp 2, .tmp 3]) [(2, .osl _ _ _ none), (3, _)] ⟨Weak.osl rfl rfl, Weak.rfl, trivial⟩ rfl Tryz.results83 (by decide) ⟨by decide, by decide, rfl⟩ (by decide) (by decide) (l2_eq (osl_eq2 ?_ ?_) (bool_eq ?_)) (by simp [refsL, refs])
   all_goals simp [hfin, icells]
  ·
   skip
   refine a_skip ?_
   refine a_region ?_
   refine rv (v := .int _ _) (v_move (.inl rfl) nf) ?_
   refine rv (v := .int _ _) (v_add (.inl rfl) (.inl rfl) (fun _ => by omega)) ?_
   refine rv (v := .int _ _) (v_assign (.inl rfl) nf) ?_
   refine r_nil ?_
   refine ⟨i + 1, ent_look ⟨Weak.of_eq rfl, Weak.of_eq (int_eq (by omega)), trivial⟩, ⟨by omega, fun j h1 h2 => by rcases Nat.lt_or_ge j i with h | h; exact g2 j h1 h; (obtain rfl : j = i := by omega); simpa [oppB] using ht28⟩, by omega⟩
 ·
  skip
  refine a_exit ?_
  refine a_seq ?_
  have hfin : clR l = some (dsrt l) := clR_some (fun j h1 h2 => g2 j h1 (by simp at ht15; omega))
  refine a_region ?_
  refine rv (v := .rsl _ _ _ _ _) (v_move (.inl rfl) nf) ?_
  refine rv (v := .rsl _ _ _ _ _) (v_assign (.inl rfl) nf) ?_
  refine r_pre (ent_reloc_sl (t := 2) rfl rfl) ?_
  refine rv (v := .bool _) (v_assign (.inl rfl) nf) ?_
  refine r_nil ?_
  refine a_ret ?_
  refine retL (rs := [.tmp 2, .tmp 3]) [(2, .osl _ _ _ none), (3, _)] ⟨Weak.osl rfl rfl, Weak.rfl, trivial⟩ rfl Tryz.results83 (by decide) ⟨by decide, by decide, rfl⟩ (by decide) (by decide) (l2_eq (osl_eq2 ?_ ?_) (bool_eq ?_)) (by simp [refsL, refs])
  all_goals simp [hfin]
end Go.Av
namespace Go.Av
open Go Go.Proofs Go.Sort
set_option maxRecDepth 10000
end Go.Av
namespace Go.Av
open Go Go.Proofs Go.Sort
set_option maxRecDepth 10000
theorem hb48 : hasBody Tryz.prog 48 = true := by kernel_rfl
theorem hb50 : hasBody Tryz.prog 50 = true := by kernel_rfl
theorem has_c (c : List Int) (n : Nat) (l : Int) (hl : c.length = n ∧ n ≤ 9223372036854775807) : ACall Tryz.prog 48 [.sl (icells c) n, .int .i64 l] [] (.bool (decide (l ∈ c))) [] := by
  refine ACall.intro Tryz.func48 rfl (N := 18) rfl (by decide) (by simp) ?_
  refine a_seq ?_
  refine a_region ?_
  refine rv (v := .bool _) (v_assign (.inl rfl) nf) ?_
  refine r_nil ?_
  refine a_seq ?_
  refine a_seq ?_
  refine a_region ?_
  refine rv (v := .int _ _) (v_assign (.inl rfl) nf) ?_
  refine r_nil ?_
  refine a_block ?_
  refine a_loop (X := Nat) (fun i => look [(0, .sl (icells c) n), (1, .int .i64 l), (5, .int .i64 ((i : Nat) : Int))]) (fun i => i ≤ n ∧ ∀ j, j < i → gd c j ≠ l) (fun i => n - i) 0 (ent_look ⟨Weak.of_eq rfl, Weak.of_eq rfl, Weak.of_eq rfl, trivial⟩) ⟨Nat.zero_le _, fun j h => by omega⟩ (fun i hG => ?_)
  obtain ⟨g1, g2⟩ := hG
  refine a_seq ?_
  refine a_seq ?_
  refine a_region ?_
  refine rv (v := .int _ _) (v_move (.inl rfl) nf) ?_
  refine rv (v := .sl _ _) (v_move (.inl rfl) nf) ?_
  refine rv (v := .int _ _) (v_len_sl sl25 (.inl rfl)) ?_
  refine rv (v := .bool _) (v_lss (.inl rfl) (.inl rfl)) ?_
  refine r_nil ?_
  refine a_cond rfl (fun ht9 => ?_) (fun ht9 => ?_)
  ·
    skip
    refine a_skip ?_
    refine a_seq ?_
    refine a_block ?_
    refine a_seq ?_
    have hi : i < c.length := (by simp at ht9; omega)
    refine a_region ?_
    refine rv (v := .sl _ _) (v_move (.inl rfl) nf) ?_
    refine rv (v := .int _ _) (v_move (.inl rfl) nf) ?_
    refine rv (v := .pp _ _) (v_indexAddr_sl es25 (.inl rfl) (.inl rfl) (fun _ => ⟨by omega, by omega, icells_ne hi⟩)) ?_
    refine rv (v := .int .i64 (gd c i)) (v_load_pp ta3 (.inl rfl) (fun _ => by rw [Nat.mul_one]; exact icells_get (gd_get hi)) rfl) ?_
    refine rv (v := .int _ _) (v_move (.inl rfl) nf) ?_
    refine rv (v := .bool _) (v_eql (.inl rfl) (.inl rfl)) ?_
    refine r_nil ?_
    refine a_cond rfl (fun ht17 => ?_) (fun ht17 => ?_)
    ·
      skip
      refine a_seq ?_
      refine a_region ?_
      refine rv (v := .bool _) (v_assign (.inl rfl) nf) ?_
      refine r_nil ?_
      refine a_ret ?_
      refine ret1 Tryz.results48 (by decide) (by decide) (Weak.of_eq (bool_eq ?_)) rfl Leaves.nil
      rw [decide_eq_true]; rw [← of_decide_eq_true ht17]; exact gd_mem hi
    ·
      skip
      refine a_skip ?_
      refine a_region ?_
      refine rv (v := .int _ _) (v_move (.inl rfl) nf) ?_
      refine rv (v := .int _ _) (v_add (.inl rfl) (.inl rfl) (fun _ => by omega)) ?_
      refine rv (v := .int _ _) (v_assign (.inl rfl) nf) ?_
      refine r_nil ?_
      refine ⟨i + 1, ent_look ⟨Weak.of_eq rfl, Weak.of_eq rfl, Weak.of_eq (int_eq (by omega)), trivial⟩, ⟨by omega, fun j h1 => by rcases Nat.lt_or_ge j i with h | h; exact g2 j h; (obtain rfl : j = i := by omega); simpa using ht17⟩, by omega⟩
  ·
    skip
    refine a_exit ?_
    refine a_seq ?_
    refine a_region ?_
    refine rv (v := .bool _) (v_assign (.inl rfl) nf) ?_
    refine r_nil ?_
    refine a_ret ?_
    refine ret1 Tryz.results48 (by decide) (by decide) (Weak.of_eq (bool_eq ?_)) rfl Leaves.nil
    simp; intro h; obtain ⟨j, hj, hx⟩ := mem_gd h; exact g2 j (by simp at ht9; omega) hx
theorem has2_c (c : List Int) (n : Nat) (l : Int) (hl : c.length = n ∧ n ≤ 9223372036854775807) : ACall Tryz.prog 28 [.sl (icells c) n, .int .i64 l] [] (.bool (decide (l ∈ c))) [] := by
  refine ACall.intro Tryz.func28 rfl (N := 8) rfl (by decide) (by simp) ?_
  refine a_seq ?_
  refine a_region ?_
  refine rv (v := .bool _) (v_assign (.inl rfl) nf) ?_
  refine r_nil ?_
  refine a_seq ?_
  refine a_region ?_
  refine rv (v := .sl _ _) (v_move (.inl rfl) nf) ?_
  refine rv (v := .int _ _) (v_move (.inl rfl) nf) ?_
  refine rn (v := .bool _) (q_call (vs := [.sl _ _, .int _ _]) (args := [.sl _ _, .int .i64 _]) hb48 ⟨.inl rfl, .inl rfl, trivial⟩ rfl (fun hA => has_c _ _ _ hl) rfl rfl) ?_
  refine rv (v := .bool _) (v_assign (.inl rfl) nf) ?_
  refine r_nil ?_
  refine a_ret ?_
  refine ret1 Tryz.results28 (by decide) (by decide) (Weak.of_eq (bool_eq ?_)) rfl Leaves.nil
  rfl
theorem put_c (c : List Int) (n : Nat) (l : Int) (hl : c.length = n ∧ n ≤ 1048576) (hs : SmI c) (hb : -4611686018427387904 ≤ l ∧ l ≤ 4611686018427387904) : ACall Tryz.prog 29 [.sl (icells c) n, .int .i64 l] [] (.osl 1 (icells (putL c l)) (n + 1) none) [] := by
  refine ACall.intro Tryz.func29 rfl (N := 33) rfl (by decide) (by simp) ?_
  refine a_seq ?_
  refine a_region ?_
  refine rv (v := .nils) (v_assign (.inl rfl) nf) ?_
  refine r_nil ?_
  refine a_seq ?_
  refine a_region ?_
  refine rv (v := .int _ _) (v_assign (.inl rfl) nf) ?_
  refine r_nil ?_
  refine a_seq ?_
  refine a_block ?_
  refine a_loop (X := Nat) (fun i => look [(0, .sl (icells c) n), (1, .int .i64 l), (5, .int .i64 ((i : Nat) : Int))]) (fun i => i ≤ n ∧ c.take i ++ putL (c.drop i) l = putL c l) (fun i => n - i) 0 (ent_look ⟨Weak.of_eq rfl, Weak.of_eq rfl, Weak.of_eq rfl, trivial⟩) ⟨Nat.zero_le _, rfl⟩ (fun i hG => ?_)
  obtain ⟨g1, g2⟩ := hG
  have hsi := hs i
  refine a_seq ?_
  refine a_seq ?_
  refine a_region ?_
  refine rv (v := .int _ _) (v_move (.inl rfl) nf) ?_
  refine rv (v := .sl _ _) (v_move (.inl rfl) nf) ?_
  refine rv (v := .int _ _) (v_len_sl sl25 (.inl rfl)) ?_
  refine rv (v := .bool _) (v_lss (.inl rfl) (.inl rfl)) ?_
  refine rv (v := .bool _) (v_move (.inl rfl) nf) ?_
  refine r_gval (v := .sl _ _) (v_move (.inl rfl) nf) rfl rfl rfl (by decide) (.inl ⟨_, rfl, rfl⟩) rfl (by decide) ?_
  refine r_gval (v := .int _ _) (v_move (.inl rfl) nf) rfl rfl rfl (by decide) (.inl ⟨_, rfl, rfl⟩) rfl (by decide) ?_
  refine r_gval (v := .pp _ _) (v_indexAddr_sl es25 (.inr ⟨_, rfl, fun h => h⟩) (.inr ⟨_, rfl, fun h => h⟩) (fun hA => by simp at hA; exact ⟨by omega, by omega, icells_ne (show i < c.length by omega)⟩)) rfl rfl rfl (by decide) (.inl ⟨_, rfl, rfl⟩) rfl (by decide) ?_
  refine r_gval (v := .int .i64 (gd c i)) (v_load_pp ta3 (.inr ⟨_, rfl, fun h => h⟩) (fun hA => by simp at hA; rw [Nat.mul_one]; exact icells_get (gd_get (by omega))) rfl) rfl rfl rfl (by decide) (.inl ⟨_, rfl, rfl⟩) rfl (by decide) ?_
  refine r_guard (v := .int _ _) (q_call (vs := [.int _ _]) (args := [.int .i64 _]) hb49 ⟨.inr ⟨_, rfl, fun h => h⟩, trivial⟩ rfl (fun hA => l2Var_c _ (by omega)) rfl rfl) rfl rfl rfl (by decide) (.inl ⟨_, rfl, rfl⟩) rfl (by decide) ?_
  refine r_gval (v := .int _ _) (v_move (.inl rfl) nf) rfl rfl rfl (by decide) (.inl ⟨_, rfl, rfl⟩) rfl (by decide) ?_
  refine r_guard (v := .int _ _) (q_call (vs := [.int _ _]) (args := [.int .i64 _]) hb49 ⟨.inr ⟨_, rfl, fun h => h⟩, trivial⟩ rfl (fun hA => l2Var_c _ (by omega)) rfl rfl) rfl rfl rfl (by decide) (.inl ⟨_, rfl, rfl⟩) rfl (by decide) ?_
  refine r_gval (v := .bool _) (v_lss (.inr ⟨_, rfl, fun h => h⟩) (.inr ⟨_, rfl, fun h => h⟩)) rfl rfl rfl (by decide) (.inl ⟨_, rfl, rfl⟩) rfl (by decide) ?_
  refine rv (v := .bool _) (v_pick (.inl rfl) (.inr ⟨_, rfl, fun h h2 => by simp_all⟩) (.inl rfl)) ?_
  refine r_nil ?_
  refine a_cond rfl (fun ht19 => ?_) (fun ht19 => ?_)
  ·
    skip
    refine a_skip ?_
    refine a_block ?_
    refine a_region ?_
    refine rv (v := .int _ _) (v_move (.inl rfl) nf) ?_
    refine rv (v := .int _ _) (v_add (.inl rfl) (.inl rfl) (fun _ => by omega)) ?_
    refine rv (v := .int _ _) (v_assign (.inl rfl) nf) ?_
    refine r_nil ?_
    refine ⟨i + 1, ent_look ⟨Weak.of_eq rfl, Weak.of_eq rfl, Weak.of_eq (int_eq (by omega)), trivial⟩, ⟨by simp at ht19; omega, by simp at ht19; rw [put_more (by omega) ht19.2, g2]⟩, by simp at ht19; omega⟩
  ·
    skip
    refine a_exit ?_
    refine a_seq ?_
    have hst : putL (c.drop i) l = l :: c.drop i := put_stop (fun h => by simp at ht19; exact Int.not_lt.2 (ht19 (by omega)))
    refine a_region_x [[(22, true)], [(23, true)], [(24, true)], [(25, true)], [(26, true)], [(27, true)], [(25, false), (28, true)], [(29, true)], [(30, true)], [(31, true)], [(28, false), (32, true)], [(4, true)]] mixed (by kernel_rfl) ?_
    refine x_val (v := .sl _ _) (v_move (.inl rfl) nf) rfl rfl (by decide) rfl (by kernel_rfl) ?_
    refine x_val (v := .int _ _) (v_move (.inl rfl) nf) rfl rfl (by decide) rfl (by kernel_rfl) ?_
    refine x_val (v := .sl (icells (c.take i)) i) ((v_slice_sl (l := 0) (h := i) es25 (.inl rfl) (.inl ⟨rfl, rfl⟩) (.inr ⟨_, _, rfl, .inl rfl⟩) (fun _ => by omega)).cast (sl_eq2 (by simp [icells]) rfl)) rfl rfl (by decide) rfl (by kernel_rfl) ?_
    refine x_new (v := .osl _ _ _ _) (q_call (vs := [.sl _ _]) (args := [.sl _ _]) hb50 ⟨.inl rfl, trivial⟩ rfl (fun hA => l1Own_c (c.take i) i ⟨by rw [List.length_take]; omega, by omega⟩) (ic_noSh _) (ic_noRef _)) rfl rfl (by decide) rfl (by kernel_rfl) ?_
    refine x_val (v := .int _ _) (v_move (.inl rfl) nf) rfl rfl (by decide) rfl (by kernel_rfl) ?_
    refine x_new (v := .osl 1 (icells [l]) 1 (some 1)) (q_sliceLit (n := 1) (parts := [(0, .tmp 26)]) lt25 rfl rfl rfl rfl) rfl rfl (by decide) rfl (by kernel_rfl) ?_
    refine x_append rfl rfl ap25 rfl (by decide) (by decide) (by decide) rfl (src_lit (.inl rfl) rfl rfl (ic_pureL _)) (ic_cell _) (by rw [icells_length, List.length_take]; omega) (by omega) rfl (by kernel_rfl) ?_
    refine x_val (v := .sl _ _) (v_move (.inl rfl) nf) rfl rfl (by decide) rfl (by kernel_rfl) ?_
    refine x_val (v := .int _ _) (v_move (.inl rfl) nf) rfl rfl (by decide) rfl (by kernel_rfl) ?_
    refine x_val (v := .sl (icells (c.drop i)) (n - i)) ((v_slice_sl (l := i) (h := n) es25 (.inl rfl) (.inr ⟨_, _, rfl, .inl rfl⟩) (.inl ⟨rfl, rfl⟩) (fun _ => by omega)).cast (sl_eq2 (by rw [Nat.mul_one, Nat.mul_one, icells_drop, List.take_of_length_le (by rw [icells_length, List.length_drop]; omega)]) rfl)) rfl rfl (by decide) rfl (by kernel_rfl) ?_
    refine x_append rfl rfl ap25 rfl (by decide) (by decide) (by decide) rfl (src_sl (.inl rfl) (fun _ => by rw [icells_length, List.length_drop]; omega) (ic_pureL _)) (ic_cell _) (by rw [List.length_append, icells_length, icells_length, List.length_take]; simp; omega) (by omega) rfl (by kernel_rfl) ?_
    refine x_val (v := .rsl _ _ _ _ _) (v_assign (.inl rfl) nf) rfl rfl (by decide) rfl (by kernel_rfl) ?_
    refine x_nil ?_
    refine a_pre (ent_reloc_sl (t := 4) rfl rfl) ?_
    refine a_ret ?_
    refine ret1 Tryz.results29 (by decide) (by decide) (Weak.osl ?_ ?_) rfl Leaves.nil
    · rw [← g2, hst]; simp [icells]
    · omega
end Go.Av
namespace Go.Av
open Go Go.Proofs Go.Sort
set_option maxRecDepth 10000
end Go.Av
namespace Go.Av
open Go Go.Proofs Go.Sort
set_option maxRecDepth 10000
end Go.Av
namespace Go.Av
open Go Go.Proofs Go.Sort
set_option maxRecDepth 10000
end Go.Av
namespace Go.Av
open Go Go.Proofs Go.Sort
set_option maxRecDepth 10000
end Go.Av
namespace Go.Av
open Go Go.Proofs Go.Sort
set_option maxRecDepth 10000
end Go.Av
namespace Go.Av
open Go Go.Proofs Go.Sort
set_option maxRecDepth 10000
theorem hb113 : hasBody Tryz.prog 113 = true := by kernel_rfl
theorem del_c (f : Nat) (caps : List AV) (hf : hasBody Tryz.prog f = true) (hcap : capOk caps = true) (xs : List Int) (n : Nat) (p : Int → Bool) (hl : xs.length = n ∧ n ≤ 9223372036854775807) (hc : ∀ i, i < n → ACall Tryz.prog f (.int .i64 (gd xs i) :: caps) [] (.bool (p (gd xs i))) []) : ACall Tryz.prog 84 [.rsl (INH, []) 1 0 n none, .fn f [] caps] [.osl 1 (icells xs) n none] (.osl 1 (icells (xs.filter fun x => !p x)) (xs.filter fun x => !p x).length none) [.undef] := by
  obtain ⟨rfl, hn⟩ := hl
  refine ACall.intro Tryz.func84 rfl (N := 42) rfl (by decide) (by simp) ?_
  refine a_seq ?_
  refine a_region ?_
  refine rv (v := .nils) (v_assign (.inl rfl) nf) ?_
  refine r_nil ?_
  refine a_seq ?_
  refine a_region ?_
  refine rv (v := .rsl _ _ _ _ _) (v_move (.inl rfl) nf) ?_
  refine rv (v := .fn _ _ _) (v_mv rfl) ?_
  refine rn (v := .int _ _) (q_call (vs := [.rsl _ _ _ _ _, .fn _ _ _]) (args := [.sl _ _, .fn _ _ _]) hb113 ⟨.inl rfl, .inl rfl, trivial⟩ (l2_eq (sl_sh (ic_pure _)) (snap_fn hcap)) (fun hA => idxI_c f caps hf hcap xs (fun i => p (gd xs i)) (by omega) (fun i hi => hc i hi)) rfl rfl) ?_
  refine rv (v := .int _ _) (v_assign (.inl rfl) nf) ?_
  refine r_nil ?_
  refine a_seq ?_
  refine a_seq ?_
  refine a_region ?_
  refine rv (v := .int _ _) (v_move (.inl rfl) nf) ?_
  refine rv (v := .bool _) (v_eql (.inl rfl) (.inl rfl)) ?_
  refine r_nil ?_
  refine a_cond rfl (fun ht12 => ?_) (fun ht12 => ?_)
  ·
    skip
    refine a_seq ?_
    have hnone := dlt_none (xs := xs) rfl (of_decide_eq_true ht12)
    refine a_region ?_
    refine rv (v := .rsl _ _ _ _ _) (v_move (.inl rfl) nf) ?_
    refine rv (v := .rsl _ _ _ _ _) (v_assign (.inl rfl) nf) ?_
    refine r_nil ?_
    refine a_pre (ent_reloc_sl (t := 4) rfl rfl) ?_
    refine a_ret ?_
    refine ret1 Tryz.results84 (by decide) (by decide) (Weak.osl ?_ ?_) rfl (Leaves.one Weak.undef rfl)
    · rw [hnone]
    · rw [hnone]
  ·
    skip
    refine a_skip ?_
    refine a_seq ?_
    refine a_seq ?_
    obtain ⟨i0, hi0, e0, p0, n0⟩ := fidx_spec (of_decide_eq_false ht12)
    refine a_region ?_
    refine rv (v := .int _ _) (v_move (.inl rfl) nf) ?_
    refine rv (v := .int _ _) (v_add (.inl rfl) (.inl rfl) (fun _ => by omega)) ?_
    refine rv (v := .int _ _) (v_assign (.inl rfl) nf) ?_
    refine r_nil ?_
    refine a_block ?_
    refine a_loop (X := (Nat × Nat × List Int)) (fun x => look [(0, .rsl (INH, []) 1 0 xs.length none), (1, .fn f [] caps), (5, .int .i64 ((x.2.1 : Nat) : Int)), (6, .int .i64 ((x.1 : Nat) : Int)), (INH, .osl 1 (icells x.2.2) xs.length none)]) (fun x => Dlt p xs x.1 x.2.1 x.2.2) (fun x => xs.length - x.1) (i0 + 1, i0, xs) (ent_look ⟨Weak.of_eq rfl, (Weak.of_eq (purge_fn hcap)), Weak.of_eq (int_eq e0), Weak.of_eq (int_eq (by rw [e0]; rfl)), Weak.of_eq rfl, trivial⟩) (Dlt.first hi0 n0 p0) (fun x hG => ?_)
    have hD := hG
    obtain ⟨d1, d2, d3, d4, d5⟩ := hG
    refine a_seq ?_
    refine a_seq ?_
    refine a_region ?_
    refine rv (v := .int _ _) (v_move (.inl rfl) nf) ?_
    refine rv (v := .rsl _ _ _ _ _) (v_move (.inl rfl) nf) ?_
    refine rv (v := .int _ _) (v_len_rsl sl25 (.inl rfl)) ?_
    refine rv (v := .bool _) (v_lss (.inl rfl) (.inl rfl)) ?_
    refine r_nil ?_
    refine a_cond rfl (fun ht19 => ?_) (fun ht19 => ?_)
    ·
      skip
      refine a_skip ?_
      refine a_seq ?_
      refine a_block ?_
      refine a_seq ?_
      have hj : x.1 < xs.length := (by simp at ht19; omega)
      refine a_region ?_
      refine rv (v := .rsl _ _ _ _ _) (v_move (.inl rfl) nf) ?_
      refine rv (v := .int _ _) (v_move (.inl rfl) nf) ?_
      refine rv (v := .rp _ _) (v_indexAddr_rsl0 es25 (.inl rfl) (.inl rfl) (fun _ => by omega)) ?_
      refine rv (v := .int .i64 (gd xs x.1)) (v_load_rp1 ta3 (.inl rfl) rfl (fun _ => by rw [Nat.mul_one]; exact icells_get (gd_get2 d5 (by omega))) rfl) ?_
      refine rv (v := .int _ _) (v_assign (.inl rfl) nf) ?_
      refine r_nil ?_
      refine a_seq ?_
      refine a_region ?_
      refine rv (v := .fn _ _ _) (v_mv rfl) ?_
      refine rv (v := .int _ _) (v_move (.inl rfl) nf) ?_
      refine rn (v := .bool _) (q_clo (vs := [.int _ _]) (args := (.int .i64 _ :: caps)) hf (.inl rfl) ⟨.inl rfl, trivial⟩ (snap_clo1 hcap rfl) (fun hA => hc x.1 hj) rfl rfl) ?_
      refine rv (v := .bool _) (v_not (.inl rfl)) ?_
      refine r_nil ?_
      refine a_cond rfl (fun ht29 => ?_) (fun ht29 => ?_)
      ·
        skip
        refine a_seq ?_
        have hpl : x.2.1 * 1 + 1 ≤ (icells x.2.2).length := (by rw [icells_length]; omega)
        have hset : (icells x.2.2).set (x.2.1 * 1) (.int .i64 (gd xs x.1)) = icells (x.2.2.set x.2.1 (gd xs x.1)) := (by rw [Nat.mul_one, icells_set])
        refine a_region ?_
        refine rv (v := .rsl _ _ _ _ _) (v_move (.inl rfl) nf) ?_
        refine rv (v := .int _ _) (v_move (.inl rfl) nf) ?_
        refine rv (v := .int _ _) (v_move (.inl rfl) nf) ?_
        refine rv (v := .rp _ _) (v_indexAddr_rsl0 es25 (.inl rfl) (.inl rfl) (fun _ => by omega)) ?_
        refine r_step rfl (o_store (v := .int _ _) (y' := .osl _ _ _ _) rfl rfl ta3 (.inl rfl) (.inl rfl) rfl rfl rfl rfl rfl rfl hpl (by decide) rfl (congrArg (fun c => AV.osl 1 c xs.length none) hset)) ?_
        refine r_nil ?_
        refine a_region ?_
        refine rv (v := .int _ _) (v_move (.inl rfl) nf) ?_
        refine rv (v := .int _ _) (v_add (.inl rfl) (.inl rfl) (fun _ => by omega)) ?_
        refine rv (v := .int _ _) (v_assign (.inl rfl) nf) ?_
        refine r_nil ?_
        refine a_region ?_
        refine rv (v := .int _ _) (v_move (.inl rfl) nf) ?_
        refine rv (v := .int _ _) (v_add (.inl rfl) (.inl rfl) (fun _ => by omega)) ?_
        refine rv (v := .int _ _) (v_assign (.inl rfl) nf) ?_
        refine r_nil ?_
        refine ⟨(x.1 + 1, x.2.1 + 1, x.2.2.set x.2.1 (gd xs x.1)), ent_look ⟨Weak.of_eq rfl, (Weak.of_eq (purge_fn hcap)), Weak.of_eq (int_eq (by dsimp only; omega)), Weak.of_eq (int_eq (by dsimp only; omega)), Weak.of_eq rfl, trivial⟩, hD.keep hj (by simpa using ht29), by dsimp only; omega⟩
      ·
        skip
        refine a_skip ?_
        refine a_region ?_
        refine rv (v := .int _ _) (v_move (.inl rfl) nf) ?_
        refine rv (v := .int _ _) (v_add (.inl rfl) (.inl rfl) (fun _ => by omega)) ?_
        refine rv (v := .int _ _) (v_assign (.inl rfl) nf) ?_
        refine r_nil ?_
        refine ⟨(x.1 + 1, x.2.1, x.2.2), ent_look ⟨Weak.of_eq rfl, (Weak.of_eq (purge_fn hcap)), Weak.of_eq rfl, Weak.of_eq (int_eq (by dsimp only; omega)), Weak.of_eq rfl, trivial⟩, hD.drop hj (by simpa using ht29), by dsimp only; omega⟩
    ·
      skip
      refine a_exit ?_
      refine a_seq ?_
      have hje : x.1 = xs.length := (by simp at ht19; omega)
      have hdn := Dlt.done (p := p) (xs := xs) (ys := x.2.2) (i := x.2.1) (n := xs.length) (hje ▸ hD) rfl
      refine a_region ?_
      refine rv (v := .rsl _ _ _ _ _) (v_move (.inl rfl) nf) ?_
      refine rv (v := .int _ _) (v_move (.inl rfl) nf) ?_
      refine rv (v := .rsl (INH, []) 1 (0 + x.2.1 * 1) (xs.length - x.2.1) none) ((v_slice_rsl (l := x.2.1) (h := xs.length) es25 (.inl rfl) (.inr ⟨_, _, rfl, .inl rfl⟩) (.inl ⟨rfl, rfl⟩) (fun _ => by omega)).cast (rfl)) ?_
      refine r_step rfl (o_clear rfl rfl us25 zc3 rfl (.inl rfl) rfl (by rw [icells_length]; omega) rfl rfl) ?_
      refine r_nil ?_
      refine a_seq ?_
      refine a_region ?_
      refine rv (v := .rsl _ _ _ _ _) (v_move (.inl rfl) nf) ?_
      refine rv (v := .int _ _) (v_move (.inl rfl) nf) ?_
      refine rv (v := .rsl (INH, []) 1 0 x.2.1 none) ((v_slice_rsl (l := 0) (h := x.2.1) es25 (.inl rfl) (.inl ⟨rfl, rfl⟩) (.inr ⟨_, _, rfl, .inl rfl⟩) (fun _ => by omega)).cast (rfl)) ?_
      refine rv (v := .rsl _ _ _ _ _) (v_assign (.inl rfl) nf) ?_
      refine r_nil ?_
      refine a_pre (ent_reloc_sl (t := 4) rfl rfl) ?_
      refine a_ret ?_
      refine ret1 Tryz.results84 (by decide) (by decide) (Weak.osl_take (ds := List.replicate (xs.length - x.2.1) (.int .i64 0)) ?_ ?_) rfl (Leaves.one Weak.undef rfl)
      · exact hdn.1
      · exact hdn.2
end Go.Av
namespace Go.Av
open Go Go.Proofs Go.Sort
set_option maxRecDepth 10000
theorem hb83 : hasBody Tryz.prog 83 = true := by kernel_rfl
theorem hb84 : hasBody Tryz.prog 84 = true := by kernel_rfl
theorem hb86 : hasBody Tryz.prog 86 = true := by kernel_rfl
theorem withoutVar1_c (x v : Int) : ACall Tryz.prog 86 [.int .i64 x, .pp [.int .i64 v] 0] [] (.bool (decide (absA x = v))) [] := by
  refine ACall.intro Tryz.func86 rfl (N := 8) rfl (by decide) (by simp) ?_
  refine a_seq ?_
  refine a_region ?_
  refine rv (v := .bool _) (v_assign (.inl rfl) nf) ?_
  refine r_nil ?_
  refine a_seq ?_
  refine a_region_any mixed (by kernel_rfl) ?_
  refine yv (v := .int _ _) (v_move (.inl rfl) nf) ?_
  refine y_new (v := .int _ _) (q_call (vs := [.int _ _]) (args := [.int .i64 _]) hb59 ⟨.inl rfl, trivial⟩ rfl (fun hA => absA_c _) rfl rfl) rfl rfl (by decide) (by kernel_rfl) ?_
  refine yv (v := .int _ _) (v_load_pp ta3 (.inl rfl) (fun _ => rfl) rfl) ?_
  refine yv (v := .bool _) (v_eql (.inl rfl) (.inl rfl)) ?_
  refine yv (v := .bool _) (v_assign (.inl rfl) nf) ?_
  refine y_nil ?_
  refine a_ret ?_
  refine ret1 Tryz.results86 (by decide) (by decide) (Weak.of_eq (bool_eq ?_)) rfl Leaves.nil
  rfl
theorem withoutVar_c (c : List Int) (v : Int) (hl : c.length ≤ 1048576) : ACall Tryz.prog 58 [.sl (icells c) c.length, .int .i64 v] [] (.osl 1 (icells (wov c v)) (wov c v).length none) [] := by
  have hbW := hb86
  refine ACall.intro Tryz.func58 rfl (N := 9) rfl (by decide) (by simp) ?_
  refine a_seq ?_
  refine a_region ?_
  refine rn (v := .op [.int _ _]) (q_box (.inl rfl) rfl rfl) ?_
  refine rv (v := .nils) (v_assign (.inl rfl) nf) ?_
  refine r_nil ?_
  refine a_seq ?_
  refine a_region ?_
  refine rv (v := .sl _ _) (v_move (.inl rfl) nf) ?_
  refine rn (v := .osl _ _ _ _) (q_call (vs := [.sl _ _]) (args := [.sl _ _]) hb85 ⟨.inl rfl, trivial⟩ rfl (fun hA => cloneI_c _ _ ⟨rfl, by omega⟩) (ic_noSh _) (ic_noRef _)) ?_
  refine rv (v := .fn _ _ _) (v_makeFunc (first := []) (caps := [.tmp 3]) rfl rfl) ?_
  refine r_step rfl (o_callIO (q := (6, [])) (vs := [.rsl _ _ _ _ _, .fn _ _ _]) (args := [.rsl (INH, []) _ _ _ _, .fn _ _ _]) (x0 := .osl _ _ _ _) (x1 := .undef) (res := .osl _ _ _ _) rfl hb84 rfl (by decide) ⟨.inl rfl, .inl rfl, trivial⟩ rfl rfl (del_c 86 [.pp [.int .i64 v] 0] hbW rfl c _ (fun x => decide (absA x = v)) ⟨rfl, by omega⟩ (fun i hi => withoutVar1_c _ v)) rfl (ic_noSh _) (ic_noRef _) rfl rfl (Nat.le_of_ble_eq_true rfl) (by decide) rfl) ?_
  refine rv (v := .rsl _ _ _ _ _) (v_assign (.inl rfl) nf) ?_
  refine r_pre (ent_reloc_sl (t := 4) rfl rfl) ?_
  refine r_nil ?_
  refine a_ret ?_
  refine ret1 Tryz.results58 (by decide) (by decide) (Weak.osl ?_ ?_) rfl Leaves.nil
  · rfl
  · rfl
theorem mustClause_c (l : List Int) (hn : l.length ≤ 1048576) : ACall Tryz.prog 57 [.sl (icells l) l.length] [] (.osl 1 (icells ((clR l).getD [])) ((clR l).getD []).length none) [] := by
  refine ACall.intro Tryz.func57 rfl (N := 11) rfl (by decide) (by simp) ?_
  refine a_seq ?_
  refine a_region ?_
  refine rv (v := .nils) (v_assign (.inl rfl) nf) ?_
  refine r_nil ?_
  refine a_seq ?_
  refine a_region ?_
  refine rv (v := .sl _ _) (v_move (.inl rfl) nf) ?_
  refine rn (v := .tup [.osl _ _ _ _, .bool _]) (q_call (vs := [.sl _ _]) (args := [.sl _ _]) hb83 ⟨.inl rfl, trivial⟩ rfl (fun hA => clause_c l hn) (by simp [noSh, noShL, ic_noSh]) (by simp [noRef, noRefL, ic_noRef])) ?_
  refine rv (v := .tup [.rsl _ _ _ _ _, .bool _]) (v_mv rfl) ?_
  refine rv (v := .rsl _ _ _ _ _) (v_extract rfl rfl) ?_
  refine rv (v := .bool _) (v_extract rfl rfl) ?_
  refine rv (v := .rsl _ _ _ _ _) (v_assign (.inl rfl) nf) ?_
  refine r_pre (ent_reloc_sl (t := 3) rfl rfl) ?_
  refine rv (v := .bool _) (v_assign (.inl rfl) nf) ?_
  refine r_nil ?_
  refine a_seq ?_
  refine a_region ?_
  refine rv (v := .rsl _ _ _ _ _) (v_move (.inl rfl) nf) ?_
  refine rv (v := .rsl _ _ _ _ _) (v_assign (.inl rfl) nf) ?_
  refine r_pre (ent_reloc_sl (t := 2) rfl rfl) ?_
  refine r_nil ?_
  refine a_ret ?_
  refine ret1 Tryz.results57 (by decide) (by decide) (Weak.osl ?_ ?_) rfl Leaves.nil
  · rfl
  · rfl
end Go.Av
namespace Go.Av
open Go Go.Proofs Go.Sort
set_option maxRecDepth 10000
theorem hb101 : hasBody Tryz.prog 101 = true := by kernel_rfl
theorem hb57 : hasBody Tryz.prog 57 = true := by kernel_rfl
theorem hb58 : hasBody Tryz.prog 58 = true := by kernel_rfl
theorem hb73 : hasBody Tryz.prog 73 = true := by kernel_rfl
theorem set_c (vars : Int) (a : List Int) (l : Int) (hc : clB vars a = true) (hl : litB vars l = true) : ACall Tryz.prog 34 [.sl (icells a) a.length, .int .i64 l] [] (.osl 1 (icells (setLit a l)) (setLit a l).length none) [] := by
  have hln := clB_len hc
  have hsm := clB_sm hc
  have hll : -4611686018427387904 ≤ l ∧ l ≤ 4611686018427387904 := (by have := litB_spec.1 hl; have := (clB_spec hc).1; omega)
  have hab := absA_of hll
  have hwl := woS_len a (vr l)
  refine ACall.intro Tryz.func34 rfl (N := 13) rfl (by decide) (by simp) ?_
  refine a_seq ?_
  refine a_region ?_
  refine rv (v := .nils) (v_assign (.inl rfl) nf) ?_
  refine r_nil ?_
  refine a_seq ?_
  refine a_region ?_
  refine rv (v := .sl _ _) (v_move (.inl rfl) nf) ?_
  refine rv (v := .int _ _) (v_move (.inl rfl) nf) ?_
  refine rn (v := .int _ _) (q_call (vs := [.int _ _]) (args := [.int .i64 _]) hb59 ⟨.inl rfl, trivial⟩ rfl (fun hA => absA_c _) rfl rfl) ?_
  refine rn (v := .osl _ _ _ _) (q_call (vs := [.sl _ _, .int _ _]) (args := [.sl _ _, .int .i64 _]) hb58 ⟨.inl rfl, .inl rfl, trivial⟩ rfl (fun hA => withoutVar_c a (absA l) (by omega)) (ic_noSh _) (ic_noRef _)) ?_
  refine rv (v := .int _ _) (v_move (.inl rfl) nf) ?_
  refine r_pre (ent_eq (t := 8) (v' := .osl 1 (icells (woS a (vr l))) (woS a (vr l)).length none) (Weak.osl (by rw [hab, wov_eq hsm]) (by rw [hab, wov_eq hsm]))) ?_
  refine rn (v := .osl 1 (icells [l]) 1 (some 1)) (q_sliceLit (n := 1) (parts := [(0, .tmp 9)]) lt25 rfl rfl rfl rfl) ?_
  refine r_step rfl (o_append rfl ap25 rfl (by decide) (by decide) rfl (src_lit (.inl rfl) rfl rfl (ic_pureL _)) (ic_cell _) (by rw [icells_length]; omega) (by omega)) ?_
  refine r_pre (ent_eq (t := 11) (v' := .osl 1 (icells (woS a (vr l) ++ [l])) (woS a (vr l) ++ [l]).length none) (Weak.osl (by rw [icells_append]) (by simp))) ?_
  refine rn (v := .osl _ _ _ _) (q_call (vs := [.rsl _ _ _ _ _]) (args := [.sl _ _]) hb57 ⟨.inl rfl, trivial⟩ (l1_eq (sl_sh (ic_pure (woS a (vr l) ++ [l])))) (fun hA => mustClause_c (woS a (vr l) ++ [l]) (by simp; omega)) (ic_noSh _) (ic_noRef _)) ?_
  refine rv (v := .rsl _ _ _ _ _) (v_assign (.inl rfl) nf) ?_
  refine r_pre (ent_reloc_sl (t := 4) rfl rfl) ?_
  refine r_nil ?_
  refine a_ret ?_
  refine ret1 Tryz.results34 (by decide) (by decide) (Weak.osl ?_ ?_) rfl Leaves.nil
  · rw [setLit_impl hc hl]
  · rw [setLit_impl hc hl]
end Go.Av
namespace Go.Av
open Go Go.Proofs Go.Sort
set_option maxRecDepth 10000
end Go.Av
namespace Go.Av
open Go Go.Proofs Go.Sort
set_option maxRecDepth 10000
theorem es22 : elemSize Tryz.prog 22 = some 1 := by kernel_rfl
theorem fo24_0 : fieldOff Tryz.prog 24 0 = some 0 := by kernel_rfl
theorem fo24_1 : fieldOff Tryz.prog 24 1 = some 1 := by kernel_rfl
theorem fo30_0 : fieldOff Tryz.prog 30 0 = some 0 := by kernel_rfl
theorem fo30_1 : fieldOff Tryz.prog 30 1 = some 1 := by kernel_rfl
theorem hb10 : hasBody Tryz.prog 10 = true := by kernel_rfl
theorem hb12 : hasBody Tryz.prog 12 = true := by kernel_rfl
theorem hb14 : hasBody Tryz.prog 14 = true := by kernel_rfl
theorem hb26 : hasBody Tryz.prog 26 = true := by kernel_rfl
theorem hb6 : hasBody Tryz.prog 6 = true := by kernel_rfl
theorem hb9 : hasBody Tryz.prog 9 = true := by kernel_rfl
theorem sb25 : (Tryz.prog.info? 25).map (fun i => (i.size, i.bytes)) = some (1, 24) := by kernel_rfl
theorem sl22 : isSlice Tryz.prog 22 = true := by kernel_rfl
theorem ta22 : tyAgg Tryz.prog 22 = some (false, 1) := by kernel_rfl
theorem ta25 : tyAgg Tryz.prog 25 = some (false, 1) := by kernel_rfl
theorem ta30 : tyAgg Tryz.prog 30 = some (true, 2) := by kernel_rfl
theorem us22 : Tryz.prog.underlying 22 = some (.slice 25) := by kernel_rfl
theorem zc25 : zeroCells Tryz.prog 25 = some [.nils] := by kernel_rfl
theorem zc30 : zeroCells Tryz.prog 30 = some [.int .i64 0, .nils] := by kernel_rfl
theorem szIntS_c (c : List Int) (left : Int) (hl : 0 ≤ left ∧ left ≤ 1000000000) (hc : (c.length : Int) ≤ 9223372036854775807) : ACall Tryz.prog 26 [.sl (icells c) c.length, .int .i64 left] [] (.int .i64 (szR left c.length)) [] := by
  refine ACall.intro Tryz.func26 rfl (N := 12) rfl (by decide) (by simp) ?_
  refine a_seq ?_
  refine a_region ?_
  refine rv (v := .int _ _) (v_assign (.inl rfl) nf) ?_
  refine r_nil ?_
  refine a_seq ?_
  refine a_region ?_
  refine rv (v := .int _ _) (v_move (.inl rfl) nf) ?_
  refine rv (v := .sl _ _) (v_move (.inl rfl) nf) ?_
  refine rv (v := .int _ _) (v_len_sl sl25 (.inl rfl)) ?_
  refine rv (v := .int _ _) (v_sub (.inl rfl) (.inl rfl) (fun _ => by omega)) ?_
  refine rv (v := .int _ _) (v_assign (.inl rfl) nf) ?_
  refine r_nil ?_
  refine a_seq ?_
  refine a_seq ?_
  refine a_region ?_
  refine rv (v := .int _ _) (v_move (.inl rfl) nf) ?_
  refine rv (v := .bool _) (v_lss (.inl rfl) (.inl rfl)) ?_
  refine r_nil ?_
  refine a_cond rfl (fun ht10 => ?_) (fun ht10 => ?_)
  ·
    skip
    refine a_seq ?_
    refine a_region ?_
    refine rv (v := .int _ _) (v_assign (.inl rfl) nf) ?_
    refine r_nil ?_
    refine a_ret ?_
    refine ret1 Tryz.results26 (by decide) (by decide) (Weak.of_eq (int_eq ?_)) rfl Leaves.nil
    unfold szR; rw [if_pos (by simpa using ht10)]
  ·
    skip
    refine a_skip ?_
    refine a_seq ?_
    refine a_region ?_
    refine rv (v := .int _ _) (v_move (.inl rfl) nf) ?_
    refine rv (v := .int _ _) (v_assign (.inl rfl) nf) ?_
    refine r_nil ?_
    refine a_ret ?_
    refine ret1 Tryz.results26 (by decide) (by decide) (Weak.of_eq (int_eq ?_)) rfl Leaves.nil
    unfold szR; rw [if_neg (by simpa using ht10)]
theorem szIntSS_c (L : List (List Int)) (left : Int) (hl : 0 ≤ left ∧ left ≤ 1000000000) (hlen : ∀ i, ((gl L i).length : Int) ≤ 9223372036854775807) (hL : (L.length : Int) ≤ 9223372036854775807) : ACall Tryz.prog 6 [.sl (sls L) L.length, .int .i64 left] [] (.int .i64 (szR left ((L.length + tot L L.length : Nat) : Int))) [] := by
  refine ACall.intro Tryz.func6 rfl (N := 27) rfl (by decide) (by simp) ?_
  refine a_seq ?_
  refine a_region ?_
  refine rv (v := .int _ _) (v_assign (.inl rfl) nf) ?_
  refine r_nil ?_
  refine a_seq ?_
  refine a_region ?_
  refine rv (v := .int _ _) (v_move (.inl rfl) nf) ?_
  refine rv (v := .sl _ _) (v_move (.inl rfl) nf) ?_
  refine rv (v := .int _ _) (v_len_sl sl22 (.inl rfl)) ?_
  refine rv (v := .int _ _) (v_sub (.inl rfl) (.inl rfl) (fun _ => by omega)) ?_
  refine rv (v := .int _ _) (v_assign (.inl rfl) nf) ?_
  refine r_nil ?_
  refine a_seq ?_
  refine a_seq ?_
  refine a_region ?_
  refine rv (v := .int _ _) (v_move (.inl rfl) nf) ?_
  refine rv (v := .bool _) (v_lss (.inl rfl) (.inl rfl)) ?_
  refine r_nil ?_
  refine a_cond rfl (fun ht11 => ?_) (fun ht11 => ?_)
  ·
    skip
    refine a_seq ?_
    refine a_region ?_
    refine rv (v := .int _ _) (v_assign (.inl rfl) nf) ?_
    refine r_nil ?_
    refine a_ret ?_
    refine ret1 Tryz.results6 (by decide) (by decide) (Weak.of_eq (int_eq ?_)) rfl Leaves.nil
    unfold szR; rw [if_pos (by simp at ht11; omega)]
  ·
    skip
    refine a_skip ?_
    refine a_seq ?_
    refine a_seq ?_
    refine a_region ?_
    refine rv (v := .int _ _) (v_assign (.inl rfl) nf) ?_
    refine r_nil ?_
    refine a_block ?_
    refine a_loop (X := Nat) (fun i => look [(0, .sl (sls L) L.length), (1, .int .i64 (left - L.length - (tot L i : Nat))), (5, .int .i64 ((i : Nat) : Int))]) (fun i => i ≤ L.length ∧ 0 ≤ left - L.length - (tot L i : Nat)) (fun i => L.length - i) 0 (ent_look ⟨Weak.of_eq rfl, Weak.of_eq (int_eq (by simp [tot_zero])), Weak.of_eq rfl, trivial⟩) ⟨Nat.zero_le _, by simp [tot_zero]; simpa using ht11⟩ (fun i hG => ?_)
    obtain ⟨g1, g2⟩ := hG
    have hli := hlen i
    have htl := tot_le L i
    have htl1 := tot_le L (i + 1)
    refine a_seq ?_
    refine a_seq ?_
    refine a_region ?_
    refine rv (v := .int _ _) (v_move (.inl rfl) nf) ?_
    refine rv (v := .sl _ _) (v_move (.inl rfl) nf) ?_
    refine rv (v := .int _ _) (v_len_sl sl22 (.inl rfl)) ?_
    refine rv (v := .bool _) (v_lss (.inl rfl) (.inl rfl)) ?_
    refine r_nil ?_
    refine a_cond rfl (fun ht15 => ?_) (fun ht15 => ?_)
    ·
      skip
      refine a_skip ?_
      refine a_seq ?_
      refine a_block ?_
      refine a_seq ?_
      have hi : i < L.length := (by simp at ht15; omega)
      have hgt := tot_more hi
      refine a_region ?_
      refine rv (v := .sl _ _) (v_move (.inl rfl) nf) ?_
      refine rv (v := .int _ _) (v_move (.inl rfl) nf) ?_
      refine rv (v := .pp _ _) (v_indexAddr_sl es22 (.inl rfl) (.inl rfl) (fun _ => ⟨by omega, by omega, sls_ne hi⟩)) ?_
      refine rv (v := .sl (icells (gl L i)) (gl L i).length) (v_load_pp ta25 (.inl rfl) (fun _ => by rw [Nat.mul_one]; exact sls_get hi) rfl) ?_
      refine rv (v := .int _ _) (v_move (.inl rfl) nf) ?_
      refine rn (v := .int _ _) (q_call (vs := [.sl _ _, .int _ _]) (args := [.sl _ _, .int .i64 _]) hb26 ⟨.inl rfl, .inl rfl, trivial⟩ rfl (fun hA => szIntS_c (gl L i) _ (by omega) (by omega)) rfl rfl) ?_
      refine rv (v := .int _ _) (v_assign (.inl rfl) nf) ?_
      refine r_nil ?_
      refine a_seq ?_
      refine a_region ?_
      refine rv (v := .int _ _) (v_move (.inl rfl) nf) ?_
      refine rv (v := .bool _) (v_lss (.inl rfl) (.inl rfl)) ?_
      refine r_nil ?_
      refine a_cond rfl (fun ht25 => ?_) (fun ht25 => ?_)
      ·
        skip
        refine a_seq ?_
        have hneg : left - L.length - (tot L i : Nat) - ((gl L i).length : Int) < 0 := (by have h25 := of_decide_eq_true ht25; unfold szR at h25; split at h25 <;> omega)
        refine a_region ?_
        refine rv (v := .int _ _) (v_assign (.inl rfl) nf) ?_
        refine r_nil ?_
        refine a_ret ?_
        refine ret1 Tryz.results6 (by decide) (by decide) (Weak.of_eq (int_eq ?_)) rfl Leaves.nil
        unfold szR; rw [if_pos (by omega)]
      ·
        skip
        refine a_skip ?_
        refine a_region ?_
        refine rv (v := .int _ _) (v_move (.inl rfl) nf) ?_
        refine rv (v := .int _ _) (v_add (.inl rfl) (.inl rfl) (fun _ => by omega)) ?_
        refine rv (v := .int _ _) (v_assign (.inl rfl) nf) ?_
        refine r_nil ?_
        have hge : ¬ left - L.length - (tot L i : Nat) - ((gl L i).length : Int) < 0 := (by intro h; simp [szR, h] at ht25)
        refine ⟨i + 1, ent_look ⟨Weak.of_eq rfl, Weak.of_eq (int_eq (by unfold szR; rw [if_neg (by omega), hgt]; omega)), Weak.of_eq (int_eq (by omega)), trivial⟩, ⟨by omega, by omega⟩, by omega⟩
    ·
      skip
      refine a_exit ?_
      refine a_seq ?_
      have hie : i = L.length := (by simp at ht15; omega)
      refine a_region ?_
      refine rv (v := .int _ _) (v_move (.inl rfl) nf) ?_
      refine rv (v := .int _ _) (v_assign (.inl rfl) nf) ?_
      refine r_nil ?_
      refine a_ret ?_
      refine ret1 Tryz.results6 (by decide) (by decide) (Weak.of_eq (int_eq ?_)) rfl Leaves.nil
      unfold szR; subst hie; rw [if_neg (by omega)]; omega
theorem szCnf_c (vars : Int) (L : List (List Int)) (left : Int) (hl : 0 ≤ left ∧ left ≤ 1000000000) (hlen : ∀ i, ((gl L i).length : Int) ≤ 9223372036854775807) (hL : (L.length : Int) ≤ 9223372036854775807) : ACall Tryz.prog 5 [.agg [.int .i64 vars, .sl (sls L) L.length], .int .i64 left] [] (.int .i64 (szR left ((L.length + tot L L.length : Nat) : Int))) [] := by
  refine ACall.intro Tryz.func5 rfl (N := 12) rfl (by decide) (by simp) ?_
  refine a_seq ?_
  refine a_region ?_
  refine rn (v := .op [.int _ _, .sl _ _]) (q_box (.inl rfl) rfl rfl) ?_
  refine rv (v := .int _ _) (v_assign (.inl rfl) nf) ?_
  refine r_nil ?_
  refine a_seq ?_
  refine a_region ?_
  refine rv (v := .rp _ _) (v_fieldAddr_rp fo24_1 (.inl rfl)) ?_
  refine rv (v := .sl _ _) (v_load_rp1 ta22 (.inl rfl) rfl (fun _ => rfl) rfl) ?_
  refine rv (v := .int _ _) (v_move (.inl rfl) nf) ?_
  refine rn (v := .int _ _) (q_call (vs := [.sl _ _, .int _ _]) (args := [.sl _ _, .int .i64 _]) hb6 ⟨.inl rfl, .inl rfl, trivial⟩ rfl (fun hA => szIntSS_c L left hl hlen hL) rfl rfl) ?_
  refine rv (v := .int _ _) (v_assign (.inl rfl) nf) ?_
  refine r_nil ?_
  refine a_seq ?_
  refine a_seq ?_
  refine a_region ?_
  refine rv (v := .int _ _) (v_move (.inl rfl) nf) ?_
  refine rv (v := .bool _) (v_lss (.inl rfl) (.inl rfl)) ?_
  refine r_nil ?_
  refine a_cond rfl (fun ht10 => ?_) (fun ht10 => ?_)
  ·
    skip
    refine a_seq ?_
    refine a_region ?_
    refine rv (v := .int _ _) (v_assign (.inl rfl) nf) ?_
    refine r_nil ?_
    refine a_ret ?_
    refine ret1 Tryz.results5 (by decide) (by decide) (Weak.of_eq (int_eq ?_)) rfl Leaves.nil
    have h10 := of_decide_eq_true ht10; unfold szR at h10 ⊢; split at h10 <;> rename_i hh; rw [if_pos hh]; omega
  ·
    skip
    refine a_skip ?_
    refine a_seq ?_
    refine a_region ?_
    refine rv (v := .int _ _) (v_move (.inl rfl) nf) ?_
    refine rv (v := .int _ _) (v_assign (.inl rfl) nf) ?_
    refine r_nil ?_
    refine a_ret ?_
    refine ret1 Tryz.results5 (by decide) (by decide) (Weak.of_eq (int_eq ?_)) rfl Leaves.nil
    rfl
theorem toIntSS_c (L : List (List Int)) (hL : L.length ≤ 1048576) (ht : tot L L.length ≤ 1048576) : ACall Tryz.prog 9 [.sl (sls L) L.length] [] (.osl 1 (osls L) L.length none) [] := by
  refine ACall.intro Tryz.func9 rfl (N := 23) rfl (by decide) (by simp) ?_
  refine a_seq ?_
  refine a_region ?_
  refine rv (v := .nils) (v_assign (.inl rfl) nf) ?_
  refine r_nil ?_
  refine a_seq ?_
  refine a_region ?_
  refine rv (v := .sl _ _) (v_move (.inl rfl) nf) ?_
  refine rv (v := .int _ _) (v_len_sl sl22 (.inl rfl)) ?_
  refine rn (v := .osl _ _ _ _) (q_makeSlice us22 sb25 zc25 rfl (by decide) (.inl rfl) (.inl rfl) (fun _ => by omega)) ?_
  refine rv (v := .rsl _ _ _ _ _) (v_assign (.inl rfl) nf) ?_
  refine r_pre (ent_reloc_sl (t := 3) rfl rfl) ?_
  refine r_nil ?_
  refine a_seq ?_
  refine a_seq ?_
  refine a_region ?_
  refine rv (v := .int _ _) (v_assign (.inl rfl) nf) ?_
  refine r_nil ?_
  refine a_block ?_
  refine a_loop (X := Nat) (fun i => look [(0, .sl (sls L) L.length), (3, .osl 1 (partO L i) L.length (some L.length)), (4, .int .i64 ((i : Nat) : Int))]) (fun i => i ≤ L.length) (fun i => L.length - i) 0 (ent_look ⟨Weak.of_eq rfl, Weak.of_eq (osl_eq (by rw [partO_zero])), Weak.of_eq rfl, trivial⟩) (Nat.zero_le _) (fun i hG => ?_)
  refine a_seq ?_
  refine a_seq ?_
  refine a_region ?_
  refine rv (v := .int _ _) (v_move (.inl rfl) nf) ?_
  refine rv (v := .sl _ _) (v_move (.inl rfl) nf) ?_
  refine rv (v := .int _ _) (v_len_sl sl22 (.inl rfl)) ?_
  refine rv (v := .bool _) (v_lss (.inl rfl) (.inl rfl)) ?_
  refine r_nil ?_
  refine a_cond rfl (fun ht11 => ?_) (fun ht11 => ?_)
  ·
    skip
    refine a_skip ?_
    refine a_seq ?_
    refine a_block ?_
    have hi : i < L.length := (by simp at ht11; omega)
    have hle := len_tot (L := L) (i := i)
    have hpl : i * 1 + 1 ≤ (partO L i).length := (by rw [partO_length (by omega)]; omega)
    have hset : (partO L i).set (i * 1) (.osl 1 (icells (gl L i)) (gl L i).length none) = partO L (i + 1) := (by rw [Nat.mul_one, partO_set hi])
    refine a_region ?_
    refine rv (v := .rsl _ _ _ _ _) (v_move (.inl rfl) nf) ?_
    refine rv (v := .int _ _) (v_move (.inl rfl) nf) ?_
    refine rv (v := .sl _ _) (v_move (.inl rfl) nf) ?_
    refine rv (v := .int _ _) (v_move (.inl rfl) nf) ?_
    refine rv (v := .pp _ _) (v_indexAddr_sl es22 (.inl rfl) (.inl rfl) (fun _ => ⟨by omega, by omega, sls_ne hi⟩)) ?_
    refine rv (v := .sl (icells (gl L i)) (gl L i).length) (v_load_pp ta25 (.inl rfl) (fun _ => by rw [Nat.mul_one]; exact sls_get hi) rfl) ?_
    refine rn (v := .osl _ _ _ _) (q_call (vs := [.sl _ _]) (args := [.sl _ _]) hb10 ⟨.inl rfl, trivial⟩ rfl (fun hA => toIntS_c (gl L i) (by omega)) (ic_noSh _) (ic_noRef _)) ?_
    refine rv (v := .rp _ _) (v_indexAddr_rsl0 es22 (.inl rfl) (.inl rfl) (fun _ => by omega)) ?_
    refine r_step rfl (o_store_own (v := .osl _ _ _ _) (y' := .osl 1 (partO L (i + 1)) L.length (some L.length)) rfl rfl ta25 (.inl rfl) (by decide) rfl (by decide) rfl (by simp [cellsOf, noRefL, noRef, ic_noRef]) rfl rfl rfl rfl rfl hpl rfl (congrArg (fun c => AV.osl 1 c L.length (some L.length)) hset)) ?_
    refine r_nil ?_
    refine a_region ?_
    refine rv (v := .int _ _) (v_move (.inl rfl) nf) ?_
    refine rv (v := .int _ _) (v_add (.inl rfl) (.inl rfl) (fun _ => by omega)) ?_
    refine rv (v := .int _ _) (v_assign (.inl rfl) nf) ?_
    refine r_nil ?_
    refine ⟨i + 1, ent_look ⟨Weak.of_eq rfl, Weak.of_eq rfl, Weak.of_eq (int_eq (by omega)), trivial⟩, by omega, by omega⟩
  ·
    skip
    refine a_exit ?_
    refine a_seq ?_
    refine a_region ?_
    refine rv (v := .rsl _ _ _ _ _) (v_move (.inl rfl) nf) ?_
    refine rv (v := .rsl _ _ _ _ _) (v_assign (.inl rfl) nf) ?_
    refine r_pre (ent_reloc_sl (t := 2) rfl rfl) ?_
    refine r_nil ?_
    refine a_ret ?_
    refine ret1 Tryz.results9 (by decide) (by decide) (Weak.osl ?_ ?_) rfl Leaves.nil
    · simp at ht11; rw [partO_full (by omega)]
    · rfl
theorem toCnf_c (vars : Int) (L : List (List Int)) (hL : L.length ≤ 1048576) (ht : tot L L.length ≤ 1048576) : ACall Tryz.prog 8 [.agg [.int .i64 vars, .sl (sls L) L.length]] [] (.agg [.int .i64 vars, .osl 1 (osls L) L.length none]) [] := by
  refine ACall.intro Tryz.func8 rfl (N := 12) rfl (by decide) (by simp) ?_
  refine a_seq ?_
  refine a_region ?_
  refine rn (v := .op [.int _ _, .sl _ _]) (q_box (.inl rfl) rfl rfl) ?_
  refine rn (v := .op [.int _ _, .nils]) (q_alloc zc30) ?_
  refine r_nil ?_
  refine a_seq ?_
  refine a_region ?_
  refine rn (v := .op [.int _ _, .nils]) (q_alloc zc30) ?_
  refine r_nil ?_
  refine a_seq ?_
  refine a_region ?_
  refine rv (v := .rp _ _) (v_fieldAddr_rp fo24_0 (.inl rfl)) ?_
  refine rv (v := .int _ _) (v_load_rp1 ta3 (.inl rfl) rfl (fun _ => rfl) rfl) ?_
  refine rv (v := .rp _ _) (v_fieldAddr_rp fo30_0 (.inl rfl)) ?_
  refine r_step rfl (o_store (v := .int _ _) (y' := .op [.int _ _, .nils]) rfl rfl ta3 (.inl rfl) (.inl rfl) rfl rfl rfl rfl rfl rfl (Nat.le_of_ble_eq_true rfl) (by decide) rfl rfl) ?_
  refine r_nil ?_
  refine a_seq ?_
  refine a_region ?_
  refine rv (v := .rp _ _) (v_fieldAddr_rp fo24_1 (.inl rfl)) ?_
  refine rv (v := .sl _ _) (v_load_rp1 ta22 (.inl rfl) rfl (fun _ => rfl) rfl) ?_
  refine rn (v := .osl _ _ _ _) (q_call (vs := [.sl _ _]) (args := [.sl _ _]) hb9 ⟨.inl rfl, trivial⟩ rfl (fun hA => toIntSS_c L hL ht) (osls_noSh _) (osls_noRef _)) ?_
  refine rv (v := .rp _ _) (v_fieldAddr_rp fo30_1 (.inl rfl)) ?_
  refine r_step rfl (o_store_own (v := .osl _ _ _ _) (y' := .op [.int _ _, .osl _ _ _ _]) rfl rfl ta22 (.inl rfl) (by decide) rfl (by decide) rfl (by simp [cellsOf, noRefL, noRef, osls_noRef]) rfl rfl rfl rfl rfl (Nat.le_of_ble_eq_true rfl) rfl rfl) ?_
  refine r_nil ?_
  refine a_seq ?_
  refine a_region ?_
  refine rv (v := .agg [.int _ _, .rsl _ _ _ _ _]) (v_load_rpa (xs := [.int _ _, .osl _ _ _ _]) ta30 (.inl rfl) rfl rfl (fun _ => take_get rfl)) ?_
  refine r_pre (ent_reloc_at_sl (t := 11) (r := [1]) rfl (by decide) rfl rfl) ?_
  refine r_step rfl (o_store_own (v := .agg [.int _ _, .osl _ _ _ _]) (y' := .op [.int _ _, .osl _ _ _ _]) rfl rfl ta30 (.inl rfl) (by decide) rfl (by decide) rfl (by simp [cellsOf, noRefL, noRef, osls_noRef]) rfl rfl rfl rfl rfl (Nat.le_of_ble_eq_true rfl) rfl rfl) ?_
  refine r_nil ?_
  refine a_ret ?_
  refine retC1 (r := .cell 2 30) Tryz.results8 ⟨by decide, _, cell_agg rfl ta30, rfl⟩ (by decide) (Weak.of_eq (agg_eq (l2_eq (int_eq ?_) (osl_eq2 ?_ ?_)))) rfl Leaves.nil
  all_goals rfl
theorem eqIntSS_c (L M : List (List Int)) (hL : (L.length : Int) ≤ 9223372036854775807) (hM : (M.length : Int) ≤ 9223372036854775807) (hlen : ∀ i, ((gl L i).length : Int) ≤ 9223372036854775807) : ACall Tryz.prog 14 [.sl (sls L) L.length, .sl (sls M) M.length] [] (.bool (decide (L = M))) [] := by
  refine ACall.intro Tryz.func14 rfl (N := 27) rfl (by decide) (by simp) ?_
  refine a_seq ?_
  refine a_region ?_
  refine rv (v := .bool _) (v_assign (.inl rfl) nf) ?_
  refine r_nil ?_
  refine a_seq ?_
  refine a_seq ?_
  refine a_region ?_
  refine rv (v := .sl _ _) (v_move (.inl rfl) nf) ?_
  refine rv (v := .int _ _) (v_len_sl sl22 (.inl rfl)) ?_
  refine rv (v := .sl _ _) (v_move (.inl rfl) nf) ?_
  refine rv (v := .int _ _) (v_len_sl sl22 (.inl rfl)) ?_
  refine rv (v := .bool _) (v_neq (.inl rfl) (.inl rfl)) ?_
  refine r_nil ?_
  refine a_cond rfl (fun ht10 => ?_) (fun ht10 => ?_)
  ·
    skip
    refine a_seq ?_
    refine a_region ?_
    refine rv (v := .bool _) (v_assign (.inl rfl) nf) ?_
    refine r_nil ?_
    refine a_ret ?_
    refine ret1 Tryz.results14 (by decide) (by decide) (Weak.of_eq (bool_eq ?_)) rfl Leaves.nil
    simp at ht10; exact (decide_eq_false (fun h => ht10 (by rw [h]))).symm
  ·
    skip
    refine a_skip ?_
    refine a_seq ?_
    refine a_seq ?_
    refine a_region ?_
    refine rv (v := .int _ _) (v_assign (.inl rfl) nf) ?_
    refine r_nil ?_
    refine a_block ?_
    refine a_loop (X := Nat) (fun i => look [(0, .sl (sls L) L.length), (1, .sl (sls M) M.length), (5, .int .i64 ((i : Nat) : Int))]) (fun i => i ≤ L.length ∧ L.length = M.length ∧ L.take i = M.take i) (fun i => L.length - i) 0 (ent_look ⟨Weak.of_eq rfl, Weak.of_eq rfl, Weak.of_eq rfl, trivial⟩) ⟨Nat.zero_le _, by simp at ht10; omega, rfl⟩ (fun i hG => ?_)
    obtain ⟨g1, g2, g3⟩ := hG
    refine a_seq ?_
    refine a_seq ?_
    refine a_region ?_
    refine rv (v := .int _ _) (v_move (.inl rfl) nf) ?_
    refine rv (v := .sl _ _) (v_move (.inl rfl) nf) ?_
    refine rv (v := .int _ _) (v_len_sl sl22 (.inl rfl)) ?_
    refine rv (v := .bool _) (v_lss (.inl rfl) (.inl rfl)) ?_
    refine r_nil ?_
    refine a_cond rfl (fun ht14 => ?_) (fun ht14 => ?_)
    ·
      skip
      refine a_skip ?_
      refine a_seq ?_
      refine a_block ?_
      refine a_seq ?_
      have hi : i < L.length := (by simp at ht14; omega)
      refine a_region_any mixed (by kernel_rfl) ?_
      refine yv (v := .sl _ _) (v_move (.inl rfl) nf) ?_
      refine yv (v := .int _ _) (v_move (.inl rfl) nf) ?_
      refine yv (v := .pp _ _) (v_indexAddr_sl es22 (.inl rfl) (.inl rfl) (fun _ => ⟨by omega, by omega, sls_ne hi⟩)) ?_
      refine yv (v := .sl (icells (gl L i)) (gl L i).length) (v_load_pp ta25 (.inl rfl) (fun _ => by rw [Nat.mul_one]; exact sls_get hi) rfl) ?_
      refine yv (v := .sl _ _) (v_move (.inl rfl) nf) ?_
      refine yv (v := .int _ _) (v_move (.inl rfl) nf) ?_
      refine yv (v := .pp _ _) (v_indexAddr_sl es22 (.inl rfl) (.inl rfl) (fun _ => ⟨by omega, by omega, sls_ne (L := M) (i := i) (by omega)⟩)) ?_
      refine yv (v := .sl (icells (gl M i)) (gl M i).length) (v_load_pp ta25 (.inl rfl) (fun _ => by rw [Nat.mul_one]; exact sls_get (by omega)) rfl) ?_
      refine y_new (v := .bool _) (q_call (vs := [.sl _ _, .sl _ _]) (args := [.sl _ _, .sl _ _]) hb12 ⟨.inl rfl, .inl rfl, trivial⟩ rfl (fun hA => eqIntS_c (gl L i) (gl M i) (hlen i)) rfl rfl) rfl rfl (by decide) (by kernel_rfl) ?_
      refine yv (v := .bool _) (v_not (.inl rfl)) ?_
      refine y_nil ?_
      refine a_cond rfl (fun ht26 => ?_) (fun ht26 => ?_)
      ·
        skip
        refine a_seq ?_
        refine a_region ?_
        refine rv (v := .bool _) (v_assign (.inl rfl) nf) ?_
        refine r_nil ?_
        refine a_ret ?_
        refine ret1 Tryz.results14 (by decide) (by decide) (Weak.of_eq (bool_eq ?_)) rfl Leaves.nil
        simp at ht26; refine (decide_eq_false (fun h => ?_)).symm
        subst h
        simp at ht26
      ·
        skip
        refine a_skip ?_
        refine a_region ?_
        refine rv (v := .int _ _) (v_move (.inl rfl) nf) ?_
        refine rv (v := .int _ _) (v_add (.inl rfl) (.inl rfl) (fun _ => by omega)) ?_
        refine rv (v := .int _ _) (v_assign (.inl rfl) nf) ?_
        refine r_nil ?_
        refine ⟨i + 1, ent_look ⟨Weak.of_eq rfl, Weak.of_eq rfl, Weak.of_eq (int_eq (by omega)), trivial⟩, ⟨by omega, g2, gl_take hi (by omega) g3 (by simpa using ht26)⟩, by omega⟩
    ·
      skip
      refine a_exit ?_
      refine a_seq ?_
      refine a_region ?_
      refine rv (v := .bool _) (v_assign (.inl rfl) nf) ?_
      refine r_nil ?_
      refine a_ret ?_
      refine ret1 Tryz.results14 (by decide) (by decide) (Weak.of_eq (bool_eq ?_)) rfl Leaves.nil
      simp at ht14; refine (decide_eq_true ?_).symm
      rw [List.take_of_length_le (by omega), List.take_of_length_le (by omega)] at g3; exact g3
theorem eqCnf_c (vars v2 : Int) (L M : List (List Int)) (hL : (L.length : Int) ≤ 9223372036854775807) (hM : (M.length : Int) ≤ 9223372036854775807) (hlen : ∀ i, ((gl L i).length : Int) ≤ 9223372036854775807) : ACall Tryz.prog 13 [.agg [.int .i64 vars, .sl (sls L) L.length], .agg [.int .i64 v2, .sl (sls M) M.length]] [] (.bool (decide (vars = v2) && decide (L = M))) [] := by
  refine ACall.intro Tryz.func13 rfl (N := 16) rfl (by decide) (by simp) ?_
  refine a_seq ?_
  refine a_region ?_
  refine rn (v := .op [.int _ _, .sl _ _]) (q_box (.inl rfl) rfl rfl) ?_
  refine rn (v := .op [.int _ _, .sl _ _]) (q_box (.inl rfl) rfl rfl) ?_
  refine rv (v := .bool _) (v_assign (.inl rfl) nf) ?_
  refine r_nil ?_
  refine a_seq ?_
  refine a_seq ?_
  refine a_region ?_
  refine rv (v := .rp _ _) (v_fieldAddr_rp fo30_0 (.inl rfl)) ?_
  refine rv (v := .int _ _) (v_load_rp1 ta3 (.inl rfl) rfl (fun _ => rfl) rfl) ?_
  refine rv (v := .rp _ _) (v_fieldAddr_rp fo30_0 (.inl rfl)) ?_
  refine rv (v := .int _ _) (v_load_rp1 ta3 (.inl rfl) rfl (fun _ => rfl) rfl) ?_
  refine rv (v := .bool _) (v_neq (.inl rfl) (.inl rfl)) ?_
  refine r_nil ?_
  refine a_cond rfl (fun ht9 => ?_) (fun ht9 => ?_)
  ·
    skip
    refine a_seq ?_
    refine a_region ?_
    refine rv (v := .bool _) (v_assign (.inl rfl) nf) ?_
    refine r_nil ?_
    refine a_ret ?_
    refine ret1 Tryz.results13 (by decide) (by decide) (Weak.of_eq (bool_eq ?_)) rfl Leaves.nil
    simp at ht9; simp [ht9]
  ·
    skip
    refine a_skip ?_
    refine a_seq ?_
    refine a_seq ?_
    refine a_region ?_
    refine rv (v := .rp _ _) (v_fieldAddr_rp fo30_1 (.inl rfl)) ?_
    refine rv (v := .sl _ _) (v_load_rp1 ta22 (.inl rfl) rfl (fun _ => rfl) rfl) ?_
    refine rv (v := .rp _ _) (v_fieldAddr_rp fo30_1 (.inl rfl)) ?_
    refine rv (v := .sl _ _) (v_load_rp1 ta22 (.inl rfl) rfl (fun _ => rfl) rfl) ?_
    refine rn (v := .bool _) (q_call (vs := [.sl _ _, .sl _ _]) (args := [.sl _ _, .sl _ _]) hb14 ⟨.inl rfl, .inl rfl, trivial⟩ rfl (fun hA => eqIntSS_c L M hL hM hlen) rfl rfl) ?_
    refine rv (v := .bool _) (v_not (.inl rfl)) ?_
    refine r_nil ?_
    refine a_cond rfl (fun ht15 => ?_) (fun ht15 => ?_)
    ·
      skip
      refine a_seq ?_
      refine a_region ?_
      refine rv (v := .bool _) (v_assign (.inl rfl) nf) ?_
      refine r_nil ?_
      refine a_ret ?_
      refine ret1 Tryz.results13 (by decide) (by decide) (Weak.of_eq (bool_eq ?_)) rfl Leaves.nil
      simp at ht15; simp [ht15]
    ·
      skip
      refine a_skip ?_
      refine a_seq ?_
      refine a_region ?_
      refine rv (v := .bool _) (v_assign (.inl rfl) nf) ?_
      refine r_nil ?_
      refine a_ret ?_
      refine ret1 Tryz.results13 (by decide) (by decide) (Weak.of_eq (bool_eq ?_)) rfl Leaves.nil
      simp at ht9 ht15; simp [ht9, ht15]
theorem isCnf_c (vars : Int) (L : List (List Int)) (hk : CnfOk vars L) : ACall Tryz.prog 74 [.agg [.int .i64 vars, .sl (sls L) L.length]] [] (.bool (cnfB vars L)) [] := by
  have hk1 := hk.1
  have hk2 := hk.2.1
  have hk3 := hk.2.2.1
  refine ACall.intro Tryz.func74 rfl (N := 27) rfl (by decide) (by simp) ?_
  refine a_seq ?_
  refine a_region ?_
  refine rn (v := .op [.int _ _, .sl _ _]) (q_box (.inl rfl) rfl rfl) ?_
  refine rv (v := .bool _) (v_assign (.inl rfl) nf) ?_
  refine r_nil ?_
  refine a_seq ?_
  refine a_seq ?_
  refine a_region ?_
  refine rv (v := .rp _ _) (v_fieldAddr_rp fo30_1 (.inl rfl)) ?_
  refine rv (v := .sl _ _) (v_load_rp1 ta22 (.inl rfl) rfl (fun _ => rfl) rfl) ?_
  refine rv (v := .int _ _) (v_len_sl sl22 (.inl rfl)) ?_
  refine rv (v := .int _ _) (v_move (.inl rfl) nf) ?_
  refine r_nil ?_
  refine a_block ?_
  refine a_loop (X := Nat) (fun i => look [(1, .op [.int .i64 vars, .sl (sls L) L.length]), (6, .sl (sls L) L.length), (7, .int .i64 (L.length : Int)), (8, .int .i64 ((i : Nat) : Int))]) (fun i => i ≤ L.length ∧ ∀ j, j < i → clB vars (gl L j) = true) (fun i => L.length - i) 0 (ent_look ⟨Weak.of_eq rfl, Weak.of_eq rfl, Weak.of_eq rfl, Weak.of_eq rfl, trivial⟩) ⟨Nat.zero_le _, fun j h => by omega⟩ (fun i hG => ?_)
  obtain ⟨g1, g2⟩ := hG
  have hle := len_tot (L := L) (i := i)
  refine a_seq ?_
  refine a_region ?_
  refine rv (v := .bool _) (v_lss (.inl rfl) (.inl rfl)) ?_
  refine r_nil ?_
  refine a_seq ?_
  refine a_cond rfl (fun ht9 => ?_) (fun ht9 => ?_)
  ·
    skip
    refine a_skip ?_
    refine a_seq ?_
    refine a_block ?_
    refine a_seq ?_
    have hi : i < L.length := (by simp at ht9; omega)
    refine a_region ?_
    refine rv (v := .pp _ _) (v_indexAddr_sl es22 (.inl rfl) (.inl rfl) (fun _ => ⟨by omega, by omega, sls_ne hi⟩)) ?_
    refine rv (v := .sl (icells (gl L i)) (gl L i).length) (v_load_pp ta25 (.inl rfl) (fun _ => by rw [Nat.mul_one]; exact sls_get hi) rfl) ?_
    refine rv (v := .sl _ _) (v_assign (.inl rfl) nf) ?_
    refine r_nil ?_
    refine a_seq ?_
    refine a_region ?_
    refine rv (v := .rp _ _) (v_fieldAddr_rp fo30_0 (.inl rfl)) ?_
    refine rv (v := .int _ _) (v_load_rp1 ta3 (.inl rfl) rfl (fun _ => rfl) rfl) ?_
    refine rv (v := .sl _ _) (v_move (.inl rfl) nf) ?_
    refine rn (v := .bool _) (q_call (vs := [.int _ _, .sl _ _]) (args := [.int .i64 _, .sl _ _]) hb101 ⟨.inl rfl, .inl rfl, trivial⟩ rfl (fun hA => isClause_c vars (gl L i) hk1 (by omega) (fun j => hk.2.2.2 i j)) rfl rfl) ?_
    refine rv (v := .bool _) (v_not (.inl rfl)) ?_
    refine r_nil ?_
    refine a_cond rfl (fun ht16 => ?_) (fun ht16 => ?_)
    ·
      skip
      refine a_seq ?_
      have hno := cnfB_no hi (by simpa using ht16)
      refine a_region ?_
      refine rv (v := .bool _) (v_assign (.inl rfl) nf) ?_
      refine r_nil ?_
      refine a_ret ?_
      refine ret1 Tryz.results74 (by decide) (by decide) (Weak.of_eq (bool_eq ?_)) rfl Leaves.nil
      rw [hno]
    ·
      skip
      refine a_skip ?_
      refine a_region ?_
      refine rv (v := .int _ _) (v_add (.inl rfl) (.inl rfl) (fun _ => by omega)) ?_
      refine rv (v := .int _ _) (v_move (.inl rfl) nf) ?_
      refine r_nil ?_
      refine ⟨i + 1, ent_look ⟨Weak.of_eq rfl, Weak.of_eq rfl, Weak.of_eq rfl, Weak.of_eq (int_eq (by omega)), trivial⟩, ⟨by omega, fun j h1 => by rcases Nat.lt_or_ge j i with h | h; exact g2 j h; (obtain rfl : j = i := by omega); simpa using ht16⟩, by omega⟩
  ·
    skip
    refine a_exit ?_
    refine a_seq ?_
    have hyes := cnfB_yes (vars := vars) (fun j hj => g2 j (by simp at ht9; omega))
    refine a_region ?_
    refine rv (v := .rp _ _) (v_fieldAddr_rp fo30_0 (.inl rfl)) ?_
    refine rv (v := .int _ _) (v_load_rp1 ta3 (.inl rfl) rfl (fun _ => rfl) rfl) ?_
    refine rn (v := .bool _) (q_call (vs := [.int _ _]) (args := [.int .i64 _]) hb102 ⟨.inl rfl, trivial⟩ rfl (fun hA => varsOk_c _) rfl rfl) ?_
    refine rv (v := .bool _) (v_move (.inl rfl) nf) ?_
    refine r_gval (v := .rp _ _) (v_fieldAddr_rp fo30_1 (.inl rfl)) rfl rfl rfl (by decide) (.inl ⟨_, rfl, rfl⟩) rfl (by decide) ?_
    refine r_gval (v := .sl _ _) (v_load_rp1 ta22 (.inr ⟨_, rfl, fun h => h⟩) rfl (fun _ => rfl) rfl) rfl rfl rfl (by decide) (.inl ⟨_, rfl, rfl⟩) rfl (by decide) ?_
    refine r_gval (v := .int _ _) (v_len_sl sl22 (.inr ⟨_, rfl, fun h => h⟩)) rfl rfl rfl (by decide) (.inl ⟨_, rfl, rfl⟩) rfl (by decide) ?_
    refine r_gval (v := .bool _) (v_leq (.inr ⟨_, rfl, fun h => h⟩) (.inl rfl)) rfl rfl rfl (by decide) (.inl ⟨_, rfl, rfl⟩) rfl (by decide) ?_
    refine rv (v := .bool _) (v_pick (.inl rfl) (.inr ⟨_, rfl, fun h h2 => by simp_all⟩) (.inl rfl)) ?_
    refine rv (v := .bool _) (v_assign (.inl rfl) nf) ?_
    refine r_nil ?_
    refine a_ret ?_
    refine ret1 Tryz.results74 (by decide) (by decide) (Weak.of_eq (bool_eq ?_)) rfl Leaves.nil
    rw [hyes]; cases inR vars 0 12 <;> simp <;> omega
theorem l2Good_c (vars : Int) (L : List (List Int)) (hk : CnfOk vars L) : ACall Tryz.prog 90 [.agg [.int .i64 vars, .sl (sls L) L.length]] [] (.bool (cnfB vars L)) [] := by
  have hk1 := hk.1
  have hk2 := hk.2.1
  have hk3 := hk.2.2.1
  refine ACall.intro Tryz.func90 rfl (N := 30) rfl (by decide) (by simp) ?_
  refine a_seq ?_
  refine a_region ?_
  refine rn (v := .op [.int _ _, .sl _ _]) (q_box (.inl rfl) rfl rfl) ?_
  refine rv (v := .bool _) (v_assign (.inl rfl) nf) ?_
  refine r_nil ?_
  refine a_seq ?_
  refine a_seq ?_
  refine a_region ?_
  refine rv (v := .rp _ _) (v_fieldAddr_rp fo30_0 (.inl rfl)) ?_
  refine rv (v := .int _ _) (v_load_rp1 ta3 (.inl rfl) rfl (fun _ => rfl) rfl) ?_
  refine rn (v := .bool _) (q_call (vs := [.int _ _]) (args := [.int .i64 _]) hb99 ⟨.inl rfl, trivial⟩ rfl (fun hA => l2Vars_c _) rfl rfl) ?_
  refine rv (v := .bool _) (v_not (.inl rfl)) ?_
  refine rv (v := .bool _) (v_move (.inl rfl) nf) ?_
  refine r_gval (v := .rp _ _) (v_fieldAddr_rp fo30_1 (.inl rfl)) rfl rfl rfl (by decide) (.inl ⟨_, rfl, rfl⟩) rfl (by decide) ?_
  refine r_gval (v := .sl _ _) (v_load_rp1 ta22 (.inr ⟨_, rfl, fun h => h⟩) rfl (fun _ => rfl) rfl) rfl rfl rfl (by decide) (.inl ⟨_, rfl, rfl⟩) rfl (by decide) ?_
  refine r_gval (v := .int _ _) (v_len_sl sl22 (.inr ⟨_, rfl, fun h => h⟩)) rfl rfl rfl (by decide) (.inl ⟨_, rfl, rfl⟩) rfl (by decide) ?_
  refine r_gval (v := .bool _) (v_gtr (.inr ⟨_, rfl, fun h => h⟩) (.inl rfl)) rfl rfl rfl (by decide) (.inl ⟨_, rfl, rfl⟩) rfl (by decide) ?_
  refine rv (v := .bool _) (v_pick (.inl rfl) (.inl rfl) (.inr ⟨_, rfl, fun h h2 => by simp_all⟩)) ?_
  refine r_nil ?_
  refine a_cond rfl (fun ht13 => ?_) (fun ht13 => ?_)
  ·
    skip
    refine a_seq ?_
    refine a_region ?_
    refine rv (v := .bool _) (v_assign (.inl rfl) nf) ?_
    refine r_nil ?_
    refine a_ret ?_
    refine ret1 Tryz.results90 (by decide) (by decide) (Weak.of_eq (bool_eq ?_)) rfl Leaves.nil
    unfold cnfB; cases h1 : inR vars 0 12 <;> simp [h1] at ht13 ⊢; intro h2; omega
  ·
    skip
    refine a_skip ?_
    refine a_seq ?_
    refine a_seq ?_
    refine a_region ?_
    refine rv (v := .int _ _) (v_assign (.inl rfl) nf) ?_
    refine r_nil ?_
    refine a_block ?_
    refine a_loop (X := Nat) (fun i => look [(1, .op [.int .i64 vars, .sl (sls L) L.length]), (3, .int .i64 ((i : Nat) : Int))]) (fun i => i ≤ L.length ∧ ∀ j, j < i → clB vars (gl L j) = true) (fun i => L.length - i) 0 (ent_look ⟨Weak.of_eq rfl, Weak.of_eq rfl, trivial⟩) ⟨Nat.zero_le _, fun j h => by omega⟩ (fun i hG => ?_)
    obtain ⟨g1, g2⟩ := hG
    have hle := len_tot (L := L) (i := i)
    refine a_seq ?_
    refine a_seq ?_
    refine a_region ?_
    refine rv (v := .int _ _) (v_move (.inl rfl) nf) ?_
    refine rv (v := .rp _ _) (v_fieldAddr_rp fo30_1 (.inl rfl)) ?_
    refine rv (v := .sl _ _) (v_load_rp1 ta22 (.inl rfl) rfl (fun _ => rfl) rfl) ?_
    refine rv (v := .int _ _) (v_len_sl sl22 (.inl rfl)) ?_
    refine rv (v := .bool _) (v_lss (.inl rfl) (.inl rfl)) ?_
    refine r_nil ?_
    refine a_cond rfl (fun ht18 => ?_) (fun ht18 => ?_)
    ·
      skip
      refine a_skip ?_
      refine a_seq ?_
      refine a_block ?_
      refine a_seq ?_
      have hi : i < L.length := (by simp at ht18; omega)
      refine a_region_any mixed (by kernel_rfl) ?_
      refine yv (v := .rp _ _) (v_fieldAddr_rp fo30_0 (.inl rfl)) ?_
      refine yv (v := .int _ _) (v_load_rp1 ta3 (.inl rfl) rfl (fun _ => rfl) rfl) ?_
      refine yv (v := .rp _ _) (v_fieldAddr_rp fo30_1 (.inl rfl)) ?_
      refine yv (v := .sl _ _) (v_load_rp1 ta22 (.inl rfl) rfl (fun _ => rfl) rfl) ?_
      refine yv (v := .int _ _) (v_move (.inl rfl) nf) ?_
      refine yv (v := .pp _ _) (v_indexAddr_sl es22 (.inl rfl) (.inl rfl) (fun _ => ⟨by omega, by omega, sls_ne hi⟩)) ?_
      refine yv (v := .sl (icells (gl L i)) (gl L i).length) (v_load_pp ta25 (.inl rfl) (fun _ => by rw [Nat.mul_one]; exact sls_get hi) rfl) ?_
      refine y_new (v := .bool _) (q_call (vs := [.int _ _, .sl _ _]) (args := [.int .i64 _, .sl _ _]) hb73 ⟨.inl rfl, .inl rfl, trivial⟩ rfl (fun hA => l2Clause_c vars (gl L i) hk1 (by omega) (fun j => hk.2.2.2 i j)) rfl rfl) rfl rfl (by decide) (by kernel_rfl) ?_
      refine yv (v := .bool _) (v_not (.inl rfl)) ?_
      refine y_nil ?_
      refine a_cond rfl (fun ht29 => ?_) (fun ht29 => ?_)
      ·
        skip
        refine a_seq ?_
        have hno := cnfB_no hi (by simpa using ht29)
        refine a_region ?_
        refine rv (v := .bool _) (v_assign (.inl rfl) nf) ?_
        refine r_nil ?_
        refine a_ret ?_
        refine ret1 Tryz.results90 (by decide) (by decide) (Weak.of_eq (bool_eq ?_)) rfl Leaves.nil
        rw [hno]
      ·
        skip
        refine a_skip ?_
        refine a_region ?_
        refine rv (v := .int _ _) (v_move (.inl rfl) nf) ?_
        refine rv (v := .int _ _) (v_add (.inl rfl) (.inl rfl) (fun _ => by omega)) ?_
        refine rv (v := .int _ _) (v_assign (.inl rfl) nf) ?_
        refine r_nil ?_
        refine ⟨i + 1, ent_look ⟨Weak.of_eq rfl, Weak.of_eq (int_eq (by omega)), trivial⟩, ⟨by omega, fun j h1 => by rcases Nat.lt_or_ge j i with h | h; exact g2 j h; (obtain rfl : j = i := by omega); simpa using ht29⟩, by omega⟩
    ·
      skip
      refine a_exit ?_
      refine a_seq ?_
      have hyes := cnfB_yes (vars := vars) (fun j hj => g2 j (by simp at ht18; omega))
      refine a_region ?_
      refine rv (v := .bool _) (v_assign (.inl rfl) nf) ?_
      refine r_nil ?_
      refine a_ret ?_
      refine ret1 Tryz.results90 (by decide) (by decide) (Weak.of_eq (bool_eq ?_)) rfl Leaves.nil
      rw [hyes]; cases h1 : inR vars 0 12 <;> simp [h1] at ht13 ⊢; omega
end Go.Av
namespace Go.Av
open Go
section
variable {P : Program} {e : Ctx} {σ τ : Sig} {val : Nat → Value} {w : World} {β : Place → Option (Nat × Nat)} {F : Nat → Prop}
theorem callIO_coreA {f : FuncId} {args vs' : List AV} {res x0 x1 : AV} {q : Place} {vs : List Value} {d : Nat} (hc : ACall P f args [x0] res [x1]) (hn : noSh res = true) (hr : noRef res = true) (hn1 : noSh x1 = true) (hr1 : noRef x1 = true)
    (h : Inv e σ val w β F) (hz : node (σ q.1) q.2 = some x0) (hr0 : refs x0 = []) (hfr : ∀ b arr t fz, (∃ r y s, node x0 r = some y ∧ y.isOwn = true ∧ β (q.1, q.2 ++ r) = some (b, s)) → w.heap[b]? = some (.cells arr t fz) → fz = (0, 0))
    (hl : vs.length = args.length) (ha : RepL (passB q β) (lent (hole σ q) β F) w args (0, []) 0 vs) (hai : ∀ c ∈ args, NoOwn c) (hlen : args.length < INH)
    (hds : d ≠ q.1) (hrs : ∀ p ∈ refs (σ q.1), p.1 ≠ q.1 ∧ p.1 ≠ d)
    (hτ : ∀ i, i ≠ q.1 → τ i = purgeV d (σ i) ∨ τ i = .undef)
    (hτr : ∀ i, i ≠ q.1 → ∀ p ∈ refs (τ i), p.1 = q.1 → ¬ q.2 <+: p.2) :
    Calls P f vs.toArray w fun en w' => ∃ v β', en = .returned v ∧ Inv e (upd (upd τ q.1 (setNode (σ q.1) q.2 x1)) d res) (upd val d v) w' β' F := by
  obtain ⟨u, hu, hput⟩ := (h.rep q.1).zoom hz
  simp only [List.nil_append] at hu
  have hh := h.hole hz
  let inh : Nat → Prop := fun b => ∃ r y s, node x0 r = some y ∧ y.isOwn = true ∧ β (q.1, q.2 ++ r) = some (b, s)
  let G : Nat → Prop := lent (hole σ q) β F
  -- what is handed over is owned by nothing else
  have inh_own : ∀ {b}, inh b → ∃ p s, OwnAt σ p ∧ β p = some (b, s) ∧ (p.1 = q.1 ∧ q.2 <+: p.2) := fun {b} ⟨r, y, s, hy, ho, hb⟩ => ⟨(q.1, q.2 ++ r), s, ownAt_sub hz hy ho, hb, rfl, List.prefix_append _ _⟩
  have inh_not : ∀ {b}, inh b → ¬ F b ∧ (e.w0.heap.size ≤ b ∨ e.inh b) ∧ ∀ p s, OwnAt (hole σ q) p → β p ≠ some (b, s) := fun {b} hb => by
    obtain ⟨p, s, hp, hpb, hpq⟩ := inh_own hb
    refine ⟨(h.sep p b s hp hpb).1, (h.sep p b s hp hpb).2, fun p' s' hp' hb' => ?_⟩
    obtain ⟨h1, h2⟩ := ownAt_hole hz hp'
    have := h.disj p p' b s s' hp h1 hpb hb'
    subst this
    exact h2 hpq
  have hinv : Inv ⟨w, inh, G, []⟩ (argSig args [x0]) (fun i => if i = INH then u else vs.getD i undef) w (passB q β) G := by
    have own : ∀ {p}, OwnAt (argSig args [x0]) p → p.1 = INH ∧ ∃ y, node x0 p.2 = some y ∧ y.isOwn = true := by
      rintro ⟨i, r⟩ ⟨y, hy, ho⟩
      dsimp only at hy
      unfold argSig at hy
      split at hy
      · cases hx : args[i]? with
        | none => rw [hx] at hy; exact (undef_node hy ho).elim
        | some c =>
          rw [hx] at hy
          rw [hai c (List.mem_of_getElem? hx) r y hy] at ho; cases ho
      · rename_i hi
        cases hj : i - INH with
        | zero =>
          rw [hj] at hy
          exact ⟨by dsimp only; omega, y, by simpa using hy, ho⟩
        | succ k => rw [hj] at hy; simp at hy; exact (undef_node hy ho).elim
    refine ⟨fun i => ?_, fun p p' b s s' hp hp' hb hb' => ?_, fun p b s hp hb => ?_, fun b hb => ⟨?_, fun _ => hb⟩, fun _ _ _ => rfl, Nat.le_refl _, Tame.refl' w (fun b arr t fz hb hh => hfr b arr t fz hb hh)⟩
    · by_cases hi : i = INH
      · subst hi
        rw [argSig_inh']
        simp only [if_true]
        exact hu.tr _ (fun b hb => ⟨.inl hb, rfl⟩) (fun r y _ _ => ⟨by simp [passB], fun _ _ _ => rfl⟩) (fun p hp => by rw [hr0] at hp; cases hp)
      · simp only [hi, if_false]
        unfold argSig
        split
        · cases hx : args[i]? with
          | none => simp [Rep]
          | some c =>
            obtain ⟨u', hu', hru⟩ := RepL_iff.1 ha i c hx
            rw [List.getD_eq_getElem?_getD, hu']
            exact hru.tr _ (fun b hb => ⟨hb, rfl⟩) (fun r y hy ho => by rw [hai c (List.mem_of_getElem? hx) r y hy] at ho; cases ho) (fun _ _ => rfl)
        · have : ([x0] : List AV)[i - INH]? = none := List.getElem?_eq_none (by simp; omega)
          rw [this]; simp [Rep]
    · obtain ⟨h1, y, hy, ho⟩ := own hp
      obtain ⟨h1', y', hy', ho'⟩ := own hp'
      simp only [passB, h1, h1', if_true] at hb hb'
      have := h.disj _ _ b s s' (ownAt_sub hz hy ho) (ownAt_sub hz hy' ho') hb hb'
      simp only [Prod.mk.injEq, true_and] at this
      exact Prod.ext (h1.trans h1'.symm) (List.append_cancel_left this)
    · obtain ⟨h1, y, hy, ho⟩ := own hp
      simp only [passB, h1, if_true] at hb
      have hi : inh b := ⟨p.2, y, s, hy, ho, hb⟩
      refine ⟨fun hG => ?_, .inr hi⟩
      rcases hG with hF | ⟨p', s', hp', hb'⟩
      · exact (inh_not hi).1 hF
      · exact (inh_not hi).2.2 p' s' hp' hb'
    · rcases hb with hb | ⟨p, s, hp, hb⟩
      · exact (h.fr b hb).1
      · exact hh.own_lt hp hb
  refine (hc _ vs _ w _ _ hl (fun i hi => by
    have : i ≠ INH := by omega
    simp [this]) hinv).mono fun en w' ⟨v, β', F', he, hi⟩ => ⟨v, ?_⟩
  have hkept : ∀ b, b < w.heap.size → ¬ inh b → w'.heap[b]? = w.heap[b]? := fun b hb hnb => hi.kept b hb hnb
  have hgrow : w.heap.size ≤ w'.heap.size := hi.grow
  have oldnot : ∀ {p b s}, OwnAt (hole σ q) p → β p = some (b, s) → ¬ inh b := fun {p b s} hp hb hi => (inh_not hi).2.2 p s hp hb
  have hH : Inv e (hole σ q) val w' β F := hh.ext (fun b hb => hkept b (h.fr b hb).1 (fun hi => (inh_not hi).1 hb)) (fun p b s hp hb => hkept b (hh.own_lt hp hb) (oldnot hp hb))
    (fun b hb hni => hkept b (Nat.lt_of_lt_of_le hb h.grow) (fun hi => by
      rcases (inh_not hi).2.1 with h1 | h1
      · omega
      · exact hni h1)) hgrow (h.tame.trans' hi.tame hkept)
  have hres : argSig [res] [x1] 0 = res := argSig_zero _ _
  have hobj : argSig [res] [x1] INH = x1 := argSig_inh _ _
  have newb : ∀ {p b s}, OwnAt (argSig [res] [x1]) p → β' p = some (b, s) → ¬ F b ∧ (e.w0.heap.size ≤ b ∨ e.inh b) ∧ ∀ p' s', OwnAt (hole σ q) p' → β p' ≠ some (b, s') := fun {p b s} hp hb => by
    rcases (hi.sep p b s hp hb).2 with hge | hin
    · have hge : w.heap.size ≤ b := hge
      exact ⟨fun hF => by have := (h.fr b hF).1; omega, .inl (Nat.le_trans h.grow hge), fun p' s' hp' hb' => by have := hh.own_lt hp' hb'; omega⟩
    · exact inh_not hin
  have d0 : Det e (hole σ q) w' β F res v (fun r => β' (0, r)) := by
    refine ⟨?_, refs_of_noRef res hr, fun r r' y y' b s s' hy ho hy' ho' hb hb' => ?_, fun r y b s hy ho hb => newb (p := (0, r)) ⟨y, by rw [hres]; exact hy, ho⟩ hb⟩
    · have := hi.rep 0
      rw [hres, upd_same] at this
      exact (this.noSh (G := F) res hn).tr _ (fun b hb => ⟨hb, rfl⟩) (fun r y _ _ => ⟨by simp, fun _ _ _ => rfl⟩) (fun p hp => by rw [refs_of_noRef res hr] at hp; cases hp)
    · have := hi.disj (0, r) (0, r') b s s' ⟨y, by rw [hres]; exact hy, ho⟩ ⟨y', by rw [hres]; exact hy', ho'⟩ hb hb'
      simpa using this
  have I1 := hH.attach d d0
  have hINH0 : (INH : Nat) ≠ 0 := by decide
  have repX := hi.rep INH
  rw [hobj, upd_other _ _ hINH0] at repX
  simp only [if_true] at repX
  have d1 : Det e (upd (fun i => purgeV d (hole σ q i)) d res) w' (fun p => if p.1 = d then β' (0, p.2) else β p) F x1 u (fun r => β' (INH, r)) := by
    refine ⟨?_, refs_of_noRef x1 hr1, fun r r' y y' b s s' hy ho hy' ho' hb hb' => ?_, fun r y b s hy ho hb => ⟨(newb (p := (INH, r)) ⟨y, by rw [hobj]; exact hy, ho⟩ hb).1, (newb (p := (INH, r)) ⟨y, by rw [hobj]; exact hy, ho⟩ hb).2.1, fun p s' hp hb' => ?_⟩⟩
    · exact (repX.noSh (G := F) x1 hn1).tr _ (fun b hb => ⟨hb, rfl⟩) (fun r y _ _ => ⟨by simp, fun _ _ _ => rfl⟩) (fun p hp => by rw [refs_of_noRef x1 hr1] at hp; cases hp)
    · have := hi.disj (INH, r) (INH, r') b s s' ⟨y, by rw [hobj]; exact hy, ho⟩ ⟨y', by rw [hobj]; exact hy', ho'⟩ hb hb'
      simpa using this
    · by_cases hpd : p.1 = d
      · obtain ⟨y', hy', ho'⟩ := hp
        rw [hpd, upd_same] at hy'
        simp only [hpd, if_true] at hb'
        have := hi.disj (INH, r) (0, p.2) b s s' ⟨y, by rw [hobj]; exact hy, ho⟩ ⟨y', by rw [hres]; exact hy', ho'⟩ hb hb'
        simp [hINH0] at this
      · simp only [hpd, if_false] at hb'
        have hp' := (own_upd_other hpd).1 hp
        have : OwnAt (hole σ q) p := by
          obtain ⟨z, hz', hoz⟩ := hp'
          dsimp only at hz'
          rcases purgeV_or d (hole σ q p.1) with hp | hp
          · rw [hp] at hz'; exact ⟨z, hz', hoz⟩
          · rw [hp] at hz'; exact (undef_node hz' hoz).elim
        exact (newb (p := (INH, r)) ⟨y, by rw [hobj]; exact hy, ho⟩ hb).2.2 p s' this hb'
  have hs1 : upd (fun i => purgeV d (hole σ q i)) d res q.1 = setNode (σ q.1) q.2 .undef := by
    rw [upd_other _ _ (Ne.symm hds)]
    have : hole σ q q.1 = setNode (σ q.1) q.2 .undef := by simp [hole, upd]
    rw [this]
    exact purge_id fun p hp => (hrs p (refs_setNode (by simp [refs]) hz p hp)).2
  have hval : upd val d v q.1 = val q.1 := upd_other _ _ (Ne.symm hds)
  have hnz : node (upd (fun i => purgeV d (hole σ q i)) d res q.1) q.2 = some .undef := by rw [hs1]; exact node_set_self hz
  have fin := I1.put (τ := fun i => if i = d then res else τ i) hnz d1 (by
    rw [hs1, setNode_setNode hz, hval]
    refine hput hr1 ?_ (fun b hb => hkept b (h.fr b hb).1 (fun hi => (inh_not hi).1 hb)) (fun r' y' hy' ho hp => ?_) (fun p hp => ?_)
    · simp only [List.nil_append]
      exact (repX.noSh (G := F) x1 hn1).tr _ (fun b hb => ⟨hb, rfl⟩) (fun r y _ _ => ⟨by
        have := glueAt_in (β := fun p => if p.1 = d then β' (0, p.2) else β p) (t := q.1) (r := q.2) (s := r) (δ := fun r => β' (INH, r))
        simpa using this, fun _ _ _ => rfl⟩) (fun p hp => by rw [refs_of_noRef x1 hr1] at hp; cases hp)
    · simp only [List.nil_append]
      have hne : ¬ (q.2 <+: r') := hp
      refine ⟨by rw [glueAt_out (fun hh => hne hh.2)]; simp [Ne.symm hds], fun b s hb => hkept b (h.own_lt (q := (q.1, r')) ⟨y', hy', ho⟩ hb) (fun hin => ?_)⟩
      obtain ⟨p, s', hp', hpb, hpq⟩ := inh_own hin
      have := h.disj p (q.1, r') b s' s hp' ⟨y', hy', ho⟩ hpb hb
      subst this
      exact hne hpq.2
    · rw [glueAt_out (fun hh => (hrs p hp).1 hh.1)]
      simp [(hrs p hp).2]) (fun i hiq => by
    by_cases hid : i = d
    · subst hid; left; simp [upd_same]
    · simp only [hid, if_false]
      rw [upd_other _ _ hid]
      have : hole σ q i = σ i := by simp [hole, upd, hiq]
      rw [this]
      exact hτ i hiq) (fun i hiq p hp => by
    by_cases hid : i = d
    · subst hid
      simp only [if_true] at hp
      rw [refs_of_noRef res hr] at hp; cases hp
    · simp only [hid, if_false] at hp
      by_cases hpq : p.1 = q.1
      · exact glueAt_out (fun hh => hτr i hiq p hp hpq hh.2)
      · exact glueAt_out (fun hh => hpq hh.1))
  rw [hs1, setNode_setNode hz] at fin
  have e1 : upd (fun i => if i = d then res else τ i) q.1 (setNode (σ q.1) q.2 x1) = upd (upd τ q.1 (setNode (σ q.1) q.2 x1)) d res := by
    funext i
    by_cases h1 : i = q.1
    · subst h1; rw [upd_same, upd_other _ _ (Ne.symm hds), upd_same]
    · by_cases h2 : i = d
      · subst h2; rw [upd_other _ _ h1, upd_same]; simp
      · rw [upd_other _ _ h1, upd_other _ _ h2, upd_other _ _ h1]; simp [h2]
  rw [e1] at fin
  exact ⟨_, he, fin⟩
end
def purgeA (q : Place) : AV → AV
  | .rsl p sz off n cap => if p.1 == q.1 && q.2.isPrefixOf p.2 then .undef else .rsl p sz off n cap
  | .rp p off => if p.1 == q.1 && q.2.isPrefixOf p.2 then .undef else .rp p off
  | .agg cs => if (refsL cs).any (fun p => p.1 == q.1 && q.2.isPrefixOf p.2) then .undef else .agg cs
  | .tup cs => if (refsL cs).any (fun p => p.1 == q.1 && q.2.isPrefixOf p.2) then .undef else .tup cs
  | .fn f us cs => if (refsL us ++ refsL cs).any (fun p => p.1 == q.1 && q.2.isPrefixOf p.2) then .undef else .fn f us cs
  | .when b x => if (refs x).any (fun p => p.1 == q.1 && q.2.isPrefixOf p.2) then .undef else .when b x
  | x => x
theorem purgeA_eq (q : Place) (x : AV) : purgeA q x = if (refs x).any (fun p => p.1 == q.1 && q.2.isPrefixOf p.2) then .undef else x := by
  cases x <;> first | rfl | simp [purgeA, refs]
theorem purgeA_or (q : Place) (x : AV) : purgeA q x = x ∨ purgeA q x = .undef := by
  rw [purgeA_eq]; split
  · exact .inr rfl
  · exact .inl rfl
theorem purgeA_refs {q : Place} {x : AV} {p : Place} (hp : p ∈ refs (purgeA q x)) (h : p.1 = q.1) : ¬ q.2 <+: p.2 := by
  rw [purgeA_eq] at hp
  split at hp
  · simp [refs] at hp
  · rename_i hany
    intro hpre
    refine hany (List.any_eq_true.2 ⟨p, hp, ?_⟩)
    simp [h, hpre]
theorem underP_self (q : Place) : underP q q = some [] := by
  unfold underP
  rw [if_pos (by simp)]
  simp
section
variable {P : Program} {N : Nat} {σ τ : Sig} {o : Oper} {d : Nat}
theorem step_IOA {f : FuncId} {args vs : List AV} {res x0 x1 : AV} {q : Place} {us : Act → List Value} (hc : ACall P f args [x0] res [x1]) (hd : o.dst = some d) (hN : d < N)
    (hrun : ∀ a w gv e β F, All N gv e σ a w → Inv e σ (valOf N gv a) w β F → (execOp a.eval o).run P w = .ok (.enter f (us a).toArray) w ∧ RepL β F w vs (0, []) 0 (us a) ∧ (us a).length = vs.length ∧ ∀ c ∈ vs, NoOwn c)
    (hz : node (σ q.1) q.2 = some x0) (hs : passL q (hole σ q) vs = args) (hr0 : refs x0 = []) (hn : noSh res = true) (hr : noRef res = true) (hn1 : noSh x1 = true) (hr1 : noRef x1 = true)
    (hlen : args.length < INH) (hds : d ≠ q.1) (hrs : (refs (σ q.1)).all (fun p => p.1 != q.1 && p.1 != d) = true)
    (hτ : ∀ i, i ≠ q.1 → τ i = purgeV d (σ i) ∨ τ i = .undef)
    (hτr : ∀ i, i ≠ q.1 → ∀ p ∈ refs (τ i), p.1 = q.1 → ¬ q.2 <+: p.2) :
    OStep P N o σ (upd (upd τ q.1 (setNode (σ q.1) q.2 x1)) d res) := by
  intro gv e a w ha K Q hK
  have ha0 := ha
  obtain ⟨hdf, hsz, β, F, hi⟩ := ha
  obtain ⟨h1, h2, h3, hno⟩ := hrun a w gv e β F ha0 hi
  have hh := hi.hole hz
  have hpass := hh.passL q vs (p' := (0, [])) h2 (fun i c hc => hno c (List.mem_of_getElem? hc))
  rw [hs] at hpass
  have hl : (us a).length = args.length := by rw [h3, ← hs, passL_eq]; simp
  have hrs' : ∀ p ∈ refs (σ q.1), p.1 ≠ q.1 ∧ p.1 ≠ d := fun p hp => by
    have := List.all_eq_true.1 hrs p hp
    simpa using this
  obtain ⟨vz, hvz⟩ := (hi.rep q.1).sub hz
  simp only [List.nil_append] at hvz
  refine upon_enter' h1 ((callIO_coreA hc hn hr hn1 hr1 hi hz hr0 (fun b arr t fz ⟨r, y, s, hy, ho, hb⟩ hh => own_fz hvz hy ho hb hh) hl (hpass) (by rw [← hs]; exact noOwn_passL _ _ _ hno) hlen hds hrs' hτ hτr (vs' := vs)).mono fun en w' ⟨v, β', he, hi'⟩ => ⟨v, he, hK _ _ ⟨?_, ?_, β', F, ?_⟩⟩)
  · rw [hd]; exact hdf
  · rw [hd, size_put]; exact hsz
  · rw [hd, valOf_put hsz hN]; exact hi'
theorem o_callIOa {f : FuncId} {xs : List Operand} {tys : Array TypeId} {vs args : List AV} {res x0 x1 : AV} {q : Place} (ho : o.op = fnCall f xs tys) (hf : hasBody P f = true) (hd : o.dst = some d) (hN : d < N) (hx : RdL N true σ xs vs)
    (hz : node (σ q.1) q.2 = some x0) (hs : passL q (hole σ q) vs = args) (hc : ACall P f args [x0] res [x1])
    (hr0 : refs x0 = []) (hn : noSh res = true) (hr : noRef res = true) (hn1 : noSh x1 = true) (hr1 : noRef x1 = true) (hlen : args.length < INH) (hds : d ≠ q.1) (hrs : (refs (σ q.1)).all (fun p => p.1 != q.1 && p.1 != d) = true) :
    OStep P N o σ (upd (upd (fun i => purgeA q (purgeV d (σ i))) q.1 (setNode (σ q.1) q.2 x1)) d res) :=
  step_IOA (us := fun a => xs.map a.eval) hc hd hN (fun a w gv e β F _ hi => run_fnCall ho hf hx hi) hz hs hr0 hn hr hn1 hr1 hlen hds hrs
    (fun i _ => by
      rcases purgeA_or q (purgeV d (σ i)) with h | h
      · exact .inl h
      · exact .inr h) (fun i _ p hp hpq => purgeA_refs hp hpq)
end
end Go.Av
namespace Go.Av
open Go Go.Proofs Go.Sort
set_option maxRecDepth 10000
theorem hb16 : hasBody Tryz.prog 16 = true := by kernel_rfl
theorem hb17 : hasBody Tryz.prog 17 = true := by kernel_rfl
theorem markIntSS_c (L : List (List Int)) (k : Int) (h : -1000000000 ≤ k ∧ k ≤ 1000000000) (hL : L.length ≤ 1048576) (ht : tot L L.length ≤ 1048576) : ACall Tryz.prog 16 [.rsl (INH, []) 1 0 L.length none, .int .i64 k] [.osl 1 (osls L) L.length none] (.int .i64 (k + (tot L L.length : Nat))) [.osl 1 (osls (mkSS k L)) L.length none] := by
 refine ACall.intro Tryz.func16 rfl (N := 19) rfl (by decide) (by simp) ?_
 refine a_seq ?_
 refine a_region ?_
 refine rv (v := .int _ _) (v_assign (.inl rfl) nf) ?_
 refine r_nil ?_
 refine a_seq ?_
 refine a_seq ?_
 refine a_region ?_
 refine rv (v := .int _ _) (v_assign (.inl rfl) nf) ?_
 refine r_nil ?_
 refine a_block ?_
 refine a_loop (X := Nat) (fun i => look [(0, .rsl (INH, []) 1 0 L.length none), (1, .int .i64 (k + (tot L i : Nat))), (5, .int .i64 ((i : Nat) : Int)), (INH, .osl 1 (osls (mkSSP k L i)) L.length none)]) (fun i => i ≤ L.length) (fun i => L.length - i) 0 (ent_look ⟨Weak.of_eq rfl, Weak.of_eq (int_eq (by simp [tot_zero])), Weak.of_eq rfl, Weak.of_eq (osl_eq (by rw [mkSSP_zero])), trivial⟩) (Nat.zero_le _) (fun i hG => ?_)
 have htl := tot_le L i
 have htl1 := tot_le L (i + 1)
 have hle := len_tot (L := L) (i := i)
 refine a_seq ?_
 refine a_seq ?_
 refine a_region ?_
 refine rv (v := .int _ _) (v_move (.inl rfl) nf) ?_
 refine rv (v := .rsl _ _ _ _ _) (v_move (.inl rfl) nf) ?_
 refine rv (v := .int _ _) (v_len_rsl sl22 (.inl rfl)) ?_
 refine rv (v := .bool _) (v_lss (.inl rfl) (.inl rfl)) ?_
 refine r_nil ?_
 refine a_cond rfl (fun ht9 => ?_) (fun ht9 => ?_)
 ·
  skip
  refine a_skip ?_
  refine a_seq ?_
  refine a_block ?_
  have hi : i < L.length := (by simp at ht9; omega)
  have hil : i < (mkSSP k L i).length := (by rw [mkSSP_length (by omega)]; omega)
  have hz : (osls (mkSSP k L i))[i]? = some (.osl 1 (icells (gl L i)) (gl L i).length none) := (by rw [osls_get hil, mkSSP_get hi])
  have hset : (osls (mkSSP k L i)).set i (.osl 1 (icells (mkI (k + (tot L i : Nat)) (gl L i).length)) (gl L i).length none) = osls (mkSSP k L (i + 1)) := (by rw [← mkSSP_set hi, ← osls_set, mkI_len])
  refine a_region ?_
  refine rv (v := .rsl _ _ _ _ _) (v_move (.inl rfl) nf) ?_
  refine rv (v := .int _ _) (v_move (.inl rfl) nf) ?_
  refine rv (v := .rp _ _) (v_indexAddr_rsl0 es22 (.inl rfl) (.inl rfl) (fun _ => by omega)) ?_
  refine rv (v := .rsl (INH, [i]) 1 0 (gl L i).length none) ((v_load_rp (c := .osl 1 (icells (gl L i)) (gl L i).length none) ta25 (.inl rfl) rfl (fun _ => by rw [Nat.mul_one]; exact hz)).cast (by show AV.rsl (INH, [] ++ [(i : Int).toNat * 1]) 1 0 (gl L i).length none = _; rw [Nat.mul_one]; rfl)) ?_
  refine rv (v := .int _ _) (v_move (.inl rfl) nf) ?_
  refine r_step rfl (o_callIOa (q := (INH, [i])) (vs := [.rsl _ _ _ _ _, .int _ _]) (args := [.rsl (INH, []) 1 0 (gl L i).length none, .int .i64 _]) (x0 := .osl 1 (icells (gl L i)) (gl L i).length none) (x1 := .osl 1 (icells (mkI (k + (tot L i : Nat)) (gl L i).length)) (gl L i).length none) (res := .int _ _) rfl hb17 rfl (by decide) ⟨.inl rfl, .inl rfl, trivial⟩ (by show (match (osls (mkSSP k L i))[i]? with | some y => node y [] | none => none) = _; rw [hz]; rfl) (by simp only [passL, passV, underP_self, snapV]) (markIntS_c (gl L i) _ (by omega)) rfl rfl rfl (ic_noSh _) (ic_noRef _) (Nat.le_of_ble_eq_true rfl) (by show 17 ≠ INH; decide) rfl) ?_
  refine r_pre (ent_eq (t := INH) (v' := .osl 1 (osls (mkSSP k L (i + 1))) L.length none) (Weak.of_eq (by show setNode (AV.osl 1 (osls (mkSSP k L i)) L.length none) [i] _ = _; simp only [setNode, kids, hz, setKids]; rw [hset]))) ?_
  refine rv (v := .int _ _) (v_assign (.inl rfl) nf) ?_
  refine r_nil ?_
  refine a_region ?_
  refine rv (v := .int _ _) (v_move (.inl rfl) nf) ?_
  refine rv (v := .int _ _) (v_add (.inl rfl) (.inl rfl) (fun _ => by omega)) ?_
  refine rv (v := .int _ _) (v_assign (.inl rfl) nf) ?_
  refine r_nil ?_
  refine ⟨i + 1, ent_look ⟨Weak.of_eq rfl, Weak.of_eq (int_eq (by rw [tot_more hi]; omega)), Weak.of_eq (int_eq (by omega)), Weak.of_eq rfl, trivial⟩, by omega, by omega⟩
 ·
  skip
  refine a_exit ?_
  refine a_seq ?_
  refine a_region ?_
  refine rv (v := .int _ _) (v_move (.inl rfl) nf) ?_
  refine rv (v := .int _ _) (v_assign (.inl rfl) nf) ?_
  refine r_nil ?_
  refine a_ret ?_
  refine ret1 Tryz.results16 (by decide) (by decide) (Weak.of_eq (int_eq ?_)) rfl (Leaves.one (Weak.of_eq (osl_eq (by simp at ht9; rw [mkSSP_full (by omega)]))) rfl)
  simp at ht9; rw [show i = L.length by omega]
theorem markIntSS0_c (k : Int) : ACall Tryz.prog 16 [.sl [] 0, .int .i64 k] [] (.int .i64 k) [] := by
 refine ACall.intro Tryz.func16 rfl (N := 19) rfl (by decide) (by simp) ?_
 refine a_seq ?_
 refine a_region ?_
 refine rv (v := .int _ _) (v_assign (.inl rfl) nf) ?_
 refine r_nil ?_
 refine a_seq ?_
 refine a_seq ?_
 refine a_region ?_
 refine rv (v := .int _ _) (v_assign (.inl rfl) nf) ?_
 refine r_nil ?_
 refine a_block ?_
 refine a_loop (X := Unit) (fun _u => look [(0, .sl [] 0), (1, .int .i64 k), (5, .int .i64 0)]) (fun _u => True) (fun _u => 0) () (ent_look ⟨Weak.of_eq rfl, Weak.of_eq rfl, Weak.of_eq rfl, trivial⟩) trivial (fun _u hG => ?_)
 refine a_seq ?_
 refine a_seq ?_
 refine a_region ?_
 refine rv (v := .int _ _) (v_move (.inl rfl) nf) ?_
 refine rv (v := .sl _ _) (v_move (.inl rfl) nf) ?_
 refine rv (v := .int _ _) (v_len_sl sl22 (.inl rfl)) ?_
 refine rv (v := .bool _) (v_lss (.inl rfl) (.inl rfl)) ?_
 refine r_nil ?_
 refine a_cond rfl (fun ht9 => ?_) (fun ht9 => ?_)
 ·
  skip
  refine a_skip ?_
  refine a_seq ?_
  refine a_block ?_
  exfalso
  simp at ht9
 ·
  skip
  refine a_exit ?_
  refine a_seq ?_
  refine a_region ?_
  refine rv (v := .int _ _) (v_move (.inl rfl) nf) ?_
  refine rv (v := .int _ _) (v_assign (.inl rfl) nf) ?_
  refine r_nil ?_
  refine a_ret ?_
  refine ret1 Tryz.results16 (by decide) (by decide) (Weak.of_eq (int_eq ?_)) rfl Leaves.nil
  rfl
theorem markCnf0_c (vars k : Int) : ACall Tryz.prog 15 [.agg [.int .i64 vars, .rsl (INH, []) 1 0 0 none], .int .i64 k] [.osl 1 [] 0 none] (.int .i64 k) [.osl 1 [] 0 none] := by
 refine ACall.intro Tryz.func15 rfl (N := 10) rfl (by decide) (by simp) ?_
 refine a_seq ?_
 refine a_pre (ent_eq (t := 0) (v' := .agg [.int .i64 vars, .sl [] 0]) (Weak.agg ⟨Weak.rfl, Weak.rsl_emp, trivial⟩)) ?_
 refine a_region ?_
 refine rn (v := .op [.int _ _, .sl _ _]) (q_box (.inl rfl) rfl rfl) ?_
 refine rv (v := .int _ _) (v_assign (.inl rfl) nf) ?_
 refine r_nil ?_
 refine a_seq ?_
 refine a_region ?_
 refine rv (v := .rp _ _) (v_fieldAddr_rp fo30_1 (.inl rfl)) ?_
 refine rv (v := .sl _ _) (v_load_rp1 ta22 (.inl rfl) rfl (fun _ => rfl) rfl) ?_
 refine rv (v := .int _ _) (v_move (.inl rfl) nf) ?_
 refine rn (v := .int _ _) (q_call (vs := [.sl _ _, .int _ _]) (args := [.sl [] 0, .int .i64 _]) hb16 ⟨.inl rfl, .inl rfl, trivial⟩ rfl (fun hA => markIntSS0_c _) rfl rfl) ?_
 refine rv (v := .int _ _) (v_assign (.inl rfl) nf) ?_
 refine r_nil ?_
 refine a_seq ?_
 refine a_region ?_
 refine rv (v := .int _ _) (v_move (.inl rfl) nf) ?_
 refine rv (v := .int _ _) (v_assign (.inl rfl) nf) ?_
 refine r_nil ?_
 refine a_ret ?_
 refine ret1 Tryz.results15 (by decide) (by decide) (Weak.of_eq (int_eq ?_)) rfl (Leaves.one (Weak.of_eq rfl) rfl)
 rfl
theorem markCnf1_c (vars : Int) (L : List (List Int)) (k : Int) (h : -1000000000 ≤ k ∧ k ≤ 1000000000) (hL : L.length ≤ 1048576) (ht : tot L L.length ≤ 1048576) (hn : 0 < L.length) : ACall Tryz.prog 15 [.agg [.int .i64 vars, .rsl (INH, []) 1 0 L.length none], .int .i64 k] [.osl 1 (osls L) L.length none] (.int .i64 (k + (tot L L.length : Nat))) [.osl 1 (osls (mkSS k L)) L.length none] := by
 refine ACall.intro Tryz.func15 rfl (N := 10) rfl (by decide) (by simp) ?_
 refine a_seq ?_
 refine a_region ?_
 refine r_step rfl (o_box_ref (fs := [.int _ _]) (bs := []) rfl rfl (by decide) (by decide) (by decide) rfl rfl rfl rfl) ?_
 refine rv (v := .int _ _) (v_assign (.inl rfl) nf) ?_
 refine r_nil ?_
 refine a_seq ?_
 refine a_region ?_
 refine rv (v := .rp _ _) (v_fieldAddr_rp fo30_1 (.inl rfl)) ?_
 refine rv (v := .rsl _ _ _ _ _) (v_load_rp (c := .osl _ _ _ _) ta22 (.inl rfl) rfl (fun _ => rfl)) ?_
 refine rv (v := .int _ _) (v_move (.inl rfl) nf) ?_
 refine r_step rfl (o_callIOk (q := (2, [1])) (vs := [.rsl _ _ _ _ _, .int _ _]) (args := [.rsl (INH, []) _ _ _ _, .int .i64 _]) (x0 := .osl _ _ _ _) (x1 := .osl _ _ _ _) (res := .int _ _) rfl hb16 rfl (by decide) ⟨.inl rfl, .inl rfl, trivial⟩ rfl rfl (markIntSS_c L k h hL ht) (by simp [stays]; omega) rfl rfl rfl (osls_noSh _) (osls_noRef _) (Nat.le_of_ble_eq_true rfl) (by decide) rfl) ?_
 refine rv (v := .int _ _) (v_assign (.inl rfl) nf) ?_
 refine r_nil ?_
 refine a_seq ?_
 refine a_region ?_
 refine rv (v := .int _ _) (v_move (.inl rfl) nf) ?_
 refine rv (v := .int _ _) (v_assign (.inl rfl) nf) ?_
 refine r_nil ?_
 refine a_pre (ent_reloc_sl (t := INH) rfl rfl) ?_
 refine a_ret ?_
 refine ret1 Tryz.results15 (by decide) (by decide) (Weak.of_eq (int_eq ?_)) rfl (Leaves.one (Weak.of_eq rfl) rfl)
 rfl
theorem markCnf_c (vars : Int) (L : List (List Int)) (k : Int) (h : -1000000000 ≤ k ∧ k ≤ 1000000000) (hL : L.length ≤ 1048576) (ht : tot L L.length ≤ 1048576) :
  ACall Tryz.prog 15 [.agg [.int .i64 vars, .rsl (INH, []) 1 0 L.length none], .int .i64 k] [.osl 1 (osls L) L.length none] (.int .i64 (k + (tot L L.length : Nat))) [.osl 1 (osls (mkSS k L)) L.length none] := by
 cases L with
 | nil =>
  have := markCnf0_c vars k
  simpa [tot, osls, mkSS] using this
 | cons c L => exact markCnf1_c vars (c :: L) k h hL ht (by simp)
end Go.Av
namespace Go.Av
open Go Go.Proofs Go.Sort
set_option maxRecDepth 10000
end Go.Av
namespace Go.Av
open Go Go.Proofs Go.Sort
set_option maxRecDepth 10000
end Go.Av
namespace Go.Av
open Go Go.Proofs Go.Sort
set_option maxRecDepth 10000
theorem isVar_c (vars v : Int) : ACall Tryz.prog 32 [.int .i64 vars, .int .i64 v] [] (.bool (inR v 1 vars)) [] := by
 refine ACall.intro Tryz.func32 rfl (N := 8) rfl (by decide) (by simp) ?_
 refine a_seq ?_
 refine a_region ?_
 refine rv (v := .bool _) (v_assign (.inl rfl) nf) ?_
 refine r_nil ?_
 refine a_seq ?_
 refine a_region ?_
 refine rv (v := .int _ _) (v_move (.inl rfl) nf) ?_
 refine rv (v := .int _ _) (v_move (.inl rfl) nf) ?_
 refine rn (v := .bool _) (q_call (vs := [.int _ _, .int _ _, .int _ _]) (args := [.int .i64 _, .int .i64 _, .int .i64 _]) hb55 ⟨.inl rfl, .inl rfl, .inl rfl, trivial⟩ rfl (fun hA => within_c v 1 vars) rfl rfl) ?_
 refine rv (v := .bool _) (v_assign (.inl rfl) nf) ?_
 refine r_nil ?_
 refine a_ret ?_
 refine ret1 Tryz.results32 (by decide) (by decide) (Weak.of_eq (bool_eq ?_)) rfl Leaves.nil
 rfl
end Go.Av
namespace Go.Av
open Go Go.Proofs Go.Sort
set_option maxRecDepth 10000
end Go.Av
namespace Go.Av
open Go Go.Proofs Go.Sort
set_option maxRecDepth 10000
end Go.Av
namespace Go.Av
open Go Go.Proofs Go.Sort
set_option maxRecDepth 10000
end Go.Av
namespace Go.Av
open Go Go.Proofs Go.Sort
set_option maxRecDepth 10000
end Go.Av
namespace Go.Av
open Go Go.Proofs Go.Sort
set_option maxRecDepth 10000
end Go.Av
namespace Go.Av
open Go Go.Proofs Go.Sort
set_option maxRecDepth 10000
end Go.Av
namespace Go.Av
open Go Go.Proofs Go.Sort
set_option maxRecDepth 10000
end Go.Av
namespace Go.Av
open Go Go.Proofs Go.Sort
set_option maxRecDepth 10000
end Go.Av
namespace Go.Av
open Go Go.Proofs Go.Sort
set_option maxRecDepth 10000
end Go.Av
namespace Go.Av
open Go Go.Proofs Go.Sort
set_option maxRecDepth 10000
end Go.Av
namespace Go.Av
open Go Go.Proofs Go.Sort
set_option maxRecDepth 10000
end Go.Av
namespace Go.Av
open Go Go.Proofs Go.Sort
set_option maxRecDepth 10000
end Go.Av
namespace Go.Av
open Go Go.Proofs Go.Sort
set_option maxRecDepth 10000
end Go.Av
namespace Go.Av
open Go Go.Proofs Go.Sort
set_option maxRecDepth 10000
end Go.Av
namespace Go.Av
open Go Go.Proofs Go.Sort
set_option maxRecDepth 10000
end Go.Av
namespace Go.Av
open Go Go.Proofs Go.Sort
set_option maxRecDepth 10000
end Go.Av
namespace Go.Av
open Go Go.Proofs Go.Sort
set_option maxRecDepth 10000
end Go.Av
namespace Go.Av
open Go Go.Proofs Go.Sort
set_option maxRecDepth 10000
end Go.Av
namespace Go.Av
open Go Go.Proofs Go.Sort
set_option maxRecDepth 10000
end Go.Av
namespace Go.Av
open Go Go.Proofs Go.Sort
set_option maxRecDepth 10000
end Go.Av
namespace Go.Av
open Go Go.Proofs Go.Sort
set_option maxRecDepth 10000
end Go.Av
namespace Go.Av
open Go Go.Proofs Go.Sort
set_option maxRecDepth 10000
end Go.Av
namespace Go.Av
open Go Go.Proofs Go.Sort
set_option maxRecDepth 10000
end Go.Av
namespace Go.Av
open Go Go.Proofs Go.Sort
set_option maxRecDepth 10000
end Go.Av
namespace Go.Av
open Go Go.Proofs Go.Sort
set_option maxRecDepth 10000
end Go.Av
namespace Go.Av
open Go Go.Proofs Go.Sort
set_option maxRecDepth 10000
end Go.Av
namespace Go.Av
open Go Go.Proofs Go.Sort
set_option maxRecDepth 10000
end Go.Av
namespace Go.Av
open Go Go.Proofs Go.Sort
set_option maxRecDepth 10000
end Go.Av
namespace Go.Av
open Go Go.Proofs Go.Sort
set_option maxRecDepth 10000
end Go.Av
namespace Go.Av
open Go Go.Proofs Go.Sort
set_option maxRecDepth 10000
end Go.Av
namespace Go.Av
open Go Go.Proofs Go.Sort
set_option maxRecDepth 10000
def mkC (k : Int) (cs : List AV) (m : Nat) : List AV := (List.range m).map (fun (i : Nat) => AV.int .i64 (k + (i : Int))) ++ cs.drop m
theorem mkC_zero (k : Int) (cs : List AV) : mkC k cs 0 = cs := by simp [mkC]
theorem mkC_length {k : Int} {cs : List AV} {m : Nat} (h : m ≤ cs.length) : (mkC k cs m).length = cs.length := by simp [mkC]; omega
theorem mkC_set {k : Int} {cs : List AV} {m : Nat} (h : m < cs.length) : (mkC k cs m).set m (.int .i64 (k + (m : Int))) = mkC k cs (m + 1) := by
 unfold mkC
 rw [List.set_append_right _ _ (by simp), List.length_map, List.length_range, Nat.sub_self, List.drop_eq_getElem_cons h, List.set_cons_zero, List.range_succ, List.map_append, List.append_assoc]
 rfl
end Go.Av
namespace Go.Av
open Go Go.Proofs Go.Sort
set_option maxRecDepth 10000
end Go.Av
namespace Go.Av
open Go Go.Proofs Go.Sort
set_option maxRecDepth 10000
theorem hb117 : hasBody Tryz.prog 117 = true := by kernel_rfl
theorem hb124 : hasBody Tryz.prog 124 = true := by kernel_rfl
theorem hb130 : hasBody Tryz.prog 130 = true := by kernel_rfl
theorem isNaNi_c (a : Int) : ACall Tryz.prog 120 [.int .i64 a] [] (.bool false) [] := by
 refine ACall.intro Tryz.func120 rfl (N := 6) rfl (by decide) (by simp) ?_
 refine a_seq ?_
 refine a_region ?_
 refine rv (v := .bool _) (v_assign (.inl rfl) nf) ?_
 refine r_nil ?_
 refine a_seq ?_
 refine a_region ?_
 refine rv (v := .int _ _) (v_move (.inl rfl) nf) ?_
 refine rv (v := .int _ _) (v_move (.inl rfl) nf) ?_
 refine rv (v := .bool _) (v_neq (.inl rfl) (.inl rfl)) ?_
 refine rv (v := .bool _) (v_assign (.inl rfl) nf) ?_
 refine r_nil ?_
 refine a_ret ?_
 refine ret1 Tryz.results120 (by decide) (by decide) (Weak.of_eq (bool_eq ?_)) rfl Leaves.nil
 simp
theorem lessi_c (a b : Int) : ACall Tryz.prog 130 [.int .i64 a, .int .i64 b] [] (.bool (decide (a < b))) [] := by
 refine ACall.intro Tryz.func130 rfl (N := 17) rfl (by decide) (by simp) ?_
 refine a_seq ?_
 refine a_region ?_
 refine rv (v := .bool _) (v_assign (.inl rfl) nf) ?_
 refine r_nil ?_
 refine a_seq ?_
 refine a_region ?_
 refine rv (v := .int _ _) (v_move (.inl rfl) nf) ?_
 refine rn (v := .bool _) (q_call (vs := [.int _ _]) (args := [.int .i64 _]) hb120 ⟨.inl rfl, trivial⟩ rfl (fun hA => isNaNi_c _) rfl rfl) ?_
 refine rv (v := .bool _) (v_move (.inl rfl) nf) ?_
 refine r_gval (v := .int _ _) (v_move (.inl rfl) nf) rfl rfl rfl (by decide) (.inl ⟨_, rfl, rfl⟩) rfl (by decide) ?_
 refine r_guard (v := .bool _) (q_call (vs := [.int _ _]) (args := [.int .i64 _]) hb120 ⟨.inr ⟨_, rfl, fun h => h⟩, trivial⟩ rfl (fun hA => isNaNi_c _) rfl rfl) rfl rfl rfl (by decide) (.inl ⟨_, rfl, rfl⟩) rfl (by decide) ?_
 refine r_gval (v := .bool _) (v_not (.inr ⟨_, rfl, fun h => h⟩)) rfl rfl rfl (by decide) (.inl ⟨_, rfl, rfl⟩) rfl (by decide) ?_
 refine rv (v := .bool _) (v_pick (.inl rfl) (.inr ⟨_, rfl, fun h h2 => by simp_all⟩) (.inl rfl)) ?_
 refine rv (v := .bool _) (v_move (.inl rfl) nf) ?_
 refine r_gval (v := .int _ _) (v_move (.inl rfl) nf) rfl rfl rfl (by decide) (.inl ⟨_, rfl, rfl⟩) rfl (by decide) ?_
 refine r_gval (v := .int _ _) (v_move (.inl rfl) nf) rfl rfl rfl (by decide) (.inl ⟨_, rfl, rfl⟩) rfl (by decide) ?_
 refine r_gval (v := .bool _) (v_lss (.inr ⟨_, rfl, fun h => h⟩) (.inr ⟨_, rfl, fun h => h⟩)) rfl rfl rfl (by decide) (.inl ⟨_, rfl, rfl⟩) rfl (by decide) ?_
 refine rv (v := .bool _) (v_pick (.inl rfl) (.inl rfl) (.inr ⟨_, rfl, fun h h2 => by simp_all⟩)) ?_
 refine rv (v := .bool _) (v_assign (.inl rfl) nf) ?_
 refine r_nil ?_
 refine a_ret ?_
 refine ret1 Tryz.results130 (by decide) (by decide) (Weak.of_eq (bool_eq ?_)) rfl Leaves.nil
 simp
theorem insertO_c (d : Array Int) (n a b : Nat) (hd : d.size = n) (hab : a ≤ b ∧ b ≤ n) (hn : n ≤ 4611686018427387904) : ACall Tryz.prog 124 [.rsl (INH, []) 1 0 n none, .int .i64 ((a : Nat) : Int), .int .i64 ((b : Nat) : Int)] [.osl 1 (acells d) n none] (.tup []) [.osl 1 (acells (insertionSort (fun x y : Int => decide (x < y)) d a b)) n none] := by
 refine ACall.intro Tryz.func124 rfl (N := 49) rfl (by decide) (by simp) ?_
 refine a_seq ?_
 refine a_region ?_
 refine rv (v := .int _ _) (v_move (.inl rfl) nf) ?_
 refine rv (v := .int _ _) (v_add (.inl rfl) (.inl rfl) (fun _ => by omega)) ?_
 refine rv (v := .int _ _) (v_assign (.inl rfl) nf) ?_
 refine r_nil ?_
 refine a_block ?_
 refine a_loop (X := (Nat × Array Int)) (fun x => look [(0, .rsl (INH, []) 1 0 n none), (1, .int .i64 ((a : Nat) : Int)), (2, .int .i64 ((b : Nat) : Int)), (6, .int .i64 ((x.1 : Nat) : Int)), (INH, .osl 1 (acells x.2) n none)]) (fun x => a + 1 ≤ x.1 ∧ x.2.size = n ∧ insOuter (fun x y : Int => decide (x < y)) a b x.1 x.2 = insertionSort (fun x y : Int => decide (x < y)) d a b) (fun x => b - x.1) (a + 1, d) (ent_look ⟨Weak.of_eq rfl, Weak.of_eq rfl, Weak.of_eq rfl, Weak.of_eq (int_eq (by omega)), Weak.of_eq rfl, trivial⟩) ⟨Nat.le_refl _, hd, rfl⟩ (fun x hG => ?_)
 obtain ⟨g1, g2, g3⟩ := hG
 refine a_seq ?_
 refine a_seq ?_
 refine a_region ?_
 refine rv (v := .int _ _) (v_move (.inl rfl) nf) ?_
 refine rv (v := .int _ _) (v_move (.inl rfl) nf) ?_
 refine rv (v := .bool _) (v_lss (.inl rfl) (.inl rfl)) ?_
 refine r_nil ?_
 refine a_cond rfl (fun ht12 => ?_) (fun ht12 => ?_)
 ·
  skip
  refine a_skip ?_
  refine a_seq ?_
  refine a_block ?_
  refine a_seq ?_
  have hxb : x.1 < b := (by simpa using ht12)
  refine a_region ?_
  refine rv (v := .int _ _) (v_move (.inl rfl) nf) ?_
  refine rv (v := .int _ _) (v_assign (.inl rfl) nf) ?_
  refine r_nil ?_
  refine a_block ?_
  refine a_loop (X := (Nat × Array Int)) (fun y => look [(0, .rsl (INH, []) 1 0 n none), (1, .int .i64 ((a : Nat) : Int)), (2, .int .i64 ((b : Nat) : Int)), (6, .int .i64 ((x.1 : Nat) : Int)), (7, .int .i64 ((y.1 : Nat) : Int)), (INH, .osl 1 (acells y.2) n none)]) (fun y => a ≤ y.1 ∧ y.1 ≤ x.1 ∧ y.2.size = n ∧ insInner (fun x y : Int => decide (x < y)) a y.1 y.2 = insInner (fun x y : Int => decide (x < y)) a x.1 x.2) (fun y => y.1) (x.1, x.2) (ent_look ⟨Weak.of_eq rfl, Weak.of_eq rfl, Weak.of_eq rfl, Weak.of_eq rfl, Weak.of_eq rfl, Weak.of_eq rfl, trivial⟩) ⟨by omega, Nat.le_refl _, g2, rfl⟩ (fun y hG => ?_)
  obtain ⟨k1, k2, k3, k4⟩ := hG
  refine a_seq ?_
  refine a_seq ?_
  refine a_region_any mixed (by kernel_rfl) ?_
  refine yv (v := .int _ _) (v_move (.inl rfl) nf) ?_
  refine yv (v := .int _ _) (v_move (.inl rfl) nf) ?_
  refine yv (v := .bool _) (v_gtr (.inl rfl) (.inl rfl)) ?_
  refine yv (v := .bool _) (v_move (.inl rfl) nf) ?_
  refine yg (v := .rsl _ _ _ _ _) (v_move (.inl rfl) nf).quiet rfl rfl rfl (by decide) (.inl ⟨_, rfl, rfl⟩) ?_
  refine yg (v := .int _ _) (v_move (.inl rfl) nf).quiet rfl rfl rfl (by decide) (.inl ⟨_, rfl, rfl⟩) ?_
  refine yg (v := .rp _ _) (v_indexAddr_rsl0 es25 (.inr ⟨_, rfl, fun h => h⟩) (.inr ⟨_, rfl, fun h => h⟩) (fun hA => by simp at hA; omega)).quiet rfl rfl rfl (by decide) (.inl ⟨_, rfl, rfl⟩) ?_
  refine yg (v := .int .i64 y.2[y.1]!) (v_load_rp1 ta3 (.inr ⟨_, rfl, fun h => h⟩) rfl (fun hA => by simp at hA; rw [Nat.mul_one]; exact acells_get (by omega)) rfl).quiet rfl rfl rfl (by decide) (.inl ⟨_, rfl, rfl⟩) ?_
  refine yg (v := .rsl _ _ _ _ _) (v_move (.inl rfl) nf).quiet rfl rfl rfl (by decide) (.inl ⟨_, rfl, rfl⟩) ?_
  refine yg (v := .int _ _) (v_move (.inl rfl) nf).quiet rfl rfl rfl (by decide) (.inl ⟨_, rfl, rfl⟩) ?_
  refine yg (v := .int _ _) (v_sub (.inr ⟨_, rfl, fun h => h⟩) (.inl rfl) (fun hA => by simp at hA; omega)).quiet rfl rfl rfl (by decide) (.inl ⟨_, rfl, rfl⟩) ?_
  refine yg (v := .rp _ _) (v_indexAddr_rsl0 es25 (.inr ⟨_, rfl, fun h => h⟩) (.inr ⟨_, rfl, fun h => h⟩) (fun hA => by simp at hA; omega)).quiet rfl rfl rfl (by decide) (.inl ⟨_, rfl, rfl⟩) ?_
  refine yg (v := .int .i64 y.2[y.1 - 1]!) (v_load_rp1 ta3 (.inr ⟨_, rfl, fun h => h⟩) rfl (fun hA => by simp at hA; rw [show ((y.1 : Int) - 1).toNat = y.1 - 1 by omega, Nat.mul_one]; exact acells_get (by omega)) rfl).quiet rfl rfl rfl (by decide) (.inl ⟨_, rfl, rfl⟩) ?_
  refine yg (v := .bool _) (q_call (vs := [.int _ _, .int _ _]) (args := [.int .i64 _, .int .i64 _]) hb130 ⟨.inr ⟨_, rfl, fun h => h⟩, .inr ⟨_, rfl, fun h => h⟩, trivial⟩ rfl (fun hA => lessi_c _ _) rfl rfl) rfl rfl rfl (by decide) (.inl ⟨_, rfl, rfl⟩) ?_
  refine yv (v := .bool _) (v_pick (.inl rfl) (.inr ⟨_, rfl, fun h h2 => by simp_all⟩) (.inl rfl)) ?_
  refine y_nil ?_
  refine a_cond rfl (fun ht30 => ?_) (fun ht30 => ?_)
  ·
   skip
   refine a_skip ?_
   refine a_seq ?_
   refine a_block ?_
   have hjl : a < y.1 ∧ (fun x y : Int => decide (x < y)) y.2[y.1]! y.2[y.1 - 1]! = true := (by simpa using ht30)
   obtain ⟨hj, hl⟩ := hjl
   have hp1 : y.1 * 1 + 1 ≤ (acells y.2).length := (by rw [acells_length]; omega)
   have hp2 : (y.1 - 1) * 1 + 1 ≤ ((acells y.2).set (y.1 * 1) (.int .i64 y.2[(y.1 - 1)]!)).length := (by rw [List.length_set, acells_length]; omega)
   have hset : ((acells y.2).set (y.1 * 1) (.int .i64 y.2[(y.1 - 1)]!)).set ((y.1 - 1) * 1) (.int .i64 y.2[y.1]!) = acells (swp y.2 y.1 (y.1 - 1)) := (by rw [Nat.mul_one, Nat.mul_one]; exact acells_swp _ _ _)
   refine a_region_w [(33, true), (34, true), (35, true), (36, true), (37, true), (38, true), (39, true), (40, true), (41, true), (42, true), (43, true), (44, true), (45, true), (46, true), (47, true), (INH, false), (48, true), (INH, false)] mixed (by kernel_rfl) ?_
   refine w_val (v := .rsl _ _ _ _ _) (v_move (.inl rfl) nf) rfl rfl (by decide) rfl (by kernel_rfl) ?_
   refine w_val (v := .int _ _) (v_move (.inl rfl) nf) rfl rfl (by decide) rfl (by kernel_rfl) ?_
   refine w_val (v := .rsl _ _ _ _ _) (v_move (.inl rfl) nf) rfl rfl (by decide) rfl (by kernel_rfl) ?_
   refine w_val (v := .int _ _) (v_move (.inl rfl) nf) rfl rfl (by decide) rfl (by kernel_rfl) ?_
   refine w_val (v := .int .i64 ((y.1 - 1 : Nat) : Int)) ((v_sub (.inl rfl) (.inl rfl) (fun _ => by omega)).cast (int_eq (by omega))) rfl rfl (by decide) rfl (by kernel_rfl) ?_
   refine w_val (v := .rsl _ _ _ _ _) (v_move (.inl rfl) nf) rfl rfl (by decide) rfl (by kernel_rfl) ?_
   refine w_val (v := .int _ _) (v_move (.inl rfl) nf) rfl rfl (by decide) rfl (by kernel_rfl) ?_
   refine w_val (v := .int .i64 ((y.1 - 1 : Nat) : Int)) ((v_sub (.inl rfl) (.inl rfl) (fun _ => by omega)).cast (int_eq (by omega))) rfl rfl (by decide) rfl (by kernel_rfl) ?_
   refine w_val (v := .rp _ _) (v_indexAddr_rsl0 es25 (.inl rfl) (.inl rfl) (fun _ => by omega)) rfl rfl (by decide) rfl (by kernel_rfl) ?_
   refine w_val (v := .int .i64 y.2[y.1 - 1]!) (v_load_rp1 ta3 (.inl rfl) rfl (fun _ => by rw [Nat.mul_one]; exact acells_get (by omega)) rfl) rfl rfl (by decide) rfl (by kernel_rfl) ?_
   refine w_val (v := .rsl _ _ _ _ _) (v_move (.inl rfl) nf) rfl rfl (by decide) rfl (by kernel_rfl) ?_
   refine w_val (v := .int _ _) (v_move (.inl rfl) nf) rfl rfl (by decide) rfl (by kernel_rfl) ?_
   refine w_val (v := .rp _ _) (v_indexAddr_rsl0 es25 (.inl rfl) (.inl rfl) (fun _ => by omega)) rfl rfl (by decide) rfl (by kernel_rfl) ?_
   refine w_val (v := .int .i64 y.2[y.1]!) (v_load_rp1 ta3 (.inl rfl) rfl (fun _ => by rw [Nat.mul_one]; exact acells_get (by omega)) rfl) rfl rfl (by decide) rfl (by kernel_rfl) ?_
   refine w_val (v := .rp _ _) (v_indexAddr_rsl0 es25 (.inl rfl) (.inl rfl) (fun _ => by omega)) rfl rfl (by decide) rfl (by kernel_rfl) ?_
   refine w_store (v := .int _ _) (y' := .osl _ _ _ _) rfl rfl rfl ta3 (.inl rfl) (.inl rfl) rfl rfl rfl rfl rfl rfl hp1 (by decide) rfl rfl rfl (by kernel_rfl) ?_
   refine w_val (v := .rp _ _) (v_indexAddr_rsl0 es25 (.inl rfl) (.inl rfl) (fun _ => by omega)) rfl rfl (by decide) rfl (by kernel_rfl) ?_
   refine w_store (v := .int _ _) (y' := .osl _ _ _ _) rfl rfl rfl ta3 (.inl rfl) (.inl rfl) rfl rfl rfl rfl rfl rfl hp2 (by decide) rfl (congrArg (fun c => AV.osl 1 c n none) hset) rfl (by kernel_rfl) ?_
   refine w_nil ?_
   refine a_pre (ent_look (L := [(0, .rsl _ _ _ _ _), (1, .int _ _), (2, .int _ _), (6, .int _ _), (7, .int _ _), (INH, .osl _ _ _ _)]) ⟨Weak.rfl, Weak.rfl, Weak.rfl, Weak.rfl, Weak.rfl, Weak.rfl, trivial⟩) ?_
   refine a_region ?_
   refine rv (v := .int _ _) (v_move (.inl rfl) nf) ?_
   refine rv (v := .int _ _) (v_sub (.inl rfl) (.inl rfl) (fun _ => by omega)) ?_
   refine rv (v := .int _ _) (v_assign (.inl rfl) nf) ?_
   refine r_nil ?_
   refine ⟨(y.1 - 1, swp y.2 y.1 (y.1 - 1)), ent_look ⟨Weak.of_eq rfl, Weak.of_eq rfl, Weak.of_eq rfl, Weak.of_eq rfl, Weak.of_eq (int_eq (by omega)), Weak.of_eq rfl, trivial⟩, ⟨by omega, by omega, by rw [swp_size]; exact k3, by rw [← k4, insInner_more hj hl]⟩, by omega⟩
  ·
   skip
   refine a_exit ?_
   have hdone : insInner (fun x y : Int => decide (x < y)) a y.1 y.2 = y.2 := insInner_stop (by simpa using ht30)
   refine a_region ?_
   refine rv (v := .int _ _) (v_move (.inl rfl) nf) ?_
   refine rv (v := .int _ _) (v_add (.inl rfl) (.inl rfl) (fun _ => by omega)) ?_
   refine rv (v := .int _ _) (v_assign (.inl rfl) nf) ?_
   refine r_nil ?_
   refine ⟨(x.1 + 1, y.2), ent_look ⟨Weak.of_eq rfl, Weak.of_eq rfl, Weak.of_eq rfl, Weak.of_eq (int_eq (by omega)), Weak.of_eq rfl, trivial⟩, ⟨by omega, k3, by rw [← g3, insOuter.eq_1 _ _ _ x.1, if_pos hxb, ← k4, hdone]⟩, by omega⟩
 ·
  skip
  refine a_exit ?_
  refine ret0_look Tryz.results124 (by decide) ?_ rfl
  exact Weak.of_eq (osl_eq (by rw [← g3, insOuter.eq_1 _ _ _ x.1, if_neg (by simpa using ht12)]))
theorem pdqO_c (d : Array Int) (n : Nat) (lim : Int) (hd : d.size = n) (hn : n ≤ 12) : ACall Tryz.prog 117 [.rsl (INH, []) 1 0 n none, .int .i64 ((0 : Nat) : Int), .int .i64 ((n : Nat) : Int), .int .i64 lim] [.osl 1 (acells d) n none] (.tup []) [.osl 1 (acells (insertionSort (fun x y : Int => decide (x < y)) d 0 n)) n none] := by
 refine ACall.intro Tryz.func117 rfl (N := 134) rfl (by decide) (by simp) ?_
 refine a_seq ?_
 refine a_region ?_
 refine rv (v := .bool _) (v_assign (.inl rfl) nf) ?_
 refine r_nil ?_
 refine a_seq ?_
 refine a_region ?_
 refine rv (v := .bool _) (v_assign (.inl rfl) nf) ?_
 refine r_nil ?_
 refine a_block ?_
 refine a_loop (X := Unit) (fun _u => look [(0, .rsl (INH, []) 1 0 n none), (1, .int .i64 ((0 : Nat) : Int)), (2, .int .i64 ((n : Nat) : Int)), (3, .int .i64 lim), (8, .bool true), (9, .bool true), (INH, .osl 1 (acells d) n none)]) (fun _u => True) (fun _u => 0) () (ent_look ⟨Weak.of_eq rfl, Weak.of_eq rfl, Weak.of_eq rfl, Weak.of_eq rfl, Weak.of_eq rfl, Weak.of_eq rfl, Weak.of_eq rfl, trivial⟩) trivial (fun _u hG => ?_)
 refine a_block ?_
 refine a_seq ?_
 refine a_region ?_
 refine rv (v := .int _ _) (v_move (.inl rfl) nf) ?_
 refine rv (v := .int _ _) (v_move (.inl rfl) nf) ?_
 refine rv (v := .int _ _) (v_sub (.inl rfl) (.inl rfl) (fun _ => by omega)) ?_
 refine rv (v := .int _ _) (v_assign (.inl rfl) nf) ?_
 refine r_nil ?_
 refine a_seq ?_
 refine a_seq ?_
 refine a_region ?_
 refine rv (v := .int _ _) (v_move (.inl rfl) nf) ?_
 refine rv (v := .bool _) (v_leq (.inl rfl) (.inl rfl)) ?_
 refine r_nil ?_
 refine a_cond rfl (fun ht23 => ?_) (fun ht23 => ?_)
 ·
  skip
  refine a_seq ?_
  refine a_region ?_
  refine rv (v := .rsl _ _ _ _ _) (v_move (.inl rfl) nf) ?_
  refine rv (v := .int _ _) (v_move (.inl rfl) nf) ?_
  refine rv (v := .int _ _) (v_move (.inl rfl) nf) ?_
  refine r_step rfl (o_callIO (q := (INH, [])) (vs := [.rsl _ _ _ _ _, .int _ _, .int _ _]) (args := [.rsl (INH, []) _ _ _ _, .int .i64 _, .int .i64 _]) (x0 := .osl _ _ _ _) (x1 := .osl _ _ _ _) (res := .tup []) rfl hb124 rfl (by decide) ⟨.inl rfl, .inl rfl, .inl rfl, trivial⟩ rfl rfl (insertO_c d n 0 n hd (by omega) (by omega)) rfl rfl rfl (ac_noSh _) (ac_noRef _) (Nat.le_of_ble_eq_true rfl) (by decide) rfl) ?_
  refine r_nil ?_
  refine a_ret ?_
  refine ret0_look Tryz.results117 (by decide) ?_ rfl
  exact Weak.of_eq rfl
 ·
  skip
  refine a_skip ?_
  refine a_seq ?_
  refine a_seq ?_
  exfalso
  simp at ht23; omega
theorem sortO_c (d : Array Int) (n : Nat) (hd : d.size = n) (hn : n ≤ 12) : ACall Tryz.prog 95 [.rsl (INH, []) 1 0 n none] [.osl 1 (acells d) n none] (.tup []) [.osl 1 (acells (insertionSort (fun x y : Int => decide (x < y)) d 0 n)) n none] := by
 have hbl : bitsLen n ≤ 61 := (bitsLen_le_iff _ _).2 (by omega)
 refine ACall.intro Tryz.func95 rfl (N := 11) rfl (by decide) (by simp) ?_
 refine a_seq ?_
 refine a_region ?_
 refine rv (v := .rsl _ _ _ _ _) (v_move (.inl rfl) nf) ?_
 refine rv (v := .int _ _) (v_len_rsl sl25 (.inl rfl)) ?_
 refine rv (v := .int _ _) (v_assign (.inl rfl) nf) ?_
 refine r_nil ?_
 refine a_region ?_
 refine rv (v := .rsl _ _ _ _ _) (v_move (.inl rfl) nf) ?_
 refine rv (v := .int _ _) (v_move (.inl rfl) nf) ?_
 refine rv (v := .int _ _) (v_move (.inl rfl) nf) ?_
 refine rv (v := .int .u64 ((n : Nat) : Int)) ((v_conv iss3 uni108 (.inl rfl) (fun _ => IntWalk.u64_in _ (by omega))).cast (int_eq rfl)) ?_
 refine rn (v := .int _ _) (q_call (vs := [.int _ _]) (args := [.int .u64 ((_ : Nat) : Int)]) hb118 ⟨.inl rfl, trivial⟩ rfl (fun hA => len_c n (by omega)) rfl rfl) ?_
 refine r_step rfl (o_callIO (q := (INH, [])) (vs := [.rsl _ _ _ _ _, .int _ _, .int _ _, .int _ _]) (args := [.rsl (INH, []) _ _ _ _, .int .i64 _, .int .i64 _, .int .i64 _]) (x0 := .osl _ _ _ _) (x1 := .osl _ _ _ _) (res := .tup []) rfl hb117 rfl (by decide) ⟨.inl rfl, .inl rfl, .inl rfl, .inl rfl, trivial⟩ rfl rfl (pdqO_c d n _ hd hn) rfl rfl rfl (ac_noSh _) (ac_noRef _) (Nat.le_of_ble_eq_true rfl) (by decide) rfl) ?_
 refine r_nil ?_
 refine ret0_look Tryz.results95 (by decide) ?_ rfl
 exact Weak.of_eq rfl
end Go.Av
namespace Go.Av
open Go Go.Proofs Go.Sort
set_option maxRecDepth 10000
end Go.Av
namespace Go.Av
open Go Go.Proofs Go.Sort
set_option maxRecDepth 10000
end Go.Av
namespace Go.Av
open Go Go.Proofs Go.Sort
set_option maxRecDepth 10000
end Go.Av
namespace Go.Av
open Go Go.Proofs Go.Sort
set_option maxRecDepth 10000
end Go.Av
namespace Go.Av
open Go Go.Proofs Go.Sort
set_option maxRecDepth 10000
theorem hb95 : hasBody Tryz.prog 95 = true := by kernel_rfl
theorem absI_c (x : Int) (h : -4611686018427387904 ≤ x ∧ x ≤ 4611686018427387904) : ACall Tryz.prog 59 [.int .i64 x] [] (.int .i64 (max x (-x))) [] := by
 refine ACall.intro Tryz.func59 rfl (N := 7) rfl (by decide) (by simp) ?_
 refine a_seq ?_
 refine a_region ?_
 refine rv (v := .int _ _) (v_assign (.inl rfl) nf) ?_
 refine r_nil ?_
 refine a_seq ?_
 refine a_region ?_
 refine rv (v := .int _ _) (v_move (.inl rfl) nf) ?_
 refine rv (v := .int _ _) (v_move (.inl rfl) nf) ?_
 refine rv (v := .int _ _) (v_neg (.inl rfl) (fun _ => by omega)) ?_
 refine rv (v := .int _ _) (v_max (.inl rfl) (.inl rfl)) ?_
 refine rv (v := .int _ _) (v_assign (.inl rfl) nf) ?_
 refine r_nil ?_
 refine a_ret ?_
 refine ret1 Tryz.results59 (by decide) (by decide) (Weak.of_eq (int_eq ?_)) rfl Leaves.nil
 rfl
theorem varsOf1_c (p : List Int) (hp : p.length ≤ 12) (hs : SmI p) : ACall Tryz.prog 65 [.sl [.sl (icells p) p.length] 1] [] (.osl 1 (icells (dedN (insertionSort (fun x y : Int => decide (x < y)) (p.map fun x => max x (-x)).toArray 0 (p.map fun x => max x (-x)).length) (p.map fun x => max x (-x)).length)) (dedN (insertionSort (fun x y : Int => decide (x < y)) (p.map fun x => max x (-x)).toArray 0 (p.map fun x => max x (-x)).length) (p.map fun x => max x (-x)).length).length none) [] := by
 refine ACall.intro Tryz.func65 rfl (N := 31) rfl (by decide) (by simp) ?_
 refine a_seq ?_
 refine a_region ?_
 refine rv (v := .nils) (v_assign (.inl rfl) nf) ?_
 refine r_nil ?_
 refine a_seq ?_
 refine a_region ?_
 refine rv (v := .nils) (v_assign (.inl rfl) nf) ?_
 refine r_nil ?_
 refine a_seq ?_
 refine a_seq ?_
 refine a_region ?_
 refine rv (v := .sl _ _) (v_move (.inl rfl) nf) ?_
 refine rv (v := .int _ _) (v_len_sl sl22 (.inl rfl)) ?_
 refine rv (v := .int _ _) (v_move (.inl rfl) nf) ?_
 refine r_nil ?_
 refine a_block ?_
 refine a_pre (ent_nil (t := 3) (sz := 1) (cap := none) (.inl rfl) (fun _ h => by cases h)) ?_
 refine a_loop (X := Nat) (fun q => look [(3, .osl 1 (icells ((p.take (q * p.length)).map fun x => max x (-x))) ((p.take (q * p.length)).map fun x => max x (-x)).length none), (8, .sl [.sl (icells p) p.length] 1), (9, .int .i64 ((1 : Nat) : Int)), (10, .int .i64 ((q : Nat) : Int))]) (fun q => q ≤ 1) (fun q => 1 - q) 0 (ent_look ⟨Weak.osl (by simp [icells]) (by simp), Weak.of_eq rfl, Weak.of_eq rfl, Weak.of_eq rfl, trivial⟩) (by omega) (fun q hG => ?_)
 refine a_seq ?_
 refine a_region ?_
 refine rv (v := .bool _) (v_lss (.inl rfl) (.inl rfl)) ?_
 refine r_nil ?_
 refine a_seq ?_
 refine a_cond rfl (fun ht11 => ?_) (fun ht11 => ?_)
 ·
  skip
  refine a_skip ?_
  refine a_seq ?_
  refine a_block ?_
  refine a_seq ?_
  have hq0 : q = 0 := (by simp at ht11; omega)
  refine a_region ?_
  refine rv (v := .pp _ _) (v_indexAddr_sl es22 (.inl rfl) (.inl rfl) (fun _ => ⟨by omega, by omega, by simp⟩)) ?_
  refine rv (v := .sl (icells p) p.length) (v_load_pp ta25 (.inl rfl) (fun _ => by rw [hq0]; rfl) rfl) ?_
  refine rv (v := .sl _ _) (v_assign (.inl rfl) nf) ?_
  refine r_nil ?_
  refine a_seq ?_
  refine a_region ?_
  refine rv (v := .sl _ _) (v_move (.inl rfl) nf) ?_
  refine rv (v := .int _ _) (v_len_sl sl25 (.inl rfl)) ?_
  refine rv (v := .int _ _) (v_move (.inl rfl) nf) ?_
  refine r_nil ?_
  refine a_block ?_
  refine a_loop (X := Nat) (fun i => look [(3, .osl 1 (icells ((p.take i).map fun x => max x (-x))) ((p.take i).map fun x => max x (-x)).length none), (8, .sl [.sl (icells p) p.length] 1), (9, .int .i64 ((1 : Nat) : Int)), (10, .int .i64 ((q : Nat) : Int)), (14, .sl (icells p) p.length), (15, .int .i64 ((p.length : Nat) : Int)), (16, .int .i64 ((i : Nat) : Int))]) (fun i => i ≤ p.length) (fun i => p.length - i) 0 (ent_look ⟨Weak.osl (by rw [hq0, Nat.zero_mul]) (by rw [hq0, Nat.zero_mul]), Weak.of_eq rfl, Weak.of_eq rfl, Weak.of_eq rfl, Weak.of_eq rfl, Weak.of_eq rfl, Weak.of_eq rfl, trivial⟩) (Nat.zero_le _) (fun i hG => ?_)
  refine a_seq ?_
  refine a_region ?_
  refine rv (v := .bool _) (v_lss (.inl rfl) (.inl rfl)) ?_
  refine r_nil ?_
  refine a_seq ?_
  refine a_cond rfl (fun ht17 => ?_) (fun ht17 => ?_)
  ·
   skip
   refine a_skip ?_
   refine a_seq ?_
   refine a_block ?_
   refine a_seq ?_
   have hi : i < p.length := (by simp at ht17; omega)
   have hti : p.take (i + 1) = p.take i ++ [gd p i] := (by unfold gd; rw [List.take_succ_eq_append_getElem hi, List.getElem?_eq_getElem hi]; rfl)
   have hsx := hs i
   refine a_region ?_
   refine rv (v := .pp _ _) (v_indexAddr_sl es25 (.inl rfl) (.inl rfl) (fun _ => ⟨by omega, by omega, icells_ne hi⟩)) ?_
   refine rv (v := .int .i64 (gd p i)) (v_load_pp ta3 (.inl rfl) (fun _ => by rw [Nat.mul_one]; exact icells_get (gd_get hi)) rfl) ?_
   refine rv (v := .int _ _) (v_assign (.inl rfl) nf) ?_
   refine r_nil ?_
   refine a_region ?_
   refine rv (v := .rsl _ _ _ _ _) (v_move (.inl rfl) nf) ?_
   refine rv (v := .int _ _) (v_move (.inl rfl) nf) ?_
   refine rn (v := .int _ _) (q_call (vs := [.int _ _]) (args := [.int .i64 _]) hb59 ⟨.inl rfl, trivial⟩ rfl (fun hA => absI_c _ (by omega)) rfl rfl) ?_
   refine rn (v := .osl _ _ _ _) (q_sliceLit (n := 1) (parts := [(0, .tmp 22)]) lt25 rfl rfl rfl rfl) ?_
   refine r_pre (ent_reloc_sl (t := 20) rfl rfl) ?_
   refine r_step rfl (o_append rfl ap25 rfl (by decide) (by decide) rfl (src_lit (.inl rfl) rfl rfl rfl) rfl (by simp [icells_length]) (by simp; omega)) ?_
   refine rv (v := .rsl _ _ _ _ _) (v_assign (.inl rfl) nf) ?_
   refine r_pre (ent_reloc_sl (t := 3) rfl rfl) ?_
   refine r_nil ?_
   refine a_region ?_
   refine rv (v := .int _ _) (v_add (.inl rfl) (.inl rfl) (fun _ => by omega)) ?_
   refine rv (v := .int _ _) (v_move (.inl rfl) nf) ?_
   refine r_nil ?_
   refine ⟨i + 1, ent_look ⟨Weak.osl (by rw [hti, List.map_append, icells_append]; rfl) (by rw [hti, List.map_append, List.length_append]; rfl), Weak.of_eq rfl, Weak.of_eq rfl, Weak.of_eq rfl, Weak.of_eq rfl, Weak.of_eq rfl, Weak.of_eq (int_eq (by omega)), trivial⟩, (by omega), by omega⟩
  ·
   skip
   refine a_exit ?_
   refine a_region ?_
   refine rv (v := .int _ _) (v_add (.inl rfl) (.inl rfl) (fun _ => by omega)) ?_
   refine rv (v := .int _ _) (v_move (.inl rfl) nf) ?_
   refine r_nil ?_
   refine ⟨q + 1, ent_look ⟨Weak.osl (by rw [show i = p.length by simp at ht17; omega, hq0, Nat.zero_add, Nat.one_mul]) (by rw [show i = p.length by simp at ht17; omega, hq0, Nat.zero_add, Nat.one_mul]), Weak.of_eq rfl, Weak.of_eq rfl, Weak.of_eq (int_eq (by omega)), trivial⟩, (by omega), by omega⟩
 ·
  skip
  refine a_exit ?_
  refine a_seq ?_
  have hq1 : q = 1 := (by simp at ht11; omega)
  refine a_pre (ent_eq (t := 3) (v' := .osl 1 (acells (p.map fun x => max x (-x)).toArray) (p.map fun x => max x (-x)).length none) (Weak.osl (by rw [hq1, Nat.one_mul, List.take_of_length_le (Nat.le_refl _)]; rfl) (by rw [hq1, Nat.one_mul, List.take_of_length_le (Nat.le_refl _)]))) ?_
  refine a_region ?_
  refine rv (v := .rsl _ _ _ _ _) (v_move (.inl rfl) nf) ?_
  refine r_step rfl (o_callIO (q := (3, [])) (vs := [.rsl _ _ _ _ _]) (args := [.rsl (INH, []) _ _ _ _]) (x0 := .osl _ _ _ _) (x1 := .osl _ _ _ _) (res := .tup []) rfl hb95 rfl (by decide) ⟨.inl rfl, trivial⟩ rfl rfl (sortO_c (p.map fun x => max x (-x)).toArray (p.map fun x => max x (-x)).length (by simp) (by simp; omega)) rfl rfl rfl (ac_noSh _) (ac_noRef _) (Nat.le_of_ble_eq_true rfl) (by decide) rfl) ?_
  refine r_nil ?_
  refine a_seq ?_
  refine a_region ?_
  refine rv (v := .rsl _ _ _ _ _) (v_move (.inl rfl) nf) ?_
  refine r_step rfl (o_callIO (q := (3, [])) (vs := [.rsl _ _ _ _ _]) (args := [.rsl (INH, []) _ _ _ _]) (x0 := .osl _ _ _ _) (x1 := .undef) (res := .osl _ _ _ _) rfl hb96 rfl (by decide) ⟨.inl rfl, trivial⟩ rfl rfl (compact_c (insertionSort (fun x y : Int => decide (x < y)) (p.map fun x => max x (-x)).toArray 0 (p.map fun x => max x (-x)).length) (p.map fun x => max x (-x)).length (by rw [insertionSort_size]; simp) (by simp; omega)) rfl (ic_noSh _) (ic_noRef _) rfl rfl (Nat.le_of_ble_eq_true rfl) (by decide) rfl) ?_
  refine rv (v := .rsl _ _ _ _ _) (v_assign (.inl rfl) nf) ?_
  refine r_pre (ent_reloc_sl (t := 2) rfl rfl) ?_
  refine r_nil ?_
  refine a_ret ?_
  refine ret1 Tryz.results65 (by decide) (by decide) (Weak.osl ?_ ?_) rfl Leaves.nil
  all_goals rfl
end Go.Av
namespace Go.Av
open Go Go.Proofs Go.Sort
set_option maxRecDepth 10000
end Go.Av
namespace Go.Av
open Go Go.Proofs Go.Sort
set_option maxRecDepth 10000
end Go.Av
namespace Go.Av
open Go Go.Proofs Go.Sort
set_option maxRecDepth 10000
end Go.Av
namespace Go.Av
open Go Go.Proofs Go.Sort
set_option maxRecDepth 10000
end Go.Av
namespace Go.Av
open Go Go.Proofs Go.Sort
set_option maxRecDepth 10000
theorem idx_mem (xs : List Int) (v : Int) : decide (fidx (fun i => decide (v = gd xs i)) xs.length ≥ 0) = decide (v ∈ xs) := by
  rw [show decide (fidx (fun i => decide (v = gd xs i)) xs.length ≥ 0) = decide (0 ≤ fidx (fun i => decide (v = gd xs i)) xs.length) from rfl, fidx_any, Bool.eq_iff_iff, decide_eq_true_iff]
  constructor
  · intro h
    obtain ⟨i, hi, hx⟩ := List.any_eq_true.1 h
    rw [of_decide_eq_true hx]; exact gd_mem (by simpa using hi)
  · intro h
    obtain ⟨j, hj, hx⟩ := mem_gd h
    exact List.any_eq_true.2 ⟨j, by simpa using hj, by simp [hx]⟩
theorem hb28 : hasBody Tryz.prog 28 = true := by kernel_rfl
theorem hb56 : hasBody Tryz.prog 56 = true := by kernel_rfl
theorem hb82 : hasBody Tryz.prog 82 = true := by kernel_rfl
theorem index_c (xs : List Int) (v : Int) (hl : xs.length ≤ 1048576) : ACall Tryz.prog 82 [.sl (icells xs) xs.length, .int .i64 v] [] (.int .i64 (fidx (fun i => decide (v = gd xs i)) xs.length)) [] := by
  refine ACall.intro Tryz.func82 rfl (N := 19) rfl (by decide) (by simp) ?_
  refine a_seq ?_
  refine a_region ?_
  refine rv (v := .int _ _) (v_assign (.inl rfl) nf) ?_
  refine r_nil ?_
  refine a_seq ?_
  refine a_seq ?_
  refine a_region ?_
  refine rv (v := .sl _ _) (v_move (.inl rfl) nf) ?_
  refine rv (v := .int _ _) (v_len_sl sl25 (.inl rfl)) ?_
  refine rv (v := .int _ _) (v_move (.inl rfl) nf) ?_
  refine r_nil ?_
  refine a_block ?_
  refine a_loop (X := Nat) (fun i => look [(0, .sl (icells xs) xs.length), (1, .int .i64 v), (7, .int .i64 ((xs.length : Nat) : Int)), (8, .int .i64 ((i : Nat) : Int))]) (fun i => i ≤ xs.length ∧ ∀ j, j < i → decide (v = gd xs j) = false) (fun i => xs.length - i) 0 (ent_look ⟨Weak.of_eq rfl, Weak.of_eq rfl, Weak.of_eq rfl, Weak.of_eq rfl, trivial⟩) ⟨Nat.zero_le _, fun j h => by omega⟩ (fun i hG => ?_)
  obtain ⟨h1, h2⟩ := hG
  refine a_seq ?_
  refine a_region ?_
  refine rv (v := .bool _) (v_lss (.inl rfl) (.inl rfl)) ?_
  refine r_nil ?_
  refine a_seq ?_
  refine a_cond rfl (fun ht9 => ?_) (fun ht9 => ?_)
  ·
    skip
    refine a_skip ?_
    refine a_seq ?_
    refine a_block ?_
    refine a_seq ?_
    have hi : i < xs.length := (by simp at ht9; omega)
    refine a_region ?_
    refine rv (v := .int _ _) (v_move (.inl rfl) nf) ?_
    refine rv (v := .int _ _) (v_assign (.inl rfl) nf) ?_
    refine r_nil ?_
    refine a_seq ?_
    refine a_region ?_
    refine rv (v := .int _ _) (v_move (.inl rfl) nf) ?_
    refine rv (v := .sl _ _) (v_move (.inl rfl) nf) ?_
    refine rv (v := .int _ _) (v_move (.inl rfl) nf) ?_
    refine rv (v := .pp _ _) (v_indexAddr_sl es25 (.inl rfl) (.inl rfl) (fun _ => ⟨by omega, by omega, icells_ne hi⟩)) ?_
    refine rv (v := .int .i64 (gd xs i)) (v_load_pp ta3 (.inl rfl) (fun _ => by rw [Nat.mul_one]; exact icells_get (gd_get hi)) rfl) ?_
    refine rv (v := .bool _) (v_eql (.inl rfl) (.inl rfl)) ?_
    refine r_nil ?_
    refine a_cond rfl (fun ht16 => ?_) (fun ht16 => ?_)
    ·
      skip
      refine a_seq ?_
      refine a_region ?_
      refine rv (v := .int _ _) (v_move (.inl rfl) nf) ?_
      refine rv (v := .int _ _) (v_assign (.inl rfl) nf) ?_
      refine r_nil ?_
      refine a_ret ?_
      refine ret1 Tryz.results82 (by decide) (by decide) (Weak.of_eq (int_eq ?_)) rfl Leaves.nil
      exact (fidx_found (p := fun j => decide (v = gd xs j)) hi (by simpa using ht16) h2).symm
    ·
      skip
      refine a_skip ?_
      refine a_region ?_
      refine rv (v := .int _ _) (v_add (.inl rfl) (.inl rfl) (fun _ => by omega)) ?_
      refine rv (v := .int _ _) (v_move (.inl rfl) nf) ?_
      refine r_nil ?_
      refine ⟨i + 1, ent_look ⟨Weak.of_eq rfl, Weak.of_eq rfl, Weak.of_eq rfl, Weak.of_eq (int_eq (by omega)), trivial⟩, ⟨by omega, ok_stepF (p := fun j => decide (v = gd xs j)) h2 (by simpa using ht16)⟩, by omega⟩
  ·
    skip
    refine a_exit ?_
    refine a_seq ?_
    refine a_region ?_
    refine rv (v := .int _ _) (v_assign (.inl rfl) nf) ?_
    refine r_nil ?_
    refine a_ret ?_
    refine ret1 Tryz.results82 (by decide) (by decide) (Weak.of_eq (int_eq ?_)) rfl Leaves.nil
    simp at ht9; exact (fidx_none (p := fun j => decide (v = gd xs j)) (fun j hj => h2 j (by omega))).symm
theorem contains_c (xs : List Int) (v : Int) (hl : xs.length ≤ 1048576) : ACall Tryz.prog 56 [.sl (icells xs) xs.length, .int .i64 v] [] (.bool (decide (v ∈ xs))) [] := by
  refine ACall.intro Tryz.func56 rfl (N := 9) rfl (by decide) (by simp) ?_
  refine a_seq ?_
  refine a_region ?_
  refine rv (v := .bool _) (v_assign (.inl rfl) nf) ?_
  refine r_nil ?_
  refine a_seq ?_
  refine a_region ?_
  refine rv (v := .sl _ _) (v_move (.inl rfl) nf) ?_
  refine rv (v := .int _ _) (v_move (.inl rfl) nf) ?_
  refine rn (v := .int _ _) (q_call (vs := [.sl _ _, .int _ _]) (args := [.sl _ _, .int .i64 _]) hb82 ⟨.inl rfl, .inl rfl, trivial⟩ rfl (fun hA => index_c xs v hl) rfl rfl) ?_
  refine rv (v := .bool _) (v_geq (.inl rfl) (.inl rfl)) ?_
  refine rv (v := .bool _) (v_assign (.inl rfl) nf) ?_
  refine r_nil ?_
  refine a_ret ?_
  refine ret1 Tryz.results56 (by decide) (by decide) (Weak.of_eq (bool_eq ?_)) rfl Leaves.nil
  exact idx_mem xs v
theorem iClv_c (c a : List Int) (hs : SmI c) (hc : c.length ≤ 1048576) (ha : a.length ≤ 1048576) : ACall Tryz.prog 67 [.sl (icells c) c.length, .sl (icells a) a.length] [] (.int .i64 (cval c a)) [] := by
  refine ACall.intro Tryz.func67 rfl (N := 26) rfl (by decide) (by simp) ?_
  refine a_seq ?_
  refine a_region ?_
  refine rv (v := .int _ _) (v_assign (.inl rfl) nf) ?_
  refine r_nil ?_
  refine a_seq ?_
  refine a_region ?_
  refine rv (v := .int _ _) (v_assign (.inl rfl) nf) ?_
  refine r_nil ?_
  refine a_seq ?_
  refine a_seq ?_
  refine a_region ?_
  refine rv (v := .sl _ _) (v_move (.inl rfl) nf) ?_
  refine rv (v := .int _ _) (v_len_sl sl25 (.inl rfl)) ?_
  refine rv (v := .int _ _) (v_move (.inl rfl) nf) ?_
  refine r_nil ?_
  refine a_block ?_
  refine a_loop (X := Nat) (fun i => look [(1, .sl (icells a) a.length), (5, .int .i64 (cvP c a i)), (8, .sl (icells c) c.length), (9, .int .i64 ((c.length : Nat) : Int)), (10, .int .i64 ((i : Nat) : Int))]) (fun i => i ≤ c.length ∧ ∀ j, j < i → ¬ gd c j ∈ a) (fun i => c.length - i) 0 (ent_look ⟨Weak.of_eq rfl, Weak.of_eq rfl, Weak.of_eq rfl, Weak.of_eq rfl, Weak.of_eq rfl, trivial⟩) ⟨Nat.zero_le _, fun j h => by omega⟩ (fun i hG => ?_)
  obtain ⟨g1, g2⟩ := hG
  have hsi := hs i
  refine a_seq ?_
  refine a_region ?_
  refine rv (v := .bool _) (v_lss (.inl rfl) (.inl rfl)) ?_
  refine r_nil ?_
  refine a_seq ?_
  refine a_cond rfl (fun ht11 => ?_) (fun ht11 => ?_)
  ·
    skip
    refine a_skip ?_
    refine a_seq ?_
    refine a_block ?_
    refine a_seq ?_
    have hi : i < c.length := (by simp at ht11; omega)
    refine a_region ?_
    refine rv (v := .pp _ _) (v_indexAddr_sl es25 (.inl rfl) (.inl rfl) (fun _ => ⟨by omega, by omega, icells_ne hi⟩)) ?_
    refine rv (v := .int .i64 (gd c i)) (v_load_pp ta3 (.inl rfl) (fun _ => by rw [Nat.mul_one]; exact icells_get (gd_get hi)) rfl) ?_
    refine rv (v := .int _ _) (v_assign (.inl rfl) nf) ?_
    refine r_nil ?_
    refine a_block ?_
    refine a_seq ?_
    refine a_region ?_
    refine rv (v := .sl _ _) (v_move (.inl rfl) nf) ?_
    refine rv (v := .int _ _) (v_move (.inl rfl) nf) ?_
    refine rn (v := .bool _) (q_call (vs := [.sl _ _, .int _ _]) (args := [.sl _ _, .int .i64 _]) hb56 ⟨.inl rfl, .inl rfl, trivial⟩ rfl (fun hA => contains_c a _ ha) rfl rfl) ?_
    refine rv (v := .bool _) (v_assign (.inl rfl) nf) ?_
    refine r_nil ?_
    refine a_cond rfl (fun ht14 => ?_) (fun ht14 => ?_)
    ·
      skip
      refine a_seq ?_
      refine a_region ?_
      refine rv (v := .int _ _) (v_assign (.inl rfl) nf) ?_
      refine r_nil ?_
      refine a_ret ?_
      refine ret1 Tryz.results67 (by decide) (by decide) (Weak.of_eq (int_eq ?_)) rfl Leaves.nil
      exact (cval_one hi (by simpa using ht14)).symm
    ·
      skip
      refine a_seq ?_
      refine a_region ?_
      refine rv (v := .sl _ _) (v_move (.inl rfl) nf) ?_
      refine rv (v := .int _ _) (v_move (.inl rfl) nf) ?_
      refine rv (v := .int _ _) (v_neg (.inl rfl) (fun _ => by omega)) ?_
      refine rn (v := .bool _) (q_call (vs := [.sl _ _, .int _ _]) (args := [.sl _ _, .int .i64 _]) hb56 ⟨.inl rfl, .inl rfl, trivial⟩ rfl (fun hA => contains_c a _ ha) rfl rfl) ?_
      refine rv (v := .bool _) (v_not (.inl rfl)) ?_
      refine rv (v := .bool _) (v_assign (.inl rfl) nf) ?_
      refine r_nil ?_
      refine a_cond rfl (fun ht18 => ?_) (fun ht18 => ?_)
      ·
        skip
        refine a_region ?_
        refine rv (v := .int _ _) (v_assign (.inl rfl) nf) ?_
        refine r_nil ?_
        refine a_region ?_
        refine rv (v := .int _ _) (v_add (.inl rfl) (.inl rfl) (fun _ => by omega)) ?_
        refine rv (v := .int _ _) (v_move (.inl rfl) nf) ?_
        refine r_nil ?_
        refine ⟨i + 1, ent_look ⟨Weak.of_eq rfl, Weak.of_eq (int_eq (by rw [cvP_succ hi, if_neg (by simpa using ht18)])), Weak.of_eq rfl, Weak.of_eq rfl, Weak.of_eq (int_eq (by omega)), trivial⟩, ⟨by omega, fun j h1 => by rcases Nat.lt_or_ge j i with h | h; exact g2 j h; (obtain rfl : j = i := by omega); simpa using ht14⟩, by omega⟩
      ·
        skip
        refine a_skip ?_
        refine a_region ?_
        refine rv (v := .int _ _) (v_add (.inl rfl) (.inl rfl) (fun _ => by omega)) ?_
        refine rv (v := .int _ _) (v_move (.inl rfl) nf) ?_
        refine r_nil ?_
        refine ⟨i + 1, ent_look ⟨Weak.of_eq rfl, Weak.of_eq (int_eq (by rw [cvP_succ hi, if_pos (by simpa using ht18)])), Weak.of_eq rfl, Weak.of_eq rfl, Weak.of_eq (int_eq (by omega)), trivial⟩, ⟨by omega, fun j h1 => by rcases Nat.lt_or_ge j i with h | h; exact g2 j h; (obtain rfl : j = i := by omega); simpa using ht14⟩, by omega⟩
  ·
    skip
    refine a_exit ?_
    refine a_seq ?_
    have hcv := cval_end (c := c) (a := a) (i := i) (by simp at ht11; omega) g2
    refine a_region ?_
    refine rv (v := .int _ _) (v_move (.inl rfl) nf) ?_
    refine rv (v := .int _ _) (v_assign (.inl rfl) nf) ?_
    refine r_nil ?_
    refine a_ret ?_
    refine ret1 Tryz.results67 (by decide) (by decide) (Weak.of_eq (int_eq ?_)) rfl Leaves.nil
    exact hcv.symm
theorem sClv_c (c a : List Int) (hs : SmI c) (hc : c.length ≤ 1048576) (ha : a.length ≤ 1048576) : ACall Tryz.prog 63 [.sl (icells c) c.length, .sl (icells a) a.length] [] (.int .i64 (cval c a)) [] := by
  refine ACall.intro Tryz.func63 rfl (N := 28) rfl (by decide) (by simp) ?_
  refine a_seq ?_
  refine a_region ?_
  refine rv (v := .int _ _) (v_assign (.inl rfl) nf) ?_
  refine r_nil ?_
  refine a_seq ?_
  refine a_region ?_
  refine rv (v := .int _ _) (v_assign (.inl rfl) nf) ?_
  refine r_nil ?_
  refine a_seq ?_
  refine a_seq ?_
  refine a_region ?_
  refine rv (v := .int _ _) (v_assign (.inl rfl) nf) ?_
  refine r_nil ?_
  refine a_block ?_
  refine a_loop (X := Nat) (fun i => look [(0, .sl (icells c) c.length), (1, .sl (icells a) a.length), (5, .int .i64 (cvP c a i)), (6, .int .i64 ((i : Nat) : Int))]) (fun i => i ≤ c.length ∧ ∀ j, j < i → ¬ gd c j ∈ a) (fun i => c.length - i) 0 (ent_look ⟨Weak.of_eq rfl, Weak.of_eq rfl, Weak.of_eq rfl, Weak.of_eq rfl, trivial⟩) ⟨Nat.zero_le _, fun j h => by omega⟩ (fun i hG => ?_)
  obtain ⟨g1, g2⟩ := hG
  have hsi := hs i
  refine a_seq ?_
  refine a_seq ?_
  refine a_region ?_
  refine rv (v := .int _ _) (v_move (.inl rfl) nf) ?_
  refine rv (v := .sl _ _) (v_move (.inl rfl) nf) ?_
  refine rv (v := .int _ _) (v_len_sl sl25 (.inl rfl)) ?_
  refine rv (v := .bool _) (v_lss (.inl rfl) (.inl rfl)) ?_
  refine r_nil ?_
  refine a_cond rfl (fun ht10 => ?_) (fun ht10 => ?_)
  ·
    skip
    refine a_skip ?_
    refine a_seq ?_
    refine a_block ?_
    refine a_seq ?_
    refine a_seq ?_
    have hi : i < c.length := (by simp at ht10; omega)
    refine a_region ?_
    refine rv (v := .sl _ _) (v_move (.inl rfl) nf) ?_
    refine rv (v := .sl _ _) (v_move (.inl rfl) nf) ?_
    refine rv (v := .int _ _) (v_move (.inl rfl) nf) ?_
    refine rv (v := .pp _ _) (v_indexAddr_sl es25 (.inl rfl) (.inl rfl) (fun _ => ⟨by omega, by omega, icells_ne hi⟩)) ?_
    refine rv (v := .int .i64 (gd c i)) (v_load_pp ta3 (.inl rfl) (fun _ => by rw [Nat.mul_one]; exact icells_get (gd_get hi)) rfl) ?_
    refine rn (v := .bool _) (q_call (vs := [.sl _ _, .int _ _]) (args := [.sl _ _, .int .i64 _]) hb28 ⟨.inl rfl, .inl rfl, trivial⟩ rfl (fun hA => has2_c _ _ _ ⟨rfl, by omega⟩) rfl rfl) ?_
    refine r_nil ?_
    refine a_cond rfl (fun ht18 => ?_) (fun ht18 => ?_)
    ·
      skip
      refine a_seq ?_
      refine a_region ?_
      refine rv (v := .int _ _) (v_assign (.inl rfl) nf) ?_
      refine r_nil ?_
      refine a_ret ?_
      refine ret1 Tryz.results63 (by decide) (by decide) (Weak.of_eq (int_eq ?_)) rfl Leaves.nil
      exact (cval_one hi (by simpa using ht18)).symm
    ·
      skip
      refine a_skip ?_
      refine a_seq ?_
      refine a_region ?_
      refine rv (v := .sl _ _) (v_move (.inl rfl) nf) ?_
      refine rv (v := .sl _ _) (v_move (.inl rfl) nf) ?_
      refine rv (v := .int _ _) (v_move (.inl rfl) nf) ?_
      refine rv (v := .pp _ _) (v_indexAddr_sl es25 (.inl rfl) (.inl rfl) (fun _ => ⟨by omega, by omega, icells_ne hi⟩)) ?_
      refine rv (v := .int .i64 (gd c i)) (v_load_pp ta3 (.inl rfl) (fun _ => by rw [Nat.mul_one]; exact icells_get (gd_get hi)) rfl) ?_
      refine rv (v := .int _ _) (v_neg (.inl rfl) (fun _ => by omega)) ?_
      refine rn (v := .bool _) (q_call (vs := [.sl _ _, .int _ _]) (args := [.sl _ _, .int .i64 _]) hb28 ⟨.inl rfl, .inl rfl, trivial⟩ rfl (fun hA => has2_c _ _ _ ⟨rfl, by omega⟩) rfl rfl) ?_
      refine rv (v := .bool _) (v_not (.inl rfl)) ?_
      refine r_nil ?_
      refine a_cond rfl (fun ht26 => ?_) (fun ht26 => ?_)
      ·
        skip
        refine a_region ?_
        refine rv (v := .int _ _) (v_assign (.inl rfl) nf) ?_
        refine r_nil ?_
        refine a_region ?_
        refine rv (v := .int _ _) (v_move (.inl rfl) nf) ?_
        refine rv (v := .int _ _) (v_add (.inl rfl) (.inl rfl) (fun _ => by omega)) ?_
        refine rv (v := .int _ _) (v_assign (.inl rfl) nf) ?_
        refine r_nil ?_
        refine ⟨i + 1, ent_look ⟨Weak.of_eq rfl, Weak.of_eq rfl, Weak.of_eq (int_eq (by rw [cvP_succ hi, if_neg (by simpa using ht26)])), Weak.of_eq (int_eq (by omega)), trivial⟩, ⟨by omega, fun j h1 => by rcases Nat.lt_or_ge j i with h | h; exact g2 j h; (obtain rfl : j = i := by omega); simpa using ht18⟩, by omega⟩
      ·
        skip
        refine a_skip ?_
        refine a_region ?_
        refine rv (v := .int _ _) (v_move (.inl rfl) nf) ?_
        refine rv (v := .int _ _) (v_add (.inl rfl) (.inl rfl) (fun _ => by omega)) ?_
        refine rv (v := .int _ _) (v_assign (.inl rfl) nf) ?_
        refine r_nil ?_
        refine ⟨i + 1, ent_look ⟨Weak.of_eq rfl, Weak.of_eq rfl, Weak.of_eq (int_eq (by rw [cvP_succ hi, if_pos (by simpa using ht26)])), Weak.of_eq (int_eq (by omega)), trivial⟩, ⟨by omega, fun j h1 => by rcases Nat.lt_or_ge j i with h | h; exact g2 j h; (obtain rfl : j = i := by omega); simpa using ht18⟩, by omega⟩
  ·
    skip
    refine a_exit ?_
    refine a_seq ?_
    have hcv := cval_end (c := c) (a := a) (i := i) (by simp at ht10; omega) g2
    refine a_region ?_
    refine rv (v := .int _ _) (v_move (.inl rfl) nf) ?_
    refine rv (v := .int _ _) (v_assign (.inl rfl) nf) ?_
    refine r_nil ?_
    refine a_ret ?_
    refine ret1 Tryz.results63 (by decide) (by decide) (Weak.of_eq (int_eq ?_)) rfl Leaves.nil
    exact hcv.symm
end Go.Av
namespace Go.Av
open Go Go.Proofs Go.Sort
set_option maxRecDepth 10000
end Go.Av
namespace Go.Av
open Go Go.Proofs Go.Sort
set_option maxRecDepth 10000
end Go.Av
namespace Go.Av
open Go Go.Proofs Go.Sort
set_option maxRecDepth 10000
end Go.Av
namespace Go.Av
open Go Go.Proofs Go.Sort
set_option maxRecDepth 10000
end Go.Av
namespace Go.Av
open Go Go.Proofs Go.Sort
set_option maxRecDepth 10000
end Go.Av
namespace Go.Av
open Go Go.Proofs Go.Sort
set_option maxRecDepth 10000
end Go.Av
namespace Go.Av
open Go Go.Proofs Go.Sort
set_option maxRecDepth 10000
theorem fo62_0 : fieldOff Tryz.prog 62 0 = some 0 := by kernel_rfl
theorem fo62_1 : fieldOff Tryz.prog 62 1 = some 1 := by kernel_rfl
theorem fo62_2 : fieldOff Tryz.prog 62 2 = some 2 := by kernel_rfl
theorem fo62_3 : fieldOff Tryz.prog 62 3 = some 3 := by kernel_rfl
theorem hb32 : hasBody Tryz.prog 32 = true := by kernel_rfl
theorem hb92 : hasBody Tryz.prog 92 = true := by kernel_rfl
theorem ta62 : tyAgg Tryz.prog 62 = some (true, 4) := by kernel_rfl
theorem leaf_c (x : TN) : ACall Tryz.prog 92 [.agg [.int .i64 x.1, .int .i64 x.2.1, .int .i64 x.2.2.1, .int .i64 x.2.2.2]] [] (.bool (decide (x.1 = 0))) [] := by
 refine ACall.intro Tryz.func92 rfl (N := 6) rfl (by decide) (by simp) ?_
 refine a_seq ?_
 refine a_region ?_
 refine rn (v := .op [.int _ _, .int _ _, .int _ _, .int _ _]) (q_box (.inl rfl) rfl rfl) ?_
 refine rv (v := .bool _) (v_assign (.inl rfl) nf) ?_
 refine r_nil ?_
 refine a_seq ?_
 refine a_region ?_
 refine rv (v := .rp _ _) (v_fieldAddr_rp fo62_0 (.inl rfl)) ?_
 refine rv (v := .int _ _) (v_load_rp1 ta3 (.inl rfl) rfl (fun _ => rfl) rfl) ?_
 refine rv (v := .bool _) (v_eql (.inl rfl) (.inl rfl)) ?_
 refine rv (v := .bool _) (v_assign (.inl rfl) nf) ?_
 refine r_nil ?_
 refine a_ret ?_
 refine ret1 Tryz.results92 (by decide) (by decide) (Weak.of_eq (bool_eq ?_)) rfl Leaves.nil
 rfl
theorem nodeOk_c (vars : Int) (L : List (List Int)) (x : TN) (i : Int) (hL : (L.length : Int) ≤ 1000000) (hi : 0 ≤ i ∧ i ≤ 1000000) : ACall Tryz.prog 114 [.agg [.int .i64 vars, .sl (sls L) L.length], .int .i64 i, .agg [.int .i64 x.1, .int .i64 x.2.1, .int .i64 x.2.2.1, .int .i64 x.2.2.2]] [] (.bool (nodeB vars L.length i x)) [] := by
 refine ACall.intro Tryz.func114 rfl (N := 58) rfl (by decide) (by simp) ?_
 refine a_seq ?_
 refine a_region ?_
 refine rn (v := .op [.int _ _, .sl _ _]) (q_box (.inl rfl) rfl rfl) ?_
 refine rn (v := .op [.int _ _, .int _ _, .int _ _, .int _ _]) (q_box (.inl rfl) rfl rfl) ?_
 refine rv (v := .bool _) (v_assign (.inl rfl) nf) ?_
 refine r_nil ?_
 refine a_seq ?_
 refine a_seq ?_
 refine a_region ?_
 refine rv (v := .rp _ _) (v_fieldAddr_rp fo62_0 (.inl rfl)) ?_
 refine rv (v := .int _ _) (v_load_rp1 ta3 (.inl rfl) rfl (fun _ => rfl) rfl) ?_
 refine rv (v := .bool _) (v_eql (.inl rfl) (.inl rfl)) ?_
 refine r_nil ?_
 refine a_cond rfl (fun ht9 => ?_) (fun ht9 => ?_)
 ·
  skip
  refine a_seq ?_
  refine a_region ?_
  refine rv (v := .rp _ _) (v_fieldAddr_rp fo62_1 (.inl rfl)) ?_
  refine rv (v := .int _ _) (v_load_rp1 ta3 (.inl rfl) rfl (fun _ => rfl) rfl) ?_
  refine rv (v := .bool _) (v_eql (.inl rfl) (.inl rfl)) ?_
  refine rv (v := .bool _) (v_move (.inl rfl) nf) ?_
  refine r_gval (v := .rp _ _) (v_fieldAddr_rp fo62_2 (.inl rfl)) rfl rfl rfl (by decide) (.inl ⟨_, rfl, rfl⟩) rfl (by decide) ?_
  refine r_gval (v := .int _ _) (v_load_rp1 ta3 (.inr ⟨_, rfl, fun h => h⟩) rfl (fun _ => rfl) rfl) rfl rfl rfl (by decide) (.inl ⟨_, rfl, rfl⟩) rfl (by decide) ?_
  refine r_gval (v := .bool _) (v_eql (.inr ⟨_, rfl, fun h => h⟩) (.inl rfl)) rfl rfl rfl (by decide) (.inl ⟨_, rfl, rfl⟩) rfl (by decide) ?_
  refine rv (v := .bool _) (v_pick (.inl rfl) (.inr ⟨_, rfl, fun h h2 => by simp_all⟩) (.inl rfl)) ?_
  refine rv (v := .bool _) (v_move (.inl rfl) nf) ?_
  refine r_gval (v := .rp _ _) (v_fieldAddr_rp fo62_3 (.inl rfl)) rfl rfl rfl (by decide) (.inl ⟨_, rfl, rfl⟩) rfl (by decide) ?_
  refine r_gval (v := .int _ _) (v_load_rp1 ta3 (.inr ⟨_, rfl, fun h => h⟩) rfl (fun _ => rfl) rfl) rfl rfl rfl (by decide) (.inl ⟨_, rfl, rfl⟩) rfl (by decide) ?_
  refine r_gval (v := .rp _ _) (v_fieldAddr_rp fo30_1 (.inl rfl)) rfl rfl rfl (by decide) (.inl ⟨_, rfl, rfl⟩) rfl (by decide) ?_
  refine r_gval (v := .sl _ _) (v_load_rp1 ta22 (.inr ⟨_, rfl, fun h => h⟩) rfl (fun _ => rfl) rfl) rfl rfl rfl (by decide) (.inl ⟨_, rfl, rfl⟩) rfl (by decide) ?_
  refine r_gval (v := .int _ _) (v_len_sl sl22 (.inr ⟨_, rfl, fun h => h⟩)) rfl rfl rfl (by decide) (.inl ⟨_, rfl, rfl⟩) rfl (by decide) ?_
  refine r_gval (v := .int _ _) (v_sub (.inr ⟨_, rfl, fun h => h⟩) (.inl rfl) (fun hA => by simp at hA; omega)) rfl rfl rfl (by decide) (.inl ⟨_, rfl, rfl⟩) rfl (by decide) ?_
  refine r_guard (v := .bool _) (q_call (vs := [.int _ _, .int _ _, .int _ _]) (args := [.int .i64 _, .int .i64 _, .int .i64 _]) hb55 ⟨.inr ⟨_, rfl, fun h => h⟩, .inl rfl, .inr ⟨_, rfl, fun h => h⟩, trivial⟩ rfl (fun hA => within_c _ _ _) rfl rfl) rfl rfl rfl (by decide) (.inl ⟨_, rfl, rfl⟩) rfl (by decide) ?_
  refine rv (v := .bool _) (v_pick (.inl rfl) (.inr ⟨_, rfl, fun h h2 => by simp_all⟩) (.inl rfl)) ?_
  refine rv (v := .bool _) (v_assign (.inl rfl) nf) ?_
  refine r_nil ?_
  refine a_ret ?_
  refine ret1 Tryz.results114 (by decide) (by decide) (Weak.of_eq (bool_eq ?_)) rfl Leaves.nil
  all_goals (unfold nodeB; rw [if_pos (by simpa using ht9)]; simp [Bool.and_assoc]; done)
 ·
  skip
  refine a_skip ?_
  refine a_seq ?_
  refine a_region ?_
  refine rv (v := .rp _ _) (v_fieldAddr_rp fo30_0 (.inl rfl)) ?_
  refine rv (v := .int _ _) (v_load_rp1 ta3 (.inl rfl) rfl (fun _ => rfl) rfl) ?_
  refine rv (v := .rp _ _) (v_fieldAddr_rp fo62_0 (.inl rfl)) ?_
  refine rv (v := .int _ _) (v_load_rp1 ta3 (.inl rfl) rfl (fun _ => rfl) rfl) ?_
  refine rn (v := .bool _) (q_call (vs := [.int _ _, .int _ _]) (args := [.int .i64 _, .int .i64 _]) hb32 ⟨.inl rfl, .inl rfl, trivial⟩ rfl (fun hA => isVar_c _ _) rfl rfl) ?_
  refine rv (v := .bool _) (v_move (.inl rfl) nf) ?_
  refine r_gval (v := .rp _ _) (v_fieldAddr_rp fo62_1 (.inl rfl)) rfl rfl rfl (by decide) (.inl ⟨_, rfl, rfl⟩) rfl (by decide) ?_
  refine r_gval (v := .int _ _) (v_load_rp1 ta3 (.inr ⟨_, rfl, fun h => h⟩) rfl (fun _ => rfl) rfl) rfl rfl rfl (by decide) (.inl ⟨_, rfl, rfl⟩) rfl (by decide) ?_
  refine r_gval (v := .rp _ _) (v_fieldAddr_rp fo62_2 (.inl rfl)) rfl rfl rfl (by decide) (.inl ⟨_, rfl, rfl⟩) rfl (by decide) ?_
  refine r_gval (v := .int _ _) (v_load_rp1 ta3 (.inr ⟨_, rfl, fun h => h⟩) rfl (fun _ => rfl) rfl) rfl rfl rfl (by decide) (.inl ⟨_, rfl, rfl⟩) rfl (by decide) ?_
  refine r_gval (v := .bool _) (v_neq (.inr ⟨_, rfl, fun h => h⟩) (.inr ⟨_, rfl, fun h => h⟩)) rfl rfl rfl (by decide) (.inl ⟨_, rfl, rfl⟩) rfl (by decide) ?_
  refine rv (v := .bool _) (v_pick (.inl rfl) (.inr ⟨_, rfl, fun h h2 => by simp_all⟩) (.inl rfl)) ?_
  refine rv (v := .bool _) (v_move (.inl rfl) nf) ?_
  refine r_gval (v := .rp _ _) (v_fieldAddr_rp fo62_1 (.inl rfl)) rfl rfl rfl (by decide) (.inl ⟨_, rfl, rfl⟩) rfl (by decide) ?_
  refine r_gval (v := .int _ _) (v_load_rp1 ta3 (.inr ⟨_, rfl, fun h => h⟩) rfl (fun _ => rfl) rfl) rfl rfl rfl (by decide) (.inl ⟨_, rfl, rfl⟩) rfl (by decide) ?_
  refine r_gval (v := .int _ _) (v_move (.inl rfl) nf) rfl rfl rfl (by decide) (.inl ⟨_, rfl, rfl⟩) rfl (by decide) ?_
  refine r_gval (v := .int _ _) (v_sub (.inr ⟨_, rfl, fun h => h⟩) (.inl rfl) (fun hA => by simp at hA; omega)) rfl rfl rfl (by decide) (.inl ⟨_, rfl, rfl⟩) rfl (by decide) ?_
  refine r_guard (v := .bool _) (q_call (vs := [.int _ _, .int _ _, .int _ _]) (args := [.int .i64 _, .int .i64 _, .int .i64 _]) hb55 ⟨.inr ⟨_, rfl, fun h => h⟩, .inl rfl, .inr ⟨_, rfl, fun h => h⟩, trivial⟩ rfl (fun hA => within_c _ _ _) rfl rfl) rfl rfl rfl (by decide) (.inl ⟨_, rfl, rfl⟩) rfl (by decide) ?_
  refine rv (v := .bool _) (v_pick (.inl rfl) (.inr ⟨_, rfl, fun h h2 => by simp_all⟩) (.inl rfl)) ?_
  refine rv (v := .bool _) (v_move (.inl rfl) nf) ?_
  refine r_gval (v := .rp _ _) (v_fieldAddr_rp fo62_2 (.inl rfl)) rfl rfl rfl (by decide) (.inl ⟨_, rfl, rfl⟩) rfl (by decide) ?_
  refine r_gval (v := .int _ _) (v_load_rp1 ta3 (.inr ⟨_, rfl, fun h => h⟩) rfl (fun _ => rfl) rfl) rfl rfl rfl (by decide) (.inl ⟨_, rfl, rfl⟩) rfl (by decide) ?_
  refine r_gval (v := .int _ _) (v_move (.inl rfl) nf) rfl rfl rfl (by decide) (.inl ⟨_, rfl, rfl⟩) rfl (by decide) ?_
  refine r_gval (v := .int _ _) (v_sub (.inr ⟨_, rfl, fun h => h⟩) (.inl rfl) (fun hA => by simp at hA; omega)) rfl rfl rfl (by decide) (.inl ⟨_, rfl, rfl⟩) rfl (by decide) ?_
  refine r_guard (v := .bool _) (q_call (vs := [.int _ _, .int _ _, .int _ _]) (args := [.int .i64 _, .int .i64 _, .int .i64 _]) hb55 ⟨.inr ⟨_, rfl, fun h => h⟩, .inl rfl, .inr ⟨_, rfl, fun h => h⟩, trivial⟩ rfl (fun hA => within_c _ _ _) rfl rfl) rfl rfl rfl (by decide) (.inl ⟨_, rfl, rfl⟩) rfl (by decide) ?_
  refine rv (v := .bool _) (v_pick (.inl rfl) (.inr ⟨_, rfl, fun h h2 => by simp_all⟩) (.inl rfl)) ?_
  refine rv (v := .bool _) (v_move (.inl rfl) nf) ?_
  refine r_gval (v := .rp _ _) (v_fieldAddr_rp fo62_3 (.inl rfl)) rfl rfl rfl (by decide) (.inl ⟨_, rfl, rfl⟩) rfl (by decide) ?_
  refine r_gval (v := .int _ _) (v_load_rp1 ta3 (.inr ⟨_, rfl, fun h => h⟩) rfl (fun _ => rfl) rfl) rfl rfl rfl (by decide) (.inl ⟨_, rfl, rfl⟩) rfl (by decide) ?_
  refine r_gval (v := .bool _) (v_eql (.inr ⟨_, rfl, fun h => h⟩) (.inl rfl)) rfl rfl rfl (by decide) (.inl ⟨_, rfl, rfl⟩) rfl (by decide) ?_
  refine rv (v := .bool _) (v_pick (.inl rfl) (.inr ⟨_, rfl, fun h h2 => by simp_all⟩) (.inl rfl)) ?_
  refine rv (v := .bool _) (v_assign (.inl rfl) nf) ?_
  refine r_nil ?_
  refine a_ret ?_
  refine ret1 Tryz.results114 (by decide) (by decide) (Weak.of_eq (bool_eq ?_)) rfl Leaves.nil
  all_goals (unfold nodeB; rw [if_neg (by simpa using ht9)]; cases h1 : inR x.1 1 vars <;> cases h2 : inR x.2.1 0 (i - 1) <;> cases h3 : inR x.2.2.1 0 (i - 1) <;> simp_all <;> (cases h4 : decide (x.2.1 = x.2.2.1) <;> simp_all))
theorem node9_c (vars : Int) (L : List (List Int)) (x : TN) (i : Int) (hL : (L.length : Int) ≤ 1000000) (hi : 0 ≤ i ∧ i ≤ 1000000) : ACall Tryz.prog 91 [.agg [.int .i64 vars, .sl (sls L) L.length], .agg [.int .i64 x.1, .int .i64 x.2.1, .int .i64 x.2.2.1, .int .i64 x.2.2.2], .int .i64 i] [] (.bool (nodeB vars L.length i x)) [] := by
 refine ACall.intro Tryz.func91 rfl (N := 57) rfl (by decide) (by simp) ?_
 refine a_seq ?_
 refine a_region ?_
 refine rn (v := .op [.int _ _, .sl _ _]) (q_box (.inl rfl) rfl rfl) ?_
 refine rn (v := .op [.int _ _, .int _ _, .int _ _, .int _ _]) (q_box (.inl rfl) rfl rfl) ?_
 refine rv (v := .bool _) (v_assign (.inl rfl) nf) ?_
 refine r_nil ?_
 refine a_seq ?_
 refine a_seq ?_
 refine a_region ?_
 refine rv (v := .agg [.int _ _, .int _ _, .int _ _, .int _ _]) (v_load_rpa1 ta62 (.inl rfl) rfl rfl (fun _ => rfl) rfl) ?_
 refine rn (v := .bool _) (q_call (vs := [.agg [.int _ _, .int _ _, .int _ _, .int _ _]]) (args := [.agg [.int .i64 _, .int .i64 _, .int .i64 _, .int .i64 _]]) hb92 ⟨.inl rfl, trivial⟩ rfl (fun hA => leaf_c _) rfl rfl) ?_
 refine r_nil ?_
 refine a_cond rfl (fun ht8 => ?_) (fun ht8 => ?_)
 ·
  skip
  refine a_seq ?_
  refine a_region ?_
  refine rv (v := .rp _ _) (v_fieldAddr_rp fo62_1 (.inl rfl)) ?_
  refine rv (v := .int _ _) (v_load_rp1 ta3 (.inl rfl) rfl (fun _ => rfl) rfl) ?_
  refine rv (v := .bool _) (v_eql (.inl rfl) (.inl rfl)) ?_
  refine rv (v := .bool _) (v_move (.inl rfl) nf) ?_
  refine r_gval (v := .rp _ _) (v_fieldAddr_rp fo62_2 (.inl rfl)) rfl rfl rfl (by decide) (.inl ⟨_, rfl, rfl⟩) rfl (by decide) ?_
  refine r_gval (v := .int _ _) (v_load_rp1 ta3 (.inr ⟨_, rfl, fun h => h⟩) rfl (fun _ => rfl) rfl) rfl rfl rfl (by decide) (.inl ⟨_, rfl, rfl⟩) rfl (by decide) ?_
  refine r_gval (v := .bool _) (v_eql (.inr ⟨_, rfl, fun h => h⟩) (.inl rfl)) rfl rfl rfl (by decide) (.inl ⟨_, rfl, rfl⟩) rfl (by decide) ?_
  refine rv (v := .bool _) (v_pick (.inl rfl) (.inr ⟨_, rfl, fun h h2 => by simp_all⟩) (.inl rfl)) ?_
  refine rv (v := .bool _) (v_move (.inl rfl) nf) ?_
  refine r_gval (v := .rp _ _) (v_fieldAddr_rp fo62_3 (.inl rfl)) rfl rfl rfl (by decide) (.inl ⟨_, rfl, rfl⟩) rfl (by decide) ?_
  refine r_gval (v := .int _ _) (v_load_rp1 ta3 (.inr ⟨_, rfl, fun h => h⟩) rfl (fun _ => rfl) rfl) rfl rfl rfl (by decide) (.inl ⟨_, rfl, rfl⟩) rfl (by decide) ?_
  refine r_gval (v := .rp _ _) (v_fieldAddr_rp fo30_1 (.inl rfl)) rfl rfl rfl (by decide) (.inl ⟨_, rfl, rfl⟩) rfl (by decide) ?_
  refine r_gval (v := .sl _ _) (v_load_rp1 ta22 (.inr ⟨_, rfl, fun h => h⟩) rfl (fun _ => rfl) rfl) rfl rfl rfl (by decide) (.inl ⟨_, rfl, rfl⟩) rfl (by decide) ?_
  refine r_gval (v := .int _ _) (v_len_sl sl22 (.inr ⟨_, rfl, fun h => h⟩)) rfl rfl rfl (by decide) (.inl ⟨_, rfl, rfl⟩) rfl (by decide) ?_
  refine r_gval (v := .int _ _) (v_sub (.inr ⟨_, rfl, fun h => h⟩) (.inl rfl) (fun hA => by simp at hA; omega)) rfl rfl rfl (by decide) (.inl ⟨_, rfl, rfl⟩) rfl (by decide) ?_
  refine r_guard (v := .bool _) (q_call (vs := [.int _ _, .int _ _, .int _ _]) (args := [.int .i64 _, .int .i64 _, .int .i64 _]) hb47 ⟨.inr ⟨_, rfl, fun h => h⟩, .inl rfl, .inr ⟨_, rfl, fun h => h⟩, trivial⟩ rfl (fun hA => l1In_c _ _ _) rfl rfl) rfl rfl rfl (by decide) (.inl ⟨_, rfl, rfl⟩) rfl (by decide) ?_
  refine rv (v := .bool _) (v_pick (.inl rfl) (.inr ⟨_, rfl, fun h h2 => by simp_all⟩) (.inl rfl)) ?_
  refine rv (v := .bool _) (v_assign (.inl rfl) nf) ?_
  refine r_nil ?_
  refine a_ret ?_
  refine ret1 Tryz.results91 (by decide) (by decide) (Weak.of_eq (bool_eq ?_)) rfl Leaves.nil
  all_goals (unfold nodeB; rw [if_pos (by simpa using ht8)]; simp [Bool.and_assoc]; done)
 ·
  skip
  refine a_skip ?_
  refine a_seq ?_
  refine a_region ?_
  refine rv (v := .rp _ _) (v_fieldAddr_rp fo62_0 (.inl rfl)) ?_
  refine rv (v := .int _ _) (v_load_rp1 ta3 (.inl rfl) rfl (fun _ => rfl) rfl) ?_
  refine rv (v := .rp _ _) (v_fieldAddr_rp fo30_0 (.inl rfl)) ?_
  refine rv (v := .int _ _) (v_load_rp1 ta3 (.inl rfl) rfl (fun _ => rfl) rfl) ?_
  refine rn (v := .bool _) (q_call (vs := [.int _ _, .int _ _, .int _ _]) (args := [.int .i64 _, .int .i64 _, .int .i64 _]) hb47 ⟨.inl rfl, .inl rfl, .inl rfl, trivial⟩ rfl (fun hA => l1In_c _ _ _) rfl rfl) ?_
  refine rv (v := .bool _) (v_move (.inl rfl) nf) ?_
  refine r_gval (v := .rp _ _) (v_fieldAddr_rp fo62_1 (.inl rfl)) rfl rfl rfl (by decide) (.inl ⟨_, rfl, rfl⟩) rfl (by decide) ?_
  refine r_gval (v := .int _ _) (v_load_rp1 ta3 (.inr ⟨_, rfl, fun h => h⟩) rfl (fun _ => rfl) rfl) rfl rfl rfl (by decide) (.inl ⟨_, rfl, rfl⟩) rfl (by decide) ?_
  refine r_gval (v := .int _ _) (v_move (.inl rfl) nf) rfl rfl rfl (by decide) (.inl ⟨_, rfl, rfl⟩) rfl (by decide) ?_
  refine r_gval (v := .int _ _) (v_sub (.inr ⟨_, rfl, fun h => h⟩) (.inl rfl) (fun hA => by simp at hA; omega)) rfl rfl rfl (by decide) (.inl ⟨_, rfl, rfl⟩) rfl (by decide) ?_
  refine r_guard (v := .bool _) (q_call (vs := [.int _ _, .int _ _, .int _ _]) (args := [.int .i64 _, .int .i64 _, .int .i64 _]) hb47 ⟨.inr ⟨_, rfl, fun h => h⟩, .inl rfl, .inr ⟨_, rfl, fun h => h⟩, trivial⟩ rfl (fun hA => l1In_c _ _ _) rfl rfl) rfl rfl rfl (by decide) (.inl ⟨_, rfl, rfl⟩) rfl (by decide) ?_
  refine rv (v := .bool _) (v_pick (.inl rfl) (.inr ⟨_, rfl, fun h h2 => by simp_all⟩) (.inl rfl)) ?_
  refine rv (v := .bool _) (v_move (.inl rfl) nf) ?_
  refine r_gval (v := .rp _ _) (v_fieldAddr_rp fo62_2 (.inl rfl)) rfl rfl rfl (by decide) (.inl ⟨_, rfl, rfl⟩) rfl (by decide) ?_
  refine r_gval (v := .int _ _) (v_load_rp1 ta3 (.inr ⟨_, rfl, fun h => h⟩) rfl (fun _ => rfl) rfl) rfl rfl rfl (by decide) (.inl ⟨_, rfl, rfl⟩) rfl (by decide) ?_
  refine r_gval (v := .int _ _) (v_move (.inl rfl) nf) rfl rfl rfl (by decide) (.inl ⟨_, rfl, rfl⟩) rfl (by decide) ?_
  refine r_gval (v := .int _ _) (v_sub (.inr ⟨_, rfl, fun h => h⟩) (.inl rfl) (fun hA => by simp at hA; omega)) rfl rfl rfl (by decide) (.inl ⟨_, rfl, rfl⟩) rfl (by decide) ?_
  refine r_guard (v := .bool _) (q_call (vs := [.int _ _, .int _ _, .int _ _]) (args := [.int .i64 _, .int .i64 _, .int .i64 _]) hb47 ⟨.inr ⟨_, rfl, fun h => h⟩, .inl rfl, .inr ⟨_, rfl, fun h => h⟩, trivial⟩ rfl (fun hA => l1In_c _ _ _) rfl rfl) rfl rfl rfl (by decide) (.inl ⟨_, rfl, rfl⟩) rfl (by decide) ?_
  refine rv (v := .bool _) (v_pick (.inl rfl) (.inr ⟨_, rfl, fun h h2 => by simp_all⟩) (.inl rfl)) ?_
  refine rv (v := .bool _) (v_move (.inl rfl) nf) ?_
  refine r_gval (v := .rp _ _) (v_fieldAddr_rp fo62_1 (.inl rfl)) rfl rfl rfl (by decide) (.inl ⟨_, rfl, rfl⟩) rfl (by decide) ?_
  refine r_gval (v := .int _ _) (v_load_rp1 ta3 (.inr ⟨_, rfl, fun h => h⟩) rfl (fun _ => rfl) rfl) rfl rfl rfl (by decide) (.inl ⟨_, rfl, rfl⟩) rfl (by decide) ?_
  refine r_gval (v := .rp _ _) (v_fieldAddr_rp fo62_2 (.inl rfl)) rfl rfl rfl (by decide) (.inl ⟨_, rfl, rfl⟩) rfl (by decide) ?_
  refine r_gval (v := .int _ _) (v_load_rp1 ta3 (.inr ⟨_, rfl, fun h => h⟩) rfl (fun _ => rfl) rfl) rfl rfl rfl (by decide) (.inl ⟨_, rfl, rfl⟩) rfl (by decide) ?_
  refine r_gval (v := .bool _) (v_neq (.inr ⟨_, rfl, fun h => h⟩) (.inr ⟨_, rfl, fun h => h⟩)) rfl rfl rfl (by decide) (.inl ⟨_, rfl, rfl⟩) rfl (by decide) ?_
  refine rv (v := .bool _) (v_pick (.inl rfl) (.inr ⟨_, rfl, fun h h2 => by simp_all⟩) (.inl rfl)) ?_
  refine rv (v := .bool _) (v_move (.inl rfl) nf) ?_
  refine r_gval (v := .rp _ _) (v_fieldAddr_rp fo62_3 (.inl rfl)) rfl rfl rfl (by decide) (.inl ⟨_, rfl, rfl⟩) rfl (by decide) ?_
  refine r_gval (v := .int _ _) (v_load_rp1 ta3 (.inr ⟨_, rfl, fun h => h⟩) rfl (fun _ => rfl) rfl) rfl rfl rfl (by decide) (.inl ⟨_, rfl, rfl⟩) rfl (by decide) ?_
  refine r_gval (v := .bool _) (v_eql (.inr ⟨_, rfl, fun h => h⟩) (.inl rfl)) rfl rfl rfl (by decide) (.inl ⟨_, rfl, rfl⟩) rfl (by decide) ?_
  refine rv (v := .bool _) (v_pick (.inl rfl) (.inr ⟨_, rfl, fun h h2 => by simp_all⟩) (.inl rfl)) ?_
  refine rv (v := .bool _) (v_assign (.inl rfl) nf) ?_
  refine r_nil ?_
  refine a_ret ?_
  refine ret1 Tryz.results91 (by decide) (by decide) (Weak.of_eq (bool_eq ?_)) rfl Leaves.nil
  all_goals (unfold nodeB; rw [if_neg (by simpa using ht8)]; cases h1 : inR x.1 1 vars <;> cases h2 : inR x.2.1 0 (i - 1) <;> cases h3 : inR x.2.2.1 0 (i - 1) <;> simp_all <;> (cases h4 : decide (x.2.1 = x.2.2.1) <;> simp_all))
end Go.Av
namespace Go.Av
open Go Go.Proofs Go.Sort
set_option maxRecDepth 10000
theorem es40 : elemSize Tryz.prog 40 = some 4 := by kernel_rfl
theorem es42 : elemSize Tryz.prog 42 = some 4 := by kernel_rfl
theorem fo64_0 : fieldOff Tryz.prog 64 0 = some 0 := by kernel_rfl
theorem fo64_1 : fieldOff Tryz.prog 64 1 = some 1 := by kernel_rfl
theorem fo64_2 : fieldOff Tryz.prog 64 2 = some 2 := by kernel_rfl
theorem fo64_3 : fieldOff Tryz.prog 64 3 = some 3 := by kernel_rfl
theorem hb38 : hasBody Tryz.prog 38 = true := by kernel_rfl
theorem hb43 : hasBody Tryz.prog 43 = true := by kernel_rfl
theorem sb62 : (Tryz.prog.info? 62).map (fun i => (i.size, i.bytes)) = some (4, 32) := by kernel_rfl
theorem sl40 : isSlice Tryz.prog 40 = true := by kernel_rfl
theorem sl42 : isSlice Tryz.prog 42 = true := by kernel_rfl
theorem ta64 : tyAgg Tryz.prog 64 = some (true, 4) := by kernel_rfl
theorem us42 : Tryz.prog.underlying 42 = some (.slice 62) := by kernel_rfl
theorem zc62 : zeroCells Tryz.prog 62 = some [.int .i64 0, .int .i64 0, .int .i64 0, .int .i64 0] := by kernel_rfl
theorem szTN_c (xs : List TN) (left : Int) (h : (xs.length : Int) ≤ 9223372036854775807 ∧ 0 ≤ left ∧ left ≤ 9223372036854775807) : ACall Tryz.prog 19 [.sl (tncells xs) xs.length, .int .i64 left] [] (.int .i64 (if left - xs.length < 0 then -1 else left - xs.length)) [] := by
  refine ACall.intro Tryz.func19 rfl (N := 12) rfl (by decide) (by simp) ?_
  refine a_seq ?_
  refine a_region ?_
  refine rv (v := .int _ _) (v_assign (.inl rfl) nf) ?_
  refine r_nil ?_
  refine a_seq ?_
  refine a_region ?_
  refine rv (v := .int _ _) (v_move (.inl rfl) nf) ?_
  refine rv (v := .sl _ _) (v_move (.inl rfl) nf) ?_
  refine rv (v := .int _ _) (v_len_sl sl40 (.inl rfl)) ?_
  refine rv (v := .int _ _) (v_sub (.inl rfl) (.inl rfl) (fun _ => by omega)) ?_
  refine rv (v := .int _ _) (v_assign (.inl rfl) nf) ?_
  refine r_nil ?_
  refine a_seq ?_
  refine a_seq ?_
  refine a_region ?_
  refine rv (v := .int _ _) (v_move (.inl rfl) nf) ?_
  refine rv (v := .bool _) (v_lss (.inl rfl) (.inl rfl)) ?_
  refine r_nil ?_
  refine a_cond rfl (fun ht10 => ?_) (fun ht10 => ?_)
  ·
    skip
    refine a_seq ?_
    refine a_region ?_
    refine rv (v := .int _ _) (v_assign (.inl rfl) nf) ?_
    refine r_nil ?_
    refine a_ret ?_
    refine ret1 Tryz.results19 (by decide) (by decide) (Weak.of_eq (int_eq ?_)) rfl Leaves.nil
    simp at ht10; rw [if_pos (by omega)]
  ·
    skip
    refine a_skip ?_
    refine a_seq ?_
    refine a_region ?_
    refine rv (v := .int _ _) (v_move (.inl rfl) nf) ?_
    refine rv (v := .int _ _) (v_assign (.inl rfl) nf) ?_
    refine r_nil ?_
    refine a_ret ?_
    refine ret1 Tryz.results19 (by decide) (by decide) (Weak.of_eq (int_eq ?_)) rfl Leaves.nil
    simp at ht10; rw [if_neg (by omega)]
theorem toTN_c (x : TN) : ACall Tryz.prog 38 [.agg [.int .i64 x.1, .int .i64 x.2.1, .int .i64 x.2.2.1, .int .i64 x.2.2.2]] [] (.agg [.int .i64 x.1, .int .i64 x.2.1, .int .i64 x.2.2.1, .int .i64 x.2.2.2]) [] := by
  refine ACall.intro Tryz.func38 rfl (N := 17) rfl (by decide) (by simp) ?_
  refine a_seq ?_
  refine a_region ?_
  refine rn (v := .op [.int _ _, .int _ _, .int _ _, .int _ _]) (q_box (.inl rfl) rfl rfl) ?_
  refine rn (v := .op [.int _ _, .int _ _, .int _ _, .int _ _]) (q_alloc zc62) ?_
  refine r_nil ?_
  refine a_seq ?_
  refine a_region ?_
  refine rn (v := .op [.int _ _, .int _ _, .int _ _, .int _ _]) (q_alloc zc62) ?_
  refine r_nil ?_
  refine a_seq ?_
  refine a_region ?_
  refine rv (v := .rp _ _) (v_fieldAddr_rp fo64_0 (.inl rfl)) ?_
  refine rv (v := .int _ _) (v_load_rp1 ta3 (.inl rfl) rfl (fun _ => rfl) rfl) ?_
  refine rv (v := .rp _ _) (v_fieldAddr_rp fo62_0 (.inl rfl)) ?_
  refine r_step rfl (o_store (v := .int _ _) (y' := .op [.int _ _, .int _ _, .int _ _, .int _ _]) rfl rfl ta3 (.inl rfl) (.inl rfl) rfl rfl rfl rfl rfl rfl (Nat.le_of_ble_eq_true rfl) (by decide) rfl rfl) ?_
  refine r_nil ?_
  refine a_seq ?_
  refine a_region ?_
  refine rv (v := .rp _ _) (v_fieldAddr_rp fo64_1 (.inl rfl)) ?_
  refine rv (v := .int _ _) (v_load_rp1 ta3 (.inl rfl) rfl (fun _ => rfl) rfl) ?_
  refine rv (v := .rp _ _) (v_fieldAddr_rp fo62_1 (.inl rfl)) ?_
  refine r_step rfl (o_store (v := .int _ _) (y' := .op [.int _ _, .int _ _, .int _ _, .int _ _]) rfl rfl ta3 (.inl rfl) (.inl rfl) rfl rfl rfl rfl rfl rfl (Nat.le_of_ble_eq_true rfl) (by decide) rfl rfl) ?_
  refine r_nil ?_
  refine a_seq ?_
  refine a_region ?_
  refine rv (v := .rp _ _) (v_fieldAddr_rp fo64_2 (.inl rfl)) ?_
  refine rv (v := .int _ _) (v_load_rp1 ta3 (.inl rfl) rfl (fun _ => rfl) rfl) ?_
  refine rv (v := .rp _ _) (v_fieldAddr_rp fo62_2 (.inl rfl)) ?_
  refine r_step rfl (o_store (v := .int _ _) (y' := .op [.int _ _, .int _ _, .int _ _, .int _ _]) rfl rfl ta3 (.inl rfl) (.inl rfl) rfl rfl rfl rfl rfl rfl (Nat.le_of_ble_eq_true rfl) (by decide) rfl rfl) ?_
  refine r_nil ?_
  refine a_seq ?_
  refine a_region ?_
  refine rv (v := .rp _ _) (v_fieldAddr_rp fo64_3 (.inl rfl)) ?_
  refine rv (v := .int _ _) (v_load_rp1 ta3 (.inl rfl) rfl (fun _ => rfl) rfl) ?_
  refine rv (v := .rp _ _) (v_fieldAddr_rp fo62_3 (.inl rfl)) ?_
  refine r_step rfl (o_store (v := .int _ _) (y' := .op [.int _ _, .int _ _, .int _ _, .int _ _]) rfl rfl ta3 (.inl rfl) (.inl rfl) rfl rfl rfl rfl rfl rfl (Nat.le_of_ble_eq_true rfl) (by decide) rfl rfl) ?_
  refine r_nil ?_
  refine a_seq ?_
  refine a_region ?_
  refine rv (v := .agg [.int _ _, .int _ _, .int _ _, .int _ _]) (v_load_rpa1 ta62 (.inl rfl) rfl rfl (fun _ => rfl) rfl) ?_
  refine r_step rfl (o_store (v := .agg [.int _ _, .int _ _, .int _ _, .int _ _]) (y' := .op [.int _ _, .int _ _, .int _ _, .int _ _]) rfl rfl ta62 (.inl rfl) (.inl rfl) rfl rfl rfl rfl rfl rfl (Nat.le_of_ble_eq_true rfl) (by decide) rfl rfl) ?_
  refine r_nil ?_
  refine a_ret ?_
  refine retC1 (r := .cell 2 62) Tryz.results38 ⟨by decide, _, cell_agg rfl ta62, rfl⟩ (by decide) (Weak.of_eq (agg_eq (l4_eq (int_eq ?_) (int_eq ?_) (int_eq ?_) (int_eq ?_)))) rfl Leaves.nil
  all_goals rfl
theorem toTNS_c (xs : List TN) (hl : (xs.length : Int) ≤ 1048576) : ACall Tryz.prog 21 [.sl (tncells xs) xs.length] [] (.osl 4 (tncells xs) xs.length none) [] := by
  refine ACall.intro Tryz.func21 rfl (N := 23) rfl (by decide) (by simp) ?_
  refine a_seq ?_
  refine a_region ?_
  refine rv (v := .nils) (v_assign (.inl rfl) nf) ?_
  refine r_nil ?_
  refine a_seq ?_
  refine a_region ?_
  refine rv (v := .sl _ _) (v_move (.inl rfl) nf) ?_
  refine rv (v := .int _ _) (v_len_sl sl40 (.inl rfl)) ?_
  refine rn (v := .osl _ _ _ _) (q_makeSlice us42 sb62 zc62 rfl (by decide) (.inl rfl) (.inl rfl) (fun _ => by omega)) ?_
  refine rv (v := .rsl _ _ _ _ _) (v_assign (.inl rfl) nf) ?_
  refine r_pre (ent_reloc_sl (t := 3) rfl rfl) ?_
  refine r_nil ?_
  refine a_seq ?_
  refine a_seq ?_
  refine a_region ?_
  refine rv (v := .int _ _) (v_assign (.inl rfl) nf) ?_
  refine r_nil ?_
  refine a_block ?_
  refine a_loop (X := Nat) (fun i => look [(0, .sl (tncells xs) xs.length), (3, .osl 4 (tncells (partN xs i)) xs.length (some xs.length)), (4, .int .i64 ((i : Nat) : Int))]) (fun i => i ≤ xs.length) (fun i => xs.length - i) 0 (ent_look ⟨Weak.of_eq rfl, Weak.of_eq (osl_eq (partN_zero xs).symm), Weak.of_eq rfl, trivial⟩) (Nat.zero_le _) (fun i hG => ?_)
  refine a_seq ?_
  refine a_seq ?_
  refine a_region ?_
  refine rv (v := .int _ _) (v_move (.inl rfl) nf) ?_
  refine rv (v := .sl _ _) (v_move (.inl rfl) nf) ?_
  refine rv (v := .int _ _) (v_len_sl sl40 (.inl rfl)) ?_
  refine rv (v := .bool _) (v_lss (.inl rfl) (.inl rfl)) ?_
  refine r_nil ?_
  refine a_cond rfl (fun ht11 => ?_) (fun ht11 => ?_)
  ·
    skip
    refine a_skip ?_
    refine a_seq ?_
    refine a_block ?_
    have hi : i < xs.length := (by simp at ht11; omega)
    have hpl : i * 4 + 4 ≤ (tncells (partN xs i)).length := (by rw [tncells_length, partN_len (by omega)]; omega)
    have hset := partN_set hi
    refine a_region ?_
    refine rv (v := .rsl _ _ _ _ _) (v_move (.inl rfl) nf) ?_
    refine rv (v := .int _ _) (v_move (.inl rfl) nf) ?_
    refine rv (v := .sl _ _) (v_move (.inl rfl) nf) ?_
    refine rv (v := .int _ _) (v_move (.inl rfl) nf) ?_
    refine rv (v := .pp _ _) (v_indexAddr_sl es40 (.inl rfl) (.inl rfl) (fun _ => ⟨by omega, by omega, tn_ne hi⟩)) ?_
    refine rv (v := .agg [.int .i64 (gn xs i).1, .int .i64 (gn xs i).2.1, .int .i64 (gn xs i).2.2.1, .int .i64 (gn xs i).2.2.2]) (v_load_ppa1 ta64 (.inl rfl) rfl (fun _ => tn_four hi) rfl) ?_
    refine rn (v := .agg [.int _ _, .int _ _, .int _ _, .int _ _]) (q_call (vs := [.agg [.int _ _, .int _ _, .int _ _, .int _ _]]) (args := [.agg [.int .i64 _, .int .i64 _, .int .i64 _, .int .i64 _]]) hb38 ⟨.inl rfl, trivial⟩ rfl (fun hA => toTN_c _) rfl rfl) ?_
    refine rv (v := .rp _ _) (v_indexAddr_rsl0 es42 (.inl rfl) (.inl rfl) (fun _ => by omega)) ?_
    refine r_step rfl (o_store (v := .agg [.int _ _, .int _ _, .int _ _, .int _ _]) (y' := .osl _ _ _ _) rfl rfl ta62 (.inl rfl) (.inl rfl) rfl rfl rfl rfl rfl rfl hpl (by decide) rfl (congrArg (fun c => AV.osl 4 c xs.length (some xs.length)) hset)) ?_
    refine r_nil ?_
    refine a_region ?_
    refine rv (v := .int _ _) (v_move (.inl rfl) nf) ?_
    refine rv (v := .int _ _) (v_add (.inl rfl) (.inl rfl) (fun _ => by omega)) ?_
    refine rv (v := .int _ _) (v_assign (.inl rfl) nf) ?_
    refine r_nil ?_
    refine ⟨i + 1, ent_look ⟨Weak.of_eq rfl, Weak.of_eq rfl, Weak.of_eq (int_eq (by omega)), trivial⟩, by omega, by omega⟩
  ·
    skip
    refine a_exit ?_
    refine a_seq ?_
    refine a_region ?_
    refine rv (v := .rsl _ _ _ _ _) (v_move (.inl rfl) nf) ?_
    refine rv (v := .rsl _ _ _ _ _) (v_assign (.inl rfl) nf) ?_
    refine r_pre (ent_reloc_sl (t := 2) rfl rfl) ?_
    refine r_nil ?_
    refine a_ret ?_
    refine ret1 Tryz.results21 (by decide) (by decide) (Weak.osl ?_ ?_) rfl Leaves.nil
    · simp at ht11; rw [partN_full (by omega)]
    · rfl
theorem eqTN_c (x y : TN) : ACall Tryz.prog 43 [.agg [.int .i64 x.1, .int .i64 x.2.1, .int .i64 x.2.2.1, .int .i64 x.2.2.2], .agg [.int .i64 y.1, .int .i64 y.2.1, .int .i64 y.2.2.1, .int .i64 y.2.2.2]] [] (.bool (decide (x = y))) [] := by
  refine ACall.intro Tryz.func43 rfl (N := 25) rfl (by decide) (by simp) ?_
  refine a_seq ?_
  refine a_region ?_
  refine rn (v := .op [.int _ _, .int _ _, .int _ _, .int _ _]) (q_box (.inl rfl) rfl rfl) ?_
  refine rn (v := .op [.int _ _, .int _ _, .int _ _, .int _ _]) (q_box (.inl rfl) rfl rfl) ?_
  refine rv (v := .bool _) (v_assign (.inl rfl) nf) ?_
  refine r_nil ?_
  refine a_seq ?_
  refine a_seq ?_
  refine a_region ?_
  refine rv (v := .rp _ _) (v_fieldAddr_rp fo62_0 (.inl rfl)) ?_
  refine rv (v := .int _ _) (v_load_rp1 ta3 (.inl rfl) rfl (fun _ => rfl) rfl) ?_
  refine rv (v := .rp _ _) (v_fieldAddr_rp fo62_0 (.inl rfl)) ?_
  refine rv (v := .int _ _) (v_load_rp1 ta3 (.inl rfl) rfl (fun _ => rfl) rfl) ?_
  refine rv (v := .bool _) (v_neq (.inl rfl) (.inl rfl)) ?_
  refine r_nil ?_
  refine a_cond rfl (fun ht9 => ?_) (fun ht9 => ?_)
  ·
    skip
    refine a_seq ?_
    refine a_region ?_
    refine rv (v := .bool _) (v_assign (.inl rfl) nf) ?_
    refine r_nil ?_
    refine a_ret ?_
    refine ret1 Tryz.results43 (by decide) (by decide) (Weak.of_eq (bool_eq ?_)) rfl Leaves.nil
    exact (decide_eq_false (fun h => by subst h; simp at ht9)).symm
  ·
    skip
    refine a_skip ?_
    refine a_seq ?_
    refine a_seq ?_
    refine a_region ?_
    refine rv (v := .rp _ _) (v_fieldAddr_rp fo62_1 (.inl rfl)) ?_
    refine rv (v := .int _ _) (v_load_rp1 ta3 (.inl rfl) rfl (fun _ => rfl) rfl) ?_
    refine rv (v := .rp _ _) (v_fieldAddr_rp fo62_1 (.inl rfl)) ?_
    refine rv (v := .int _ _) (v_load_rp1 ta3 (.inl rfl) rfl (fun _ => rfl) rfl) ?_
    refine rv (v := .bool _) (v_neq (.inl rfl) (.inl rfl)) ?_
    refine r_nil ?_
    refine a_cond rfl (fun ht14 => ?_) (fun ht14 => ?_)
    ·
      skip
      refine a_seq ?_
      refine a_region ?_
      refine rv (v := .bool _) (v_assign (.inl rfl) nf) ?_
      refine r_nil ?_
      refine a_ret ?_
      refine ret1 Tryz.results43 (by decide) (by decide) (Weak.of_eq (bool_eq ?_)) rfl Leaves.nil
      exact (decide_eq_false (fun h => by subst h; simp at ht14)).symm
    ·
      skip
      refine a_skip ?_
      refine a_seq ?_
      refine a_seq ?_
      refine a_region ?_
      refine rv (v := .rp _ _) (v_fieldAddr_rp fo62_2 (.inl rfl)) ?_
      refine rv (v := .int _ _) (v_load_rp1 ta3 (.inl rfl) rfl (fun _ => rfl) rfl) ?_
      refine rv (v := .rp _ _) (v_fieldAddr_rp fo62_2 (.inl rfl)) ?_
      refine rv (v := .int _ _) (v_load_rp1 ta3 (.inl rfl) rfl (fun _ => rfl) rfl) ?_
      refine rv (v := .bool _) (v_neq (.inl rfl) (.inl rfl)) ?_
      refine r_nil ?_
      refine a_cond rfl (fun ht19 => ?_) (fun ht19 => ?_)
      ·
        skip
        refine a_seq ?_
        refine a_region ?_
        refine rv (v := .bool _) (v_assign (.inl rfl) nf) ?_
        refine r_nil ?_
        refine a_ret ?_
        refine ret1 Tryz.results43 (by decide) (by decide) (Weak.of_eq (bool_eq ?_)) rfl Leaves.nil
        exact (decide_eq_false (fun h => by subst h; simp at ht19)).symm
      ·
        skip
        refine a_skip ?_
        refine a_seq ?_
        refine a_seq ?_
        refine a_region ?_
        refine rv (v := .rp _ _) (v_fieldAddr_rp fo62_3 (.inl rfl)) ?_
        refine rv (v := .int _ _) (v_load_rp1 ta3 (.inl rfl) rfl (fun _ => rfl) rfl) ?_
        refine rv (v := .rp _ _) (v_fieldAddr_rp fo62_3 (.inl rfl)) ?_
        refine rv (v := .int _ _) (v_load_rp1 ta3 (.inl rfl) rfl (fun _ => rfl) rfl) ?_
        refine rv (v := .bool _) (v_neq (.inl rfl) (.inl rfl)) ?_
        refine r_nil ?_
        refine a_cond rfl (fun ht24 => ?_) (fun ht24 => ?_)
        ·
          skip
          refine a_seq ?_
          refine a_region ?_
          refine rv (v := .bool _) (v_assign (.inl rfl) nf) ?_
          refine r_nil ?_
          refine a_ret ?_
          refine ret1 Tryz.results43 (by decide) (by decide) (Weak.of_eq (bool_eq ?_)) rfl Leaves.nil
          exact (decide_eq_false (fun h => by subst h; simp at ht24)).symm
        ·
          skip
          refine a_skip ?_
          refine a_seq ?_
          refine a_region ?_
          refine rv (v := .bool _) (v_assign (.inl rfl) nf) ?_
          refine r_nil ?_
          refine a_ret ?_
          refine ret1 Tryz.results43 (by decide) (by decide) (Weak.of_eq (bool_eq ?_)) rfl Leaves.nil
          exact (decide_eq_true (Prod.ext (by simpa using ht9) (Prod.ext (by simpa using ht14) (Prod.ext (by simpa using ht19) (by simpa using ht24))))).symm
theorem eqTNS_c (xs ys : List TN) (hl : (xs.length : Int) ≤ 9223372036854775807) (hl2 : (ys.length : Int) ≤ 9223372036854775807) : ACall Tryz.prog 23 [.sl (tncells xs) xs.length, .sl (tncells ys) ys.length] [] (.bool (decide (xs = ys))) [] := by
  refine ACall.intro Tryz.func23 rfl (N := 27) rfl (by decide) (by simp) ?_
  refine a_seq ?_
  refine a_region ?_
  refine rv (v := .bool _) (v_assign (.inl rfl) nf) ?_
  refine r_nil ?_
  refine a_seq ?_
  refine a_seq ?_
  refine a_region ?_
  refine rv (v := .sl _ _) (v_move (.inl rfl) nf) ?_
  refine rv (v := .int _ _) (v_len_sl sl42 (.inl rfl)) ?_
  refine rv (v := .sl _ _) (v_move (.inl rfl) nf) ?_
  refine rv (v := .int _ _) (v_len_sl sl42 (.inl rfl)) ?_
  refine rv (v := .bool _) (v_neq (.inl rfl) (.inl rfl)) ?_
  refine r_nil ?_
  refine a_cond rfl (fun ht10 => ?_) (fun ht10 => ?_)
  ·
    skip
    refine a_seq ?_
    refine a_region ?_
    refine rv (v := .bool _) (v_assign (.inl rfl) nf) ?_
    refine r_nil ?_
    refine a_ret ?_
    refine ret1 Tryz.results23 (by decide) (by decide) (Weak.of_eq (bool_eq ?_)) rfl Leaves.nil
    simp at ht10; exact (decide_eq_false (fun h => ht10 (by rw [h]))).symm
  ·
    skip
    refine a_skip ?_
    refine a_seq ?_
    refine a_seq ?_
    refine a_region ?_
    refine rv (v := .int _ _) (v_assign (.inl rfl) nf) ?_
    refine r_nil ?_
    refine a_block ?_
    refine a_loop (X := Nat) (fun i => look [(0, .sl (tncells xs) xs.length), (1, .sl (tncells ys) ys.length), (5, .int .i64 ((i : Nat) : Int))]) (fun i => i ≤ xs.length ∧ xs.length = ys.length ∧ xs.take i = ys.take i) (fun i => xs.length - i) 0 (ent_look ⟨Weak.of_eq rfl, Weak.of_eq rfl, Weak.of_eq rfl, trivial⟩) ⟨Nat.zero_le _, by simp at ht10; omega, rfl⟩ (fun i hG => ?_)
    obtain ⟨g1, g2, g3⟩ := hG
    refine a_seq ?_
    refine a_seq ?_
    refine a_region ?_
    refine rv (v := .int _ _) (v_move (.inl rfl) nf) ?_
    refine rv (v := .sl _ _) (v_move (.inl rfl) nf) ?_
    refine rv (v := .int _ _) (v_len_sl sl42 (.inl rfl)) ?_
    refine rv (v := .bool _) (v_lss (.inl rfl) (.inl rfl)) ?_
    refine r_nil ?_
    refine a_cond rfl (fun ht14 => ?_) (fun ht14 => ?_)
    ·
      skip
      refine a_skip ?_
      refine a_seq ?_
      refine a_block ?_
      refine a_seq ?_
      have hi : i < xs.length := (by simp at ht14; omega)
      refine a_region_any mixed (by kernel_rfl) ?_
      refine yv (v := .sl _ _) (v_move (.inl rfl) nf) ?_
      refine yv (v := .int _ _) (v_move (.inl rfl) nf) ?_
      refine yv (v := .pp _ _) (v_indexAddr_sl es42 (.inl rfl) (.inl rfl) (fun _ => ⟨by omega, by omega, tn_ne hi⟩)) ?_
      refine yv (v := .agg [.int .i64 (gn xs i).1, .int .i64 (gn xs i).2.1, .int .i64 (gn xs i).2.2.1, .int .i64 (gn xs i).2.2.2]) (v_load_ppa1 ta62 (.inl rfl) rfl (fun _ => tn_four hi) rfl) ?_
      refine yv (v := .sl _ _) (v_move (.inl rfl) nf) ?_
      refine yv (v := .int _ _) (v_move (.inl rfl) nf) ?_
      refine yv (v := .pp _ _) (v_indexAddr_sl es42 (.inl rfl) (.inl rfl) (fun _ => ⟨by omega, by omega, tn_ne (xs := ys) (i := i) (by omega)⟩)) ?_
      refine yv (v := .agg [.int .i64 (gn ys i).1, .int .i64 (gn ys i).2.1, .int .i64 (gn ys i).2.2.1, .int .i64 (gn ys i).2.2.2]) (v_load_ppa1 ta62 (.inl rfl) rfl (fun _ => tn_four (xs := ys) (by omega)) rfl) ?_
      refine y_new (v := .bool _) (q_call (vs := [.agg [.int _ _, .int _ _, .int _ _, .int _ _], .agg [.int _ _, .int _ _, .int _ _, .int _ _]]) (args := [.agg [.int .i64 _, .int .i64 _, .int .i64 _, .int .i64 _], .agg [.int .i64 _, .int .i64 _, .int .i64 _, .int .i64 _]]) hb43 ⟨.inl rfl, .inl rfl, trivial⟩ rfl (fun hA => eqTN_c (gn xs i) (gn ys i)) rfl rfl) rfl rfl (by decide) (by kernel_rfl) ?_
      refine yv (v := .bool _) (v_not (.inl rfl)) ?_
      refine y_nil ?_
      refine a_cond rfl (fun ht26 => ?_) (fun ht26 => ?_)
      ·
        skip
        refine a_seq ?_
        refine a_region ?_
        refine rv (v := .bool _) (v_assign (.inl rfl) nf) ?_
        refine r_nil ?_
        refine a_ret ?_
        refine ret1 Tryz.results23 (by decide) (by decide) (Weak.of_eq (bool_eq ?_)) rfl Leaves.nil
        simp at ht26; refine (decide_eq_false (fun h => ?_)).symm
        subst h
        simp at ht26
      ·
        skip
        refine a_skip ?_
        refine a_region ?_
        refine rv (v := .int _ _) (v_move (.inl rfl) nf) ?_
        refine rv (v := .int _ _) (v_add (.inl rfl) (.inl rfl) (fun _ => by omega)) ?_
        refine rv (v := .int _ _) (v_assign (.inl rfl) nf) ?_
        refine r_nil ?_
        refine ⟨i + 1, ent_look ⟨Weak.of_eq rfl, Weak.of_eq rfl, Weak.of_eq (int_eq (by omega)), trivial⟩, ⟨by omega, g2, gn_take hi (by omega) g3 (by simpa using ht26)⟩, by omega⟩
    ·
      skip
      refine a_exit ?_
      refine a_seq ?_
      refine a_region ?_
      refine rv (v := .bool _) (v_assign (.inl rfl) nf) ?_
      refine r_nil ?_
      refine a_ret ?_
      refine ret1 Tryz.results23 (by decide) (by decide) (Weak.of_eq (bool_eq ?_)) rfl Leaves.nil
      simp at ht14; refine (decide_eq_true ?_).symm
      rw [List.take_of_length_le (by omega), List.take_of_length_le (by omega)] at g3; exact g3
end Go.Av
