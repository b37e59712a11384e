/- Lemmas, part 5. -/
import Derived.Test.YtmoncdcidlinfaaF4
import Derived.Sort.LotA
set_option linter.unusedVariables false
set_option linter.unusedSimpArgs false
namespace Go.Av
open Go Go.Proofs Go.Sort
set_option maxRecDepth 10000
theorem hb197 : hasBody Try.prog 197 = true := by kernel_rfl
theorem hb213 : hasBody Try.prog 213 = true := by kernel_rfl
theorem hb214 : hasBody Try.prog 214 = true := by kernel_rfl
theorem hb215 : hasBody Try.prog 215 = true := by kernel_rfl
theorem hb216 : hasBody Try.prog 216 = true := by kernel_rfl
theorem hb217 : hasBody Try.prog 217 = true := by kernel_rfl
theorem hb218 : hasBody Try.prog 218 = true := by kernel_rfl
theorem hb219 : hasBody Try.prog 219 = true := by kernel_rfl
theorem hb220 : hasBody Try.prog 220 = true := by kernel_rfl

theorem pdq_step (f : Nat) (hb : hasBody Try.prog f = true) (cf : Int → Int → Int) (hc : ∀ x y, ACall Try.prog f [.int .i64 x, .int .i64 y] [] (.int .i64 (cf x y)) []) (hS : SWO (ltc cf)) (n N : Nat) (hn : n ≤ 1152921504606846976) (ih : ∀ (d' : Array Int) (a' b' l' : Nat), d'.size = n → a' ≤ b' → b' ≤ n → b' - a' < N → l' ≤ 100 → Below (ltc cf) a' b' d' → ACall Try.prog 197 [.rsl (INH, []) 1 0 n none, .int .i64 ((a' : Nat) : Int), .int .i64 ((b' : Nat) : Int), .int .i64 ((l' : Nat) : Int), .fn f [] []] [.osl 1 (acells d') n none] (.tup []) [.osl 1 (acells (pdq (ltc cf) d' a' b' l' true true)) n none]) (d : Array Int) (a b limit : Nat) (hd : d.size = n) (hab : a ≤ b ∧ b ≤ n ∧ b - a ≤ N ∧ limit ≤ 100) (hB : Below (ltc cf) a b d)  : ACall Try.prog 197 [.rsl (INH, []) 1 0 n none, .int .i64 ((a : Nat) : Int), .int .i64 ((b : Nat) : Int), .int .i64 ((limit : Nat) : Int), .fn f [] []] [.osl 1 (acells d) n none] (.tup []) [.osl 1 (acells (pdq (ltc cf) d a b limit true true)) n none] := by
  refine ACall.intro Try.func197 rfl (N := 148) rfl (by decide) (by simp) ?_
  refine a_seq ?_
  refine a_region ?_
  refine r_val (v := .bool _) (v_assign (.inl rfl) (noOwn_flat rfl)) rfl rfl (by decide) ?_
  refine r_nil ?_
  refine a_seq ?_
  refine a_region ?_
  refine r_val (v := .bool _) (v_assign (.inl rfl) (noOwn_flat rfl)) rfl rfl (by decide) ?_
  refine r_nil ?_
  refine a_block ?_
  refine a_loop (X := PS) (fun x => look [(0, .rsl (INH, []) 1 0 n none), (1, .int .i64 ((x.a : Nat) : Int)), (2, .int .i64 ((x.b : Nat) : Int)), (3, .int .i64 ((x.lim : Nat) : Int)), (4, .fn f [] []), (10, .bool x.wb), (11, .bool x.wp), (INH, .osl 1 (acells x.d) n none)]) (fun x => PInv (ltc cf) n N (pdq (ltc cf) d a b limit true true) x) (fun x => x.b - x.a) ⟨a, b, limit, true, true, d⟩ (ent_look ⟨Weak.of_eq rfl, Weak.of_eq rfl, Weak.of_eq rfl, Weak.of_eq rfl, Weak.of_eq rfl, Weak.of_eq rfl, Weak.of_eq rfl, Weak.of_eq rfl, trivial⟩) ⟨hab.1, hab.2.1, hab.2.2.1, hab.2.2.2, hd, hB, rfl⟩ (fun x hG => ?_)
  have hP := hG
  obtain ⟨g1, g2, g3, g4, g5, g6, g7⟩ := hG
  refine a_block ?_
  refine a_seq ?_
  refine a_region ?_
  refine r_val (v := .int _ _) (v_move (.inl rfl) (noOwn_flat rfl)) rfl rfl (by decide) ?_
  refine r_val (v := .int _ _) (v_move (.inl rfl) (noOwn_flat rfl)) rfl rfl (by decide) ?_
  refine r_val (v := .int .i64 ((x.b - x.a : Nat) : Int)) ((v_sub (.inl rfl) (.inl rfl) (fun _ => by omega)).cast (int_eq (by omega))) rfl rfl (by decide) ?_
  refine r_val (v := .int _ _) (v_assign (.inl rfl) (noOwn_flat rfl)) rfl rfl (by decide) ?_
  refine r_nil ?_
  refine a_seq ?_
  refine a_seq ?_
  refine a_region ?_
  refine r_val (v := .int _ _) (v_move (.inl rfl) (noOwn_flat rfl)) rfl rfl (by decide) ?_
  refine r_val (v := .bool _) (v_leq (.inl rfl) (.inl rfl)) rfl rfl (by decide) ?_
  refine r_nil ?_
  refine a_cond rfl (fun ht25 => ?_) (fun ht25 => ?_)
  ·
    skip
    refine a_seq ?_
    have h12 : x.b - x.a ≤ 12 := (by simp at ht25; omega)
    refine a_region ?_
    refine r_val (v := .rsl _ _ _ _ _) (v_move (.inl rfl) (noOwn_flat rfl)) rfl rfl (by decide) ?_
    refine r_val (v := .int _ _) (v_move (.inl rfl) (noOwn_flat rfl)) rfl rfl (by decide) ?_
    refine r_val (v := .int _ _) (v_move (.inl rfl) (noOwn_flat rfl)) rfl rfl (by decide) ?_
    refine r_val (v := .fn _ _ _) (v_mv rfl) rfl rfl (by decide) ?_
    refine r_step rfl (o_callIO (q := (INH, [])) (vs := [.rsl _ _ _ _ _, .int _ _, .int _ _, .fn _ _ _]) (args := [.rsl (INH, []) _ _ _ _, .int .i64 _, .int .i64 _, .fn _ _ _]) (x0 := .osl _ _ _ _) (x1 := .osl _ _ _ _) (res := .tup []) rfl hb213 rfl (by decide) ⟨.inl rfl, .inl rfl, .inl rfl, .inl rfl, trivial⟩ rfl rfl (insertion_c f hb cf hc x.d n x.a x.b g5 (by omega) (by omega)) rfl rfl rfl (ac_noSh _) (ac_noRef _) (Nat.le_of_ble_eq_true rfl) (by decide) rfl) ?_
    refine r_nil ?_
    refine a_ret ?_
    refine ret0_look Try.results197 (by decide) ?_ rfl
    exact Weak.of_eq (osl_eq (by rw [← g7, pdq_small h12]))
  ·
    skip
    refine a_skip ?_
    refine a_seq ?_
    refine a_seq ?_
    refine a_region ?_
    refine r_val (v := .int _ _) (v_move (.inl rfl) (noOwn_flat rfl)) rfl rfl (by decide) ?_
    refine r_val (v := .bool _) (v_eql (.inl rfl) (.inl rfl)) rfl rfl (by decide) ?_
    refine r_nil ?_
    refine a_cond rfl (fun ht32 => ?_) (fun ht32 => ?_)
    ·
      skip
      refine a_seq ?_
      have h12 : ¬ x.b - x.a ≤ 12 := (by simp at ht25; omega)
      have h0 : x.lim = 0 := (by simp at ht32; omega)
      refine a_region ?_
      refine r_val (v := .rsl _ _ _ _ _) (v_move (.inl rfl) (noOwn_flat rfl)) rfl rfl (by decide) ?_
      refine r_val (v := .int _ _) (v_move (.inl rfl) (noOwn_flat rfl)) rfl rfl (by decide) ?_
      refine r_val (v := .int _ _) (v_move (.inl rfl) (noOwn_flat rfl)) rfl rfl (by decide) ?_
      refine r_val (v := .fn _ _ _) (v_mv rfl) rfl rfl (by decide) ?_
      refine r_step rfl (o_callIOk (q := (INH, [])) (vs := [.rsl _ _ _ _ _, .int _ _, .int _ _, .fn _ _ _]) (args := [.rsl (INH, []) _ _ _ _, .int .i64 _, .int .i64 _, .fn _ _ _]) (x0 := .osl _ _ _ _) (x1 := .osl _ _ _ _) (res := .tup []) rfl hb214 rfl (by decide) ⟨.inl rfl, .inl rfl, .inl rfl, .inl rfl, trivial⟩ rfl rfl (heapSort_c f hb cf hc x.d n x.a x.b g5 (by omega) hn) (by simp [stays]; omega) rfl rfl rfl (ac_noSh _) (ac_noRef _) (Nat.le_of_ble_eq_true rfl) (by decide) rfl) ?_
      refine r_nil ?_
      refine a_ret ?_
      refine ret0_look Try.results197 (by decide) ?_ rfl
      exact Weak.of_eq (osl_eq (by rw [← g7, pdq_heap h12 h0]))
    ·
      skip
      refine a_skip ?_
      refine a_join (X := Unit) (fun _u => look [(0, .rsl (INH, []) 1 0 n none), (1, .int .i64 ((x.a : Nat) : Int)), (2, .int .i64 ((x.b : Nat) : Int)), (3, .int .i64 (((x.rd (ltc cf)).lim : Nat) : Int)), (4, .fn f [] []), (10, .bool x.wb), (11, .bool x.wp), (12, .int .i64 ((x.b - x.a : Nat) : Int)), (INH, .osl 1 (acells (x.rd (ltc cf)).d1) n none)]) (fun _u => True) ?_ (fun _u hJ => ?_)
      ·
        skip
        refine a_seq ?_
        have h12 : ¬ x.b - x.a ≤ 12 := (by simp at ht25; omega)
        have h0 : ¬ x.lim = 0 := (by simp at ht32; omega)
        have hf := hP.facts hS h12
        refine a_region ?_
        refine r_val (v := .bool _) (v_move (.inl rfl) (noOwn_flat rfl)) rfl rfl (by decide) ?_
        refine r_val (v := .bool _) (v_not (.inl rfl)) rfl rfl (by decide) ?_
        refine r_nil ?_
        refine a_cond rfl (fun ht39 => ?_) (fun ht39 => ?_)
        ·
          skip
          refine a_seq ?_
          refine a_region ?_
          refine r_val (v := .rsl _ _ _ _ _) (v_move (.inl rfl) (noOwn_flat rfl)) rfl rfl (by decide) ?_
          refine r_val (v := .int _ _) (v_move (.inl rfl) (noOwn_flat rfl)) rfl rfl (by decide) ?_
          refine r_val (v := .int _ _) (v_move (.inl rfl) (noOwn_flat rfl)) rfl rfl (by decide) ?_
          refine r_val (v := .fn _ _ _) (v_mv rfl) rfl rfl (by decide) ?_
          refine r_step rfl (o_callIOk (q := (INH, [])) (vs := [.rsl _ _ _ _ _, .int _ _, .int _ _, .fn _ _ _]) (args := [.rsl (INH, []) _ _ _ _, .int .i64 _, .int .i64 _, .fn _ _ _]) (x0 := .osl _ _ _ _) (x1 := .osl _ _ _ _) (res := .tup []) rfl hb215 rfl (by decide) ⟨.inl rfl, .inl rfl, .inl rfl, .inl rfl, trivial⟩ rfl rfl (breakPatterns_c f x.d n x.a x.b g5 (by omega) hn) (by simp [stays]; omega) rfl rfl rfl (ac_noSh _) (ac_noRef _) (Nat.le_of_ble_eq_true rfl) (by decide) rfl) ?_
          refine r_nil ?_
          refine a_region ?_
          refine r_val (v := .int _ _) (v_move (.inl rfl) (noOwn_flat rfl)) rfl rfl (by decide) ?_
          refine r_val (v := .int _ _) (v_sub (.inl rfl) (.inl rfl) (fun _ => by omega)) rfl rfl (by decide) ?_
          refine r_val (v := .int _ _) (v_assign (.inl rfl) (noOwn_flat rfl)) rfl rfl (by decide) ?_
          refine r_nil ?_
          have hw : x.wb = false := (by simpa using ht39)
          have hl := (rdF (lt := (ltc cf)) hw)
          exact ⟨(), ent_look ⟨Weak.of_eq rfl, Weak.of_eq rfl, Weak.of_eq rfl, Weak.of_eq (int_eq (by have := hl.1; omega)), Weak.of_eq rfl, Weak.of_eq rfl, Weak.of_eq rfl, Weak.of_eq rfl, Weak.of_eq (osl_eq (by rw [hl.2])), trivial⟩, trivial⟩
        ·
          skip
          refine a_skip ?_
          have hw : x.wb = true := (by simpa using ht39)
          have hl := (rdT (lt := (ltc cf)) hw)
          exact ⟨(), ent_look ⟨Weak.of_eq rfl, Weak.of_eq rfl, Weak.of_eq rfl, Weak.of_eq (int_eq (by have := hl.1; omega)), Weak.of_eq rfl, Weak.of_eq rfl, Weak.of_eq rfl, Weak.of_eq rfl, Weak.of_eq (osl_eq (by rw [hl.2])), trivial⟩, trivial⟩
      ·
        skip
        have h12 : ¬ x.b - x.a ≤ 12 := (by simp at ht25; omega)
        have h0 : ¬ x.lim = 0 := (by simp at ht32; omega)
        have hf := hP.facts hS h12
        refine a_seq ?_
        refine a_region ?_
        refine r_val (v := .rsl _ _ _ _ _) (v_move (.inl rfl) (noOwn_flat rfl)) rfl rfl (by decide) ?_
        refine r_val (v := .int _ _) (v_move (.inl rfl) (noOwn_flat rfl)) rfl rfl (by decide) ?_
        refine r_val (v := .int _ _) (v_move (.inl rfl) (noOwn_flat rfl)) rfl rfl (by decide) ?_
        refine r_val (v := .fn _ _ _) (v_mv rfl) rfl rfl (by decide) ?_
        refine r_new (v := .tup [.int _ _, .int _ _]) (q_call (vs := [.rsl _ _ _ _ _, .int _ _, .int _ _, .fn _ _ _]) (args := [.sl _ _, .int .i64 _, .int .i64 _, .fn _ _ _]) hb216 ⟨.inl rfl, .inl rfl, .inl rfl, .inl rfl, trivial⟩ (l4_eq (sl_sh (ac_pure _)) rfl rfl rfl) (fun hA => choosePivot_c f hb cf hc _ n x.a x.b hf.1 (by omega) hn) rfl rfl) rfl rfl (by decide) ?_
        refine r_val (v := .tup [.int _ _, .int _ _]) (v_mv rfl) rfl rfl (by decide) ?_
        refine r_val (v := .int .i64 (((x.rd (ltc cf)).c.1 : Nat) : Int)) ((v_extract rfl rfl).cast (int_eq rfl)) rfl rfl (by decide) ?_
        refine r_val (v := .int .i64 ((hintN (x.rd (ltc cf)).c.2 : Nat) : Int)) ((v_extract rfl rfl).cast (int_eq rfl)) rfl rfl (by decide) ?_
        refine r_val (v := .int _ _) (v_assign (.inl rfl) (noOwn_flat rfl)) rfl rfl (by decide) ?_
        refine r_val (v := .int _ _) (v_assign (.inl rfl) (noOwn_flat rfl)) rfl rfl (by decide) ?_
        refine r_nil ?_
        refine a_join (X := Unit) (fun _u => look [(0, .rsl (INH, []) 1 0 n none), (1, .int .i64 ((x.a : Nat) : Int)), (2, .int .i64 ((x.b : Nat) : Int)), (3, .int .i64 (((x.rd (ltc cf)).lim : Nat) : Int)), (4, .fn f [] []), (10, .bool x.wb), (11, .bool x.wp), (12, .int .i64 ((x.b - x.a : Nat) : Int)), (13, .int .i64 (((x.rd (ltc cf)).pivot : Nat) : Int)), (14, .int .i64 ((hintN (x.rd (ltc cf)).hint : Nat) : Int)), (INH, .osl 1 (acells (x.rd (ltc cf)).d2) n none)]) (fun _u => True) ?_ (fun _u hJ => ?_)
        ·
          skip
          refine a_seq ?_
          refine a_region ?_
          refine r_val (v := .int _ _) (v_move (.inl rfl) (noOwn_flat rfl)) rfl rfl (by decide) ?_
          refine r_val (v := .bool _) (v_eql (.inl rfl) (.inl rfl)) rfl rfl (by decide) ?_
          refine r_nil ?_
          refine a_cond rfl (fun ht56 => ?_) (fun ht56 => ?_)
          ·
            skip
            refine a_seq ?_
            refine a_region ?_
            refine r_val (v := .rsl _ _ _ _ _) (v_move (.inl rfl) (noOwn_flat rfl)) rfl rfl (by decide) ?_
            refine r_val (v := .int _ _) (v_move (.inl rfl) (noOwn_flat rfl)) rfl rfl (by decide) ?_
            refine r_val (v := .int _ _) (v_move (.inl rfl) (noOwn_flat rfl)) rfl rfl (by decide) ?_
            refine r_val (v := .fn _ _ _) (v_mv rfl) rfl rfl (by decide) ?_
            refine r_step rfl (o_callIOk (q := (INH, [])) (vs := [.rsl _ _ _ _ _, .int _ _, .int _ _, .fn _ _ _]) (args := [.rsl (INH, []) _ _ _ _, .int .i64 _, .int .i64 _, .fn _ _ _]) (x0 := .osl _ _ _ _) (x1 := .osl _ _ _ _) (res := .tup []) rfl hb217 rfl (by decide) ⟨.inl rfl, .inl rfl, .inl rfl, .inl rfl, trivial⟩ rfl rfl (reverse_c f _ n x.a x.b hf.1 (by omega) hn) (by simp [stays]; omega) rfl rfl rfl (ac_noSh _) (ac_noRef _) (Nat.le_of_ble_eq_true rfl) (by decide) rfl) ?_
            refine r_nil ?_
            refine a_seq ?_
            refine a_region ?_
            refine r_val (v := .int _ _) (v_move (.inl rfl) (noOwn_flat rfl)) rfl rfl (by decide) ?_
            refine r_val (v := .int _ _) (v_sub (.inl rfl) (.inl rfl) (fun _ => by omega)) rfl rfl (by decide) ?_
            refine r_val (v := .int _ _) (v_move (.inl rfl) (noOwn_flat rfl)) rfl rfl (by decide) ?_
            refine r_val (v := .int _ _) (v_move (.inl rfl) (noOwn_flat rfl)) rfl rfl (by decide) ?_
            refine r_val (v := .int _ _) (v_sub (.inl rfl) (.inl rfl) (fun _ => by omega)) rfl rfl (by decide) ?_
            refine r_val (v := .int _ _) (v_sub (.inl rfl) (.inl rfl) (fun _ => by omega)) rfl rfl (by decide) ?_
            refine r_val (v := .int _ _) (v_assign (.inl rfl) (noOwn_flat rfl)) rfl rfl (by decide) ?_
            refine r_nil ?_
            refine a_pre (ent_look (L := [(0, .rsl _ _ _ _ _), (1, .int _ _), (2, .int _ _), (3, .int _ _), (4, .fn _ _ _), (10, .bool _), (11, .bool _), (12, .int _ _), (13, .int _ _), (14, .int _ _), (INH, .osl _ _ _ _)]) ⟨Weak.rfl, Weak.rfl, Weak.rfl, Weak.rfl, Weak.rfl, Weak.rfl, Weak.rfl, Weak.rfl, Weak.rfl, Weak.rfl, Weak.rfl, trivial⟩) ?_
            refine a_region ?_
            refine r_val (v := .int _ _) (v_assign (.inl rfl) (noOwn_flat rfl)) rfl rfl (by decide) ?_
            refine r_nil ?_
            have hd2 := rd_dec (lt := (ltc cf)) (hintN_two.1 (of_decide_eq_true ht56) : (x.rd (ltc cf)).c.2 = .decreasing)
            exact ⟨(), ent_look ⟨Weak.of_eq rfl, Weak.of_eq rfl, Weak.of_eq rfl, Weak.of_eq rfl, Weak.of_eq rfl, Weak.of_eq rfl, Weak.of_eq rfl, Weak.of_eq rfl, Weak.of_eq (int_eq (by have h1 := hd2.2.1; have h2 := hf.2.1; dsimp only [PS.rd] at *; omega)), Weak.of_eq (int_eq (by rw [hd2.2.2]; rfl)), Weak.of_eq (osl_eq (by rw [hd2.1])), trivial⟩, trivial⟩
          ·
            skip
            refine a_skip ?_
            have hd2 := rd_not (lt := (ltc cf)) (fun h => of_decide_eq_false ht56 (hintN_two.2 h) : (x.rd (ltc cf)).c.2 ≠ .decreasing)
            exact ⟨(), ent_look ⟨Weak.of_eq rfl, Weak.of_eq rfl, Weak.of_eq rfl, Weak.of_eq rfl, Weak.of_eq rfl, Weak.of_eq rfl, Weak.of_eq rfl, Weak.of_eq rfl, Weak.of_eq (int_eq (by rw [hd2.2.1])), Weak.of_eq (int_eq (by rw [hd2.2.2])), Weak.of_eq (osl_eq (by rw [hd2.1])), trivial⟩, trivial⟩
        ·
          skip
          refine a_join (X := Unit) (fun _u => look [(0, .rsl (INH, []) 1 0 n none), (1, .int .i64 ((x.a : Nat) : Int)), (2, .int .i64 ((x.b : Nat) : Int)), (3, .int .i64 (((x.rd (ltc cf)).lim : Nat) : Int)), (4, .fn f [] []), (10, .bool x.wb), (11, .bool x.wp), (12, .int .i64 ((x.b - x.a : Nat) : Int)), (13, .int .i64 (((x.rd (ltc cf)).pivot : Nat) : Int)), (INH, .osl 1 (acells (x.rd (ltc cf)).pi.1) n none)]) (fun _u => (x.rd (ltc cf)).pi.2 = false) ?_ (fun _u hJ => ?_)
          ·
            skip
            refine a_seq ?_
            refine a_region ?_
            refine r_val (v := .bool _) (v_move (.inl rfl) (noOwn_flat rfl)) rfl rfl (by decide) ?_
            refine r_val (v := .bool _) (v_move (.inl rfl) (noOwn_flat rfl)) rfl rfl (by decide) ?_
            refine r_gval (v := .bool _) (v_move (.inl rfl) (noOwn_flat rfl)) rfl rfl rfl (by decide) (.inl ⟨_, rfl, rfl⟩) rfl (by decide) ?_
            refine r_val (v := .bool _) (v_pick (.inl rfl) (.inr ⟨_, rfl, fun h h2 => by simp_all⟩) (.inl rfl)) rfl rfl (by decide) ?_
            refine r_val (v := .bool _) (v_move (.inl rfl) (noOwn_flat rfl)) rfl rfl (by decide) ?_
            refine r_gval (v := .int _ _) (v_move (.inl rfl) (noOwn_flat rfl)) rfl rfl rfl (by decide) (.inl ⟨_, rfl, rfl⟩) rfl (by decide) ?_
            refine r_gval (v := .bool _) (v_eql (.inr ⟨_, rfl, fun h => h⟩) (.inl rfl)) rfl rfl rfl (by decide) (.inl ⟨_, rfl, rfl⟩) rfl (by decide) ?_
            refine r_val (v := .bool _) (v_pick (.inl rfl) (.inr ⟨_, rfl, fun h h2 => by simp_all⟩) (.inl rfl)) rfl rfl (by decide) ?_
            refine r_nil ?_
            refine a_cond rfl (fun ht75 => ?_) (fun ht75 => ?_)
            ·
              skip
              refine a_seq ?_
              have hpi := rd_pi_yes (lt := (ltc cf)) (d := x.d) (a := x.a) (b := x.b) (limit := x.lim) (wb := x.wb) (wp := x.wp) (pi_cond ht75)
              refine a_region ?_
              refine r_val (v := .rsl _ _ _ _ _) (v_move (.inl rfl) (noOwn_flat rfl)) rfl rfl (by decide) ?_
              refine r_val (v := .int _ _) (v_move (.inl rfl) (noOwn_flat rfl)) rfl rfl (by decide) ?_
              refine r_val (v := .int _ _) (v_move (.inl rfl) (noOwn_flat rfl)) rfl rfl (by decide) ?_
              refine r_val (v := .fn _ _ _) (v_mv rfl) rfl rfl (by decide) ?_
              refine r_step rfl (o_callIOk (q := (INH, [])) (vs := [.rsl _ _ _ _ _, .int _ _, .int _ _, .fn _ _ _]) (args := [.rsl (INH, []) _ _ _ _, .int .i64 _, .int .i64 _, .fn _ _ _]) (x0 := .osl _ _ _ _) (x1 := .osl _ _ _ _) (res := .bool _) rfl hb218 rfl (by decide) ⟨.inl rfl, .inl rfl, .inl rfl, .inl rfl, trivial⟩ rfl rfl (partialIns_c f hb cf hc _ n x.a x.b hf.2.2.1 (by omega) hn) (by simp [stays]; omega) rfl rfl rfl (ac_noSh _) (ac_noRef _) (Nat.le_of_ble_eq_true rfl) (by decide) rfl) ?_
              refine r_nil ?_
              refine a_cond rfl (fun ht80 => ?_) (fun ht80 => ?_)
              ·
                skip
                refine a_ret ?_
                refine ret0_look Try.results197 (by decide) ?_ rfl
                exact Weak.of_eq (osl_eq (by rw [← g7, pdq_done h12 h0 (by rw [hpi]; exact ht80), hpi]))
              ·
                skip
                refine a_skip ?_
                exact ⟨(), ent_look ⟨Weak.of_eq rfl, Weak.of_eq rfl, Weak.of_eq rfl, Weak.of_eq rfl, Weak.of_eq rfl, Weak.of_eq rfl, Weak.of_eq rfl, Weak.of_eq rfl, Weak.of_eq rfl, Weak.of_eq (osl_eq (by rw [hpi])), trivial⟩, (by rw [hpi]; exact ht80)⟩
            ·
              skip
              refine a_skip ?_
              have hpi := rd_pi_no (lt := (ltc cf)) (d := x.d) (a := x.a) (b := x.b) (limit := x.lim) (wb := x.wb) (wp := x.wp) (pi_cond ht75)
              exact ⟨(), ent_look ⟨Weak.of_eq rfl, Weak.of_eq rfl, Weak.of_eq rfl, Weak.of_eq rfl, Weak.of_eq rfl, Weak.of_eq rfl, Weak.of_eq rfl, Weak.of_eq rfl, Weak.of_eq rfl, Weak.of_eq (osl_eq (by rw [hpi])), trivial⟩, (by rw [hpi])⟩
          ·
            skip
            have hpf := hJ
            refine a_seq ?_
            refine a_seq ?_
            refine a_region_any mixed (by kernel_rfl) ?_
            refine y_val (v := .int _ _) (v_move (.inl rfl) (noOwn_flat rfl)) rfl rfl (by decide) (by kernel_rfl) ?_
            refine y_val (v := .bool _) (v_gtr (.inl rfl) (.inl rfl)) rfl rfl (by decide) (by kernel_rfl) ?_
            refine y_val (v := .bool _) (v_move (.inl rfl) (noOwn_flat rfl)) rfl rfl (by decide) (by kernel_rfl) ?_
            refine y_guard (v := .fn _ _ _) (v_move (.inl rfl) (noOwn_flat rfl)).quiet rfl rfl rfl (by decide) (.inl ⟨_, rfl, rfl⟩) rfl (by decide) (by kernel_rfl) ?_
            refine y_guard (v := .rsl _ _ _ _ _) (v_move (.inl rfl) (noOwn_flat rfl)).quiet rfl rfl rfl (by decide) (.inl ⟨_, rfl, rfl⟩) rfl (by decide) (by kernel_rfl) ?_
            refine y_guard (v := .int _ _) (v_move (.inl rfl) (noOwn_flat rfl)).quiet rfl rfl rfl (by decide) (.inl ⟨_, rfl, rfl⟩) rfl (by decide) (by kernel_rfl) ?_
            refine y_guard (v := .int _ _) (v_sub (.inr ⟨_, rfl, fun h => h⟩) (.inl rfl) (fun _ => by omega)).quiet rfl rfl rfl (by decide) (.inl ⟨_, rfl, rfl⟩) rfl (by decide) (by kernel_rfl) ?_
            refine y_guard (v := .rp _ _) (v_indexAddr_rsl0 es22 (.inr ⟨_, rfl, fun h => h⟩) (.inr ⟨_, rfl, fun h => h⟩) (fun hA => by simp at hA; omega)).quiet rfl rfl rfl (by decide) (.inl ⟨_, rfl, rfl⟩) rfl (by decide) (by kernel_rfl) ?_
            refine y_guard (v := .int .i64 (x.rd (ltc cf)).pi.1[x.a - 1]!) (v_load_rp1 ta3 (.inr ⟨_, rfl, fun h => h⟩) rfl (fun hA => by simp at hA; rw [show ((x.a : Int) - 1).toNat = x.a - 1 by omega, Nat.mul_one]; exact acells_get (by omega)) rfl).quiet rfl rfl rfl (by decide) (.inl ⟨_, rfl, rfl⟩) rfl (by decide) (by kernel_rfl) ?_
            refine y_guard (v := .rsl _ _ _ _ _) (v_move (.inl rfl) (noOwn_flat rfl)).quiet rfl rfl rfl (by decide) (.inl ⟨_, rfl, rfl⟩) rfl (by decide) (by kernel_rfl) ?_
            refine y_guard (v := .int _ _) (v_move (.inl rfl) (noOwn_flat rfl)).quiet rfl rfl rfl (by decide) (.inl ⟨_, rfl, rfl⟩) rfl (by decide) (by kernel_rfl) ?_
            refine y_guard (v := .rp _ _) (v_indexAddr_rsl0 es22 (.inr ⟨_, rfl, fun h => h⟩) (.inr ⟨_, rfl, fun h => h⟩) (fun hA => by simp at hA; omega)).quiet rfl rfl rfl (by decide) (.inl ⟨_, rfl, rfl⟩) rfl (by decide) (by kernel_rfl) ?_
            refine y_guard (v := .int .i64 (x.rd (ltc cf)).pi.1[(x.rd (ltc cf)).pivot]!) (v_load_rp1 ta3 (.inr ⟨_, rfl, fun h => h⟩) rfl (fun hA => by simp at hA; rw [Nat.mul_one]; exact acells_get (by omega)) rfl).quiet rfl rfl rfl (by decide) (.inl ⟨_, rfl, rfl⟩) rfl (by decide) (by kernel_rfl) ?_
            refine y_guard (v := .int _ _) (q_clo (vs := [.int _ _, .int _ _]) (args := [.int .i64 _, .int .i64 _]) hb (.inr ⟨_, rfl, fun h => h⟩) ⟨.inr ⟨_, rfl, fun h => h⟩, .inr ⟨_, rfl, fun h => h⟩, trivial⟩ rfl (fun hA => hc _ _) rfl rfl) rfl rfl rfl (by decide) (.inl ⟨_, rfl, rfl⟩) rfl (by decide) (by kernel_rfl) ?_
            refine y_guard (v := .bool _) (v_lss (.inr ⟨_, rfl, fun h => h⟩) (.inl rfl)).quiet rfl rfl rfl (by decide) (.inl ⟨_, rfl, rfl⟩) rfl (by decide) (by kernel_rfl) ?_
            refine y_guard (v := .bool _) (v_not (.inr ⟨_, rfl, fun h => h⟩)).quiet rfl rfl rfl (by decide) (.inl ⟨_, rfl, rfl⟩) rfl (by decide) (by kernel_rfl) ?_
            refine y_val (v := .bool _) (v_pick (.inl rfl) (.inr ⟨_, rfl, fun h h2 => by simp_all⟩) (.inl rfl)) rfl rfl (by decide) (by kernel_rfl) ?_
            refine y_nil ?_
            refine a_cond rfl (fun ht97 => ?_) (fun ht97 => ?_)
            ·
              skip
              refine a_seq ?_
              have hts : x.test (ltc cf) = true := test_cond ht97
              have hnx := hP.eq hS h12 h0 hpf hts
              refine a_region ?_
              refine r_val (v := .rsl _ _ _ _ _) (v_move (.inl rfl) (noOwn_flat rfl)) rfl rfl (by decide) ?_
              refine r_val (v := .int _ _) (v_move (.inl rfl) (noOwn_flat rfl)) rfl rfl (by decide) ?_
              refine r_val (v := .int _ _) (v_move (.inl rfl) (noOwn_flat rfl)) rfl rfl (by decide) ?_
              refine r_val (v := .int _ _) (v_move (.inl rfl) (noOwn_flat rfl)) rfl rfl (by decide) ?_
              refine r_val (v := .fn _ _ _) (v_mv rfl) rfl rfl (by decide) ?_
              refine r_step rfl (o_callIOk (q := (INH, [])) (vs := [.rsl _ _ _ _ _, .int _ _, .int _ _, .int _ _, .fn _ _ _]) (args := [.rsl (INH, []) _ _ _ _, .int .i64 _, .int .i64 _, .int .i64 _, .fn _ _ _]) (x0 := .osl _ _ _ _) (x1 := .osl _ _ _ _) (res := .int _ _) rfl hb219 rfl (by decide) ⟨.inl rfl, .inl rfl, .inl rfl, .inl rfl, .inl rfl, trivial⟩ rfl rfl (partEq_c f hb cf hc _ n x.a x.b _ hf.2.2.2.2.1 (by have := hf.2.2.2.1; omega) hn) (by simp [stays]; omega) rfl rfl rfl (ac_noSh _) (ac_noRef _) (Nat.le_of_ble_eq_true rfl) (by decide) rfl) ?_
              refine r_val (v := .int _ _) (v_assign (.inl rfl) (noOwn_flat rfl)) rfl rfl (by decide) ?_
              refine r_nil ?_
              refine a_seq ?_
              refine a_pre (ent_look (L := [(0, .rsl _ _ _ _ _), (1, .int _ _), (2, .int _ _), (3, .int _ _), (4, .fn _ _ _), (10, .bool _), (11, .bool _), (12, .int _ _), (13, .int _ _), (15, .int _ _), (INH, .osl _ _ _ _)]) ⟨Weak.rfl, Weak.rfl, Weak.rfl, Weak.rfl, Weak.rfl, Weak.rfl, Weak.rfl, Weak.rfl, Weak.rfl, Weak.rfl, Weak.rfl, trivial⟩) ?_
              refine a_region ?_
              refine r_val (v := .int _ _) (v_move (.inl rfl) (noOwn_flat rfl)) rfl rfl (by decide) ?_
              refine r_val (v := .int _ _) (v_assign (.inl rfl) (noOwn_flat rfl)) rfl rfl (by decide) ?_
              refine r_nil ?_
              refine a_exit ?_
              refine ⟨(x.eq (ltc cf)), ent_look ⟨Weak.of_eq rfl, Weak.of_eq rfl, Weak.of_eq rfl, Weak.of_eq rfl, Weak.of_eq rfl, Weak.of_eq rfl, Weak.of_eq rfl, Weak.of_eq rfl, trivial⟩, hnx.1, (by have h1 := hnx.2; have h2 := hnx.1.1; have h3 : (x.eq (ltc cf)).b = x.b := rfl; omega)⟩
            ·
              skip
              refine a_skip ?_
              refine a_seq ?_
              have hts : x.test (ltc cf) = false := test_cond ht97
              have hpt := hP.part hS h12
              refine a_region ?_
              refine r_val (v := .rsl _ _ _ _ _) (v_move (.inl rfl) (noOwn_flat rfl)) rfl rfl (by decide) ?_
              refine r_val (v := .int _ _) (v_move (.inl rfl) (noOwn_flat rfl)) rfl rfl (by decide) ?_
              refine r_val (v := .int _ _) (v_move (.inl rfl) (noOwn_flat rfl)) rfl rfl (by decide) ?_
              refine r_val (v := .int _ _) (v_move (.inl rfl) (noOwn_flat rfl)) rfl rfl (by decide) ?_
              refine r_val (v := .fn _ _ _) (v_mv rfl) rfl rfl (by decide) ?_
              refine r_step rfl (o_callIOk (q := (INH, [])) (vs := [.rsl _ _ _ _ _, .int _ _, .int _ _, .int _ _, .fn _ _ _]) (args := [.rsl (INH, []) _ _ _ _, .int .i64 _, .int .i64 _, .int .i64 _, .fn _ _ _]) (x0 := .osl _ _ _ _) (x1 := .osl _ _ _ _) (res := .tup [.int _ _, .bool _]) rfl hb220 rfl (by decide) ⟨.inl rfl, .inl rfl, .inl rfl, .inl rfl, .inl rfl, trivial⟩ rfl rfl (partition_c f hb cf hc _ n x.a x.b _ hf.2.2.2.2.1 (by have := hf.2.2.2.1; omega) hn) (by simp [stays]; omega) rfl rfl rfl (ac_noSh _) (ac_noRef _) (Nat.le_of_ble_eq_true rfl) (by decide) rfl) ?_
              refine r_val (v := .tup [.int _ _, .bool _]) (v_mv rfl) rfl rfl (by decide) ?_
              refine r_val (v := .int .i64 (((x.pt (ltc cf)).1 : Nat) : Int)) ((v_extract rfl rfl).cast (int_eq rfl)) rfl rfl (by decide) ?_
              refine r_val (v := .bool (x.pt (ltc cf)).2.1) ((v_extract rfl rfl).cast (bool_eq rfl)) rfl rfl (by decide) ?_
              refine r_val (v := .int _ _) (v_assign (.inl rfl) (noOwn_flat rfl)) rfl rfl (by decide) ?_
              refine r_val (v := .bool _) (v_assign (.inl rfl) (noOwn_flat rfl)) rfl rfl (by decide) ?_
              refine r_nil ?_
              refine a_seq ?_
              refine a_pre (ent_look (L := [(0, .rsl _ _ _ _ _), (1, .int _ _), (2, .int _ _), (3, .int _ _), (4, .fn _ _ _), (10, .bool _), (11, .bool _), (12, .int _ _), (16, .int _ _), (17, .bool _), (INH, .osl _ _ _ _)]) ⟨Weak.rfl, Weak.rfl, Weak.rfl, Weak.rfl, Weak.rfl, Weak.rfl, Weak.rfl, Weak.rfl, Weak.rfl, Weak.rfl, Weak.rfl, trivial⟩) ?_
              refine a_region ?_
              refine r_val (v := .bool _) (v_move (.inl rfl) (noOwn_flat rfl)) rfl rfl (by decide) ?_
              refine r_val (v := .bool _) (v_assign (.inl rfl) (noOwn_flat rfl)) rfl rfl (by decide) ?_
              refine r_nil ?_
              refine a_seq ?_
              refine a_region ?_
              refine r_val (v := .int _ _) (v_move (.inl rfl) (noOwn_flat rfl)) rfl rfl (by decide) ?_
              refine r_val (v := .int _ _) (v_move (.inl rfl) (noOwn_flat rfl)) rfl rfl (by decide) ?_
              refine r_val (v := .int .i64 (((x.pt (ltc cf)).1 - x.a : Nat) : Int)) ((v_sub (.inl rfl) (.inl rfl) (fun _ => by omega)).cast (int_eq (by omega))) rfl rfl (by decide) ?_
              refine r_val (v := .int _ _) (v_move (.inl rfl) (noOwn_flat rfl)) rfl rfl (by decide) ?_
              refine r_val (v := .int _ _) (v_move (.inl rfl) (noOwn_flat rfl)) rfl rfl (by decide) ?_
              refine r_val (v := .int .i64 ((x.b - (x.pt (ltc cf)).1 : Nat) : Int)) ((v_sub (.inl rfl) (.inl rfl) (fun _ => by omega)).cast (int_eq (by omega))) rfl rfl (by decide) ?_
              refine r_val (v := .int _ _) (v_assign (.inl rfl) (noOwn_flat rfl)) rfl rfl (by decide) ?_
              refine r_val (v := .int _ _) (v_assign (.inl rfl) (noOwn_flat rfl)) rfl rfl (by decide) ?_
              refine r_nil ?_
              refine a_seq ?_
              refine a_region ?_
              refine r_val (v := .int _ _) (v_move (.inl rfl) (noOwn_flat rfl)) rfl rfl (by decide) ?_
              refine r_val (v := .int .i64 (((x.b - x.a) / 8 : Nat) : Int)) ((v_quo (.inl rfl) (.inl rfl) (fun _ => by omega)).cast (int_eq (by omega))) rfl rfl (by decide) ?_
              refine r_val (v := .int _ _) (v_assign (.inl rfl) (noOwn_flat rfl)) rfl rfl (by decide) ?_
              refine r_nil ?_
              refine a_seq ?_
              refine a_region ?_
              refine r_val (v := .int _ _) (v_move (.inl rfl) (noOwn_flat rfl)) rfl rfl (by decide) ?_
              refine r_val (v := .int _ _) (v_move (.inl rfl) (noOwn_flat rfl)) rfl rfl (by decide) ?_
              refine r_val (v := .bool _) (v_lss (.inl rfl) (.inl rfl)) rfl rfl (by decide) ?_
              refine r_nil ?_
              refine a_cond rfl (fun ht125 => ?_) (fun ht125 => ?_)
              ·
                skip
                refine a_seq ?_
                have hll : (x.pt (ltc cf)).1 - x.a < x.b - (x.pt (ltc cf)).1 := (by simp at ht125; omega)
                have hnx := hP.left hS h12 h0 hpf hts hll
                refine a_region ?_
                refine r_val (v := .int _ _) (v_move (.inl rfl) (noOwn_flat rfl)) rfl rfl (by decide) ?_
                refine r_val (v := .int _ _) (v_move (.inl rfl) (noOwn_flat rfl)) rfl rfl (by decide) ?_
                refine r_val (v := .bool _) (v_geq (.inl rfl) (.inl rfl)) rfl rfl (by decide) ?_
                refine r_val (v := .bool _) (v_assign (.inl rfl) (noOwn_flat rfl)) rfl rfl (by decide) ?_
                refine r_nil ?_
                refine a_seq ?_
                refine a_pre (ent_look (L := [(0, .rsl _ _ _ _ _), (1, .int _ _), (2, .int _ _), (3, .int _ _), (4, .fn _ _ _), (10, .bool _), (11, .bool _), (16, .int _ _), (19, .int _ _), (20, .int _ _), (INH, .osl _ _ _ _)]) ⟨Weak.rfl, Weak.rfl, Weak.rfl, Weak.rfl, Weak.rfl, Weak.rfl, Weak.rfl, Weak.rfl, Weak.rfl, Weak.rfl, Weak.rfl, trivial⟩) ?_
                refine a_region ?_
                refine r_val (v := .rsl _ _ _ _ _) (v_move (.inl rfl) (noOwn_flat rfl)) rfl rfl (by decide) ?_
                refine r_val (v := .int _ _) (v_move (.inl rfl) (noOwn_flat rfl)) rfl rfl (by decide) ?_
                refine r_val (v := .int _ _) (v_move (.inl rfl) (noOwn_flat rfl)) rfl rfl (by decide) ?_
                refine r_val (v := .int _ _) (v_move (.inl rfl) (noOwn_flat rfl)) rfl rfl (by decide) ?_
                refine r_val (v := .fn _ _ _) (v_mv rfl) rfl rfl (by decide) ?_
                refine r_step rfl (o_callIOk (q := (INH, [])) (vs := [.rsl _ _ _ _ _, .int _ _, .int _ _, .int _ _, .fn _ _ _]) (args := [.rsl (INH, []) _ _ _ _, .int .i64 _, .int .i64 _, .int .i64 _, .fn _ _ _]) (x0 := .osl _ _ _ _) (x1 := .osl _ _ _ _) (res := .tup []) rfl hb197 rfl (by decide) ⟨.inl rfl, .inl rfl, .inl rfl, .inl rfl, .inl rfl, trivial⟩ rfl rfl (ih _ _ _ _ hpt.2.2.1 hpt.1 (by omega) (by omega) hf.2.2.2.2.2.2 hpt.2.2.2.1) (by simp [stays]; omega) rfl rfl rfl (ac_noSh _) (ac_noRef _) (Nat.le_of_ble_eq_true rfl) (by decide) rfl) ?_
                refine r_nil ?_
                refine a_region ?_
                refine r_val (v := .int _ _) (v_move (.inl rfl) (noOwn_flat rfl)) rfl rfl (by decide) ?_
                refine r_val (v := .int .i64 (((x.pt (ltc cf)).1 + 1 : Nat) : Int)) ((v_add (.inl rfl) (.inl rfl) (fun _ => by omega)).cast (int_eq (by omega))) rfl rfl (by decide) ?_
                refine r_val (v := .int _ _) (v_assign (.inl rfl) (noOwn_flat rfl)) rfl rfl (by decide) ?_
                refine r_nil ?_
                refine ⟨(x.left (ltc cf)), ent_look ⟨Weak.of_eq rfl, Weak.of_eq rfl, Weak.of_eq rfl, Weak.of_eq rfl, Weak.of_eq rfl, Weak.of_eq (bool_eq (decide_eq_decide.2 (by simp only [ge_iff_le]; omega))), Weak.of_eq rfl, Weak.of_eq rfl, trivial⟩, hnx.1, hnx.2⟩
              ·
                skip
                refine a_seq ?_
                have hll : ¬ (x.pt (ltc cf)).1 - x.a < x.b - (x.pt (ltc cf)).1 := (by simp at ht125; omega)
                have hnx := hP.right hS h12 h0 hpf hts hll
                refine a_region ?_
                refine r_val (v := .int _ _) (v_move (.inl rfl) (noOwn_flat rfl)) rfl rfl (by decide) ?_
                refine r_val (v := .int _ _) (v_move (.inl rfl) (noOwn_flat rfl)) rfl rfl (by decide) ?_
                refine r_val (v := .bool _) (v_geq (.inl rfl) (.inl rfl)) rfl rfl (by decide) ?_
                refine r_val (v := .bool _) (v_assign (.inl rfl) (noOwn_flat rfl)) rfl rfl (by decide) ?_
                refine r_nil ?_
                refine a_seq ?_
                refine a_pre (ent_look (L := [(0, .rsl _ _ _ _ _), (1, .int _ _), (2, .int _ _), (3, .int _ _), (4, .fn _ _ _), (10, .bool _), (11, .bool _), (16, .int _ _), (INH, .osl _ _ _ _)]) ⟨Weak.rfl, Weak.rfl, Weak.rfl, Weak.rfl, Weak.rfl, Weak.rfl, Weak.rfl, Weak.rfl, Weak.rfl, trivial⟩) ?_
                refine a_region ?_
                refine r_val (v := .rsl _ _ _ _ _) (v_move (.inl rfl) (noOwn_flat rfl)) rfl rfl (by decide) ?_
                refine r_val (v := .int _ _) (v_move (.inl rfl) (noOwn_flat rfl)) rfl rfl (by decide) ?_
                refine r_val (v := .int .i64 (((x.pt (ltc cf)).1 + 1 : Nat) : Int)) ((v_add (.inl rfl) (.inl rfl) (fun _ => by omega)).cast (int_eq (by omega))) rfl rfl (by decide) ?_
                refine r_val (v := .int _ _) (v_move (.inl rfl) (noOwn_flat rfl)) rfl rfl (by decide) ?_
                refine r_val (v := .int _ _) (v_move (.inl rfl) (noOwn_flat rfl)) rfl rfl (by decide) ?_
                refine r_val (v := .fn _ _ _) (v_mv rfl) rfl rfl (by decide) ?_
                refine r_step rfl (o_callIOk (q := (INH, [])) (vs := [.rsl _ _ _ _ _, .int _ _, .int _ _, .int _ _, .fn _ _ _]) (args := [.rsl (INH, []) _ _ _ _, .int .i64 _, .int .i64 _, .int .i64 _, .fn _ _ _]) (x0 := .osl _ _ _ _) (x1 := .osl _ _ _ _) (res := .tup []) rfl hb197 rfl (by decide) ⟨.inl rfl, .inl rfl, .inl rfl, .inl rfl, .inl rfl, trivial⟩ rfl rfl (ih _ _ _ _ hpt.2.2.1 (by omega) (by omega) (by omega) hf.2.2.2.2.2.2 hpt.2.2.2.2) (by simp [stays]; omega) rfl rfl rfl (ac_noSh _) (ac_noRef _) (Nat.le_of_ble_eq_true rfl) (by decide) rfl) ?_
                refine r_nil ?_
                refine a_region ?_
                refine r_val (v := .int _ _) (v_move (.inl rfl) (noOwn_flat rfl)) rfl rfl (by decide) ?_
                refine r_val (v := .int _ _) (v_assign (.inl rfl) (noOwn_flat rfl)) rfl rfl (by decide) ?_
                refine r_nil ?_
                refine ⟨(x.right (ltc cf)), ent_look ⟨Weak.of_eq rfl, Weak.of_eq rfl, Weak.of_eq rfl, Weak.of_eq rfl, Weak.of_eq rfl, Weak.of_eq (bool_eq (decide_eq_decide.2 (by simp only [ge_iff_le]; omega))), Weak.of_eq rfl, Weak.of_eq rfl, trivial⟩, hnx.1, hnx.2⟩

theorem pdq_c (f : Nat) (hb : hasBody Try.prog f = true) (cf : Int → Int → Int) (hc : ∀ x y, ACall Try.prog f [.int .i64 x, .int .i64 y] [] (.int .i64 (cf x y)) []) (hS : SWO (ltc cf)) (n : Nat) (hn : n ≤ 1152921504606846976) (d : Array Int) (a b limit : Nat) (hd : d.size = n) (hab : a ≤ b ∧ b ≤ n ∧ limit ≤ 100) (hB : Below (ltc cf) a b d) :
    ACall Try.prog 197 [.rsl (INH, []) 1 0 n none, .int .i64 ((a : Nat) : Int), .int .i64 ((b : Nat) : Int), .int .i64 ((limit : Nat) : Int), .fn f [] []] [.osl 1 (acells d) n none] (.tup []) [.osl 1 (acells (pdq (ltc cf) d a b limit true true)) n none] := by
  have key : ∀ (N : Nat) (d : Array Int) (a b limit : Nat), d.size = n → a ≤ b → b ≤ n → b - a < N → limit ≤ 100 → Below (ltc cf) a b d → ACall Try.prog 197 [.rsl (INH, []) 1 0 n none, .int .i64 ((a : Nat) : Int), .int .i64 ((b : Nat) : Int), .int .i64 ((limit : Nat) : Int), .fn f [] []] [.osl 1 (acells d) n none] (.tup []) [.osl 1 (acells (pdq (ltc cf) d a b limit true true)) n none] := by
    intro N
    induction N with
    | zero => intro d a b limit _ _ _ h; omega
    | succ N ih => intro d a b limit h1 h2 h3 h4 h5 h6; exact pdq_step f hb cf hc hS n N hn ih d a b limit h1 ⟨h2, h3, by omega, h5⟩ h6
  exact key (b - a + 1) d a b limit hd hab.1 hab.2.1 (by omega) hab.2.2 hB
end Go.Av
namespace Go.Av
open Go Go.Proofs Go.Sort
set_option maxRecDepth 10000


theorem sortFunc_c (f : Nat) (hb : hasBody Try.prog f = true) (cf : Int → Int → Int) (hc : ∀ x y, ACall Try.prog f [.int .i64 x, .int .i64 y] [] (.int .i64 (cf x y)) []) (hS : SWO (ltc cf)) (d : Array Int) (n : Nat) (hd : d.size = n) (hn : n ≤ 1152921504606846976) : ACall Try.prog 187 [.rsl (INH, []) 1 0 n none, .fn f [] []] [.osl 1 (acells d) n none] (.tup []) [.osl 1 (acells (Go.Sort.sort (ltc cf) d)) n none] := by
  have hbl : bitsLen n ≤ 61 := (bitsLen_le_iff _ _).2 (by omega)
  refine ACall.intro Try.func187 rfl (N := 14) rfl (by decide) (by simp) ?_
  refine a_seq ?_
  refine a_region ?_
  refine r_val (v := .rsl _ _ _ _ _) (v_move (.inl rfl) (noOwn_flat rfl)) rfl rfl (by decide) ?_
  refine r_val (v := .int _ _) (v_len_rsl sl22 (.inl rfl)) rfl rfl (by decide) ?_
  refine r_val (v := .int _ _) (v_assign (.inl rfl) (noOwn_flat rfl)) rfl rfl (by decide) ?_
  refine r_nil ?_
  refine a_region ?_
  refine r_val (v := .rsl _ _ _ _ _) (v_move (.inl rfl) (noOwn_flat rfl)) rfl rfl (by decide) ?_
  refine r_val (v := .int _ _) (v_move (.inl rfl) (noOwn_flat rfl)) rfl rfl (by decide) ?_
  refine r_val (v := .int _ _) (v_move (.inl rfl) (noOwn_flat rfl)) rfl rfl (by decide) ?_
  refine r_val (v := .int .u64 ((n : Nat) : Int)) ((v_conv iss3 uni198 (.inl rfl) (fun _ => IntWalk.u64_in _ (by omega))).cast (int_eq rfl)) rfl rfl (by decide) ?_
  refine r_new (v := .int _ _) (q_call (vs := [.int _ _]) (args := [.int .u64 ((_ : Nat) : Int)]) hb192 ⟨.inl rfl, trivial⟩ rfl (fun hA => len_c n (by omega)) rfl rfl) rfl rfl (by decide) ?_
  refine r_val (v := .fn _ _ _) (v_mv rfl) rfl rfl (by decide) ?_
  refine r_step rfl (o_callIO (q := (INH, [])) (vs := [.rsl _ _ _ _ _, .int _ _, .int _ _, .int _ _, .fn _ _ _]) (args := [.rsl (INH, []) _ _ _ _, .int .i64 _, .int .i64 _, .int .i64 _, .fn _ _ _]) (x0 := .osl _ _ _ _) (x1 := .osl _ _ _ _) (res := .tup []) rfl hb197 rfl (by decide) ⟨.inl rfl, .inl rfl, .inl rfl, .inl rfl, .inl rfl, trivial⟩ rfl rfl (pdq_c f hb cf hc hS n hn d 0 n (bitsLen n) hd ⟨Nat.zero_le _, Nat.le_refl _, Nat.le_trans hbl (by decide)⟩ (Or.inl rfl)) rfl rfl rfl (ac_noSh _) (ac_noRef _) (Nat.le_of_ble_eq_true rfl) (by decide) rfl) ?_
  refine r_nil ?_
  refine ret0_look Try.results187 (by decide) ?_ rfl
  exact Weak.of_eq (osl_eq (by unfold Go.Sort.sort; rw [hd]))
end Go.Av
namespace Go.Av
open Go Go.Proofs Go.Sort
set_option maxRecDepth 10000
theorem hb198 : hasBody Try.prog 198 = true := by kernel_rfl
theorem hb199 : hasBody Try.prog 199 = true := by kernel_rfl
theorem hb221 : hasBody Try.prog 221 = true := by kernel_rfl

theorem isNaN_c (x : Int) : ACall Try.prog 221 [.int .i64 x] [] (.bool false) [] := by
  refine ACall.intro Try.func221 rfl (N := 6) rfl (by decide) (by simp) ?_
  refine a_seq ?_
  refine a_region ?_
  refine r_val (v := .bool _) (v_assign (.inl rfl) (noOwn_flat rfl)) rfl rfl (by decide) ?_
  refine r_nil ?_
  refine a_seq ?_
  refine a_region ?_
  refine r_val (v := .int _ _) (v_move (.inl rfl) (noOwn_flat rfl)) rfl rfl (by decide) ?_
  refine r_val (v := .int _ _) (v_move (.inl rfl) (noOwn_flat rfl)) rfl rfl (by decide) ?_
  refine r_val (v := .bool _) (v_neq (.inl rfl) (.inl rfl)) rfl rfl (by decide) ?_
  refine r_val (v := .bool _) (v_assign (.inl rfl) (noOwn_flat rfl)) rfl rfl (by decide) ?_
  refine r_nil ?_
  refine a_ret ?_
  refine ret1 Try.results221 (by decide) (by decide) (Weak.of_eq (bool_eq ?_)) rfl Leaves.nil
  simp

theorem cmp_c (x y : Int) : ACall Try.prog 199 [.int .i64 x, .int .i64 y] [] (.int .i64 (cmpI x y)) [] := by
  refine ACall.intro Try.func199 rfl (N := 20) rfl (by decide) (by simp) ?_
  refine a_seq ?_
  refine a_region ?_
  refine r_val (v := .int _ _) (v_assign (.inl rfl) (noOwn_flat rfl)) rfl rfl (by decide) ?_
  refine r_nil ?_
  refine a_seq ?_
  refine a_region ?_
  refine r_val (v := .int _ _) (v_move (.inl rfl) (noOwn_flat rfl)) rfl rfl (by decide) ?_
  refine r_new (v := .bool _) (q_call (vs := [.int _ _]) (args := [.int .i64 _]) hb221 ⟨.inl rfl, trivial⟩ rfl (fun hA => isNaN_c _) rfl rfl) rfl rfl (by decide) ?_
  refine r_val (v := .bool _) (v_assign (.inl rfl) (noOwn_flat rfl)) rfl rfl (by decide) ?_
  refine r_nil ?_
  refine a_seq ?_
  refine a_region ?_
  refine r_val (v := .int _ _) (v_move (.inl rfl) (noOwn_flat rfl)) rfl rfl (by decide) ?_
  refine r_new (v := .bool _) (q_call (vs := [.int _ _]) (args := [.int .i64 _]) hb221 ⟨.inl rfl, trivial⟩ rfl (fun hA => isNaN_c _) rfl rfl) rfl rfl (by decide) ?_
  refine r_val (v := .bool _) (v_assign (.inl rfl) (noOwn_flat rfl)) rfl rfl (by decide) ?_
  refine r_nil ?_
  refine a_seq ?_
  refine a_seq ?_
  refine a_region ?_
  refine r_val (v := .bool _) (v_move (.inl rfl) (noOwn_flat rfl)) rfl rfl (by decide) ?_
  refine r_nil ?_
  refine a_cond rfl (fun ht11 => ?_) (fun ht11 => ?_)
  ·
    skip
    refine a_seq ?_
    refine a_seq ?_
    refine a_region ?_
    refine r_val (v := .bool _) (v_move (.inl rfl) (noOwn_flat rfl)) rfl rfl (by decide) ?_
    refine r_nil ?_
    refine a_cond rfl (fun ht12 => ?_) (fun ht12 => ?_)
    ·
      skip
      refine a_seq ?_
      refine a_region ?_
      refine r_val (v := .int _ _) (v_assign (.inl rfl) (noOwn_flat rfl)) rfl rfl (by decide) ?_
      refine r_nil ?_
      refine a_ret ?_
      refine ret1 Try.results199 (by decide) (by decide) (Weak.of_eq (int_eq ?_)) rfl Leaves.nil
      exact absurd ht11 (by simp)
    ·
      skip
      refine a_skip ?_
      refine a_seq ?_
      refine a_region ?_
      refine r_val (v := .int _ _) (v_assign (.inl rfl) (noOwn_flat rfl)) rfl rfl (by decide) ?_
      refine r_nil ?_
      refine a_ret ?_
      refine ret1 Try.results199 (by decide) (by decide) (Weak.of_eq (int_eq ?_)) rfl Leaves.nil
      exact absurd ht11 (by simp)
  ·
    skip
    refine a_skip ?_
    refine a_seq ?_
    refine a_seq ?_
    refine a_region ?_
    refine r_val (v := .bool _) (v_move (.inl rfl) (noOwn_flat rfl)) rfl rfl (by decide) ?_
    refine r_nil ?_
    refine a_cond rfl (fun ht13 => ?_) (fun ht13 => ?_)
    ·
      skip
      refine a_seq ?_
      refine a_region ?_
      refine r_val (v := .int _ _) (v_assign (.inl rfl) (noOwn_flat rfl)) rfl rfl (by decide) ?_
      refine r_nil ?_
      refine a_ret ?_
      refine ret1 Try.results199 (by decide) (by decide) (Weak.of_eq (int_eq ?_)) rfl Leaves.nil
      exact absurd ht13 (by simp)
    ·
      skip
      refine a_skip ?_
      refine a_seq ?_
      refine a_seq ?_
      refine a_region ?_
      refine r_val (v := .int _ _) (v_move (.inl rfl) (noOwn_flat rfl)) rfl rfl (by decide) ?_
      refine r_val (v := .int _ _) (v_move (.inl rfl) (noOwn_flat rfl)) rfl rfl (by decide) ?_
      refine r_val (v := .bool _) (v_lss (.inl rfl) (.inl rfl)) rfl rfl (by decide) ?_
      refine r_nil ?_
      refine a_cond rfl (fun ht16 => ?_) (fun ht16 => ?_)
      ·
        skip
        refine a_seq ?_
        refine a_region ?_
        refine r_val (v := .int _ _) (v_assign (.inl rfl) (noOwn_flat rfl)) rfl rfl (by decide) ?_
        refine r_nil ?_
        refine a_ret ?_
        refine ret1 Try.results199 (by decide) (by decide) (Weak.of_eq (int_eq ?_)) rfl Leaves.nil
        unfold cmpI; rw [if_pos (by simpa using ht16)]
      ·
        skip
        refine a_skip ?_
        refine a_seq ?_
        refine a_seq ?_
        refine a_region ?_
        refine r_val (v := .int _ _) (v_move (.inl rfl) (noOwn_flat rfl)) rfl rfl (by decide) ?_
        refine r_val (v := .int _ _) (v_move (.inl rfl) (noOwn_flat rfl)) rfl rfl (by decide) ?_
        refine r_val (v := .bool _) (v_gtr (.inl rfl) (.inl rfl)) rfl rfl (by decide) ?_
        refine r_nil ?_
        refine a_cond rfl (fun ht19 => ?_) (fun ht19 => ?_)
        ·
          skip
          refine a_seq ?_
          refine a_region ?_
          refine r_val (v := .int _ _) (v_assign (.inl rfl) (noOwn_flat rfl)) rfl rfl (by decide) ?_
          refine r_nil ?_
          refine a_ret ?_
          refine ret1 Try.results199 (by decide) (by decide) (Weak.of_eq (int_eq ?_)) rfl Leaves.nil
          unfold cmpI; rw [if_neg (by simpa using ht16), if_pos (by simpa using ht19)]
        ·
          skip
          refine a_skip ?_
          refine a_seq ?_
          refine a_region ?_
          refine r_val (v := .int _ _) (v_assign (.inl rfl) (noOwn_flat rfl)) rfl rfl (by decide) ?_
          refine r_nil ?_
          refine a_ret ?_
          refine ret1 Try.results199 (by decide) (by decide) (Weak.of_eq (int_eq ?_)) rfl Leaves.nil
          unfold cmpI; rw [if_neg (by simpa using ht16), if_neg (by simpa using ht19)]

theorem or_c (l : List Int) (hl : (l.length : Int) ≤ 9223372036854775807) : ACall Try.prog 198 [.sl (icells l) l.length] [] (.int .i64 (orL l)) [] := by
  refine ACall.intro Try.func198 rfl (N := 18) rfl (by decide) (by simp) ?_
  refine a_seq ?_
  refine a_region ?_
  refine r_val (v := .int _ _) (v_assign (.inl rfl) (noOwn_flat rfl)) rfl rfl (by decide) ?_
  refine r_nil ?_
  refine a_seq ?_
  refine a_region ?_
  refine r_val (v := .int _ _) (v_assign (.inl rfl) (noOwn_flat rfl)) rfl rfl (by decide) ?_
  refine r_nil ?_
  refine a_seq ?_
  refine a_seq ?_
  refine a_region ?_
  refine r_val (v := .sl _ _) (v_move (.inl rfl) (noOwn_flat rfl)) rfl rfl (by decide) ?_
  refine r_val (v := .int _ _) (v_len_sl sl22 (.inl rfl)) rfl rfl (by decide) ?_
  refine r_val (v := .int _ _) (v_move (.inl rfl) (noOwn_flat rfl)) rfl rfl (by decide) ?_
  refine r_nil ?_
  refine a_block ?_
  refine a_loop (X := Nat) (fun i => look [(3, .int .i64 0), (6, .sl (icells l) l.length), (7, .int .i64 (l.length : Int)), (8, .int .i64 (i : Int))]) (fun i => i ≤ l.length ∧ orL (l.drop i) = orL l) (fun i => l.length - i) 0 (ent_look ⟨Weak.of_eq rfl, Weak.of_eq rfl, Weak.of_eq rfl, Weak.of_eq rfl, trivial⟩) ⟨Nat.zero_le _, rfl⟩ (fun i hG => ?_)
  obtain ⟨h1, h2⟩ := hG
  refine a_seq ?_
  refine a_region ?_
  refine r_val (v := .bool _) (v_lss (.inl rfl) (.inl rfl)) rfl rfl (by decide) ?_
  refine r_nil ?_
  refine a_seq ?_
  refine a_cond rfl (fun ht9 => ?_) (fun ht9 => ?_)
  ·
    skip
    refine a_skip ?_
    refine a_seq ?_
    refine a_block ?_
    refine a_seq ?_
    have hi : i < l.length := (by simp at ht9; omega)
    refine a_region ?_
    refine r_val (v := .pp _ _) (v_indexAddr_sl es22 (.inl rfl) (.inl rfl) (fun _ => ⟨by omega, by omega, icells_ne hi⟩)) rfl rfl (by decide) ?_
    refine r_val (v := .int .i64 (gd l i)) (v_load_pp ta3 (.inl rfl) (fun _ => by rw [Nat.mul_one]; exact icells_get (gd_get hi)) rfl) rfl rfl (by decide) ?_
    refine r_val (v := .int _ _) (v_assign (.inl rfl) (noOwn_flat rfl)) rfl rfl (by decide) ?_
    refine r_nil ?_
    refine a_seq ?_
    refine a_region ?_
    refine r_val (v := .int _ _) (v_move (.inl rfl) (noOwn_flat rfl)) rfl rfl (by decide) ?_
    refine r_val (v := .int _ _) (v_move (.inl rfl) (noOwn_flat rfl)) rfl rfl (by decide) ?_
    refine r_val (v := .bool _) (v_neq (.inl rfl) (.inl rfl)) rfl rfl (by decide) ?_
    refine r_nil ?_
    refine a_cond rfl (fun ht14 => ?_) (fun ht14 => ?_)
    ·
      skip
      refine a_seq ?_
      refine a_region ?_
      refine r_val (v := .int _ _) (v_move (.inl rfl) (noOwn_flat rfl)) rfl rfl (by decide) ?_
      refine r_val (v := .int _ _) (v_assign (.inl rfl) (noOwn_flat rfl)) rfl rfl (by decide) ?_
      refine r_nil ?_
      refine a_ret ?_
      refine ret1 Try.results198 (by decide) (by decide) (Weak.of_eq (int_eq ?_)) rfl Leaves.nil
      rw [← h2, orL_drop hi, if_pos (by simpa using ht14)]
    ·
      skip
      refine a_skip ?_
      refine a_region ?_
      refine r_val (v := .int _ _) (v_add (.inl rfl) (.inl rfl) (fun _ => by omega)) rfl rfl (by decide) ?_
      refine r_val (v := .int _ _) (v_move (.inl rfl) (noOwn_flat rfl)) rfl rfl (by decide) ?_
      refine r_nil ?_
      refine ⟨i + 1, ent_look ⟨Weak.of_eq rfl, Weak.of_eq rfl, Weak.of_eq rfl, Weak.of_eq (int_eq (by omega)), trivial⟩, ⟨by omega, by rw [← h2, orL_drop hi, if_neg (by simpa using ht14)]⟩, by omega⟩
  ·
    skip
    refine a_exit ?_
    refine a_seq ?_
    refine a_region ?_
    refine r_val (v := .int _ _) (v_move (.inl rfl) (noOwn_flat rfl)) rfl rfl (by decide) ?_
    refine r_val (v := .int _ _) (v_assign (.inl rfl) (noOwn_flat rfl)) rfl rfl (by decide) ?_
    refine r_nil ?_
    refine a_ret ?_
    refine ret1 Try.results198 (by decide) (by decide) (Weak.of_eq (int_eq ?_)) rfl Leaves.nil
    rw [← h2, show l.drop i = [] from List.drop_eq_nil_of_le (by simp at ht9; omega)]; rfl

theorem absA_c (l : Int) : ACall Try.prog 102 [.int .i64 l] [] (.int .i64 (absA l)) [] := by
  refine ACall.intro Try.func102 rfl (N := 7) rfl (by decide) (by simp) ?_
  refine a_seq ?_
  refine a_region ?_
  refine r_val (v := .int _ _) (v_assign (.inl rfl) (noOwn_flat rfl)) rfl rfl (by decide) ?_
  refine r_nil ?_
  refine a_seq ?_
  refine a_region ?_
  refine r_val (v := .int _ _) (v_move (.inl rfl) (noOwn_flat rfl)) rfl rfl (by decide) ?_
  refine r_val (v := .int _ _) (v_move (.inl rfl) (noOwn_flat rfl)) rfl rfl (by decide) ?_
  refine r_val (v := .int _ _) (v_negA (.inl rfl)) rfl rfl (by decide) ?_
  refine r_val (v := .int _ _) (v_max (.inl rfl) (.inl rfl)) rfl rfl (by decide) ?_
  refine r_val (v := .int _ _) (v_assign (.inl rfl) (noOwn_flat rfl)) rfl rfl (by decide) ?_
  refine r_nil ?_
  refine a_ret ?_
  refine ret1 Try.results102 (by decide) (by decide) (Weak.of_eq (int_eq ?_)) rfl Leaves.nil
  rfl

theorem cmpLit_c (x y : Int) : ACall Try.prog 190 [.int .i64 x, .int .i64 y] [] (.int .i64 (cfLit x y)) [] := by
  refine ACall.intro Try.func190 rfl (N := 15) rfl (by decide) (by simp) ?_
  refine a_seq ?_
  refine a_region ?_
  refine r_val (v := .int _ _) (v_assign (.inl rfl) (noOwn_flat rfl)) rfl rfl (by decide) ?_
  refine r_nil ?_
  refine a_seq ?_
  refine a_region ?_
  refine r_val (v := .int _ _) (v_move (.inl rfl) (noOwn_flat rfl)) rfl rfl (by decide) ?_
  refine r_new (v := .int _ _) (q_call (vs := [.int _ _]) (args := [.int .i64 _]) hb102 ⟨.inl rfl, trivial⟩ rfl (fun hA => absA_c _) rfl rfl) rfl rfl (by decide) ?_
  refine r_val (v := .int _ _) (v_move (.inl rfl) (noOwn_flat rfl)) rfl rfl (by decide) ?_
  refine r_new (v := .int _ _) (q_call (vs := [.int _ _]) (args := [.int .i64 _]) hb102 ⟨.inl rfl, trivial⟩ rfl (fun hA => absA_c _) rfl rfl) rfl rfl (by decide) ?_
  refine r_new (v := .int _ _) (q_call (vs := [.int _ _, .int _ _]) (args := [.int .i64 _, .int .i64 _]) hb199 ⟨.inl rfl, .inl rfl, trivial⟩ rfl (fun hA => cmp_c _ _) rfl rfl) rfl rfl (by decide) ?_
  refine r_val (v := .int _ _) (v_move (.inl rfl) (noOwn_flat rfl)) rfl rfl (by decide) ?_
  refine r_val (v := .int _ _) (v_move (.inl rfl) (noOwn_flat rfl)) rfl rfl (by decide) ?_
  refine r_new (v := .int _ _) (q_call (vs := [.int _ _, .int _ _]) (args := [.int .i64 _, .int .i64 _]) hb199 ⟨.inl rfl, .inl rfl, trivial⟩ rfl (fun hA => cmp_c _ _) rfl rfl) rfl rfl (by decide) ?_
  refine r_new (v := .osl 1 (icells [cmpI (absA x) (absA y), cmpI y x]) 2 (some 2)) (q_sliceLit (n := 2) (parts := [(0, .tmp 9), (1, .tmp 12)]) lt22 rfl rfl rfl rfl) rfl rfl (by decide) ?_
  refine r_new (v := .int _ _) (q_call (vs := [.rsl _ _ _ _ _]) (args := [.sl _ _]) hb198 ⟨.inl rfl, trivial⟩ (l1_eq (sl_sh (ic_pure _))) (fun hA => or_c [cmpI (absA x) (absA y), cmpI y x] (by simp)) rfl rfl) rfl rfl (by decide) ?_
  refine r_val (v := .int _ _) (v_assign (.inl rfl) (noOwn_flat rfl)) rfl rfl (by decide) ?_
  refine r_nil ?_
  refine a_ret ?_
  refine ret1 Try.results190 (by decide) (by decide) (Weak.of_eq (int_eq ?_)) rfl Leaves.nil
  rw [cfLit_eq]
end Go.Av
namespace Go.Av
open Go Go.Proofs Go.Sort
set_option maxRecDepth 10000


theorem compact_c (d : Array Int) (n : Nat) (hd : d.size = n) (hn : n ≤ 1152921504606846976) : ACall Try.prog 174 [.rsl (INH, []) 1 0 n none] [.osl 1 (acells d) n none] (.osl 1 (icells (dedN d n)) (dedN d n).length none) [.undef] := by
  refine ACall.intro Try.func174 rfl (N := 61) rfl (by decide) (by simp) ?_
  refine a_seq ?_
  refine a_region ?_
  refine r_val (v := .nils) (v_assign (.inl rfl) (noOwn_flat rfl)) rfl rfl (by decide) ?_
  refine r_nil ?_
  refine a_seq ?_
  refine a_seq ?_
  refine a_region ?_
  refine r_val (v := .rsl _ _ _ _ _) (v_move (.inl rfl) (noOwn_flat rfl)) rfl rfl (by decide) ?_
  refine r_val (v := .int _ _) (v_len_rsl sl22 (.inl rfl)) rfl rfl (by decide) ?_
  refine r_val (v := .bool _) (v_lss (.inl rfl) (.inl rfl)) rfl rfl (by decide) ?_
  refine r_nil ?_
  refine a_cond rfl (fun ht8 => ?_) (fun ht8 => ?_)
  ·
    skip
    refine a_seq ?_
    have hall := ded_few hd (by simp at ht8; omega)
    refine a_region ?_
    refine r_val (v := .rsl _ _ _ _ _) (v_move (.inl rfl) (noOwn_flat rfl)) rfl rfl (by decide) ?_
    refine r_val (v := .rsl _ _ _ _ _) (v_assign (.inl rfl) (noOwn_flat rfl)) rfl rfl (by decide) ?_
    refine r_nil ?_
    refine a_pre (ent_reloc_sl (t := 2) rfl rfl) ?_
    refine a_ret ?_
    refine ret1 Try.results174 (by decide) (by decide) (Weak.osl ?_ ?_) rfl (Leaves.one Weak.undef rfl)
    · rw [ded_all hd hall]
    · rw [ded_all_len hd hall]
  ·
    skip
    refine a_skip ?_
    refine a_seq ?_
    refine a_seq ?_
    refine a_region ?_
    refine r_val (v := .int _ _) (v_assign (.inl rfl) (noOwn_flat rfl)) rfl rfl (by decide) ?_
    refine r_nil ?_
    refine a_block ?_
    refine a_loop (X := Nat) (fun k => look [(0, .rsl (INH, []) 1 0 n none), (3, .int .i64 ((k : Nat) : Int)), (INH, .osl 1 (acells d) n none)]) (fun k => 1 ≤ k ∧ k ≤ n ∧ dedN d k = d.toList.take k) (fun k => n - k) 1 (ent_look ⟨Weak.of_eq rfl, Weak.of_eq rfl, Weak.of_eq rfl, trivial⟩) ⟨Nat.le_refl _, by simp at ht8; omega, ded_one (by simp at ht8; omega)⟩ (fun k hG => ?_)
    obtain ⟨g1, g2, g3⟩ := hG
    refine a_seq ?_
    refine a_seq ?_
    refine a_region ?_
    refine r_val (v := .int _ _) (v_move (.inl rfl) (noOwn_flat rfl)) rfl rfl (by decide) ?_
    refine r_val (v := .rsl _ _ _ _ _) (v_move (.inl rfl) (noOwn_flat rfl)) rfl rfl (by decide) ?_
    refine r_val (v := .int _ _) (v_len_rsl sl22 (.inl rfl)) rfl rfl (by decide) ?_
    refine r_val (v := .bool _) (v_lss (.inl rfl) (.inl rfl)) rfl rfl (by decide) ?_
    refine r_nil ?_
    refine a_cond rfl (fun ht13 => ?_) (fun ht13 => ?_)
    ·
      skip
      refine a_skip ?_
      refine a_seq ?_
      refine a_block ?_
      refine a_seq ?_
      have hkn : k < n := (by simp at ht13; omega)
      refine a_region_any mixed (by kernel_rfl) ?_
      refine y_val (v := .rsl _ _ _ _ _) (v_move (.inl rfl) (noOwn_flat rfl)) rfl rfl (by decide) (by kernel_rfl) ?_
      refine y_val (v := .int _ _) (v_move (.inl rfl) (noOwn_flat rfl)) rfl rfl (by decide) (by kernel_rfl) ?_
      refine y_val (v := .rp _ _) (v_indexAddr_rsl0 es22 (.inl rfl) (.inl rfl) (fun _ => by omega)) rfl rfl (by decide) (by kernel_rfl) ?_
      refine y_val (v := .int .i64 d[k]!) (v_load_rp1 ta3 (.inl rfl) rfl (fun _ => by rw [Nat.mul_one]; exact acells_get (by omega)) rfl) rfl rfl (by decide) (by kernel_rfl) ?_
      refine y_val (v := .rsl _ _ _ _ _) (v_move (.inl rfl) (noOwn_flat rfl)) rfl rfl (by decide) (by kernel_rfl) ?_
      refine y_val (v := .int _ _) (v_move (.inl rfl) (noOwn_flat rfl)) rfl rfl (by decide) (by kernel_rfl) ?_
      refine y_val (v := .int _ _) (v_sub (.inl rfl) (.inl rfl) (fun _ => by omega)) rfl rfl (by decide) (by kernel_rfl) ?_
      refine y_val (v := .rp _ _) (v_indexAddr_rsl0 es22 (.inl rfl) (.inl rfl) (fun _ => by omega)) rfl rfl (by decide) (by kernel_rfl) ?_
      refine y_val (v := .int .i64 d[k - 1]!) (v_load_rp1 ta3 (.inl rfl) rfl (fun _ => by rw [show ((k : Int) - 1).toNat = k - 1 by omega, Nat.mul_one]; exact acells_get (by omega)) rfl) rfl rfl (by decide) (by kernel_rfl) ?_
      refine y_val (v := .bool _) (v_eql (.inl rfl) (.inl rfl)) rfl rfl (by decide) (by kernel_rfl) ?_
      refine y_nil ?_
      refine a_cond rfl (fun ht25 => ?_) (fun ht25 => ?_)
      ·
        skip
        refine a_seq ?_
        refine a_region ?_
        refine r_val (v := .rsl _ _ _ _ _) (v_move (.inl rfl) (noOwn_flat rfl)) rfl rfl (by decide) ?_
        refine r_val (v := .int _ _) (v_move (.inl rfl) (noOwn_flat rfl)) rfl rfl (by decide) ?_
        refine r_val (v := .rsl (INH, []) 1 (0 + k * 1) (n - k) none) ((v_slice_rsl (l := k) (h := n) es22 (.inl rfl) (.inr ⟨_, _, rfl, .inl rfl⟩) (.inl ⟨rfl, rfl⟩) (fun _ => by omega)).cast (rfl)) rfl rfl (by decide) ?_
        refine r_val (v := .rsl _ _ _ _ _) (v_assign (.inl rfl) (noOwn_flat rfl)) rfl rfl (by decide) ?_
        refine r_nil ?_
        refine a_seq ?_
        refine a_seq ?_
        refine a_region ?_
        refine r_val (v := .int _ _) (v_assign (.inl rfl) (noOwn_flat rfl)) rfl rfl (by decide) ?_
        refine r_nil ?_
        refine a_block ?_
        refine a_loop (X := (Nat × Nat × Array Int)) (fun x => look [(0, .rsl (INH, []) 1 0 n none), (3, .int .i64 ((x.2.1 : Nat) : Int)), (4, .rsl (INH, []) 1 (0 + k * 1) (n - k) none), (5, .int .i64 ((x.1 : Nat) : Int)), (INH, .osl 1 (acells x.2.2) n none)]) (fun x => Cpt d n k x.1 x.2.1 x.2.2) (fun x => n - (k + x.1)) (1, k, d) (ent_look ⟨Weak.of_eq rfl, Weak.of_eq rfl, Weak.of_eq rfl, Weak.of_eq rfl, Weak.of_eq rfl, trivial⟩) (Cpt.first hd (by omega) (by simp at ht13; omega) g3 (by simpa using ht25)) (fun x hG => ?_)
        have hC := hG
        obtain ⟨c1, c2, c3, c4, c5, c6⟩ := hG
        refine a_seq ?_
        refine a_seq ?_
        refine a_region ?_
        refine r_val (v := .int _ _) (v_move (.inl rfl) (noOwn_flat rfl)) rfl rfl (by decide) ?_
        refine r_val (v := .rsl _ _ _ _ _) (v_move (.inl rfl) (noOwn_flat rfl)) rfl rfl (by decide) ?_
        refine r_val (v := .int _ _) (v_len_rsl sl22 (.inl rfl)) rfl rfl (by decide) ?_
        refine r_val (v := .bool _) (v_lss (.inl rfl) (.inl rfl)) rfl rfl (by decide) ?_
        refine r_nil ?_
        refine a_cond rfl (fun ht32 => ?_) (fun ht32 => ?_)
        ·
          skip
          refine a_skip ?_
          refine a_seq ?_
          refine a_block ?_
          refine a_seq ?_
          have hx1 : x.1 < n - k := (by simp at ht32; omega)
          refine a_region_any mixed (by kernel_rfl) ?_
          refine y_val (v := .rsl _ _ _ _ _) (v_move (.inl rfl) (noOwn_flat rfl)) rfl rfl (by decide) (by kernel_rfl) ?_
          refine y_val (v := .int _ _) (v_move (.inl rfl) (noOwn_flat rfl)) rfl rfl (by decide) (by kernel_rfl) ?_
          refine y_val (v := .rp _ _) (v_indexAddr_rsl es22 (.inl rfl) (.inl rfl) (fun _ => by omega)) rfl rfl (by decide) (by kernel_rfl) ?_
          refine y_val (v := .int .i64 x.2.2[k + x.1]!) (v_load_rp1 ta3 (.inl rfl) rfl (fun _ => by rw [show 0 + k * 1 + (x.1 : Int).toNat * 1 = k + x.1 by omega]; exact acells_get (by omega)) rfl) rfl rfl (by decide) (by kernel_rfl) ?_
          refine y_val (v := .rsl _ _ _ _ _) (v_move (.inl rfl) (noOwn_flat rfl)) rfl rfl (by decide) (by kernel_rfl) ?_
          refine y_val (v := .int _ _) (v_move (.inl rfl) (noOwn_flat rfl)) rfl rfl (by decide) (by kernel_rfl) ?_
          refine y_val (v := .int _ _) (v_sub (.inl rfl) (.inl rfl) (fun _ => by omega)) rfl rfl (by decide) (by kernel_rfl) ?_
          refine y_val (v := .rp _ _) (v_indexAddr_rsl es22 (.inl rfl) (.inl rfl) (fun _ => by omega)) rfl rfl (by decide) (by kernel_rfl) ?_
          refine y_val (v := .int .i64 x.2.2[k + x.1 - 1]!) (v_load_rp1 ta3 (.inl rfl) rfl (fun _ => by rw [show 0 + k * 1 + ((x.1 : Int) - 1).toNat * 1 = k + x.1 - 1 by omega]; exact acells_get (by omega)) rfl) rfl rfl (by decide) (by kernel_rfl) ?_
          refine y_val (v := .bool _) (v_neq (.inl rfl) (.inl rfl)) rfl rfl (by decide) (by kernel_rfl) ?_
          refine y_nil ?_
          refine a_cond rfl (fun ht44 => ?_) (fun ht44 => ?_)
          ·
            skip
            refine a_seq ?_
            have hne : ¬ x.2.2[k + x.1]! = x.2.2[k + x.1 - 1]! := (by simpa using ht44)
            have hpl : x.2.1 * 1 + 1 ≤ (acells x.2.2).length := (by rw [acells_length]; omega)
            have hset : (acells x.2.2).set (x.2.1 * 1) (.int .i64 x.2.2[k + x.1]!) = acells (x.2.2.set! x.2.1 x.2.2[k + x.1]!) := (by rw [Nat.mul_one, acells_set])
            refine a_region ?_
            refine r_val (v := .rsl _ _ _ _ _) (v_move (.inl rfl) (noOwn_flat rfl)) rfl rfl (by decide) ?_
            refine r_val (v := .int _ _) (v_move (.inl rfl) (noOwn_flat rfl)) rfl rfl (by decide) ?_
            refine r_val (v := .rsl _ _ _ _ _) (v_move (.inl rfl) (noOwn_flat rfl)) rfl rfl (by decide) ?_
            refine r_val (v := .int _ _) (v_move (.inl rfl) (noOwn_flat rfl)) rfl rfl (by decide) ?_
            refine r_val (v := .rp _ _) (v_indexAddr_rsl es22 (.inl rfl) (.inl rfl) (fun _ => by omega)) rfl rfl (by decide) ?_
            refine r_val (v := .int .i64 x.2.2[k + x.1]!) (v_load_rp1 ta3 (.inl rfl) rfl (fun _ => by rw [show 0 + k * 1 + (x.1 : Int).toNat * 1 = k + x.1 by omega]; exact acells_get (by omega)) rfl) rfl rfl (by decide) ?_
            refine r_val (v := .rp _ _) (v_indexAddr_rsl0 es22 (.inl rfl) (.inl rfl) (fun _ => by omega)) rfl rfl (by decide) ?_
            refine r_step rfl (o_store (v := .int _ _) (y' := .osl _ _ _ _) rfl rfl ta3 (.inl rfl) (.inl rfl) rfl rfl rfl rfl rfl rfl hpl (by decide) rfl (congrArg (fun c => AV.osl 1 c n none) hset)) ?_
            refine r_nil ?_
            refine a_region ?_
            refine r_val (v := .int _ _) (v_move (.inl rfl) (noOwn_flat rfl)) rfl rfl (by decide) ?_
            refine r_val (v := .int _ _) (v_add (.inl rfl) (.inl rfl) (fun _ => by omega)) rfl rfl (by decide) ?_
            refine r_val (v := .int _ _) (v_assign (.inl rfl) (noOwn_flat rfl)) rfl rfl (by decide) ?_
            refine r_nil ?_
            refine a_pre (ent_look (L := [(0, .rsl _ _ _ _ _), (3, .int _ _), (4, .rsl _ _ _ _ _), (5, .int _ _), (INH, .osl _ _ _ _)]) ⟨Weak.rfl, Weak.rfl, Weak.rfl, Weak.rfl, Weak.rfl, trivial⟩) ?_
            refine a_region ?_
            refine r_val (v := .int _ _) (v_move (.inl rfl) (noOwn_flat rfl)) rfl rfl (by decide) ?_
            refine r_val (v := .int _ _) (v_add (.inl rfl) (.inl rfl) (fun _ => by omega)) rfl rfl (by decide) ?_
            refine r_val (v := .int _ _) (v_assign (.inl rfl) (noOwn_flat rfl)) rfl rfl (by decide) ?_
            refine r_nil ?_
            refine ⟨(x.1 + 1, x.2.1 + 1, x.2.2.set! x.2.1 x.2.2[k + x.1]!), ent_look ⟨Weak.of_eq rfl, Weak.of_eq (int_eq (by dsimp only; omega)), Weak.of_eq rfl, Weak.of_eq (int_eq (by dsimp only; omega)), Weak.of_eq rfl, trivial⟩, hC.new (by omega) hne, by dsimp only; omega⟩
          ·
            skip
            refine a_skip ?_
            refine a_region ?_
            refine r_val (v := .int _ _) (v_move (.inl rfl) (noOwn_flat rfl)) rfl rfl (by decide) ?_
            refine r_val (v := .int _ _) (v_add (.inl rfl) (.inl rfl) (fun _ => by omega)) rfl rfl (by decide) ?_
            refine r_val (v := .int _ _) (v_assign (.inl rfl) (noOwn_flat rfl)) rfl rfl (by decide) ?_
            refine r_nil ?_
            refine ⟨(x.1 + 1, x.2.1, x.2.2), ent_look ⟨Weak.of_eq rfl, Weak.of_eq rfl, Weak.of_eq rfl, Weak.of_eq (int_eq (by dsimp only; omega)), Weak.of_eq rfl, trivial⟩, hC.same (by omega) (by simpa using ht44), by dsimp only; omega⟩
        ·
          skip
          refine a_exit ?_
          refine a_seq ?_
          have hend : k + x.1 = n := (by simp at ht32; omega)
          have hdn := hC.done hend
          refine a_region ?_
          refine r_val (v := .rsl _ _ _ _ _) (v_move (.inl rfl) (noOwn_flat rfl)) rfl rfl (by decide) ?_
          refine r_val (v := .int _ _) (v_move (.inl rfl) (noOwn_flat rfl)) rfl rfl (by decide) ?_
          refine r_val (v := .rsl (INH, []) 1 (0 + x.2.1 * 1) (n - x.2.1) none) ((v_slice_rsl (l := x.2.1) (h := n) es22 (.inl rfl) (.inr ⟨_, _, rfl, .inl rfl⟩) (.inl ⟨rfl, rfl⟩) (fun _ => by omega)).cast (rfl)) rfl rfl (by decide) ?_
          refine r_step rfl (o_clear rfl rfl us22 zc3 rfl (.inl rfl) rfl (by rw [acells_length]; omega) rfl rfl) ?_
          refine r_nil ?_
          refine a_seq ?_
          refine a_region ?_
          refine r_val (v := .rsl _ _ _ _ _) (v_move (.inl rfl) (noOwn_flat rfl)) rfl rfl (by decide) ?_
          refine r_val (v := .int _ _) (v_move (.inl rfl) (noOwn_flat rfl)) rfl rfl (by decide) ?_
          refine r_val (v := .rsl (INH, []) 1 0 x.2.1 none) ((v_slice_rsl (l := 0) (h := x.2.1) es22 (.inl rfl) (.inl ⟨rfl, rfl⟩) (.inr ⟨_, _, rfl, .inl rfl⟩) (fun _ => by omega)).cast (rfl)) rfl rfl (by decide) ?_
          refine r_val (v := .rsl _ _ _ _ _) (v_assign (.inl rfl) (noOwn_flat rfl)) rfl rfl (by decide) ?_
          refine r_nil ?_
          refine a_pre (ent_reloc_sl (t := 2) rfl rfl) ?_
          refine a_ret ?_
          refine ret1 Try.results174 (by decide) (by decide) (Weak.osl_take (ds := List.replicate (n - x.2.1) (.int .i64 0)) ?_ ?_) rfl (Leaves.one Weak.undef rfl)
          · exact hdn.1
          · exact hdn.2
      ·
        skip
        refine a_skip ?_
        refine a_region ?_
        refine r_val (v := .int _ _) (v_move (.inl rfl) (noOwn_flat rfl)) rfl rfl (by decide) ?_
        refine r_val (v := .int _ _) (v_add (.inl rfl) (.inl rfl) (fun _ => by omega)) rfl rfl (by decide) ?_
        refine r_val (v := .int _ _) (v_assign (.inl rfl) (noOwn_flat rfl)) rfl rfl (by decide) ?_
        refine r_nil ?_
        refine ⟨k + 1, ent_look ⟨Weak.of_eq rfl, Weak.of_eq (int_eq (by omega)), Weak.of_eq rfl, trivial⟩, ⟨by omega, by omega, ded_grow (by omega) g3 (by simp at ht25; exact fun h => ht25 h.2)⟩, by omega⟩
    ·
      skip
      refine a_exit ?_
      refine a_seq ?_
      have hkn : k = n := (by simp at ht13; omega)
      refine a_region ?_
      refine r_val (v := .rsl _ _ _ _ _) (v_move (.inl rfl) (noOwn_flat rfl)) rfl rfl (by decide) ?_
      refine r_val (v := .rsl _ _ _ _ _) (v_assign (.inl rfl) (noOwn_flat rfl)) rfl rfl (by decide) ?_
      refine r_nil ?_
      refine a_pre (ent_reloc_sl (t := 2) rfl rfl) ?_
      refine a_ret ?_
      refine ret1 Try.results174 (by decide) (by decide) (Weak.osl ?_ ?_) rfl (Leaves.one Weak.undef rfl)
      · subst hkn; rw [ded_all hd g3]
      · subst hkn; rw [ded_all_len hd g3]
end Go.Av
namespace Go.Av
open Go Go.Proofs Go.Sort
set_option maxRecDepth 10000
theorem hb118 : hasBody Try.prog 118 = true := by kernel_rfl
theorem hb174 : hasBody Try.prog 174 = true := by kernel_rfl
theorem hb187 : hasBody Try.prog 187 = true := by kernel_rfl
theorem hb190 : hasBody Try.prog 190 = true := by kernel_rfl

theorem clause_c (l : List Int) (hn : l.length ≤ 1048576) : ACall Try.prog 170 [.sl (icells l) l.length] [] (.tup [.osl 1 (icells ((clR l).getD [])) ((clR l).getD []).length none, .bool (clR l).isSome]) [] := by
  refine ACall.intro Try.func170 rfl (N := 30) rfl (by decide) (by simp) ?_
  refine a_seq ?_
  refine a_region ?_
  refine r_val (v := .nils) (v_assign (.inl rfl) (noOwn_flat rfl)) rfl rfl (by decide) ?_
  refine r_val (v := .bool _) (v_assign (.inl rfl) (noOwn_flat rfl)) rfl rfl (by decide) ?_
  refine r_nil ?_
  refine a_seq ?_
  refine a_region ?_
  refine r_val (v := .sl _ _) (v_move (.inl rfl) (noOwn_flat rfl)) rfl rfl (by decide) ?_
  refine r_new (v := .osl _ _ _ _) (q_call (vs := [.sl _ _]) (args := [.sl _ _]) hb118 ⟨.inl rfl, trivial⟩ rfl (fun hA => cloneI_c _ _ ⟨rfl, by omega⟩) (ic_noSh _) (ic_noRef _)) rfl rfl (by decide) ?_
  refine r_val (v := .rsl _ _ _ _ _) (v_assign (.inl rfl) (noOwn_flat rfl)) rfl rfl (by decide) ?_
  refine r_pre (ent_reloc_sl (t := 4) rfl rfl) ?_
  refine r_nil ?_
  refine a_seq ?_
  refine a_region ?_
  refine r_val (v := .rsl _ _ _ _ _) (v_move (.inl rfl) (noOwn_flat rfl)) rfl rfl (by decide) ?_
  refine r_step rfl (o_callIO (q := (4, [])) (vs := [.rsl _ _ _ _ _, .fn _ _ _]) (args := [.rsl (INH, []) _ _ _ _, .fn _ _ _]) (x0 := .osl _ _ _ _) (x1 := .osl _ _ _ _) (res := .tup []) rfl hb187 rfl (by decide) ⟨.inl rfl, .inl rfl, trivial⟩ rfl rfl (sortFunc_c 190 hb190 cfLit cmpLit_c cfLit_swo l.toArray l.length (by simp) (by omega)) rfl rfl rfl (ac_noSh _) (ac_noRef _) (Nat.le_of_ble_eq_true rfl) (by decide) rfl) ?_
  refine r_nil ?_
  refine a_seq ?_
  refine a_region ?_
  refine r_val (v := .rsl _ _ _ _ _) (v_move (.inl rfl) (noOwn_flat rfl)) rfl rfl (by decide) ?_
  refine r_step rfl (o_callIO (q := (4, [])) (vs := [.rsl _ _ _ _ _]) (args := [.rsl (INH, []) _ _ _ _]) (x0 := .osl _ _ _ _) (x1 := .undef) (res := .osl _ _ _ _) rfl hb174 rfl (by decide) ⟨.inl rfl, trivial⟩ rfl rfl (compact_c _ l.length (sort_size l) (by omega)) rfl (ic_noSh _) (ic_noRef _) rfl rfl (Nat.le_of_ble_eq_true rfl) (by decide) rfl) ?_
  refine r_val (v := .rsl _ _ _ _ _) (v_assign (.inl rfl) (noOwn_flat rfl)) rfl rfl (by decide) ?_
  refine r_pre (ent_reloc_sl (t := 4) rfl rfl) ?_
  refine r_nil ?_
  refine a_seq ?_
  refine a_seq ?_
  refine a_region ?_
  refine r_val (v := .int _ _) (v_assign (.inl rfl) (noOwn_flat rfl)) rfl rfl (by decide) ?_
  refine r_nil ?_
  refine a_block ?_
  refine a_loop (X := Nat) (fun i => look [(4, .osl 1 (icells (dsrt l)) (dsrt l).length none), (5, .int .i64 ((i : Nat) : Int))]) (fun i => 1 ≤ i ∧ (∀ j, 1 ≤ j → j < i → oppB (dsrt l) j = false)) (fun i => (dsrt l).length - i) 1 (ent_look ⟨Weak.osl rfl rfl, Weak.of_eq rfl, trivial⟩) ⟨Nat.le_refl _, fun j h1 h2 => by omega⟩ (fun i hG => ?_)
  obtain ⟨g1, g2⟩ := hG
  have hdl : (dsrt l).length ≤ l.length := dedN_le _ _
  refine a_seq ?_
  refine a_seq ?_
  refine a_region ?_
  refine r_val (v := .int _ _) (v_move (.inl rfl) (noOwn_flat rfl)) rfl rfl (by decide) ?_
  refine r_val (v := .rsl _ _ _ _ _) (v_move (.inl rfl) (noOwn_flat rfl)) rfl rfl (by decide) ?_
  refine r_val (v := .int _ _) (v_len_rsl sl22 (.inl rfl)) rfl rfl (by decide) ?_
  refine r_val (v := .bool _) (v_lss (.inl rfl) (.inl rfl)) rfl rfl (by decide) ?_
  refine r_nil ?_
  refine a_cond rfl (fun ht15 => ?_) (fun ht15 => ?_)
  ·
    skip
    refine a_skip ?_
    refine a_seq ?_
    refine a_block ?_
    refine a_seq ?_
    have hi : i < (dsrt l).length := (by simp at ht15; omega)
    refine a_region_any mixed (by kernel_rfl) ?_
    refine y_val (v := .rsl _ _ _ _ _) (v_move (.inl rfl) (noOwn_flat rfl)) rfl rfl (by decide) (by kernel_rfl) ?_
    refine y_val (v := .int _ _) (v_move (.inl rfl) (noOwn_flat rfl)) rfl rfl (by decide) (by kernel_rfl) ?_
    refine y_val (v := .rp _ _) (v_indexAddr_rsl0 es22 (.inl rfl) (.inl rfl) (fun _ => by omega)) rfl rfl (by decide) (by kernel_rfl) ?_
    refine y_val (v := .int .i64 (gd (dsrt l) i)) (v_load_rp1 ta3 (.inl rfl) rfl (fun _ => by rw [Nat.mul_one]; exact icells_get (gd_get (by omega))) rfl) rfl rfl (by decide) (by kernel_rfl) ?_
    refine y_val (v := .rsl _ _ _ _ _) (v_move (.inl rfl) (noOwn_flat rfl)) rfl rfl (by decide) (by kernel_rfl) ?_
    refine y_val (v := .int _ _) (v_move (.inl rfl) (noOwn_flat rfl)) rfl rfl (by decide) (by kernel_rfl) ?_
    refine y_val (v := .int _ _) (v_sub (.inl rfl) (.inl rfl) (fun _ => by omega)) rfl rfl (by decide) (by kernel_rfl) ?_
    refine y_val (v := .rp _ _) (v_indexAddr_rsl0 es22 (.inl rfl) (.inl rfl) (fun _ => by omega)) rfl rfl (by decide) (by kernel_rfl) ?_
    refine y_val (v := .int .i64 (gd (dsrt l) (i - 1))) (v_load_rp1 ta3 (.inl rfl) rfl (fun _ => by rw [show ((i : Int) - 1).toNat = i - 1 by omega, Nat.mul_one]; exact icells_get (gd_get (by omega))) rfl) rfl rfl (by decide) (by kernel_rfl) ?_
    refine y_val (v := .int _ _) (v_negA (.inl rfl)) rfl rfl (by decide) (by kernel_rfl) ?_
    refine y_val (v := .bool _) (v_eql (.inl rfl) (.inl rfl)) rfl rfl (by decide) (by kernel_rfl) ?_
    refine y_nil ?_
    refine a_cond rfl (fun ht28 => ?_) (fun ht28 => ?_)
    ·
      skip
      refine a_seq ?_
      have hfin : clR l = none := clR_none hi g1 (by simpa [oppB] using ht28)
      refine a_region ?_
      refine r_val (v := .nils) (v_assign (.inl rfl) (noOwn_flat rfl)) rfl rfl (by decide) ?_
      refine r_val (v := .bool _) (v_assign (.inl rfl) (noOwn_flat rfl)) rfl rfl (by decide) ?_
      refine r_nil ?_
      refine a_pre (ent_nil (t := 2) (sz := 1) (cap := none) (.inl rfl) (fun _ h => by cases h)) ?_
      refine a_ret ?_
      refine retL (rs := [.tmp 2, .tmp 3]) [(2, .osl _ _ _ none), (3, _)] ⟨Weak.osl rfl rfl, Weak.rfl, trivial⟩ rfl Try.results170 (by decide) ⟨by decide, by decide, rfl⟩ (by decide) (by decide) (l2_eq (osl_eq2 ?_ ?_) (bool_eq ?_)) (by simp [refsL, refs])
      all_goals simp [hfin, icells]
    ·
      skip
      refine a_skip ?_
      refine a_region ?_
      refine r_val (v := .int _ _) (v_move (.inl rfl) (noOwn_flat rfl)) rfl rfl (by decide) ?_
      refine r_val (v := .int _ _) (v_add (.inl rfl) (.inl rfl) (fun _ => by omega)) rfl rfl (by decide) ?_
      refine r_val (v := .int _ _) (v_assign (.inl rfl) (noOwn_flat rfl)) rfl rfl (by decide) ?_
      refine r_nil ?_
      refine ⟨i + 1, ent_look ⟨Weak.of_eq rfl, Weak.of_eq (int_eq (by omega)), trivial⟩, ⟨by omega, fun j h1 h2 => by rcases Nat.lt_or_ge j i with h | h; exact g2 j h1 h; (obtain rfl : j = i := by omega); simpa [oppB] using ht28⟩, by omega⟩
  ·
    skip
    refine a_exit ?_
    refine a_seq ?_
    have hfin : clR l = some (dsrt l) := clR_some (fun j h1 h2 => g2 j h1 (by simp at ht15; omega))
    refine a_region ?_
    refine r_val (v := .rsl _ _ _ _ _) (v_move (.inl rfl) (noOwn_flat rfl)) rfl rfl (by decide) ?_
    refine r_val (v := .rsl _ _ _ _ _) (v_assign (.inl rfl) (noOwn_flat rfl)) rfl rfl (by decide) ?_
    refine r_pre (ent_reloc_sl (t := 2) rfl rfl) ?_
    refine r_val (v := .bool _) (v_assign (.inl rfl) (noOwn_flat rfl)) rfl rfl (by decide) ?_
    refine r_nil ?_
    refine a_ret ?_
    refine retL (rs := [.tmp 2, .tmp 3]) [(2, .osl _ _ _ none), (3, _)] ⟨Weak.osl rfl rfl, Weak.rfl, trivial⟩ rfl Try.results170 (by decide) ⟨by decide, by decide, rfl⟩ (by decide) (by decide) (l2_eq (osl_eq2 ?_ ?_) (bool_eq ?_)) (by simp [refsL, refs])
    all_goals simp [hfin]
end Go.Av
namespace Go.Av
open Go Go.Proofs Go.Sort
set_option maxRecDepth 10000
theorem hb150 : hasBody Try.prog 150 = true := by kernel_rfl
theorem hb171 : hasBody Try.prog 171 = true := by kernel_rfl

theorem has_c (c : List Int) (n : Nat) (l : Int) (hl : c.length = n ∧ n ≤ 9223372036854775807) : ACall Try.prog 150 [.sl (icells c) n, .int .i64 l] [] (.bool (decide (l ∈ c))) [] := by
  refine ACall.intro Try.func150 rfl (N := 18) rfl (by decide) (by simp) ?_
  refine a_seq ?_
  refine a_region ?_
  refine r_val (v := .bool _) (v_assign (.inl rfl) (noOwn_flat rfl)) rfl rfl (by decide) ?_
  refine r_nil ?_
  refine a_seq ?_
  refine a_seq ?_
  refine a_region ?_
  refine r_val (v := .int _ _) (v_assign (.inl rfl) (noOwn_flat rfl)) rfl rfl (by decide) ?_
  refine r_nil ?_
  refine a_block ?_
  refine a_loop (X := Nat) (fun i => look [(0, .sl (icells c) n), (1, .int .i64 l), (5, .int .i64 ((i : Nat) : Int))]) (fun i => i ≤ n ∧ ∀ j, j < i → gd c j ≠ l) (fun i => n - i) 0 (ent_look ⟨Weak.of_eq rfl, Weak.of_eq rfl, Weak.of_eq rfl, trivial⟩) ⟨Nat.zero_le _, fun j h => by omega⟩ (fun i hG => ?_)
  obtain ⟨g1, g2⟩ := hG
  refine a_seq ?_
  refine a_seq ?_
  refine a_region ?_
  refine r_val (v := .int _ _) (v_move (.inl rfl) (noOwn_flat rfl)) rfl rfl (by decide) ?_
  refine r_val (v := .sl _ _) (v_move (.inl rfl) (noOwn_flat rfl)) rfl rfl (by decide) ?_
  refine r_val (v := .int _ _) (v_len_sl sl22 (.inl rfl)) rfl rfl (by decide) ?_
  refine r_val (v := .bool _) (v_lss (.inl rfl) (.inl rfl)) rfl rfl (by decide) ?_
  refine r_nil ?_
  refine a_cond rfl (fun ht9 => ?_) (fun ht9 => ?_)
  ·
    skip
    refine a_skip ?_
    refine a_seq ?_
    refine a_block ?_
    refine a_seq ?_
    have hi : i < c.length := (by simp at ht9; omega)
    refine a_region ?_
    refine r_val (v := .sl _ _) (v_move (.inl rfl) (noOwn_flat rfl)) rfl rfl (by decide) ?_
    refine r_val (v := .int _ _) (v_move (.inl rfl) (noOwn_flat rfl)) rfl rfl (by decide) ?_
    refine r_val (v := .pp _ _) (v_indexAddr_sl es22 (.inl rfl) (.inl rfl) (fun _ => ⟨by omega, by omega, icells_ne hi⟩)) rfl rfl (by decide) ?_
    refine r_val (v := .int .i64 (gd c i)) (v_load_pp ta3 (.inl rfl) (fun _ => by rw [Nat.mul_one]; exact icells_get (gd_get hi)) rfl) rfl rfl (by decide) ?_
    refine r_val (v := .int _ _) (v_move (.inl rfl) (noOwn_flat rfl)) rfl rfl (by decide) ?_
    refine r_val (v := .bool _) (v_eql (.inl rfl) (.inl rfl)) rfl rfl (by decide) ?_
    refine r_nil ?_
    refine a_cond rfl (fun ht17 => ?_) (fun ht17 => ?_)
    ·
      skip
      refine a_seq ?_
      refine a_region ?_
      refine r_val (v := .bool _) (v_assign (.inl rfl) (noOwn_flat rfl)) rfl rfl (by decide) ?_
      refine r_nil ?_
      refine a_ret ?_
      refine ret1 Try.results150 (by decide) (by decide) (Weak.of_eq (bool_eq ?_)) rfl Leaves.nil
      rw [decide_eq_true]; rw [← of_decide_eq_true ht17]; exact gd_mem hi
    ·
      skip
      refine a_skip ?_
      refine a_region ?_
      refine r_val (v := .int _ _) (v_move (.inl rfl) (noOwn_flat rfl)) rfl rfl (by decide) ?_
      refine r_val (v := .int _ _) (v_add (.inl rfl) (.inl rfl) (fun _ => by omega)) rfl rfl (by decide) ?_
      refine r_val (v := .int _ _) (v_assign (.inl rfl) (noOwn_flat rfl)) rfl rfl (by decide) ?_
      refine r_nil ?_
      refine ⟨i + 1, ent_look ⟨Weak.of_eq rfl, Weak.of_eq rfl, Weak.of_eq (int_eq (by omega)), trivial⟩, ⟨by omega, fun j h1 => by rcases Nat.lt_or_ge j i with h | h; exact g2 j h; (obtain rfl : j = i := by omega); simpa using ht17⟩, by omega⟩
  ·
    skip
    refine a_exit ?_
    refine a_seq ?_
    refine a_region ?_
    refine r_val (v := .bool _) (v_assign (.inl rfl) (noOwn_flat rfl)) rfl rfl (by decide) ?_
    refine r_nil ?_
    refine a_ret ?_
    refine ret1 Try.results150 (by decide) (by decide) (Weak.of_eq (bool_eq ?_)) rfl Leaves.nil
    simp; intro h; obtain ⟨j, hj, hx⟩ := mem_gd h; exact g2 j (by simp at ht9; omega) hx

theorem has2_c (c : List Int) (n : Nat) (l : Int) (hl : c.length = n ∧ n ≤ 9223372036854775807) : ACall Try.prog 108 [.sl (icells c) n, .int .i64 l] [] (.bool (decide (l ∈ c))) [] := by
  refine ACall.intro Try.func108 rfl (N := 8) rfl (by decide) (by simp) ?_
  refine a_seq ?_
  refine a_region ?_
  refine r_val (v := .bool _) (v_assign (.inl rfl) (noOwn_flat rfl)) rfl rfl (by decide) ?_
  refine r_nil ?_
  refine a_seq ?_
  refine a_region ?_
  refine r_val (v := .sl _ _) (v_move (.inl rfl) (noOwn_flat rfl)) rfl rfl (by decide) ?_
  refine r_val (v := .int _ _) (v_move (.inl rfl) (noOwn_flat rfl)) rfl rfl (by decide) ?_
  refine r_new (v := .bool _) (q_call (vs := [.sl _ _, .int _ _]) (args := [.sl _ _, .int .i64 _]) hb150 ⟨.inl rfl, .inl rfl, trivial⟩ rfl (fun hA => has_c _ _ _ hl) rfl rfl) rfl rfl (by decide) ?_
  refine r_val (v := .bool _) (v_assign (.inl rfl) (noOwn_flat rfl)) rfl rfl (by decide) ?_
  refine r_nil ?_
  refine a_ret ?_
  refine ret1 Try.results108 (by decide) (by decide) (Weak.of_eq (bool_eq ?_)) rfl Leaves.nil
  rfl

theorem put_c (c : List Int) (n : Nat) (l : Int) (hl : c.length = n ∧ n ≤ 1048576) (hs : SmI c) (hb : -4611686018427387904 ≤ l ∧ l ≤ 4611686018427387904) : ACall Try.prog 136 [.sl (icells c) n, .int .i64 l] [] (.osl 1 (icells (putL c l)) (n + 1) none) [] := by
  refine ACall.intro Try.func136 rfl (N := 33) rfl (by decide) (by simp) ?_
  refine a_seq ?_
  refine a_region ?_
  refine r_val (v := .nils) (v_assign (.inl rfl) (noOwn_flat rfl)) rfl rfl (by decide) ?_
  refine r_nil ?_
  refine a_seq ?_
  refine a_region ?_
  refine r_val (v := .int _ _) (v_assign (.inl rfl) (noOwn_flat rfl)) rfl rfl (by decide) ?_
  refine r_nil ?_
  refine a_seq ?_
  refine a_block ?_
  refine a_loop (X := Nat) (fun i => look [(0, .sl (icells c) n), (1, .int .i64 l), (5, .int .i64 ((i : Nat) : Int))]) (fun i => i ≤ n ∧ c.take i ++ putL (c.drop i) l = putL c l) (fun i => n - i) 0 (ent_look ⟨Weak.of_eq rfl, Weak.of_eq rfl, Weak.of_eq rfl, trivial⟩) ⟨Nat.zero_le _, rfl⟩ (fun i hG => ?_)
  obtain ⟨g1, g2⟩ := hG
  have hsi := hs i
  refine a_seq ?_
  refine a_seq ?_
  refine a_region ?_
  refine r_val (v := .int _ _) (v_move (.inl rfl) (noOwn_flat rfl)) rfl rfl (by decide) ?_
  refine r_val (v := .sl _ _) (v_move (.inl rfl) (noOwn_flat rfl)) rfl rfl (by decide) ?_
  refine r_val (v := .int _ _) (v_len_sl sl22 (.inl rfl)) rfl rfl (by decide) ?_
  refine r_val (v := .bool _) (v_lss (.inl rfl) (.inl rfl)) rfl rfl (by decide) ?_
  refine r_val (v := .bool _) (v_move (.inl rfl) (noOwn_flat rfl)) rfl rfl (by decide) ?_
  refine r_gval (v := .sl _ _) (v_move (.inl rfl) (noOwn_flat rfl)) rfl rfl rfl (by decide) (.inl ⟨_, rfl, rfl⟩) rfl (by decide) ?_
  refine r_gval (v := .int _ _) (v_move (.inl rfl) (noOwn_flat rfl)) rfl rfl rfl (by decide) (.inl ⟨_, rfl, rfl⟩) rfl (by decide) ?_
  refine r_gval (v := .pp _ _) (v_indexAddr_sl es22 (.inr ⟨_, rfl, fun h => h⟩) (.inr ⟨_, rfl, fun h => h⟩) (fun hA => by simp at hA; exact ⟨by omega, by omega, icells_ne (show i < c.length by omega)⟩)) rfl rfl rfl (by decide) (.inl ⟨_, rfl, rfl⟩) rfl (by decide) ?_
  refine r_gval (v := .int .i64 (gd c i)) (v_load_pp ta3 (.inr ⟨_, rfl, fun h => h⟩) (fun hA => by simp at hA; rw [Nat.mul_one]; exact icells_get (gd_get (by omega))) rfl) rfl rfl rfl (by decide) (.inl ⟨_, rfl, rfl⟩) rfl (by decide) ?_
  refine r_guard (v := .int _ _) (q_call (vs := [.int _ _]) (args := [.int .i64 _]) hb107 ⟨.inr ⟨_, rfl, fun h => h⟩, trivial⟩ rfl (fun hA => l2Var_c _ (by omega)) rfl rfl) rfl rfl rfl (by decide) (.inl ⟨_, rfl, rfl⟩) rfl (by decide) ?_
  refine r_gval (v := .int _ _) (v_move (.inl rfl) (noOwn_flat rfl)) rfl rfl rfl (by decide) (.inl ⟨_, rfl, rfl⟩) rfl (by decide) ?_
  refine r_guard (v := .int _ _) (q_call (vs := [.int _ _]) (args := [.int .i64 _]) hb107 ⟨.inr ⟨_, rfl, fun h => h⟩, trivial⟩ rfl (fun hA => l2Var_c _ (by omega)) rfl rfl) rfl rfl rfl (by decide) (.inl ⟨_, rfl, rfl⟩) rfl (by decide) ?_
  refine r_gval (v := .bool _) (v_lss (.inr ⟨_, rfl, fun h => h⟩) (.inr ⟨_, rfl, fun h => h⟩)) rfl rfl rfl (by decide) (.inl ⟨_, rfl, rfl⟩) rfl (by decide) ?_
  refine r_val (v := .bool _) (v_pick (.inl rfl) (.inr ⟨_, rfl, fun h h2 => by simp_all⟩) (.inl rfl)) rfl rfl (by decide) ?_
  refine r_nil ?_
  refine a_cond rfl (fun ht19 => ?_) (fun ht19 => ?_)
  ·
    skip
    refine a_skip ?_
    refine a_block ?_
    refine a_region ?_
    refine r_val (v := .int _ _) (v_move (.inl rfl) (noOwn_flat rfl)) rfl rfl (by decide) ?_
    refine r_val (v := .int _ _) (v_add (.inl rfl) (.inl rfl) (fun _ => by omega)) rfl rfl (by decide) ?_
    refine r_val (v := .int _ _) (v_assign (.inl rfl) (noOwn_flat rfl)) rfl rfl (by decide) ?_
    refine r_nil ?_
    refine ⟨i + 1, ent_look ⟨Weak.of_eq rfl, Weak.of_eq rfl, Weak.of_eq (int_eq (by omega)), trivial⟩, ⟨by simp at ht19; omega, by simp at ht19; rw [put_more (by omega) ht19.2, g2]⟩, by simp at ht19; omega⟩
  ·
    skip
    refine a_exit ?_
    refine a_seq ?_
    have hst : putL (c.drop i) l = l :: c.drop i := put_stop (fun h => by simp at ht19; exact Int.not_lt.2 (ht19 (by omega)))
    refine a_region_x [[(22, true)], [(23, true)], [(24, true)], [(25, true)], [(26, true)], [(27, true)], [(25, false), (28, true)], [(29, true)], [(30, true)], [(31, true)], [(28, false), (32, true)], [(4, true)]] mixed (by kernel_rfl) ?_
    refine x_val (v := .sl _ _) (v_move (.inl rfl) (noOwn_flat rfl)) rfl rfl (by decide) rfl (by kernel_rfl) ?_
    refine x_val (v := .int _ _) (v_move (.inl rfl) (noOwn_flat rfl)) rfl rfl (by decide) rfl (by kernel_rfl) ?_
    refine x_val (v := .sl (icells (c.take i)) i) ((v_slice_sl (l := 0) (h := i) es22 (.inl rfl) (.inl ⟨rfl, rfl⟩) (.inr ⟨_, _, rfl, .inl rfl⟩) (fun _ => by omega)).cast (sl_eq2 (by simp [icells]) rfl)) rfl rfl (by decide) rfl (by kernel_rfl) ?_
    refine x_new (v := .osl _ _ _ _) (q_call (vs := [.sl _ _]) (args := [.sl _ _]) hb171 ⟨.inl rfl, trivial⟩ rfl (fun hA => l1Own_c (c.take i) i ⟨by rw [List.length_take]; omega, by omega⟩) (ic_noSh _) (ic_noRef _)) rfl rfl (by decide) rfl (by kernel_rfl) ?_
    refine x_val (v := .int _ _) (v_move (.inl rfl) (noOwn_flat rfl)) rfl rfl (by decide) rfl (by kernel_rfl) ?_
    refine x_new (v := .osl 1 (icells [l]) 1 (some 1)) (q_sliceLit (n := 1) (parts := [(0, .tmp 26)]) lt22 rfl rfl rfl rfl) rfl rfl (by decide) rfl (by kernel_rfl) ?_
    refine x_append rfl rfl ap22 rfl (by decide) (by decide) (by decide) rfl (src_lit (.inl rfl) rfl rfl (ic_pureL _)) (ic_cell _) (by rw [icells_length, List.length_take]; omega) (by omega) rfl (by kernel_rfl) ?_
    refine x_val (v := .sl _ _) (v_move (.inl rfl) (noOwn_flat rfl)) rfl rfl (by decide) rfl (by kernel_rfl) ?_
    refine x_val (v := .int _ _) (v_move (.inl rfl) (noOwn_flat rfl)) rfl rfl (by decide) rfl (by kernel_rfl) ?_
    refine x_val (v := .sl (icells (c.drop i)) (n - i)) ((v_slice_sl (l := i) (h := n) es22 (.inl rfl) (.inr ⟨_, _, rfl, .inl rfl⟩) (.inl ⟨rfl, rfl⟩) (fun _ => by omega)).cast (sl_eq2 (by rw [Nat.mul_one, Nat.mul_one, icells_drop, List.take_of_length_le (by rw [icells_length, List.length_drop]; omega)]) rfl)) rfl rfl (by decide) rfl (by kernel_rfl) ?_
    refine x_append rfl rfl ap22 rfl (by decide) (by decide) (by decide) rfl (src_sl (.inl rfl) (fun _ => by rw [icells_length, List.length_drop]; omega) (ic_pureL _)) (ic_cell _) (by rw [List.length_append, icells_length, icells_length, List.length_take]; simp; omega) (by omega) rfl (by kernel_rfl) ?_
    refine x_val (v := .rsl _ _ _ _ _) (v_assign (.inl rfl) (noOwn_flat rfl)) rfl rfl (by decide) rfl (by kernel_rfl) ?_
    refine x_nil ?_
    refine a_pre (ent_reloc_sl (t := 4) rfl rfl) ?_
    refine a_ret ?_
    refine ret1 Try.results136 (by decide) (by decide) (Weak.osl ?_ ?_) rfl Leaves.nil
    · rw [← g2, hst]; simp [icells]
    · omega
end Go.Av
namespace Go.Av
open Go Go.Proofs Go.Sort
set_option maxRecDepth 10000
theorem hb108 : hasBody Try.prog 108 = true := by kernel_rfl
theorem hb136 : hasBody Try.prog 136 = true := by kernel_rfl

end Go.Av
namespace Go.Av
open Go Go.Proofs Go.Sort
set_option maxRecDepth 10000



end Go.Av
namespace Go.Av
open Go Go.Proofs Go.Sort
set_option maxRecDepth 10000



end Go.Av
namespace Go.Av
open Go Go.Proofs Go.Sort
set_option maxRecDepth 10000


theorem del_c (f : Nat) (caps : List AV) (hf : hasBody Try.prog f = true) (hcap : capOk caps = true) (xs : List Int) (n : Nat) (p : Int → Bool) (hl : xs.length = n ∧ n ≤ 9223372036854775807) (hc : ∀ i, i < n → ACall Try.prog f (.int .i64 (gd xs i) :: caps) [] (.bool (p (gd xs i))) []) : ACall Try.prog 117 [.rsl (INH, []) 1 0 n none, .fn f [] caps] [.osl 1 (icells xs) n none] (.osl 1 (icells (xs.filter fun x => !p x)) (xs.filter fun x => !p x).length none) [.undef] := by
  obtain ⟨rfl, hn⟩ := hl
  refine ACall.intro Try.func117 rfl (N := 42) rfl (by decide) (by simp) ?_
  refine a_seq ?_
  refine a_region ?_
  refine r_val (v := .nils) (v_assign (.inl rfl) (noOwn_flat rfl)) rfl rfl (by decide) ?_
  refine r_nil ?_
  refine a_seq ?_
  refine a_region ?_
  refine r_val (v := .rsl _ _ _ _ _) (v_move (.inl rfl) (noOwn_flat rfl)) rfl rfl (by decide) ?_
  refine r_val (v := .fn _ _ _) (v_mv rfl) rfl rfl (by decide) ?_
  refine r_new (v := .int _ _) (q_call (vs := [.rsl _ _ _ _ _, .fn _ _ _]) (args := [.sl _ _, .fn _ _ _]) hb142 ⟨.inl rfl, .inl rfl, trivial⟩ (l2_eq (sl_sh (ic_pure _)) (snap_fn hcap)) (fun hA => idxI_c f caps hf hcap xs (fun i => p (gd xs i)) (by omega) (fun i hi => hc i hi)) rfl rfl) rfl rfl (by decide) ?_
  refine r_val (v := .int _ _) (v_assign (.inl rfl) (noOwn_flat rfl)) rfl rfl (by decide) ?_
  refine r_nil ?_
  refine a_seq ?_
  refine a_seq ?_
  refine a_region ?_
  refine r_val (v := .int _ _) (v_move (.inl rfl) (noOwn_flat rfl)) rfl rfl (by decide) ?_
  refine r_val (v := .bool _) (v_eql (.inl rfl) (.inl rfl)) rfl rfl (by decide) ?_
  refine r_nil ?_
  refine a_cond rfl (fun ht12 => ?_) (fun ht12 => ?_)
  ·
    skip
    refine a_seq ?_
    have hnone := dlt_none (xs := xs) rfl (of_decide_eq_true ht12)
    refine a_region ?_
    refine r_val (v := .rsl _ _ _ _ _) (v_move (.inl rfl) (noOwn_flat rfl)) rfl rfl (by decide) ?_
    refine r_val (v := .rsl _ _ _ _ _) (v_assign (.inl rfl) (noOwn_flat rfl)) rfl rfl (by decide) ?_
    refine r_nil ?_
    refine a_pre (ent_reloc_sl (t := 4) rfl rfl) ?_
    refine a_ret ?_
    refine ret1 Try.results117 (by decide) (by decide) (Weak.osl ?_ ?_) rfl (Leaves.one Weak.undef rfl)
    · rw [hnone]
    · rw [hnone]
  ·
    skip
    refine a_skip ?_
    refine a_seq ?_
    refine a_seq ?_
    obtain ⟨i0, hi0, e0, p0, n0⟩ := fidx_spec (of_decide_eq_false ht12)
    refine a_region ?_
    refine r_val (v := .int _ _) (v_move (.inl rfl) (noOwn_flat rfl)) rfl rfl (by decide) ?_
    refine r_val (v := .int _ _) (v_add (.inl rfl) (.inl rfl) (fun _ => by omega)) rfl rfl (by decide) ?_
    refine r_val (v := .int _ _) (v_assign (.inl rfl) (noOwn_flat rfl)) rfl rfl (by decide) ?_
    refine r_nil ?_
    refine a_block ?_
    refine a_loop (X := (Nat × Nat × List Int)) (fun x => look [(0, .rsl (INH, []) 1 0 xs.length none), (1, .fn f [] caps), (5, .int .i64 ((x.2.1 : Nat) : Int)), (6, .int .i64 ((x.1 : Nat) : Int)), (INH, .osl 1 (icells x.2.2) xs.length none)]) (fun x => Dlt p xs x.1 x.2.1 x.2.2) (fun x => xs.length - x.1) (i0 + 1, i0, xs) (ent_look ⟨Weak.of_eq rfl, (Weak.of_eq (purge_fn hcap)), Weak.of_eq (int_eq e0), Weak.of_eq (int_eq (by rw [e0]; rfl)), Weak.of_eq rfl, trivial⟩) (Dlt.first hi0 n0 p0) (fun x hG => ?_)
    have hD := hG
    obtain ⟨d1, d2, d3, d4, d5⟩ := hG
    refine a_seq ?_
    refine a_seq ?_
    refine a_region ?_
    refine r_val (v := .int _ _) (v_move (.inl rfl) (noOwn_flat rfl)) rfl rfl (by decide) ?_
    refine r_val (v := .rsl _ _ _ _ _) (v_move (.inl rfl) (noOwn_flat rfl)) rfl rfl (by decide) ?_
    refine r_val (v := .int _ _) (v_len_rsl sl22 (.inl rfl)) rfl rfl (by decide) ?_
    refine r_val (v := .bool _) (v_lss (.inl rfl) (.inl rfl)) rfl rfl (by decide) ?_
    refine r_nil ?_
    refine a_cond rfl (fun ht19 => ?_) (fun ht19 => ?_)
    ·
      skip
      refine a_skip ?_
      refine a_seq ?_
      refine a_block ?_
      refine a_seq ?_
      have hj : x.1 < xs.length := (by simp at ht19; omega)
      refine a_region ?_
      refine r_val (v := .rsl _ _ _ _ _) (v_move (.inl rfl) (noOwn_flat rfl)) rfl rfl (by decide) ?_
      refine r_val (v := .int _ _) (v_move (.inl rfl) (noOwn_flat rfl)) rfl rfl (by decide) ?_
      refine r_val (v := .rp _ _) (v_indexAddr_rsl0 es22 (.inl rfl) (.inl rfl) (fun _ => by omega)) rfl rfl (by decide) ?_
      refine r_val (v := .int .i64 (gd xs x.1)) (v_load_rp1 ta3 (.inl rfl) rfl (fun _ => by rw [Nat.mul_one]; exact icells_get (gd_get2 d5 (by omega))) rfl) rfl rfl (by decide) ?_
      refine r_val (v := .int _ _) (v_assign (.inl rfl) (noOwn_flat rfl)) rfl rfl (by decide) ?_
      refine r_nil ?_
      refine a_seq ?_
      refine a_region ?_
      refine r_val (v := .fn _ _ _) (v_mv rfl) rfl rfl (by decide) ?_
      refine r_val (v := .int _ _) (v_move (.inl rfl) (noOwn_flat rfl)) rfl rfl (by decide) ?_
      refine r_new (v := .bool _) (q_clo (vs := [.int _ _]) (args := (.int .i64 _ :: caps)) hf (.inl rfl) ⟨.inl rfl, trivial⟩ (snap_clo1 hcap rfl) (fun hA => hc x.1 hj) rfl rfl) rfl rfl (by decide) ?_
      refine r_val (v := .bool _) (v_not (.inl rfl)) rfl rfl (by decide) ?_
      refine r_nil ?_
      refine a_cond rfl (fun ht29 => ?_) (fun ht29 => ?_)
      ·
        skip
        refine a_seq ?_
        have hpl : x.2.1 * 1 + 1 ≤ (icells x.2.2).length := (by rw [icells_length]; omega)
        have hset : (icells x.2.2).set (x.2.1 * 1) (.int .i64 (gd xs x.1)) = icells (x.2.2.set x.2.1 (gd xs x.1)) := (by rw [Nat.mul_one, icells_set])
        refine a_region ?_
        refine r_val (v := .rsl _ _ _ _ _) (v_move (.inl rfl) (noOwn_flat rfl)) rfl rfl (by decide) ?_
        refine r_val (v := .int _ _) (v_move (.inl rfl) (noOwn_flat rfl)) rfl rfl (by decide) ?_
        refine r_val (v := .int _ _) (v_move (.inl rfl) (noOwn_flat rfl)) rfl rfl (by decide) ?_
        refine r_val (v := .rp _ _) (v_indexAddr_rsl0 es22 (.inl rfl) (.inl rfl) (fun _ => by omega)) rfl rfl (by decide) ?_
        refine r_step rfl (o_store (v := .int _ _) (y' := .osl _ _ _ _) rfl rfl ta3 (.inl rfl) (.inl rfl) rfl rfl rfl rfl rfl rfl hpl (by decide) rfl (congrArg (fun c => AV.osl 1 c xs.length none) hset)) ?_
        refine r_nil ?_
        refine a_region ?_
        refine r_val (v := .int _ _) (v_move (.inl rfl) (noOwn_flat rfl)) rfl rfl (by decide) ?_
        refine r_val (v := .int _ _) (v_add (.inl rfl) (.inl rfl) (fun _ => by omega)) rfl rfl (by decide) ?_
        refine r_val (v := .int _ _) (v_assign (.inl rfl) (noOwn_flat rfl)) rfl rfl (by decide) ?_
        refine r_nil ?_
        refine a_region ?_
        refine r_val (v := .int _ _) (v_move (.inl rfl) (noOwn_flat rfl)) rfl rfl (by decide) ?_
        refine r_val (v := .int _ _) (v_add (.inl rfl) (.inl rfl) (fun _ => by omega)) rfl rfl (by decide) ?_
        refine r_val (v := .int _ _) (v_assign (.inl rfl) (noOwn_flat rfl)) rfl rfl (by decide) ?_
        refine r_nil ?_
        refine ⟨(x.1 + 1, x.2.1 + 1, x.2.2.set x.2.1 (gd xs x.1)), ent_look ⟨Weak.of_eq rfl, (Weak.of_eq (purge_fn hcap)), Weak.of_eq (int_eq (by dsimp only; omega)), Weak.of_eq (int_eq (by dsimp only; omega)), Weak.of_eq rfl, trivial⟩, hD.keep hj (by simpa using ht29), by dsimp only; omega⟩
      ·
        skip
        refine a_skip ?_
        refine a_region ?_
        refine r_val (v := .int _ _) (v_move (.inl rfl) (noOwn_flat rfl)) rfl rfl (by decide) ?_
        refine r_val (v := .int _ _) (v_add (.inl rfl) (.inl rfl) (fun _ => by omega)) rfl rfl (by decide) ?_
        refine r_val (v := .int _ _) (v_assign (.inl rfl) (noOwn_flat rfl)) rfl rfl (by decide) ?_
        refine r_nil ?_
        refine ⟨(x.1 + 1, x.2.1, x.2.2), ent_look ⟨Weak.of_eq rfl, (Weak.of_eq (purge_fn hcap)), Weak.of_eq rfl, Weak.of_eq (int_eq (by dsimp only; omega)), Weak.of_eq rfl, trivial⟩, hD.drop hj (by simpa using ht29), by dsimp only; omega⟩
    ·
      skip
      refine a_exit ?_
      refine a_seq ?_
      have hje : x.1 = xs.length := (by simp at ht19; omega)
      have hdn := Dlt.done (p := p) (xs := xs) (ys := x.2.2) (i := x.2.1) (n := xs.length) (hje ▸ hD) rfl
      refine a_region ?_
      refine r_val (v := .rsl _ _ _ _ _) (v_move (.inl rfl) (noOwn_flat rfl)) rfl rfl (by decide) ?_
      refine r_val (v := .int _ _) (v_move (.inl rfl) (noOwn_flat rfl)) rfl rfl (by decide) ?_
      refine r_val (v := .rsl (INH, []) 1 (0 + x.2.1 * 1) (xs.length - x.2.1) none) ((v_slice_rsl (l := x.2.1) (h := xs.length) es22 (.inl rfl) (.inr ⟨_, _, rfl, .inl rfl⟩) (.inl ⟨rfl, rfl⟩) (fun _ => by omega)).cast (rfl)) rfl rfl (by decide) ?_
      refine r_step rfl (o_clear rfl rfl us22 zc3 rfl (.inl rfl) rfl (by rw [icells_length]; omega) rfl rfl) ?_
      refine r_nil ?_
      refine a_seq ?_
      refine a_region ?_
      refine r_val (v := .rsl _ _ _ _ _) (v_move (.inl rfl) (noOwn_flat rfl)) rfl rfl (by decide) ?_
      refine r_val (v := .int _ _) (v_move (.inl rfl) (noOwn_flat rfl)) rfl rfl (by decide) ?_
      refine r_val (v := .rsl (INH, []) 1 0 x.2.1 none) ((v_slice_rsl (l := 0) (h := x.2.1) es22 (.inl rfl) (.inl ⟨rfl, rfl⟩) (.inr ⟨_, _, rfl, .inl rfl⟩) (fun _ => by omega)).cast (rfl)) rfl rfl (by decide) ?_
      refine r_val (v := .rsl _ _ _ _ _) (v_assign (.inl rfl) (noOwn_flat rfl)) rfl rfl (by decide) ?_
      refine r_nil ?_
      refine a_pre (ent_reloc_sl (t := 4) rfl rfl) ?_
      refine a_ret ?_
      refine ret1 Try.results117 (by decide) (by decide) (Weak.osl_take (ds := List.replicate (xs.length - x.2.1) (.int .i64 0)) ?_ ?_) rfl (Leaves.one Weak.undef rfl)
      · exact hdn.1
      · exact hdn.2
end Go.Av
namespace Go.Av
open Go Go.Proofs Go.Sort
set_option maxRecDepth 10000
theorem hb117 : hasBody Try.prog 117 = true := by kernel_rfl
theorem hb170 : hasBody Try.prog 170 = true := by kernel_rfl
theorem hb193 : hasBody Try.prog 193 = true := by kernel_rfl

theorem withoutVar1_c (x v : Int) : ACall Try.prog 193 [.int .i64 x, .pp [.int .i64 v] 0] [] (.bool (decide (absA x = v))) [] := by
  refine ACall.intro Try.func193 rfl (N := 8) rfl (by decide) (by simp) ?_
  refine a_seq ?_
  refine a_region ?_
  refine r_val (v := .bool _) (v_assign (.inl rfl) (noOwn_flat rfl)) rfl rfl (by decide) ?_
  refine r_nil ?_
  refine a_seq ?_
  refine a_region_any mixed (by kernel_rfl) ?_
  refine y_val (v := .int _ _) (v_move (.inl rfl) (noOwn_flat rfl)) rfl rfl (by decide) (by kernel_rfl) ?_
  refine y_new (v := .int _ _) (q_call (vs := [.int _ _]) (args := [.int .i64 _]) hb102 ⟨.inl rfl, trivial⟩ rfl (fun hA => absA_c _) rfl rfl) rfl rfl (by decide) (by kernel_rfl) ?_
  refine y_val (v := .int _ _) (v_load_pp ta3 (.inl rfl) (fun _ => rfl) rfl) rfl rfl (by decide) (by kernel_rfl) ?_
  refine y_val (v := .bool _) (v_eql (.inl rfl) (.inl rfl)) rfl rfl (by decide) (by kernel_rfl) ?_
  refine y_val (v := .bool _) (v_assign (.inl rfl) (noOwn_flat rfl)) rfl rfl (by decide) (by kernel_rfl) ?_
  refine y_nil ?_
  refine a_ret ?_
  refine ret1 Try.results193 (by decide) (by decide) (Weak.of_eq (bool_eq ?_)) rfl Leaves.nil
  rfl

theorem withoutVar_c (c : List Int) (v : Int) (hl : c.length ≤ 1048576) : ACall Try.prog 175 [.sl (icells c) c.length, .int .i64 v] [] (.osl 1 (icells (wov c v)) (wov c v).length none) [] := by
  have hbW := hb193
  refine ACall.intro Try.func175 rfl (N := 9) rfl (by decide) (by simp) ?_
  refine a_seq ?_
  refine a_region ?_
  refine r_new (v := .op [.int _ _]) (q_box (.inl rfl) rfl rfl) rfl rfl (by decide) ?_
  refine r_val (v := .nils) (v_assign (.inl rfl) (noOwn_flat rfl)) rfl rfl (by decide) ?_
  refine r_nil ?_
  refine a_seq ?_
  refine a_region ?_
  refine r_val (v := .sl _ _) (v_move (.inl rfl) (noOwn_flat rfl)) rfl rfl (by decide) ?_
  refine r_new (v := .osl _ _ _ _) (q_call (vs := [.sl _ _]) (args := [.sl _ _]) hb118 ⟨.inl rfl, trivial⟩ rfl (fun hA => cloneI_c _ _ ⟨rfl, by omega⟩) (ic_noSh _) (ic_noRef _)) rfl rfl (by decide) ?_
  refine r_val (v := .fn _ _ _) (v_makeFunc (first := []) (caps := [.tmp 3]) rfl rfl) rfl rfl (by decide) ?_
  refine r_step rfl (o_callIO (q := (6, [])) (vs := [.rsl _ _ _ _ _, .fn _ _ _]) (args := [.rsl (INH, []) _ _ _ _, .fn _ _ _]) (x0 := .osl _ _ _ _) (x1 := .undef) (res := .osl _ _ _ _) rfl hb117 rfl (by decide) ⟨.inl rfl, .inl rfl, trivial⟩ rfl rfl (del_c 193 [.pp [.int .i64 v] 0] hbW rfl c _ (fun x => decide (absA x = v)) ⟨rfl, by omega⟩ (fun i hi => withoutVar1_c _ v)) rfl (ic_noSh _) (ic_noRef _) rfl rfl (Nat.le_of_ble_eq_true rfl) (by decide) rfl) ?_
  refine r_val (v := .rsl _ _ _ _ _) (v_assign (.inl rfl) (noOwn_flat rfl)) rfl rfl (by decide) ?_
  refine r_pre (ent_reloc_sl (t := 4) rfl rfl) ?_
  refine r_nil ?_
  refine a_ret ?_
  refine ret1 Try.results175 (by decide) (by decide) (Weak.osl ?_ ?_) rfl Leaves.nil
  · rfl
  · rfl

theorem mustClause_c (l : List Int) (hn : l.length ≤ 1048576) : ACall Try.prog 133 [.sl (icells l) l.length] [] (.osl 1 (icells ((clR l).getD [])) ((clR l).getD []).length none) [] := by
  refine ACall.intro Try.func133 rfl (N := 11) rfl (by decide) (by simp) ?_
  refine a_seq ?_
  refine a_region ?_
  refine r_val (v := .nils) (v_assign (.inl rfl) (noOwn_flat rfl)) rfl rfl (by decide) ?_
  refine r_nil ?_
  refine a_seq ?_
  refine a_region ?_
  refine r_val (v := .sl _ _) (v_move (.inl rfl) (noOwn_flat rfl)) rfl rfl (by decide) ?_
  refine r_new (v := .tup [.osl _ _ _ _, .bool _]) (q_call (vs := [.sl _ _]) (args := [.sl _ _]) hb170 ⟨.inl rfl, trivial⟩ rfl (fun hA => clause_c l hn) (by simp [noSh, noShL, ic_noSh]) (by simp [noRef, noRefL, ic_noRef])) rfl rfl (by decide) ?_
  refine r_val (v := .tup [.rsl _ _ _ _ _, .bool _]) (v_mv rfl) rfl rfl (by decide) ?_
  refine r_val (v := .rsl _ _ _ _ _) (v_extract rfl rfl) rfl rfl (by decide) ?_
  refine r_val (v := .bool _) (v_extract rfl rfl) rfl rfl (by decide) ?_
  refine r_val (v := .rsl _ _ _ _ _) (v_assign (.inl rfl) (noOwn_flat rfl)) rfl rfl (by decide) ?_
  refine r_pre (ent_reloc_sl (t := 3) rfl rfl) ?_
  refine r_val (v := .bool _) (v_assign (.inl rfl) (noOwn_flat rfl)) rfl rfl (by decide) ?_
  refine r_nil ?_
  refine a_seq ?_
  refine a_region ?_
  refine r_val (v := .rsl _ _ _ _ _) (v_move (.inl rfl) (noOwn_flat rfl)) rfl rfl (by decide) ?_
  refine r_val (v := .rsl _ _ _ _ _) (v_assign (.inl rfl) (noOwn_flat rfl)) rfl rfl (by decide) ?_
  refine r_pre (ent_reloc_sl (t := 2) rfl rfl) ?_
  refine r_nil ?_
  refine a_ret ?_
  refine ret1 Try.results133 (by decide) (by decide) (Weak.osl ?_ ?_) rfl Leaves.nil
  · rfl
  · rfl
end Go.Av
namespace Go.Av
open Go Go.Proofs Go.Sort
set_option maxRecDepth 10000
theorem hb133 : hasBody Try.prog 133 = true := by kernel_rfl
theorem hb175 : hasBody Try.prog 175 = true := by kernel_rfl

theorem set_c (vars : Int) (a : List Int) (l : Int) (hc : clB vars a = true) (hl : litB vars l = true) : ACall Try.prog 140 [.sl (icells a) a.length, .int .i64 l] [] (.osl 1 (icells (setLit a l)) (setLit a l).length none) [] := by
  have hln := clB_len hc
  have hsm := clB_sm hc
  have hll : -4611686018427387904 ≤ l ∧ l ≤ 4611686018427387904 := (by have := litB_spec.1 hl; have := (clB_spec hc).1; omega)
  have hab := absA_of hll
  have hwl := woS_len a (vr l)
  refine ACall.intro Try.func140 rfl (N := 13) rfl (by decide) (by simp) ?_
  refine a_seq ?_
  refine a_region ?_
  refine r_val (v := .nils) (v_assign (.inl rfl) (noOwn_flat rfl)) rfl rfl (by decide) ?_
  refine r_nil ?_
  refine a_seq ?_
  refine a_region ?_
  refine r_val (v := .sl _ _) (v_move (.inl rfl) (noOwn_flat rfl)) rfl rfl (by decide) ?_
  refine r_val (v := .int _ _) (v_move (.inl rfl) (noOwn_flat rfl)) rfl rfl (by decide) ?_
  refine r_new (v := .int _ _) (q_call (vs := [.int _ _]) (args := [.int .i64 _]) hb102 ⟨.inl rfl, trivial⟩ rfl (fun hA => absA_c _) rfl rfl) rfl rfl (by decide) ?_
  refine r_new (v := .osl _ _ _ _) (q_call (vs := [.sl _ _, .int _ _]) (args := [.sl _ _, .int .i64 _]) hb175 ⟨.inl rfl, .inl rfl, trivial⟩ rfl (fun hA => withoutVar_c a (absA l) (by omega)) (ic_noSh _) (ic_noRef _)) rfl rfl (by decide) ?_
  refine r_val (v := .int _ _) (v_move (.inl rfl) (noOwn_flat rfl)) rfl rfl (by decide) ?_
  refine r_pre (ent_eq (t := 8) (v' := .osl 1 (icells (woS a (vr l))) (woS a (vr l)).length none) (Weak.osl (by rw [hab, wov_eq hsm]) (by rw [hab, wov_eq hsm]))) ?_
  refine r_new (v := .osl 1 (icells [l]) 1 (some 1)) (q_sliceLit (n := 1) (parts := [(0, .tmp 9)]) lt22 rfl rfl rfl rfl) rfl rfl (by decide) ?_
  refine r_step rfl (o_append rfl ap22 rfl (by decide) (by decide) rfl (src_lit (.inl rfl) rfl rfl (ic_pureL _)) (ic_cell _) (by rw [icells_length]; omega) (by omega)) ?_
  refine r_pre (ent_eq (t := 11) (v' := .osl 1 (icells (woS a (vr l) ++ [l])) (woS a (vr l) ++ [l]).length none) (Weak.osl (by rw [icells_append]) (by simp))) ?_
  refine r_new (v := .osl _ _ _ _) (q_call (vs := [.rsl _ _ _ _ _]) (args := [.sl _ _]) hb133 ⟨.inl rfl, trivial⟩ (l1_eq (sl_sh (ic_pure (woS a (vr l) ++ [l])))) (fun hA => mustClause_c (woS a (vr l) ++ [l]) (by simp; omega)) (ic_noSh _) (ic_noRef _)) rfl rfl (by decide) ?_
  refine r_val (v := .rsl _ _ _ _ _) (v_assign (.inl rfl) (noOwn_flat rfl)) rfl rfl (by decide) ?_
  refine r_pre (ent_reloc_sl (t := 4) rfl rfl) ?_
  refine r_nil ?_
  refine a_ret ?_
  refine ret1 Try.results140 (by decide) (by decide) (Weak.osl ?_ ?_) rfl Leaves.nil
  · rw [setLit_impl hc hl]
  · rw [setLit_impl hc hl]
end Go.Av
namespace Go.Av
open Go Go.Proofs Go.Sort
set_option maxRecDepth 10000



end Go.Av
namespace Go.Av
open Go Go.Proofs Go.Sort
set_option maxRecDepth 10000
theorem es33 : elemSize Try.prog 33 = some 1 := by kernel_rfl
theorem fo35_0 : fieldOff Try.prog 35 0 = some 0 := by kernel_rfl
theorem fo35_1 : fieldOff Try.prog 35 1 = some 1 := by kernel_rfl
theorem fo39_0 : fieldOff Try.prog 39 0 = some 0 := by kernel_rfl
theorem fo39_1 : fieldOff Try.prog 39 1 = some 1 := by kernel_rfl
theorem hb120 : hasBody Try.prog 120 = true := by kernel_rfl
theorem hb14 : hasBody Try.prog 14 = true := by kernel_rfl
theorem hb17 : hasBody Try.prog 17 = true := by kernel_rfl
theorem hb54 : hasBody Try.prog 54 = true := by kernel_rfl
theorem hb60 : hasBody Try.prog 60 = true := by kernel_rfl
theorem hb65 : hasBody Try.prog 65 = true := by kernel_rfl
theorem hb69 : hasBody Try.prog 69 = true := by kernel_rfl
theorem hb73 : hasBody Try.prog 73 = true := by kernel_rfl
theorem sb22 : (Try.prog.info? 22).map (fun i => (i.size, i.bytes)) = some (1, 24) := by kernel_rfl
theorem sl33 : isSlice Try.prog 33 = true := by kernel_rfl
theorem ta22 : tyAgg Try.prog 22 = some (false, 1) := by kernel_rfl
theorem ta33 : tyAgg Try.prog 33 = some (false, 1) := by kernel_rfl
theorem ta39 : tyAgg Try.prog 39 = some (true, 2) := by kernel_rfl
theorem us33 : Try.prog.underlying 33 = some (.slice 22) := by kernel_rfl
theorem zc22 : zeroCells Try.prog 22 = some [.nils] := by kernel_rfl
theorem zc39 : zeroCells Try.prog 39 = some [.int .i64 0, .nils] := by kernel_rfl

theorem szIntS_c (c : List Int) (left : Int) (hl : 0 ≤ left ∧ left ≤ 1000000000) (hc : (c.length : Int) ≤ 9223372036854775807) : ACall Try.prog 120 [.sl (icells c) c.length, .int .i64 left] [] (.int .i64 (szR left c.length)) [] := by
  refine ACall.intro Try.func120 rfl (N := 12) rfl (by decide) (by simp) ?_
  refine a_seq ?_
  refine a_region ?_
  refine r_val (v := .int _ _) (v_assign (.inl rfl) (noOwn_flat rfl)) rfl rfl (by decide) ?_
  refine r_nil ?_
  refine a_seq ?_
  refine a_region ?_
  refine r_val (v := .int _ _) (v_move (.inl rfl) (noOwn_flat rfl)) rfl rfl (by decide) ?_
  refine r_val (v := .sl _ _) (v_move (.inl rfl) (noOwn_flat rfl)) rfl rfl (by decide) ?_
  refine r_val (v := .int _ _) (v_len_sl sl22 (.inl rfl)) rfl rfl (by decide) ?_
  refine r_val (v := .int _ _) (v_sub (.inl rfl) (.inl rfl) (fun _ => by omega)) rfl rfl (by decide) ?_
  refine r_val (v := .int _ _) (v_assign (.inl rfl) (noOwn_flat rfl)) rfl rfl (by decide) ?_
  refine r_nil ?_
  refine a_seq ?_
  refine a_seq ?_
  refine a_region ?_
  refine r_val (v := .int _ _) (v_move (.inl rfl) (noOwn_flat rfl)) rfl rfl (by decide) ?_
  refine r_val (v := .bool _) (v_lss (.inl rfl) (.inl rfl)) rfl rfl (by decide) ?_
  refine r_nil ?_
  refine a_cond rfl (fun ht10 => ?_) (fun ht10 => ?_)
  ·
    skip
    refine a_seq ?_
    refine a_region ?_
    refine r_val (v := .int _ _) (v_assign (.inl rfl) (noOwn_flat rfl)) rfl rfl (by decide) ?_
    refine r_nil ?_
    refine a_ret ?_
    refine ret1 Try.results120 (by decide) (by decide) (Weak.of_eq (int_eq ?_)) rfl Leaves.nil
    unfold szR; rw [if_pos (by simpa using ht10)]
  ·
    skip
    refine a_skip ?_
    refine a_seq ?_
    refine a_region ?_
    refine r_val (v := .int _ _) (v_move (.inl rfl) (noOwn_flat rfl)) rfl rfl (by decide) ?_
    refine r_val (v := .int _ _) (v_assign (.inl rfl) (noOwn_flat rfl)) rfl rfl (by decide) ?_
    refine r_nil ?_
    refine a_ret ?_
    refine ret1 Try.results120 (by decide) (by decide) (Weak.of_eq (int_eq ?_)) rfl Leaves.nil
    unfold szR; rw [if_neg (by simpa using ht10)]

theorem szIntSS_c (L : List (List Int)) (left : Int) (hl : 0 ≤ left ∧ left ≤ 1000000000) (hlen : ∀ i, ((gl L i).length : Int) ≤ 9223372036854775807) (hL : (L.length : Int) ≤ 9223372036854775807) : ACall Try.prog 65 [.sl (sls L) L.length, .int .i64 left] [] (.int .i64 (szR left ((L.length + tot L L.length : Nat) : Int))) [] := by
  refine ACall.intro Try.func65 rfl (N := 27) rfl (by decide) (by simp) ?_
  refine a_seq ?_
  refine a_region ?_
  refine r_val (v := .int _ _) (v_assign (.inl rfl) (noOwn_flat rfl)) rfl rfl (by decide) ?_
  refine r_nil ?_
  refine a_seq ?_
  refine a_region ?_
  refine r_val (v := .int _ _) (v_move (.inl rfl) (noOwn_flat rfl)) rfl rfl (by decide) ?_
  refine r_val (v := .sl _ _) (v_move (.inl rfl) (noOwn_flat rfl)) rfl rfl (by decide) ?_
  refine r_val (v := .int _ _) (v_len_sl sl33 (.inl rfl)) rfl rfl (by decide) ?_
  refine r_val (v := .int _ _) (v_sub (.inl rfl) (.inl rfl) (fun _ => by omega)) rfl rfl (by decide) ?_
  refine r_val (v := .int _ _) (v_assign (.inl rfl) (noOwn_flat rfl)) rfl rfl (by decide) ?_
  refine r_nil ?_
  refine a_seq ?_
  refine a_seq ?_
  refine a_region ?_
  refine r_val (v := .int _ _) (v_move (.inl rfl) (noOwn_flat rfl)) rfl rfl (by decide) ?_
  refine r_val (v := .bool _) (v_lss (.inl rfl) (.inl rfl)) rfl rfl (by decide) ?_
  refine r_nil ?_
  refine a_cond rfl (fun ht11 => ?_) (fun ht11 => ?_)
  ·
    skip
    refine a_seq ?_
    refine a_region ?_
    refine r_val (v := .int _ _) (v_assign (.inl rfl) (noOwn_flat rfl)) rfl rfl (by decide) ?_
    refine r_nil ?_
    refine a_ret ?_
    refine ret1 Try.results65 (by decide) (by decide) (Weak.of_eq (int_eq ?_)) rfl Leaves.nil
    unfold szR; rw [if_pos (by simp at ht11; omega)]
  ·
    skip
    refine a_skip ?_
    refine a_seq ?_
    refine a_seq ?_
    refine a_region ?_
    refine r_val (v := .int _ _) (v_assign (.inl rfl) (noOwn_flat rfl)) rfl rfl (by decide) ?_
    refine r_nil ?_
    refine a_block ?_
    refine a_loop (X := Nat) (fun i => look [(0, .sl (sls L) L.length), (1, .int .i64 (left - L.length - (tot L i : Nat))), (5, .int .i64 ((i : Nat) : Int))]) (fun i => i ≤ L.length ∧ 0 ≤ left - L.length - (tot L i : Nat)) (fun i => L.length - i) 0 (ent_look ⟨Weak.of_eq rfl, Weak.of_eq (int_eq (by simp [tot_zero])), Weak.of_eq rfl, trivial⟩) ⟨Nat.zero_le _, by simp [tot_zero]; simpa using ht11⟩ (fun i hG => ?_)
    obtain ⟨g1, g2⟩ := hG
    have hli := hlen i
    have htl := tot_le L i
    have htl1 := tot_le L (i + 1)
    refine a_seq ?_
    refine a_seq ?_
    refine a_region ?_
    refine r_val (v := .int _ _) (v_move (.inl rfl) (noOwn_flat rfl)) rfl rfl (by decide) ?_
    refine r_val (v := .sl _ _) (v_move (.inl rfl) (noOwn_flat rfl)) rfl rfl (by decide) ?_
    refine r_val (v := .int _ _) (v_len_sl sl33 (.inl rfl)) rfl rfl (by decide) ?_
    refine r_val (v := .bool _) (v_lss (.inl rfl) (.inl rfl)) rfl rfl (by decide) ?_
    refine r_nil ?_
    refine a_cond rfl (fun ht15 => ?_) (fun ht15 => ?_)
    ·
      skip
      refine a_skip ?_
      refine a_seq ?_
      refine a_block ?_
      refine a_seq ?_
      have hi : i < L.length := (by simp at ht15; omega)
      have hgt := tot_more hi
      refine a_region ?_
      refine r_val (v := .sl _ _) (v_move (.inl rfl) (noOwn_flat rfl)) rfl rfl (by decide) ?_
      refine r_val (v := .int _ _) (v_move (.inl rfl) (noOwn_flat rfl)) rfl rfl (by decide) ?_
      refine r_val (v := .pp _ _) (v_indexAddr_sl es33 (.inl rfl) (.inl rfl) (fun _ => ⟨by omega, by omega, sls_ne hi⟩)) rfl rfl (by decide) ?_
      refine r_val (v := .sl (icells (gl L i)) (gl L i).length) (v_load_pp ta22 (.inl rfl) (fun _ => by rw [Nat.mul_one]; exact sls_get hi) rfl) rfl rfl (by decide) ?_
      refine r_val (v := .int _ _) (v_move (.inl rfl) (noOwn_flat rfl)) rfl rfl (by decide) ?_
      refine r_new (v := .int _ _) (q_call (vs := [.sl _ _, .int _ _]) (args := [.sl _ _, .int .i64 _]) hb120 ⟨.inl rfl, .inl rfl, trivial⟩ rfl (fun hA => szIntS_c (gl L i) _ (by omega) (by omega)) rfl rfl) rfl rfl (by decide) ?_
      refine r_val (v := .int _ _) (v_assign (.inl rfl) (noOwn_flat rfl)) rfl rfl (by decide) ?_
      refine r_nil ?_
      refine a_seq ?_
      refine a_region ?_
      refine r_val (v := .int _ _) (v_move (.inl rfl) (noOwn_flat rfl)) rfl rfl (by decide) ?_
      refine r_val (v := .bool _) (v_lss (.inl rfl) (.inl rfl)) rfl rfl (by decide) ?_
      refine r_nil ?_
      refine a_cond rfl (fun ht25 => ?_) (fun ht25 => ?_)
      ·
        skip
        refine a_seq ?_
        have hneg : left - L.length - (tot L i : Nat) - ((gl L i).length : Int) < 0 := (by have h25 := of_decide_eq_true ht25; unfold szR at h25; split at h25 <;> omega)
        refine a_region ?_
        refine r_val (v := .int _ _) (v_assign (.inl rfl) (noOwn_flat rfl)) rfl rfl (by decide) ?_
        refine r_nil ?_
        refine a_ret ?_
        refine ret1 Try.results65 (by decide) (by decide) (Weak.of_eq (int_eq ?_)) rfl Leaves.nil
        unfold szR; rw [if_pos (by omega)]
      ·
        skip
        refine a_skip ?_
        refine a_region ?_
        refine r_val (v := .int _ _) (v_move (.inl rfl) (noOwn_flat rfl)) rfl rfl (by decide) ?_
        refine r_val (v := .int _ _) (v_add (.inl rfl) (.inl rfl) (fun _ => by omega)) rfl rfl (by decide) ?_
        refine r_val (v := .int _ _) (v_assign (.inl rfl) (noOwn_flat rfl)) rfl rfl (by decide) ?_
        refine r_nil ?_
        have hge : ¬ left - L.length - (tot L i : Nat) - ((gl L i).length : Int) < 0 := (by intro h; simp [szR, h] at ht25)
        refine ⟨i + 1, ent_look ⟨Weak.of_eq rfl, Weak.of_eq (int_eq (by unfold szR; rw [if_neg (by omega), hgt]; omega)), Weak.of_eq (int_eq (by omega)), trivial⟩, ⟨by omega, by omega⟩, by omega⟩
    ·
      skip
      refine a_exit ?_
      refine a_seq ?_
      have hie : i = L.length := (by simp at ht15; omega)
      refine a_region ?_
      refine r_val (v := .int _ _) (v_move (.inl rfl) (noOwn_flat rfl)) rfl rfl (by decide) ?_
      refine r_val (v := .int _ _) (v_assign (.inl rfl) (noOwn_flat rfl)) rfl rfl (by decide) ?_
      refine r_nil ?_
      refine a_ret ?_
      refine ret1 Try.results65 (by decide) (by decide) (Weak.of_eq (int_eq ?_)) rfl Leaves.nil
      unfold szR; subst hie; rw [if_neg (by omega)]; omega

theorem szCnf_c (vars : Int) (L : List (List Int)) (left : Int) (hl : 0 ≤ left ∧ left ≤ 1000000000) (hlen : ∀ i, ((gl L i).length : Int) ≤ 9223372036854775807) (hL : (L.length : Int) ≤ 9223372036854775807) : ACall Try.prog 21 [.agg [.int .i64 vars, .sl (sls L) L.length], .int .i64 left] [] (.int .i64 (szR left ((L.length + tot L L.length : Nat) : Int))) [] := by
  refine ACall.intro Try.func21 rfl (N := 12) rfl (by decide) (by simp) ?_
  refine a_seq ?_
  refine a_region ?_
  refine r_new (v := .op [.int _ _, .sl _ _]) (q_box (.inl rfl) rfl rfl) rfl rfl (by decide) ?_
  refine r_val (v := .int _ _) (v_assign (.inl rfl) (noOwn_flat rfl)) rfl rfl (by decide) ?_
  refine r_nil ?_
  refine a_seq ?_
  refine a_region ?_
  refine r_val (v := .rp _ _) (v_fieldAddr_rp fo35_1 (.inl rfl)) rfl rfl (by decide) ?_
  refine r_val (v := .sl _ _) (v_load_rp1 ta33 (.inl rfl) rfl (fun _ => rfl) rfl) rfl rfl (by decide) ?_
  refine r_val (v := .int _ _) (v_move (.inl rfl) (noOwn_flat rfl)) rfl rfl (by decide) ?_
  refine r_new (v := .int _ _) (q_call (vs := [.sl _ _, .int _ _]) (args := [.sl _ _, .int .i64 _]) hb65 ⟨.inl rfl, .inl rfl, trivial⟩ rfl (fun hA => szIntSS_c L left hl hlen hL) rfl rfl) rfl rfl (by decide) ?_
  refine r_val (v := .int _ _) (v_assign (.inl rfl) (noOwn_flat rfl)) rfl rfl (by decide) ?_
  refine r_nil ?_
  refine a_seq ?_
  refine a_seq ?_
  refine a_region ?_
  refine r_val (v := .int _ _) (v_move (.inl rfl) (noOwn_flat rfl)) rfl rfl (by decide) ?_
  refine r_val (v := .bool _) (v_lss (.inl rfl) (.inl rfl)) rfl rfl (by decide) ?_
  refine r_nil ?_
  refine a_cond rfl (fun ht10 => ?_) (fun ht10 => ?_)
  ·
    skip
    refine a_seq ?_
    refine a_region ?_
    refine r_val (v := .int _ _) (v_assign (.inl rfl) (noOwn_flat rfl)) rfl rfl (by decide) ?_
    refine r_nil ?_
    refine a_ret ?_
    refine ret1 Try.results21 (by decide) (by decide) (Weak.of_eq (int_eq ?_)) rfl Leaves.nil
    have h10 := of_decide_eq_true ht10; unfold szR at h10 ⊢; split at h10 <;> rename_i hh; rw [if_pos hh]; omega
  ·
    skip
    refine a_skip ?_
    refine a_seq ?_
    refine a_region ?_
    refine r_val (v := .int _ _) (v_move (.inl rfl) (noOwn_flat rfl)) rfl rfl (by decide) ?_
    refine r_val (v := .int _ _) (v_assign (.inl rfl) (noOwn_flat rfl)) rfl rfl (by decide) ?_
    refine r_nil ?_
    refine a_ret ?_
    refine ret1 Try.results21 (by decide) (by decide) (Weak.of_eq (int_eq ?_)) rfl Leaves.nil
    rfl

theorem toIntSS_c (L : List (List Int)) (hL : L.length ≤ 1048576) (ht : tot L L.length ≤ 1048576) : ACall Try.prog 69 [.sl (sls L) L.length] [] (.osl 1 (osls L) L.length none) [] := by
  refine ACall.intro Try.func69 rfl (N := 23) rfl (by decide) (by simp) ?_
  refine a_seq ?_
  refine a_region ?_
  refine r_val (v := .nils) (v_assign (.inl rfl) (noOwn_flat rfl)) rfl rfl (by decide) ?_
  refine r_nil ?_
  refine a_seq ?_
  refine a_region ?_
  refine r_val (v := .sl _ _) (v_move (.inl rfl) (noOwn_flat rfl)) rfl rfl (by decide) ?_
  refine r_val (v := .int _ _) (v_len_sl sl33 (.inl rfl)) rfl rfl (by decide) ?_
  refine r_new (v := .osl _ _ _ _) (q_makeSlice us33 sb22 zc22 rfl (by decide) (.inl rfl) (.inl rfl) (fun _ => by omega)) rfl rfl (by decide) ?_
  refine r_val (v := .rsl _ _ _ _ _) (v_assign (.inl rfl) (noOwn_flat rfl)) rfl rfl (by decide) ?_
  refine r_pre (ent_reloc_sl (t := 3) rfl rfl) ?_
  refine r_nil ?_
  refine a_seq ?_
  refine a_seq ?_
  refine a_region ?_
  refine r_val (v := .int _ _) (v_assign (.inl rfl) (noOwn_flat rfl)) rfl rfl (by decide) ?_
  refine r_nil ?_
  refine a_block ?_
  refine a_loop (X := Nat) (fun i => look [(0, .sl (sls L) L.length), (3, .osl 1 (partO L i) L.length (some L.length)), (4, .int .i64 ((i : Nat) : Int))]) (fun i => i ≤ L.length) (fun i => L.length - i) 0 (ent_look ⟨Weak.of_eq rfl, Weak.of_eq (osl_eq (by rw [partO_zero])), Weak.of_eq rfl, trivial⟩) (Nat.zero_le _) (fun i hG => ?_)
  refine a_seq ?_
  refine a_seq ?_
  refine a_region ?_
  refine r_val (v := .int _ _) (v_move (.inl rfl) (noOwn_flat rfl)) rfl rfl (by decide) ?_
  refine r_val (v := .sl _ _) (v_move (.inl rfl) (noOwn_flat rfl)) rfl rfl (by decide) ?_
  refine r_val (v := .int _ _) (v_len_sl sl33 (.inl rfl)) rfl rfl (by decide) ?_
  refine r_val (v := .bool _) (v_lss (.inl rfl) (.inl rfl)) rfl rfl (by decide) ?_
  refine r_nil ?_
  refine a_cond rfl (fun ht11 => ?_) (fun ht11 => ?_)
  ·
    skip
    refine a_skip ?_
    refine a_seq ?_
    refine a_block ?_
    have hi : i < L.length := (by simp at ht11; omega)
    have hle := len_tot (L := L) (i := i)
    have hpl : i * 1 + 1 ≤ (partO L i).length := (by rw [partO_length (by omega)]; omega)
    have hset : (partO L i).set (i * 1) (.osl 1 (icells (gl L i)) (gl L i).length none) = partO L (i + 1) := (by rw [Nat.mul_one, partO_set hi])
    refine a_region ?_
    refine r_val (v := .rsl _ _ _ _ _) (v_move (.inl rfl) (noOwn_flat rfl)) rfl rfl (by decide) ?_
    refine r_val (v := .int _ _) (v_move (.inl rfl) (noOwn_flat rfl)) rfl rfl (by decide) ?_
    refine r_val (v := .sl _ _) (v_move (.inl rfl) (noOwn_flat rfl)) rfl rfl (by decide) ?_
    refine r_val (v := .int _ _) (v_move (.inl rfl) (noOwn_flat rfl)) rfl rfl (by decide) ?_
    refine r_val (v := .pp _ _) (v_indexAddr_sl es33 (.inl rfl) (.inl rfl) (fun _ => ⟨by omega, by omega, sls_ne hi⟩)) rfl rfl (by decide) ?_
    refine r_val (v := .sl (icells (gl L i)) (gl L i).length) (v_load_pp ta22 (.inl rfl) (fun _ => by rw [Nat.mul_one]; exact sls_get hi) rfl) rfl rfl (by decide) ?_
    refine r_new (v := .osl _ _ _ _) (q_call (vs := [.sl _ _]) (args := [.sl _ _]) hb14 ⟨.inl rfl, trivial⟩ rfl (fun hA => toIntS_c (gl L i) (by omega)) (ic_noSh _) (ic_noRef _)) rfl rfl (by decide) ?_
    refine r_val (v := .rp _ _) (v_indexAddr_rsl0 es33 (.inl rfl) (.inl rfl) (fun _ => by omega)) rfl rfl (by decide) ?_
    refine r_step rfl (o_store_own (v := .osl _ _ _ _) (y' := .osl 1 (partO L (i + 1)) L.length (some L.length)) rfl rfl ta22 (.inl rfl) (by decide) rfl (by decide) rfl (by simp [cellsOf, noRefL, noRef, ic_noRef]) rfl rfl rfl rfl rfl hpl rfl (congrArg (fun c => AV.osl 1 c L.length (some L.length)) hset)) ?_
    refine r_nil ?_
    refine a_region ?_
    refine r_val (v := .int _ _) (v_move (.inl rfl) (noOwn_flat rfl)) rfl rfl (by decide) ?_
    refine r_val (v := .int _ _) (v_add (.inl rfl) (.inl rfl) (fun _ => by omega)) rfl rfl (by decide) ?_
    refine r_val (v := .int _ _) (v_assign (.inl rfl) (noOwn_flat rfl)) rfl rfl (by decide) ?_
    refine r_nil ?_
    refine ⟨i + 1, ent_look ⟨Weak.of_eq rfl, Weak.of_eq rfl, Weak.of_eq (int_eq (by omega)), trivial⟩, by omega, by omega⟩
  ·
    skip
    refine a_exit ?_
    refine a_seq ?_
    refine a_region ?_
    refine r_val (v := .rsl _ _ _ _ _) (v_move (.inl rfl) (noOwn_flat rfl)) rfl rfl (by decide) ?_
    refine r_val (v := .rsl _ _ _ _ _) (v_assign (.inl rfl) (noOwn_flat rfl)) rfl rfl (by decide) ?_
    refine r_pre (ent_reloc_sl (t := 2) rfl rfl) ?_
    refine r_nil ?_
    refine a_ret ?_
    refine ret1 Try.results69 (by decide) (by decide) (Weak.osl ?_ ?_) rfl Leaves.nil
    · simp at ht11; rw [partO_full (by omega)]
    · rfl

theorem toCnf_c (vars : Int) (L : List (List Int)) (hL : L.length ≤ 1048576) (ht : tot L L.length ≤ 1048576) : ACall Try.prog 23 [.agg [.int .i64 vars, .sl (sls L) L.length]] [] (.agg [.int .i64 vars, .osl 1 (osls L) L.length none]) [] := by
  refine ACall.intro Try.func23 rfl (N := 12) rfl (by decide) (by simp) ?_
  refine a_seq ?_
  refine a_region ?_
  refine r_new (v := .op [.int _ _, .sl _ _]) (q_box (.inl rfl) rfl rfl) rfl rfl (by decide) ?_
  refine r_new (v := .op [.int _ _, .nils]) (q_alloc zc39) rfl rfl (by decide) ?_
  refine r_nil ?_
  refine a_seq ?_
  refine a_region ?_
  refine r_new (v := .op [.int _ _, .nils]) (q_alloc zc39) rfl rfl (by decide) ?_
  refine r_nil ?_
  refine a_seq ?_
  refine a_region ?_
  refine r_val (v := .rp _ _) (v_fieldAddr_rp fo35_0 (.inl rfl)) rfl rfl (by decide) ?_
  refine r_val (v := .int _ _) (v_load_rp1 ta3 (.inl rfl) rfl (fun _ => rfl) rfl) rfl rfl (by decide) ?_
  refine r_val (v := .rp _ _) (v_fieldAddr_rp fo39_0 (.inl rfl)) rfl rfl (by decide) ?_
  refine r_step rfl (o_store (v := .int _ _) (y' := .op [.int _ _, .nils]) rfl rfl ta3 (.inl rfl) (.inl rfl) rfl rfl rfl rfl rfl rfl (Nat.le_of_ble_eq_true rfl) (by decide) rfl rfl) ?_
  refine r_nil ?_
  refine a_seq ?_
  refine a_region ?_
  refine r_val (v := .rp _ _) (v_fieldAddr_rp fo35_1 (.inl rfl)) rfl rfl (by decide) ?_
  refine r_val (v := .sl _ _) (v_load_rp1 ta33 (.inl rfl) rfl (fun _ => rfl) rfl) rfl rfl (by decide) ?_
  refine r_new (v := .osl _ _ _ _) (q_call (vs := [.sl _ _]) (args := [.sl _ _]) hb69 ⟨.inl rfl, trivial⟩ rfl (fun hA => toIntSS_c L hL ht) (osls_noSh _) (osls_noRef _)) rfl rfl (by decide) ?_
  refine r_val (v := .rp _ _) (v_fieldAddr_rp fo39_1 (.inl rfl)) rfl rfl (by decide) ?_
  refine r_step rfl (o_store_own (v := .osl _ _ _ _) (y' := .op [.int _ _, .osl _ _ _ _]) rfl rfl ta33 (.inl rfl) (by decide) rfl (by decide) rfl (by simp [cellsOf, noRefL, noRef, osls_noRef]) rfl rfl rfl rfl rfl (Nat.le_of_ble_eq_true rfl) rfl rfl) ?_
  refine r_nil ?_
  refine a_seq ?_
  refine a_region ?_
  refine r_val (v := .agg [.int _ _, .rsl _ _ _ _ _]) (v_load_rpa (xs := [.int _ _, .osl _ _ _ _]) ta39 (.inl rfl) rfl rfl (fun _ => take_get rfl)) rfl rfl (by decide) ?_
  refine r_pre (ent_reloc_at_sl (t := 11) (r := [1]) rfl (by decide) rfl rfl) ?_
  refine r_step rfl (o_store_own (v := .agg [.int _ _, .osl _ _ _ _]) (y' := .op [.int _ _, .osl _ _ _ _]) rfl rfl ta39 (.inl rfl) (by decide) rfl (by decide) rfl (by simp [cellsOf, noRefL, noRef, osls_noRef]) rfl rfl rfl rfl rfl (Nat.le_of_ble_eq_true rfl) rfl rfl) ?_
  refine r_nil ?_
  refine a_ret ?_
  refine retC1 (r := .cell 2 39) Try.results23 ⟨by decide, _, cell_agg rfl ta39, rfl⟩ (by decide) (Weak.of_eq (agg_eq (l2_eq (int_eq ?_) (osl_eq2 ?_ ?_)))) rfl Leaves.nil
  all_goals rfl

theorem eqIntSS_c (L M : List (List Int)) (hL : (L.length : Int) ≤ 9223372036854775807) (hM : (M.length : Int) ≤ 9223372036854775807) (hlen : ∀ i, ((gl L i).length : Int) ≤ 9223372036854775807) : ACall Try.prog 73 [.sl (sls L) L.length, .sl (sls M) M.length] [] (.bool (decide (L = M))) [] := by
  refine ACall.intro Try.func73 rfl (N := 27) rfl (by decide) (by simp) ?_
  refine a_seq ?_
  refine a_region ?_
  refine r_val (v := .bool _) (v_assign (.inl rfl) (noOwn_flat rfl)) rfl rfl (by decide) ?_
  refine r_nil ?_
  refine a_seq ?_
  refine a_seq ?_
  refine a_region ?_
  refine r_val (v := .sl _ _) (v_move (.inl rfl) (noOwn_flat rfl)) rfl rfl (by decide) ?_
  refine r_val (v := .int _ _) (v_len_sl sl33 (.inl rfl)) rfl rfl (by decide) ?_
  refine r_val (v := .sl _ _) (v_move (.inl rfl) (noOwn_flat rfl)) rfl rfl (by decide) ?_
  refine r_val (v := .int _ _) (v_len_sl sl33 (.inl rfl)) rfl rfl (by decide) ?_
  refine r_val (v := .bool _) (v_neq (.inl rfl) (.inl rfl)) rfl rfl (by decide) ?_
  refine r_nil ?_
  refine a_cond rfl (fun ht10 => ?_) (fun ht10 => ?_)
  ·
    skip
    refine a_seq ?_
    refine a_region ?_
    refine r_val (v := .bool _) (v_assign (.inl rfl) (noOwn_flat rfl)) rfl rfl (by decide) ?_
    refine r_nil ?_
    refine a_ret ?_
    refine ret1 Try.results73 (by decide) (by decide) (Weak.of_eq (bool_eq ?_)) rfl Leaves.nil
    simp at ht10; exact (decide_eq_false (fun h => ht10 (by rw [h]))).symm
  ·
    skip
    refine a_skip ?_
    refine a_seq ?_
    refine a_seq ?_
    refine a_region ?_
    refine r_val (v := .int _ _) (v_assign (.inl rfl) (noOwn_flat rfl)) rfl rfl (by decide) ?_
    refine r_nil ?_
    refine a_block ?_
    refine a_loop (X := Nat) (fun i => look [(0, .sl (sls L) L.length), (1, .sl (sls M) M.length), (5, .int .i64 ((i : Nat) : Int))]) (fun i => i ≤ L.length ∧ L.length = M.length ∧ L.take i = M.take i) (fun i => L.length - i) 0 (ent_look ⟨Weak.of_eq rfl, Weak.of_eq rfl, Weak.of_eq rfl, trivial⟩) ⟨Nat.zero_le _, by simp at ht10; omega, rfl⟩ (fun i hG => ?_)
    obtain ⟨g1, g2, g3⟩ := hG
    refine a_seq ?_
    refine a_seq ?_
    refine a_region ?_
    refine r_val (v := .int _ _) (v_move (.inl rfl) (noOwn_flat rfl)) rfl rfl (by decide) ?_
    refine r_val (v := .sl _ _) (v_move (.inl rfl) (noOwn_flat rfl)) rfl rfl (by decide) ?_
    refine r_val (v := .int _ _) (v_len_sl sl33 (.inl rfl)) rfl rfl (by decide) ?_
    refine r_val (v := .bool _) (v_lss (.inl rfl) (.inl rfl)) rfl rfl (by decide) ?_
    refine r_nil ?_
    refine a_cond rfl (fun ht14 => ?_) (fun ht14 => ?_)
    ·
      skip
      refine a_skip ?_
      refine a_seq ?_
      refine a_block ?_
      refine a_seq ?_
      have hi : i < L.length := (by simp at ht14; omega)
      refine a_region_any mixed (by kernel_rfl) ?_
      refine y_val (v := .sl _ _) (v_move (.inl rfl) (noOwn_flat rfl)) rfl rfl (by decide) (by kernel_rfl) ?_
      refine y_val (v := .int _ _) (v_move (.inl rfl) (noOwn_flat rfl)) rfl rfl (by decide) (by kernel_rfl) ?_
      refine y_val (v := .pp _ _) (v_indexAddr_sl es33 (.inl rfl) (.inl rfl) (fun _ => ⟨by omega, by omega, sls_ne hi⟩)) rfl rfl (by decide) (by kernel_rfl) ?_
      refine y_val (v := .sl (icells (gl L i)) (gl L i).length) (v_load_pp ta22 (.inl rfl) (fun _ => by rw [Nat.mul_one]; exact sls_get hi) rfl) rfl rfl (by decide) (by kernel_rfl) ?_
      refine y_val (v := .sl _ _) (v_move (.inl rfl) (noOwn_flat rfl)) rfl rfl (by decide) (by kernel_rfl) ?_
      refine y_val (v := .int _ _) (v_move (.inl rfl) (noOwn_flat rfl)) rfl rfl (by decide) (by kernel_rfl) ?_
      refine y_val (v := .pp _ _) (v_indexAddr_sl es33 (.inl rfl) (.inl rfl) (fun _ => ⟨by omega, by omega, sls_ne (L := M) (i := i) (by omega)⟩)) rfl rfl (by decide) (by kernel_rfl) ?_
      refine y_val (v := .sl (icells (gl M i)) (gl M i).length) (v_load_pp ta22 (.inl rfl) (fun _ => by rw [Nat.mul_one]; exact sls_get (by omega)) rfl) rfl rfl (by decide) (by kernel_rfl) ?_
      refine y_new (v := .bool _) (q_call (vs := [.sl _ _, .sl _ _]) (args := [.sl _ _, .sl _ _]) hb17 ⟨.inl rfl, .inl rfl, trivial⟩ rfl (fun hA => eqIntS_c (gl L i) (gl M i) (hlen i)) rfl rfl) rfl rfl (by decide) (by kernel_rfl) ?_
      refine y_val (v := .bool _) (v_not (.inl rfl)) rfl rfl (by decide) (by kernel_rfl) ?_
      refine y_nil ?_
      refine a_cond rfl (fun ht26 => ?_) (fun ht26 => ?_)
      ·
        skip
        refine a_seq ?_
        refine a_region ?_
        refine r_val (v := .bool _) (v_assign (.inl rfl) (noOwn_flat rfl)) rfl rfl (by decide) ?_
        refine r_nil ?_
        refine a_ret ?_
        refine ret1 Try.results73 (by decide) (by decide) (Weak.of_eq (bool_eq ?_)) rfl Leaves.nil
        simp at ht26; refine (decide_eq_false (fun h => ?_)).symm
        subst h
        simp at ht26
      ·
        skip
        refine a_skip ?_
        refine a_region ?_
        refine r_val (v := .int _ _) (v_move (.inl rfl) (noOwn_flat rfl)) rfl rfl (by decide) ?_
        refine r_val (v := .int _ _) (v_add (.inl rfl) (.inl rfl) (fun _ => by omega)) rfl rfl (by decide) ?_
        refine r_val (v := .int _ _) (v_assign (.inl rfl) (noOwn_flat rfl)) rfl rfl (by decide) ?_
        refine r_nil ?_
        refine ⟨i + 1, ent_look ⟨Weak.of_eq rfl, Weak.of_eq rfl, Weak.of_eq (int_eq (by omega)), trivial⟩, ⟨by omega, g2, gl_take hi (by omega) g3 (by simpa using ht26)⟩, by omega⟩
    ·
      skip
      refine a_exit ?_
      refine a_seq ?_
      refine a_region ?_
      refine r_val (v := .bool _) (v_assign (.inl rfl) (noOwn_flat rfl)) rfl rfl (by decide) ?_
      refine r_nil ?_
      refine a_ret ?_
      refine ret1 Try.results73 (by decide) (by decide) (Weak.of_eq (bool_eq ?_)) rfl Leaves.nil
      simp at ht14; refine (decide_eq_true ?_).symm
      rw [List.take_of_length_le (by omega), List.take_of_length_le (by omega)] at g3; exact g3

theorem eqCnf_c (vars v2 : Int) (L M : List (List Int)) (hL : (L.length : Int) ≤ 9223372036854775807) (hM : (M.length : Int) ≤ 9223372036854775807) (hlen : ∀ i, ((gl L i).length : Int) ≤ 9223372036854775807) : ACall Try.prog 25 [.agg [.int .i64 vars, .sl (sls L) L.length], .agg [.int .i64 v2, .sl (sls M) M.length]] [] (.bool (decide (vars = v2) && decide (L = M))) [] := by
  refine ACall.intro Try.func25 rfl (N := 16) rfl (by decide) (by simp) ?_
  refine a_seq ?_
  refine a_region ?_
  refine r_new (v := .op [.int _ _, .sl _ _]) (q_box (.inl rfl) rfl rfl) rfl rfl (by decide) ?_
  refine r_new (v := .op [.int _ _, .sl _ _]) (q_box (.inl rfl) rfl rfl) rfl rfl (by decide) ?_
  refine r_val (v := .bool _) (v_assign (.inl rfl) (noOwn_flat rfl)) rfl rfl (by decide) ?_
  refine r_nil ?_
  refine a_seq ?_
  refine a_seq ?_
  refine a_region ?_
  refine r_val (v := .rp _ _) (v_fieldAddr_rp fo39_0 (.inl rfl)) rfl rfl (by decide) ?_
  refine r_val (v := .int _ _) (v_load_rp1 ta3 (.inl rfl) rfl (fun _ => rfl) rfl) rfl rfl (by decide) ?_
  refine r_val (v := .rp _ _) (v_fieldAddr_rp fo39_0 (.inl rfl)) rfl rfl (by decide) ?_
  refine r_val (v := .int _ _) (v_load_rp1 ta3 (.inl rfl) rfl (fun _ => rfl) rfl) rfl rfl (by decide) ?_
  refine r_val (v := .bool _) (v_neq (.inl rfl) (.inl rfl)) rfl rfl (by decide) ?_
  refine r_nil ?_
  refine a_cond rfl (fun ht9 => ?_) (fun ht9 => ?_)
  ·
    skip
    refine a_seq ?_
    refine a_region ?_
    refine r_val (v := .bool _) (v_assign (.inl rfl) (noOwn_flat rfl)) rfl rfl (by decide) ?_
    refine r_nil ?_
    refine a_ret ?_
    refine ret1 Try.results25 (by decide) (by decide) (Weak.of_eq (bool_eq ?_)) rfl Leaves.nil
    simp at ht9; simp [ht9]
  ·
    skip
    refine a_skip ?_
    refine a_seq ?_
    refine a_seq ?_
    refine a_region ?_
    refine r_val (v := .rp _ _) (v_fieldAddr_rp fo39_1 (.inl rfl)) rfl rfl (by decide) ?_
    refine r_val (v := .sl _ _) (v_load_rp1 ta33 (.inl rfl) rfl (fun _ => rfl) rfl) rfl rfl (by decide) ?_
    refine r_val (v := .rp _ _) (v_fieldAddr_rp fo39_1 (.inl rfl)) rfl rfl (by decide) ?_
    refine r_val (v := .sl _ _) (v_load_rp1 ta33 (.inl rfl) rfl (fun _ => rfl) rfl) rfl rfl (by decide) ?_
    refine r_new (v := .bool _) (q_call (vs := [.sl _ _, .sl _ _]) (args := [.sl _ _, .sl _ _]) hb73 ⟨.inl rfl, .inl rfl, trivial⟩ rfl (fun hA => eqIntSS_c L M hL hM hlen) rfl rfl) rfl rfl (by decide) ?_
    refine r_val (v := .bool _) (v_not (.inl rfl)) rfl rfl (by decide) ?_
    refine r_nil ?_
    refine a_cond rfl (fun ht15 => ?_) (fun ht15 => ?_)
    ·
      skip
      refine a_seq ?_
      refine a_region ?_
      refine r_val (v := .bool _) (v_assign (.inl rfl) (noOwn_flat rfl)) rfl rfl (by decide) ?_
      refine r_nil ?_
      refine a_ret ?_
      refine ret1 Try.results25 (by decide) (by decide) (Weak.of_eq (bool_eq ?_)) rfl Leaves.nil
      simp at ht15; simp [ht15]
    ·
      skip
      refine a_skip ?_
      refine a_seq ?_
      refine a_region ?_
      refine r_val (v := .bool _) (v_assign (.inl rfl) (noOwn_flat rfl)) rfl rfl (by decide) ?_
      refine r_nil ?_
      refine a_ret ?_
      refine ret1 Try.results25 (by decide) (by decide) (Weak.of_eq (bool_eq ?_)) rfl Leaves.nil
      simp at ht9 ht15; simp [ht9, ht15]

theorem isCnf_c (vars : Int) (L : List (List Int)) (hk : CnfOk vars L) : ACall Try.prog 83 [.agg [.int .i64 vars, .sl (sls L) L.length]] [] (.bool (cnfB vars L)) [] := by
  have hk1 := hk.1
  have hk2 := hk.2.1
  have hk3 := hk.2.2.1
  refine ACall.intro Try.func83 rfl (N := 27) rfl (by decide) (by simp) ?_
  refine a_seq ?_
  refine a_region ?_
  refine r_new (v := .op [.int _ _, .sl _ _]) (q_box (.inl rfl) rfl rfl) rfl rfl (by decide) ?_
  refine r_val (v := .bool _) (v_assign (.inl rfl) (noOwn_flat rfl)) rfl rfl (by decide) ?_
  refine r_nil ?_
  refine a_seq ?_
  refine a_seq ?_
  refine a_region ?_
  refine r_val (v := .rp _ _) (v_fieldAddr_rp fo39_1 (.inl rfl)) rfl rfl (by decide) ?_
  refine r_val (v := .sl _ _) (v_load_rp1 ta33 (.inl rfl) rfl (fun _ => rfl) rfl) rfl rfl (by decide) ?_
  refine r_val (v := .int _ _) (v_len_sl sl33 (.inl rfl)) rfl rfl (by decide) ?_
  refine r_val (v := .int _ _) (v_move (.inl rfl) (noOwn_flat rfl)) rfl rfl (by decide) ?_
  refine r_nil ?_
  refine a_block ?_
  refine a_loop (X := Nat) (fun i => look [(1, .op [.int .i64 vars, .sl (sls L) L.length]), (6, .sl (sls L) L.length), (7, .int .i64 (L.length : Int)), (8, .int .i64 ((i : Nat) : Int))]) (fun i => i ≤ L.length ∧ ∀ j, j < i → clB vars (gl L j) = true) (fun i => L.length - i) 0 (ent_look ⟨Weak.of_eq rfl, Weak.of_eq rfl, Weak.of_eq rfl, Weak.of_eq rfl, trivial⟩) ⟨Nat.zero_le _, fun j h => by omega⟩ (fun i hG => ?_)
  obtain ⟨g1, g2⟩ := hG
  have hle := len_tot (L := L) (i := i)
  refine a_seq ?_
  refine a_region ?_
  refine r_val (v := .bool _) (v_lss (.inl rfl) (.inl rfl)) rfl rfl (by decide) ?_
  refine r_nil ?_
  refine a_seq ?_
  refine a_cond rfl (fun ht9 => ?_) (fun ht9 => ?_)
  ·
    skip
    refine a_skip ?_
    refine a_seq ?_
    refine a_block ?_
    refine a_seq ?_
    have hi : i < L.length := (by simp at ht9; omega)
    refine a_region ?_
    refine r_val (v := .pp _ _) (v_indexAddr_sl es33 (.inl rfl) (.inl rfl) (fun _ => ⟨by omega, by omega, sls_ne hi⟩)) rfl rfl (by decide) ?_
    refine r_val (v := .sl (icells (gl L i)) (gl L i).length) (v_load_pp ta22 (.inl rfl) (fun _ => by rw [Nat.mul_one]; exact sls_get hi) rfl) rfl rfl (by decide) ?_
    refine r_val (v := .sl _ _) (v_assign (.inl rfl) (noOwn_flat rfl)) rfl rfl (by decide) ?_
    refine r_nil ?_
    refine a_seq ?_
    refine a_region ?_
    refine r_val (v := .rp _ _) (v_fieldAddr_rp fo39_0 (.inl rfl)) rfl rfl (by decide) ?_
    refine r_val (v := .int _ _) (v_load_rp1 ta3 (.inl rfl) rfl (fun _ => rfl) rfl) rfl rfl (by decide) ?_
    refine r_val (v := .sl _ _) (v_move (.inl rfl) (noOwn_flat rfl)) rfl rfl (by decide) ?_
    refine r_new (v := .bool _) (q_call (vs := [.int _ _, .sl _ _]) (args := [.int .i64 _, .sl _ _]) hb60 ⟨.inl rfl, .inl rfl, trivial⟩ rfl (fun hA => isClause_c vars (gl L i) hk1 (by omega) (fun j => hk.2.2.2 i j)) rfl rfl) rfl rfl (by decide) ?_
    refine r_val (v := .bool _) (v_not (.inl rfl)) rfl rfl (by decide) ?_
    refine r_nil ?_
    refine a_cond rfl (fun ht16 => ?_) (fun ht16 => ?_)
    ·
      skip
      refine a_seq ?_
      have hno := cnfB_no hi (by simpa using ht16)
      refine a_region ?_
      refine r_val (v := .bool _) (v_assign (.inl rfl) (noOwn_flat rfl)) rfl rfl (by decide) ?_
      refine r_nil ?_
      refine a_ret ?_
      refine ret1 Try.results83 (by decide) (by decide) (Weak.of_eq (bool_eq ?_)) rfl Leaves.nil
      rw [hno]
    ·
      skip
      refine a_skip ?_
      refine a_region ?_
      refine r_val (v := .int _ _) (v_add (.inl rfl) (.inl rfl) (fun _ => by omega)) rfl rfl (by decide) ?_
      refine r_val (v := .int _ _) (v_move (.inl rfl) (noOwn_flat rfl)) rfl rfl (by decide) ?_
      refine r_nil ?_
      refine ⟨i + 1, ent_look ⟨Weak.of_eq rfl, Weak.of_eq rfl, Weak.of_eq rfl, Weak.of_eq (int_eq (by omega)), trivial⟩, ⟨by omega, fun j h1 => by rcases Nat.lt_or_ge j i with h | h; exact g2 j h; (obtain rfl : j = i := by omega); simpa using ht16⟩, by omega⟩
  ·
    skip
    refine a_exit ?_
    refine a_seq ?_
    have hyes := cnfB_yes (vars := vars) (fun j hj => g2 j (by simp at ht9; omega))
    refine a_region ?_
    refine r_val (v := .rp _ _) (v_fieldAddr_rp fo39_0 (.inl rfl)) rfl rfl (by decide) ?_
    refine r_val (v := .int _ _) (v_load_rp1 ta3 (.inl rfl) rfl (fun _ => rfl) rfl) rfl rfl (by decide) ?_
    refine r_new (v := .bool _) (q_call (vs := [.int _ _]) (args := [.int .i64 _]) hb111 ⟨.inl rfl, trivial⟩ rfl (fun hA => varsOk_c _) rfl rfl) rfl rfl (by decide) ?_
    refine r_val (v := .bool _) (v_move (.inl rfl) (noOwn_flat rfl)) rfl rfl (by decide) ?_
    refine r_gval (v := .rp _ _) (v_fieldAddr_rp fo39_1 (.inl rfl)) rfl rfl rfl (by decide) (.inl ⟨_, rfl, rfl⟩) rfl (by decide) ?_
    refine r_gval (v := .sl _ _) (v_load_rp1 ta33 (.inr ⟨_, rfl, fun h => h⟩) rfl (fun _ => rfl) rfl) rfl rfl rfl (by decide) (.inl ⟨_, rfl, rfl⟩) rfl (by decide) ?_
    refine r_gval (v := .int _ _) (v_len_sl sl33 (.inr ⟨_, rfl, fun h => h⟩)) rfl rfl rfl (by decide) (.inl ⟨_, rfl, rfl⟩) rfl (by decide) ?_
    refine r_gval (v := .bool _) (v_leq (.inr ⟨_, rfl, fun h => h⟩) (.inl rfl)) rfl rfl rfl (by decide) (.inl ⟨_, rfl, rfl⟩) rfl (by decide) ?_
    refine r_val (v := .bool _) (v_pick (.inl rfl) (.inr ⟨_, rfl, fun h h2 => by simp_all⟩) (.inl rfl)) rfl rfl (by decide) ?_
    refine r_val (v := .bool _) (v_assign (.inl rfl) (noOwn_flat rfl)) rfl rfl (by decide) ?_
    refine r_nil ?_
    refine a_ret ?_
    refine ret1 Try.results83 (by decide) (by decide) (Weak.of_eq (bool_eq ?_)) rfl Leaves.nil
    rw [hyes]; cases inR vars 0 12 <;> simp <;> omega

theorem l2Good_c (vars : Int) (L : List (List Int)) (hk : CnfOk vars L) : ACall Try.prog 94 [.agg [.int .i64 vars, .sl (sls L) L.length]] [] (.bool (cnfB vars L)) [] := by
  have hk1 := hk.1
  have hk2 := hk.2.1
  have hk3 := hk.2.2.1
  refine ACall.intro Try.func94 rfl (N := 30) rfl (by decide) (by simp) ?_
  refine a_seq ?_
  refine a_region ?_
  refine r_new (v := .op [.int _ _, .sl _ _]) (q_box (.inl rfl) rfl rfl) rfl rfl (by decide) ?_
  refine r_val (v := .bool _) (v_assign (.inl rfl) (noOwn_flat rfl)) rfl rfl (by decide) ?_
  refine r_nil ?_
  refine a_seq ?_
  refine a_seq ?_
  refine a_region ?_
  refine r_val (v := .rp _ _) (v_fieldAddr_rp fo39_0 (.inl rfl)) rfl rfl (by decide) ?_
  refine r_val (v := .int _ _) (v_load_rp1 ta3 (.inl rfl) rfl (fun _ => rfl) rfl) rfl rfl (by decide) ?_
  refine r_new (v := .bool _) (q_call (vs := [.int _ _]) (args := [.int .i64 _]) hb105 ⟨.inl rfl, trivial⟩ rfl (fun hA => l2Vars_c _) rfl rfl) rfl rfl (by decide) ?_
  refine r_val (v := .bool _) (v_not (.inl rfl)) rfl rfl (by decide) ?_
  refine r_val (v := .bool _) (v_move (.inl rfl) (noOwn_flat rfl)) rfl rfl (by decide) ?_
  refine r_gval (v := .rp _ _) (v_fieldAddr_rp fo39_1 (.inl rfl)) rfl rfl rfl (by decide) (.inl ⟨_, rfl, rfl⟩) rfl (by decide) ?_
  refine r_gval (v := .sl _ _) (v_load_rp1 ta33 (.inr ⟨_, rfl, fun h => h⟩) rfl (fun _ => rfl) rfl) rfl rfl rfl (by decide) (.inl ⟨_, rfl, rfl⟩) rfl (by decide) ?_
  refine r_gval (v := .int _ _) (v_len_sl sl33 (.inr ⟨_, rfl, fun h => h⟩)) rfl rfl rfl (by decide) (.inl ⟨_, rfl, rfl⟩) rfl (by decide) ?_
  refine r_gval (v := .bool _) (v_gtr (.inr ⟨_, rfl, fun h => h⟩) (.inl rfl)) rfl rfl rfl (by decide) (.inl ⟨_, rfl, rfl⟩) rfl (by decide) ?_
  refine r_val (v := .bool _) (v_pick (.inl rfl) (.inl rfl) (.inr ⟨_, rfl, fun h h2 => by simp_all⟩)) rfl rfl (by decide) ?_
  refine r_nil ?_
  refine a_cond rfl (fun ht13 => ?_) (fun ht13 => ?_)
  ·
    skip
    refine a_seq ?_
    refine a_region ?_
    refine r_val (v := .bool _) (v_assign (.inl rfl) (noOwn_flat rfl)) rfl rfl (by decide) ?_
    refine r_nil ?_
    refine a_ret ?_
    refine ret1 Try.results94 (by decide) (by decide) (Weak.of_eq (bool_eq ?_)) rfl Leaves.nil
    unfold cnfB; cases h1 : inR vars 0 12 <;> simp [h1] at ht13 ⊢; intro h2; omega
  ·
    skip
    refine a_skip ?_
    refine a_seq ?_
    refine a_seq ?_
    refine a_region ?_
    refine r_val (v := .int _ _) (v_assign (.inl rfl) (noOwn_flat rfl)) rfl rfl (by decide) ?_
    refine r_nil ?_
    refine a_block ?_
    refine a_loop (X := Nat) (fun i => look [(1, .op [.int .i64 vars, .sl (sls L) L.length]), (3, .int .i64 ((i : Nat) : Int))]) (fun i => i ≤ L.length ∧ ∀ j, j < i → clB vars (gl L j) = true) (fun i => L.length - i) 0 (ent_look ⟨Weak.of_eq rfl, Weak.of_eq rfl, trivial⟩) ⟨Nat.zero_le _, fun j h => by omega⟩ (fun i hG => ?_)
    obtain ⟨g1, g2⟩ := hG
    have hle := len_tot (L := L) (i := i)
    refine a_seq ?_
    refine a_seq ?_
    refine a_region ?_
    refine r_val (v := .int _ _) (v_move (.inl rfl) (noOwn_flat rfl)) rfl rfl (by decide) ?_
    refine r_val (v := .rp _ _) (v_fieldAddr_rp fo39_1 (.inl rfl)) rfl rfl (by decide) ?_
    refine r_val (v := .sl _ _) (v_load_rp1 ta33 (.inl rfl) rfl (fun _ => rfl) rfl) rfl rfl (by decide) ?_
    refine r_val (v := .int _ _) (v_len_sl sl33 (.inl rfl)) rfl rfl (by decide) ?_
    refine r_val (v := .bool _) (v_lss (.inl rfl) (.inl rfl)) rfl rfl (by decide) ?_
    refine r_nil ?_
    refine a_cond rfl (fun ht18 => ?_) (fun ht18 => ?_)
    ·
      skip
      refine a_skip ?_
      refine a_seq ?_
      refine a_block ?_
      refine a_seq ?_
      have hi : i < L.length := (by simp at ht18; omega)
      refine a_region_any mixed (by kernel_rfl) ?_
      refine y_val (v := .rp _ _) (v_fieldAddr_rp fo39_0 (.inl rfl)) rfl rfl (by decide) (by kernel_rfl) ?_
      refine y_val (v := .int _ _) (v_load_rp1 ta3 (.inl rfl) rfl (fun _ => rfl) rfl) rfl rfl (by decide) (by kernel_rfl) ?_
      refine y_val (v := .rp _ _) (v_fieldAddr_rp fo39_1 (.inl rfl)) rfl rfl (by decide) (by kernel_rfl) ?_
      refine y_val (v := .sl _ _) (v_load_rp1 ta33 (.inl rfl) rfl (fun _ => rfl) rfl) rfl rfl (by decide) (by kernel_rfl) ?_
      refine y_val (v := .int _ _) (v_move (.inl rfl) (noOwn_flat rfl)) rfl rfl (by decide) (by kernel_rfl) ?_
      refine y_val (v := .pp _ _) (v_indexAddr_sl es33 (.inl rfl) (.inl rfl) (fun _ => ⟨by omega, by omega, sls_ne hi⟩)) rfl rfl (by decide) (by kernel_rfl) ?_
      refine y_val (v := .sl (icells (gl L i)) (gl L i).length) (v_load_pp ta22 (.inl rfl) (fun _ => by rw [Nat.mul_one]; exact sls_get hi) rfl) rfl rfl (by decide) (by kernel_rfl) ?_
      refine y_new (v := .bool _) (q_call (vs := [.int _ _, .sl _ _]) (args := [.int .i64 _, .sl _ _]) hb54 ⟨.inl rfl, .inl rfl, trivial⟩ rfl (fun hA => l2Clause_c vars (gl L i) hk1 (by omega) (fun j => hk.2.2.2 i j)) rfl rfl) rfl rfl (by decide) (by kernel_rfl) ?_
      refine y_val (v := .bool _) (v_not (.inl rfl)) rfl rfl (by decide) (by kernel_rfl) ?_
      refine y_nil ?_
      refine a_cond rfl (fun ht29 => ?_) (fun ht29 => ?_)
      ·
        skip
        refine a_seq ?_
        have hno := cnfB_no hi (by simpa using ht29)
        refine a_region ?_
        refine r_val (v := .bool _) (v_assign (.inl rfl) (noOwn_flat rfl)) rfl rfl (by decide) ?_
        refine r_nil ?_
        refine a_ret ?_
        refine ret1 Try.results94 (by decide) (by decide) (Weak.of_eq (bool_eq ?_)) rfl Leaves.nil
        rw [hno]
      ·
        skip
        refine a_skip ?_
        refine a_region ?_
        refine r_val (v := .int _ _) (v_move (.inl rfl) (noOwn_flat rfl)) rfl rfl (by decide) ?_
        refine r_val (v := .int _ _) (v_add (.inl rfl) (.inl rfl) (fun _ => by omega)) rfl rfl (by decide) ?_
        refine r_val (v := .int _ _) (v_assign (.inl rfl) (noOwn_flat rfl)) rfl rfl (by decide) ?_
        refine r_nil ?_
        refine ⟨i + 1, ent_look ⟨Weak.of_eq rfl, Weak.of_eq (int_eq (by omega)), trivial⟩, ⟨by omega, fun j h1 => by rcases Nat.lt_or_ge j i with h | h; exact g2 j h; (obtain rfl : j = i := by omega); simpa using ht29⟩, by omega⟩
    ·
      skip
      refine a_exit ?_
      refine a_seq ?_
      have hyes := cnfB_yes (vars := vars) (fun j hj => g2 j (by simp at ht18; omega))
      refine a_region ?_
      refine r_val (v := .bool _) (v_assign (.inl rfl) (noOwn_flat rfl)) rfl rfl (by decide) ?_
      refine r_nil ?_
      refine a_ret ?_
      refine ret1 Try.results94 (by decide) (by decide) (Weak.of_eq (bool_eq ?_)) rfl Leaves.nil
      rw [hyes]; cases h1 : inR vars 0 12 <;> simp [h1] at ht13 ⊢; omega
end Go.Av
namespace Go.Av
open Go
section
variable {P : Program} {e : Ctx} {σ τ : Sig} {val : Nat → Value} {w : World} {β : Place → Option (Nat × Nat)} {F : Nat → Prop}

end
end Go.Av
namespace Go.Av
open Go Go.Proofs Go.Sort
set_option maxRecDepth 10000
theorem hb83 : hasBody Try.prog 83 = true := by kernel_rfl
theorem lt33 : litTy Try.prog 33 = some (1, [.nils]) := by kernel_rfl
end Go.Av
namespace Go.Av
open Go
section
variable {P : Program} {N : Nat} {A : Bool} {σ τ : Sig} {ty : TypeId}
variable {e : Ctx} {val : Nat → Value} {w : World} {β : Place → Option (Nat × Nat)} {F : Nat → Prop} {x : AV} {d : Nat}

/-- A slot's owned memory is frozen, where it is new. -/
theorem Inv.freeze (h : Inv e (upd τ d x) val w β F) (hf : ∀ r y b s, node x r = some y → y.isOwn = true → β (d, r) = some (b, s) → e.w0.heap.size ≤ b) :
    Inv e (upd τ d (sh x)) val w β (fun b => F b ∨ ∃ r y s, node x r = some y ∧ y.isOwn = true ∧ β (d, r) = some (b, s)) := by
  have own : ∀ q, OwnAt (upd τ d (sh x)) q → q.1 ≠ d ∧ OwnAt (upd τ d x) q := fun q hq => by
    by_cases hi : q.1 = d
    · obtain ⟨y, hy, ho⟩ := hq
      rw [hi, upd_same] at hy
      rw [pure_own (pure_sh x) hy] at ho; cases ho
    · exact ⟨hi, (own_upd_other hi).2 ((own_upd_other hi).1 hq)⟩
  have hx := h.rep d
  rw [upd_same] at hx
  have ownx : ∀ r y, node x r = some y → y.isOwn = true → OwnAt (upd τ d x) (d, r) := fun r y hy ho => ⟨y, by rw [upd_same]; exact hy, ho⟩
  refine ⟨fun i => ?_, fun q q' b s s' hq hq' => h.disj q q' b s s' (own q hq).2 (own q' hq').2, fun q b s hq hb => ⟨?_, (h.sep q b s (own q hq).2 hb).2⟩, fun b hb => ?_, h.kept, h.grow, h.tame⟩
  · by_cases hi : i = d
    · subst hi
      rw [upd_same]
      exact hx.sh x (fun b hb => .inl hb) (fun r y b s hy ho hb => .inr ⟨r, y, s, hy, ho, by simpa using hb⟩)
    · have := h.rep i
      rw [upd_other _ _ hi] at this ⊢
      exact this.tr _ (fun b hb => ⟨.inl hb, rfl⟩) (fun _ _ _ _ => ⟨rfl, fun _ _ _ => rfl⟩) (fun _ _ => rfl)
  · rintro (hF | ⟨r, y, s', hy, ho, hb'⟩)
    · exact (h.sep q b s (own q hq).2 hb).1 hF
    · have := h.disj q (d, r) b s s' (own q hq).2 (ownx r y hy ho) hb hb'
      exact (own q hq).1 (by rw [this])
  · rcases hb with hb | ⟨r, y, s, hy, ho, hb⟩
    · exact h.fr b hb
    · refine ⟨h.own_lt (ownx r y hy ho) hb, fun hlt => ?_⟩
      have := hf r y b s hy ho hb
      omega

/-- A slice literal, frozen. -/
theorem q_sliceLitZ {t n sz : Nat} {zs cs : List AV} {parts : List (Nat × Operand)} (h : litTy P t = some (sz, zs)) (hsm : Nat.ble (n * sz) 16777216 = true)
    (hf : fillA (fun i => some (i * sz, sz)) (rep n zs) (parts.map fun x => (x.1, rd N σ x.2)) = some cs) (hl : Nat.beq cs.length (n * sz) = true) (hp : pureL cs = true) :
    QSem P N A (sliceLit t n parts) ty σ (slotsL (parts.map (·.2))) (.sl (shL cs) n) := by
  intro hA σ' hD gv e a w β F hi d o ho hty K Q hK
  obtain ⟨el, arr0, harr, hrun⟩ := run_lit h (Nat.le_of_ble_eq_true hsm)
  obtain ⟨cells, he, hc1, hc2, hc3⟩ := fill_spec (β := β) (F := F) (w := w) (parts.map fun x => (x.1, rd N σ x.2)) (parts.map fun x => (x.1, a.eval x.2)) _ arr0 cs (harr β F w) (by simp)
      (fun j i v hj => by
        rw [List.getElem?_map] at hj
        cases hp : parts[j]? with
        | none => rw [hp] at hj; cases hj
        | some x =>
          rw [hp] at hj
          simp only [Option.map_some, Option.some.injEq, Prod.mk.injEq] at hj
          obtain ⟨rfl, rfl⟩ := hj
          refine ⟨noOwn_rd _, a.eval x.2, (0, []), by rw [List.getElem?_map, hp]; rfl, ?_⟩
          have := rd_rep hi x.2 (0, [])
          rwa [rd_agree (fun i hi' => hD i (List.mem_flatMap.2 ⟨x.2, List.mem_map.2 ⟨x, List.mem_of_getElem? hp, rfl⟩, hi'⟩))] at this) hf
  have hr := hrun (parts.map fun x => (x.1, a.eval x.2)).toArray cells w (by simpa using he)
  obtain ⟨β', h'⟩ := hi.new_osl (us := cells.toList) (by simpa using hc1) hc3 hp el d (arr := cells) (sz := sz) (n := n) (capv := n) (cap := some n) (fun j x hx => hx) (by rw [hc1]; exact Nat.eq_of_beq_eq_true hl) (Nat.le_refl _) (fun c hc => by cases hc; rfl)
  have hfz := h'.freeze (fun r y b s hy hyo hb => by
    cases r with
    | nil =>
      have hrep := h'.rep d
      rw [upd_same, upd_same] at hrep
      simp only [Rep] at hrep
      rcases hrep with ⟨h1, _⟩ | ⟨_, b', _, _, _, h1, h2, _⟩
      · rw [h1] at hb; cases hb
      · rw [h1] at hb; cases hb
        simp only [Value.slice.injEq, Option.some.injEq, Addr.mk.injEq] at h2
        have := hi.grow
        omega
    | cons j r =>
      simp only [node, kids] at hy
      cases hc : cs[j]? with
      | none => rw [hc] at hy; cases hy
      | some c =>
        rw [hc] at hy
        rw [pure_own (pureL_mem hp (List.mem_of_getElem? hc)) hy] at hyo; cases hyo)
  refine wp_value (v := .slice (some ⟨w.heap.size, 0, none⟩) n n) (w' := w.alloc (.cells cells el)) ?_ (hK _ _ ⟨β', _, hfz⟩)
  simp only [execOp, ho, sliceLit, List.map_toArray, hr, Sem.run_bind, Sem.run_pure, Result.andThen_ok]

/-- A call whose arguments are only lent; its result is new and frozen from now on. -/
theorem call_coreZ {f : FuncId} {args : List AV} {res : AV} (hc : ACall P f args [] res []) (hp : pureL args = true) (hn : noSh res = true) (hr : noRef res = true) (h : Inv e σ val w β F) {vs : List Value}
    (hl : vs.length = args.length) (ha : RepL (fun _ => none) (lent σ β F) w args (0, []) 0 vs) (d : Nat) :
    Calls P f vs.toArray w fun en w' => ∃ v β' F', en = .returned v ∧ Inv e (upd (fun i => purgeV d (σ i)) d (sh res)) (upd val d v) w' β' F' := by
  have hinv : Inv ⟨w, fun _ => False, lent σ β F, []⟩ (argSig args []) (fun i => vs.getD i undef) w (fun _ => none) (lent σ β F) := by
    refine ⟨fun i => ?_, fun q q' b s s' hq => (noOwn_argSig hp q hq).elim, fun q b s hq => (noOwn_argSig hp q hq).elim, fun b hb => ⟨?_, fun _ => hb⟩, fun _ _ _ => rfl, Nat.le_refl _, Tame.refl _⟩
    · unfold argSig
      split
      · cases hx : args[i]? with
        | none => simp [Rep]
        | some c =>
          obtain ⟨u, hu, hru⟩ := RepL_iff.1 ha i c hx
          rw [List.getD_eq_getElem?_getD, hu]
          exact hru.pure_any (pureL_mem hp (List.mem_of_getElem? hx))
      · simp [Rep]
    · rcases hb with hb | ⟨q, s, hq, hb⟩
      · exact (h.fr b hb).1
      · exact h.own_lt hq hb
  refine (hc _ vs _ w _ _ hl (fun _ _ => rfl) hinv).mono fun en w' ⟨v, β', F', he, hi⟩ => ⟨v, ?_⟩
  have hkept : ∀ b, b < w.heap.size → w'.heap[b]? = w.heap[b]? := fun b hb => hi.kept b hb (fun h => h)
  have hI := h.more hkept hi.grow (h.tame.trans hi.tame hkept)
  have h0 : argSig [res] [] 0 = res := by simp [argSig, INH]
  have hge : ∀ r y b s, node res r = some y → y.isOwn = true → β' (0, r) = some (b, s) → w.heap.size ≤ b := fun r y b s hy ho hb => by
    have hs := hi.sep (0, r) b s ⟨y, by rw [h0]; exact hy, ho⟩ hb
    rcases hs.2 with h | h; exact h; exact h.elim
  have hdet : Det e σ w' β F res v (fun r => β' (0, r)) := by
    refine ⟨?_, refs_of_noRef res hr, ?_, ?_⟩
    · have := hi.rep 0
      rw [h0, upd_same] at this
      exact (this.noSh (G := F) res hn).tr _ (fun b hb => ⟨hb, rfl⟩) (fun r y _ _ => ⟨by simp, fun _ _ _ => rfl⟩) (fun q hq => by rw [refs_of_noRef res hr] at hq; cases hq)
    · intro r r' y y' b s s' hy ho hy' ho' hb hb'
      have := hi.disj (0, r) (0, r') b s s' ⟨y, by rw [h0]; exact hy, ho⟩ ⟨y', by rw [h0]; exact hy', ho'⟩ hb hb'
      simpa using this
    · intro r y b s hy ho hb
      have hge := hge r y b s hy ho hb
      exact ⟨fun hF => by have := (h.fr b hF).1; omega, .inl (Nat.le_trans h.grow hge), fun q s' hq hb' => by have := h.own_lt hq hb'; omega⟩
  exact ⟨_, _, he, (hI.attach d hdet).freeze (fun r y b s hy ho hb => Nat.le_trans h.grow (hge r y b s hy ho (by simpa using hb)))⟩
theorem q_callZ {f : FuncId} {xs : List Operand} {tys : Array TypeId} {vs args : List AV} {res : AV} (hf : hasBody P f = true) (hx : RdL N A σ xs vs) (hs : snapL σ vs = args) (hc : A = true → ACall P f args [] res [])
    (hn : noSh res = true) (hr : noRef res = true) : QSem P N A (fnCall f xs tys) ty σ (slotsL xs ++ refRoots vs) (sh res) := by
  intro hA σ' hD gv e a w β F hi d o ho hty K Q hK
  have hp : pureL args = true := by rw [← hs]; exact pure_snapL σ _
  obtain ⟨hrep, hlen, hno⟩ := RdL.rep hA hi (0, []) (j := 0) hx (agree_l hD)
  have hsn := hi.snapL (β0 := fun _ => none) _ (p' := (0, [])) hrep (fun i c hc => hno c (List.mem_of_getElem? hc))
  have e2 : snapL σ' vs = args := by rw [← hs]; exact snapL_congr _ fun q hq => hD q.1 (List.mem_append_right _ (refRoots_mem hq))
  rw [e2] at hsn
  have hl : (xs.map a.eval).length = args.length := by rw [← e2, snapL_eq, hlen]; simp
  refine upon_enter' (f := f) (args := (xs.map a.eval).toArray) ?_ ((call_coreZ (hc hA) hp hn hr hi hl hsn d).mono fun en w' ⟨v, β', F', he, hi'⟩ => ⟨v, he, hK _ _ ⟨β', F', hi'⟩⟩)
  simp [execOp, ho, fnCall, resolve, Deferred.ofValue, Act.eval, invoke, run_callFunc_body hf]
end
end Go.Av
namespace Go.Av
open Go
theorem sl_shZ {cs : List AV} {n m : Nat} {c : Option Nat} (h : pureL cs = true ∧ noNilL cs = true) : sh (.osl m cs n c) = .sl cs n := by simp only [sh, shL_id cs h.1 h.2]
end Go.Av
namespace Go.Av
open Go
/-- Frozen, a tuple's parts too. -/
def shT : AV → AV
  | .tup cs => .tup (shL cs)
  | x => sh x
theorem shT_own {x : AV} {r : List Nat} {y : AV} (h : node (shT x) r = some y) : y.isOwn = false := by
  cases x
  case tup cs =>
    cases r with
    | nil => simp [shT, node] at h; subst h; rfl
    | cons j r =>
      simp only [shT, node, kids] at h
      cases hc : (shL cs)[j]? with
      | none => rw [hc] at h; cases h
      | some c =>
        rw [hc] at h
        exact pure_own (pureL_mem (pure_shL cs) (List.mem_of_getElem? hc)) h
  all_goals exact pure_own (pure_sh _) h
theorem Rep.shT {x : AV} {F G : Nat → Prop} {w : World} {β β0 : Place → Option (Nat × Nat)} {p p' : Place} {v : Value} (h : Rep β F w x p v) (hF : ∀ b, F b → G b)
    (hG : ∀ r y b s, node x r = some y → y.isOwn = true → β (p.1, p.2 ++ r) = some (b, s) → G b) : Rep β0 G w (Av.shT x) p' v := by
  cases x
  case tup cs =>
    simp only [Rep] at h
    obtain ⟨vs, rfl, hl, h⟩ := h
    simp only [Av.shT, Rep]
    exact ⟨vs, rfl, by simp [shL_eq, hl], RepL.sh cs h hF (fun i c r y b s hc hy ho hb => hG (i :: r) y b s (by simp [node, kids, hc, hy]) ho (by simpa using hb))⟩
  all_goals exact h.sh _ hF hG
section
variable {P : Program} {N : Nat} {A : Bool} {σ τ : Sig} {ty : TypeId}
variable {e : Ctx} {val : Nat → Value} {w : World} {β : Place → Option (Nat × Nat)} {F : Nat → Prop} {x : AV} {d : Nat}
theorem Inv.freezeT (h : Inv e (upd τ d x) val w β F) (hf : ∀ r y b s, node x r = some y → y.isOwn = true → β (d, r) = some (b, s) → e.w0.heap.size ≤ b) :
    Inv e (upd τ d (shT x)) val w β (fun b => F b ∨ ∃ r y s, node x r = some y ∧ y.isOwn = true ∧ β (d, r) = some (b, s)) := by
  have own : ∀ q, OwnAt (upd τ d (shT x)) q → q.1 ≠ d ∧ OwnAt (upd τ d x) q := fun q hq => by
    by_cases hi : q.1 = d
    · obtain ⟨y, hy, ho⟩ := hq
      rw [hi, upd_same] at hy
      rw [shT_own hy] at ho; cases ho
    · exact ⟨hi, (own_upd_other hi).2 ((own_upd_other hi).1 hq)⟩
  have hx := h.rep d
  rw [upd_same] at hx
  have ownx : ∀ r y, node x r = some y → y.isOwn = true → OwnAt (upd τ d x) (d, r) := fun r y hy ho => ⟨y, by rw [upd_same]; exact hy, ho⟩
  refine ⟨fun i => ?_, fun q q' b s s' hq hq' => h.disj q q' b s s' (own q hq).2 (own q' hq').2, fun q b s hq hb => ⟨?_, (h.sep q b s (own q hq).2 hb).2⟩, fun b hb => ?_, h.kept, h.grow, h.tame⟩
  · by_cases hi : i = d
    · subst hi
      rw [upd_same]
      exact hx.shT (fun b hb => .inl hb) (fun r y b s hy ho hb => .inr ⟨r, y, s, hy, ho, by simpa using hb⟩)
    · have := h.rep i
      rw [upd_other _ _ hi] at this ⊢
      exact this.tr _ (fun b hb => ⟨.inl hb, rfl⟩) (fun _ _ _ _ => ⟨rfl, fun _ _ _ => rfl⟩) (fun _ _ => rfl)
  · rintro (hF | ⟨r, y, s', hy, ho, hb'⟩)
    · exact (h.sep q b s (own q hq).2 hb).1 hF
    · have := h.disj q (d, r) b s s' (own q hq).2 (ownx r y hy ho) hb hb'
      exact (own q hq).1 (by rw [this])
  · rcases hb with hb | ⟨r, y, s, hy, ho, hb⟩
    · exact h.fr b hb
    · refine ⟨h.own_lt (ownx r y hy ho) hb, fun hlt => ?_⟩
      have := hf r y b s hy ho hb
      omega
/-- A call of which no argument refers to owned memory; what it makes is frozen from now on. -/
theorem call_coreFZ {f : FuncId} {args : List AV} {res : AV} (hc : ACall P f args [] res []) (hp : pureL args = true) (hr : noRef res = true) (h : Inv e σ val w β F) {vs : List Value}
    (hl : vs.length = args.length) (ha : RepL (fun _ => none) F w args (0, []) 0 vs) (d : Nat) :
    Calls P f vs.toArray w fun en w' => ∃ v β' F', en = .returned v ∧ Inv e (upd (fun i => purgeV d (σ i)) d (shT res)) (upd val d v) w' β' F' := by
  have hinv : Inv ⟨w, fun _ => False, F, []⟩ (argSig args []) (fun i => vs.getD i undef) w (fun _ => none) F := by
    refine ⟨fun i => ?_, fun q q' b s s' hq => (noOwn_argSig hp q hq).elim, fun q b s hq => (noOwn_argSig hp q hq).elim, fun b hb => ⟨(h.fr b hb).1, fun _ => hb⟩, fun _ _ _ => rfl, Nat.le_refl _, Tame.refl _⟩
    unfold argSig
    split
    · cases hx : args[i]? with
      | none => simp [Rep]
      | some c =>
        obtain ⟨u, hu, hru⟩ := RepL_iff.1 ha i c hx
        rw [List.getD_eq_getElem?_getD, hu]
        exact hru.pure_any (pureL_mem hp (List.mem_of_getElem? hx))
    · simp [Rep]
  refine (hc _ vs _ w _ _ hl (fun _ _ => rfl) hinv).mono fun en w' ⟨v, β', F', he, hi⟩ => ⟨v, ?_⟩
  have hkept : ∀ b, b < w.heap.size → w'.heap[b]? = w.heap[b]? := fun b hb => hi.kept b hb (fun h => h)
  have hF' : ∀ b, F' b → F b ∨ w.heap.size ≤ b := fun b hb => by
    rcases Nat.lt_or_ge b w.heap.size with hlt | hge
    · exact .inl ((hi.fr b hb).2 hlt)
    · exact .inr hge
  have hI : Inv e σ val w' β (fun b => F b ∨ F' b) := (h.more hkept hi.grow (h.tame.trans hi.tame hkept)).moreF (fun b hb => .inl hb) (fun b hb => by
    rcases hb with hb | hb
    · exact ⟨Nat.lt_of_lt_of_le (h.fr b hb).1 hi.grow, (h.fr b hb).2⟩
    · refine ⟨(hi.fr b hb).1, fun hlt => ?_⟩
      rcases hF' b hb with hb | hge
      · exact (h.fr b hb).2 hlt
      · have := h.grow; omega) (fun q b s hq hb hF => by
    rcases hF with hF | hF
    · exact (h.sep q b s hq hb).1 hF
    · rcases hF' b hF with hF | hge
      · exact (h.sep q b s hq hb).1 hF
      · have := h.own_lt hq hb; omega)
  have h0 : argSig [res] [] 0 = res := by simp [argSig, INH]
  have hge : ∀ r y b s, node res r = some y → y.isOwn = true → β' (0, r) = some (b, s) → w.heap.size ≤ b := fun r y b s hy ho hb => by
    have hs := hi.sep (0, r) b s ⟨y, by rw [h0]; exact hy, ho⟩ hb
    rcases hs.2 with h | h; exact h; exact h.elim
  have hdet : Det e σ w' β (fun b => F b ∨ F' b) res v (fun r => β' (0, r)) := by
    refine ⟨?_, refs_of_noRef res hr, ?_, ?_⟩
    · have := hi.rep 0
      rw [h0, upd_same] at this
      exact this.tr _ (fun b hb => ⟨.inr hb, rfl⟩) (fun r y _ _ => ⟨by simp, fun _ _ _ => rfl⟩) (fun q hq => by rw [refs_of_noRef res hr] at hq; cases hq)
    · intro r r' y y' b s s' hy ho hy' ho' hb hb'
      have := hi.disj (0, r) (0, r') b s s' ⟨y, by rw [h0]; exact hy, ho⟩ ⟨y', by rw [h0]; exact hy', ho'⟩ hb hb'
      simpa using this
    · intro r y b s hy ho hb
      have hs := hi.sep (0, r) b s ⟨y, by rw [h0]; exact hy, ho⟩ hb
      have hge := hge r y b s hy ho hb
      refine ⟨fun hF => ?_, .inl (Nat.le_trans h.grow hge), fun q s' hq hb' => by have := h.own_lt hq hb'; omega⟩
      rcases hF with hF | hF
      · have := (h.fr b hF).1; omega
      · exact hs.1 hF
  exact ⟨_, _, he, (hI.attach d hdet).freezeT (fun r y b s hy ho hb => Nat.le_trans h.grow (hge r y b s hy ho (by simpa using hb)))⟩
theorem q_callFZ {f : FuncId} {xs : List Operand} {tys : Array TypeId} {vs args : List AV} {res : AV} (hf : hasBody P f = true) (hx : RdL N A σ xs vs) (hs : snapL σ vs = args) (hc : A = true → ACall P f args [] res [])
    (hnr : noRefL vs = true) (hr : noRef res = true) : QSem P N A (fnCall f xs tys) ty σ (slotsL xs ++ refRoots vs) (shT res) := by
  intro hA σ' hD gv e a w β F hi d o ho hty K Q hK
  have hp : pureL args = true := by rw [← hs]; exact pure_snapL σ _
  obtain ⟨hrep, hlen, hno⟩ := RdL.rep hA hi (0, []) (j := 0) hx (agree_l hD)
  have hi0 : Inv e (fun _ => .undef) (valOf N gv a) w β F := hi.weak (fun i => by simp [Rep]) (fun q ⟨y, hy, hoy⟩ => by
    cases hr : q.2 with
    | nil => rw [hr] at hy; simp [node] at hy; subst hy; simp [AV.isOwn] at hoy
    | cons j r => rw [hr] at hy; simp [node, kids] at hy)
  have hsn := hi0.snapL (β0 := fun _ => none) _ (p' := (0, [])) hrep (fun i c hc => hno c (List.mem_of_getElem? hc))
  have e2 : snapL (fun _ => .undef) vs = args := by
    rw [← hs]
    exact snapL_congr _ fun q hq => by rw [refsL_of_noRef _ hnr] at hq; cases hq
  rw [e2] at hsn
  have hl : (xs.map a.eval).length = args.length := by rw [← e2, snapL_eq, hlen]; simp
  have hlent : ∀ b, lent (fun _ => .undef) β F b → F b := fun b hb => by
    rcases hb with hb | ⟨q, s, ⟨y, hy, hoy⟩, _⟩
    · exact hb
    · cases hr : q.2 with
      | nil => rw [hr] at hy; simp [node] at hy; subst hy; simp [AV.isOwn] at hoy
      | cons j r => rw [hr] at hy; simp [node, kids] at hy
  have hsn' : RepL (fun _ => none) F w args (0, []) 0 (xs.map a.eval) := hsn.tr _ (fun b hb => ⟨hlent b hb, rfl⟩) (fun i c r y hc hy ho => by
    rw [noOwn_pure (pureL_mem hp (List.mem_of_getElem? hc)) hy] at ho; cases ho) (fun _ _ _ _ => rfl)
  refine upon_enter' (f := f) (args := (xs.map a.eval).toArray) ?_ ((call_coreFZ (hc hA) hp hr hi hl hsn' d).mono fun en w' ⟨v, β', F', he, hi'⟩ => ⟨v, he, hK _ _ ⟨β', F', hi'⟩⟩)
  simp [execOp, ho, fnCall, resolve, Deferred.ofValue, Act.eval, invoke, run_callFunc_body hf]
/-- A nil slice is an empty one. -/
theorem Weak.nils_sl : Weak .nils (.sl [] 0) := by
  refine ⟨fun β F w p v hv => ?_, fun r z hz ho => ?_⟩
  · simp only [Rep] at hv ⊢
    exact ⟨Eq.refl _, none, 0, hv, Nat.le_refl _, fun h => absurd (Eq.refl _) h⟩
  · cases r with
    | nil => simp [node] at hz; subst hz; simp [AV.isOwn] at ho
    | cons j r => simp [node, kids] at hz
end
end Go.Av
namespace Go.Av
open Go
theorem setL_app : ∀ (c z A B : List AV), z.length = c.length → setL (A ++ (z ++ B)) A.length c = A ++ (c ++ B)
  | [], z, A, B, h => by
    have : z = [] := List.eq_nil_of_length_eq_zero (by simpa using h)
    subst this; rfl
  | x :: c, [], A, B, h => by simp at h
  | x :: c, y :: z, A, B, h => by
    simp only [setL]
    rw [List.set_append_right _ _ (Nat.le_refl _), Nat.sub_self]
    have := setL_app c z (A ++ [x]) B (by simpa using h)
    simp only [List.length_append, List.length_singleton, List.append_assoc, List.singleton_append] at this
    simpa using this
end Go.Av
namespace Go.Av
open Go
/-- Kind, polynomial, two steps, two numbers. -/
abbrev PcT := Int × List (Int × Int) × Int × Int × Int × Int
end Go.Av
namespace Go.Av
open Go
theorem sls_noRef : ∀ (L : List (List Int)), noRefL (sls L) = true := fun L => by
  induction L with
  | nil => rfl
  | cons c L ih => unfold sls at ih ⊢; simp [noRefL, noRef, ic_noRef, ih]
end Go.Av
namespace Go.Av
open Go Go.Proofs Go.Sort
set_option maxRecDepth 10000


theorem isVar_c (vars v : Int) : ACall Try.prog 137 [.int .i64 vars, .int .i64 v] [] (.bool (inR v 1 vars)) [] := by
  refine ACall.intro Try.func137 rfl (N := 8) rfl (by decide) (by simp) ?_
  refine a_seq ?_
  refine a_region ?_
  refine r_val (v := .bool _) (v_assign (.inl rfl) (noOwn_flat rfl)) rfl rfl (by decide) ?_
  refine r_nil ?_
  refine a_seq ?_
  refine a_region ?_
  refine r_val (v := .int _ _) (v_move (.inl rfl) (noOwn_flat rfl)) rfl rfl (by decide) ?_
  refine r_val (v := .int _ _) (v_move (.inl rfl) (noOwn_flat rfl)) rfl rfl (by decide) ?_
  refine r_new (v := .bool _) (q_call (vs := [.int _ _, .int _ _, .int _ _]) (args := [.int .i64 _, .int .i64 _, .int .i64 _]) hb84 ⟨.inl rfl, .inl rfl, .inl rfl, trivial⟩ rfl (fun hA => within_c v 1 vars) rfl rfl) rfl rfl (by decide) ?_
  refine r_val (v := .bool _) (v_assign (.inl rfl) (noOwn_flat rfl)) rfl rfl (by decide) ?_
  refine r_nil ?_
  refine a_ret ?_
  refine ret1 Try.results137 (by decide) (by decide) (Weak.of_eq (bool_eq ?_)) rfl Leaves.nil
  rfl
end Go.Av
namespace Go.Av
open Go Go.Proofs Go.Sort
set_option maxRecDepth 10000



end Go.Av
namespace Go.Av
open Go Go.Proofs Go.Sort
set_option maxRecDepth 10000



end Go.Av
namespace Go.Av
open Go Go.Proofs Go.Sort
set_option maxRecDepth 10000



end Go.Av
namespace Go.Av
open Go Go.Proofs Go.Sort
set_option maxRecDepth 10000



end Go.Av
namespace Go.Av
open Go Go.Proofs Go.Sort
set_option maxRecDepth 10000



end Go.Av
namespace Go.Av
open Go Go.Proofs Go.Sort
set_option maxRecDepth 10000



end Go.Av
namespace Go.Av
open Go Go.Proofs Go.Sort
set_option maxRecDepth 10000



end Go.Av
namespace Go.Av
open Go Go.Proofs Go.Sort
set_option maxRecDepth 10000
theorem hb94 : hasBody Try.prog 94 = true := by kernel_rfl

end Go.Av
namespace Go.Av
open Go Go.Proofs Go.Sort
set_option maxRecDepth 10000



end Go.Av
namespace Go.Av
open Go Go.Proofs Go.Sort
set_option maxRecDepth 10000



end Go.Av
namespace Go.Av
open Go Go.Proofs Go.Sort
set_option maxRecDepth 10000



end Go.Av
namespace Go.Av
open Go Go.Proofs Go.Sort
set_option maxRecDepth 10000



end Go.Av
namespace Go.Av
open Go Go.Proofs Go.Sort
set_option maxRecDepth 10000



end Go.Av
namespace Go.Av
open Go Go.Proofs Go.Sort
set_option maxRecDepth 10000


end Go.Av
namespace Go.Av
open Go Go.Proofs Go.Sort
set_option maxRecDepth 10000



end Go.Av
namespace Go.Av
open Go Go.Proofs Go.Sort
set_option maxRecDepth 10000



end Go.Av
namespace Go.Av
open Go Go.Proofs Go.Sort
set_option maxRecDepth 10000


end Go.Av
namespace Go.Av
open Go Go.Proofs Go.Sort
set_option maxRecDepth 10000



end Go.Av
namespace Go.Av
open Go Go.Proofs Go.Sort
set_option maxRecDepth 10000



end Go.Av
namespace Go.Av
open Go Go.Proofs Go.Sort
set_option maxRecDepth 10000



end Go.Av
namespace Go.Av
open Go Go.Proofs Go.Sort
set_option maxRecDepth 10000



end Go.Av
namespace Go.Av
open Go
theorem Weak.oslL {sz n n' : Nat} {cap : Option Nat} {cs ds : List AV} (h : WeakL cs ds) (hd : noRefL ds = true) (hn : n = n') : Weak (.osl sz cs n cap) (.osl sz ds n' none) := by
  subst hn
  refine ⟨fun β F w p v hr => ?_, fun r z hz ho => ?_⟩
  · simp only [Rep] at hr ⊢
    rcases hr with ⟨h1, h2, h3, h4, _⟩ | ⟨h0, b, capv, arr, t, h1, h2, h3, _, h5, h6, h7⟩
    · subst h3
      cases ds with
      | nil => exact .inl ⟨h1, h2, _root_.rfl, h4, fun c hc => by cases hc⟩
      | cons d ds => exact h.elim
    · exact .inr ⟨hd, b, capv, arr, t, h1, h2, h3, (fun c hc => by cases hc), h5, h6, h.repL h7⟩
  · cases r with
    | nil => exact ⟨.osl sz cs n cap, _root_.rfl, _root_.rfl⟩
    | cons i r =>
      simp only [node, kids] at hz ⊢
      cases hi : ds[i]? with
      | none => rw [hi] at hz; cases hz
      | some d =>
        rw [hi] at hz
        obtain ⟨c, z', h1, h2, h3⟩ := h.node hi hz ho
        exact ⟨z', by rw [h1]; exact h2, h3⟩
end Go.Av
namespace Go.Av
open Go Go.Proofs Go.Sort
set_option maxRecDepth 10000



end Go.Av
namespace Go.Av
open Go Go.Proofs Go.Sort
set_option maxRecDepth 10000



end Go.Av
namespace Go.Av
open Go Go.Proofs Go.Sort
set_option maxRecDepth 10000


end Go.Av
namespace Go.Av
open Go Go.Proofs Go.Sort
set_option maxRecDepth 10000



end Go.Av
namespace Go.Av
open Go Go.Proofs Go.Sort
set_option maxRecDepth 10000



end Go.Av
namespace Go.Av
open Go Go.Proofs Go.Sort
set_option maxRecDepth 10000



end Go.Av
namespace Go.Av
open Go Go.Proofs Go.Sort
set_option maxRecDepth 10000
theorem hb191 : hasBody Try.prog 191 = true := by kernel_rfl
theorem hb200 : hasBody Try.prog 200 = true := by kernel_rfl
theorem hb206 : hasBody Try.prog 206 = true := by kernel_rfl

theorem isNaNi_c (a : Int) : ACall Try.prog 221 [.int .i64 a] [] (.bool false) [] := by
  refine ACall.intro Try.func221 rfl (N := 6) rfl (by decide) (by simp) ?_
  refine a_seq ?_
  refine a_region ?_
  refine r_val (v := .bool _) (v_assign (.inl rfl) (noOwn_flat rfl)) rfl rfl (by decide) ?_
  refine r_nil ?_
  refine a_seq ?_
  refine a_region ?_
  refine r_val (v := .int _ _) (v_move (.inl rfl) (noOwn_flat rfl)) rfl rfl (by decide) ?_
  refine r_val (v := .int _ _) (v_move (.inl rfl) (noOwn_flat rfl)) rfl rfl (by decide) ?_
  refine r_val (v := .bool _) (v_neq (.inl rfl) (.inl rfl)) rfl rfl (by decide) ?_
  refine r_val (v := .bool _) (v_assign (.inl rfl) (noOwn_flat rfl)) rfl rfl (by decide) ?_
  refine r_nil ?_
  refine a_ret ?_
  refine ret1 Try.results221 (by decide) (by decide) (Weak.of_eq (bool_eq ?_)) rfl Leaves.nil
  simp

theorem lessi_c (a b : Int) : ACall Try.prog 206 [.int .i64 a, .int .i64 b] [] (.bool (decide (a < b))) [] := by
  refine ACall.intro Try.func206 rfl (N := 17) rfl (by decide) (by simp) ?_
  refine a_seq ?_
  refine a_region ?_
  refine r_val (v := .bool _) (v_assign (.inl rfl) (noOwn_flat rfl)) rfl rfl (by decide) ?_
  refine r_nil ?_
  refine a_seq ?_
  refine a_region ?_
  refine r_val (v := .int _ _) (v_move (.inl rfl) (noOwn_flat rfl)) rfl rfl (by decide) ?_
  refine r_new (v := .bool _) (q_call (vs := [.int _ _]) (args := [.int .i64 _]) hb221 ⟨.inl rfl, trivial⟩ rfl (fun hA => isNaNi_c _) rfl rfl) rfl rfl (by decide) ?_
  refine r_val (v := .bool _) (v_move (.inl rfl) (noOwn_flat rfl)) rfl rfl (by decide) ?_
  refine r_gval (v := .int _ _) (v_move (.inl rfl) (noOwn_flat rfl)) rfl rfl rfl (by decide) (.inl ⟨_, rfl, rfl⟩) rfl (by decide) ?_
  refine r_guard (v := .bool _) (q_call (vs := [.int _ _]) (args := [.int .i64 _]) hb221 ⟨.inr ⟨_, rfl, fun h => h⟩, trivial⟩ rfl (fun hA => isNaNi_c _) rfl rfl) rfl rfl rfl (by decide) (.inl ⟨_, rfl, rfl⟩) rfl (by decide) ?_
  refine r_gval (v := .bool _) (v_not (.inr ⟨_, rfl, fun h => h⟩)) rfl rfl rfl (by decide) (.inl ⟨_, rfl, rfl⟩) rfl (by decide) ?_
  refine r_val (v := .bool _) (v_pick (.inl rfl) (.inr ⟨_, rfl, fun h h2 => by simp_all⟩) (.inl rfl)) rfl rfl (by decide) ?_
  refine r_val (v := .bool _) (v_move (.inl rfl) (noOwn_flat rfl)) rfl rfl (by decide) ?_
  refine r_gval (v := .int _ _) (v_move (.inl rfl) (noOwn_flat rfl)) rfl rfl rfl (by decide) (.inl ⟨_, rfl, rfl⟩) rfl (by decide) ?_
  refine r_gval (v := .int _ _) (v_move (.inl rfl) (noOwn_flat rfl)) rfl rfl rfl (by decide) (.inl ⟨_, rfl, rfl⟩) rfl (by decide) ?_
  refine r_gval (v := .bool _) (v_lss (.inr ⟨_, rfl, fun h => h⟩) (.inr ⟨_, rfl, fun h => h⟩)) rfl rfl rfl (by decide) (.inl ⟨_, rfl, rfl⟩) rfl (by decide) ?_
  refine r_val (v := .bool _) (v_pick (.inl rfl) (.inl rfl) (.inr ⟨_, rfl, fun h h2 => by simp_all⟩)) rfl rfl (by decide) ?_
  refine r_val (v := .bool _) (v_assign (.inl rfl) (noOwn_flat rfl)) rfl rfl (by decide) ?_
  refine r_nil ?_
  refine a_ret ?_
  refine ret1 Try.results206 (by decide) (by decide) (Weak.of_eq (bool_eq ?_)) rfl Leaves.nil
  simp

theorem insertO_c (d : Array Int) (n a b : Nat) (hd : d.size = n) (hab : a ≤ b ∧ b ≤ n) (hn : n ≤ 4611686018427387904) : ACall Try.prog 200 [.rsl (INH, []) 1 0 n none, .int .i64 ((a : Nat) : Int), .int .i64 ((b : Nat) : Int)] [.osl 1 (acells d) n none] (.tup []) [.osl 1 (acells (insertionSort (fun x y : Int => decide (x < y)) d a b)) n none] := by
  refine ACall.intro Try.func200 rfl (N := 49) rfl (by decide) (by simp) ?_
  refine a_seq ?_
  refine a_region ?_
  refine r_val (v := .int _ _) (v_move (.inl rfl) (noOwn_flat rfl)) rfl rfl (by decide) ?_
  refine r_val (v := .int _ _) (v_add (.inl rfl) (.inl rfl) (fun _ => by omega)) rfl rfl (by decide) ?_
  refine r_val (v := .int _ _) (v_assign (.inl rfl) (noOwn_flat rfl)) rfl rfl (by decide) ?_
  refine r_nil ?_
  refine a_block ?_
  refine a_loop (X := (Nat × Array Int)) (fun x => look [(0, .rsl (INH, []) 1 0 n none), (1, .int .i64 ((a : Nat) : Int)), (2, .int .i64 ((b : Nat) : Int)), (6, .int .i64 ((x.1 : Nat) : Int)), (INH, .osl 1 (acells x.2) n none)]) (fun x => a + 1 ≤ x.1 ∧ x.2.size = n ∧ insOuter (fun x y : Int => decide (x < y)) a b x.1 x.2 = insertionSort (fun x y : Int => decide (x < y)) d a b) (fun x => b - x.1) (a + 1, d) (ent_look ⟨Weak.of_eq rfl, Weak.of_eq rfl, Weak.of_eq rfl, Weak.of_eq (int_eq (by omega)), Weak.of_eq rfl, trivial⟩) ⟨Nat.le_refl _, hd, rfl⟩ (fun x hG => ?_)
  obtain ⟨g1, g2, g3⟩ := hG
  refine a_seq ?_
  refine a_seq ?_
  refine a_region ?_
  refine r_val (v := .int _ _) (v_move (.inl rfl) (noOwn_flat rfl)) rfl rfl (by decide) ?_
  refine r_val (v := .int _ _) (v_move (.inl rfl) (noOwn_flat rfl)) rfl rfl (by decide) ?_
  refine r_val (v := .bool _) (v_lss (.inl rfl) (.inl rfl)) rfl rfl (by decide) ?_
  refine r_nil ?_
  refine a_cond rfl (fun ht12 => ?_) (fun ht12 => ?_)
  ·
    skip
    refine a_skip ?_
    refine a_seq ?_
    refine a_block ?_
    refine a_seq ?_
    have hxb : x.1 < b := (by simpa using ht12)
    refine a_region ?_
    refine r_val (v := .int _ _) (v_move (.inl rfl) (noOwn_flat rfl)) rfl rfl (by decide) ?_
    refine r_val (v := .int _ _) (v_assign (.inl rfl) (noOwn_flat rfl)) rfl rfl (by decide) ?_
    refine r_nil ?_
    refine a_block ?_
    refine a_loop (X := (Nat × Array Int)) (fun y => look [(0, .rsl (INH, []) 1 0 n none), (1, .int .i64 ((a : Nat) : Int)), (2, .int .i64 ((b : Nat) : Int)), (6, .int .i64 ((x.1 : Nat) : Int)), (7, .int .i64 ((y.1 : Nat) : Int)), (INH, .osl 1 (acells y.2) n none)]) (fun y => a ≤ y.1 ∧ y.1 ≤ x.1 ∧ y.2.size = n ∧ insInner (fun x y : Int => decide (x < y)) a y.1 y.2 = insInner (fun x y : Int => decide (x < y)) a x.1 x.2) (fun y => y.1) (x.1, x.2) (ent_look ⟨Weak.of_eq rfl, Weak.of_eq rfl, Weak.of_eq rfl, Weak.of_eq rfl, Weak.of_eq rfl, Weak.of_eq rfl, trivial⟩) ⟨by omega, Nat.le_refl _, g2, rfl⟩ (fun y hG => ?_)
    obtain ⟨k1, k2, k3, k4⟩ := hG
    refine a_seq ?_
    refine a_seq ?_
    refine a_region_any mixed (by kernel_rfl) ?_
    refine y_val (v := .int _ _) (v_move (.inl rfl) (noOwn_flat rfl)) rfl rfl (by decide) (by kernel_rfl) ?_
    refine y_val (v := .int _ _) (v_move (.inl rfl) (noOwn_flat rfl)) rfl rfl (by decide) (by kernel_rfl) ?_
    refine y_val (v := .bool _) (v_gtr (.inl rfl) (.inl rfl)) rfl rfl (by decide) (by kernel_rfl) ?_
    refine y_val (v := .bool _) (v_move (.inl rfl) (noOwn_flat rfl)) rfl rfl (by decide) (by kernel_rfl) ?_
    refine y_guard (v := .rsl _ _ _ _ _) (v_move (.inl rfl) (noOwn_flat rfl)).quiet rfl rfl rfl (by decide) (.inl ⟨_, rfl, rfl⟩) rfl (by decide) (by kernel_rfl) ?_
    refine y_guard (v := .int _ _) (v_move (.inl rfl) (noOwn_flat rfl)).quiet rfl rfl rfl (by decide) (.inl ⟨_, rfl, rfl⟩) rfl (by decide) (by kernel_rfl) ?_
    refine y_guard (v := .rp _ _) (v_indexAddr_rsl0 es22 (.inr ⟨_, rfl, fun h => h⟩) (.inr ⟨_, rfl, fun h => h⟩) (fun hA => by simp at hA; omega)).quiet rfl rfl rfl (by decide) (.inl ⟨_, rfl, rfl⟩) rfl (by decide) (by kernel_rfl) ?_
    refine y_guard (v := .int .i64 y.2[y.1]!) (v_load_rp1 ta3 (.inr ⟨_, rfl, fun h => h⟩) rfl (fun hA => by simp at hA; rw [Nat.mul_one]; exact acells_get (by omega)) rfl).quiet rfl rfl rfl (by decide) (.inl ⟨_, rfl, rfl⟩) rfl (by decide) (by kernel_rfl) ?_
    refine y_guard (v := .rsl _ _ _ _ _) (v_move (.inl rfl) (noOwn_flat rfl)).quiet rfl rfl rfl (by decide) (.inl ⟨_, rfl, rfl⟩) rfl (by decide) (by kernel_rfl) ?_
    refine y_guard (v := .int _ _) (v_move (.inl rfl) (noOwn_flat rfl)).quiet rfl rfl rfl (by decide) (.inl ⟨_, rfl, rfl⟩) rfl (by decide) (by kernel_rfl) ?_
    refine y_guard (v := .int _ _) (v_sub (.inr ⟨_, rfl, fun h => h⟩) (.inl rfl) (fun hA => by simp at hA; omega)).quiet rfl rfl rfl (by decide) (.inl ⟨_, rfl, rfl⟩) rfl (by decide) (by kernel_rfl) ?_
    refine y_guard (v := .rp _ _) (v_indexAddr_rsl0 es22 (.inr ⟨_, rfl, fun h => h⟩) (.inr ⟨_, rfl, fun h => h⟩) (fun hA => by simp at hA; omega)).quiet rfl rfl rfl (by decide) (.inl ⟨_, rfl, rfl⟩) rfl (by decide) (by kernel_rfl) ?_
    refine y_guard (v := .int .i64 y.2[y.1 - 1]!) (v_load_rp1 ta3 (.inr ⟨_, rfl, fun h => h⟩) rfl (fun hA => by simp at hA; rw [show ((y.1 : Int) - 1).toNat = y.1 - 1 by omega, Nat.mul_one]; exact acells_get (by omega)) rfl).quiet rfl rfl rfl (by decide) (.inl ⟨_, rfl, rfl⟩) rfl (by decide) (by kernel_rfl) ?_
    refine y_guard (v := .bool _) (q_call (vs := [.int _ _, .int _ _]) (args := [.int .i64 _, .int .i64 _]) hb206 ⟨.inr ⟨_, rfl, fun h => h⟩, .inr ⟨_, rfl, fun h => h⟩, trivial⟩ rfl (fun hA => lessi_c _ _) rfl rfl) rfl rfl rfl (by decide) (.inl ⟨_, rfl, rfl⟩) rfl (by decide) (by kernel_rfl) ?_
    refine y_val (v := .bool _) (v_pick (.inl rfl) (.inr ⟨_, rfl, fun h h2 => by simp_all⟩) (.inl rfl)) rfl rfl (by decide) (by kernel_rfl) ?_
    refine y_nil ?_
    refine a_cond rfl (fun ht30 => ?_) (fun ht30 => ?_)
    ·
      skip
      refine a_skip ?_
      refine a_seq ?_
      refine a_block ?_
      have hjl : a < y.1 ∧ (fun x y : Int => decide (x < y)) y.2[y.1]! y.2[y.1 - 1]! = true := (by simpa using ht30)
      obtain ⟨hj, hl⟩ := hjl
      have hp1 : y.1 * 1 + 1 ≤ (acells y.2).length := (by rw [acells_length]; omega)
      have hp2 : (y.1 - 1) * 1 + 1 ≤ ((acells y.2).set (y.1 * 1) (.int .i64 y.2[(y.1 - 1)]!)).length := (by rw [List.length_set, acells_length]; omega)
      have hset : ((acells y.2).set (y.1 * 1) (.int .i64 y.2[(y.1 - 1)]!)).set ((y.1 - 1) * 1) (.int .i64 y.2[y.1]!) = acells (swp y.2 y.1 (y.1 - 1)) := (by rw [Nat.mul_one, Nat.mul_one]; exact acells_swp _ _ _)
      refine a_region_w [(33, true), (34, true), (35, true), (36, true), (37, true), (38, true), (39, true), (40, true), (41, true), (42, true), (43, true), (44, true), (45, true), (46, true), (47, true), (INH, false), (48, true), (INH, false)] mixed (by kernel_rfl) ?_
      refine w_val (v := .rsl _ _ _ _ _) (v_move (.inl rfl) (noOwn_flat rfl)) rfl rfl (by decide) rfl (by kernel_rfl) ?_
      refine w_val (v := .int _ _) (v_move (.inl rfl) (noOwn_flat rfl)) rfl rfl (by decide) rfl (by kernel_rfl) ?_
      refine w_val (v := .rsl _ _ _ _ _) (v_move (.inl rfl) (noOwn_flat rfl)) rfl rfl (by decide) rfl (by kernel_rfl) ?_
      refine w_val (v := .int _ _) (v_move (.inl rfl) (noOwn_flat rfl)) rfl rfl (by decide) rfl (by kernel_rfl) ?_
      refine w_val (v := .int .i64 ((y.1 - 1 : Nat) : Int)) ((v_sub (.inl rfl) (.inl rfl) (fun _ => by omega)).cast (int_eq (by omega))) rfl rfl (by decide) rfl (by kernel_rfl) ?_
      refine w_val (v := .rsl _ _ _ _ _) (v_move (.inl rfl) (noOwn_flat rfl)) rfl rfl (by decide) rfl (by kernel_rfl) ?_
      refine w_val (v := .int _ _) (v_move (.inl rfl) (noOwn_flat rfl)) rfl rfl (by decide) rfl (by kernel_rfl) ?_
      refine w_val (v := .int .i64 ((y.1 - 1 : Nat) : Int)) ((v_sub (.inl rfl) (.inl rfl) (fun _ => by omega)).cast (int_eq (by omega))) rfl rfl (by decide) rfl (by kernel_rfl) ?_
      refine w_val (v := .rp _ _) (v_indexAddr_rsl0 es22 (.inl rfl) (.inl rfl) (fun _ => by omega)) rfl rfl (by decide) rfl (by kernel_rfl) ?_
      refine w_val (v := .int .i64 y.2[y.1 - 1]!) (v_load_rp1 ta3 (.inl rfl) rfl (fun _ => by rw [Nat.mul_one]; exact acells_get (by omega)) rfl) rfl rfl (by decide) rfl (by kernel_rfl) ?_
      refine w_val (v := .rsl _ _ _ _ _) (v_move (.inl rfl) (noOwn_flat rfl)) rfl rfl (by decide) rfl (by kernel_rfl) ?_
      refine w_val (v := .int _ _) (v_move (.inl rfl) (noOwn_flat rfl)) rfl rfl (by decide) rfl (by kernel_rfl) ?_
      refine w_val (v := .rp _ _) (v_indexAddr_rsl0 es22 (.inl rfl) (.inl rfl) (fun _ => by omega)) rfl rfl (by decide) rfl (by kernel_rfl) ?_
      refine w_val (v := .int .i64 y.2[y.1]!) (v_load_rp1 ta3 (.inl rfl) rfl (fun _ => by rw [Nat.mul_one]; exact acells_get (by omega)) rfl) rfl rfl (by decide) rfl (by kernel_rfl) ?_
      refine w_val (v := .rp _ _) (v_indexAddr_rsl0 es22 (.inl rfl) (.inl rfl) (fun _ => by omega)) rfl rfl (by decide) rfl (by kernel_rfl) ?_
      refine w_store (v := .int _ _) (y' := .osl _ _ _ _) rfl rfl rfl ta3 (.inl rfl) (.inl rfl) rfl rfl rfl rfl rfl rfl hp1 (by decide) rfl rfl rfl (by kernel_rfl) ?_
      refine w_val (v := .rp _ _) (v_indexAddr_rsl0 es22 (.inl rfl) (.inl rfl) (fun _ => by omega)) rfl rfl (by decide) rfl (by kernel_rfl) ?_
      refine w_store (v := .int _ _) (y' := .osl _ _ _ _) rfl rfl rfl ta3 (.inl rfl) (.inl rfl) rfl rfl rfl rfl rfl rfl hp2 (by decide) rfl (congrArg (fun c => AV.osl 1 c n none) hset) rfl (by kernel_rfl) ?_
      refine w_nil ?_
      refine a_pre (ent_look (L := [(0, .rsl _ _ _ _ _), (1, .int _ _), (2, .int _ _), (6, .int _ _), (7, .int _ _), (INH, .osl _ _ _ _)]) ⟨Weak.rfl, Weak.rfl, Weak.rfl, Weak.rfl, Weak.rfl, Weak.rfl, trivial⟩) ?_
      refine a_region ?_
      refine r_val (v := .int _ _) (v_move (.inl rfl) (noOwn_flat rfl)) rfl rfl (by decide) ?_
      refine r_val (v := .int _ _) (v_sub (.inl rfl) (.inl rfl) (fun _ => by omega)) rfl rfl (by decide) ?_
      refine r_val (v := .int _ _) (v_assign (.inl rfl) (noOwn_flat rfl)) rfl rfl (by decide) ?_
      refine r_nil ?_
      refine ⟨(y.1 - 1, swp y.2 y.1 (y.1 - 1)), ent_look ⟨Weak.of_eq rfl, Weak.of_eq rfl, Weak.of_eq rfl, Weak.of_eq rfl, Weak.of_eq (int_eq (by omega)), Weak.of_eq rfl, trivial⟩, ⟨by omega, by omega, by rw [swp_size]; exact k3, by rw [← k4, insInner_more hj hl]⟩, by omega⟩
    ·
      skip
      refine a_exit ?_
      have hdone : insInner (fun x y : Int => decide (x < y)) a y.1 y.2 = y.2 := insInner_stop (by simpa using ht30)
      refine a_region ?_
      refine r_val (v := .int _ _) (v_move (.inl rfl) (noOwn_flat rfl)) rfl rfl (by decide) ?_
      refine r_val (v := .int _ _) (v_add (.inl rfl) (.inl rfl) (fun _ => by omega)) rfl rfl (by decide) ?_
      refine r_val (v := .int _ _) (v_assign (.inl rfl) (noOwn_flat rfl)) rfl rfl (by decide) ?_
      refine r_nil ?_
      refine ⟨(x.1 + 1, y.2), ent_look ⟨Weak.of_eq rfl, Weak.of_eq rfl, Weak.of_eq rfl, Weak.of_eq (int_eq (by omega)), Weak.of_eq rfl, trivial⟩, ⟨by omega, k3, by rw [← g3, insOuter.eq_1 _ _ _ x.1, if_pos hxb, ← k4, hdone]⟩, by omega⟩
  ·
    skip
    refine a_exit ?_
    refine ret0_look Try.results200 (by decide) ?_ rfl
    exact Weak.of_eq (osl_eq (by rw [← g3, insOuter.eq_1 _ _ _ x.1, if_neg (by simpa using ht12)]))

theorem pdqO_c (d : Array Int) (n : Nat) (lim : Int) (hd : d.size = n) (hn : n ≤ 12) : ACall Try.prog 191 [.rsl (INH, []) 1 0 n none, .int .i64 ((0 : Nat) : Int), .int .i64 ((n : Nat) : Int), .int .i64 lim] [.osl 1 (acells d) n none] (.tup []) [.osl 1 (acells (insertionSort (fun x y : Int => decide (x < y)) d 0 n)) n none] := by
  refine ACall.intro Try.func191 rfl (N := 134) rfl (by decide) (by simp) ?_
  refine a_seq ?_
  refine a_region ?_
  refine r_val (v := .bool _) (v_assign (.inl rfl) (noOwn_flat rfl)) rfl rfl (by decide) ?_
  refine r_nil ?_
  refine a_seq ?_
  refine a_region ?_
  refine r_val (v := .bool _) (v_assign (.inl rfl) (noOwn_flat rfl)) rfl rfl (by decide) ?_
  refine r_nil ?_
  refine a_block ?_
  refine a_loop (X := Unit) (fun _u => look [(0, .rsl (INH, []) 1 0 n none), (1, .int .i64 ((0 : Nat) : Int)), (2, .int .i64 ((n : Nat) : Int)), (3, .int .i64 lim), (8, .bool true), (9, .bool true), (INH, .osl 1 (acells d) n none)]) (fun _u => True) (fun _u => 0) () (ent_look ⟨Weak.of_eq rfl, Weak.of_eq rfl, Weak.of_eq rfl, Weak.of_eq rfl, Weak.of_eq rfl, Weak.of_eq rfl, Weak.of_eq rfl, trivial⟩) trivial (fun _u hG => ?_)
  refine a_block ?_
  refine a_seq ?_
  refine a_region ?_
  refine r_val (v := .int _ _) (v_move (.inl rfl) (noOwn_flat rfl)) rfl rfl (by decide) ?_
  refine r_val (v := .int _ _) (v_move (.inl rfl) (noOwn_flat rfl)) rfl rfl (by decide) ?_
  refine r_val (v := .int _ _) (v_sub (.inl rfl) (.inl rfl) (fun _ => by omega)) rfl rfl (by decide) ?_
  refine r_val (v := .int _ _) (v_assign (.inl rfl) (noOwn_flat rfl)) rfl rfl (by decide) ?_
  refine r_nil ?_
  refine a_seq ?_
  refine a_seq ?_
  refine a_region ?_
  refine r_val (v := .int _ _) (v_move (.inl rfl) (noOwn_flat rfl)) rfl rfl (by decide) ?_
  refine r_val (v := .bool _) (v_leq (.inl rfl) (.inl rfl)) rfl rfl (by decide) ?_
  refine r_nil ?_
  refine a_cond rfl (fun ht23 => ?_) (fun ht23 => ?_)
  ·
    skip
    refine a_seq ?_
    refine a_region ?_
    refine r_val (v := .rsl _ _ _ _ _) (v_move (.inl rfl) (noOwn_flat rfl)) rfl rfl (by decide) ?_
    refine r_val (v := .int _ _) (v_move (.inl rfl) (noOwn_flat rfl)) rfl rfl (by decide) ?_
    refine r_val (v := .int _ _) (v_move (.inl rfl) (noOwn_flat rfl)) rfl rfl (by decide) ?_
    refine r_step rfl (o_callIO (q := (INH, [])) (vs := [.rsl _ _ _ _ _, .int _ _, .int _ _]) (args := [.rsl (INH, []) _ _ _ _, .int .i64 _, .int .i64 _]) (x0 := .osl _ _ _ _) (x1 := .osl _ _ _ _) (res := .tup []) rfl hb200 rfl (by decide) ⟨.inl rfl, .inl rfl, .inl rfl, trivial⟩ rfl rfl (insertO_c d n 0 n hd (by omega) (by omega)) rfl rfl rfl (ac_noSh _) (ac_noRef _) (Nat.le_of_ble_eq_true rfl) (by decide) rfl) ?_
    refine r_nil ?_
    refine a_ret ?_
    refine ret0_look Try.results191 (by decide) ?_ rfl
    exact Weak.of_eq rfl
  ·
    skip
    refine a_skip ?_
    refine a_seq ?_
    refine a_seq ?_
    exfalso
    simp at ht23; omega

theorem sortO_c (d : Array Int) (n : Nat) (hd : d.size = n) (hn : n ≤ 12) : ACall Try.prog 173 [.rsl (INH, []) 1 0 n none] [.osl 1 (acells d) n none] (.tup []) [.osl 1 (acells (insertionSort (fun x y : Int => decide (x < y)) d 0 n)) n none] := by
  have hbl : bitsLen n ≤ 61 := (bitsLen_le_iff _ _).2 (by omega)
  refine ACall.intro Try.func173 rfl (N := 11) rfl (by decide) (by simp) ?_
  refine a_seq ?_
  refine a_region ?_
  refine r_val (v := .rsl _ _ _ _ _) (v_move (.inl rfl) (noOwn_flat rfl)) rfl rfl (by decide) ?_
  refine r_val (v := .int _ _) (v_len_rsl sl22 (.inl rfl)) rfl rfl (by decide) ?_
  refine r_val (v := .int _ _) (v_assign (.inl rfl) (noOwn_flat rfl)) rfl rfl (by decide) ?_
  refine r_nil ?_
  refine a_region ?_
  refine r_val (v := .rsl _ _ _ _ _) (v_move (.inl rfl) (noOwn_flat rfl)) rfl rfl (by decide) ?_
  refine r_val (v := .int _ _) (v_move (.inl rfl) (noOwn_flat rfl)) rfl rfl (by decide) ?_
  refine r_val (v := .int _ _) (v_move (.inl rfl) (noOwn_flat rfl)) rfl rfl (by decide) ?_
  refine r_val (v := .int .u64 ((n : Nat) : Int)) ((v_conv iss3 uni198 (.inl rfl) (fun _ => IntWalk.u64_in _ (by omega))).cast (int_eq rfl)) rfl rfl (by decide) ?_
  refine r_new (v := .int _ _) (q_call (vs := [.int _ _]) (args := [.int .u64 ((_ : Nat) : Int)]) hb192 ⟨.inl rfl, trivial⟩ rfl (fun hA => len_c n (by omega)) rfl rfl) rfl rfl (by decide) ?_
  refine r_step rfl (o_callIO (q := (INH, [])) (vs := [.rsl _ _ _ _ _, .int _ _, .int _ _, .int _ _]) (args := [.rsl (INH, []) _ _ _ _, .int .i64 _, .int .i64 _, .int .i64 _]) (x0 := .osl _ _ _ _) (x1 := .osl _ _ _ _) (res := .tup []) rfl hb191 rfl (by decide) ⟨.inl rfl, .inl rfl, .inl rfl, .inl rfl, trivial⟩ rfl rfl (pdqO_c d n _ hd hn) rfl rfl rfl (ac_noSh _) (ac_noRef _) (Nat.le_of_ble_eq_true rfl) (by decide) rfl) ?_
  refine r_nil ?_
  refine ret0_look Try.results173 (by decide) ?_ rfl
  exact Weak.of_eq rfl
end Go.Av
namespace Go.Av
open Go Go.Proofs Go.Sort
set_option maxRecDepth 10000



end Go.Av
namespace Go.Av
open Go Go.Proofs Go.Sort
set_option maxRecDepth 10000



end Go.Av
namespace Go.Av
open Go Go.Proofs Go.Sort
set_option maxRecDepth 10000



end Go.Av
namespace Go.Av
open Go Go.Sort
theorem insInner_size {lt : Int → Int → Bool} {a : Nat} : ∀ (j : Nat) (d : Array Int), (insInner lt a j d).size = d.size
  | 0, d => rfl
  | j + 1, d => by
    by_cases h : a < j + 1 ∧ lt d[j + 1]! d[j + 1 - 1]! = true
    · rw [← insInner_more h.1 h.2, Nat.add_sub_cancel, insInner_size j, swp_size]
    · rw [insInner_stop (fun ha => by
        cases hl : lt d[j + 1]! d[j + 1 - 1]! with
        | false => rfl
        | true => exact absurd ⟨ha, hl⟩ h)]
theorem insOuter_size {lt : Int → Int → Bool} {a b : Nat} : ∀ (m i : Nat) (d : Array Int), b - i ≤ m → (insOuter lt a b i d).size = d.size
  | 0, i, d, hm => by rw [insOuter.eq_1, if_neg (by omega)]
  | m + 1, i, d, hm => by
    rw [insOuter.eq_1]
    split
    · rw [insOuter_size m (i + 1) _ (by omega), insInner_size]
    · rfl
theorem insertionSort_size {lt : Int → Int → Bool} {a b : Nat} {d : Array Int} : (insertionSort lt d a b).size = d.size := insOuter_size _ (a + 1) d (Nat.le_refl _)
end Go.Av
namespace Go.Av
open Go Go.Proofs Go.Sort
set_option maxRecDepth 10000



end Go.Av
namespace Go.Av
open Go Go.Proofs Go.Sort
set_option maxRecDepth 10000
theorem hb173 : hasBody Try.prog 173 = true := by kernel_rfl

theorem absI_c (x : Int) (h : -4611686018427387904 ≤ x ∧ x ≤ 4611686018427387904) : ACall Try.prog 102 [.int .i64 x] [] (.int .i64 (max x (-x))) [] := by
  refine ACall.intro Try.func102 rfl (N := 7) rfl (by decide) (by simp) ?_
  refine a_seq ?_
  refine a_region ?_
  refine r_val (v := .int _ _) (v_assign (.inl rfl) (noOwn_flat rfl)) rfl rfl (by decide) ?_
  refine r_nil ?_
  refine a_seq ?_
  refine a_region ?_
  refine r_val (v := .int _ _) (v_move (.inl rfl) (noOwn_flat rfl)) rfl rfl (by decide) ?_
  refine r_val (v := .int _ _) (v_move (.inl rfl) (noOwn_flat rfl)) rfl rfl (by decide) ?_
  refine r_val (v := .int _ _) (v_neg (.inl rfl) (fun _ => by omega)) rfl rfl (by decide) ?_
  refine r_val (v := .int _ _) (v_max (.inl rfl) (.inl rfl)) rfl rfl (by decide) ?_
  refine r_val (v := .int _ _) (v_assign (.inl rfl) (noOwn_flat rfl)) rfl rfl (by decide) ?_
  refine r_nil ?_
  refine a_ret ?_
  refine ret1 Try.results102 (by decide) (by decide) (Weak.of_eq (int_eq ?_)) rfl Leaves.nil
  rfl

theorem varsOf1_c (p : List Int) (hp : p.length ≤ 12) (hs : SmI p) : ACall Try.prog 139 [.sl [.sl (icells p) p.length] 1] [] (.osl 1 (icells (dedN (insertionSort (fun x y : Int => decide (x < y)) (p.map fun x => max x (-x)).toArray 0 (p.map fun x => max x (-x)).length) (p.map fun x => max x (-x)).length)) (dedN (insertionSort (fun x y : Int => decide (x < y)) (p.map fun x => max x (-x)).toArray 0 (p.map fun x => max x (-x)).length) (p.map fun x => max x (-x)).length).length none) [] := by
  refine ACall.intro Try.func139 rfl (N := 31) rfl (by decide) (by simp) ?_
  refine a_seq ?_
  refine a_region ?_
  refine r_val (v := .nils) (v_assign (.inl rfl) (noOwn_flat rfl)) rfl rfl (by decide) ?_
  refine r_nil ?_
  refine a_seq ?_
  refine a_region ?_
  refine r_val (v := .nils) (v_assign (.inl rfl) (noOwn_flat rfl)) rfl rfl (by decide) ?_
  refine r_nil ?_
  refine a_seq ?_
  refine a_seq ?_
  refine a_region ?_
  refine r_val (v := .sl _ _) (v_move (.inl rfl) (noOwn_flat rfl)) rfl rfl (by decide) ?_
  refine r_val (v := .int _ _) (v_len_sl sl33 (.inl rfl)) rfl rfl (by decide) ?_
  refine r_val (v := .int _ _) (v_move (.inl rfl) (noOwn_flat rfl)) rfl rfl (by decide) ?_
  refine r_nil ?_
  refine a_block ?_
  refine a_pre (ent_nil (t := 3) (sz := 1) (cap := none) (.inl rfl) (fun _ h => by cases h)) ?_
  refine a_loop (X := Nat) (fun q => look [(3, .osl 1 (icells ((p.take (q * p.length)).map fun x => max x (-x))) ((p.take (q * p.length)).map fun x => max x (-x)).length none), (8, .sl [.sl (icells p) p.length] 1), (9, .int .i64 ((1 : Nat) : Int)), (10, .int .i64 ((q : Nat) : Int))]) (fun q => q ≤ 1) (fun q => 1 - q) 0 (ent_look ⟨Weak.osl (by simp [icells]) (by simp), Weak.of_eq rfl, Weak.of_eq rfl, Weak.of_eq rfl, trivial⟩) (by omega) (fun q hG => ?_)
  refine a_seq ?_
  refine a_region ?_
  refine r_val (v := .bool _) (v_lss (.inl rfl) (.inl rfl)) rfl rfl (by decide) ?_
  refine r_nil ?_
  refine a_seq ?_
  refine a_cond rfl (fun ht11 => ?_) (fun ht11 => ?_)
  ·
    skip
    refine a_skip ?_
    refine a_seq ?_
    refine a_block ?_
    refine a_seq ?_
    have hq0 : q = 0 := (by simp at ht11; omega)
    refine a_region ?_
    refine r_val (v := .pp _ _) (v_indexAddr_sl es33 (.inl rfl) (.inl rfl) (fun _ => ⟨by omega, by omega, by simp⟩)) rfl rfl (by decide) ?_
    refine r_val (v := .sl (icells p) p.length) (v_load_pp ta22 (.inl rfl) (fun _ => by rw [hq0]; rfl) rfl) rfl rfl (by decide) ?_
    refine r_val (v := .sl _ _) (v_assign (.inl rfl) (noOwn_flat rfl)) rfl rfl (by decide) ?_
    refine r_nil ?_
    refine a_seq ?_
    refine a_region ?_
    refine r_val (v := .sl _ _) (v_move (.inl rfl) (noOwn_flat rfl)) rfl rfl (by decide) ?_
    refine r_val (v := .int _ _) (v_len_sl sl22 (.inl rfl)) rfl rfl (by decide) ?_
    refine r_val (v := .int _ _) (v_move (.inl rfl) (noOwn_flat rfl)) rfl rfl (by decide) ?_
    refine r_nil ?_
    refine a_block ?_
    refine a_loop (X := Nat) (fun i => look [(3, .osl 1 (icells ((p.take i).map fun x => max x (-x))) ((p.take i).map fun x => max x (-x)).length none), (8, .sl [.sl (icells p) p.length] 1), (9, .int .i64 ((1 : Nat) : Int)), (10, .int .i64 ((q : Nat) : Int)), (14, .sl (icells p) p.length), (15, .int .i64 ((p.length : Nat) : Int)), (16, .int .i64 ((i : Nat) : Int))]) (fun i => i ≤ p.length) (fun i => p.length - i) 0 (ent_look ⟨Weak.osl (by rw [hq0, Nat.zero_mul]) (by rw [hq0, Nat.zero_mul]), Weak.of_eq rfl, Weak.of_eq rfl, Weak.of_eq rfl, Weak.of_eq rfl, Weak.of_eq rfl, Weak.of_eq rfl, trivial⟩) (Nat.zero_le _) (fun i hG => ?_)
    refine a_seq ?_
    refine a_region ?_
    refine r_val (v := .bool _) (v_lss (.inl rfl) (.inl rfl)) rfl rfl (by decide) ?_
    refine r_nil ?_
    refine a_seq ?_
    refine a_cond rfl (fun ht17 => ?_) (fun ht17 => ?_)
    ·
      skip
      refine a_skip ?_
      refine a_seq ?_
      refine a_block ?_
      refine a_seq ?_
      have hi : i < p.length := (by simp at ht17; omega)
      have hti : p.take (i + 1) = p.take i ++ [gd p i] := (by unfold gd; rw [List.take_succ_eq_append_getElem hi, List.getElem?_eq_getElem hi]; rfl)
      have hsx := hs i
      refine a_region ?_
      refine r_val (v := .pp _ _) (v_indexAddr_sl es22 (.inl rfl) (.inl rfl) (fun _ => ⟨by omega, by omega, icells_ne hi⟩)) rfl rfl (by decide) ?_
      refine r_val (v := .int .i64 (gd p i)) (v_load_pp ta3 (.inl rfl) (fun _ => by rw [Nat.mul_one]; exact icells_get (gd_get hi)) rfl) rfl rfl (by decide) ?_
      refine r_val (v := .int _ _) (v_assign (.inl rfl) (noOwn_flat rfl)) rfl rfl (by decide) ?_
      refine r_nil ?_
      refine a_region ?_
      refine r_val (v := .rsl _ _ _ _ _) (v_move (.inl rfl) (noOwn_flat rfl)) rfl rfl (by decide) ?_
      refine r_val (v := .int _ _) (v_move (.inl rfl) (noOwn_flat rfl)) rfl rfl (by decide) ?_
      refine r_new (v := .int _ _) (q_call (vs := [.int _ _]) (args := [.int .i64 _]) hb102 ⟨.inl rfl, trivial⟩ rfl (fun hA => absI_c _ (by omega)) rfl rfl) rfl rfl (by decide) ?_
      refine r_new (v := .osl _ _ _ _) (q_sliceLit (n := 1) (parts := [(0, .tmp 22)]) lt22 rfl rfl rfl rfl) rfl rfl (by decide) ?_
      refine r_pre (ent_reloc_sl (t := 20) rfl rfl) ?_
      refine r_step rfl (o_append rfl ap22 rfl (by decide) (by decide) rfl (src_lit (.inl rfl) rfl rfl rfl) rfl (by simp [icells_length]) (by simp; omega)) ?_
      refine r_val (v := .rsl _ _ _ _ _) (v_assign (.inl rfl) (noOwn_flat rfl)) rfl rfl (by decide) ?_
      refine r_pre (ent_reloc_sl (t := 3) rfl rfl) ?_
      refine r_nil ?_
      refine a_region ?_
      refine r_val (v := .int _ _) (v_add (.inl rfl) (.inl rfl) (fun _ => by omega)) rfl rfl (by decide) ?_
      refine r_val (v := .int _ _) (v_move (.inl rfl) (noOwn_flat rfl)) rfl rfl (by decide) ?_
      refine r_nil ?_
      refine ⟨i + 1, ent_look ⟨Weak.osl (by rw [hti, List.map_append, icells_append]; rfl) (by rw [hti, List.map_append, List.length_append]; rfl), Weak.of_eq rfl, Weak.of_eq rfl, Weak.of_eq rfl, Weak.of_eq rfl, Weak.of_eq rfl, Weak.of_eq (int_eq (by omega)), trivial⟩, (by omega), by omega⟩
    ·
      skip
      refine a_exit ?_
      refine a_region ?_
      refine r_val (v := .int _ _) (v_add (.inl rfl) (.inl rfl) (fun _ => by omega)) rfl rfl (by decide) ?_
      refine r_val (v := .int _ _) (v_move (.inl rfl) (noOwn_flat rfl)) rfl rfl (by decide) ?_
      refine r_nil ?_
      refine ⟨q + 1, ent_look ⟨Weak.osl (by rw [show i = p.length by simp at ht17; omega, hq0, Nat.zero_add, Nat.one_mul]) (by rw [show i = p.length by simp at ht17; omega, hq0, Nat.zero_add, Nat.one_mul]), Weak.of_eq rfl, Weak.of_eq rfl, Weak.of_eq (int_eq (by omega)), trivial⟩, (by omega), by omega⟩
  ·
    skip
    refine a_exit ?_
    refine a_seq ?_
    have hq1 : q = 1 := (by simp at ht11; omega)
    refine a_pre (ent_eq (t := 3) (v' := .osl 1 (acells (p.map fun x => max x (-x)).toArray) (p.map fun x => max x (-x)).length none) (Weak.osl (by rw [hq1, Nat.one_mul, List.take_of_length_le (Nat.le_refl _)]; rfl) (by rw [hq1, Nat.one_mul, List.take_of_length_le (Nat.le_refl _)]))) ?_
    refine a_region ?_
    refine r_val (v := .rsl _ _ _ _ _) (v_move (.inl rfl) (noOwn_flat rfl)) rfl rfl (by decide) ?_
    refine r_step rfl (o_callIO (q := (3, [])) (vs := [.rsl _ _ _ _ _]) (args := [.rsl (INH, []) _ _ _ _]) (x0 := .osl _ _ _ _) (x1 := .osl _ _ _ _) (res := .tup []) rfl hb173 rfl (by decide) ⟨.inl rfl, trivial⟩ rfl rfl (sortO_c (p.map fun x => max x (-x)).toArray (p.map fun x => max x (-x)).length (by simp) (by simp; omega)) rfl rfl rfl (ac_noSh _) (ac_noRef _) (Nat.le_of_ble_eq_true rfl) (by decide) rfl) ?_
    refine r_nil ?_
    refine a_seq ?_
    refine a_region ?_
    refine r_val (v := .rsl _ _ _ _ _) (v_move (.inl rfl) (noOwn_flat rfl)) rfl rfl (by decide) ?_
    refine r_step rfl (o_callIO (q := (3, [])) (vs := [.rsl _ _ _ _ _]) (args := [.rsl (INH, []) _ _ _ _]) (x0 := .osl _ _ _ _) (x1 := .undef) (res := .osl _ _ _ _) rfl hb174 rfl (by decide) ⟨.inl rfl, trivial⟩ rfl rfl (compact_c (insertionSort (fun x y : Int => decide (x < y)) (p.map fun x => max x (-x)).toArray 0 (p.map fun x => max x (-x)).length) (p.map fun x => max x (-x)).length (by rw [insertionSort_size]; simp) (by simp; omega)) rfl (ic_noSh _) (ic_noRef _) rfl rfl (Nat.le_of_ble_eq_true rfl) (by decide) rfl) ?_
    refine r_val (v := .rsl _ _ _ _ _) (v_assign (.inl rfl) (noOwn_flat rfl)) rfl rfl (by decide) ?_
    refine r_pre (ent_reloc_sl (t := 2) rfl rfl) ?_
    refine r_nil ?_
    refine a_ret ?_
    refine ret1 Try.results139 (by decide) (by decide) (Weak.osl ?_ ?_) rfl Leaves.nil
    all_goals rfl
end Go.Av
namespace Go.Av
open Go Go.Proofs Go.Sort
set_option maxRecDepth 10000



end Go.Av
namespace Go.Av
open Go Go.Proofs Go.Sort
set_option maxRecDepth 10000



end Go.Av
namespace Go.Av
open Go Go.Sort
theorem ltI_swo : SWO (fun x y : Int => decide (x < y)) :=
  ⟨fun x => by simp, fun x y z h1 h2 => by simp at *; omega, fun x y z h1 h2 => by simp at *; omega⟩
/-- What a sorted and compacted list is. -/
theorem ins_facts (L : List Int) : (∀ x, x ∈ dedN (insertionSort (fun x y : Int => decide (x < y)) L.toArray 0 L.length) L.length ↔ x ∈ L) ∧ (dedN (insertionSort (fun x y : Int => decide (x < y)) L.toArray 0 L.length) L.length).Nodup := by
  obtain ⟨⟨h1, _, h3⟩, h4⟩ := insertionSort_holds (lt := fun x y : Int => decide (x < y)) ltI_swo L.toArray 0 L.length (Nat.zero_le _) (by simp)
  have hsz : (insertionSort (fun x y : Int => decide (x < y)) L.toArray 0 L.length).size = L.length := by rw [h1]; simp
  have hm : ∀ x, x ∈ (insertionSort (fun x y : Int => decide (x < y)) L.toArray 0 L.length).toList ↔ x ∈ L := fun x => by
    have := h3.mem_iff (a := x)
    rw [show (insertionSort (fun x y : Int => decide (x < y)) L.toArray 0 L.length).extract 0 L.length = insertionSort (fun x y : Int => decide (x < y)) L.toArray 0 L.length by
      conv => lhs; rw [← hsz]
      simp [insertionSort_size]] at this
    rw [this]; simp
  refine ⟨fun x => ?_, ?_⟩
  · rw [← hm x, dedN_mem]
    constructor
    · rintro ⟨j, hj, rfl⟩
      rw [getElem!_pos _ j (by omega)]; exact Array.getElem_mem_toList _
    · intro hx
      obtain ⟨j, hj, he⟩ := List.getElem_of_mem hx
      have hj' : j < (insertionSort (fun x y : Int => decide (x < y)) L.toArray 0 L.length).size := by simpa using hj
      exact ⟨j, by omega, by rw [getElem!_pos _ j hj']; simpa using he⟩
  · exact (dedN_strict ltI_swo (fun x y a b => by simp at a b; omega) h4 (Nat.le_refl _)).imp fun h e => by simp at h; omega
end Go.Av
namespace Go.Av
open Go Go.Proofs Go.Sort
set_option maxRecDepth 10000



end Go.Av
namespace Go.Av
open Go Go.Proofs Go.Sort
set_option maxRecDepth 10000



end Go.Av
namespace Go.Av
open Go
/-- 1 for a true clause, -1 for a false one, and 0 for an open one. -/
def cval (c a : List Int) : Int := if c.any (fun l => decide (l ∈ a)) then 1 else if c.all (fun l => decide (-l ∈ a)) then -1 else 0
def cvP (c a : List Int) (i : Nat) : Int := if (c.take i).all (fun l => decide (-l ∈ a)) then -1 else 0
theorem cvP_succ {c a : List Int} {i : Nat} (h : i < c.length) : cvP c a (i + 1) = if -(gd c i) ∈ a then cvP c a i else 0 := by
  unfold cvP
  rw [take_gd h, List.all_append]
  by_cases hx : -(gd c i) ∈ a <;> simp [hx]
theorem cval_one {c a : List Int} {i : Nat} (h : i < c.length) (hx : gd c i ∈ a) : cval c a = 1 := by
  unfold cval
  rw [if_pos]
  rw [List.any_eq_true]; exact ⟨gd c i, gd_mem h, by simpa using hx⟩
theorem cval_end {c a : List Int} {i : Nat} (hi : c.length ≤ i) (h : ∀ j, j < i → ¬ gd c j ∈ a) : cval c a = cvP c a i := by
  unfold cval cvP
  rw [if_neg, List.take_of_length_le hi]
  intro hc
  obtain ⟨x, hx, hxa⟩ := List.any_eq_true.1 hc
  obtain ⟨j, hj, rfl⟩ := mem_gd hx
  exact h j (by omega) (by simpa using hxa)
theorem clB_of {vars : Int} {c : List Int} (hv : 0 ≤ vars ∧ vars ≤ 12) (hs : Strict c) (hl : ∀ x ∈ c, litB vars x = true) : clB vars c = true := by
  refine clB_true (inR_spec.2 hv) fun j hj => ?_
  unfold okC
  rw [hl _ (gd_mem hj), Bool.true_and, Bool.or_eq_true, decide_eq_true_iff, decide_eq_true_iff]
  rcases Nat.eq_zero_or_pos j with h | h
  · exact .inl h
  · right
    have := List.pairwise_iff_getElem.1 hs (j - 1) j (by omega) hj (by omega)
    unfold gd
    rw [List.getElem?_eq_getElem hj, List.getElem?_eq_getElem (by omega)]
    simpa using this
theorem wo_new {a : List Int} {l : Int} (h1 : ¬ l ∈ a) (h2 : ¬ -l ∈ a) : woS a (vr l) = a := by
  unfold woS
  rw [List.filter_eq_self]
  intro x hx
  simp only [decide_eq_true_eq]
  intro e
  rcases vr_same e with rfl | rfl
  · exact h1 hx
  · exact h2 hx
theorem set_new {vars : Int} {a : List Int} {l : Int} (hc : clB vars a = true) (hl : litB vars l = true) (h1 : ¬ l ∈ a) (h2 : ¬ -l ∈ a) : clB vars (setLit a l) = true ∧ (setLit a l).length = a.length + 1 := by
  unfold setLit
  rw [wo_new h1 h2]
  refine ⟨clB_of (clB_spec hc).1 (strict_put (clB_strict hc) fun y hy e => ?_) fun x hx => ?_, putL_length _ _⟩
  · rcases vr_same e with rfl | rfl
    · exact h1 hy
    · exact h2 hy
  · rcases mem_putL.1 hx with rfl | hx
    · exact hl
    · exact (clB_mem hc hx).1
end Go.Av
namespace Go.Av
open Go Go.Proofs Go.Sort
set_option maxRecDepth 10000
theorem idx_mem (xs : List Int) (v : Int) : decide (fidx (fun i => decide (v = gd xs i)) xs.length ≥ 0) = decide (v ∈ xs) := by
  rw [show decide (fidx (fun i => decide (v = gd xs i)) xs.length ≥ 0) = decide (0 ≤ fidx (fun i => decide (v = gd xs i)) xs.length) from rfl, fidx_any, Bool.eq_iff_iff, decide_eq_true_iff]
  constructor
  · intro h
    obtain ⟨i, hi, hx⟩ := List.any_eq_true.1 h
    rw [of_decide_eq_true hx]; exact gd_mem (by simpa using hi)
  · intro h
    obtain ⟨j, hj, hx⟩ := mem_gd h
    exact List.any_eq_true.2 ⟨j, by simpa using hj, by simp [hx]⟩
theorem hb114 : hasBody Try.prog 114 = true := by kernel_rfl
theorem hb144 : hasBody Try.prog 144 = true := by kernel_rfl
theorem hb151 : hasBody Try.prog 151 = true := by kernel_rfl
theorem index_c (xs : List Int) (v : Int) (hl : xs.length ≤ 1048576) : ACall Try.prog 151 [.sl (icells xs) xs.length, .int .i64 v] [] (.int .i64 (fidx (fun i => decide (v = gd xs i)) xs.length)) [] := by
  refine ACall.intro Try.func151 rfl (N := 19) rfl (by decide) (by simp) ?_
  refine a_seq ?_
  refine a_region ?_
  refine r_val (v := .int _ _) (v_assign (.inl rfl) (noOwn_flat rfl)) rfl rfl (by decide) ?_
  refine r_nil ?_
  refine a_seq ?_
  refine a_seq ?_
  refine a_region ?_
  refine r_val (v := .sl _ _) (v_move (.inl rfl) (noOwn_flat rfl)) rfl rfl (by decide) ?_
  refine r_val (v := .int _ _) (v_len_sl sl22 (.inl rfl)) rfl rfl (by decide) ?_
  refine r_val (v := .int _ _) (v_move (.inl rfl) (noOwn_flat rfl)) rfl rfl (by decide) ?_
  refine r_nil ?_
  refine a_block ?_
  refine a_loop (X := Nat) (fun i => look [(0, .sl (icells xs) xs.length), (1, .int .i64 v), (7, .int .i64 ((xs.length : Nat) : Int)), (8, .int .i64 ((i : Nat) : Int))]) (fun i => i ≤ xs.length ∧ ∀ j, j < i → decide (v = gd xs j) = false) (fun i => xs.length - i) 0 (ent_look ⟨Weak.of_eq rfl, Weak.of_eq rfl, Weak.of_eq rfl, Weak.of_eq rfl, trivial⟩) ⟨Nat.zero_le _, fun j h => by omega⟩ (fun i hG => ?_)
  obtain ⟨h1, h2⟩ := hG
  refine a_seq ?_
  refine a_region ?_
  refine r_val (v := .bool _) (v_lss (.inl rfl) (.inl rfl)) rfl rfl (by decide) ?_
  refine r_nil ?_
  refine a_seq ?_
  refine a_cond rfl (fun ht9 => ?_) (fun ht9 => ?_)
  ·
    skip
    refine a_skip ?_
    refine a_seq ?_
    refine a_block ?_
    refine a_seq ?_
    have hi : i < xs.length := (by simp at ht9; omega)
    refine a_region ?_
    refine r_val (v := .int _ _) (v_move (.inl rfl) (noOwn_flat rfl)) rfl rfl (by decide) ?_
    refine r_val (v := .int _ _) (v_assign (.inl rfl) (noOwn_flat rfl)) rfl rfl (by decide) ?_
    refine r_nil ?_
    refine a_seq ?_
    refine a_region ?_
    refine r_val (v := .int _ _) (v_move (.inl rfl) (noOwn_flat rfl)) rfl rfl (by decide) ?_
    refine r_val (v := .sl _ _) (v_move (.inl rfl) (noOwn_flat rfl)) rfl rfl (by decide) ?_
    refine r_val (v := .int _ _) (v_move (.inl rfl) (noOwn_flat rfl)) rfl rfl (by decide) ?_
    refine r_val (v := .pp _ _) (v_indexAddr_sl es22 (.inl rfl) (.inl rfl) (fun _ => ⟨by omega, by omega, icells_ne hi⟩)) rfl rfl (by decide) ?_
    refine r_val (v := .int .i64 (gd xs i)) (v_load_pp ta3 (.inl rfl) (fun _ => by rw [Nat.mul_one]; exact icells_get (gd_get hi)) rfl) rfl rfl (by decide) ?_
    refine r_val (v := .bool _) (v_eql (.inl rfl) (.inl rfl)) rfl rfl (by decide) ?_
    refine r_nil ?_
    refine a_cond rfl (fun ht16 => ?_) (fun ht16 => ?_)
    ·
      skip
      refine a_seq ?_
      refine a_region ?_
      refine r_val (v := .int _ _) (v_move (.inl rfl) (noOwn_flat rfl)) rfl rfl (by decide) ?_
      refine r_val (v := .int _ _) (v_assign (.inl rfl) (noOwn_flat rfl)) rfl rfl (by decide) ?_
      refine r_nil ?_
      refine a_ret ?_
      refine ret1 Try.results151 (by decide) (by decide) (Weak.of_eq (int_eq ?_)) rfl Leaves.nil
      exact (fidx_found (p := fun j => decide (v = gd xs j)) hi (by simpa using ht16) h2).symm
    ·
      skip
      refine a_skip ?_
      refine a_region ?_
      refine r_val (v := .int _ _) (v_add (.inl rfl) (.inl rfl) (fun _ => by omega)) rfl rfl (by decide) ?_
      refine r_val (v := .int _ _) (v_move (.inl rfl) (noOwn_flat rfl)) rfl rfl (by decide) ?_
      refine r_nil ?_
      refine ⟨i + 1, ent_look ⟨Weak.of_eq rfl, Weak.of_eq rfl, Weak.of_eq rfl, Weak.of_eq (int_eq (by omega)), trivial⟩, ⟨by omega, ok_stepF (p := fun j => decide (v = gd xs j)) h2 (by simpa using ht16)⟩, by omega⟩
  ·
    skip
    refine a_exit ?_
    refine a_seq ?_
    refine a_region ?_
    refine r_val (v := .int _ _) (v_assign (.inl rfl) (noOwn_flat rfl)) rfl rfl (by decide) ?_
    refine r_nil ?_
    refine a_ret ?_
    refine ret1 Try.results151 (by decide) (by decide) (Weak.of_eq (int_eq ?_)) rfl Leaves.nil
    simp at ht9; exact (fidx_none (p := fun j => decide (v = gd xs j)) (fun j hj => h2 j (by omega))).symm

theorem contains_c (xs : List Int) (v : Int) (hl : xs.length ≤ 1048576) : ACall Try.prog 114 [.sl (icells xs) xs.length, .int .i64 v] [] (.bool (decide (v ∈ xs))) [] := by
  refine ACall.intro Try.func114 rfl (N := 9) rfl (by decide) (by simp) ?_
  refine a_seq ?_
  refine a_region ?_
  refine r_val (v := .bool _) (v_assign (.inl rfl) (noOwn_flat rfl)) rfl rfl (by decide) ?_
  refine r_nil ?_
  refine a_seq ?_
  refine a_region ?_
  refine r_val (v := .sl _ _) (v_move (.inl rfl) (noOwn_flat rfl)) rfl rfl (by decide) ?_
  refine r_val (v := .int _ _) (v_move (.inl rfl) (noOwn_flat rfl)) rfl rfl (by decide) ?_
  refine r_new (v := .int _ _) (q_call (vs := [.sl _ _, .int _ _]) (args := [.sl _ _, .int .i64 _]) hb151 ⟨.inl rfl, .inl rfl, trivial⟩ rfl (fun hA => index_c xs v hl) rfl rfl) rfl rfl (by decide) ?_
  refine r_val (v := .bool _) (v_geq (.inl rfl) (.inl rfl)) rfl rfl (by decide) ?_
  refine r_val (v := .bool _) (v_assign (.inl rfl) (noOwn_flat rfl)) rfl rfl (by decide) ?_
  refine r_nil ?_
  refine a_ret ?_
  refine ret1 Try.results114 (by decide) (by decide) (Weak.of_eq (bool_eq ?_)) rfl Leaves.nil
  exact idx_mem xs v

theorem iClv_c (c a : List Int) (hs : SmI c) (hc : c.length ≤ 1048576) (ha : a.length ≤ 1048576) : ACall Try.prog 144 [.sl (icells c) c.length, .sl (icells a) a.length] [] (.int .i64 (cval c a)) [] := by
  refine ACall.intro Try.func144 rfl (N := 26) rfl (by decide) (by simp) ?_
  refine a_seq ?_
  refine a_region ?_
  refine r_val (v := .int _ _) (v_assign (.inl rfl) (noOwn_flat rfl)) rfl rfl (by decide) ?_
  refine r_nil ?_
  refine a_seq ?_
  refine a_region ?_
  refine r_val (v := .int _ _) (v_assign (.inl rfl) (noOwn_flat rfl)) rfl rfl (by decide) ?_
  refine r_nil ?_
  refine a_seq ?_
  refine a_seq ?_
  refine a_region ?_
  refine r_val (v := .sl _ _) (v_move (.inl rfl) (noOwn_flat rfl)) rfl rfl (by decide) ?_
  refine r_val (v := .int _ _) (v_len_sl sl22 (.inl rfl)) rfl rfl (by decide) ?_
  refine r_val (v := .int _ _) (v_move (.inl rfl) (noOwn_flat rfl)) rfl rfl (by decide) ?_
  refine r_nil ?_
  refine a_block ?_
  refine a_loop (X := Nat) (fun i => look [(1, .sl (icells a) a.length), (5, .int .i64 (cvP c a i)), (8, .sl (icells c) c.length), (9, .int .i64 ((c.length : Nat) : Int)), (10, .int .i64 ((i : Nat) : Int))]) (fun i => i ≤ c.length ∧ ∀ j, j < i → ¬ gd c j ∈ a) (fun i => c.length - i) 0 (ent_look ⟨Weak.of_eq rfl, Weak.of_eq rfl, Weak.of_eq rfl, Weak.of_eq rfl, Weak.of_eq rfl, trivial⟩) ⟨Nat.zero_le _, fun j h => by omega⟩ (fun i hG => ?_)
  obtain ⟨g1, g2⟩ := hG
  have hsi := hs i
  refine a_seq ?_
  refine a_region ?_
  refine r_val (v := .bool _) (v_lss (.inl rfl) (.inl rfl)) rfl rfl (by decide) ?_
  refine r_nil ?_
  refine a_seq ?_
  refine a_cond rfl (fun ht11 => ?_) (fun ht11 => ?_)
  ·
    skip
    refine a_skip ?_
    refine a_seq ?_
    refine a_block ?_
    refine a_seq ?_
    have hi : i < c.length := (by simp at ht11; omega)
    refine a_region ?_
    refine r_val (v := .pp _ _) (v_indexAddr_sl es22 (.inl rfl) (.inl rfl) (fun _ => ⟨by omega, by omega, icells_ne hi⟩)) rfl rfl (by decide) ?_
    refine r_val (v := .int .i64 (gd c i)) (v_load_pp ta3 (.inl rfl) (fun _ => by rw [Nat.mul_one]; exact icells_get (gd_get hi)) rfl) rfl rfl (by decide) ?_
    refine r_val (v := .int _ _) (v_assign (.inl rfl) (noOwn_flat rfl)) rfl rfl (by decide) ?_
    refine r_nil ?_
    refine a_block ?_
    refine a_seq ?_
    refine a_region ?_
    refine r_val (v := .sl _ _) (v_move (.inl rfl) (noOwn_flat rfl)) rfl rfl (by decide) ?_
    refine r_val (v := .int _ _) (v_move (.inl rfl) (noOwn_flat rfl)) rfl rfl (by decide) ?_
    refine r_new (v := .bool _) (q_call (vs := [.sl _ _, .int _ _]) (args := [.sl _ _, .int .i64 _]) hb114 ⟨.inl rfl, .inl rfl, trivial⟩ rfl (fun hA => contains_c a _ ha) rfl rfl) rfl rfl (by decide) ?_
    refine r_val (v := .bool _) (v_assign (.inl rfl) (noOwn_flat rfl)) rfl rfl (by decide) ?_
    refine r_nil ?_
    refine a_cond rfl (fun ht14 => ?_) (fun ht14 => ?_)
    ·
      skip
      refine a_seq ?_
      refine a_region ?_
      refine r_val (v := .int _ _) (v_assign (.inl rfl) (noOwn_flat rfl)) rfl rfl (by decide) ?_
      refine r_nil ?_
      refine a_ret ?_
      refine ret1 Try.results144 (by decide) (by decide) (Weak.of_eq (int_eq ?_)) rfl Leaves.nil
      exact (cval_one hi (by simpa using ht14)).symm
    ·
      skip
      refine a_seq ?_
      refine a_region ?_
      refine r_val (v := .sl _ _) (v_move (.inl rfl) (noOwn_flat rfl)) rfl rfl (by decide) ?_
      refine r_val (v := .int _ _) (v_move (.inl rfl) (noOwn_flat rfl)) rfl rfl (by decide) ?_
      refine r_val (v := .int _ _) (v_neg (.inl rfl) (fun _ => by omega)) rfl rfl (by decide) ?_
      refine r_new (v := .bool _) (q_call (vs := [.sl _ _, .int _ _]) (args := [.sl _ _, .int .i64 _]) hb114 ⟨.inl rfl, .inl rfl, trivial⟩ rfl (fun hA => contains_c a _ ha) rfl rfl) rfl rfl (by decide) ?_
      refine r_val (v := .bool _) (v_not (.inl rfl)) rfl rfl (by decide) ?_
      refine r_val (v := .bool _) (v_assign (.inl rfl) (noOwn_flat rfl)) rfl rfl (by decide) ?_
      refine r_nil ?_
      refine a_cond rfl (fun ht18 => ?_) (fun ht18 => ?_)
      ·
        skip
        refine a_region ?_
        refine r_val (v := .int _ _) (v_assign (.inl rfl) (noOwn_flat rfl)) rfl rfl (by decide) ?_
        refine r_nil ?_
        refine a_region ?_
        refine r_val (v := .int _ _) (v_add (.inl rfl) (.inl rfl) (fun _ => by omega)) rfl rfl (by decide) ?_
        refine r_val (v := .int _ _) (v_move (.inl rfl) (noOwn_flat rfl)) rfl rfl (by decide) ?_
        refine r_nil ?_
        refine ⟨i + 1, ent_look ⟨Weak.of_eq rfl, Weak.of_eq (int_eq (by rw [cvP_succ hi, if_neg (by simpa using ht18)])), Weak.of_eq rfl, Weak.of_eq rfl, Weak.of_eq (int_eq (by omega)), trivial⟩, ⟨by omega, fun j h1 => by rcases Nat.lt_or_ge j i with h | h; exact g2 j h; (obtain rfl : j = i := by omega); simpa using ht14⟩, by omega⟩
      ·
        skip
        refine a_skip ?_
        refine a_region ?_
        refine r_val (v := .int _ _) (v_add (.inl rfl) (.inl rfl) (fun _ => by omega)) rfl rfl (by decide) ?_
        refine r_val (v := .int _ _) (v_move (.inl rfl) (noOwn_flat rfl)) rfl rfl (by decide) ?_
        refine r_nil ?_
        refine ⟨i + 1, ent_look ⟨Weak.of_eq rfl, Weak.of_eq (int_eq (by rw [cvP_succ hi, if_pos (by simpa using ht18)])), Weak.of_eq rfl, Weak.of_eq rfl, Weak.of_eq (int_eq (by omega)), trivial⟩, ⟨by omega, fun j h1 => by rcases Nat.lt_or_ge j i with h | h; exact g2 j h; (obtain rfl : j = i := by omega); simpa using ht14⟩, by omega⟩
  ·
    skip
    refine a_exit ?_
    refine a_seq ?_
    have hcv := cval_end (c := c) (a := a) (i := i) (by simp at ht11; omega) g2
    refine a_region ?_
    refine r_val (v := .int _ _) (v_move (.inl rfl) (noOwn_flat rfl)) rfl rfl (by decide) ?_
    refine r_val (v := .int _ _) (v_assign (.inl rfl) (noOwn_flat rfl)) rfl rfl (by decide) ?_
    refine r_nil ?_
    refine a_ret ?_
    refine ret1 Try.results144 (by decide) (by decide) (Weak.of_eq (int_eq ?_)) rfl Leaves.nil
    exact hcv.symm

theorem sClv_c (c a : List Int) (hs : SmI c) (hc : c.length ≤ 1048576) (ha : a.length ≤ 1048576) : ACall Try.prog 141 [.sl (icells c) c.length, .sl (icells a) a.length] [] (.int .i64 (cval c a)) [] := by
  refine ACall.intro Try.func141 rfl (N := 28) rfl (by decide) (by simp) ?_
  refine a_seq ?_
  refine a_region ?_
  refine r_val (v := .int _ _) (v_assign (.inl rfl) (noOwn_flat rfl)) rfl rfl (by decide) ?_
  refine r_nil ?_
  refine a_seq ?_
  refine a_region ?_
  refine r_val (v := .int _ _) (v_assign (.inl rfl) (noOwn_flat rfl)) rfl rfl (by decide) ?_
  refine r_nil ?_
  refine a_seq ?_
  refine a_seq ?_
  refine a_region ?_
  refine r_val (v := .int _ _) (v_assign (.inl rfl) (noOwn_flat rfl)) rfl rfl (by decide) ?_
  refine r_nil ?_
  refine a_block ?_
  refine a_loop (X := Nat) (fun i => look [(0, .sl (icells c) c.length), (1, .sl (icells a) a.length), (5, .int .i64 (cvP c a i)), (6, .int .i64 ((i : Nat) : Int))]) (fun i => i ≤ c.length ∧ ∀ j, j < i → ¬ gd c j ∈ a) (fun i => c.length - i) 0 (ent_look ⟨Weak.of_eq rfl, Weak.of_eq rfl, Weak.of_eq rfl, Weak.of_eq rfl, trivial⟩) ⟨Nat.zero_le _, fun j h => by omega⟩ (fun i hG => ?_)
  obtain ⟨g1, g2⟩ := hG
  have hsi := hs i
  refine a_seq ?_
  refine a_seq ?_
  refine a_region ?_
  refine r_val (v := .int _ _) (v_move (.inl rfl) (noOwn_flat rfl)) rfl rfl (by decide) ?_
  refine r_val (v := .sl _ _) (v_move (.inl rfl) (noOwn_flat rfl)) rfl rfl (by decide) ?_
  refine r_val (v := .int _ _) (v_len_sl sl22 (.inl rfl)) rfl rfl (by decide) ?_
  refine r_val (v := .bool _) (v_lss (.inl rfl) (.inl rfl)) rfl rfl (by decide) ?_
  refine r_nil ?_
  refine a_cond rfl (fun ht10 => ?_) (fun ht10 => ?_)
  ·
    skip
    refine a_skip ?_
    refine a_seq ?_
    refine a_block ?_
    refine a_seq ?_
    refine a_seq ?_
    have hi : i < c.length := (by simp at ht10; omega)
    refine a_region ?_
    refine r_val (v := .sl _ _) (v_move (.inl rfl) (noOwn_flat rfl)) rfl rfl (by decide) ?_
    refine r_val (v := .sl _ _) (v_move (.inl rfl) (noOwn_flat rfl)) rfl rfl (by decide) ?_
    refine r_val (v := .int _ _) (v_move (.inl rfl) (noOwn_flat rfl)) rfl rfl (by decide) ?_
    refine r_val (v := .pp _ _) (v_indexAddr_sl es22 (.inl rfl) (.inl rfl) (fun _ => ⟨by omega, by omega, icells_ne hi⟩)) rfl rfl (by decide) ?_
    refine r_val (v := .int .i64 (gd c i)) (v_load_pp ta3 (.inl rfl) (fun _ => by rw [Nat.mul_one]; exact icells_get (gd_get hi)) rfl) rfl rfl (by decide) ?_
    refine r_new (v := .bool _) (q_call (vs := [.sl _ _, .int _ _]) (args := [.sl _ _, .int .i64 _]) hb108 ⟨.inl rfl, .inl rfl, trivial⟩ rfl (fun hA => has2_c _ _ _ ⟨rfl, by omega⟩) rfl rfl) rfl rfl (by decide) ?_
    refine r_nil ?_
    refine a_cond rfl (fun ht18 => ?_) (fun ht18 => ?_)
    ·
      skip
      refine a_seq ?_
      refine a_region ?_
      refine r_val (v := .int _ _) (v_assign (.inl rfl) (noOwn_flat rfl)) rfl rfl (by decide) ?_
      refine r_nil ?_
      refine a_ret ?_
      refine ret1 Try.results141 (by decide) (by decide) (Weak.of_eq (int_eq ?_)) rfl Leaves.nil
      exact (cval_one hi (by simpa using ht18)).symm
    ·
      skip
      refine a_skip ?_
      refine a_seq ?_
      refine a_region ?_
      refine r_val (v := .sl _ _) (v_move (.inl rfl) (noOwn_flat rfl)) rfl rfl (by decide) ?_
      refine r_val (v := .sl _ _) (v_move (.inl rfl) (noOwn_flat rfl)) rfl rfl (by decide) ?_
      refine r_val (v := .int _ _) (v_move (.inl rfl) (noOwn_flat rfl)) rfl rfl (by decide) ?_
      refine r_val (v := .pp _ _) (v_indexAddr_sl es22 (.inl rfl) (.inl rfl) (fun _ => ⟨by omega, by omega, icells_ne hi⟩)) rfl rfl (by decide) ?_
      refine r_val (v := .int .i64 (gd c i)) (v_load_pp ta3 (.inl rfl) (fun _ => by rw [Nat.mul_one]; exact icells_get (gd_get hi)) rfl) rfl rfl (by decide) ?_
      refine r_val (v := .int _ _) (v_neg (.inl rfl) (fun _ => by omega)) rfl rfl (by decide) ?_
      refine r_new (v := .bool _) (q_call (vs := [.sl _ _, .int _ _]) (args := [.sl _ _, .int .i64 _]) hb108 ⟨.inl rfl, .inl rfl, trivial⟩ rfl (fun hA => has2_c _ _ _ ⟨rfl, by omega⟩) rfl rfl) rfl rfl (by decide) ?_
      refine r_val (v := .bool _) (v_not (.inl rfl)) rfl rfl (by decide) ?_
      refine r_nil ?_
      refine a_cond rfl (fun ht26 => ?_) (fun ht26 => ?_)
      ·
        skip
        refine a_region ?_
        refine r_val (v := .int _ _) (v_assign (.inl rfl) (noOwn_flat rfl)) rfl rfl (by decide) ?_
        refine r_nil ?_
        refine a_region ?_
        refine r_val (v := .int _ _) (v_move (.inl rfl) (noOwn_flat rfl)) rfl rfl (by decide) ?_
        refine r_val (v := .int _ _) (v_add (.inl rfl) (.inl rfl) (fun _ => by omega)) rfl rfl (by decide) ?_
        refine r_val (v := .int _ _) (v_assign (.inl rfl) (noOwn_flat rfl)) rfl rfl (by decide) ?_
        refine r_nil ?_
        refine ⟨i + 1, ent_look ⟨Weak.of_eq rfl, Weak.of_eq rfl, Weak.of_eq (int_eq (by rw [cvP_succ hi, if_neg (by simpa using ht26)])), Weak.of_eq (int_eq (by omega)), trivial⟩, ⟨by omega, fun j h1 => by rcases Nat.lt_or_ge j i with h | h; exact g2 j h; (obtain rfl : j = i := by omega); simpa using ht18⟩, by omega⟩
      ·
        skip
        refine a_skip ?_
        refine a_region ?_
        refine r_val (v := .int _ _) (v_move (.inl rfl) (noOwn_flat rfl)) rfl rfl (by decide) ?_
        refine r_val (v := .int _ _) (v_add (.inl rfl) (.inl rfl) (fun _ => by omega)) rfl rfl (by decide) ?_
        refine r_val (v := .int _ _) (v_assign (.inl rfl) (noOwn_flat rfl)) rfl rfl (by decide) ?_
        refine r_nil ?_
        refine ⟨i + 1, ent_look ⟨Weak.of_eq rfl, Weak.of_eq rfl, Weak.of_eq (int_eq (by rw [cvP_succ hi, if_pos (by simpa using ht26)])), Weak.of_eq (int_eq (by omega)), trivial⟩, ⟨by omega, fun j h1 => by rcases Nat.lt_or_ge j i with h | h; exact g2 j h; (obtain rfl : j = i := by omega); simpa using ht18⟩, by omega⟩
  ·
    skip
    refine a_exit ?_
    refine a_seq ?_
    have hcv := cval_end (c := c) (a := a) (i := i) (by simp at ht10; omega) g2
    refine a_region ?_
    refine r_val (v := .int _ _) (v_move (.inl rfl) (noOwn_flat rfl)) rfl rfl (by decide) ?_
    refine r_val (v := .int _ _) (v_assign (.inl rfl) (noOwn_flat rfl)) rfl rfl (by decide) ?_
    refine r_nil ?_
    refine a_ret ?_
    refine ret1 Try.results141 (by decide) (by decide) (Weak.of_eq (int_eq ?_)) rfl Leaves.nil
    exact hcv.symm

end Go.Av
namespace Go.Av
open Go Go.Proofs Go.Sort
set_option maxRecDepth 10000


end Go.Av
namespace Go.Av
open Go Go.Proofs Go.Sort
set_option maxRecDepth 10000
theorem un4 : Try.prog.underlying 4 = some .bool := by kernel_rfl

end Go.Av
