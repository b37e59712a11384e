/- Lemmas, part 6. -/
import Derived.Test.YtmbjhednpnokpaaB5
import Derived.Test.YtmbjhednpnokpaaRows
set_option linter.unusedVariables false
set_option linter.unusedSimpArgs false
namespace Go.Av
open Go Go.Proofs
set_option maxRecDepth 10000
theorem cta22 : tyAgg Try.prog 22 = some (false, 1) := by kernel_rfl
theorem cta3 : tyAgg Try.prog 3 = some (false, 1) := by kernel_rfl
theorem cta70 : tyAgg Try.prog 70 = some (false, 1) := by kernel_rfl
theorem csl22 : isSlice Try.prog 22 = true := by kernel_rfl
theorem csl42 : isSlice Try.prog 42 = true := by kernel_rfl
theorem chb47 : hasBody Try.prog 47 = true := by kernel_rfl
theorem chb48 : hasBody Try.prog 48 = true := by kernel_rfl
theorem cap22 : appTy Try.prog 22 = some (1, 24) := by kernel_rfl
theorem cap42 : appTy Try.prog 42 = some (1, 8) := by kernel_rfl
theorem clt22 : litTy Try.prog 22 = some (1, [.nils]) := by kernel_rfl
theorem clt42 : litTy Try.prog 42 = some (1, [.int .i64 0]) := by kernel_rfl
/-- The list that is under way: at most 61 of them. -/
def outO (F : List (List Int)) : AV := .op [.osl 1 (osls (F.take 61)) (F.take 61).length none]
def growO (many n : Nat) (V : List Value) (F : List (List Int)) : List AV := [outO F, .op [.int .i64 60], .op [.int .i64 (many : Nat)], .op [.int .i64 (n : Nat)], .op [.that 47 V]]
abbrev st9 (many n : Nat) (V : List Value) (xs : List Int) (k : Nat) (cap : Option Nat) (v : Nat) (F : List (List Int)) : List (Nat × AV) :=
  [(0, .rsl (INH + 5, []) 1 0 xs.length none), (2, .rp (INH, []) 0), (3, .rp (INH + 1, []) 0), (4, .rp (INH + 2, []) 0), (5, .rp (INH + 3, []) 0), (6, .rp (INH + 4, []) 0), (9, .int .i64 (v : Nat)),
    (INH, outO F), (INH + 1, .op [.int .i64 60]), (INH + 2, .op [.int .i64 (many : Nat)]), (INH + 3, .op [.int .i64 (n : Nat)]), (INH + 4, .op [.that 47 V]), (INH + 5, .osl 1 (icells xs) k cap)]
theorem grow_op {many n : Nat} {V : List Value} {F : List (List Int)} {T : List AV} : ∀ j, j < 5 → ∃ cs, (growO many n V F ++ T)[j]? = some (.op cs) := lt5 (p := fun j => ∃ cs, (growO many n V F ++ T)[j]? = some (.op cs)) ⟨_, rfl⟩ ⟨_, rfl⟩ ⟨_, rfl⟩ ⟨_, rfl⟩ ⟨_, rfl⟩
theorem grow_refs {many n k : Nat} {V : List Value} {F : List (List Int)} {ys : List Int} : ∀ j, j < 6 → refs (((growO many n V F ++ [.osl 1 (icells ys) k none])[j]?).getD .undef) = [] := lt6 rfl rfl rfl rfl rfl rfl
theorem grow_noSh {many n k : Nat} {V : List Value} {F : List (List Int)} {ys : List Int} : ∀ j, j < 6 → noSh (((growO many n V F ++ [.osl 1 (icells ys) k none])[j]?).getD .undef) = true :=
  lt6 (by show noSh (outO F) = true; simp [outO, noSh, noShL, osls_noSh]) rfl rfl rfl rfl (by show noSh (AV.osl 1 (icells ys) k none) = true; simp [noSh, ic_noSh])
theorem grow1_c (n many : Nat) (hn : n ≤ 12) (hm : many ≤ 13) (V : List Value) (hV : V.length = 5) : ∀ (d u l k : Nat) (xs : List Int) (F : List (List Int)), u + d = n + 1 → xs.length + l = many → xs ≠ [] →
    CloCall Try.prog 47 V ([.rsl (INH + 5, []) 1 0 xs.length none, .int .i64 (u : Nat)] ++ capsK V.length) (growO many n V F ++ [.osl 1 (icells xs) k none]) (.tup []) (growO many n V (F ++ chR 1 d l u xs) ++ [.osl 1 (icells xs) k none]) := by
  intro d
  induction d using Nat.strongRecOn with
  | _ d ih =>
  intro u l k xs F hud hl hx
  have hcap : capsK V.length = [.rp (INH, []) 0, .rp (INH + 1, []) 0, .rp (INH + 2, []) 0, .rp (INH + 3, []) 0, .rp (INH + 4, []) 0] := by rw [hV]; rfl
  have hic : icells xs ≠ [] := fun h => hx (List.eq_nil_of_length_eq_zero (by rw [← icells_length xs, h]; rfl))
  have hFl : (F.take 61).length ≤ 61 := by simp; omega
  rw [hcap]
  refine CloCall.intro Try.func47 rfl (N := 37) rfl (by decide) (by simp) (fun gv e hgv => ?_)
  refine k_seq ?_
  refine k_seq ?_
  refine k_of (a_region ?_)
  refine r_val (v := .rsl _ _ _ _ _) (v_load_rp (c := .osl _ _ _ _) cta22 (.inl rfl) rfl (fun _ => rfl)) rfl rfl (by decide) ?_
  refine r_val (v := .int _ _) (v_len_rsl csl22 (.inl rfl)) rfl rfl (by decide) ?_
  refine r_val (v := .int _ _) (v_load_rp (c := .int _ _) cta3 (.inl rfl) rfl (fun _ => rfl)) rfl rfl (by decide) ?_
  refine r_val (v := .bool _) (v_gtr (.inl rfl) (.inl rfl)) rfl rfl (by decide) ?_
  refine r_nil ?_
  refine k_cond rfl (fun ht13 => ?_) (fun ht13 => ?_)
  · refine k_ret ?_
    have h60 : 60 < (F.take 61).length := by have h9 := of_decide_eq_true ht13; omega
    refine ret0_objs Try.results47 (by decide) ⟨⟨Weak.of_eq (by unfold outO; rw [take_stop h60]; rfl), rfl⟩, ⟨Weak.of_eq rfl, rfl⟩, ⟨Weak.of_eq rfl, rfl⟩, ⟨Weak.of_eq rfl, rfl⟩, ⟨Weak.of_eq rfl, rfl⟩, ⟨Weak.of_eq rfl, rfl⟩, trivial⟩
  have h60 : (F.take 61).length ≤ 60 := by have h9 := of_decide_eq_false ht13; omega
  refine k_skip ?_
  refine k_seq ?_
  refine k_seq ?_
  refine k_of (a_region ?_)
  refine r_val (v := .rsl _ _ _ _ _) (v_move (.inl rfl) (noOwn_flat rfl)) rfl rfl (by decide) ?_
  refine r_val (v := .int _ _) (v_len_rsl csl42 (.inl rfl)) rfl rfl (by decide) ?_
  refine r_val (v := .int _ _) (v_load_rp (c := .int _ _) cta3 (.inl rfl) rfl (fun _ => rfl)) rfl rfl (by decide) ?_
  refine r_val (v := .bool _) (v_eql (.inl rfl) (.inl rfl)) rfl rfl (by decide) ?_
  refine r_nil ?_
  refine k_cond rfl (fun ht17 => ?_) (fun ht17 => ?_)
  · have hl0 : l = 0 := by have h9 := of_decide_eq_true ht17; omega
    subst hl0
    refine k_seq ?_
    refine k_of (a_region_z (n := 5) [[(18, true)], [(19, true)], [(20, true)], [(20, false), (21, true)], [(INH, false), (18, true), (21, false), (22, true)]] mixed (by kernel_rfl) ?_)
    refine z_val (v := .rsl _ _ _ _ _) (v_load_rp (c := .osl _ _ _ _) cta22 (.inl rfl) rfl (fun _ => rfl)) rfl rfl (by decide) rfl (by kernel_rfl) ?_
    refine z_val (v := .rsl _ _ _ _ _) (v_move (.inl rfl) (noOwn_flat rfl)) rfl rfl (by decide) rfl (by kernel_rfl) ?_
    refine z_new (v := .osl _ _ _ _) (q_call (vs := [.rsl _ _ _ _ _]) (args := [.sl _ _]) chb48 ⟨.inl rfl, trivial⟩ (congrArg (fun z => [z]) (sl_sh (ic_pure _))) (fun hA => cloneI_c xs xs.length ⟨rfl, by omega⟩) (ic_noSh _) (ic_noRef _)) rfl rfl (by decide) rfl (by kernel_rfl) ?_
    refine z_sliceLit1 (v := .osl _ _ _ _) rfl rfl clt22 rfl rfl (by decide) (by decide) (by decide) rfl rfl (by simp [cellsOf, noRefL, noRef, ic_noRef]) rfl rfl rfl (by kernel_rfl) ?_
    refine z_append_own_ref rfl rfl cap22 rfl (by decide) (by decide) (by decide) (by decide) (by decide) (by decide) (by decide) (by decide) (by decide) rfl rfl rfl rfl rfl rfl (by rw [osls_length]; omega) rfl (by omega) rfl (by kernel_rfl) ?_
    refine z_nil ?_
    refine r_pre (ent_eq (t := 22) (v' := .osl 1 (osls ((F ++ [xs]).take 61)) ((F ++ [xs]).take 61).length none) (Weak.osl (by rw [take_push h60, osls_append]; rfl) (by rw [take_push h60]; simp))) ?_
    refine r_step rfl (o_store_own (v := .osl _ _ _ _) (y' := .op [.osl _ _ _ _]) rfl rfl cta22 (.inl rfl) (by decide) rfl (by decide) rfl (by simp [cellsOf, noRefL, noRef, osls_noRef]) rfl rfl rfl rfl rfl (Nat.le_of_ble_eq_true rfl) rfl rfl) ?_
    refine r_nil ?_
    refine k_ret ?_
    refine ret0_objs Try.results47 (by decide) ⟨⟨Weak.of_eq (by rw [chR_z]; rfl), rfl⟩, ⟨Weak.of_eq rfl, rfl⟩, ⟨Weak.of_eq rfl, rfl⟩, ⟨Weak.of_eq rfl, rfl⟩, ⟨Weak.of_eq rfl, rfl⟩, ⟨Weak.of_eq rfl, rfl⟩, trivial⟩
  have hl1 : l ≠ 0 := by have h9 := of_decide_eq_false ht17; omega
  obtain ⟨l, rfl⟩ : ∃ m, l = m + 1 := ⟨l - 1, by omega⟩
  refine k_skip ?_
  refine k_seq ?_
  refine k_of (a_region ?_)
  refine r_val (v := .int _ _) (v_move (.inl rfl) (noOwn_flat rfl)) rfl rfl (by decide) ?_
  refine r_val (v := .int _ _) (v_assign (.inl rfl) (noOwn_flat rfl)) rfl rfl (by decide) ?_
  refine r_nil ?_
  refine k_block ?_
  refine k_loop (X := Nat × List (List Int)) (fun x => look (st9 many n V xs k none x.1 (F ++ x.2)))
    (fun x => u ≤ x.1 ∧ x.1 ≤ n + 1 ∧ x.2 ++ chR 1 (n + 1 - x.1) (l + 1) x.1 xs = chR 1 d (l + 1) u xs) (fun x => n + 2 - x.1) (u, [])
    (ent_look ⟨Weak.of_eq rfl, Weak.of_eq rfl, Weak.of_eq rfl, Weak.of_eq rfl, Weak.of_eq rfl, Weak.of_eq rfl, Weak.of_eq rfl, Weak.of_eq (by rw [List.append_nil]; rfl), Weak.of_eq rfl, Weak.of_eq rfl, Weak.of_eq rfl, Weak.of_eq rfl, Weak.of_eq rfl, trivial⟩)
    ⟨Nat.le_refl _, by omega, by rw [List.nil_append, show n + 1 - u = d by omega]⟩ (fun x hG => ?_)
  obtain ⟨v, B⟩ := x
  obtain ⟨g1, g2, g3⟩ := hG
  dsimp only at g1 g2 g3
  refine k_seq ?_
  refine k_seq ?_
  refine k_of (a_region ?_)
  refine r_val (v := .int _ _) (v_move (.inl rfl) (noOwn_flat rfl)) rfl rfl (by decide) ?_
  refine r_val (v := .int _ _) (v_load_rp (c := .int _ _) cta3 (.inl rfl) rfl (fun _ => rfl)) rfl rfl (by decide) ?_
  refine r_val (v := .bool _) (v_leq (.inl rfl) (.inl rfl)) rfl rfl (by decide) ?_
  refine r_nil ?_
  refine k_cond rfl (fun ht26 => ?_) (fun ht26 => ?_)
  · refine k_skip ?_
    have hvn : v ≤ n := by have h9 := of_decide_eq_true ht26; omega
    have hvl : xs.length + 1 ≤ 13 := by omega
    have hlx : (xs ++ [(v : Int)]).length = xs.length + 1 := by simp
    have hica : icells xs ++ icells [(v : Int)] = icells (xs ++ [(v : Int)]) := by rw [icells_append]
    have hic2 : icells (xs ++ [(v : Int)]) ≠ [] := fun h => by have h9 := congrArg List.length h; rw [icells_length] at h9; simp at h9
    have hc := fun k' => ih (n - v) (by omega) (v + 1) l k' (xs ++ [(v : Int)]) (F ++ B) (by omega) (by rw [hlx]; omega) (by simp)
    have hstep : (B ++ chR 1 (n - v) l (v + 1) (xs ++ [(v : Int)])) ++ chR 1 (n + 1 - (v + 1)) (l + 1) (v + 1) xs = chR 1 d (l + 1) u xs := by
      rw [← g3, show n + 1 - v = (n - v) + 1 by omega, chR_s, Int.one_mul, List.append_assoc, show n + 1 - (v + 1) = n - v by omega]
    refine k_join (look (st9 many n V xs k none v (F ++ (B ++ chR 1 (n - v) l (v + 1) (xs ++ [(v : Int)]))))) (k_block ?_) ?_
    rotate_left
    · refine k_of (a_region ?_)
      refine r_val (v := .int _ _) (v_move (.inl rfl) (noOwn_flat rfl)) rfl rfl (by decide) ?_
      refine r_val (v := .int .i64 ((v + 1 : Nat) : Int)) ((v_add (.inl rfl) (.inl rfl) (fun _ => by omega)).cast (int_eq (by omega))) rfl rfl (by decide) ?_
      refine r_val (v := .int _ _) (v_assign (.inl rfl) (noOwn_flat rfl)) rfl rfl (by decide) ?_
      refine r_nil ?_
      exact ⟨(v + 1, B ++ chR 1 (n - v) l (v + 1) (xs ++ [(v : Int)])), ent_look ⟨Weak.of_eq rfl, Weak.of_eq rfl, Weak.of_eq rfl, Weak.of_eq rfl, Weak.of_eq rfl, Weak.of_eq rfl, Weak.of_eq rfl, Weak.of_eq rfl, Weak.of_eq rfl, Weak.of_eq rfl, Weak.of_eq rfl, Weak.of_eq rfl, Weak.of_eq rfl, trivial⟩, ⟨by dsimp only; omega, by dsimp only; omega, hstep⟩, by dsimp only; omega⟩
    refine k_pre (ent_look (L := st9 many n V xs k none v (F ++ B)) ⟨Weak.of_eq rfl, Weak.of_eq rfl, Weak.of_eq rfl, Weak.of_eq rfl, Weak.of_eq rfl, Weak.of_eq rfl, Weak.of_eq rfl, Weak.of_eq rfl, Weak.of_eq rfl, Weak.of_eq rfl, Weak.of_eq rfl, Weak.of_eq rfl, Weak.of_eq rfl, trivial⟩) ?_
    refine k_cap (q := INH + 5) (sz := 1) (n := k) (cs := icells xs) rfl hic (fun cp => ?_)
    refine k_pre (ent_look (L := st9 many n V xs k (some cp) v (F ++ B)) ⟨Weak.of_eq rfl, Weak.of_eq rfl, Weak.of_eq rfl, Weak.of_eq rfl, Weak.of_eq rfl, Weak.of_eq rfl, Weak.of_eq rfl, Weak.of_eq rfl, Weak.of_eq rfl, Weak.of_eq rfl, Weak.of_eq rfl, Weak.of_eq rfl, Weak.of_eq rfl, trivial⟩) ?_
    by_cases hroom : xs.length + 1 ≤ cp
    · refine k_region_z (n := 7) [[(29, true)], [(30, true)], [(31, true)], [(32, true)], [(INH + 5, false), (33, true)], [(34, true)], [(35, true)]] mixed (by kernel_rfl) ?_
      refine z_val (v := .that _ _) (v_load_rp (c := .that 47 V) cta70 (.inl rfl) rfl (fun _ => rfl)) rfl rfl (by decide) rfl (by kernel_rfl) ?_
      refine z_val (v := .rsl _ _ _ _ _) (v_move (.inl rfl) (noOwn_flat rfl)) rfl rfl (by decide) rfl (by kernel_rfl) ?_
      refine z_val (v := .int _ _) (v_move (.inl rfl) (noOwn_flat rfl)) rfl rfl (by decide) rfl (by kernel_rfl) ?_
      refine z_new (v := .osl 1 (icells [(v : Int)]) 1 (some 1)) (q_sliceLit (n := 1) (parts := [(0, .tmp 31)]) clt42 rfl rfl rfl rfl) rfl rfl (by decide) rfl (by kernel_rfl) ?_
      refine z_appIn (m := 1) (cp := cp) (k := k) (cs := icells xs) (ns := icells [(v : Int)]) rfl rfl cap42 rfl (by decide) (by decide) (by decide) rfl rfl hic (ic_pure _).1 (icells_length _) hroom (src_lit (.inl rfl) rfl rfl rfl) rfl rfl (by kernel_rfl) ?_
      refine z_val (v := .int _ _) (v_move (.inl rfl) (noOwn_flat rfl)) rfl rfl (by decide) rfl (by kernel_rfl) ?_
      refine z_val (v := .int .i64 ((v + 1 : Nat) : Int)) ((v_add (.inl rfl) (.inl rfl) (fun _ => by omega)).cast (int_eq (by omega))) rfl rfl (by decide) rfl (by kernel_rfl) ?_
      refine z_nil ?_
      refine kr_pre (ent_eq (t := INH + 5) (v' := .osl 1 (icells (xs ++ [(v : Int)])) k none) (Weak.osl hica rfl)) ?_
      refine kr_pre (ent_eq (t := 33) (v' := .rsl (INH + 5, []) 1 0 (xs ++ [(v : Int)]).length none) (Weak.of_eq (by rw [hlx]; rfl))) ?_
      have hinj : ∀ i j, i < 6 → j < 6 → (fun j => INH + j) i = (fun j => INH + j) j → i = j := fun i j _ _ h => by dsimp only at h; omega
      refine kr_clo (m := 6) (ρ := fun j => INH + j) (xvs := [.rsl (INH + 5, []) 1 0 _ none, .int .i64 _]) (xargs := [.rsl (INH + 5, []) 1 0 (xs ++ [(v : Int)]).length none, .int .i64 ((v + 1 : Nat) : Int)])
        (objs := growO many n V (F ++ B) ++ [.osl 1 (icells (xs ++ [(v : Int)])) k none]) (objs2 := growO many n V (F ++ B ++ chR 1 (n - v) l (v + 1) (xs ++ [(v : Int)])) ++ [.osl 1 (icells (xs ++ [(v : Int)])) k none])
        (Lk := [(0, .rsl (INH + 5, []) 1 0 xs.length none), (2, .rp (INH, []) 0), (3, .rp (INH + 1, []) 0), (4, .rp (INH + 2, []) 0), (5, .rp (INH + 3, []) 0), (6, .rp (INH + 4, []) 0), (9, .int .i64 (v : Nat))])
        rfl rfl chb47 rfl (by decide) (by decide) rfl ⟨.inl rfl, .inl rfl, trivial⟩ ⟨seen_rsl (j := 5) (by decide), seen_int, trivial⟩ (by exact hc k) rfl rfl (lt6 (by show _ = outO (F ++ B); rfl) (by show _ = AV.op [.int .i64 60]; rfl) (by show _ = AV.op [.int .i64 (many : Nat)]; rfl) (by show _ = AV.op [.int .i64 (n : Nat)]; rfl) (by show _ = AV.op [.that 47 V]; rfl) (by show _ = AV.osl 1 (icells (xs ++ [(v : Int)])) k none; rfl)) hinj
        (fun j hj => grow_op j (by rw [hV] at hj; exact hj)) grow_refs grow_refs grow_noSh (by rw [hV]; decide)
        (fun j _ => by simp only [INH]; omega) (by rw [hV]; simp [INH]) ?_ rfl (by decide) (fun j _ => rfl) hgv ?_
      · exact ⟨⟨rfl, .inr (.inr ⟨5, 1, _, _, _, _, _, _, _, rfl, rfl, hic2, rfl, hic2⟩), by decide⟩, ⟨rfl, .inr (.inl ⟨0, 0, _, _, rfl, rfl, rfl⟩), by decide⟩, ⟨rfl, .inr (.inl ⟨1, 0, _, _, rfl, rfl, rfl⟩), by decide⟩, ⟨rfl, .inr (.inl ⟨2, 0, _, _, rfl, rfl, rfl⟩), by decide⟩, ⟨rfl, .inr (.inl ⟨3, 0, _, _, rfl, rfl, rfl⟩), by decide⟩, ⟨rfl, .inr (.inl ⟨4, 0, _, _, rfl, rfl, rfl⟩), by decide⟩, ⟨rfl, stay_own rfl, by decide⟩, trivial⟩
      refine kr_nil ?_
      have hlow : ∀ i, i < 37 → ∀ j, j < 6 → (fun j => INH + j) j ≠ i := fun i hi j _ => by simp only [INH]; omega
      have hr := fun j (hj : j < 6) => tau_root (objs2 := growO many n V (F ++ B ++ chR 1 (n - v) l (v + 1) (xs ++ [(v : Int)])) ++ [.osl 1 (icells (xs ++ [(v : Int)])) k none]) (Lk := [(0, .rsl (INH + 5, []) 1 0 xs.length none), (2, .rp (INH, []) 0), (3, .rp (INH + 1, []) 0), (4, .rp (INH + 2, []) 0), (5, .rp (INH + 3, []) 0), (6, .rp (INH + 4, []) 0), (9, .int .i64 (v : Nat))]) hinj hj
      exact ent_look ⟨Weak.of_eq (tau_low (hlow _ (by decide))), Weak.of_eq (tau_low (hlow _ (by decide))), Weak.of_eq (tau_low (hlow _ (by decide))), Weak.of_eq (tau_low (hlow _ (by decide))), Weak.of_eq (tau_low (hlow _ (by decide))), Weak.of_eq (tau_low (hlow _ (by decide))), Weak.of_eq (tau_low (hlow _ (by decide))),
        Weak.of_eq ((hr 0 (by decide)).trans (by rw [List.append_assoc]; rfl)), Weak.of_eq (hr 1 (by decide)), Weak.of_eq (hr 2 (by decide)), Weak.of_eq (hr 3 (by decide)), Weak.of_eq (hr 4 (by decide)), (Weak.of_eq (hr 5 (by decide))).trans (Weak.osl_take (by rw [icells_append]) rfl), trivial⟩
    · refine k_region_z (n := 7) [[(29, true)], [(30, true)], [(31, true)], [(32, true)], [(33, true)], [(34, true)], [(35, true)]] mixed (by kernel_rfl) ?_
      refine z_val (v := .that _ _) (v_load_rp (c := .that 47 V) cta70 (.inl rfl) rfl (fun _ => rfl)) rfl rfl (by decide) rfl (by kernel_rfl) ?_
      refine z_val (v := .rsl _ _ _ _ _) (v_move (.inl rfl) (noOwn_flat rfl)) rfl rfl (by decide) rfl (by kernel_rfl) ?_
      refine z_val (v := .int _ _) (v_move (.inl rfl) (noOwn_flat rfl)) rfl rfl (by decide) rfl (by kernel_rfl) ?_
      refine z_new (v := .osl 1 (icells [(v : Int)]) 1 (some 1)) (q_sliceLit (n := 1) (parts := [(0, .tmp 31)]) clt42 rfl rfl rfl rfl) rfl rfl (by decide) rfl (by kernel_rfl) ?_
      refine z_new (v := .osl 1 (icells xs ++ icells [(v : Int)]) (xs.length + 1) none) (q_appNew (cp := cp) (k := k) (m := 1) cap42 (.inl rfl) rfl hic (ic_pure _).1 (icells_length _) (by omega) (src_lit (.inl rfl) rfl rfl rfl) rfl (fun _ => by omega)) rfl rfl (by decide) rfl (by kernel_rfl) ?_
      refine z_val (v := .int _ _) (v_move (.inl rfl) (noOwn_flat rfl)) rfl rfl (by decide) rfl (by kernel_rfl) ?_
      refine z_val (v := .int .i64 ((v + 1 : Nat) : Int)) ((v_add (.inl rfl) (.inl rfl) (fun _ => by omega)).cast (int_eq (by omega))) rfl rfl (by decide) rfl (by kernel_rfl) ?_
      refine z_nil ?_
      refine kr_pre (ent_eq (t := 33) (v' := .osl 1 (icells (xs ++ [(v : Int)])) (xs ++ [(v : Int)]).length none) (Weak.osl hica hlx.symm)) ?_
      have hinj : ∀ i j, i < 6 → j < 6 → (fun j => if j = 5 then 33 else INH + j) i = (fun j => if j = 5 then 33 else INH + j) j → i = j := fun i j hi hj h => by dsimp only [INH] at h; split at h <;> split at h <;> omega
      refine kr_clo (m := 6) (ρ := fun j => if j = 5 then 33 else INH + j) (xvs := [.rsl (33, []) 1 0 _ none, .int .i64 _]) (xargs := [.rsl (INH + 5, []) 1 0 (xs ++ [(v : Int)]).length none, .int .i64 ((v + 1 : Nat) : Int)])
        (objs := growO many n V (F ++ B) ++ [.osl 1 (icells (xs ++ [(v : Int)])) (xs ++ [(v : Int)]).length none]) (objs2 := growO many n V (F ++ B ++ chR 1 (n - v) l (v + 1) (xs ++ [(v : Int)])) ++ [.osl 1 (icells (xs ++ [(v : Int)])) (xs ++ [(v : Int)]).length none])
        (Lk := [(0, .rsl (INH + 5, []) 1 0 xs.length none), (2, .rp (INH, []) 0), (3, .rp (INH + 1, []) 0), (4, .rp (INH + 2, []) 0), (5, .rp (INH + 3, []) 0), (6, .rp (INH + 4, []) 0), (9, .int .i64 (v : Nat)), (INH + 5, .osl 1 (icells xs) k (some cp))])
        rfl rfl chb47 rfl (by decide) (by decide) rfl ⟨.inl rfl, .inl rfl, trivial⟩ ⟨seen_rsl (j := 5) (by decide), seen_int, trivial⟩ (by exact hc (xs ++ [(v : Int)]).length) rfl rfl (lt6 (by show _ = outO (F ++ B); rfl) (by show _ = AV.op [.int .i64 60]; rfl) (by show _ = AV.op [.int .i64 (many : Nat)]; rfl) (by show _ = AV.op [.int .i64 (n : Nat)]; rfl) (by show _ = AV.op [.that 47 V]; rfl) (by show _ = AV.osl 1 (icells (xs ++ [(v : Int)])) (xs ++ [(v : Int)]).length none; rfl)) hinj
        (fun j hj => grow_op j (by rw [hV] at hj; exact hj)) grow_refs grow_refs grow_noSh (by rw [hV]; decide)
        (fun j _ => by show (if j = 5 then 33 else INH + j) ≠ 36; unfold INH; split <;> omega) (by rw [hV]; simp [INH]) ?_ rfl (by decide) (fun j hj => by rw [hV] at hj; exact if_neg (by omega)) hgv ?_
      · exact ⟨⟨rfl, .inl (fun q hq => by simp only [refs, List.mem_singleton] at hq; subst hq; exact lt6 (by decide) (by decide) (by decide) (by decide) (by decide) (by decide)), by decide⟩, ⟨rfl, .inr (.inl ⟨0, 0, _, _, rfl, rfl, rfl⟩), by decide⟩, ⟨rfl, .inr (.inl ⟨1, 0, _, _, rfl, rfl, rfl⟩), by decide⟩, ⟨rfl, .inr (.inl ⟨2, 0, _, _, rfl, rfl, rfl⟩), by decide⟩, ⟨rfl, .inr (.inl ⟨3, 0, _, _, rfl, rfl, rfl⟩), by decide⟩, ⟨rfl, .inr (.inl ⟨4, 0, _, _, rfl, rfl, rfl⟩), by decide⟩, ⟨rfl, stay_own rfl, by decide⟩, ⟨rfl, stay_own rfl, by decide⟩, trivial⟩
      refine kr_nil ?_
      have hlow : ∀ i, i < 33 ∨ i = INH + 5 → ∀ j, j < 6 → (fun j => if j = 5 then 33 else INH + j) j ≠ i := fun i hi j hj => by dsimp only [INH] at hi ⊢; split <;> omega
      have hr := fun j (hj : j < 6) => tau_root (objs2 := growO many n V (F ++ B ++ chR 1 (n - v) l (v + 1) (xs ++ [(v : Int)])) ++ [.osl 1 (icells (xs ++ [(v : Int)])) (xs ++ [(v : Int)]).length none]) (Lk := [(0, .rsl (INH + 5, []) 1 0 xs.length none), (2, .rp (INH, []) 0), (3, .rp (INH + 1, []) 0), (4, .rp (INH + 2, []) 0), (5, .rp (INH + 3, []) 0), (6, .rp (INH + 4, []) 0), (9, .int .i64 (v : Nat)), (INH + 5, .osl 1 (icells xs) k (some cp))]) hinj hj
      exact ent_look ⟨Weak.of_eq (tau_low (hlow _ (.inl (by decide)))), Weak.of_eq (tau_low (hlow _ (.inl (by decide)))), Weak.of_eq (tau_low (hlow _ (.inl (by decide)))), Weak.of_eq (tau_low (hlow _ (.inl (by decide)))), Weak.of_eq (tau_low (hlow _ (.inl (by decide)))), Weak.of_eq (tau_low (hlow _ (.inl (by decide)))), Weak.of_eq (tau_low (hlow _ (.inl (by decide)))),
        Weak.of_eq ((hr 0 (by decide)).trans (by rw [List.append_assoc]; rfl)), Weak.of_eq (hr 1 (by decide)), Weak.of_eq (hr 2 (by decide)), Weak.of_eq (hr 3 (by decide)), Weak.of_eq (hr 4 (by decide)), (Weak.of_eq (tau_low (hlow _ (.inr rfl)))).trans (Weak.osl rfl rfl), trivial⟩
  · refine k_exit ?_
    have hvn : v = n + 1 := by have h9 := of_decide_eq_false ht26; omega
    subst hvn
    rw [Nat.sub_self, chR_n, List.append_nil] at g3
    subst g3
    exact ret0_objs Try.results47 (by decide) ⟨⟨Weak.of_eq rfl, rfl⟩, ⟨Weak.of_eq rfl, rfl⟩, ⟨Weak.of_eq rfl, rfl⟩, ⟨Weak.of_eq rfl, rfl⟩, ⟨Weak.of_eq rfl, rfl⟩, ⟨Weak.of_eq rfl, rfl⟩, trivial⟩
end Go.Av
namespace Go.Av
open Go Go.Proofs
set_option maxRecDepth 10000
abbrev st0 (many n : Nat) (V : List Value) (v : Nat) (F : List (List Int)) : List (Nat × AV) :=
  [(0, .nils), (2, .rp (INH, []) 0), (3, .rp (INH + 1, []) 0), (4, .rp (INH + 2, []) 0), (5, .rp (INH + 3, []) 0), (6, .rp (INH + 4, []) 0), (9, .int .i64 (v : Nat)),
    (INH, outO F), (INH + 1, .op [.int .i64 60]), (INH + 2, .op [.int .i64 (many : Nat)]), (INH + 3, .op [.int .i64 (n : Nat)]), (INH + 4, .op [.that 47 V])]
theorem grow0_c (n many : Nat) (hn : n ≤ 12) (hm : many ≤ 13) (V : List Value) (hV : V.length = 5) (d u l : Nat) (F : List (List Int)) (hud : u + d = n + 1) (hl : l + 1 = many) :
    CloCall Try.prog 47 V ([.nils, .int .i64 (u : Nat)] ++ capsK V.length) (growO many n V F) (.tup []) (growO many n V (F ++ chR 1 d (l + 1) u [])) := by
  have hcap : capsK V.length = [.rp (INH, []) 0, .rp (INH + 1, []) 0, .rp (INH + 2, []) 0, .rp (INH + 3, []) 0, .rp (INH + 4, []) 0] := by rw [hV]; rfl
  have hFl : (F.take 61).length ≤ 61 := by simp; omega
  rw [hcap]
  refine CloCall.intro Try.func47 rfl (N := 37) rfl (by decide) (by simp) (fun gv e hgv => ?_)
  refine k_seq ?_
  refine k_seq ?_
  refine k_of (a_region ?_)
  refine r_val (v := .rsl _ _ _ _ _) (v_load_rp (c := .osl _ _ _ _) cta22 (.inl rfl) rfl (fun _ => rfl)) rfl rfl (by decide) ?_
  refine r_val (v := .int _ _) (v_len_rsl csl22 (.inl rfl)) rfl rfl (by decide) ?_
  refine r_val (v := .int _ _) (v_load_rp (c := .int _ _) cta3 (.inl rfl) rfl (fun _ => rfl)) rfl rfl (by decide) ?_
  refine r_val (v := .bool _) (v_gtr (.inl rfl) (.inl rfl)) rfl rfl (by decide) ?_
  refine r_nil ?_
  refine k_cond rfl (fun ht13 => ?_) (fun ht13 => ?_)
  · refine k_ret ?_
    have h60 : 60 < (F.take 61).length := by have h9 := of_decide_eq_true ht13; omega
    refine ret0_objs Try.results47 (by decide) ⟨⟨Weak.of_eq (by unfold outO; rw [take_stop h60]; rfl), rfl⟩, ⟨Weak.of_eq rfl, rfl⟩, ⟨Weak.of_eq rfl, rfl⟩, ⟨Weak.of_eq rfl, rfl⟩, ⟨Weak.of_eq rfl, rfl⟩, trivial⟩
  have h60 : (F.take 61).length ≤ 60 := by have h9 := of_decide_eq_false ht13; omega
  refine k_skip ?_
  refine k_seq ?_
  refine k_seq ?_
  refine k_of (a_region ?_)
  refine r_val (v := .nils) (v_move (.inl rfl) (noOwn_flat rfl)) rfl rfl (by decide) ?_
  refine r_val (v := .int _ _) (v_len_nils csl42 (.inl rfl)) rfl rfl (by decide) ?_
  refine r_val (v := .int _ _) (v_load_rp (c := .int _ _) cta3 (.inl rfl) rfl (fun _ => rfl)) rfl rfl (by decide) ?_
  refine r_val (v := .bool _) (v_eql (.inl rfl) (.inl rfl)) rfl rfl (by decide) ?_
  refine r_nil ?_
  refine k_cond rfl (fun ht17 => ?_) (fun ht17 => ?_)
  · exfalso; have h9 := of_decide_eq_true ht17; omega
  refine k_skip ?_
  refine k_seq ?_
  refine k_of (a_region ?_)
  refine r_val (v := .int _ _) (v_move (.inl rfl) (noOwn_flat rfl)) rfl rfl (by decide) ?_
  refine r_val (v := .int _ _) (v_assign (.inl rfl) (noOwn_flat rfl)) rfl rfl (by decide) ?_
  refine r_nil ?_
  refine k_block ?_
  refine k_loop (X := Nat × List (List Int)) (fun x => look (st0 many n V x.1 (F ++ x.2)))
    (fun x => u ≤ x.1 ∧ x.1 ≤ n + 1 ∧ x.2 ++ chR 1 (n + 1 - x.1) (l + 1) x.1 [] = chR 1 d (l + 1) u []) (fun x => n + 2 - x.1) (u, [])
    (ent_look ⟨Weak.of_eq rfl, Weak.of_eq rfl, Weak.of_eq rfl, Weak.of_eq rfl, Weak.of_eq rfl, Weak.of_eq rfl, Weak.of_eq rfl, Weak.of_eq (by rw [List.append_nil]; rfl), Weak.of_eq rfl, Weak.of_eq rfl, Weak.of_eq rfl, Weak.of_eq rfl, trivial⟩)
    ⟨Nat.le_refl _, by omega, by rw [List.nil_append, show n + 1 - u = d by omega]⟩ (fun x hG => ?_)
  obtain ⟨v, B⟩ := x
  obtain ⟨g1, g2, g3⟩ := hG
  dsimp only at g1 g2 g3
  refine k_seq ?_
  refine k_seq ?_
  refine k_of (a_region ?_)
  refine r_val (v := .int _ _) (v_move (.inl rfl) (noOwn_flat rfl)) rfl rfl (by decide) ?_
  refine r_val (v := .int _ _) (v_load_rp (c := .int _ _) cta3 (.inl rfl) rfl (fun _ => rfl)) rfl rfl (by decide) ?_
  refine r_val (v := .bool _) (v_leq (.inl rfl) (.inl rfl)) rfl rfl (by decide) ?_
  refine r_nil ?_
  refine k_cond rfl (fun ht26 => ?_) (fun ht26 => ?_)
  · refine k_skip ?_
    have hvn : v ≤ n := by have h9 := of_decide_eq_true ht26; omega
    have hic2 : icells ([(v : Int)]) ≠ [] := fun h => by have h9 := congrArg List.length h; rw [icells_length] at h9; simp at h9
    have hc := grow1_c n many hn hm V hV (n - v) (v + 1) l 1 [(v : Int)] (F ++ B) (by omega) (by simp; omega) (by simp)
    have hstep : (B ++ chR 1 (n - v) l (v + 1) [(v : Int)]) ++ chR 1 (n + 1 - (v + 1)) (l + 1) (v + 1) [] = chR 1 d (l + 1) u [] := by
      rw [← g3, show n + 1 - v = (n - v) + 1 by omega, chR_s, Int.one_mul, List.nil_append, List.append_assoc, show n + 1 - (v + 1) = n - v by omega]
    refine k_join (look (st0 many n V v (F ++ (B ++ chR 1 (n - v) l (v + 1) [(v : Int)])))) (k_block ?_) ?_
    rotate_left
    · refine k_of (a_region ?_)
      refine r_val (v := .int _ _) (v_move (.inl rfl) (noOwn_flat rfl)) rfl rfl (by decide) ?_
      refine r_val (v := .int .i64 ((v + 1 : Nat) : Int)) ((v_add (.inl rfl) (.inl rfl) (fun _ => by omega)).cast (int_eq (by omega))) rfl rfl (by decide) ?_
      refine r_val (v := .int _ _) (v_assign (.inl rfl) (noOwn_flat rfl)) rfl rfl (by decide) ?_
      refine r_nil ?_
      exact ⟨(v + 1, B ++ chR 1 (n - v) l (v + 1) [(v : Int)]), ent_look ⟨Weak.of_eq rfl, Weak.of_eq rfl, Weak.of_eq rfl, Weak.of_eq rfl, Weak.of_eq rfl, Weak.of_eq rfl, Weak.of_eq rfl, Weak.of_eq rfl, Weak.of_eq rfl, Weak.of_eq rfl, Weak.of_eq rfl, Weak.of_eq rfl, trivial⟩, ⟨by dsimp only; omega, by dsimp only; omega, hstep⟩, by dsimp only; omega⟩
    refine k_pre (ent_look (L := st0 many n V v (F ++ B)) ⟨Weak.of_eq rfl, Weak.of_eq rfl, Weak.of_eq rfl, Weak.of_eq rfl, Weak.of_eq rfl, Weak.of_eq rfl, Weak.of_eq rfl, Weak.of_eq rfl, Weak.of_eq rfl, Weak.of_eq rfl, Weak.of_eq rfl, Weak.of_eq rfl, trivial⟩) ?_
    · refine k_region_z (n := 7) [[(29, true)], [(30, true)], [(31, true)], [(32, true)], [(33, true)], [(34, true)], [(35, true)]] mixed (by kernel_rfl) ?_
      refine z_val (v := .that _ _) (v_load_rp (c := .that 47 V) cta70 (.inl rfl) rfl (fun _ => rfl)) rfl rfl (by decide) rfl (by kernel_rfl) ?_
      refine z_val (v := .nils) (v_move (.inl rfl) (noOwn_flat rfl)) rfl rfl (by decide) rfl (by kernel_rfl) ?_
      refine z_val (v := .int _ _) (v_move (.inl rfl) (noOwn_flat rfl)) rfl rfl (by decide) rfl (by kernel_rfl) ?_
      refine z_new (v := .osl 1 (icells [(v : Int)]) 1 (some 1)) (q_sliceLit (n := 1) (parts := [(0, .tmp 31)]) clt42 rfl rfl rfl rfl) rfl rfl (by decide) rfl (by kernel_rfl) ?_
      refine z_new (v := .osl 1 (icells [(v : Int)]) 1 none) (q_append_nil (m := 1) cap42 (.inl (.inl rfl)) (src_lit (.inl rfl) rfl rfl rfl) rfl (fun _ => by omega)) rfl rfl (by decide) rfl (by kernel_rfl) ?_
      refine z_val (v := .int _ _) (v_move (.inl rfl) (noOwn_flat rfl)) rfl rfl (by decide) rfl (by kernel_rfl) ?_
      refine z_val (v := .int .i64 ((v + 1 : Nat) : Int)) ((v_add (.inl rfl) (.inl rfl) (fun _ => by omega)).cast (int_eq (by omega))) rfl rfl (by decide) rfl (by kernel_rfl) ?_
      refine z_nil ?_
      have hinj : ∀ i j, i < 6 → j < 6 → (fun j => if j = 5 then 33 else INH + j) i = (fun j => if j = 5 then 33 else INH + j) j → i = j := fun i j hi hj h => by dsimp only [INH] at h; split at h <;> split at h <;> omega
      refine kr_clo (m := 6) (ρ := fun j => if j = 5 then 33 else INH + j) (xvs := [.rsl (33, []) 1 0 _ none, .int .i64 _]) (xargs := [.rsl (INH + 5, []) 1 0 1 none, .int .i64 ((v + 1 : Nat) : Int)])
        (objs := growO many n V (F ++ B) ++ [.osl 1 (icells [(v : Int)]) 1 none]) (objs2 := growO many n V (F ++ B ++ chR 1 (n - v) l (v + 1) [(v : Int)]) ++ [.osl 1 (icells [(v : Int)]) 1 none])
        (Lk := [(0, .nils), (2, .rp (INH, []) 0), (3, .rp (INH + 1, []) 0), (4, .rp (INH + 2, []) 0), (5, .rp (INH + 3, []) 0), (6, .rp (INH + 4, []) 0), (9, .int .i64 (v : Nat))])
        rfl rfl chb47 rfl (by decide) (by decide) rfl ⟨.inl rfl, .inl rfl, trivial⟩ ⟨seen_rsl (j := 5) (by decide), seen_int, trivial⟩ (by exact hc) rfl rfl (lt6 (by show _ = outO (F ++ B); rfl) (by show _ = AV.op [.int .i64 60]; rfl) (by show _ = AV.op [.int .i64 (many : Nat)]; rfl) (by show _ = AV.op [.int .i64 (n : Nat)]; rfl) (by show _ = AV.op [.that 47 V]; rfl) (by show _ = AV.osl 1 (icells [(v : Int)]) 1 none; rfl)) hinj
        (fun j hj => grow_op j (by rw [hV] at hj; exact hj)) grow_refs grow_refs grow_noSh (by rw [hV]; decide)
        (fun j _ => by show (if j = 5 then 33 else INH + j) ≠ 36; unfold INH; split <;> omega) (by rw [hV]; simp [INH]) ?_ rfl (by decide) (fun j hj => by rw [hV] at hj; exact if_neg (by omega)) hgv ?_
      · exact ⟨⟨rfl, stay_own rfl, by decide⟩, ⟨rfl, .inr (.inl ⟨0, 0, _, _, rfl, rfl, rfl⟩), by decide⟩, ⟨rfl, .inr (.inl ⟨1, 0, _, _, rfl, rfl, rfl⟩), by decide⟩, ⟨rfl, .inr (.inl ⟨2, 0, _, _, rfl, rfl, rfl⟩), by decide⟩, ⟨rfl, .inr (.inl ⟨3, 0, _, _, rfl, rfl, rfl⟩), by decide⟩, ⟨rfl, .inr (.inl ⟨4, 0, _, _, rfl, rfl, rfl⟩), by decide⟩, ⟨rfl, stay_own rfl, by decide⟩, trivial⟩
      refine kr_nil ?_
      have hlow : ∀ i, i < 33 ∨ i = INH + 5 → ∀ j, j < 6 → (fun j => if j = 5 then 33 else INH + j) j ≠ i := fun i hi j hj => by dsimp only [INH] at hi ⊢; split <;> omega
      have hr := fun j (hj : j < 6) => tau_root (objs2 := growO many n V (F ++ B ++ chR 1 (n - v) l (v + 1) [(v : Int)]) ++ [.osl 1 (icells [(v : Int)]) 1 none]) (Lk := [(0, .nils), (2, .rp (INH, []) 0), (3, .rp (INH + 1, []) 0), (4, .rp (INH + 2, []) 0), (5, .rp (INH + 3, []) 0), (6, .rp (INH + 4, []) 0), (9, .int .i64 (v : Nat))]) hinj hj
      exact ent_look ⟨Weak.of_eq (tau_low (hlow _ (.inl (by decide)))), Weak.of_eq (tau_low (hlow _ (.inl (by decide)))), Weak.of_eq (tau_low (hlow _ (.inl (by decide)))), Weak.of_eq (tau_low (hlow _ (.inl (by decide)))), Weak.of_eq (tau_low (hlow _ (.inl (by decide)))), Weak.of_eq (tau_low (hlow _ (.inl (by decide)))), Weak.of_eq (tau_low (hlow _ (.inl (by decide)))),
        Weak.of_eq ((hr 0 (by decide)).trans (by rw [List.append_assoc]; rfl)), Weak.of_eq (hr 1 (by decide)), Weak.of_eq (hr 2 (by decide)), Weak.of_eq (hr 3 (by decide)), Weak.of_eq (hr 4 (by decide)), trivial⟩
  · refine k_exit ?_
    have hvn : v = n + 1 := by have h9 := of_decide_eq_false ht26; omega
    subst hvn
    rw [Nat.sub_self, chR_n, List.append_nil] at g3
    subst g3
    exact ret0_objs Try.results47 (by decide) ⟨⟨Weak.of_eq rfl, rfl⟩, ⟨Weak.of_eq rfl, rfl⟩, ⟨Weak.of_eq rfl, rfl⟩, ⟨Weak.of_eq rfl, rfl⟩, ⟨Weak.of_eq rfl, rfl⟩, trivial⟩
end Go.Av
namespace Go.Av
open Go Go.Proofs
set_option maxRecDepth 10000
theorem czc22 : zeroCells Try.prog 22 = some [.nils] := by kernel_rfl
theorem czc70 : zeroCells Try.prog 70 = some [.undef] := by kernel_rfl
def chRho (j : Nat) : Nat := match j with
  | 0 => 7
  | 1 => 5
  | 2 => 4
  | 3 => 3
  | _ => 8
theorem chRho_inj : ∀ i j, i < 5 → j < 5 → chRho i = chRho j → i = j := fun i j hi hj =>
  (by decide : ∀ i, i < 5 → ∀ j, j < 5 → chRho i = chRho j → i = j) i hi j hj
/-- The lists that are chosen: at most 61. -/
def chO (n many : Nat) : List (List Int) := (chR 1 n many 1 []).take 61
theorem choices_c (n many : Nat) (hn : n ≤ 12) (hm : many ≤ 13) (h1 : 1 ≤ many) : ACall Try.prog 25 [.int .i64 (n : Nat), .int .i64 (many : Nat), .int .i64 60] [] (.osl 1 (osls (chO n many)) (chO n many).length none) [] := by
  obtain ⟨l, rfl⟩ : ∃ l, many = l + 1 := ⟨many - 1, by omega⟩
  refine ACall.intro Try.func25 rfl (N := 13) rfl (by decide) (by simp) ?_
  refine a_seq ?_
  refine a_region ?_
  refine r_new (v := .op [.int _ _]) (q_box (.inl rfl) rfl rfl) rfl rfl (by decide) ?_
  refine r_new (v := .op [.int _ _]) (q_box (.inl rfl) rfl rfl) rfl rfl (by decide) ?_
  refine r_new (v := .op [.int _ _]) (q_box (.inl rfl) rfl rfl) rfl rfl (by decide) ?_
  refine r_val (v := .nils) (v_assign (.inl rfl) (noOwn_flat rfl)) rfl rfl (by decide) ?_
  refine r_nil ?_
  refine a_seq ?_
  refine a_region ?_
  refine r_new (v := .op [.nils]) (q_alloc czc22) rfl rfl (by decide) ?_
  refine r_nil ?_
  refine a_seq ?_
  refine a_region ?_
  refine r_new (v := .op [.undef]) (q_alloc czc70) rfl rfl (by decide) ?_
  refine r_nil ?_
  refine a_pre (ent_nil_at (t := 7) (r := [0]) (sz := 1) rfl (.inl rfl) rfl rfl) ?_
  refine a_link chRho 5 (fun gv e V hV => ?_)
  have hds : ∀ (t : Nat), (∀ j, j < 5 → chRho j ≠ t) → ∀ j, j < V.length → chRho j ≠ t := fun t h j hj => h j (by omega)
  refine l_region (fun s => Ent s (look [(7, outO []), (5, .op [.int .i64 60]), (4, .op [.int .i64 ((l + 1 : Nat) : Int)]), (3, .op [.int .i64 (n : Nat)]), (8, .op [.that 47 V]), (6, .nils)])) ?_ (by rw [hV]; exact lt5 rfl rfl rfl rfl rfl) (fun s hs => ?_)
  · refine lr_val (v := .fn _ _ _) (v_makeFunc (first := []) (caps := [.tmp 7, .tmp 5, .tmp 4, .tmp 3, .tmp 8]) rfl rfl) rfl rfl (by decide) (hds 9 (by decide)) ?_
    refine lr_that (f := 47) (t := 9) (by rw [hV]; rfl) (by rw [hV]; exact lt5 ⟨_, rfl⟩ ⟨_, rfl⟩ ⟨_, rfl⟩ ⟨_, rfl⟩ ⟨_, rfl⟩) ?_
    refine lr_of ?_
    refine r_step rfl (o_store (v := .that _ _) (y' := .op [.that _ _]) rfl rfl cta70 (.inl rfl) (.inl rfl) rfl rfl rfl rfl rfl rfl (Nat.le_of_ble_eq_true rfl) (by decide) rfl rfl) ?_
    refine r_nil ?_
    exact ent_look ⟨Weak.of_eq rfl, Weak.of_eq rfl, Weak.of_eq rfl, Weak.of_eq rfl, Weak.of_eq rfl, Weak.of_eq rfl, trivial⟩
  refine l_pre hs ?_
  refine l_region (fun s => Ent s (look [(7, outO (chR 1 n (l + 1) 1 [])), (6, .nils)])) ?_ (by rw [hV]; exact lt5 rfl rfl rfl rfl rfl) (fun s hs => ?_)
  · refine lr_val (v := .that _ _) (v_load_rp (c := .that 47 V) cta70 (.inl rfl) rfl (fun _ => rfl)) rfl rfl (by decide) (hds 10 (by decide)) ?_
    refine lr_clo (m := 5) (ρ := chRho) (xvs := [.nils, .int .i64 1]) (xargs := [.nils, .int .i64 ((1 : Nat) : Int)]) (objs := growO (l + 1) n V []) (objs2 := growO (l + 1) n V ([] ++ chR 1 n (l + 1) 1 [])) (Lk := [(6, .nils)])
      rfl rfl chb47 rfl (by decide) (by decide) rfl ⟨.inl rfl, .inl rfl, trivial⟩ ⟨seen_nils, seen_int, trivial⟩ (by exact grow0_c n (l + 1) hn hm V hV n 1 l [] (by omega) rfl) rfl rfl (lt5 rfl rfl rfl rfl rfl) chRho_inj
      (fun j hj => lt5 (p := fun j => ∃ cs, (growO (l + 1) n V [])[j]? = some (AV.op cs)) ⟨_, rfl⟩ ⟨_, rfl⟩ ⟨_, rfl⟩ ⟨_, rfl⟩ ⟨_, rfl⟩ j (by omega)) (lt5 rfl rfl rfl rfl rfl) (lt5 rfl rfl rfl rfl rfl) (lt5 (by show noSh (outO _) = true; simp [outO, noSh, noShL, osls_noSh]) rfl rfl rfl rfl) (by omega) (by decide) (by rw [hV]; simp [INH]) ⟨⟨rfl, stay_own rfl, by decide⟩, trivial⟩ rfl ?_
    refine r_nil ?_
    exact ent_look ⟨Weak.of_eq ((tau_root chRho_inj (j := 0) (by decide)).trans rfl), Weak.of_eq (tau_low (by decide)), trivial⟩
  refine l_pre hs ?_
  refine l_of (a_seq ?_)
  refine a_region ?_
  refine r_val (v := .rsl _ _ _ _ _) (v_load_rp (c := .osl _ _ _ _) cta22 (.inl rfl) rfl (fun _ => rfl)) rfl rfl (by decide) ?_
  refine r_val (v := .rsl _ _ _ _ _) (v_assign (.inl rfl) (noOwn_flat rfl)) rfl rfl (by decide) ?_
  refine r_nil ?_
  refine a_pre (ent_reloc_sl (t := 6) rfl rfl) ?_
  refine a_ret ?_
  exact ret1 Try.results25 (by decide) (by decide) (Weak.osl rfl rfl) rfl Leaves.nil
end Go.Av
namespace Go.Av
open Go Go.Proofs Go.Sort
set_option maxRecDepth 10000
theorem hb22 : hasBody Try.prog 22 = true := by kernel_rfl
theorem hb34 : hasBody Try.prog 34 = true := by kernel_rfl

theorem l4ChooseS_c (n d u l : Nat) (s : Int) (pre : List Int) (F : List (List Int)) (hn : n ≤ 12) (hs : s = 1 ∨ s = -1) (hud : u + d = n + 1) (hpl : pre.length + l ≤ 13) (hsm : SmI pre) (ih : ∀ (d2 u2 l2 : Nat) (pre2 : List Int) (F2 : List (List Int)), d2 < d → u2 + d2 = n + 1 → pre2.length + l2 ≤ 13 → SmI pre2 → ACall Try.prog 22 [.agg [.int .i64 ((n : Nat) : Int), .rsl (INH, []) 1 0 (accS F2).length none], .int .i64 ((u2 : Nat) : Int), .int .i64 ((l2 : Nat) : Int), .int .i64 s, .sl (icells pre2) pre2.length] [.osl 1 (osls (accS F2)) (accS F2).length none] (.agg [.int .i64 ((n : Nat) : Int), .osl 1 (osls (accS (F2 ++ chR s d2 l2 u2 pre2))) (accS (F2 ++ chR s d2 l2 u2 pre2)).length none]) [.undef]) : ACall Try.prog 22 [.agg [.int .i64 ((n : Nat) : Int), .rsl (INH, []) 1 0 (accS F).length none], .int .i64 ((u : Nat) : Int), .int .i64 ((l : Nat) : Int), .int .i64 s, .sl (icells pre) pre.length] [.osl 1 (osls (accS F)) (accS F).length none] (.agg [.int .i64 ((n : Nat) : Int), .osl 1 (osls (accS (F ++ chR s d l u pre))) (accS (F ++ chR s d l u pre)).length none]) [.undef] := by
  have h61 := accS_len61 F
  refine ACall.intro Try.func22 rfl (N := 45) rfl (by decide) (by simp) ?_
  refine a_seq ?_
  refine a_region ?_
  refine r_pre (ent_reloc_at_sl (t := 0) (r := [1]) rfl (by decide) rfl rfl) ?_
  refine r_step rfl (o_box_own (v := .agg [.int _ _, .osl _ _ _ _]) rfl rfl (by decide) (by decide) rfl rfl (by simp [cellsOf, noRefL, noRef, osls_noRef]) rfl) ?_
  refine r_new (v := .op [.int _ _, .nils]) (q_alloc zc24) rfl rfl (by decide) ?_
  refine r_nil ?_
  refine a_seq ?_
  refine a_seq ?_
  refine a_region ?_
  refine r_val (v := .int _ _) (v_move (.inl rfl) (noOwn_flat rfl)) rfl rfl (by decide) ?_
  refine r_val (v := .bool _) (v_eql (.inl rfl) (.inl rfl)) rfl rfl (by decide) ?_
  refine r_nil ?_
  refine a_cond rfl (fun ht13 => ?_) (fun ht13 => ?_)
  ·
    skip
    refine a_seq ?_
    refine a_region ?_
    refine r_val (v := .agg [.int _ _, .rsl _ _ _ _ _]) (v_load_rpa (xs := [.int _ _, .osl _ _ _ _]) ta24 (.inl rfl) rfl rfl (fun _ => take_get rfl)) rfl rfl (by decide) ?_
    refine r_val (v := .sl _ _) (v_move (.inl rfl) (noOwn_flat rfl)) rfl rfl (by decide) ?_
    refine r_step rfl (o_callIO (q := (5, [1])) (vs := [.agg [.int _ _, .rsl _ _ _ _ _], .sl _ _]) (args := [.agg [.int .i64 _, .rsl (INH, []) _ _ _ _], .sl _ _]) (x0 := .osl _ _ _ _) (x1 := .undef) (res := .agg [.int _ _, .osl _ _ _ _]) rfl hb34 rfl (by decide) ⟨.inl rfl, .inl rfl, trivial⟩ rfl (l2_eq rfl rfl) (l4Add_c ((n : Nat) : Int) F pre (by omega) hsm) rfl (by simp [noSh, noShL, osls_noSh]) (by simp [noRef, noRefL, osls_noRef]) rfl rfl (Nat.le_of_ble_eq_true rfl) (by decide) rfl) ?_
    refine r_step rfl (o_store_own (v := .agg [.int _ _, .osl _ _ _ _]) (y' := .op [.int _ _, .osl _ _ _ _]) rfl rfl ta24 (.inl rfl) (by decide) rfl (by decide) rfl (by simp [cellsOf, noRefL, noRef, osls_noRef]) rfl rfl rfl rfl rfl (Nat.le_of_ble_eq_true rfl) rfl rfl) ?_
    refine r_nil ?_
    refine a_ret ?_
    refine retC1 (r := .cell 10 24) Try.results22 ⟨by decide, _, cell_agg rfl ta24, rfl⟩ (by decide) (Weak.of_eq (agg_eq (l2_eq (int_eq ?_) (osl_eq2 ?_ ?_)))) rfl (Leaves.one Weak.undef rfl)
    · rfl
    · rw [show l = 0 by simp at ht13; omega, chR_z]
    · rw [show l = 0 by simp at ht13; omega, chR_z]
  ·
    skip
    refine a_skip ?_
    refine a_seq ?_
    refine a_seq ?_
    have hl1 : l ≠ 0 := (by simp at ht13; omega)
    obtain ⟨l, rfl⟩ : ∃ m, l = m + 1 := ⟨l - 1, by omega⟩
    refine a_region ?_
    refine r_val (v := .int _ _) (v_move (.inl rfl) (noOwn_flat rfl)) rfl rfl (by decide) ?_
    refine r_val (v := .int _ _) (v_assign (.inl rfl) (noOwn_flat rfl)) rfl rfl (by decide) ?_
    refine r_nil ?_
    refine a_block ?_
    refine a_loop (X := Nat × List (List Int)) (fun x => look [(2, .int .i64 (((l + 1) : Nat) : Int)), (3, .int .i64 s), (4, .sl (icells pre) pre.length), (5, .op [.int .i64 ((n : Nat) : Int), .osl 1 (osls (accS (F ++ x.2))) (accS (F ++ x.2)).length none]), (10, .op [.int .i64 0, .nils]), (11, .int .i64 ((x.1 : Nat) : Int))]) (fun x => u ≤ x.1 ∧ x.1 ≤ n + 1 ∧ x.2 ++ chR s (n + 1 - x.1) (l + 1) x.1 pre = chR s d (l + 1) u pre) (fun x => n + 1 - x.1) (u, []) (ent_look ⟨Weak.of_eq rfl, Weak.of_eq rfl, Weak.of_eq rfl, Weak.of_eq (by rw [List.append_nil]; rfl), Weak.of_eq rfl, Weak.of_eq rfl, trivial⟩) ⟨Nat.le_refl _, by omega, by rw [List.nil_append, show n + 1 - u = d by omega]⟩ (fun ⟨v, A⟩ hG => ?_)
    obtain ⟨g1, g2, g3⟩ := hG
    dsimp only at g1 g2 g3
    have h61a := accS_len61 (F ++ A)
    refine a_seq ?_
    refine a_seq ?_
    refine a_region ?_
    refine r_val (v := .int _ _) (v_move (.inl rfl) (noOwn_flat rfl)) rfl rfl (by decide) ?_
    refine r_val (v := .rp _ _) (v_fieldAddr_rp fo24_0 (.inl rfl)) rfl rfl (by decide) ?_
    refine r_val (v := .int _ _) (v_load_rp1 ta3 (.inl rfl) rfl (fun _ => rfl) rfl) rfl rfl (by decide) ?_
    refine r_val (v := .bool _) (v_leq (.inl rfl) (.inl rfl)) rfl rfl (by decide) ?_
    refine r_val (v := .bool _) (v_move (.inl rfl) (noOwn_flat rfl)) rfl rfl (by decide) ?_
    refine r_gval (v := .rp _ _) (v_fieldAddr_rp fo24_1 (.inl rfl)) rfl rfl rfl (by decide) (.inl ⟨_, rfl, rfl⟩) rfl (by decide) ?_
    refine r_gval (v := .rsl _ _ _ _ _) (v_load_rp (c := .osl _ _ _ _) ta22 (.inr ⟨_, rfl, fun h => h⟩) rfl (fun _ => rfl)) rfl rfl rfl (by decide) (.inl ⟨_, rfl, rfl⟩) rfl (by decide) ?_
    refine r_gval (v := .int _ _) (v_len_rsl sl22 (.inr ⟨_, rfl, fun h => h⟩)) rfl rfl rfl (by decide) (.inl ⟨_, rfl, rfl⟩) rfl (by decide) ?_
    refine r_gval (v := .bool _) (v_leq (.inr ⟨_, rfl, fun h => h⟩) (.inl rfl)) rfl rfl rfl (by decide) (.inl ⟨_, rfl, rfl⟩) rfl (by decide) ?_
    refine r_val (v := .bool _) (v_pick (.inl rfl) (.inr ⟨_, rfl, fun h h2 => by simp_all⟩) (.inl rfl)) rfl rfl (by decide) ?_
    refine r_nil ?_
    refine a_cond rfl (fun ht27 => ?_) (fun ht27 => ?_)
    ·
      skip
      refine a_skip ?_
      refine a_seq ?_
      refine a_block ?_
      have hcv : v ≤ n ∧ (accS (F ++ A)).length ≤ 60 := (by simp at ht27; omega)
      have hlx : (pre ++ [s * ((v : Nat) : Int)]).length = pre.length + 1 := (by simp)
      have hs1 : s * ((v : Nat) : Int) = (v : Nat) ∨ s * ((v : Nat) : Int) = -((v : Nat) : Int) := (by rcases hs with rfl | rfl; exact .inl (Int.one_mul _); exact .inr (by rw [Int.neg_mul, Int.one_mul]))
      have hsm2 : SmI (pre ++ [s * ((v : Nat) : Int)]) := SmI.of (by intro x hx; rcases List.mem_append.1 hx with hx | hx; exact SmI.mem hsm hx; simp only [List.mem_singleton] at hx; omega)
      have hstep : (A ++ chR s (n - v) l (v + 1) (pre ++ [s * ((v : Nat) : Int)])) ++ chR s (n + 1 - (v + 1)) (l + 1) (v + 1) pre = chR s d (l + 1) u pre := (by rw [← g3, show n + 1 - v = (n - v) + 1 by omega, chR_s, List.append_assoc, show n + 1 - (v + 1) = n - v by omega])
      refine a_region_z (n := 13) [[(30, true)], [(31, true)], [(32, true)], [(33, true)], [(34, true)], [(35, true)], [(36, true)], [(37, true)], [(38, true)], [(39, true)], [(40, true)], [(41, true)], [(37, false), (42, true)]] mixed (by kernel_rfl) ?_
      refine z_val (v := .agg [.int _ _, .rsl _ _ _ _ _]) (v_load_rpa (xs := [.int _ _, .osl _ _ _ _]) ta24 (.inl rfl) rfl rfl (fun _ => take_get rfl)) rfl rfl (by decide) rfl (by kernel_rfl) ?_
      refine z_val (v := .int _ _) (v_move (.inl rfl) (noOwn_flat rfl)) rfl rfl (by decide) rfl (by kernel_rfl) ?_
      refine z_val (v := .int .i64 ((v + 1 : Nat) : Int)) ((v_add (.inl rfl) (.inl rfl) (fun _ => by omega)).cast (int_eq (by omega))) rfl rfl (by decide) rfl (by kernel_rfl) ?_
      refine z_val (v := .int _ _) (v_move (.inl rfl) (noOwn_flat rfl)) rfl rfl (by decide) rfl (by kernel_rfl) ?_
      refine z_val (v := .int .i64 ((l : Nat) : Int)) ((v_sub (.inl rfl) (.inl rfl) (fun _ => by omega)).cast (int_eq (by omega))) rfl rfl (by decide) rfl (by kernel_rfl) ?_
      refine z_val (v := .int _ _) (v_move (.inl rfl) (noOwn_flat rfl)) rfl rfl (by decide) rfl (by kernel_rfl) ?_
      refine z_val (v := .sl _ _) (v_move (.inl rfl) (noOwn_flat rfl)) rfl rfl (by decide) rfl (by kernel_rfl) ?_
      refine z_new (v := .osl _ _ _ _) (q_call (vs := [.sl _ _]) (args := [.sl _ _]) hb46 ⟨.inl rfl, trivial⟩ rfl (fun hA => l1Own_c pre pre.length ⟨rfl, by omega⟩) (ic_noSh _) (ic_noRef _)) rfl rfl (by decide) rfl (by kernel_rfl) ?_
      refine z_val (v := .int _ _) (v_move (.inl rfl) (noOwn_flat rfl)) rfl rfl (by decide) rfl (by kernel_rfl) ?_
      refine z_val (v := .int _ _) (v_move (.inl rfl) (noOwn_flat rfl)) rfl rfl (by decide) rfl (by kernel_rfl) ?_
      refine z_val (v := .int _ _) (v_mul (.inl rfl) (.inl rfl) (fun _ => by dsimp only; omega)) rfl rfl (by decide) rfl (by kernel_rfl) ?_
      refine z_new (v := .osl _ _ _ _) (q_sliceLit (n := 1) (parts := [(0, .tmp 40)]) lt42 rfl rfl rfl rfl) rfl rfl (by decide) rfl (by kernel_rfl) ?_
      refine z_append rfl rfl ap42 rfl (by decide) (by decide) (by decide) rfl (src_lit (.inl rfl) rfl rfl rfl) rfl (by simp [icells_length]) (by omega) rfl (by kernel_rfl) ?_
      refine z_nil ?_
      refine r_pre (ent_eq (t := 42) (v' := .osl 1 (icells (pre ++ [s * ((v : Nat) : Int)])) (pre ++ [s * ((v : Nat) : Int)]).length none) (Weak.osl (by rw [icells_append]; rfl) hlx.symm)) ?_
      refine r_step rfl (o_callIO (q := (5, [1])) (vs := [.agg [.int _ _, .rsl _ _ _ _ _], .int _ _, .int _ _, .int _ _, .rsl _ _ _ _ _]) (args := [.agg [.int _ _, .rsl (INH, []) _ _ _ _], .int .i64 _, .int .i64 _, .int .i64 _, .sl _ _]) (x0 := .osl _ _ _ _) (x1 := .undef) (res := .agg [.int _ _, .osl _ _ _ _]) rfl hb22 rfl (by decide) ⟨.inl rfl, .inl rfl, .inl rfl, .inl rfl, .inl rfl, trivial⟩ rfl (l5_eq rfl rfl rfl rfl (sl_sh (ic_pure _))) (ih (n - v) (v + 1) l (pre ++ [s * ((v : Nat) : Int)]) (F ++ A) (by omega) (by omega) (by rw [hlx]; omega) hsm2) rfl (by simp [noSh, noShL, osls_noSh]) (by simp [noRef, noRefL, osls_noRef]) rfl rfl (Nat.le_of_ble_eq_true rfl) (by decide) rfl) ?_
      refine r_step rfl (o_store_own (v := .agg [.int _ _, .osl _ _ _ _]) (y' := .op [.int _ _, .osl _ _ _ _]) rfl rfl ta24 (.inl rfl) (by decide) rfl (by decide) rfl (by simp [cellsOf, noRefL, noRef, osls_noRef]) rfl rfl rfl rfl rfl (Nat.le_of_ble_eq_true rfl) rfl rfl) ?_
      refine r_nil ?_
      refine a_region ?_
      refine r_val (v := .int _ _) (v_move (.inl rfl) (noOwn_flat rfl)) rfl rfl (by decide) ?_
      refine r_val (v := .int _ _) (v_add (.inl rfl) (.inl rfl) (fun _ => by omega)) rfl rfl (by decide) ?_
      refine r_val (v := .int _ _) (v_assign (.inl rfl) (noOwn_flat rfl)) rfl rfl (by decide) ?_
      refine r_nil ?_
      refine ⟨(v + 1, A ++ chR s (n - v) l (v + 1) (pre ++ [s * ((v : Nat) : Int)])), ent_look ⟨Weak.of_eq rfl, Weak.of_eq rfl, Weak.of_eq rfl, Weak.of_eq (by rw [← List.append_assoc]; rfl), Weak.of_eq rfl, Weak.of_eq (int_eq (by omega)), trivial⟩, ⟨by dsimp only; omega, by dsimp only; omega, hstep⟩, by dsimp only; omega⟩
    ·
      skip
      refine a_exit ?_
      refine a_seq ?_
      have hfin : accS (F ++ A) = accS (F ++ chR s d (l + 1) u pre) := (by rw [← g3, ← List.append_assoc]; by_cases h : v ≤ n; exact (accS_stop (by simp at ht27; omega)).symm; rw [show n + 1 - v = 0 by omega, chR_n, List.append_nil])
      refine a_region ?_
      refine r_val (v := .agg [.int _ _, .rsl _ _ _ _ _]) (v_load_rpa (xs := [.int _ _, .osl _ _ _ _]) ta24 (.inl rfl) rfl rfl (fun _ => take_get rfl)) rfl rfl (by decide) ?_
      refine r_pre (ent_reloc_at_sl (t := 44) (r := [1]) rfl (by decide) rfl rfl) ?_
      refine r_step rfl (o_store_own (v := .agg [.int _ _, .osl _ _ _ _]) (y' := .op [.int _ _, .osl _ _ _ _]) rfl rfl ta24 (.inl rfl) (by decide) rfl (by decide) rfl (by simp [cellsOf, noRefL, noRef, osls_noRef]) rfl rfl rfl rfl rfl (Nat.le_of_ble_eq_true rfl) rfl rfl) ?_
      refine r_nil ?_
      refine a_ret ?_
      refine retC1 (r := .cell 10 24) Try.results22 ⟨by decide, _, cell_agg rfl ta24, rfl⟩ (by decide) (Weak.of_eq (agg_eq (l2_eq (int_eq ?_) (osl_eq2 ?_ ?_)))) rfl (Leaves.one Weak.undef rfl)
      all_goals (first | rfl | rw [hfin])
end Go.Av
namespace Go.Av
open Go
theorem chR_length (s : Int) : ∀ (d l u : Nat) (pre : List Int), (chR s d l u pre).length ≤ 2 ^ d
  | 0, 0, _, _ => by simp [chR]
  | 0, _ + 1, _, _ => by simp [chR]
  | d + 1, 0, u, pre => by rw [chR_z]; exact Nat.one_le_two_pow
  | d + 1, l + 1, u, pre => by
    rw [chR_s, List.length_append, Nat.pow_succ]
    have h1 := chR_length s d l (u + 1) (pre ++ [s * (u : Int)])
    have h2 := chR_length s d (l + 1) (u + 1) pre
    omega
theorem ch_good {s : Int} (hs : s = 1 ∨ s = -1) {n l : Nat} (hn : n ≤ 12) (hl : l ≤ 13) : goodB 144 (chR s n l 1 []) = true := by
  unfold goodB
  have h2 : (chR s n l 1 []).length ≤ 5000 := Nat.le_trans (chR_length s n l 1 []) (Nat.le_trans (Nat.pow_le_pow_right (by omega) hn) (by decide))
  rw [decide_eq_true h2, Bool.true_and, List.all_eq_true]
  intro c hc
  obtain ⟨ns, h1, h3, h4, _⟩ := chR_mem hc
  rw [List.nil_append] at h1
  subst h1
  simp only [List.length_map, Bool.and_eq_true, decide_eq_true_eq, List.all_eq_true, List.mem_map]
  refine ⟨by omega, ?_⟩
  rintro x ⟨v, hv, rfl⟩
  have := h4 v hv
  rcases hs with rfl | rfl
  · rw [Int.one_mul]; omega
  · rw [Int.neg_mul, Int.one_mul]; omega
theorem goodB_take {F : List (List Int)} (h : goodB 144 F = true) (k : Nat) : goodB 144 (F.take k) = true := by
  simp only [goodB, Bool.and_eq_true, decide_eq_true_eq, List.all_eq_true] at h ⊢
  exact ⟨by rw [List.length_take]; omega, fun l hl => h.2 l (List.mem_of_mem_take hl)⟩
theorem cnfB_big {vars : Int} {L : List (List Int)} (h : 60 < L.length) : cnfB vars L = false := by
  unfold cnfB; rw [decide_eq_false (by omega)]; simp
/-- Positive numbers in ascending order are a clause as they stand. -/
theorem put_end {out : List Int} {x : Int} (h : ∀ y ∈ out, vr y < vr x) : putL out x = out ++ [x] := by
  induction out with
  | nil => rfl
  | cons y out ih => rw [putL, if_pos (h y (by simp)), ih fun z hz => h z (by simp [hz])]; rfl
theorem vr_pos {x : Int} (h : 0 < x) : vr x = x := by unfold vr; first | omega | (rw [if_neg (by omega)]) | (split <;> omega)
theorem join_asc : ∀ (b out : List Int), (∀ x ∈ out ++ b, 0 < x) → (out ++ b).Pairwise (· < ·) → joinL out b = some (out ++ b)
  | [], out, _, _ => by rw [joinL, List.append_nil]
  | x :: b, out, hp, ha => by
    have h1 := hp x (by simp)
    have h2 : ∀ y ∈ out, y < x := fun y hy => (List.pairwise_append.1 ha).2.2 y hy x (by simp)
    have h3 : ¬ -x ∈ out := fun h => by have := hp (-x) (by simp [h]); omega
    have h4 : ¬ x ∈ out := fun h => by have := h2 x h; omega
    rw [joinL, if_neg h3, if_neg h4, put_end fun y hy => by rw [vr_pos (hp y (by simp [hy])), vr_pos h1]; exact h2 y hy]
    have e : out ++ x :: b = (out ++ [x]) ++ b := by simp
    rw [e] at hp ha ⊢
    exact join_asc b (out ++ [x]) hp ha
theorem ch_asc {n l : Nat} {c : List Int} (hc : c ∈ chR 1 n l 1 []) : (∀ x ∈ c, 0 < x) ∧ c.Pairwise (· < ·) := by
  obtain ⟨ns, h1, _, h4, h5⟩ := chR_mem hc
  rw [List.nil_append] at h1
  subst h1
  refine ⟨?_, ?_⟩
  · rintro x hx
    obtain ⟨v, hv, rfl⟩ := List.mem_map.1 hx
    have := h4 v hv; omega
  · rw [List.pairwise_map]
    exact h5.imp fun h => by omega
theorem jc_ch {n l : Nat} {c : List Int} (hc : c ∈ chR 1 n l 1 []) : jc c = c := by
  obtain ⟨h1, h2⟩ := ch_asc hc
  unfold jc; rw [join_asc c [] (by simpa using h1) (by simpa using h2)]; rfl
theorem accJ_ch (n l : Nat) : accJ (chR 1 n l 1 []) = chR 1 n l 1 [] := by
  unfold accJ
  conv => rhs; rw [← List.map_id (chR 1 n l 1 [])]
  exact List.map_congr_left fun c hc => jc_ch hc
/-- At least k of the numbers. -/
def alF (n k : Nat) : List (List Int) := if k = 0 then [] else chR 1 n (n + 1 - k) 1 []
theorem al_good {n k : Nat} (hn : n ≤ 12) (hk : k ≤ 12) : goodB 144 (alF n k) = true := by
  unfold alF; split
  · rfl
  · exact ch_good (.inl rfl) hn (by omega)
theorem al_J (n k : Nat) : accJ (alF n k) = alF n k := by
  unfold alF; split
  · rfl
  · exact accJ_ch _ _
theorem al_okT {vars : Int} (hv : -9223372036854775808 ≤ vars ∧ vars ≤ 9223372036854775807) {n k : Nat} (hn : n ≤ 12) (hk : k ≤ 12) : CnfOk vars ((alF n k).take 61) := by
  have h := goodB_take (al_good hn hk) 61
  have h2 := goodB_okM hv h
  rw [goodB_J h] at h2
  rw [show (alF n k).take 61 = accJ ((alF n k).take 61) by unfold accJ; rw [List.map_take]; exact congrArg (List.take 61) (al_J n k).symm]
  exact h2
/-- What it gives. -/
theorem res_A {vars : Int} {n k : Nat} {c : Bool} (hc : c = true) : cnfB vars ((alF n k).take 61) = (c && cnfB vars (accJ (alF n k))) ∧ resL (cnfB vars ((alF n k).take 61)) ((alF n k).take 61) = resL (c && cnfB vars (accJ (alF n k))) (accJ (alF n k)) := by
  rw [al_J]
  rcases Nat.lt_or_ge 61 (alF n k).length with h1 | h1
  · rw [cnfB_big (by rw [List.length_take]; omega), cnfB_big (L := alF n k) (by omega)]
    cases c <;> exact ⟨rfl, rfl⟩
  · rw [List.take_of_length_le h1, hc, Bool.true_and]; exact ⟨rfl, rfl⟩
theorem al_big {n k : Nat} (h : n < k) : alF n k = [[]] := by
  unfold alF; rw [if_neg (by omega), show n + 1 - k = 0 by omega, chR_z]
theorem al_mid {n k : Nat} (h : 0 < k) : alF n k = chR 1 n (n + 1 - k) 1 [] := by unfold alF; rw [if_neg (by omega)]
theorem cnfB_none {vars : Int} (h : inR vars 0 12 = true) : cnfB vars [] = true := by unfold cnfB; rw [h]; rfl
theorem mc_nil : mc [] = [] := (mc_jc (SmI.of (by simp)) (by simp)).trans rfl
end Go.Av
namespace Go.Av
open Go Go.Proofs Go.Sort
set_option maxRecDepth 10000



end Go.Av
namespace Go.Av
open Go Go.Proofs Go.Sort
set_option maxRecDepth 10000



end Go.Av
namespace Go.Av
open Go Go.Proofs Go.Sort
set_option maxRecDepth 10000



end Go.Av
namespace Go.Av
open Go Go.Proofs Go.Sort
set_option maxRecDepth 10000



end Go.Av
namespace Go.Av
open Go Go.Proofs Go.Sort
set_option maxRecDepth 10000



end Go.Av
namespace Go.Av
open Go Go.Proofs Go.Sort
set_option maxRecDepth 10000



end Go.Av
namespace Go.Av
open Go Go.Proofs Go.Sort
set_option maxRecDepth 10000
theorem hb32 : hasBody Try.prog 32 = true := by kernel_rfl
theorem l1Most_c (a b : Int) : ACall Try.prog 32 [.int .i64 a, .int .i64 b] [] (.int .i64 (max a b)) [] := by
  refine ACall.intro Try.func32 rfl (N := 10) rfl (by decide) (by simp) ?_
  refine a_seq ?_
  refine a_region ?_
  refine r_val (v := .int _ _) (v_assign (.inl rfl) (noOwn_flat rfl)) rfl rfl (by decide) ?_
  refine r_nil ?_
  refine a_seq ?_
  refine a_seq ?_
  refine a_region ?_
  refine r_val (v := .int _ _) (v_move (.inl rfl) (noOwn_flat rfl)) rfl rfl (by decide) ?_
  refine r_val (v := .int _ _) (v_move (.inl rfl) (noOwn_flat rfl)) rfl rfl (by decide) ?_
  refine r_val (v := .bool _) (v_gtr (.inl rfl) (.inl rfl)) rfl rfl (by decide) ?_
  refine r_nil ?_
  refine a_cond rfl (fun ht7 => ?_) (fun ht7 => ?_)
  ·
    skip
    refine a_seq ?_
    refine a_region ?_
    refine r_val (v := .int _ _) (v_move (.inl rfl) (noOwn_flat rfl)) rfl rfl (by decide) ?_
    refine r_val (v := .int _ _) (v_assign (.inl rfl) (noOwn_flat rfl)) rfl rfl (by decide) ?_
    refine r_nil ?_
    refine a_ret ?_
    refine ret1 Try.results32 (by decide) (by decide) (Weak.of_eq (int_eq ?_)) rfl Leaves.nil
    simp at ht7; omega
  ·
    skip
    refine a_skip ?_
    refine a_seq ?_
    refine a_region ?_
    refine r_val (v := .int _ _) (v_move (.inl rfl) (noOwn_flat rfl)) rfl rfl (by decide) ?_
    refine r_val (v := .int _ _) (v_assign (.inl rfl) (noOwn_flat rfl)) rfl rfl (by decide) ?_
    refine r_nil ?_
    refine a_ret ?_
    refine ret1 Try.results32 (by decide) (by decide) (Weak.of_eq (int_eq ?_)) rfl Leaves.nil
    simp at ht7; omega

end Go.Av
namespace Go.Av
open Go Go.Proofs Go.Sort
set_option maxRecDepth 10000



end Go.Av
namespace Go.Av
open Go Go.Proofs Go.Sort
set_option maxRecDepth 10000



end Go.Av
namespace Go.Av
open Go Go.Proofs Go.Sort
set_option maxRecDepth 10000



end Go.Av
namespace Go.Av
open Go Go.Proofs Go.Sort
set_option maxRecDepth 10000


end Go.Av
namespace Go.Av
open Go Go.Proofs Go.Sort
set_option maxRecDepth 10000



end Go.Av
namespace Go.Av
open Go Go.Proofs Go.Sort
set_option maxRecDepth 10000



end Go.Av
namespace Go.Av
open Go Go.Proofs Go.Sort
set_option maxRecDepth 10000



end Go.Av
namespace Go.Av
open Go Go.Proofs Go.Sort
set_option maxRecDepth 10000



end Go.Av
namespace Go.Av
open Go Go.Proofs Go.Sort
set_option maxRecDepth 10000


end Go.Av
namespace Go.Av
open Go Go.Proofs Go.Sort
set_option maxRecDepth 10000



end Go.Av
namespace Go.Av
open Go Go.Proofs Go.Sort
set_option maxRecDepth 10000



end Go.Av
namespace Go.Av
open Go Go.Proofs Go.Sort
set_option maxRecDepth 10000



end Go.Av
namespace Go.Av
open Go Go.Proofs Go.Sort
set_option maxRecDepth 10000



end Go.Av
namespace Go.Av
open Go Go.Proofs Go.Sort
set_option maxRecDepth 10000



end Go.Av
namespace Go.Av
open Go Go.Proofs Go.Sort
set_option maxRecDepth 10000



end Go.Av
namespace Go.Av
open Go Go.Proofs Go.Sort
set_option maxRecDepth 10000


end Go.Av
namespace Go.Av
open Go Go.Proofs Go.Sort
set_option maxRecDepth 10000
theorem hb21 : hasBody Try.prog 21 = true := by kernel_rfl
theorem hb23 : hasBody Try.prog 23 = true := by kernel_rfl
theorem hb25 : hasBody Try.prog 25 = true := by kernel_rfl
theorem hb26 : hasBody Try.prog 26 = true := by kernel_rfl
theorem hb28 : hasBody Try.prog 28 = true := by kernel_rfl
theorem sp45 : structPl Try.prog 45 = some ([.int .i64 0, .nils], [(0, 1), (1, 1)]) := by kernel_rfl

theorem l4Choose_c (n : Nat) (s : Int) (hn : n ≤ 12) (hs : s = 1 ∨ s = -1) : ∀ (d u l : Nat) (pre : List Int) (F : List (List Int)), u + d = n + 1 → pre.length + l ≤ 13 → SmI pre → ACall Try.prog 22 [.agg [.int .i64 ((n : Nat) : Int), .rsl (INH, []) 1 0 (accS F).length none], .int .i64 ((u : Nat) : Int), .int .i64 ((l : Nat) : Int), .int .i64 s, .sl (icells pre) pre.length] [.osl 1 (osls (accS F)) (accS F).length none] (.agg [.int .i64 ((n : Nat) : Int), .osl 1 (osls (accS (F ++ chR s d l u pre))) (accS (F ++ chR s d l u pre)).length none]) [.undef] := by
  intro d
  induction d using Nat.strongRecOn with
  | _ d ih =>
    intro u l pre F h1 h2 h3
    exact l4ChooseS_c n d u l s pre F hn hs h1 h2 h3 (fun d2 u2 l2 pre2 F2 hd a b c => ih d2 hd u2 l2 pre2 F2 a b c)

end Go.Av
namespace Go.Av
open Go Go.Proofs Go.Sort
set_option maxRecDepth 10000


theorem iAtLeast_c (n k : Int) : ACall Try.prog 13 [.int .i64 n, .int .i64 k] [] (.tup [.agg [.int .i64 (resV ((inR n 0 12 && inR k 0 12) && cnfB n (accJ (alF n.toNat k.toNat))) n), .osl 1 (osls (resL ((inR n 0 12 && inR k 0 12) && cnfB n (accJ (alF n.toNat k.toNat))) (accJ (alF n.toNat k.toNat)))) (resL ((inR n 0 12 && inR k 0 12) && cnfB n (accJ (alF n.toNat k.toNat))) (accJ (alF n.toNat k.toNat))).length none], .bool ((inR n 0 12 && inR k 0 12) && cnfB n (accJ (alF n.toNat k.toNat)))]) [] := by
  refine ACall.intro Try.func13 rfl (N := 41) rfl (by decide) (by simp) ?_
  refine a_seq ?_
  refine a_region ?_
  refine r_new (v := .op [.int _ _, .nils]) (q_alloc zc24) rfl rfl (by decide) ?_
  refine r_val (v := .bool _) (v_assign (.inl rfl) (noOwn_flat rfl)) rfl rfl (by decide) ?_
  refine r_nil ?_
  refine a_seq ?_
  refine a_seq ?_
  refine a_region ?_
  refine r_val (v := .int _ _) (v_move (.inl rfl) (noOwn_flat rfl)) rfl rfl (by decide) ?_
  refine r_new (v := .bool _) (q_call (vs := [.int _ _, .int _ _, .int _ _]) (args := [.int .i64 _, .int .i64 _, .int .i64 _]) hb24 ⟨.inl rfl, .inl rfl, .inl rfl, trivial⟩ rfl (fun hA => within_c _ _ _) rfl rfl) rfl rfl (by decide) ?_
  refine r_val (v := .bool _) (v_not (.inl rfl)) rfl rfl (by decide) ?_
  refine r_val (v := .bool _) (v_move (.inl rfl) (noOwn_flat rfl)) rfl rfl (by decide) ?_
  refine r_gval (v := .int _ _) (v_move (.inl rfl) (noOwn_flat rfl)) rfl rfl rfl (by decide) (.inl ⟨_, rfl, rfl⟩) rfl (by decide) ?_
  refine r_guard (v := .bool _) (q_call (vs := [.int _ _, .int _ _, .int _ _]) (args := [.int .i64 _, .int .i64 _, .int .i64 _]) hb24 ⟨.inr ⟨_, rfl, fun h => h⟩, .inl rfl, .inl rfl, trivial⟩ rfl (fun hA => within_c _ _ _) rfl rfl) rfl rfl rfl (by decide) (.inl ⟨_, rfl, rfl⟩) rfl (by decide) ?_
  refine r_gval (v := .bool _) (v_not (.inr ⟨_, rfl, fun h => h⟩)) rfl rfl rfl (by decide) (.inl ⟨_, rfl, rfl⟩) rfl (by decide) ?_
  refine r_val (v := .bool _) (v_pick (.inl rfl) (.inl rfl) (.inr ⟨_, rfl, fun h h2 => by simp_all⟩)) rfl rfl (by decide) ?_
  refine r_nil ?_
  refine a_cond rfl (fun ht14 => ?_) (fun ht14 => ?_)
  ·
    skip
    refine a_seq ?_
    refine a_region ?_
    refine r_val (v := .agg [.int _ _, .nils]) (v_build sp24 rfl rfl) rfl rfl (by decide) ?_
    refine r_step rfl (o_store (v := .agg [.int _ _, .nils]) (y' := .op [.int _ _, .nils]) rfl rfl ta24 (.inl rfl) (.inl rfl) rfl rfl rfl rfl rfl rfl (Nat.le_of_ble_eq_true rfl) (by decide) rfl rfl) ?_
    refine r_val (v := .bool _) (v_assign (.inl rfl) (noOwn_flat rfl)) rfl rfl (by decide) ?_
    refine r_nil ?_
    refine a_pre (ent_nil_at (t := 4) (r := [1]) (sz := 1) rfl (.inl rfl) rfl rfl) ?_
    refine a_ret ?_
    refine retL (rs := [.cell 4 24, .tmp 5]) [(4, _), (5, _)] ⟨Weak.rfl, Weak.rfl, trivial⟩ rfl Try.results13 (by decide) ⟨by decide, _, cell_agg rfl ta24, by decide, rfl⟩ (by decide) (by decide) (l2_eq (agg_eq (l2_eq (int_eq ?_) (osl_eq2 ?_ ?_))) (bool_eq ?_)) (by simp [refsL, refs])
    all_goals (have hf : ((inR n 0 12 && inR k 0 12) && cnfB n (accJ (alF n.toNat k.toNat))) = false := (by cases h1 : inR n 0 12 <;> cases h2 : inR k 0 12 <;> simp_all); simp [resV, resL, hf, osls])
  ·
    skip
    refine a_skip ?_
    refine a_seq ?_
    have hin : (inR n 0 12 && inR k 0 12) = true := (by cases h1 : inR n 0 12 <;> cases h2 : inR k 0 12 <;> simp_all)
    have hn := inR_spec.1 (by simp at hin; exact hin.1 : inR n 0 12 = true)
    have hm := inR_spec.1 (by simp at hin; exact hin.2 : inR k 0 12 = true)
    obtain ⟨a, rfl⟩ := Int.eq_ofNat_of_zero_le hn.1
    obtain ⟨b, rfl⟩ := Int.eq_ofNat_of_zero_le hm.1
    refine a_region ?_
    refine r_val (v := .int _ _) (v_move (.inl rfl) (noOwn_flat rfl)) rfl rfl (by decide) ?_
    refine r_val (v := .agg [.int _ _, .nils]) (v_build sp45 rfl rfl) rfl rfl (by decide) ?_
    refine r_new (v := .op [.int _ _, .nils]) (q_box (.inl rfl) rfl rfl) rfl rfl (by decide) ?_
    refine r_val (v := .rp _ _) (v_assign (.inl rfl) (noOwn_flat rfl)) rfl rfl (by decide) ?_
    refine r_pre (ent_reloc_op (t := 6) rfl rfl) ?_
    refine r_nil ?_
    refine a_join (X := Unit) (fun _u => look [(4, .op [.int .i64 0, .nils]), (6, .op [.int .i64 ((a : Nat) : Int), .osl 1 (osls ((alF a b).take 61)) ((alF a b).take 61).length none])]) (fun _u => True) ?_ (fun _u hJ => ?_)
    ·
      skip
      refine a_block ?_
      refine a_seq ?_
      refine a_pre (ent_nil_at (t := 6) (r := [1]) (sz := 1) rfl (.inl rfl) rfl rfl) ?_
      refine a_region ?_
      refine r_val (v := .int _ _) (v_move (.inl rfl) (noOwn_flat rfl)) rfl rfl (by decide) ?_
      refine r_val (v := .int _ _) (v_move (.inl rfl) (noOwn_flat rfl)) rfl rfl (by decide) ?_
      refine r_val (v := .bool _) (v_gtr (.inl rfl) (.inl rfl)) rfl rfl (by decide) ?_
      refine r_val (v := .bool _) (v_assign (.inl rfl) (noOwn_flat rfl)) rfl rfl (by decide) ?_
      refine r_nil ?_
      refine a_cond rfl (fun ht19 => ?_) (fun ht19 => ?_)
      ·
        skip
        have hbig : alF a b = [[]] := al_big (by have h9 := of_decide_eq_true ht19; omega)
        have hb2 : accM ([] ++ [[]]) = (alF a b).take 61 := (by rw [hbig]; unfold accM; rw [List.nil_append, List.map_cons, mc_nil]; rfl)
        refine a_region ?_
        refine r_val (v := .rp _ _) (v_move (.inl rfl) (noOwn_flat rfl)) rfl rfl (by decide) ?_
        refine r_step rfl (o_callIOp (q := (6, [])) (vs := [.rp _ _, .nils]) (args := [.rp (INH, []) _, .sl _ _]) (cs0 := [.int _ _, .osl _ _ _ _]) (cs1 := [.int _ _, .osl _ _ _ _]) (res := .tup []) rfl hb26 rfl (by decide) ⟨.inl rfl, .inl rfl, trivial⟩ rfl rfl (add_c ((a : Nat) : Int) [] [] (by simp) (by simp)) rfl rfl rfl (by simp [noSh, noShL, osls_noSh]) (by simp [noRef, noRefL, osls_noRef]) (Nat.le_of_ble_eq_true rfl) (by decide) rfl) ?_
        refine r_nil ?_
        exact ⟨(), ent_look ⟨Weak.of_eq rfl, Weak.of_eq (by rw [← hb2]; rfl), trivial⟩, trivial⟩
      ·
        skip
        refine a_seq ?_
        refine a_region ?_
        refine r_val (v := .int _ _) (v_move (.inl rfl) (noOwn_flat rfl)) rfl rfl (by decide) ?_
        refine r_val (v := .bool _) (v_gtr (.inl rfl) (.inl rfl)) rfl rfl (by decide) ?_
        refine r_val (v := .bool _) (v_assign (.inl rfl) (noOwn_flat rfl)) rfl rfl (by decide) ?_
        refine r_nil ?_
        refine a_cond rfl (fun ht25 => ?_) (fun ht25 => ?_)
        ·
          skip
          have hb0 : 0 < b := (by have h9 := of_decide_eq_true ht25; omega)
          have hba : b ≤ a := (by have h9 := of_decide_eq_false ht19; omega)
          have hmid := al_mid (n := a) hb0
          refine a_region ?_
          refine r_val (v := .rp _ _) (v_move (.inl rfl) (noOwn_flat rfl)) rfl rfl (by decide) ?_
          refine r_val (v := .int _ _) (v_move (.inl rfl) (noOwn_flat rfl)) rfl rfl (by decide) ?_
          refine r_val (v := .int _ _) (v_move (.inl rfl) (noOwn_flat rfl)) rfl rfl (by decide) ?_
          refine r_val (v := .int _ _) (v_move (.inl rfl) (noOwn_flat rfl)) rfl rfl (by decide) ?_
          refine r_val (v := .int _ _) (v_sub (.inl rfl) (.inl rfl) (fun _ => by omega)) rfl rfl (by decide) ?_
          refine r_val (v := .int .i64 ((a + 1 - b : Nat) : Int)) ((v_add (.inl rfl) (.inl rfl) (fun _ => by omega)).cast (int_eq (by omega))) rfl rfl (by decide) ?_
          refine r_new (v := .osl _ _ _ _) (q_call (vs := [.int _ _, .int _ _, .int _ _]) (args := [.int .i64 _, .int .i64 _, .int .i64 _]) hb25 ⟨.inl rfl, .inl rfl, .inl rfl, trivial⟩ rfl (fun hA => choices_c a (a + 1 - b) (by omega) (by omega) (by omega)) (osls_noSh _) (osls_noRef _)) rfl rfl (by decide) ?_
          refine r_val (v := .rp _ _) (v_nilCheck (.inl rfl) rfl) rfl rfl (by decide) ?_
          refine r_val (v := .rp _ _) (v_fieldAddr_rp fo45_1 (.inl rfl)) rfl rfl (by decide) ?_
          refine r_step rfl (o_store_own (v := .osl _ _ _ _) (y' := .op [.int _ _, .osl _ _ _ _]) rfl rfl ta22 (.inl rfl) (by decide) rfl (by decide) rfl (by simp [cellsOf, noRefL, noRef, osls_noRef]) rfl rfl rfl rfl rfl (Nat.le_of_ble_eq_true rfl) rfl rfl) ?_
          refine r_nil ?_
          exact ⟨(), ent_look ⟨Weak.of_eq rfl, Weak.of_eq (by rw [hmid]; rfl), trivial⟩, trivial⟩
        ·
          skip
          refine a_skip ?_
          have hb0 : b = 0 := (by have h9 := of_decide_eq_false ht25; omega)
          subst hb0
          exact ⟨(), ent_look ⟨Weak.of_eq rfl, Weak.of_eq rfl, trivial⟩, trivial⟩
    ·
      skip
      refine a_seq ?_
      have hrm := res_A (vars := ((a : Nat) : Int)) (n := a) (k := b) hin
      refine a_region ?_
      refine r_val (v := .rp _ _) (v_move (.inl rfl) (noOwn_flat rfl)) rfl rfl (by decide) ?_
      refine r_step rfl (o_callIO (q := (6, [])) (vs := [.rp _ _]) (args := [.rp (INH, []) _]) (x0 := .op [.int _ _, .osl _ _ _ _]) (x1 := .undef) (res := .tup [.agg [.int _ _, .osl _ _ _ _], .bool _]) rfl hb28 rfl (by decide) ⟨.inl rfl, trivial⟩ rfl rfl (cnf_c ((a : Nat) : Int) ((alF a b).take 61) (al_okT (by omega) (by omega) (by omega))) rfl (by simp [noSh, noShL, osls_noSh]) (by simp [noRef, noRefL, osls_noRef]) rfl rfl (Nat.le_of_ble_eq_true rfl) (by decide) rfl) ?_
      refine r_val (v := .agg [.int _ _, .rsl _ _ _ _ _]) (v_extract rfl rfl) rfl rfl (by decide) ?_
      refine r_val (v := .bool _) (v_extract rfl rfl) rfl rfl (by decide) ?_
      refine r_pre (ent_reloc_at_sl (t := 39) (r := [1]) rfl (by decide) rfl rfl) ?_
      refine r_step rfl (o_store_own (v := .agg [.int _ _, .osl _ _ _ _]) (y' := .op [.int _ _, .osl _ _ _ _]) rfl rfl ta24 (.inl rfl) (by decide) rfl (by decide) rfl (by simp [cellsOf, noRefL, noRef, osls_noRef]) rfl rfl rfl rfl rfl (Nat.le_of_ble_eq_true rfl) rfl rfl) ?_
      refine r_val (v := .bool _) (v_assign (.inl rfl) (noOwn_flat rfl)) rfl rfl (by decide) ?_
      refine r_nil ?_
      refine a_ret ?_
      refine retL (rs := [.cell 4 24, .tmp 5]) [(4, _), (5, _)] ⟨Weak.rfl, Weak.rfl, trivial⟩ rfl Try.results13 (by decide) ⟨by decide, _, cell_agg rfl ta24, by decide, rfl⟩ (by decide) (by decide) (l2_eq (agg_eq (l2_eq (int_eq ?_) (osl_eq2 ?_ ?_))) (bool_eq ?_)) (by simp [refsL, refs])
      all_goals (rw [Int.toNat_natCast, Int.toNat_natCast])
      all_goals (first | rw [hrm.2] | rw [hrm.1])
end Go.Av
namespace Go.Av
open Go Go.Proofs Go.Sort
set_option maxRecDepth 10000


theorem sAtLeast_c (n k : Int) : ACall Try.prog 12 [.int .i64 n, .int .i64 k] [] (.tup [.agg [.int .i64 (resV ((inR n 0 12 && inR k 0 12) && cnfB n (accJ (alF n.toNat k.toNat))) n), .osl 1 (osls (resL ((inR n 0 12 && inR k 0 12) && cnfB n (accJ (alF n.toNat k.toNat))) (accJ (alF n.toNat k.toNat)))) (resL ((inR n 0 12 && inR k 0 12) && cnfB n (accJ (alF n.toNat k.toNat))) (accJ (alF n.toNat k.toNat))).length none], .bool ((inR n 0 12 && inR k 0 12) && cnfB n (accJ (alF n.toNat k.toNat)))]) [] := by
  refine ACall.intro Try.func12 rfl (N := 31) rfl (by decide) (by simp) ?_
  refine a_seq ?_
  refine a_region ?_
  refine r_new (v := .op [.int _ _, .nils]) (q_alloc zc24) rfl rfl (by decide) ?_
  refine r_val (v := .bool _) (v_assign (.inl rfl) (noOwn_flat rfl)) rfl rfl (by decide) ?_
  refine r_nil ?_
  refine a_seq ?_
  refine a_seq ?_
  refine a_region ?_
  refine r_val (v := .int _ _) (v_move (.inl rfl) (noOwn_flat rfl)) rfl rfl (by decide) ?_
  refine r_new (v := .bool _) (q_call (vs := [.int _ _, .int _ _, .int _ _]) (args := [.int .i64 _, .int .i64 _, .int .i64 _]) hb20 ⟨.inl rfl, .inl rfl, .inl rfl, trivial⟩ rfl (fun hA => l1In_c _ _ _) rfl rfl) rfl rfl (by decide) ?_
  refine r_val (v := .bool _) (v_not (.inl rfl)) rfl rfl (by decide) ?_
  refine r_val (v := .bool _) (v_move (.inl rfl) (noOwn_flat rfl)) rfl rfl (by decide) ?_
  refine r_gval (v := .int _ _) (v_move (.inl rfl) (noOwn_flat rfl)) rfl rfl rfl (by decide) (.inl ⟨_, rfl, rfl⟩) rfl (by decide) ?_
  refine r_guard (v := .bool _) (q_call (vs := [.int _ _, .int _ _, .int _ _]) (args := [.int .i64 _, .int .i64 _, .int .i64 _]) hb20 ⟨.inr ⟨_, rfl, fun h => h⟩, .inl rfl, .inl rfl, trivial⟩ rfl (fun hA => l1In_c _ _ _) rfl rfl) rfl rfl rfl (by decide) (.inl ⟨_, rfl, rfl⟩) rfl (by decide) ?_
  refine r_gval (v := .bool _) (v_not (.inr ⟨_, rfl, fun h => h⟩)) rfl rfl rfl (by decide) (.inl ⟨_, rfl, rfl⟩) rfl (by decide) ?_
  refine r_val (v := .bool _) (v_pick (.inl rfl) (.inl rfl) (.inr ⟨_, rfl, fun h h2 => by simp_all⟩)) rfl rfl (by decide) ?_
  refine r_nil ?_
  refine a_cond rfl (fun ht13 => ?_) (fun ht13 => ?_)
  ·
    skip
    refine a_seq ?_
    refine a_region ?_
    refine r_val (v := .agg [.int _ _, .nils]) (v_build sp24 rfl rfl) rfl rfl (by decide) ?_
    refine r_step rfl (o_store (v := .agg [.int _ _, .nils]) (y' := .op [.int _ _, .nils]) rfl rfl ta24 (.inl rfl) (.inl rfl) rfl rfl rfl rfl rfl rfl (Nat.le_of_ble_eq_true rfl) (by decide) rfl rfl) ?_
    refine r_val (v := .bool _) (v_assign (.inl rfl) (noOwn_flat rfl)) rfl rfl (by decide) ?_
    refine r_nil ?_
    refine a_pre (ent_nil_at (t := 4) (r := [1]) (sz := 1) rfl (.inl rfl) rfl rfl) ?_
    refine a_ret ?_
    refine retL (rs := [.cell 4 24, .tmp 5]) [(4, _), (5, _)] ⟨Weak.rfl, Weak.rfl, trivial⟩ rfl Try.results12 (by decide) ⟨by decide, _, cell_agg rfl ta24, by decide, rfl⟩ (by decide) (by decide) (l2_eq (agg_eq (l2_eq (int_eq ?_) (osl_eq2 ?_ ?_))) (bool_eq ?_)) (by simp [refsL, refs])
    all_goals (have hf : ((inR n 0 12 && inR k 0 12) && cnfB n (accJ (alF n.toNat k.toNat))) = false := (by cases h1 : inR n 0 12 <;> cases h2 : inR k 0 12 <;> simp_all); simp [resV, resL, hf, osls])
  ·
    skip
    refine a_skip ?_
    refine a_seq ?_
    refine a_seq ?_
    refine a_region ?_
    refine r_val (v := .int _ _) (v_move (.inl rfl) (noOwn_flat rfl)) rfl rfl (by decide) ?_
    refine r_val (v := .bool _) (v_eql (.inl rfl) (.inl rfl)) rfl rfl (by decide) ?_
    refine r_nil ?_
    refine a_cond rfl (fun ht16 => ?_) (fun ht16 => ?_)
    ·
      skip
      refine a_seq ?_
      have hin : (inR n 0 12 && inR k 0 12) = true := (by cases h1 : inR n 0 12 <;> cases h2 : inR k 0 12 <;> simp_all)
      have hn := inR_spec.1 (by simp at hin; exact hin.1 : inR n 0 12 = true)
      have hm := inR_spec.1 (by simp at hin; exact hin.2 : inR k 0 12 = true)
      obtain ⟨a, rfl⟩ := Int.eq_ofNat_of_zero_le hn.1
      obtain ⟨b, rfl⟩ := Int.eq_ofNat_of_zero_le hm.1
      have hb0 : b = 0 := (by have h9 := of_decide_eq_true ht16; omega)
      subst hb0
      have hz : ((inR ((a : Nat) : Int) 0 12 && inR ((0 : Nat) : Int) 0 12) && cnfB ((a : Nat) : Int) (accJ (alF a 0))) = true := (by rw [hin]; exact cnfB_none (by simp at hin; exact hin.1))
      refine a_region ?_
      refine r_val (v := .int _ _) (v_move (.inl rfl) (noOwn_flat rfl)) rfl rfl (by decide) ?_
      refine r_new (v := .agg [.int _ _, .osl _ _ _ _]) (q_call (vs := [.int _ _]) (args := [.int .i64 _]) hb23 ⟨.inl rfl, trivial⟩ rfl (fun hA => l4New_c ((a : Nat) : Int)) (by simp [noSh, noShL, osls_noSh]) (by simp [noRef, noRefL, osls_noRef])) rfl rfl (by decide) ?_
      refine r_step rfl (o_store_own (v := .agg [.int _ _, .osl _ _ _ _]) (y' := .op [.int _ _, .osl _ _ _ _]) rfl rfl ta24 (.inl rfl) (by decide) rfl (by decide) rfl (by simp [cellsOf, noRefL, noRef, osls_noRef]) rfl rfl rfl rfl rfl (Nat.le_of_ble_eq_true rfl) rfl rfl) ?_
      refine r_val (v := .bool _) (v_assign (.inl rfl) (noOwn_flat rfl)) rfl rfl (by decide) ?_
      refine r_nil ?_
      refine a_ret ?_
      refine retL (rs := [.cell 4 24, .tmp 5]) [(4, _), (5, _)] ⟨Weak.rfl, Weak.rfl, trivial⟩ rfl Try.results12 (by decide) ⟨by decide, _, cell_agg rfl ta24, by decide, rfl⟩ (by decide) (by decide) (l2_eq (agg_eq (l2_eq (int_eq ?_) (osl_eq2 ?_ ?_))) (bool_eq ?_)) (by simp [refsL, refs])
      all_goals (simp only [Int.toNat_natCast])
      all_goals (first | (rw [hz]; rfl) | rw [hz])
    ·
      skip
      refine a_skip ?_
      refine a_seq ?_
      have hin : (inR n 0 12 && inR k 0 12) = true := (by cases h1 : inR n 0 12 <;> cases h2 : inR k 0 12 <;> simp_all)
      have hn := inR_spec.1 (by simp at hin; exact hin.1 : inR n 0 12 = true)
      have hm := inR_spec.1 (by simp at hin; exact hin.2 : inR k 0 12 = true)
      obtain ⟨a, rfl⟩ := Int.eq_ofNat_of_zero_le hn.1
      obtain ⟨b, rfl⟩ := Int.eq_ofNat_of_zero_le hm.1
      have hb0 : 0 < b := (by have h9 := of_decide_eq_false ht16; omega)
      have hmid := al_mid (n := a) hb0
      have hrm := res_S (vars := ((a : Nat) : Int)) (F := alF a b) hin
      refine a_region ?_
      refine r_val (v := .int _ _) (v_move (.inl rfl) (noOwn_flat rfl)) rfl rfl (by decide) ?_
      refine r_new (v := .agg [.int _ _, .osl _ _ _ _]) (q_call (vs := [.int _ _]) (args := [.int .i64 _]) hb23 ⟨.inl rfl, trivial⟩ rfl (fun hA => l4New_c ((a : Nat) : Int)) (by simp [noSh, noShL, osls_noSh]) (by simp [noRef, noRefL, osls_noRef])) rfl rfl (by decide) ?_
      refine r_val (v := .int _ _) (v_move (.inl rfl) (noOwn_flat rfl)) rfl rfl (by decide) ?_
      refine r_val (v := .int _ _) (v_move (.inl rfl) (noOwn_flat rfl)) rfl rfl (by decide) ?_
      refine r_val (v := .int _ _) (v_sub (.inl rfl) (.inl rfl) (fun _ => by omega)) rfl rfl (by decide) ?_
      refine r_val (v := .int _ _) (v_add (.inl rfl) (.inl rfl) (fun _ => by omega)) rfl rfl (by decide) ?_
      refine r_new (v := .int .i64 (((a + 1 - b) : Nat) : Int)) (QSem.cast (q_call (vs := [.int _ _, .int _ _]) (args := [.int .i64 _, .int .i64 _]) hb32 ⟨.inl rfl, .inl rfl, trivial⟩ rfl (fun hA => l1Most_c _ _) rfl rfl) (int_eq (by omega))) rfl rfl (by decide) ?_
      refine r_new (v := .sl (icells []) 0) ((q_sliceLitZ (cs := (icells [])) (n := 0) (parts := []) lt42 rfl rfl rfl rfl).cast (by first | rfl | rw [shL_id _ (ic_pure _).1 (ic_pure _).2])) rfl rfl (by decide) ?_
      refine r_step rfl (o_callIO (q := (20, [1])) (vs := [.agg [.int _ _, .rsl _ _ _ _ _], .int _ _, .int _ _, .int _ _, .sl _ _]) (args := [.agg [.int .i64 _, .rsl (INH, []) _ _ _ _], .int .i64 _, .int .i64 _, .int .i64 _, .sl _ _]) (x0 := .osl _ _ _ _) (x1 := .undef) (res := .agg [.int _ _, .osl _ _ _ _]) rfl hb22 rfl (by decide) ⟨.inl rfl, .inl rfl, .inl rfl, .inl rfl, .inl rfl, trivial⟩ rfl rfl (l4Choose_c a 1 (by omega) (.inl rfl) a 1 (a + 1 - b) [] [] (by omega) (by simp; omega) (SmI.of (by simp))) rfl (by simp [noSh, noShL, osls_noSh]) (by simp [noRef, noRefL, osls_noRef]) rfl rfl (Nat.le_of_ble_eq_true rfl) (by decide) rfl) ?_
      refine r_step rfl (o_callIO (q := (27, [1])) (vs := [.agg [.int _ _, .rsl _ _ _ _ _]]) (args := [.agg [.int .i64 _, .rsl (INH, []) _ _ _ _]]) (x0 := .osl _ _ _ _) (x1 := .undef) (res := .tup [.agg [.int _ _, .osl _ _ _ _], .bool _]) rfl hb21 rfl (by decide) ⟨.inl rfl, trivial⟩ rfl rfl (l4Give_c ((a : Nat) : Int) (accS ([] ++ chR 1 a (a + 1 - b) 1 [])) (by rw [List.nil_append, ← hmid]; exact goodB_okS (by omega) (al_good (by omega) (by omega)))) rfl (by simp [noSh, noShL, osls_noSh]) (by simp [noRef, noRefL, osls_noRef]) rfl rfl (Nat.le_of_ble_eq_true rfl) (by decide) rfl) ?_
      refine r_val (v := .agg [.int _ _, .rsl _ _ _ _ _]) (v_extract rfl rfl) rfl rfl (by decide) ?_
      refine r_val (v := .bool _) (v_extract rfl rfl) rfl rfl (by decide) ?_
      refine r_pre (ent_reloc_at_sl (t := 29) (r := [1]) rfl (by decide) rfl rfl) ?_
      refine r_step rfl (o_store_own (v := .agg [.int _ _, .osl _ _ _ _]) (y' := .op [.int _ _, .osl _ _ _ _]) rfl rfl ta24 (.inl rfl) (by decide) rfl (by decide) rfl (by simp [cellsOf, noRefL, noRef, osls_noRef]) rfl rfl rfl rfl rfl (Nat.le_of_ble_eq_true rfl) rfl rfl) ?_
      refine r_val (v := .bool _) (v_assign (.inl rfl) (noOwn_flat rfl)) rfl rfl (by decide) ?_
      refine r_nil ?_
      refine a_ret ?_
      refine retL (rs := [.cell 4 24, .tmp 5]) [(4, _), (5, _)] ⟨Weak.rfl, Weak.rfl, trivial⟩ rfl Try.results12 (by decide) ⟨by decide, _, cell_agg rfl ta24, by decide, rfl⟩ (by decide) (by decide) (l2_eq (agg_eq (l2_eq (int_eq ?_) (osl_eq2 ?_ ?_))) (bool_eq ?_)) (by simp [refsL, refs])
      all_goals (rw [List.nil_append, ← hmid])
      all_goals (rw [Int.toNat_natCast, Int.toNat_natCast])
      all_goals (first | rw [hrm.2] | rw [hrm.1])
end Go.Av
namespace Go.Av
open Go Go.Proofs Go.Sort
set_option maxRecDepth 10000
theorem hb10 : hasBody Try.prog 10 = true := by kernel_rfl
theorem hb11 : hasBody Try.prog 11 = true := by kernel_rfl
theorem hb12 : hasBody Try.prog 12 = true := by kernel_rfl
theorem hb13 : hasBody Try.prog 13 = true := by kernel_rfl
theorem hb9 : hasBody Try.prog 9 = true := by kernel_rfl
theorem un4 : Try.prog.underlying 4 = some .bool := by kernel_rfl

theorem lawAtLeastCnf_c (n k : Int) : ACall Try.prog 4 [.int .i64 n, .int .i64 k] [] (.bool true) [] := by
  have hr := cnfB_res (vars := n) (c := (inR n 0 12 && inR k 0 12)) (L := accJ (alF n.toNat k.toNat))
  have hrl := fun i => len_tot (L := resL ((inR n 0 12 && inR k 0 12) && cnfB n (accJ (alF n.toNat k.toNat))) (accJ (alF n.toNat k.toNat))) (i := i)
  refine ACall.intro Try.func4 rfl (N := 68) rfl (by decide) (by simp) ?_
  refine a_seq ?_
  refine a_region ?_
  refine r_val (v := .bool _) (v_assign (.inl rfl) (noOwn_flat rfl)) rfl rfl (by decide) ?_
  refine r_nil ?_
  refine a_seq ?_
  refine a_region ?_
  refine r_val (v := .int _ _) (v_move (.inl rfl) (noOwn_flat rfl)) rfl rfl (by decide) ?_
  refine r_val (v := .int _ _) (v_move (.inl rfl) (noOwn_flat rfl)) rfl rfl (by decide) ?_
  refine r_new (v := .tup [.agg [.int _ _, .osl _ _ _ _], .bool _]) (q_call (vs := [.int _ _, .int _ _]) (args := [.int .i64 _, .int .i64 _]) hb12 ⟨.inl rfl, .inl rfl, trivial⟩ rfl (fun hA => sAtLeast_c _ _) (by simp [noSh, noShL, osls_noSh]) (by simp [noRef, noRefL, osls_noRef])) rfl rfl (by decide) ?_
  refine r_val (v := .tup [.agg [.int _ _, .rsl _ _ _ _ _], .bool _]) (v_mv rfl) rfl rfl (by decide) ?_
  refine r_val (v := .agg [.int _ _, .rsl _ _ _ _ _]) (v_extract rfl rfl) rfl rfl (by decide) ?_
  refine r_val (v := .bool _) (v_extract rfl rfl) rfl rfl (by decide) ?_
  refine r_new (v := .op [.int _ _, .nils]) (q_alloc zc24) rfl rfl (by decide) ?_
  refine r_pre (ent_reloc_at_sl (t := 17) (r := [1]) rfl (by decide) rfl rfl) ?_
  refine r_step rfl (o_store_own (v := .agg [.int _ _, .osl _ _ _ _]) (y' := .op [.int _ _, .osl _ _ _ _]) rfl rfl ta24 (.inl rfl) (by decide) rfl (by decide) rfl (by simp [cellsOf, noRefL, noRef, osls_noRef]) rfl rfl rfl rfl rfl (Nat.le_of_ble_eq_true rfl) rfl rfl) ?_
  refine r_val (v := .bool _) (v_assign (.inl rfl) (noOwn_flat rfl)) rfl rfl (by decide) ?_
  refine r_nil ?_
  refine a_seq ?_
  refine a_region ?_
  refine r_val (v := .int _ _) (v_move (.inl rfl) (noOwn_flat rfl)) rfl rfl (by decide) ?_
  refine r_val (v := .int _ _) (v_move (.inl rfl) (noOwn_flat rfl)) rfl rfl (by decide) ?_
  refine r_new (v := .tup [.agg [.int _ _, .osl _ _ _ _], .bool _]) (q_call (vs := [.int _ _, .int _ _]) (args := [.int .i64 _, .int .i64 _]) hb13 ⟨.inl rfl, .inl rfl, trivial⟩ rfl (fun hA => iAtLeast_c _ _) (by simp [noSh, noShL, osls_noSh]) (by simp [noRef, noRefL, osls_noRef])) rfl rfl (by decide) ?_
  refine r_val (v := .tup [.agg [.int _ _, .rsl _ _ _ _ _], .bool _]) (v_mv rfl) rfl rfl (by decide) ?_
  refine r_val (v := .agg [.int _ _, .rsl _ _ _ _ _]) (v_extract rfl rfl) rfl rfl (by decide) ?_
  refine r_val (v := .bool _) (v_extract rfl rfl) rfl rfl (by decide) ?_
  refine r_new (v := .op [.int _ _, .nils]) (q_alloc zc24) rfl rfl (by decide) ?_
  refine r_pre (ent_reloc_at_sl (t := 23) (r := [1]) rfl (by decide) rfl rfl) ?_
  refine r_step rfl (o_store_own (v := .agg [.int _ _, .osl _ _ _ _]) (y' := .op [.int _ _, .osl _ _ _ _]) rfl rfl ta24 (.inl rfl) (by decide) rfl (by decide) rfl (by simp [cellsOf, noRefL, noRef, osls_noRef]) rfl rfl rfl rfl rfl (Nat.le_of_ble_eq_true rfl) rfl rfl) ?_
  refine r_val (v := .bool _) (v_assign (.inl rfl) (noOwn_flat rfl)) rfl rfl (by decide) ?_
  refine r_nil ?_
  refine a_seq ?_
  refine a_seq ?_
  refine a_region ?_
  refine r_val (v := .agg [.int _ _, .rsl _ _ _ _ _]) (v_load_rpa (xs := [.int _ _, .osl _ _ _ _]) ta24 (.inl rfl) rfl rfl (fun _ => take_get rfl)) rfl rfl (by decide) ?_
  refine r_val (v := .agg [.int _ _, .rsl _ _ _ _ _]) (v_load_rpa (xs := [.int _ _, .osl _ _ _ _]) ta24 (.inl rfl) rfl rfl (fun _ => take_get rfl)) rfl rfl (by decide) ?_
  refine r_new (v := .bool _) (q_call (vs := [.agg [.int _ _, .rsl _ _ _ _ _], .agg [.int _ _, .rsl _ _ _ _ _]]) (args := [.agg [.int .i64 _, .sl _ _], .agg [.int .i64 _, .sl _ _]]) hb9 ⟨.inl rfl, .inl rfl, trivial⟩ (l2_eq (agg_eq (l2_eq rfl sl_osls)) (agg_eq (l2_eq rfl sl_osls))) (fun hA => eqCnf_c _ _ _ _ (by omega) (by omega) (fun i => by have := hrl i; omega)) rfl rfl) rfl rfl (by decide) ?_
  refine r_val (v := .bool _) (v_not (.inl rfl)) rfl rfl (by decide) ?_
  refine r_val (v := .bool _) (v_move (.inl rfl) (noOwn_flat rfl)) rfl rfl (by decide) ?_
  refine r_gval (v := .bool _) (v_move (.inl rfl) (noOwn_flat rfl)) rfl rfl rfl (by decide) (.inl ⟨_, rfl, rfl⟩) rfl (by decide) ?_
  refine r_gval (v := .bool _) (v_move (.inl rfl) (noOwn_flat rfl)) rfl rfl rfl (by decide) (.inl ⟨_, rfl, rfl⟩) rfl (by decide) ?_
  refine r_gval (v := .bool _) (v_bne un4 (.inr ⟨_, rfl, fun h => h⟩) (.inr ⟨_, rfl, fun h => h⟩)) rfl rfl rfl (by decide) (.inl ⟨_, rfl, rfl⟩) rfl (by decide) ?_
  refine r_val (v := .bool _) (v_pick (.inl rfl) (.inl rfl) (.inr ⟨_, rfl, fun h h2 => by simp_all⟩)) rfl rfl (by decide) ?_
  refine r_nil ?_
  refine a_cond rfl (fun ht33 => ?_) (fun ht33 => ?_)
  ·
    skip
    refine a_seq ?_
    refine a_region ?_
    refine r_val (v := .bool _) (v_assign (.inl rfl) (noOwn_flat rfl)) rfl rfl (by decide) ?_
    refine r_nil ?_
    refine a_ret ?_
    refine ret1 Try.results4 (by decide) (by decide) (Weak.of_eq (bool_eq ?_)) rfl Leaves.nil
    first | rfl | (exfalso; simp at ht33; done) | (exfalso; simp at ht33; omega)
  ·
    skip
    refine a_skip ?_
    refine a_seq ?_
    refine a_region ?_
    refine r_val (v := .int _ _) (v_assign (.inl rfl) (noOwn_flat rfl)) rfl rfl (by decide) ?_
    refine r_nil ?_
    refine a_seq ?_
    refine a_region ?_
    refine r_val (v := .agg [.int _ _, .rsl _ _ _ _ _]) (v_load_rpa (xs := [.int _ _, .osl _ _ _ _]) ta24 (.inl rfl) rfl rfl (fun _ => take_get rfl)) rfl rfl (by decide) ?_
    refine r_val (v := .int _ _) (v_move (.inl rfl) (noOwn_flat rfl)) rfl rfl (by decide) ?_
    refine r_step rfl (o_callIO (q := (7, [1])) (vs := [.agg [.int _ _, .rsl _ _ _ _ _], .int _ _]) (args := [.agg [.int .i64 _, .rsl (INH, []) _ _ _ _], .int .i64 _]) (x0 := .osl _ _ _ _) (x1 := .osl _ _ _ _) (res := .int _ _) rfl hb10 rfl (by decide) ⟨.inl rfl, .inl rfl, trivial⟩ rfl rfl (markCnf_c _ _ _ (by omega) (by omega) (by omega)) rfl rfl rfl (osls_noSh _) (osls_noRef _) (Nat.le_of_ble_eq_true rfl) (by decide) rfl) ?_
    refine r_val (v := .int _ _) (v_assign (.inl rfl) (noOwn_flat rfl)) rfl rfl (by decide) ?_
    refine r_nil ?_
    refine a_seq ?_
    refine a_pre (ent_look (L := [(0, .int _ _), (1, .int _ _), (4, .bool _), (5, .op [.int _ _, .osl _ _ _ _]), (6, .bool _), (7, .op [.int _ _, .osl _ _ _ _]), (9, .int _ _)]) ⟨Weak.rfl, Weak.rfl, Weak.rfl, Weak.rfl, Weak.rfl, Weak.rfl, Weak.rfl, trivial⟩) ?_
    refine a_region ?_
    refine r_val (v := .int _ _) (v_assign (.inl rfl) (noOwn_flat rfl)) rfl rfl (by decide) ?_
    refine r_nil ?_
    refine a_seq ?_
    refine a_region ?_
    refine r_val (v := .agg [.int _ _, .rsl _ _ _ _ _]) (v_load_rpa (xs := [.int _ _, .osl _ _ _ _]) ta24 (.inl rfl) rfl rfl (fun _ => take_get rfl)) rfl rfl (by decide) ?_
    refine r_val (v := .int _ _) (v_move (.inl rfl) (noOwn_flat rfl)) rfl rfl (by decide) ?_
    refine r_new (v := .int _ _) (q_call (vs := [.agg [.int _ _, .rsl _ _ _ _ _], .int _ _]) (args := [.agg [.int .i64 _, .sl _ _], .int .i64 _]) hb11 ⟨.inl rfl, .inl rfl, trivial⟩ (l2_eq (agg_eq (l2_eq rfl sl_osls)) rfl) (fun hA => heldCnf_c _ _ _ (by omega) (by omega) (by omega)) rfl rfl) rfl rfl (by decide) ?_
    refine r_val (v := .int _ _) (v_assign (.inl rfl) (noOwn_flat rfl)) rfl rfl (by decide) ?_
    refine r_nil ?_
    refine a_seq ?_
    refine a_seq ?_
    refine a_region ?_
    refine r_val (v := .int _ _) (v_move (.inl rfl) (noOwn_flat rfl)) rfl rfl (by decide) ?_
    refine r_val (v := .bool _) (v_lss (.inl rfl) (.inl rfl)) rfl rfl (by decide) ?_
    refine r_nil ?_
    refine a_cond rfl (fun ht41 => ?_) (fun ht41 => ?_)
    ·
      skip
      refine a_seq ?_
      refine a_region ?_
      refine r_val (v := .bool _) (v_assign (.inl rfl) (noOwn_flat rfl)) rfl rfl (by decide) ?_
      refine r_nil ?_
      refine a_ret ?_
      refine ret1 Try.results4 (by decide) (by decide) (Weak.of_eq (bool_eq ?_)) rfl Leaves.nil
      first | rfl | (exfalso; simp at ht41; done) | (exfalso; simp at ht41; omega)
    ·
      skip
      refine a_skip ?_
      refine a_seq ?_
      refine a_seq ?_
      refine a_region ?_
      refine r_val (v := .int _ _) (v_move (.inl rfl) (noOwn_flat rfl)) rfl rfl (by decide) ?_
      refine r_val (v := .int _ _) (v_move (.inl rfl) (noOwn_flat rfl)) rfl rfl (by decide) ?_
      refine r_val (v := .bool _) (v_neq (.inl rfl) (.inl rfl)) rfl rfl (by decide) ?_
      refine r_nil ?_
      refine a_cond rfl (fun ht44 => ?_) (fun ht44 => ?_)
      ·
        skip
        refine a_seq ?_
        refine a_region ?_
        refine r_val (v := .bool _) (v_assign (.inl rfl) (noOwn_flat rfl)) rfl rfl (by decide) ?_
        refine r_nil ?_
        refine a_ret ?_
        refine ret1 Try.results4 (by decide) (by decide) (Weak.of_eq (bool_eq ?_)) rfl Leaves.nil
        first | rfl | (exfalso; simp at ht44; done) | (exfalso; simp at ht44; omega)
      ·
        skip
        refine a_skip ?_
        refine a_seq ?_
        refine a_region ?_
        refine r_val (v := .int _ _) (v_move (.inl rfl) (noOwn_flat rfl)) rfl rfl (by decide) ?_
        refine r_val (v := .int _ _) (v_move (.inl rfl) (noOwn_flat rfl)) rfl rfl (by decide) ?_
        refine r_new (v := .tup [.agg [.int _ _, .osl _ _ _ _], .bool _]) (q_call (vs := [.int _ _, .int _ _]) (args := [.int .i64 _, .int .i64 _]) hb13 ⟨.inl rfl, .inl rfl, trivial⟩ rfl (fun hA => iAtLeast_c _ _) (by simp [noSh, noShL, osls_noSh]) (by simp [noRef, noRefL, osls_noRef])) rfl rfl (by decide) ?_
        refine r_val (v := .tup [.agg [.int _ _, .rsl _ _ _ _ _], .bool _]) (v_mv rfl) rfl rfl (by decide) ?_
        refine r_val (v := .agg [.int _ _, .rsl _ _ _ _ _]) (v_extract rfl rfl) rfl rfl (by decide) ?_
        refine r_val (v := .bool _) (v_extract rfl rfl) rfl rfl (by decide) ?_
        refine r_new (v := .op [.int _ _, .nils]) (q_alloc zc24) rfl rfl (by decide) ?_
        refine r_pre (ent_reloc_at_sl (t := 49) (r := [1]) rfl (by decide) rfl rfl) ?_
        refine r_step rfl (o_store_own (v := .agg [.int _ _, .osl _ _ _ _]) (y' := .op [.int _ _, .osl _ _ _ _]) rfl rfl ta24 (.inl rfl) (by decide) rfl (by decide) rfl (by simp [cellsOf, noRefL, noRef, osls_noRef]) rfl rfl rfl rfl rfl (Nat.le_of_ble_eq_true rfl) rfl rfl) ?_
        refine r_val (v := .bool _) (v_assign (.inl rfl) (noOwn_flat rfl)) rfl rfl (by decide) ?_
        refine r_nil ?_
        refine a_seq ?_
        refine a_seq ?_
        refine a_region ?_
        refine r_val (v := .agg [.int _ _, .rsl _ _ _ _ _]) (v_load_rpa (xs := [.int _ _, .osl _ _ _ _]) ta24 (.inl rfl) rfl rfl (fun _ => take_get rfl)) rfl rfl (by decide) ?_
        refine r_val (v := .agg [.int _ _, .rsl _ _ _ _ _]) (v_load_rpa (xs := [.int _ _, .osl _ _ _ _]) ta24 (.inl rfl) rfl rfl (fun _ => take_get rfl)) rfl rfl (by decide) ?_
        refine r_new (v := .bool _) (q_call (vs := [.agg [.int _ _, .rsl _ _ _ _ _], .agg [.int _ _, .rsl _ _ _ _ _]]) (args := [.agg [.int .i64 _, .sl _ _], .agg [.int .i64 _, .sl _ _]]) hb9 ⟨.inl rfl, .inl rfl, trivial⟩ (l2_eq (agg_eq (l2_eq rfl sl_osls)) (agg_eq (l2_eq rfl sl_osls))) (fun hA => eqCnf_c _ _ _ _ (by omega) (by omega) (fun i => by have := hrl i; omega)) rfl rfl) rfl rfl (by decide) ?_
        refine r_val (v := .bool _) (v_not (.inl rfl)) rfl rfl (by decide) ?_
        refine r_val (v := .bool _) (v_move (.inl rfl) (noOwn_flat rfl)) rfl rfl (by decide) ?_
        refine r_gval (v := .bool _) (v_move (.inl rfl) (noOwn_flat rfl)) rfl rfl rfl (by decide) (.inl ⟨_, rfl, rfl⟩) rfl (by decide) ?_
        refine r_gval (v := .bool _) (v_move (.inl rfl) (noOwn_flat rfl)) rfl rfl rfl (by decide) (.inl ⟨_, rfl, rfl⟩) rfl (by decide) ?_
        refine r_gval (v := .bool _) (v_bne un4 (.inr ⟨_, rfl, fun h => h⟩) (.inr ⟨_, rfl, fun h => h⟩)) rfl rfl rfl (by decide) (.inl ⟨_, rfl, rfl⟩) rfl (by decide) ?_
        refine r_val (v := .bool _) (v_pick (.inl rfl) (.inl rfl) (.inr ⟨_, rfl, fun h h2 => by simp_all⟩)) rfl rfl (by decide) ?_
        refine r_nil ?_
        refine a_cond rfl (fun ht59 => ?_) (fun ht59 => ?_)
        ·
          skip
          refine a_seq ?_
          refine a_pre (ent_look (L := [(4, .bool _), (7, .op [.int _ _, .osl _ _ _ _]), (9, .int _ _), (10, .int _ _)]) ⟨Weak.rfl, Weak.rfl, Weak.rfl, Weak.rfl, trivial⟩) ?_
          refine a_region ?_
          refine r_val (v := .bool _) (v_assign (.inl rfl) (noOwn_flat rfl)) rfl rfl (by decide) ?_
          refine r_nil ?_
          refine a_ret ?_
          refine ret1 Try.results4 (by decide) (by decide) (Weak.of_eq (bool_eq ?_)) rfl Leaves.nil
          first | rfl | (exfalso; simp at ht59; done) | (exfalso; simp at ht59; omega)
        ·
          skip
          refine a_skip ?_
          refine a_seq ?_
          refine a_pre (ent_look (L := [(4, .bool _), (7, .op [.int _ _, .osl _ _ _ _]), (9, .int _ _), (10, .int _ _)]) ⟨Weak.rfl, Weak.rfl, Weak.rfl, Weak.rfl, trivial⟩) ?_
          refine a_region ?_
          refine r_val (v := .int _ _) (v_assign (.inl rfl) (noOwn_flat rfl)) rfl rfl (by decide) ?_
          refine r_nil ?_
          refine a_seq ?_
          refine a_region ?_
          refine r_val (v := .agg [.int _ _, .rsl _ _ _ _ _]) (v_load_rpa (xs := [.int _ _, .osl _ _ _ _]) ta24 (.inl rfl) rfl rfl (fun _ => take_get rfl)) rfl rfl (by decide) ?_
          refine r_val (v := .int _ _) (v_move (.inl rfl) (noOwn_flat rfl)) rfl rfl (by decide) ?_
          refine r_new (v := .int _ _) (q_call (vs := [.agg [.int _ _, .rsl _ _ _ _ _], .int _ _]) (args := [.agg [.int .i64 _, .sl _ _], .int .i64 _]) hb11 ⟨.inl rfl, .inl rfl, trivial⟩ (l2_eq (agg_eq (l2_eq rfl sl_osls)) rfl) (fun hA => heldCnf_c _ _ _ (by omega) (by omega) (by omega)) rfl rfl) rfl rfl (by decide) ?_
          refine r_val (v := .int _ _) (v_assign (.inl rfl) (noOwn_flat rfl)) rfl rfl (by decide) ?_
          refine r_nil ?_
          refine a_seq ?_
          refine a_seq ?_
          refine a_region ?_
          refine r_val (v := .int _ _) (v_move (.inl rfl) (noOwn_flat rfl)) rfl rfl (by decide) ?_
          refine r_val (v := .bool _) (v_lss (.inl rfl) (.inl rfl)) rfl rfl (by decide) ?_
          refine r_nil ?_
          refine a_cond rfl (fun ht64 => ?_) (fun ht64 => ?_)
          ·
            skip
            refine a_seq ?_
            refine a_region ?_
            refine r_val (v := .bool _) (v_assign (.inl rfl) (noOwn_flat rfl)) rfl rfl (by decide) ?_
            refine r_nil ?_
            refine a_ret ?_
            refine ret1 Try.results4 (by decide) (by decide) (Weak.of_eq (bool_eq ?_)) rfl Leaves.nil
            first | rfl | (exfalso; simp at ht64; done) | (exfalso; simp at ht64; omega)
          ·
            skip
            refine a_skip ?_
            refine a_seq ?_
            refine a_seq ?_
            refine a_region ?_
            refine r_val (v := .int _ _) (v_move (.inl rfl) (noOwn_flat rfl)) rfl rfl (by decide) ?_
            refine r_val (v := .int _ _) (v_move (.inl rfl) (noOwn_flat rfl)) rfl rfl (by decide) ?_
            refine r_val (v := .bool _) (v_neq (.inl rfl) (.inl rfl)) rfl rfl (by decide) ?_
            refine r_nil ?_
            refine a_cond rfl (fun ht67 => ?_) (fun ht67 => ?_)
            ·
              skip
              refine a_seq ?_
              refine a_region ?_
              refine r_val (v := .bool _) (v_assign (.inl rfl) (noOwn_flat rfl)) rfl rfl (by decide) ?_
              refine r_nil ?_
              refine a_ret ?_
              refine ret1 Try.results4 (by decide) (by decide) (Weak.of_eq (bool_eq ?_)) rfl Leaves.nil
              first | rfl | (exfalso; simp at ht67; done) | (exfalso; simp at ht67; omega)
            ·
              skip
              refine a_skip ?_
              refine a_seq ?_
              refine a_region ?_
              refine r_val (v := .bool _) (v_assign (.inl rfl) (noOwn_flat rfl)) rfl rfl (by decide) ?_
              refine r_nil ?_
              refine a_ret ?_
              refine ret1 Try.results4 (by decide) (by decide) (Weak.of_eq (bool_eq ?_)) rfl Leaves.nil
              first | rfl | (exfalso; simp at ht67; done) | (exfalso; simp at ht67; omega)
end Go.Av
namespace Go.Av
open Go Go.Proofs Go.Proofs.Ytmbjhednpnokpaa
set_option maxRecDepth 100000
theorem arg3 : OpensV Try.prog 3 (fun x : Int => AV.int .i64 x) (fun x => (Lit.int .i64 x).wf = true) :=
  opensV_one (ok_scalar (by rw [Try.underlying3])) (opens_int Try.underlying3) (fun _ => rfl)
theorem rowOwn : ownKnob Try.prog.godebug = none := by kernel_rfl
theorem rowLaid : laidOutB Try.prog = true := by kernel_rfl
end Go.Av
