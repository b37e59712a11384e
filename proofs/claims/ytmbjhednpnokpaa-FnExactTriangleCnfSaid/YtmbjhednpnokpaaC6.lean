/- Lemmas, part 6. -/
import Derived.Test.YtmbjhednpnokpaaC5
import Derived.Test.YtmbjhednpnokpaaRows
set_option linter.unusedVariables false
set_option linter.unusedSimpArgs false
namespace Go.Av
open Go Go.Proofs
set_option maxRecDepth 10000
theorem cta22 : tyAgg Try.prog 22 = some (false, 1) := by kernel_rfl
theorem cta3 : tyAgg Try.prog 3 = some (false, 1) := by kernel_rfl
theorem cta70 : tyAgg Try.prog 70 = some (false, 1) := by kernel_rfl
theorem csl22 : isSlice Try.prog 22 = true := by kernel_rfl
theorem csl42 : isSlice Try.prog 42 = true := by kernel_rfl
theorem chb47 : hasBody Try.prog 47 = true := by kernel_rfl
theorem chb48 : hasBody Try.prog 48 = true := by kernel_rfl
theorem cap22 : appTy Try.prog 22 = some (1, 24) := by kernel_rfl
theorem cap42 : appTy Try.prog 42 = some (1, 8) := by kernel_rfl
theorem clt22 : litTy Try.prog 22 = some (1, [.nils]) := by kernel_rfl
theorem clt42 : litTy Try.prog 42 = some (1, [.int .i64 0]) := by kernel_rfl
/-- The list that is under way: at most 61 of them. -/
def outO (F : List (List Int)) : AV := .op [.osl 1 (osls (F.take 61)) (F.take 61).length none]
def growO (many n : Nat) (V : List Value) (F : List (List Int)) : List AV := [outO F, .op [.int .i64 60], .op [.int .i64 (many : Nat)], .op [.int .i64 (n : Nat)], .op [.that 47 V]]
abbrev st9 (many n : Nat) (V : List Value) (xs : List Int) (k : Nat) (cap : Option Nat) (v : Nat) (F : List (List Int)) : List (Nat × AV) :=
  [(0, .rsl (INH + 5, []) 1 0 xs.length none), (2, .rp (INH, []) 0), (3, .rp (INH + 1, []) 0), (4, .rp (INH + 2, []) 0), (5, .rp (INH + 3, []) 0), (6, .rp (INH + 4, []) 0), (9, .int .i64 (v : Nat)),
    (INH, outO F), (INH + 1, .op [.int .i64 60]), (INH + 2, .op [.int .i64 (many : Nat)]), (INH + 3, .op [.int .i64 (n : Nat)]), (INH + 4, .op [.that 47 V]), (INH + 5, .osl 1 (icells xs) k cap)]
theorem grow_op {many n : Nat} {V : List Value} {F : List (List Int)} {T : List AV} : ∀ j, j < 5 → ∃ cs, (growO many n V F ++ T)[j]? = some (.op cs) := lt5 (p := fun j => ∃ cs, (growO many n V F ++ T)[j]? = some (.op cs)) ⟨_, rfl⟩ ⟨_, rfl⟩ ⟨_, rfl⟩ ⟨_, rfl⟩ ⟨_, rfl⟩
theorem grow_refs {many n k : Nat} {V : List Value} {F : List (List Int)} {ys : List Int} : ∀ j, j < 6 → refs (((growO many n V F ++ [.osl 1 (icells ys) k none])[j]?).getD .undef) = [] := lt6 rfl rfl rfl rfl rfl rfl
theorem grow_noSh {many n k : Nat} {V : List Value} {F : List (List Int)} {ys : List Int} : ∀ j, j < 6 → noSh (((growO many n V F ++ [.osl 1 (icells ys) k none])[j]?).getD .undef) = true :=
  lt6 (by show noSh (outO F) = true; simp [outO, noSh, noShL, osls_noSh]) rfl rfl rfl rfl (by show noSh (AV.osl 1 (icells ys) k none) = true; simp [noSh, ic_noSh])
theorem grow1_c (n many : Nat) (hn : n ≤ 12) (hm : many ≤ 13) (V : List Value) (hV : V.length = 5) : ∀ (d u l k : Nat) (xs : List Int) (F : List (List Int)), u + d = n + 1 → xs.length + l = many → xs ≠ [] →
    CloCall Try.prog 47 V ([.rsl (INH + 5, []) 1 0 xs.length none, .int .i64 (u : Nat)] ++ capsK V.length) (growO many n V F ++ [.osl 1 (icells xs) k none]) (.tup []) (growO many n V (F ++ chR 1 d l u xs) ++ [.osl 1 (icells xs) k none]) := by
  intro d
  induction d using Nat.strongRecOn with
  | _ d ih =>
  intro u l k xs F hud hl hx
  have hcap : capsK V.length = [.rp (INH, []) 0, .rp (INH + 1, []) 0, .rp (INH + 2, []) 0, .rp (INH + 3, []) 0, .rp (INH + 4, []) 0] := by rw [hV]; rfl
  have hic : icells xs ≠ [] := fun h => hx (List.eq_nil_of_length_eq_zero (by rw [← icells_length xs, h]; rfl))
  have hFl : (F.take 61).length ≤ 61 := by simp; omega
  rw [hcap]
  refine CloCall.intro Try.func47 rfl (N := 37) rfl (by decide) (by simp) (fun gv e hgv => ?_)
  refine k_seq ?_
  refine k_seq ?_
  refine k_of (a_region ?_)
  refine r_val (v := .rsl _ _ _ _ _) (v_load_rp (c := .osl _ _ _ _) cta22 (.inl rfl) rfl (fun _ => rfl)) rfl rfl (by decide) ?_
  refine r_val (v := .int _ _) (v_len_rsl csl22 (.inl rfl)) rfl rfl (by decide) ?_
  refine r_val (v := .int _ _) (v_load_rp (c := .int _ _) cta3 (.inl rfl) rfl (fun _ => rfl)) rfl rfl (by decide) ?_
  refine r_val (v := .bool _) (v_gtr (.inl rfl) (.inl rfl)) rfl rfl (by decide) ?_
  refine r_nil ?_
  refine k_cond rfl (fun ht13 => ?_) (fun ht13 => ?_)
  · refine k_ret ?_
    have h60 : 60 < (F.take 61).length := by have h9 := of_decide_eq_true ht13; omega
    refine ret0_objs Try.results47 (by decide) ⟨⟨Weak.of_eq (by unfold outO; rw [take_stop h60]; rfl), rfl⟩, ⟨Weak.of_eq rfl, rfl⟩, ⟨Weak.of_eq rfl, rfl⟩, ⟨Weak.of_eq rfl, rfl⟩, ⟨Weak.of_eq rfl, rfl⟩, ⟨Weak.of_eq rfl, rfl⟩, trivial⟩
  have h60 : (F.take 61).length ≤ 60 := by have h9 := of_decide_eq_false ht13; omega
  refine k_skip ?_
  refine k_seq ?_
  refine k_seq ?_
  refine k_of (a_region ?_)
  refine r_val (v := .rsl _ _ _ _ _) (v_move (.inl rfl) (noOwn_flat rfl)) rfl rfl (by decide) ?_
  refine r_val (v := .int _ _) (v_len_rsl csl42 (.inl rfl)) rfl rfl (by decide) ?_
  refine r_val (v := .int _ _) (v_load_rp (c := .int _ _) cta3 (.inl rfl) rfl (fun _ => rfl)) rfl rfl (by decide) ?_
  refine r_val (v := .bool _) (v_eql (.inl rfl) (.inl rfl)) rfl rfl (by decide) ?_
  refine r_nil ?_
  refine k_cond rfl (fun ht17 => ?_) (fun ht17 => ?_)
  · have hl0 : l = 0 := by have h9 := of_decide_eq_true ht17; omega
    subst hl0
    refine k_seq ?_
    refine k_of (a_region_z (n := 5) [[(18, true)], [(19, true)], [(20, true)], [(20, false), (21, true)], [(INH, false), (18, true), (21, false), (22, true)]] mixed (by kernel_rfl) ?_)
    refine z_val (v := .rsl _ _ _ _ _) (v_load_rp (c := .osl _ _ _ _) cta22 (.inl rfl) rfl (fun _ => rfl)) rfl rfl (by decide) rfl (by kernel_rfl) ?_
    refine z_val (v := .rsl _ _ _ _ _) (v_move (.inl rfl) (noOwn_flat rfl)) rfl rfl (by decide) rfl (by kernel_rfl) ?_
    refine z_new (v := .osl _ _ _ _) (q_call (vs := [.rsl _ _ _ _ _]) (args := [.sl _ _]) chb48 ⟨.inl rfl, trivial⟩ (congrArg (fun z => [z]) (sl_sh (ic_pure _))) (fun hA => cloneI_c xs xs.length ⟨rfl, by omega⟩) (ic_noSh _) (ic_noRef _)) rfl rfl (by decide) rfl (by kernel_rfl) ?_
    refine z_sliceLit1 (v := .osl _ _ _ _) rfl rfl clt22 rfl rfl (by decide) (by decide) (by decide) rfl rfl (by simp [cellsOf, noRefL, noRef, ic_noRef]) rfl rfl rfl (by kernel_rfl) ?_
    refine z_append_own_ref rfl rfl cap22 rfl (by decide) (by decide) (by decide) (by decide) (by decide) (by decide) (by decide) (by decide) (by decide) rfl rfl rfl rfl rfl rfl (by rw [osls_length]; omega) rfl (by omega) rfl (by kernel_rfl) ?_
    refine z_nil ?_
    refine r_pre (ent_eq (t := 22) (v' := .osl 1 (osls ((F ++ [xs]).take 61)) ((F ++ [xs]).take 61).length none) (Weak.osl (by rw [take_push h60, osls_append]; rfl) (by rw [take_push h60]; simp))) ?_
    refine r_step rfl (o_store_own (v := .osl _ _ _ _) (y' := .op [.osl _ _ _ _]) rfl rfl cta22 (.inl rfl) (by decide) rfl (by decide) rfl (by simp [cellsOf, noRefL, noRef, osls_noRef]) rfl rfl rfl rfl rfl (Nat.le_of_ble_eq_true rfl) rfl rfl) ?_
    refine r_nil ?_
    refine k_ret ?_
    refine ret0_objs Try.results47 (by decide) ⟨⟨Weak.of_eq (by rw [chR_z]; rfl), rfl⟩, ⟨Weak.of_eq rfl, rfl⟩, ⟨Weak.of_eq rfl, rfl⟩, ⟨Weak.of_eq rfl, rfl⟩, ⟨Weak.of_eq rfl, rfl⟩, ⟨Weak.of_eq rfl, rfl⟩, trivial⟩
  have hl1 : l ≠ 0 := by have h9 := of_decide_eq_false ht17; omega
  obtain ⟨l, rfl⟩ : ∃ m, l = m + 1 := ⟨l - 1, by omega⟩
  refine k_skip ?_
  refine k_seq ?_
  refine k_of (a_region ?_)
  refine r_val (v := .int _ _) (v_move (.inl rfl) (noOwn_flat rfl)) rfl rfl (by decide) ?_
  refine r_val (v := .int _ _) (v_assign (.inl rfl) (noOwn_flat rfl)) rfl rfl (by decide) ?_
  refine r_nil ?_
  refine k_block ?_
  refine k_loop (X := Nat × List (List Int)) (fun x => look (st9 many n V xs k none x.1 (F ++ x.2)))
    (fun x => u ≤ x.1 ∧ x.1 ≤ n + 1 ∧ x.2 ++ chR 1 (n + 1 - x.1) (l + 1) x.1 xs = chR 1 d (l + 1) u xs) (fun x => n + 2 - x.1) (u, [])
    (ent_look ⟨Weak.of_eq rfl, Weak.of_eq rfl, Weak.of_eq rfl, Weak.of_eq rfl, Weak.of_eq rfl, Weak.of_eq rfl, Weak.of_eq rfl, Weak.of_eq (by rw [List.append_nil]; rfl), Weak.of_eq rfl, Weak.of_eq rfl, Weak.of_eq rfl, Weak.of_eq rfl, Weak.of_eq rfl, trivial⟩)
    ⟨Nat.le_refl _, by omega, by rw [List.nil_append, show n + 1 - u = d by omega]⟩ (fun x hG => ?_)
  obtain ⟨v, B⟩ := x
  obtain ⟨g1, g2, g3⟩ := hG
  dsimp only at g1 g2 g3
  refine k_seq ?_
  refine k_seq ?_
  refine k_of (a_region ?_)
  refine r_val (v := .int _ _) (v_move (.inl rfl) (noOwn_flat rfl)) rfl rfl (by decide) ?_
  refine r_val (v := .int _ _) (v_load_rp (c := .int _ _) cta3 (.inl rfl) rfl (fun _ => rfl)) rfl rfl (by decide) ?_
  refine r_val (v := .bool _) (v_leq (.inl rfl) (.inl rfl)) rfl rfl (by decide) ?_
  refine r_nil ?_
  refine k_cond rfl (fun ht26 => ?_) (fun ht26 => ?_)
  · refine k_skip ?_
    have hvn : v ≤ n := by have h9 := of_decide_eq_true ht26; omega
    have hvl : xs.length + 1 ≤ 13 := by omega
    have hlx : (xs ++ [(v : Int)]).length = xs.length + 1 := by simp
    have hica : icells xs ++ icells [(v : Int)] = icells (xs ++ [(v : Int)]) := by rw [icells_append]
    have hic2 : icells (xs ++ [(v : Int)]) ≠ [] := fun h => by have h9 := congrArg List.length h; rw [icells_length] at h9; simp at h9
    have hc := fun k' => ih (n - v) (by omega) (v + 1) l k' (xs ++ [(v : Int)]) (F ++ B) (by omega) (by rw [hlx]; omega) (by simp)
    have hstep : (B ++ chR 1 (n - v) l (v + 1) (xs ++ [(v : Int)])) ++ chR 1 (n + 1 - (v + 1)) (l + 1) (v + 1) xs = chR 1 d (l + 1) u xs := by
      rw [← g3, show n + 1 - v = (n - v) + 1 by omega, chR_s, Int.one_mul, List.append_assoc, show n + 1 - (v + 1) = n - v by omega]
    refine k_join (look (st9 many n V xs k none v (F ++ (B ++ chR 1 (n - v) l (v + 1) (xs ++ [(v : Int)]))))) (k_block ?_) ?_
    rotate_left
    · refine k_of (a_region ?_)
      refine r_val (v := .int _ _) (v_move (.inl rfl) (noOwn_flat rfl)) rfl rfl (by decide) ?_
      refine r_val (v := .int .i64 ((v + 1 : Nat) : Int)) ((v_add (.inl rfl) (.inl rfl) (fun _ => by omega)).cast (int_eq (by omega))) rfl rfl (by decide) ?_
      refine r_val (v := .int _ _) (v_assign (.inl rfl) (noOwn_flat rfl)) rfl rfl (by decide) ?_
      refine r_nil ?_
      exact ⟨(v + 1, B ++ chR 1 (n - v) l (v + 1) (xs ++ [(v : Int)])), ent_look ⟨Weak.of_eq rfl, Weak.of_eq rfl, Weak.of_eq rfl, Weak.of_eq rfl, Weak.of_eq rfl, Weak.of_eq rfl, Weak.of_eq rfl, Weak.of_eq rfl, Weak.of_eq rfl, Weak.of_eq rfl, Weak.of_eq rfl, Weak.of_eq rfl, Weak.of_eq rfl, trivial⟩, ⟨by dsimp only; omega, by dsimp only; omega, hstep⟩, by dsimp only; omega⟩
    refine k_pre (ent_look (L := st9 many n V xs k none v (F ++ B)) ⟨Weak.of_eq rfl, Weak.of_eq rfl, Weak.of_eq rfl, Weak.of_eq rfl, Weak.of_eq rfl, Weak.of_eq rfl, Weak.of_eq rfl, Weak.of_eq rfl, Weak.of_eq rfl, Weak.of_eq rfl, Weak.of_eq rfl, Weak.of_eq rfl, Weak.of_eq rfl, trivial⟩) ?_
    refine k_cap (q := INH + 5) (sz := 1) (n := k) (cs := icells xs) rfl hic (fun cp => ?_)
    refine k_pre (ent_look (L := st9 many n V xs k (some cp) v (F ++ B)) ⟨Weak.of_eq rfl, Weak.of_eq rfl, Weak.of_eq rfl, Weak.of_eq rfl, Weak.of_eq rfl, Weak.of_eq rfl, Weak.of_eq rfl, Weak.of_eq rfl, Weak.of_eq rfl, Weak.of_eq rfl, Weak.of_eq rfl, Weak.of_eq rfl, Weak.of_eq rfl, trivial⟩) ?_
    by_cases hroom : xs.length + 1 ≤ cp
    · refine k_region_z (n := 7) [[(29, true)], [(30, true)], [(31, true)], [(32, true)], [(INH + 5, false), (33, true)], [(34, true)], [(35, true)]] mixed (by kernel_rfl) ?_
      refine z_val (v := .that _ _) (v_load_rp (c := .that 47 V) cta70 (.inl rfl) rfl (fun _ => rfl)) rfl rfl (by decide) rfl (by kernel_rfl) ?_
      refine z_val (v := .rsl _ _ _ _ _) (v_move (.inl rfl) (noOwn_flat rfl)) rfl rfl (by decide) rfl (by kernel_rfl) ?_
      refine z_val (v := .int _ _) (v_move (.inl rfl) (noOwn_flat rfl)) rfl rfl (by decide) rfl (by kernel_rfl) ?_
      refine z_new (v := .osl 1 (icells [(v : Int)]) 1 (some 1)) (q_sliceLit (n := 1) (parts := [(0, .tmp 31)]) clt42 rfl rfl rfl rfl) rfl rfl (by decide) rfl (by kernel_rfl) ?_
      refine z_appIn (m := 1) (cp := cp) (k := k) (cs := icells xs) (ns := icells [(v : Int)]) rfl rfl cap42 rfl (by decide) (by decide) (by decide) rfl rfl hic (ic_pure _).1 (icells_length _) hroom (src_lit (.inl rfl) rfl rfl rfl) rfl rfl (by kernel_rfl) ?_
      refine z_val (v := .int _ _) (v_move (.inl rfl) (noOwn_flat rfl)) rfl rfl (by decide) rfl (by kernel_rfl) ?_
      refine z_val (v := .int .i64 ((v + 1 : Nat) : Int)) ((v_add (.inl rfl) (.inl rfl) (fun _ => by omega)).cast (int_eq (by omega))) rfl rfl (by decide) rfl (by kernel_rfl) ?_
      refine z_nil ?_
      refine kr_pre (ent_eq (t := INH + 5) (v' := .osl 1 (icells (xs ++ [(v : Int)])) k none) (Weak.osl hica rfl)) ?_
      refine kr_pre (ent_eq (t := 33) (v' := .rsl (INH + 5, []) 1 0 (xs ++ [(v : Int)]).length none) (Weak.of_eq (by rw [hlx]; rfl))) ?_
      have hinj : ∀ i j, i < 6 → j < 6 → (fun j => INH + j) i = (fun j => INH + j) j → i = j := fun i j _ _ h => by dsimp only at h; omega
      refine kr_clo (m := 6) (ρ := fun j => INH + j) (xvs := [.rsl (INH + 5, []) 1 0 _ none, .int .i64 _]) (xargs := [.rsl (INH + 5, []) 1 0 (xs ++ [(v : Int)]).length none, .int .i64 ((v + 1 : Nat) : Int)])
        (objs := growO many n V (F ++ B) ++ [.osl 1 (icells (xs ++ [(v : Int)])) k none]) (objs2 := growO many n V (F ++ B ++ chR 1 (n - v) l (v + 1) (xs ++ [(v : Int)])) ++ [.osl 1 (icells (xs ++ [(v : Int)])) k none])
        (Lk := [(0, .rsl (INH + 5, []) 1 0 xs.length none), (2, .rp (INH, []) 0), (3, .rp (INH + 1, []) 0), (4, .rp (INH + 2, []) 0), (5, .rp (INH + 3, []) 0), (6, .rp (INH + 4, []) 0), (9, .int .i64 (v : Nat))])
        rfl rfl chb47 rfl (by decide) (by decide) rfl ⟨.inl rfl, .inl rfl, trivial⟩ ⟨seen_rsl (j := 5) (by decide), seen_int, trivial⟩ (by exact hc k) rfl rfl (lt6 (by show _ = outO (F ++ B); rfl) (by show _ = AV.op [.int .i64 60]; rfl) (by show _ = AV.op [.int .i64 (many : Nat)]; rfl) (by show _ = AV.op [.int .i64 (n : Nat)]; rfl) (by show _ = AV.op [.that 47 V]; rfl) (by show _ = AV.osl 1 (icells (xs ++ [(v : Int)])) k none; rfl)) hinj
        (fun j hj => grow_op j (by rw [hV] at hj; exact hj)) grow_refs grow_refs grow_noSh (by rw [hV]; decide)
        (fun j _ => by simp only [INH]; omega) (by rw [hV]; simp [INH]) ?_ rfl (by decide) (fun j _ => rfl) hgv ?_
      · exact ⟨⟨rfl, .inr (.inr ⟨5, 1, _, _, _, _, _, _, _, rfl, rfl, hic2, rfl, hic2⟩), by decide⟩, ⟨rfl, .inr (.inl ⟨0, 0, _, _, rfl, rfl, rfl⟩), by decide⟩, ⟨rfl, .inr (.inl ⟨1, 0, _, _, rfl, rfl, rfl⟩), by decide⟩, ⟨rfl, .inr (.inl ⟨2, 0, _, _, rfl, rfl, rfl⟩), by decide⟩, ⟨rfl, .inr (.inl ⟨3, 0, _, _, rfl, rfl, rfl⟩), by decide⟩, ⟨rfl, .inr (.inl ⟨4, 0, _, _, rfl, rfl, rfl⟩), by decide⟩, ⟨rfl, stay_own rfl, by decide⟩, trivial⟩
      refine kr_nil ?_
      have hlow : ∀ i, i < 37 → ∀ j, j < 6 → (fun j => INH + j) j ≠ i := fun i hi j _ => by simp only [INH]; omega
      have hr := fun j (hj : j < 6) => tau_root (objs2 := growO many n V (F ++ B ++ chR 1 (n - v) l (v + 1) (xs ++ [(v : Int)])) ++ [.osl 1 (icells (xs ++ [(v : Int)])) k none]) (Lk := [(0, .rsl (INH + 5, []) 1 0 xs.length none), (2, .rp (INH, []) 0), (3, .rp (INH + 1, []) 0), (4, .rp (INH + 2, []) 0), (5, .rp (INH + 3, []) 0), (6, .rp (INH + 4, []) 0), (9, .int .i64 (v : Nat))]) hinj hj
      exact ent_look ⟨Weak.of_eq (tau_low (hlow _ (by decide))), Weak.of_eq (tau_low (hlow _ (by decide))), Weak.of_eq (tau_low (hlow _ (by decide))), Weak.of_eq (tau_low (hlow _ (by decide))), Weak.of_eq (tau_low (hlow _ (by decide))), Weak.of_eq (tau_low (hlow _ (by decide))), Weak.of_eq (tau_low (hlow _ (by decide))),
        Weak.of_eq ((hr 0 (by decide)).trans (by rw [List.append_assoc]; rfl)), Weak.of_eq (hr 1 (by decide)), Weak.of_eq (hr 2 (by decide)), Weak.of_eq (hr 3 (by decide)), Weak.of_eq (hr 4 (by decide)), (Weak.of_eq (hr 5 (by decide))).trans (Weak.osl_take (by rw [icells_append]) rfl), trivial⟩
    · refine k_region_z (n := 7) [[(29, true)], [(30, true)], [(31, true)], [(32, true)], [(33, true)], [(34, true)], [(35, true)]] mixed (by kernel_rfl) ?_
      refine z_val (v := .that _ _) (v_load_rp (c := .that 47 V) cta70 (.inl rfl) rfl (fun _ => rfl)) rfl rfl (by decide) rfl (by kernel_rfl) ?_
      refine z_val (v := .rsl _ _ _ _ _) (v_move (.inl rfl) (noOwn_flat rfl)) rfl rfl (by decide) rfl (by kernel_rfl) ?_
      refine z_val (v := .int _ _) (v_move (.inl rfl) (noOwn_flat rfl)) rfl rfl (by decide) rfl (by kernel_rfl) ?_
      refine z_new (v := .osl 1 (icells [(v : Int)]) 1 (some 1)) (q_sliceLit (n := 1) (parts := [(0, .tmp 31)]) clt42 rfl rfl rfl rfl) rfl rfl (by decide) rfl (by kernel_rfl) ?_
      refine z_new (v := .osl 1 (icells xs ++ icells [(v : Int)]) (xs.length + 1) none) (q_appNew (cp := cp) (k := k) (m := 1) cap42 (.inl rfl) rfl hic (ic_pure _).1 (icells_length _) (by omega) (src_lit (.inl rfl) rfl rfl rfl) rfl (fun _ => by omega)) rfl rfl (by decide) rfl (by kernel_rfl) ?_
      refine z_val (v := .int _ _) (v_move (.inl rfl) (noOwn_flat rfl)) rfl rfl (by decide) rfl (by kernel_rfl) ?_
      refine z_val (v := .int .i64 ((v + 1 : Nat) : Int)) ((v_add (.inl rfl) (.inl rfl) (fun _ => by omega)).cast (int_eq (by omega))) rfl rfl (by decide) rfl (by kernel_rfl) ?_
      refine z_nil ?_
      refine kr_pre (ent_eq (t := 33) (v' := .osl 1 (icells (xs ++ [(v : Int)])) (xs ++ [(v : Int)]).length none) (Weak.osl hica hlx.symm)) ?_
      have hinj : ∀ i j, i < 6 → j < 6 → (fun j => if j = 5 then 33 else INH + j) i = (fun j => if j = 5 then 33 else INH + j) j → i = j := fun i j hi hj h => by dsimp only [INH] at h; split at h <;> split at h <;> omega
      refine kr_clo (m := 6) (ρ := fun j => if j = 5 then 33 else INH + j) (xvs := [.rsl (33, []) 1 0 _ none, .int .i64 _]) (xargs := [.rsl (INH + 5, []) 1 0 (xs ++ [(v : Int)]).length none, .int .i64 ((v + 1 : Nat) : Int)])
        (objs := growO many n V (F ++ B) ++ [.osl 1 (icells (xs ++ [(v : Int)])) (xs ++ [(v : Int)]).length none]) (objs2 := growO many n V (F ++ B ++ chR 1 (n - v) l (v + 1) (xs ++ [(v : Int)])) ++ [.osl 1 (icells (xs ++ [(v : Int)])) (xs ++ [(v : Int)]).length none])
        (Lk := [(0, .rsl (INH + 5, []) 1 0 xs.length none), (2, .rp (INH, []) 0), (3, .rp (INH + 1, []) 0), (4, .rp (INH + 2, []) 0), (5, .rp (INH + 3, []) 0), (6, .rp (INH + 4, []) 0), (9, .int .i64 (v : Nat)), (INH + 5, .osl 1 (icells xs) k (some cp))])
        rfl rfl chb47 rfl (by decide) (by decide) rfl ⟨.inl rfl, .inl rfl, trivial⟩ ⟨seen_rsl (j := 5) (by decide), seen_int, trivial⟩ (by exact hc (xs ++ [(v : Int)]).length) rfl rfl (lt6 (by show _ = outO (F ++ B); rfl) (by show _ = AV.op [.int .i64 60]; rfl) (by show _ = AV.op [.int .i64 (many : Nat)]; rfl) (by show _ = AV.op [.int .i64 (n : Nat)]; rfl) (by show _ = AV.op [.that 47 V]; rfl) (by show _ = AV.osl 1 (icells (xs ++ [(v : Int)])) (xs ++ [(v : Int)]).length none; rfl)) hinj
        (fun j hj => grow_op j (by rw [hV] at hj; exact hj)) grow_refs grow_refs grow_noSh (by rw [hV]; decide)
        (fun j _ => by show (if j = 5 then 33 else INH + j) ≠ 36; unfold INH; split <;> omega) (by rw [hV]; simp [INH]) ?_ rfl (by decide) (fun j hj => by rw [hV] at hj; exact if_neg (by omega)) hgv ?_
      · exact ⟨⟨rfl, .inl (fun q hq => by simp only [refs, List.mem_singleton] at hq; subst hq; exact lt6 (by decide) (by decide) (by decide) (by decide) (by decide) (by decide)), by decide⟩, ⟨rfl, .inr (.inl ⟨0, 0, _, _, rfl, rfl, rfl⟩), by decide⟩, ⟨rfl, .inr (.inl ⟨1, 0, _, _, rfl, rfl, rfl⟩), by decide⟩, ⟨rfl, .inr (.inl ⟨2, 0, _, _, rfl, rfl, rfl⟩), by decide⟩, ⟨rfl, .inr (.inl ⟨3, 0, _, _, rfl, rfl, rfl⟩), by decide⟩, ⟨rfl, .inr (.inl ⟨4, 0, _, _, rfl, rfl, rfl⟩), by decide⟩, ⟨rfl, stay_own rfl, by decide⟩, ⟨rfl, stay_own rfl, by decide⟩, trivial⟩
      refine kr_nil ?_
      have hlow : ∀ i, i < 33 ∨ i = INH + 5 → ∀ j, j < 6 → (fun j => if j = 5 then 33 else INH + j) j ≠ i := fun i hi j hj => by dsimp only [INH] at hi ⊢; split <;> omega
      have hr := fun j (hj : j < 6) => tau_root (objs2 := growO many n V (F ++ B ++ chR 1 (n - v) l (v + 1) (xs ++ [(v : Int)])) ++ [.osl 1 (icells (xs ++ [(v : Int)])) (xs ++ [(v : Int)]).length none]) (Lk := [(0, .rsl (INH + 5, []) 1 0 xs.length none), (2, .rp (INH, []) 0), (3, .rp (INH + 1, []) 0), (4, .rp (INH + 2, []) 0), (5, .rp (INH + 3, []) 0), (6, .rp (INH + 4, []) 0), (9, .int .i64 (v : Nat)), (INH + 5, .osl 1 (icells xs) k (some cp))]) hinj hj
      exact ent_look ⟨Weak.of_eq (tau_low (hlow _ (.inl (by decide)))), Weak.of_eq (tau_low (hlow _ (.inl (by decide)))), Weak.of_eq (tau_low (hlow _ (.inl (by decide)))), Weak.of_eq (tau_low (hlow _ (.inl (by decide)))), Weak.of_eq (tau_low (hlow _ (.inl (by decide)))), Weak.of_eq (tau_low (hlow _ (.inl (by decide)))), Weak.of_eq (tau_low (hlow _ (.inl (by decide)))),
        Weak.of_eq ((hr 0 (by decide)).trans (by rw [List.append_assoc]; rfl)), Weak.of_eq (hr 1 (by decide)), Weak.of_eq (hr 2 (by decide)), Weak.of_eq (hr 3 (by decide)), Weak.of_eq (hr 4 (by decide)), (Weak.of_eq (tau_low (hlow _ (.inr rfl)))).trans (Weak.osl rfl rfl), trivial⟩
  · refine k_exit ?_
    have hvn : v = n + 1 := by have h9 := of_decide_eq_false ht26; omega
    subst hvn
    rw [Nat.sub_self, chR_n, List.append_nil] at g3
    subst g3
    exact ret0_objs Try.results47 (by decide) ⟨⟨Weak.of_eq rfl, rfl⟩, ⟨Weak.of_eq rfl, rfl⟩, ⟨Weak.of_eq rfl, rfl⟩, ⟨Weak.of_eq rfl, rfl⟩, ⟨Weak.of_eq rfl, rfl⟩, ⟨Weak.of_eq rfl, rfl⟩, trivial⟩
end Go.Av
namespace Go.Av
open Go Go.Proofs
set_option maxRecDepth 10000
abbrev st0 (many n : Nat) (V : List Value) (v : Nat) (F : List (List Int)) : List (Nat × AV) :=
  [(0, .nils), (2, .rp (INH, []) 0), (3, .rp (INH + 1, []) 0), (4, .rp (INH + 2, []) 0), (5, .rp (INH + 3, []) 0), (6, .rp (INH + 4, []) 0), (9, .int .i64 (v : Nat)),
    (INH, outO F), (INH + 1, .op [.int .i64 60]), (INH + 2, .op [.int .i64 (many : Nat)]), (INH + 3, .op [.int .i64 (n : Nat)]), (INH + 4, .op [.that 47 V])]
theorem grow0_c (n many : Nat) (hn : n ≤ 12) (hm : many ≤ 13) (V : List Value) (hV : V.length = 5) (d u l : Nat) (F : List (List Int)) (hud : u + d = n + 1) (hl : l + 1 = many) :
    CloCall Try.prog 47 V ([.nils, .int .i64 (u : Nat)] ++ capsK V.length) (growO many n V F) (.tup []) (growO many n V (F ++ chR 1 d (l + 1) u [])) := by
  have hcap : capsK V.length = [.rp (INH, []) 0, .rp (INH + 1, []) 0, .rp (INH + 2, []) 0, .rp (INH + 3, []) 0, .rp (INH + 4, []) 0] := by rw [hV]; rfl
  have hFl : (F.take 61).length ≤ 61 := by simp; omega
  rw [hcap]
  refine CloCall.intro Try.func47 rfl (N := 37) rfl (by decide) (by simp) (fun gv e hgv => ?_)
  refine k_seq ?_
  refine k_seq ?_
  refine k_of (a_region ?_)
  refine r_val (v := .rsl _ _ _ _ _) (v_load_rp (c := .osl _ _ _ _) cta22 (.inl rfl) rfl (fun _ => rfl)) rfl rfl (by decide) ?_
  refine r_val (v := .int _ _) (v_len_rsl csl22 (.inl rfl)) rfl rfl (by decide) ?_
  refine r_val (v := .int _ _) (v_load_rp (c := .int _ _) cta3 (.inl rfl) rfl (fun _ => rfl)) rfl rfl (by decide) ?_
  refine r_val (v := .bool _) (v_gtr (.inl rfl) (.inl rfl)) rfl rfl (by decide) ?_
  refine r_nil ?_
  refine k_cond rfl (fun ht13 => ?_) (fun ht13 => ?_)
  · refine k_ret ?_
    have h60 : 60 < (F.take 61).length := by have h9 := of_decide_eq_true ht13; omega
    refine ret0_objs Try.results47 (by decide) ⟨⟨Weak.of_eq (by unfold outO; rw [take_stop h60]; rfl), rfl⟩, ⟨Weak.of_eq rfl, rfl⟩, ⟨Weak.of_eq rfl, rfl⟩, ⟨Weak.of_eq rfl, rfl⟩, ⟨Weak.of_eq rfl, rfl⟩, trivial⟩
  have h60 : (F.take 61).length ≤ 60 := by have h9 := of_decide_eq_false ht13; omega
  refine k_skip ?_
  refine k_seq ?_
  refine k_seq ?_
  refine k_of (a_region ?_)
  refine r_val (v := .nils) (v_move (.inl rfl) (noOwn_flat rfl)) rfl rfl (by decide) ?_
  refine r_val (v := .int _ _) (v_len_nils csl42 (.inl rfl)) rfl rfl (by decide) ?_
  refine r_val (v := .int _ _) (v_load_rp (c := .int _ _) cta3 (.inl rfl) rfl (fun _ => rfl)) rfl rfl (by decide) ?_
  refine r_val (v := .bool _) (v_eql (.inl rfl) (.inl rfl)) rfl rfl (by decide) ?_
  refine r_nil ?_
  refine k_cond rfl (fun ht17 => ?_) (fun ht17 => ?_)
  · exfalso; have h9 := of_decide_eq_true ht17; omega
  refine k_skip ?_
  refine k_seq ?_
  refine k_of (a_region ?_)
  refine r_val (v := .int _ _) (v_move (.inl rfl) (noOwn_flat rfl)) rfl rfl (by decide) ?_
  refine r_val (v := .int _ _) (v_assign (.inl rfl) (noOwn_flat rfl)) rfl rfl (by decide) ?_
  refine r_nil ?_
  refine k_block ?_
  refine k_loop (X := Nat × List (List Int)) (fun x => look (st0 many n V x.1 (F ++ x.2)))
    (fun x => u ≤ x.1 ∧ x.1 ≤ n + 1 ∧ x.2 ++ chR 1 (n + 1 - x.1) (l + 1) x.1 [] = chR 1 d (l + 1) u []) (fun x => n + 2 - x.1) (u, [])
    (ent_look ⟨Weak.of_eq rfl, Weak.of_eq rfl, Weak.of_eq rfl, Weak.of_eq rfl, Weak.of_eq rfl, Weak.of_eq rfl, Weak.of_eq rfl, Weak.of_eq (by rw [List.append_nil]; rfl), Weak.of_eq rfl, Weak.of_eq rfl, Weak.of_eq rfl, Weak.of_eq rfl, trivial⟩)
    ⟨Nat.le_refl _, by omega, by rw [List.nil_append, show n + 1 - u = d by omega]⟩ (fun x hG => ?_)
  obtain ⟨v, B⟩ := x
  obtain ⟨g1, g2, g3⟩ := hG
  dsimp only at g1 g2 g3
  refine k_seq ?_
  refine k_seq ?_
  refine k_of (a_region ?_)
  refine r_val (v := .int _ _) (v_move (.inl rfl) (noOwn_flat rfl)) rfl rfl (by decide) ?_
  refine r_val (v := .int _ _) (v_load_rp (c := .int _ _) cta3 (.inl rfl) rfl (fun _ => rfl)) rfl rfl (by decide) ?_
  refine r_val (v := .bool _) (v_leq (.inl rfl) (.inl rfl)) rfl rfl (by decide) ?_
  refine r_nil ?_
  refine k_cond rfl (fun ht26 => ?_) (fun ht26 => ?_)
  · refine k_skip ?_
    have hvn : v ≤ n := by have h9 := of_decide_eq_true ht26; omega
    have hic2 : icells ([(v : Int)]) ≠ [] := fun h => by have h9 := congrArg List.length h; rw [icells_length] at h9; simp at h9
    have hc := grow1_c n many hn hm V hV (n - v) (v + 1) l 1 [(v : Int)] (F ++ B) (by omega) (by simp; omega) (by simp)
    have hstep : (B ++ chR 1 (n - v) l (v + 1) [(v : Int)]) ++ chR 1 (n + 1 - (v + 1)) (l + 1) (v + 1) [] = chR 1 d (l + 1) u [] := by
      rw [← g3, show n + 1 - v = (n - v) + 1 by omega, chR_s, Int.one_mul, List.nil_append, List.append_assoc, show n + 1 - (v + 1) = n - v by omega]
    refine k_join (look (st0 many n V v (F ++ (B ++ chR 1 (n - v) l (v + 1) [(v : Int)])))) (k_block ?_) ?_
    rotate_left
    · refine k_of (a_region ?_)
      refine r_val (v := .int _ _) (v_move (.inl rfl) (noOwn_flat rfl)) rfl rfl (by decide) ?_
      refine r_val (v := .int .i64 ((v + 1 : Nat) : Int)) ((v_add (.inl rfl) (.inl rfl) (fun _ => by omega)).cast (int_eq (by omega))) rfl rfl (by decide) ?_
      refine r_val (v := .int _ _) (v_assign (.inl rfl) (noOwn_flat rfl)) rfl rfl (by decide) ?_
      refine r_nil ?_
      exact ⟨(v + 1, B ++ chR 1 (n - v) l (v + 1) [(v : Int)]), ent_look ⟨Weak.of_eq rfl, Weak.of_eq rfl, Weak.of_eq rfl, Weak.of_eq rfl, Weak.of_eq rfl, Weak.of_eq rfl, Weak.of_eq rfl, Weak.of_eq rfl, Weak.of_eq rfl, Weak.of_eq rfl, Weak.of_eq rfl, Weak.of_eq rfl, trivial⟩, ⟨by dsimp only; omega, by dsimp only; omega, hstep⟩, by dsimp only; omega⟩
    refine k_pre (ent_look (L := st0 many n V v (F ++ B)) ⟨Weak.of_eq rfl, Weak.of_eq rfl, Weak.of_eq rfl, Weak.of_eq rfl, Weak.of_eq rfl, Weak.of_eq rfl, Weak.of_eq rfl, Weak.of_eq rfl, Weak.of_eq rfl, Weak.of_eq rfl, Weak.of_eq rfl, Weak.of_eq rfl, trivial⟩) ?_
    · refine k_region_z (n := 7) [[(29, true)], [(30, true)], [(31, true)], [(32, true)], [(33, true)], [(34, true)], [(35, true)]] mixed (by kernel_rfl) ?_
      refine z_val (v := .that _ _) (v_load_rp (c := .that 47 V) cta70 (.inl rfl) rfl (fun _ => rfl)) rfl rfl (by decide) rfl (by kernel_rfl) ?_
      refine z_val (v := .nils) (v_move (.inl rfl) (noOwn_flat rfl)) rfl rfl (by decide) rfl (by kernel_rfl) ?_
      refine z_val (v := .int _ _) (v_move (.inl rfl) (noOwn_flat rfl)) rfl rfl (by decide) rfl (by kernel_rfl) ?_
      refine z_new (v := .osl 1 (icells [(v : Int)]) 1 (some 1)) (q_sliceLit (n := 1) (parts := [(0, .tmp 31)]) clt42 rfl rfl rfl rfl) rfl rfl (by decide) rfl (by kernel_rfl) ?_
      refine z_new (v := .osl 1 (icells [(v : Int)]) 1 none) (q_append_nil (m := 1) cap42 (.inl (.inl rfl)) (src_lit (.inl rfl) rfl rfl rfl) rfl (fun _ => by omega)) rfl rfl (by decide) rfl (by kernel_rfl) ?_
      refine z_val (v := .int _ _) (v_move (.inl rfl) (noOwn_flat rfl)) rfl rfl (by decide) rfl (by kernel_rfl) ?_
      refine z_val (v := .int .i64 ((v + 1 : Nat) : Int)) ((v_add (.inl rfl) (.inl rfl) (fun _ => by omega)).cast (int_eq (by omega))) rfl rfl (by decide) rfl (by kernel_rfl) ?_
      refine z_nil ?_
      have hinj : ∀ i j, i < 6 → j < 6 → (fun j => if j = 5 then 33 else INH + j) i = (fun j => if j = 5 then 33 else INH + j) j → i = j := fun i j hi hj h => by dsimp only [INH] at h; split at h <;> split at h <;> omega
      refine kr_clo (m := 6) (ρ := fun j => if j = 5 then 33 else INH + j) (xvs := [.rsl (33, []) 1 0 _ none, .int .i64 _]) (xargs := [.rsl (INH + 5, []) 1 0 1 none, .int .i64 ((v + 1 : Nat) : Int)])
        (objs := growO many n V (F ++ B) ++ [.osl 1 (icells [(v : Int)]) 1 none]) (objs2 := growO many n V (F ++ B ++ chR 1 (n - v) l (v + 1) [(v : Int)]) ++ [.osl 1 (icells [(v : Int)]) 1 none])
        (Lk := [(0, .nils), (2, .rp (INH, []) 0), (3, .rp (INH + 1, []) 0), (4, .rp (INH + 2, []) 0), (5, .rp (INH + 3, []) 0), (6, .rp (INH + 4, []) 0), (9, .int .i64 (v : Nat))])
        rfl rfl chb47 rfl (by decide) (by decide) rfl ⟨.inl rfl, .inl rfl, trivial⟩ ⟨seen_rsl (j := 5) (by decide), seen_int, trivial⟩ (by exact hc) rfl rfl (lt6 (by show _ = outO (F ++ B); rfl) (by show _ = AV.op [.int .i64 60]; rfl) (by show _ = AV.op [.int .i64 (many : Nat)]; rfl) (by show _ = AV.op [.int .i64 (n : Nat)]; rfl) (by show _ = AV.op [.that 47 V]; rfl) (by show _ = AV.osl 1 (icells [(v : Int)]) 1 none; rfl)) hinj
        (fun j hj => grow_op j (by rw [hV] at hj; exact hj)) grow_refs grow_refs grow_noSh (by rw [hV]; decide)
        (fun j _ => by show (if j = 5 then 33 else INH + j) ≠ 36; unfold INH; split <;> omega) (by rw [hV]; simp [INH]) ?_ rfl (by decide) (fun j hj => by rw [hV] at hj; exact if_neg (by omega)) hgv ?_
      · exact ⟨⟨rfl, stay_own rfl, by decide⟩, ⟨rfl, .inr (.inl ⟨0, 0, _, _, rfl, rfl, rfl⟩), by decide⟩, ⟨rfl, .inr (.inl ⟨1, 0, _, _, rfl, rfl, rfl⟩), by decide⟩, ⟨rfl, .inr (.inl ⟨2, 0, _, _, rfl, rfl, rfl⟩), by decide⟩, ⟨rfl, .inr (.inl ⟨3, 0, _, _, rfl, rfl, rfl⟩), by decide⟩, ⟨rfl, .inr (.inl ⟨4, 0, _, _, rfl, rfl, rfl⟩), by decide⟩, ⟨rfl, stay_own rfl, by decide⟩, trivial⟩
      refine kr_nil ?_
      have hlow : ∀ i, i < 33 ∨ i = INH + 5 → ∀ j, j < 6 → (fun j => if j = 5 then 33 else INH + j) j ≠ i := fun i hi j hj => by dsimp only [INH] at hi ⊢; split <;> omega
      have hr := fun j (hj : j < 6) => tau_root (objs2 := growO many n V (F ++ B ++ chR 1 (n - v) l (v + 1) [(v : Int)]) ++ [.osl 1 (icells [(v : Int)]) 1 none]) (Lk := [(0, .nils), (2, .rp (INH, []) 0), (3, .rp (INH + 1, []) 0), (4, .rp (INH + 2, []) 0), (5, .rp (INH + 3, []) 0), (6, .rp (INH + 4, []) 0), (9, .int .i64 (v : Nat))]) hinj hj
      exact ent_look ⟨Weak.of_eq (tau_low (hlow _ (.inl (by decide)))), Weak.of_eq (tau_low (hlow _ (.inl (by decide)))), Weak.of_eq (tau_low (hlow _ (.inl (by decide)))), Weak.of_eq (tau_low (hlow _ (.inl (by decide)))), Weak.of_eq (tau_low (hlow _ (.inl (by decide)))), Weak.of_eq (tau_low (hlow _ (.inl (by decide)))), Weak.of_eq (tau_low (hlow _ (.inl (by decide)))),
        Weak.of_eq ((hr 0 (by decide)).trans (by rw [List.append_assoc]; rfl)), Weak.of_eq (hr 1 (by decide)), Weak.of_eq (hr 2 (by decide)), Weak.of_eq (hr 3 (by decide)), Weak.of_eq (hr 4 (by decide)), trivial⟩
  · refine k_exit ?_
    have hvn : v = n + 1 := by have h9 := of_decide_eq_false ht26; omega
    subst hvn
    rw [Nat.sub_self, chR_n, List.append_nil] at g3
    subst g3
    exact ret0_objs Try.results47 (by decide) ⟨⟨Weak.of_eq rfl, rfl⟩, ⟨Weak.of_eq rfl, rfl⟩, ⟨Weak.of_eq rfl, rfl⟩, ⟨Weak.of_eq rfl, rfl⟩, ⟨Weak.of_eq rfl, rfl⟩, trivial⟩
end Go.Av
namespace Go.Av
open Go Go.Proofs
set_option maxRecDepth 10000
theorem czc22 : zeroCells Try.prog 22 = some [.nils] := by kernel_rfl
theorem czc70 : zeroCells Try.prog 70 = some [.undef] := by kernel_rfl
def chRho (j : Nat) : Nat := match j with
  | 0 => 7
  | 1 => 5
  | 2 => 4
  | 3 => 3
  | _ => 8
theorem chRho_inj : ∀ i j, i < 5 → j < 5 → chRho i = chRho j → i = j := fun i j hi hj =>
  (by decide : ∀ i, i < 5 → ∀ j, j < 5 → chRho i = chRho j → i = j) i hi j hj
/-- The lists that are chosen: at most 61. -/
def chO (n many : Nat) : List (List Int) := (chR 1 n many 1 []).take 61
theorem choices_c (n many : Nat) (hn : n ≤ 12) (hm : many ≤ 13) (h1 : 1 ≤ many) : ACall Try.prog 25 [.int .i64 (n : Nat), .int .i64 (many : Nat), .int .i64 60] [] (.osl 1 (osls (chO n many)) (chO n many).length none) [] := by
  obtain ⟨l, rfl⟩ : ∃ l, many = l + 1 := ⟨many - 1, by omega⟩
  refine ACall.intro Try.func25 rfl (N := 13) rfl (by decide) (by simp) ?_
  refine a_seq ?_
  refine a_region ?_
  refine r_new (v := .op [.int _ _]) (q_box (.inl rfl) rfl rfl) rfl rfl (by decide) ?_
  refine r_new (v := .op [.int _ _]) (q_box (.inl rfl) rfl rfl) rfl rfl (by decide) ?_
  refine r_new (v := .op [.int _ _]) (q_box (.inl rfl) rfl rfl) rfl rfl (by decide) ?_
  refine r_val (v := .nils) (v_assign (.inl rfl) (noOwn_flat rfl)) rfl rfl (by decide) ?_
  refine r_nil ?_
  refine a_seq ?_
  refine a_region ?_
  refine r_new (v := .op [.nils]) (q_alloc czc22) rfl rfl (by decide) ?_
  refine r_nil ?_
  refine a_seq ?_
  refine a_region ?_
  refine r_new (v := .op [.undef]) (q_alloc czc70) rfl rfl (by decide) ?_
  refine r_nil ?_
  refine a_pre (ent_nil_at (t := 7) (r := [0]) (sz := 1) rfl (.inl rfl) rfl rfl) ?_
  refine a_link chRho 5 (fun gv e V hV => ?_)
  have hds : ∀ (t : Nat), (∀ j, j < 5 → chRho j ≠ t) → ∀ j, j < V.length → chRho j ≠ t := fun t h j hj => h j (by omega)
  refine l_region (fun s => Ent s (look [(7, outO []), (5, .op [.int .i64 60]), (4, .op [.int .i64 ((l + 1 : Nat) : Int)]), (3, .op [.int .i64 (n : Nat)]), (8, .op [.that 47 V]), (6, .nils)])) ?_ (by rw [hV]; exact lt5 rfl rfl rfl rfl rfl) (fun s hs => ?_)
  · refine lr_val (v := .fn _ _ _) (v_makeFunc (first := []) (caps := [.tmp 7, .tmp 5, .tmp 4, .tmp 3, .tmp 8]) rfl rfl) rfl rfl (by decide) (hds 9 (by decide)) ?_
    refine lr_that (f := 47) (t := 9) (by rw [hV]; rfl) (by rw [hV]; exact lt5 ⟨_, rfl⟩ ⟨_, rfl⟩ ⟨_, rfl⟩ ⟨_, rfl⟩ ⟨_, rfl⟩) ?_
    refine lr_of ?_
    refine r_step rfl (o_store (v := .that _ _) (y' := .op [.that _ _]) rfl rfl cta70 (.inl rfl) (.inl rfl) rfl rfl rfl rfl rfl rfl (Nat.le_of_ble_eq_true rfl) (by decide) rfl rfl) ?_
    refine r_nil ?_
    exact ent_look ⟨Weak.of_eq rfl, Weak.of_eq rfl, Weak.of_eq rfl, Weak.of_eq rfl, Weak.of_eq rfl, Weak.of_eq rfl, trivial⟩
  refine l_pre hs ?_
  refine l_region (fun s => Ent s (look [(7, outO (chR 1 n (l + 1) 1 [])), (6, .nils)])) ?_ (by rw [hV]; exact lt5 rfl rfl rfl rfl rfl) (fun s hs => ?_)
  · refine lr_val (v := .that _ _) (v_load_rp (c := .that 47 V) cta70 (.inl rfl) rfl (fun _ => rfl)) rfl rfl (by decide) (hds 10 (by decide)) ?_
    refine lr_clo (m := 5) (ρ := chRho) (xvs := [.nils, .int .i64 1]) (xargs := [.nils, .int .i64 ((1 : Nat) : Int)]) (objs := growO (l + 1) n V []) (objs2 := growO (l + 1) n V ([] ++ chR 1 n (l + 1) 1 [])) (Lk := [(6, .nils)])
      rfl rfl chb47 rfl (by decide) (by decide) rfl ⟨.inl rfl, .inl rfl, trivial⟩ ⟨seen_nils, seen_int, trivial⟩ (by exact grow0_c n (l + 1) hn hm V hV n 1 l [] (by omega) rfl) rfl rfl (lt5 rfl rfl rfl rfl rfl) chRho_inj
      (fun j hj => lt5 (p := fun j => ∃ cs, (growO (l + 1) n V [])[j]? = some (AV.op cs)) ⟨_, rfl⟩ ⟨_, rfl⟩ ⟨_, rfl⟩ ⟨_, rfl⟩ ⟨_, rfl⟩ j (by omega)) (lt5 rfl rfl rfl rfl rfl) (lt5 rfl rfl rfl rfl rfl) (lt5 (by show noSh (outO _) = true; simp [outO, noSh, noShL, osls_noSh]) rfl rfl rfl rfl) (by omega) (by decide) (by rw [hV]; simp [INH]) ⟨⟨rfl, stay_own rfl, by decide⟩, trivial⟩ rfl ?_
    refine r_nil ?_
    exact ent_look ⟨Weak.of_eq ((tau_root chRho_inj (j := 0) (by decide)).trans rfl), Weak.of_eq (tau_low (by decide)), trivial⟩
  refine l_pre hs ?_
  refine l_of (a_seq ?_)
  refine a_region ?_
  refine r_val (v := .rsl _ _ _ _ _) (v_load_rp (c := .osl _ _ _ _) cta22 (.inl rfl) rfl (fun _ => rfl)) rfl rfl (by decide) ?_
  refine r_val (v := .rsl _ _ _ _ _) (v_assign (.inl rfl) (noOwn_flat rfl)) rfl rfl (by decide) ?_
  refine r_nil ?_
  refine a_pre (ent_reloc_sl (t := 6) rfl rfl) ?_
  refine a_ret ?_
  exact ret1 Try.results25 (by decide) (by decide) (Weak.osl rfl rfl) rfl Leaves.nil
end Go.Av
namespace Go.Av
open Go Go.Proofs Go.Sort
set_option maxRecDepth 10000
theorem hb34 : hasBody Try.prog 34 = true := by kernel_rfl

end Go.Av
namespace Go.Av
open Go
/-- The number of the pair of i and j, from 1 on. -/
def pNum (n i j : Nat) : Int := ((min (i : Int) j - 1) * (2 * (n : Int) - min (i : Int) j)) / 2 + max (i : Int) j - min (i : Int) j
def pS (n : Nat) : Nat → Int
  | 0 => 0
  | k + 1 => pS n k + n - ((k + 1 : Nat) : Int)
theorem pS_bd : ∀ n < 6, ∀ k < 6, -100 ≤ pS n k ∧ pS n k ≤ 100 := by decide +kernel
theorem pS_num : ∀ n : Nat, n < 6 → ∀ i : Nat, i < 6 → ∀ j : Nat, j < 6 → i = 0 ∨ j = 0 ∨ pS n (min i j - 1) + max (i : Int) j - min (i : Int) j = pNum n i j := by decide +kernel
theorem pNum_bd : ∀ n < 6, ∀ i < 6, ∀ j < 6, -100 ≤ pNum n i j ∧ pNum n i j ≤ 100 := by decide +kernel
theorem pNum_pr : ∀ n : Nat, n < 6 → ∀ i : Nat, i < 6 → ∀ j : Nat, j < 6 → i = 0 ∨ j = 0 ∨ n < i ∨ 0 ≤ (min (i : Int) j - 1) * (2 * (n : Int) - min (i : Int) j) ∧ (min (i : Int) j - 1) * (2 * (n : Int) - min (i : Int) j) ≤ 100 := by decide +kernel
end Go.Av
namespace Go.Av
open Go
/-- The assignment in which all literals of a clause are false. -/
def ngL (c : List Int) : List Int := c.map fun x => -x
def ngP (c : List Int) (i : Nat) : List Int := ngL (c.take i)
theorem ngP_succ {c : List Int} {i : Nat} (h : i < c.length) : ngP c (i + 1) = ngP c i ++ [-(gd c i)] := by unfold ngP ngL; rw [take_gd h, List.map_append]; rfl
theorem ngP_len {c : List Int} {i : Nat} (h : i ≤ c.length) : (ngP c i).length = i := by simp [ngP, ngL]; omega
theorem ngP_full {c : List Int} {i : Nat} (h : c.length ≤ i) : ngP c i = ngL c := by unfold ngP; rw [List.take_of_length_le h]
theorem ngL_len (c : List Int) : (ngL c).length = c.length := by simp [ngL]
end Go.Av
namespace Go.Av
open Go
/-- Triangles. -/
def tA (n a b c : Nat) : List Int := [pNum n a b, pNum n a c, pNum n b c]
def tB (n a b c : Nat) : List Int := [-pNum n a b, -pNum n a c, -pNum n b c]
def tR3 (n a b k : Nat) : List (List Int) := (List.range k).flatMap fun c => [tA n (a + 1) (b + 1) (b + 1 + c + 1), tB n (a + 1) (b + 1) (b + 1 + c + 1)]
def tR2 (n a k : Nat) : List (List Int) := (List.range k).flatMap fun b => tR3 n a (a + 1 + b) (n - (a + 1 + b + 1))
def tR1 (n k : Nat) : List (List Int) := (List.range k).flatMap fun a => tR2 n a (n - (a + 1))
theorem tR3_succ (n a b k : Nat) : tR3 n a b (k + 1) = (tR3 n a b k ++ [tA n (a + 1) (b + 1) (b + 1 + k + 1)]) ++ [tB n (a + 1) (b + 1) (b + 1 + k + 1)] := by unfold tR3; rw [List.range_succ, List.flatMap_append]; simp
theorem tR2_succ {n a k c : Nat} (e : c = n - (a + 1 + k + 1)) : tR2 n a (k + 1) = tR2 n a k ++ tR3 n a (a + 1 + k) c := by subst e; unfold tR2; rw [List.range_succ, List.flatMap_append]; simp
theorem tR1_succ {n k b : Nat} (e : b = n - (k + 1)) : tR1 n (k + 1) = tR1 n k ++ tR2 n k b := by subst e; unfold tR1; rw [List.range_succ, List.flatMap_append]; simp
theorem t_good : ∀ n < 6, goodB 144 (tR1 n n) = true := by decide +kernel
/-- The triangles as they are chosen. -/
def tOf (n : Nat) (t : List Int) : List (List Int) := [tA n (gd t 0).toNat (gd t 1).toNat (gd t 2).toNat, tB n (gd t 0).toNat (gd t 1).toNat (gd t 2).toNat]
def tC (n i : Nat) : List (List Int) := (((chR 1 n 3 1 []).take 61).take i).flatMap (tOf n)
theorem tC_all : ∀ n < 6, tC n ((chR 1 n 3 1 []).take 61).length = tR1 n n := by decide +kernel
theorem tC_succ {n i : Nat} (h : i < ((chR 1 n 3 1 []).take 61).length) : tC n (i + 1) = (tC n i ++ [tA n (gd (gl ((chR 1 n 3 1 []).take 61) i) 0).toNat (gd (gl ((chR 1 n 3 1 []).take 61) i) 1).toNat (gd (gl ((chR 1 n 3 1 []).take 61) i) 2).toNat]) ++ [tB n (gd (gl ((chR 1 n 3 1 []).take 61) i) 0).toNat (gd (gl ((chR 1 n 3 1 []).take 61) i) 1).toNat (gd (gl ((chR 1 n 3 1 []).take 61) i) 2).toNat] := by
  unfold tC
  rw [List.take_succ_eq_append_getElem h, List.flatMap_append, show gl ((chR 1 n 3 1 []).take 61) i = ((chR 1 n 3 1 []).take 61)[i] by unfold gl; rw [List.getElem?_eq_getElem h]; rfl]
  simp [tOf]
theorem tC_len {n i : Nat} (h : i ≤ ((chR 1 n 3 1 []).take 61).length) : (tC n i).length = 2 * i := by
  induction i with
  | zero => simp [tC]
  | succ i ih => rw [tC_succ (by omega), List.length_append, List.length_append, ih (by omega)]; simp; omega
theorem t_row : ∀ n < 6, ∀ i, i < ((chR 1 n 3 1 []).take 61).length → (gl ((chR 1 n 3 1 []).take 61) i).length = 3 ∧ 1 ≤ gd (gl ((chR 1 n 3 1 []).take 61) i) 0 ∧ gd (gl ((chR 1 n 3 1 []).take 61) i) 0 < gd (gl ((chR 1 n 3 1 []).take 61) i) 1 ∧ gd (gl ((chR 1 n 3 1 []).take 61) i) 1 < gd (gl ((chR 1 n 3 1 []).take 61) i) 2 ∧ gd (gl ((chR 1 n 3 1 []).take 61) i) 2 ≤ n := by decide +kernel
theorem t_many : ∀ n < 6, ((chR 1 n 3 1 []).take 61).length ≤ 10 := by decide +kernel
end Go.Av
namespace Go.Av
open Go Go.Proofs Go.Sort
set_option maxRecDepth 10000



end Go.Av
namespace Go.Av
open Go Go.Proofs Go.Sort
set_option maxRecDepth 10000



end Go.Av
namespace Go.Av
open Go Go.Proofs Go.Sort
set_option maxRecDepth 10000



end Go.Av
namespace Go.Av
open Go Go.Proofs Go.Sort
set_option maxRecDepth 10000



end Go.Av
namespace Go.Av
open Go Go.Proofs Go.Sort
set_option maxRecDepth 10000



end Go.Av
namespace Go.Av
open Go Go.Proofs Go.Sort
set_option maxRecDepth 10000



end Go.Av
namespace Go.Av
open Go Go.Proofs Go.Sort
set_option maxRecDepth 10000
theorem hb32 : hasBody Try.prog 32 = true := by kernel_rfl
theorem hb54 : hasBody Try.prog 54 = true := by kernel_rfl

theorem pairsOf_c (n : Int) (h : 0 ≤ n ∧ n ≤ 5) : ACall Try.prog 35 [.int .i64 n] [] (.int .i64 (n * (n - 1) / 2)) [] := by
  have hb : 0 ≤ n * (n - 1) ∧ n * (n - 1) ≤ 20 := (by rcases (by omega : n = 0 ∨ n = 1 ∨ n = 2 ∨ n = 3 ∨ n = 4 ∨ n = 5) with rfl | rfl | rfl | rfl | rfl | rfl <;> decide)
  refine ACall.intro Try.func35 rfl (N := 8) rfl (by decide) (by simp) ?_
  refine a_seq ?_
  refine a_region ?_
  refine r_val (v := .int _ _) (v_assign (.inl rfl) (noOwn_flat rfl)) rfl rfl (by decide) ?_
  refine r_nil ?_
  refine a_seq ?_
  refine a_region ?_
  refine r_val (v := .int _ _) (v_move (.inl rfl) (noOwn_flat rfl)) rfl rfl (by decide) ?_
  refine r_val (v := .int _ _) (v_move (.inl rfl) (noOwn_flat rfl)) rfl rfl (by decide) ?_
  refine r_val (v := .int _ _) (v_sub (.inl rfl) (.inl rfl) (fun _ => by omega)) rfl rfl (by decide) ?_
  refine r_val (v := .int _ _) (v_mul (.inl rfl) (.inl rfl) (fun _ => by omega)) rfl rfl (by decide) ?_
  refine r_val (v := .int _ _) (v_quo (.inl rfl) (.inl rfl) (fun _ => by omega)) rfl rfl (by decide) ?_
  refine r_val (v := .int _ _) (v_assign (.inl rfl) (noOwn_flat rfl)) rfl rfl (by decide) ?_
  refine r_nil ?_
  refine a_ret ?_
  refine ret1 Try.results35 (by decide) (by decide) (Weak.of_eq (int_eq ?_)) rfl Leaves.nil
  rfl

theorem pairNumber_c (n i j : Nat) (hn : n < 6) (hi : i < 6) (hj : j < 6) (hi0 : 0 < i) (hj0 : 0 < j) (hin : i ≤ n) : ACall Try.prog 36 [.int .i64 ((n : Nat) : Int), .int .i64 ((i : Nat) : Int), .int .i64 ((j : Nat) : Int)] [] (.int .i64 (pNum n i j)) [] := by
  have hp := ((pNum_pr n hn i hi j hj).resolve_left (by omega)).resolve_left (by omega)
  have hp := hp.resolve_left (by omega)
  have hd := pNum_bd n hn i hi j hj
  refine ACall.intro Try.func36 rfl (N := 25) rfl (by decide) (by simp) ?_
  refine a_seq ?_
  refine a_region ?_
  refine r_val (v := .int _ _) (v_assign (.inl rfl) (noOwn_flat rfl)) rfl rfl (by decide) ?_
  refine r_nil ?_
  refine a_seq ?_
  refine a_region ?_
  refine r_val (v := .int _ _) (v_move (.inl rfl) (noOwn_flat rfl)) rfl rfl (by decide) ?_
  refine r_val (v := .int _ _) (v_move (.inl rfl) (noOwn_flat rfl)) rfl rfl (by decide) ?_
  refine r_val (v := .int _ _) (v_min (.inl rfl) (.inl rfl)) rfl rfl (by decide) ?_
  refine r_val (v := .int _ _) (v_move (.inl rfl) (noOwn_flat rfl)) rfl rfl (by decide) ?_
  refine r_val (v := .int _ _) (v_move (.inl rfl) (noOwn_flat rfl)) rfl rfl (by decide) ?_
  refine r_val (v := .int _ _) (v_max (.inl rfl) (.inl rfl)) rfl rfl (by decide) ?_
  refine r_val (v := .int _ _) (v_assign (.inl rfl) (noOwn_flat rfl)) rfl rfl (by decide) ?_
  refine r_val (v := .int _ _) (v_assign (.inl rfl) (noOwn_flat rfl)) rfl rfl (by decide) ?_
  refine r_nil ?_
  refine a_seq ?_
  refine a_region ?_
  refine r_val (v := .int _ _) (v_move (.inl rfl) (noOwn_flat rfl)) rfl rfl (by decide) ?_
  refine r_val (v := .int _ _) (v_sub (.inl rfl) (.inl rfl) (fun _ => by omega)) rfl rfl (by decide) ?_
  refine r_val (v := .int _ _) (v_move (.inl rfl) (noOwn_flat rfl)) rfl rfl (by decide) ?_
  refine r_val (v := .int _ _) (v_mul (.inl rfl) (.inl rfl) (fun _ => by omega)) rfl rfl (by decide) ?_
  refine r_val (v := .int _ _) (v_move (.inl rfl) (noOwn_flat rfl)) rfl rfl (by decide) ?_
  refine r_val (v := .int _ _) (v_sub (.inl rfl) (.inl rfl) (fun _ => by omega)) rfl rfl (by decide) ?_
  refine r_val (v := .int _ _) (v_mul (.inl rfl) (.inl rfl) (fun _ => by omega)) rfl rfl (by decide) ?_
  refine r_val (v := .int _ _) (v_quo (.inl rfl) (.inl rfl) (fun _ => by omega)) rfl rfl (by decide) ?_
  refine r_val (v := .int _ _) (v_move (.inl rfl) (noOwn_flat rfl)) rfl rfl (by decide) ?_
  refine r_val (v := .int _ _) (v_add (.inl rfl) (.inl rfl) (fun _ => by omega)) rfl rfl (by decide) ?_
  refine r_val (v := .int _ _) (v_move (.inl rfl) (noOwn_flat rfl)) rfl rfl (by decide) ?_
  refine r_val (v := .int _ _) (v_sub (.inl rfl) (.inl rfl) (fun _ => by omega)) rfl rfl (by decide) ?_
  refine r_val (v := .int _ _) (v_assign (.inl rfl) (noOwn_flat rfl)) rfl rfl (by decide) ?_
  refine r_nil ?_
  refine a_ret ?_
  refine ret1 Try.results36 (by decide) (by decide) (Weak.of_eq (int_eq ?_)) rfl Leaves.nil
  rfl

theorem l1Least_c (a b : Int) : ACall Try.prog 54 [.int .i64 a, .int .i64 b] [] (.int .i64 (min a b)) [] := by
  refine ACall.intro Try.func54 rfl (N := 10) rfl (by decide) (by simp) ?_
  refine a_seq ?_
  refine a_region ?_
  refine r_val (v := .int _ _) (v_assign (.inl rfl) (noOwn_flat rfl)) rfl rfl (by decide) ?_
  refine r_nil ?_
  refine a_seq ?_
  refine a_seq ?_
  refine a_region ?_
  refine r_val (v := .int _ _) (v_move (.inl rfl) (noOwn_flat rfl)) rfl rfl (by decide) ?_
  refine r_val (v := .int _ _) (v_move (.inl rfl) (noOwn_flat rfl)) rfl rfl (by decide) ?_
  refine r_val (v := .bool _) (v_lss (.inl rfl) (.inl rfl)) rfl rfl (by decide) ?_
  refine r_nil ?_
  refine a_cond rfl (fun ht7 => ?_) (fun ht7 => ?_)
  ·
    skip
    refine a_seq ?_
    refine a_region ?_
    refine r_val (v := .int _ _) (v_move (.inl rfl) (noOwn_flat rfl)) rfl rfl (by decide) ?_
    refine r_val (v := .int _ _) (v_assign (.inl rfl) (noOwn_flat rfl)) rfl rfl (by decide) ?_
    refine r_nil ?_
    refine a_ret ?_
    refine ret1 Try.results54 (by decide) (by decide) (Weak.of_eq (int_eq ?_)) rfl Leaves.nil
    simp at ht7; omega
  ·
    skip
    refine a_skip ?_
    refine a_seq ?_
    refine a_region ?_
    refine r_val (v := .int _ _) (v_move (.inl rfl) (noOwn_flat rfl)) rfl rfl (by decide) ?_
    refine r_val (v := .int _ _) (v_assign (.inl rfl) (noOwn_flat rfl)) rfl rfl (by decide) ?_
    refine r_nil ?_
    refine a_ret ?_
    refine ret1 Try.results54 (by decide) (by decide) (Weak.of_eq (int_eq ?_)) rfl Leaves.nil
    simp at ht7; omega

theorem l1Most_c (a b : Int) : ACall Try.prog 32 [.int .i64 a, .int .i64 b] [] (.int .i64 (max a b)) [] := by
  refine ACall.intro Try.func32 rfl (N := 10) rfl (by decide) (by simp) ?_
  refine a_seq ?_
  refine a_region ?_
  refine r_val (v := .int _ _) (v_assign (.inl rfl) (noOwn_flat rfl)) rfl rfl (by decide) ?_
  refine r_nil ?_
  refine a_seq ?_
  refine a_seq ?_
  refine a_region ?_
  refine r_val (v := .int _ _) (v_move (.inl rfl) (noOwn_flat rfl)) rfl rfl (by decide) ?_
  refine r_val (v := .int _ _) (v_move (.inl rfl) (noOwn_flat rfl)) rfl rfl (by decide) ?_
  refine r_val (v := .bool _) (v_gtr (.inl rfl) (.inl rfl)) rfl rfl (by decide) ?_
  refine r_nil ?_
  refine a_cond rfl (fun ht7 => ?_) (fun ht7 => ?_)
  ·
    skip
    refine a_seq ?_
    refine a_region ?_
    refine r_val (v := .int _ _) (v_move (.inl rfl) (noOwn_flat rfl)) rfl rfl (by decide) ?_
    refine r_val (v := .int _ _) (v_assign (.inl rfl) (noOwn_flat rfl)) rfl rfl (by decide) ?_
    refine r_nil ?_
    refine a_ret ?_
    refine ret1 Try.results32 (by decide) (by decide) (Weak.of_eq (int_eq ?_)) rfl Leaves.nil
    simp at ht7; omega
  ·
    skip
    refine a_skip ?_
    refine a_seq ?_
    refine a_region ?_
    refine r_val (v := .int _ _) (v_move (.inl rfl) (noOwn_flat rfl)) rfl rfl (by decide) ?_
    refine r_val (v := .int _ _) (v_assign (.inl rfl) (noOwn_flat rfl)) rfl rfl (by decide) ?_
    refine r_nil ?_
    refine a_ret ?_
    refine ret1 Try.results32 (by decide) (by decide) (Weak.of_eq (int_eq ?_)) rfl Leaves.nil
    simp at ht7; omega

theorem l4Pair_c (n i j : Nat) (hn : n < 6) (hi : i < 6) (hj : j < 6) (hi0 : 0 < i) (hj0 : 0 < j) : ACall Try.prog 33 [.int .i64 ((n : Nat) : Int), .int .i64 ((i : Nat) : Int), .int .i64 ((j : Nat) : Int)] [] (.int .i64 (pNum n i j)) [] := by
  have hd := pNum_bd n hn i hi j hj
  have hs := ((pS_num n hn i hi j hj).resolve_left (by omega)).resolve_left (by omega)
  refine ACall.intro Try.func33 rfl (N := 32) rfl (by decide) (by simp) ?_
  refine a_seq ?_
  refine a_region ?_
  refine r_val (v := .int _ _) (v_assign (.inl rfl) (noOwn_flat rfl)) rfl rfl (by decide) ?_
  refine r_nil ?_
  refine a_seq ?_
  refine a_region ?_
  refine r_val (v := .int _ _) (v_move (.inl rfl) (noOwn_flat rfl)) rfl rfl (by decide) ?_
  refine r_val (v := .int _ _) (v_move (.inl rfl) (noOwn_flat rfl)) rfl rfl (by decide) ?_
  refine r_new (v := .int _ _) (q_call (vs := [.int _ _, .int _ _]) (args := [.int .i64 _, .int .i64 _]) hb54 ⟨.inl rfl, .inl rfl, trivial⟩ rfl (fun hA => l1Least_c _ _) rfl rfl) rfl rfl (by decide) ?_
  refine r_val (v := .int _ _) (v_move (.inl rfl) (noOwn_flat rfl)) rfl rfl (by decide) ?_
  refine r_val (v := .int _ _) (v_move (.inl rfl) (noOwn_flat rfl)) rfl rfl (by decide) ?_
  refine r_new (v := .int _ _) (q_call (vs := [.int _ _, .int _ _]) (args := [.int .i64 _, .int .i64 _]) hb32 ⟨.inl rfl, .inl rfl, trivial⟩ rfl (fun hA => l1Most_c _ _) rfl rfl) rfl rfl (by decide) ?_
  refine r_val (v := .int _ _) (v_assign (.inl rfl) (noOwn_flat rfl)) rfl rfl (by decide) ?_
  refine r_val (v := .int _ _) (v_assign (.inl rfl) (noOwn_flat rfl)) rfl rfl (by decide) ?_
  refine r_nil ?_
  refine a_seq ?_
  refine a_region ?_
  refine r_val (v := .int _ _) (v_assign (.inl rfl) (noOwn_flat rfl)) rfl rfl (by decide) ?_
  refine r_nil ?_
  refine a_seq ?_
  refine a_seq ?_
  refine a_region ?_
  refine r_val (v := .int _ _) (v_assign (.inl rfl) (noOwn_flat rfl)) rfl rfl (by decide) ?_
  refine r_nil ?_
  refine a_block ?_
  refine a_loop (X := Nat) (fun k => look [(0, .int .i64 ((n : Nat) : Int)), (7, .int .i64 (min (i : Int) (j : Int))), (8, .int .i64 (max (i : Int) (j : Int))), (9, .int .i64 (pS n k)), (10, .int .i64 ((k + 1 : Nat) : Int))]) (fun k => k + 1 ≤ min i j) (fun k => min i j - k) 0 (ent_look ⟨Weak.of_eq rfl, Weak.of_eq rfl, Weak.of_eq rfl, Weak.of_eq rfl, Weak.of_eq rfl, trivial⟩) (by omega) (fun k hG => ?_)
  have hsb := pS_bd n hn k (by omega)
  refine a_seq ?_
  refine a_seq ?_
  refine a_region ?_
  refine r_val (v := .int _ _) (v_move (.inl rfl) (noOwn_flat rfl)) rfl rfl (by decide) ?_
  refine r_val (v := .int _ _) (v_move (.inl rfl) (noOwn_flat rfl)) rfl rfl (by decide) ?_
  refine r_val (v := .bool _) (v_lss (.inl rfl) (.inl rfl)) rfl rfl (by decide) ?_
  refine r_nil ?_
  refine a_cond rfl (fun ht19 => ?_) (fun ht19 => ?_)
  ·
    skip
    refine a_skip ?_
    refine a_seq ?_
    refine a_block ?_
    refine a_region ?_
    refine r_val (v := .int _ _) (v_move (.inl rfl) (noOwn_flat rfl)) rfl rfl (by decide) ?_
    refine r_val (v := .int _ _) (v_move (.inl rfl) (noOwn_flat rfl)) rfl rfl (by decide) ?_
    refine r_val (v := .int _ _) (v_add (.inl rfl) (.inl rfl) (fun _ => by omega)) rfl rfl (by decide) ?_
    refine r_val (v := .int _ _) (v_move (.inl rfl) (noOwn_flat rfl)) rfl rfl (by decide) ?_
    refine r_val (v := .int _ _) (v_sub (.inl rfl) (.inl rfl) (fun _ => by omega)) rfl rfl (by decide) ?_
    refine r_val (v := .int _ _) (v_assign (.inl rfl) (noOwn_flat rfl)) rfl rfl (by decide) ?_
    refine r_nil ?_
    refine a_region ?_
    refine r_val (v := .int _ _) (v_move (.inl rfl) (noOwn_flat rfl)) rfl rfl (by decide) ?_
    refine r_val (v := .int _ _) (v_add (.inl rfl) (.inl rfl) (fun _ => by omega)) rfl rfl (by decide) ?_
    refine r_val (v := .int _ _) (v_assign (.inl rfl) (noOwn_flat rfl)) rfl rfl (by decide) ?_
    refine r_nil ?_
    refine ⟨k + 1, ent_look ⟨Weak.of_eq rfl, Weak.of_eq rfl, Weak.of_eq rfl, Weak.of_eq rfl, Weak.of_eq (int_eq (by omega)), trivial⟩, (by simp at ht19; omega), by simp at ht19; omega⟩
  ·
    skip
    refine a_exit ?_
    refine a_seq ?_
    have hke : k = min i j - 1 := (by simp at ht19; omega)
    have hsb := pS_bd n hn k (by omega)
    refine a_region ?_
    refine r_val (v := .int _ _) (v_move (.inl rfl) (noOwn_flat rfl)) rfl rfl (by decide) ?_
    refine r_val (v := .int _ _) (v_move (.inl rfl) (noOwn_flat rfl)) rfl rfl (by decide) ?_
    refine r_val (v := .int _ _) (v_add (.inl rfl) (.inl rfl) (fun _ => by omega)) rfl rfl (by decide) ?_
    refine r_val (v := .int _ _) (v_move (.inl rfl) (noOwn_flat rfl)) rfl rfl (by decide) ?_
    refine r_val (v := .int _ _) (v_sub (.inl rfl) (.inl rfl) (fun _ => by omega)) rfl rfl (by decide) ?_
    refine r_val (v := .int _ _) (v_assign (.inl rfl) (noOwn_flat rfl)) rfl rfl (by decide) ?_
    refine r_nil ?_
    refine a_ret ?_
    refine ret1 Try.results33 (by decide) (by decide) (Weak.of_eq (int_eq ?_)) rfl Leaves.nil
    rw [← hs, hke]
end Go.Av
namespace Go.Av
open Go Go.Proofs Go.Sort
set_option maxRecDepth 10000



end Go.Av
namespace Go.Av
open Go Go.Proofs Go.Sort
set_option maxRecDepth 10000



end Go.Av
namespace Go.Av
open Go Go.Proofs Go.Sort
set_option maxRecDepth 10000



end Go.Av
namespace Go.Av
open Go Go.Proofs Go.Sort
set_option maxRecDepth 10000


end Go.Av
namespace Go.Av
open Go Go.Proofs Go.Sort
set_option maxRecDepth 10000



end Go.Av
namespace Go.Av
open Go Go.Proofs Go.Sort
set_option maxRecDepth 10000



end Go.Av
namespace Go.Av
open Go Go.Proofs Go.Sort
set_option maxRecDepth 10000



end Go.Av
namespace Go.Av
open Go Go.Proofs Go.Sort
set_option maxRecDepth 10000



end Go.Av
namespace Go.Av
open Go Go.Proofs Go.Sort
set_option maxRecDepth 10000


end Go.Av
namespace Go.Av
open Go Go.Proofs Go.Sort
set_option maxRecDepth 10000



end Go.Av
namespace Go.Av
open Go Go.Proofs Go.Sort
set_option maxRecDepth 10000



end Go.Av
namespace Go.Av
open Go Go.Proofs Go.Sort
set_option maxRecDepth 10000



end Go.Av
namespace Go.Av
open Go Go.Proofs Go.Sort
set_option maxRecDepth 10000



end Go.Av
namespace Go.Av
open Go Go.Proofs Go.Sort
set_option maxRecDepth 10000



end Go.Av
namespace Go.Av
open Go Go.Proofs Go.Sort
set_option maxRecDepth 10000



end Go.Av
namespace Go.Av
open Go Go.Proofs Go.Sort
set_option maxRecDepth 10000


theorem negated_c (c : List Int) (hs : SmI c) (hc : c.length ≤ 1048576) : ACall Try.prog 27 [.sl (icells c) c.length] [] (.osl 1 (icells (ngL c)) (ngL c).length none) [] := by
  refine ACall.intro Try.func27 rfl (N := 19) rfl (by decide) (by simp) ?_
  refine a_seq ?_
  refine a_region ?_
  refine r_val (v := .nils) (v_assign (.inl rfl) (noOwn_flat rfl)) rfl rfl (by decide) ?_
  refine r_nil ?_
  refine a_seq ?_
  refine a_region ?_
  refine r_val (v := .nils) (v_assign (.inl rfl) (noOwn_flat rfl)) rfl rfl (by decide) ?_
  refine r_nil ?_
  refine a_seq ?_
  refine a_seq ?_
  refine a_region ?_
  refine r_val (v := .sl _ _) (v_move (.inl rfl) (noOwn_flat rfl)) rfl rfl (by decide) ?_
  refine r_val (v := .int _ _) (v_len_sl sl42 (.inl rfl)) rfl rfl (by decide) ?_
  refine r_val (v := .int _ _) (v_move (.inl rfl) (noOwn_flat rfl)) rfl rfl (by decide) ?_
  refine r_nil ?_
  refine a_block ?_
  refine a_pre (ent_nil (t := 3) (sz := 1) (cap := none) (.inl rfl) (fun _ h => by cases h)) ?_
  refine a_loop (X := Nat) (fun i => look [(3, .osl 1 (icells (ngP c i)) (ngP c i).length none), (6, .sl (icells c) c.length), (7, .int .i64 ((c.length : Nat) : Int)), (8, .int .i64 ((i : Nat) : Int))]) (fun i => i ≤ c.length) (fun i => c.length - i) 0 (ent_look ⟨Weak.osl rfl rfl, Weak.of_eq rfl, Weak.of_eq rfl, Weak.of_eq rfl, trivial⟩) (Nat.zero_le _) (fun i hG => ?_)
  have hsi := hs i
  refine a_seq ?_
  refine a_region ?_
  refine r_val (v := .bool _) (v_lss (.inl rfl) (.inl rfl)) rfl rfl (by decide) ?_
  refine r_nil ?_
  refine a_seq ?_
  refine a_cond rfl (fun ht9 => ?_) (fun ht9 => ?_)
  ·
    skip
    refine a_skip ?_
    refine a_seq ?_
    refine a_block ?_
    refine a_seq ?_
    have hi : i < c.length := (by simp at ht9; omega)
    have hnl := ngP_len (c := c) (i := i) (by omega)
    refine a_region ?_
    refine r_val (v := .pp _ _) (v_indexAddr_sl es42 (.inl rfl) (.inl rfl) (fun _ => ⟨by omega, by omega, icells_ne hi⟩)) rfl rfl (by decide) ?_
    refine r_val (v := .int .i64 (gd c i)) (v_load_pp ta3 (.inl rfl) (fun _ => by rw [Nat.mul_one]; exact icells_get (gd_get hi)) rfl) rfl rfl (by decide) ?_
    refine r_val (v := .int _ _) (v_assign (.inl rfl) (noOwn_flat rfl)) rfl rfl (by decide) ?_
    refine r_nil ?_
    refine a_region ?_
    refine r_val (v := .rsl _ _ _ _ _) (v_move (.inl rfl) (noOwn_flat rfl)) rfl rfl (by decide) ?_
    refine r_val (v := .int _ _) (v_move (.inl rfl) (noOwn_flat rfl)) rfl rfl (by decide) ?_
    refine r_val (v := .int _ _) (v_neg (.inl rfl) (fun _ => by omega)) rfl rfl (by decide) ?_
    refine r_new (v := .osl 1 (icells [-(gd c i)]) 1 (some 1)) (q_sliceLit (n := 1) (parts := [(0, .tmp 14)]) lt42 rfl rfl rfl rfl) rfl rfl (by decide) ?_
    refine r_pre (ent_reloc_sl (t := 12) rfl rfl) ?_
    refine r_step rfl (o_append rfl ap42 rfl (by decide) (by decide) rfl (src_lit (.inl rfl) rfl rfl (ic_pureL _)) (ic_cell _) (by rw [icells_length]; omega) (by omega)) ?_
    refine r_val (v := .rsl _ _ _ _ _) (v_assign (.inl rfl) (noOwn_flat rfl)) rfl rfl (by decide) ?_
    refine r_pre (ent_reloc_sl (t := 3) rfl rfl) ?_
    refine r_nil ?_
    refine a_region ?_
    refine r_val (v := .int _ _) (v_add (.inl rfl) (.inl rfl) (fun _ => by omega)) rfl rfl (by decide) ?_
    refine r_val (v := .int _ _) (v_move (.inl rfl) (noOwn_flat rfl)) rfl rfl (by decide) ?_
    refine r_nil ?_
    refine ⟨i + 1, ent_look ⟨Weak.osl (by rw [ngP_succ hi, icells_append] <;> rfl) (by rw [ngP_succ hi]; simp), Weak.of_eq rfl, Weak.of_eq rfl, Weak.of_eq (int_eq (by omega)), trivial⟩, by omega, by omega⟩
  ·
    skip
    refine a_exit ?_
    refine a_seq ?_
    refine a_region ?_
    refine r_val (v := .rsl _ _ _ _ _) (v_move (.inl rfl) (noOwn_flat rfl)) rfl rfl (by decide) ?_
    refine r_val (v := .rsl _ _ _ _ _) (v_assign (.inl rfl) (noOwn_flat rfl)) rfl rfl (by decide) ?_
    refine r_pre (ent_reloc_sl (t := 2) rfl rfl) ?_
    refine r_nil ?_
    refine a_ret ?_
    refine ret1 Try.results27 (by decide) (by decide) (Weak.osl ?_ ?_) rfl Leaves.nil
    all_goals (rw [ngP_full (by simp at ht9; omega)])
end Go.Av
namespace Go.Av
open Go Go.Proofs Go.Sort
set_option maxRecDepth 10000
theorem hb21 : hasBody Try.prog 21 = true := by kernel_rfl
theorem hb23 : hasBody Try.prog 23 = true := by kernel_rfl
theorem hb25 : hasBody Try.prog 25 = true := by kernel_rfl
theorem hb26 : hasBody Try.prog 26 = true := by kernel_rfl
theorem hb27 : hasBody Try.prog 27 = true := by kernel_rfl
theorem hb28 : hasBody Try.prog 28 = true := by kernel_rfl
theorem sp45 : structPl Try.prog 45 = some ([.int .i64 0, .nils], [(0, 1), (1, 1)]) := by kernel_rfl

end Go.Av
namespace Go.Av
open Go Go.Proofs Go.Sort
set_option maxRecDepth 10000


end Go.Av
namespace Go.Av
open Go Go.Proofs Go.Sort
set_option maxRecDepth 10000


end Go.Av
namespace Go.Av
open Go Go.Proofs Go.Sort
set_option maxRecDepth 10000
theorem hb10 : hasBody Try.prog 10 = true := by kernel_rfl
theorem hb11 : hasBody Try.prog 11 = true := by kernel_rfl
theorem hb9 : hasBody Try.prog 9 = true := by kernel_rfl
theorem un4 : Try.prog.underlying 4 = some .bool := by kernel_rfl

end Go.Av
namespace Go.Av
open Go Go.Proofs Go.Sort
set_option maxRecDepth 10000
theorem hb35 : hasBody Try.prog 35 = true := by kernel_rfl
theorem hb36 : hasBody Try.prog 36 = true := by kernel_rfl

theorem iTri_c (n : Int) : ACall Try.prog 15 [.int .i64 n] [] (.tup [.agg [.int .i64 (resV (inR n 3 5 && cnfB (n * (n - 1) / 2) (accJ (tR1 n.toNat n.toNat))) (n * (n - 1) / 2)), .osl 1 (osls (resL (inR n 3 5 && cnfB (n * (n - 1) / 2) (accJ (tR1 n.toNat n.toNat))) (accJ (tR1 n.toNat n.toNat)))) (resL (inR n 3 5 && cnfB (n * (n - 1) / 2) (accJ (tR1 n.toNat n.toNat))) (accJ (tR1 n.toNat n.toNat))).length none], .bool (inR n 3 5 && cnfB (n * (n - 1) / 2) (accJ (tR1 n.toNat n.toNat)))]) [] := by
  refine ACall.intro Try.func15 rfl (N := 60) rfl (by decide) (by simp) ?_
  refine a_seq ?_
  refine a_region ?_
  refine r_new (v := .op [.int _ _, .nils]) (q_alloc zc24) rfl rfl (by decide) ?_
  refine r_val (v := .bool _) (v_assign (.inl rfl) (noOwn_flat rfl)) rfl rfl (by decide) ?_
  refine r_nil ?_
  refine a_seq ?_
  refine a_seq ?_
  refine a_region ?_
  refine r_val (v := .int _ _) (v_move (.inl rfl) (noOwn_flat rfl)) rfl rfl (by decide) ?_
  refine r_new (v := .bool _) (q_call (vs := [.int _ _, .int _ _, .int _ _]) (args := [.int .i64 _, .int .i64 _, .int .i64 _]) hb24 ⟨.inl rfl, .inl rfl, .inl rfl, trivial⟩ rfl (fun hA => within_c _ _ _) rfl rfl) rfl rfl (by decide) ?_
  refine r_val (v := .bool _) (v_not (.inl rfl)) rfl rfl (by decide) ?_
  refine r_nil ?_
  refine a_cond rfl (fun ht10 => ?_) (fun ht10 => ?_)
  ·
    skip
    refine a_seq ?_
    refine a_region ?_
    refine r_val (v := .agg [.int _ _, .nils]) (v_build sp24 rfl rfl) rfl rfl (by decide) ?_
    refine r_step rfl (o_store (v := .agg [.int _ _, .nils]) (y' := .op [.int _ _, .nils]) rfl rfl ta24 (.inl rfl) (.inl rfl) rfl rfl rfl rfl rfl rfl (Nat.le_of_ble_eq_true rfl) (by decide) rfl rfl) ?_
    refine r_val (v := .bool _) (v_assign (.inl rfl) (noOwn_flat rfl)) rfl rfl (by decide) ?_
    refine r_nil ?_
    refine a_pre (ent_nil_at (t := 2) (r := [1]) (sz := 1) rfl (.inl rfl) rfl rfl) ?_
    refine a_ret ?_
    refine retL (rs := [.cell 2 24, .tmp 3]) [(2, _), (3, _)] ⟨Weak.rfl, Weak.rfl, trivial⟩ rfl Try.results15 (by decide) ⟨by decide, _, cell_agg rfl ta24, by decide, rfl⟩ (by decide) (by decide) (l2_eq (agg_eq (l2_eq (int_eq ?_) (osl_eq2 ?_ ?_))) (bool_eq ?_)) (by simp [refsL, refs])
    all_goals (have hf : (inR n 3 5 && cnfB (n * (n - 1) / 2) (accJ (tR1 n.toNat n.toNat))) = false := (by simp_all); simp [resV, resL, hf, osls])
  ·
    skip
    refine a_skip ?_
    refine a_seq ?_
    have hin : inR n 3 5 = true := (by simpa using ht10)
    have hn := inR_spec.1 hin
    obtain ⟨m, rfl⟩ := Int.eq_ofNat_of_zero_le (by omega : 0 ≤ n)
    have hvb : 0 ≤ ((m : Nat) : Int) * (((m : Nat) : Int) - 1) ∧ ((m : Nat) : Int) * (((m : Nat) : Int) - 1) ≤ 20 := (by rcases (by omega : m = 3 ∨ m = 4 ∨ m = 5) with rfl | rfl | rfl <;> decide)
    refine a_region ?_
    refine r_val (v := .int _ _) (v_move (.inl rfl) (noOwn_flat rfl)) rfl rfl (by decide) ?_
    refine r_new (v := .int _ _) (q_call (vs := [.int _ _]) (args := [.int .i64 _]) hb35 ⟨.inl rfl, trivial⟩ rfl (fun hA => pairsOf_c ((m : Nat) : Int) (by omega)) rfl rfl) rfl rfl (by decide) ?_
    refine r_val (v := .agg [.int _ _, .nils]) (v_build sp45 rfl rfl) rfl rfl (by decide) ?_
    refine r_new (v := .op [.int _ _, .nils]) (q_box (.inl rfl) rfl rfl) rfl rfl (by decide) ?_
    refine r_val (v := .rp _ _) (v_assign (.inl rfl) (noOwn_flat rfl)) rfl rfl (by decide) ?_
    refine r_pre (ent_reloc_op (t := 4) rfl rfl) ?_
    refine r_nil ?_
    refine a_seq ?_
    refine a_seq ?_
    refine a_pre (ent_nil_at (t := 4) (r := [1]) (sz := 1) rfl (.inl rfl) rfl rfl) ?_
    refine a_region ?_
    refine r_val (v := .int _ _) (v_move (.inl rfl) (noOwn_flat rfl)) rfl rfl (by decide) ?_
    refine r_new (v := .sl (sls (chO m 3)) (chO m 3).length) (QSem.cast (q_callZ (vs := [.int _ _, .int _ _, .int _ _]) (args := [.int .i64 _, .int .i64 _, .int .i64 _]) hb25 ⟨.inl rfl, .inl rfl, .inl rfl, trivial⟩ rfl (fun hA => choices_c m 3 (by omega) (by omega) (by omega)) (osls_noSh _) (osls_noRef _)) ((by simp only [sh, shL_osls]))) rfl rfl (by decide) ?_
    refine r_val (v := .int _ _) (v_len_sl sl22 (.inl rfl)) rfl rfl (by decide) ?_
    refine r_val (v := .int _ _) (v_move (.inl rfl) (noOwn_flat rfl)) rfl rfl (by decide) ?_
    refine r_nil ?_
    refine a_block ?_
    refine a_loop (X := Nat) (fun i => look [(0, .int .i64 ((m : Nat) : Int)), (2, .op [.int .i64 0, .nils]), (4, .op [.int .i64 (((m : Nat) : Int) * (((m : Nat) : Int) - 1) / 2), .osl 1 (osls (accM (tC m i))) (accM (tC m i)).length none]), (17, .sl (sls (chO m 3)) (chO m 3).length), (18, .int .i64 (((chO m 3).length : Nat) : Int)), (19, .int .i64 ((i : Nat) : Int))]) (fun i => i ≤ (chO m 3).length) (fun i => (chO m 3).length - i) 0 (ent_look ⟨Weak.of_eq rfl, Weak.of_eq rfl, Weak.of_eq rfl, Weak.of_eq rfl, Weak.of_eq rfl, Weak.of_eq rfl, trivial⟩) (Nat.zero_le _) (fun i hG => ?_)
    refine a_seq ?_
    refine a_region ?_
    refine r_val (v := .bool _) (v_lss (.inl rfl) (.inl rfl)) rfl rfl (by decide) ?_
    refine r_nil ?_
    refine a_seq ?_
    refine a_cond rfl (fun ht20 => ?_) (fun ht20 => ?_)
    ·
      skip
      refine a_skip ?_
      refine a_seq ?_
      refine a_block ?_
      refine a_seq ?_
      have hi : i < (chO m 3).length := (by simp at ht20; omega)
      have hcl : (chO m 3).length ≤ 10 := t_many m (by omega)
      have htl := tC_len (n := m) (i := i) (by unfold chO at hi; omega)
      obtain ⟨hr3, hr0, hr1, hr2, hr4⟩ : (gl (chO m 3) i).length = 3 ∧ 1 ≤ gd (gl (chO m 3) i) 0 ∧ gd (gl (chO m 3) i) 0 < gd (gl (chO m 3) i) 1 ∧ gd (gl (chO m 3) i) 1 < gd (gl (chO m 3) i) 2 ∧ gd (gl (chO m 3) i) 2 ≤ m := t_row m (by omega) i hi
      obtain ⟨q0, hq0⟩ := Int.eq_ofNat_of_zero_le (by omega : 0 ≤ gd (gl (chO m 3) i) 0)
      obtain ⟨q1, hq1⟩ := Int.eq_ofNat_of_zero_le (by omega : 0 ≤ gd (gl (chO m 3) i) 1)
      obtain ⟨q2, hq2⟩ := Int.eq_ofNat_of_zero_le (by omega : 0 ≤ gd (gl (chO m 3) i) 2)
      have hl0 : (icells (gl (chO m 3) i))[0]? = some (.int .i64 ((q0 : Nat) : Int)) := (by rw [← hq0]; exact icells_get (gd_get (by omega)))
      have hl1 : (icells (gl (chO m 3) i))[1]? = some (.int .i64 ((q1 : Nat) : Int)) := (by rw [← hq1]; exact icells_get (gd_get (by omega)))
      have hl2 : (icells (gl (chO m 3) i))[2]? = some (.int .i64 ((q2 : Nat) : Int)) := (by rw [← hq2]; exact icells_get (gd_get (by omega)))
      have htc : tC m (i + 1) = (tC m i ++ [(tA m q0 q1 q2)]) ++ [(ngL (tA m q0 q1 q2))] := (by have h9 := tC_succ (n := m) (i := i) hi; rw [show gl ((chR 1 m 3 1 []).take 61) i = (gl (chO m 3) i) from rfl, hq0, hq1, hq2, Int.toNat_natCast, Int.toNat_natCast, Int.toNat_natCast] at h9; exact h9)
      have hp0 := pNum_bd m (by omega) q0 (by omega) q1 (by omega)
      have hp1 := pNum_bd m (by omega) q0 (by omega) q2 (by omega)
      have hp2 := pNum_bd m (by omega) q1 (by omega) q2 (by omega)
      refine a_region ?_
      refine r_val (v := .pp _ _) (v_indexAddr_sl es22 (.inl rfl) (.inl rfl) (fun _ => ⟨by omega, by omega, sls_ne hi⟩)) rfl rfl (by decide) ?_
      refine r_val (v := .sl (icells (gl (chO m 3) i)) (gl (chO m 3) i).length) (v_load_pp ta42 (.inl rfl) (fun _ => by rw [Int.toNat_natCast, Nat.mul_one]; exact sls_get hi) rfl) rfl rfl (by decide) ?_
      refine r_val (v := .sl _ _) (v_assign (.inl rfl) (noOwn_flat rfl)) rfl rfl (by decide) ?_
      refine r_nil ?_
      refine a_seq ?_
      refine a_region_any mixed (by kernel_rfl) ?_
      refine y_val (v := .int _ _) (v_move (.inl rfl) (noOwn_flat rfl)) rfl rfl (by decide) (by kernel_rfl) ?_
      refine y_val (v := .sl _ _) (v_move (.inl rfl) (noOwn_flat rfl)) rfl rfl (by decide) (by kernel_rfl) ?_
      refine y_val (v := .pp _ _) (v_indexAddr_sl es42 (.inl rfl) (.inl rfl) (fun _ => ⟨by omega, by omega, icells_ne (show 0 < (gl (chO m 3) i).length by omega)⟩)) rfl rfl (by decide) (by kernel_rfl) ?_
      refine y_val (v := .int .i64 ((q0 : Nat) : Int)) (v_load_pp ta3 (.inl rfl) (fun _ => hl0) rfl) rfl rfl (by decide) (by kernel_rfl) ?_
      refine y_val (v := .sl _ _) (v_move (.inl rfl) (noOwn_flat rfl)) rfl rfl (by decide) (by kernel_rfl) ?_
      refine y_val (v := .pp _ _) (v_indexAddr_sl es42 (.inl rfl) (.inl rfl) (fun _ => ⟨by omega, by omega, icells_ne (show 1 < (gl (chO m 3) i).length by omega)⟩)) rfl rfl (by decide) (by kernel_rfl) ?_
      refine y_val (v := .int .i64 ((q1 : Nat) : Int)) (v_load_pp ta3 (.inl rfl) (fun _ => hl1) rfl) rfl rfl (by decide) (by kernel_rfl) ?_
      refine y_new (v := .int _ _) (q_call (vs := [.int _ _, .int _ _, .int _ _]) (args := [.int .i64 _, .int .i64 _, .int .i64 _]) hb36 ⟨.inl rfl, .inl rfl, .inl rfl, trivial⟩ rfl (fun hA => pairNumber_c m q0 q1 (by omega) (by omega) (by omega) (by omega) (by omega) (by omega)) rfl rfl) rfl rfl (by decide) (by kernel_rfl) ?_
      refine y_val (v := .int _ _) (v_move (.inl rfl) (noOwn_flat rfl)) rfl rfl (by decide) (by kernel_rfl) ?_
      refine y_val (v := .sl _ _) (v_move (.inl rfl) (noOwn_flat rfl)) rfl rfl (by decide) (by kernel_rfl) ?_
      refine y_val (v := .pp _ _) (v_indexAddr_sl es42 (.inl rfl) (.inl rfl) (fun _ => ⟨by omega, by omega, icells_ne (show 0 < (gl (chO m 3) i).length by omega)⟩)) rfl rfl (by decide) (by kernel_rfl) ?_
      refine y_val (v := .int .i64 ((q0 : Nat) : Int)) (v_load_pp ta3 (.inl rfl) (fun _ => hl0) rfl) rfl rfl (by decide) (by kernel_rfl) ?_
      refine y_val (v := .sl _ _) (v_move (.inl rfl) (noOwn_flat rfl)) rfl rfl (by decide) (by kernel_rfl) ?_
      refine y_val (v := .pp _ _) (v_indexAddr_sl es42 (.inl rfl) (.inl rfl) (fun _ => ⟨by omega, by omega, icells_ne (show 2 < (gl (chO m 3) i).length by omega)⟩)) rfl rfl (by decide) (by kernel_rfl) ?_
      refine y_val (v := .int .i64 ((q2 : Nat) : Int)) (v_load_pp ta3 (.inl rfl) (fun _ => hl2) rfl) rfl rfl (by decide) (by kernel_rfl) ?_
      refine y_new (v := .int _ _) (q_call (vs := [.int _ _, .int _ _, .int _ _]) (args := [.int .i64 _, .int .i64 _, .int .i64 _]) hb36 ⟨.inl rfl, .inl rfl, .inl rfl, trivial⟩ rfl (fun hA => pairNumber_c m q0 q2 (by omega) (by omega) (by omega) (by omega) (by omega) (by omega)) rfl rfl) rfl rfl (by decide) (by kernel_rfl) ?_
      refine y_val (v := .int _ _) (v_move (.inl rfl) (noOwn_flat rfl)) rfl rfl (by decide) (by kernel_rfl) ?_
      refine y_val (v := .sl _ _) (v_move (.inl rfl) (noOwn_flat rfl)) rfl rfl (by decide) (by kernel_rfl) ?_
      refine y_val (v := .pp _ _) (v_indexAddr_sl es42 (.inl rfl) (.inl rfl) (fun _ => ⟨by omega, by omega, icells_ne (show 1 < (gl (chO m 3) i).length by omega)⟩)) rfl rfl (by decide) (by kernel_rfl) ?_
      refine y_val (v := .int .i64 ((q1 : Nat) : Int)) (v_load_pp ta3 (.inl rfl) (fun _ => hl1) rfl) rfl rfl (by decide) (by kernel_rfl) ?_
      refine y_val (v := .sl _ _) (v_move (.inl rfl) (noOwn_flat rfl)) rfl rfl (by decide) (by kernel_rfl) ?_
      refine y_val (v := .pp _ _) (v_indexAddr_sl es42 (.inl rfl) (.inl rfl) (fun _ => ⟨by omega, by omega, icells_ne (show 2 < (gl (chO m 3) i).length by omega)⟩)) rfl rfl (by decide) (by kernel_rfl) ?_
      refine y_val (v := .int .i64 ((q2 : Nat) : Int)) (v_load_pp ta3 (.inl rfl) (fun _ => hl2) rfl) rfl rfl (by decide) (by kernel_rfl) ?_
      refine y_new (v := .int _ _) (q_call (vs := [.int _ _, .int _ _, .int _ _]) (args := [.int .i64 _, .int .i64 _, .int .i64 _]) hb36 ⟨.inl rfl, .inl rfl, .inl rfl, trivial⟩ rfl (fun hA => pairNumber_c m q1 q2 (by omega) (by omega) (by omega) (by omega) (by omega) (by omega)) rfl rfl) rfl rfl (by decide) (by kernel_rfl) ?_
      refine y_new (v := .osl 1 (icells (tA m q0 q1 q2)) 3 (some 3)) (q_sliceLit (n := 3) (parts := [(0, .tmp 30), (1, .tmp 38), (2, .tmp 46)]) lt42 rfl rfl rfl rfl) rfl rfl (by decide) (by kernel_rfl) ?_
      refine y_val (v := .rsl _ _ _ _ _) (v_assign (.inl rfl) (noOwn_flat rfl)) rfl rfl (by decide) (by kernel_rfl) ?_
      refine y_nil ?_
      refine a_seq ?_
      refine a_pre (ent_reloc_sl (t := 7) rfl rfl) ?_
      refine a_pre (ent_look (L := [(0, .int _ _), (2, .op [.int _ _, .nils]), (4, .op [.int _ _, .osl _ _ _ _]), (7, .osl _ _ _ _), (17, .sl _ _), (18, .int _ _), (19, .int _ _)]) ⟨Weak.rfl, Weak.rfl, Weak.rfl, Weak.rfl, Weak.rfl, Weak.rfl, Weak.rfl, trivial⟩) ?_
      refine a_region ?_
      refine r_val (v := .rp _ _) (v_move (.inl rfl) (noOwn_flat rfl)) rfl rfl (by decide) ?_
      refine r_val (v := .rsl _ _ _ _ _) (v_move (.inl rfl) (noOwn_flat rfl)) rfl rfl (by decide) ?_
      refine r_step rfl (o_callIOp (q := (4, [])) (vs := [.rp _ _, .rsl _ _ _ _ _]) (args := [.rp (INH, []) _, .sl _ _]) (cs0 := [.int _ _, .osl _ _ _ _]) (cs1 := [.int _ _, .osl _ _ _ _]) (res := .tup []) rfl hb26 rfl (by decide) ⟨.inl rfl, .inl rfl, trivial⟩ rfl (l2_eq rfl (sl_sh (ic_pure _))) (add_c (((m : Nat) : Int) * (((m : Nat) : Int) - 1) / 2) (tC m i) (tA m q0 q1 q2) (by omega) (by simp [tA])) rfl rfl rfl (by simp [noSh, noShL, osls_noSh]) (by simp [noRef, noRefL, osls_noRef]) (Nat.le_of_ble_eq_true rfl) (by decide) rfl) ?_
      refine r_nil ?_
      refine a_region ?_
      refine r_val (v := .rp _ _) (v_move (.inl rfl) (noOwn_flat rfl)) rfl rfl (by decide) ?_
      refine r_val (v := .rsl _ _ _ _ _) (v_move (.inl rfl) (noOwn_flat rfl)) rfl rfl (by decide) ?_
      refine r_new (v := .osl _ _ _ _) (q_call (vs := [.rsl _ _ _ _ _]) (args := [.sl _ _]) hb27 ⟨.inl rfl, trivial⟩ (l1_eq (sl_sh (ic_pure _))) (fun hA => negated_c (tA m q0 q1 q2) (SmI.of (by intro x hx; simp only [tA, List.mem_cons, List.not_mem_nil, or_false] at hx; omega)) (by simp [tA])) (ic_noSh _) (ic_noRef _)) rfl rfl (by decide) ?_
      refine r_step rfl (o_callIOp (q := (4, [])) (vs := [.rp _ _, .rsl _ _ _ _ _]) (args := [.rp (INH, []) _, .sl _ _]) (cs0 := [.int _ _, .osl _ _ _ _]) (cs1 := [.int _ _, .osl _ _ _ _]) (res := .tup []) rfl hb26 rfl (by decide) ⟨.inl rfl, .inl rfl, trivial⟩ rfl (l2_eq rfl (sl_sh (ic_pure _))) (add_c (((m : Nat) : Int) * (((m : Nat) : Int) - 1) / 2) (tC m i ++ [(tA m q0 q1 q2)]) (ngL (tA m q0 q1 q2)) (by simp; omega) (by rw [ngL_len]; simp [tA])) rfl rfl rfl (by simp [noSh, noShL, osls_noSh]) (by simp [noRef, noRefL, osls_noRef]) (Nat.le_of_ble_eq_true rfl) (by decide) rfl) ?_
      refine r_nil ?_
      refine a_region ?_
      refine r_val (v := .int _ _) (v_add (.inl rfl) (.inl rfl) (fun _ => by omega)) rfl rfl (by decide) ?_
      refine r_val (v := .int _ _) (v_move (.inl rfl) (noOwn_flat rfl)) rfl rfl (by decide) ?_
      refine r_nil ?_
      refine ⟨i + 1, ent_look ⟨Weak.of_eq rfl, Weak.of_eq rfl, Weak.of_eq (by rw [htc]; rfl), Weak.of_eq rfl, Weak.of_eq rfl, Weak.of_eq (int_eq (by omega)), trivial⟩, (by omega), by omega⟩
    ·
      skip
      refine a_exit ?_
      refine a_seq ?_
      have hie : i = (chO m 3).length := (by simp at ht20; omega)
      have hgd : goodB 144 (tR1 ((m : Nat) : Int).toNat ((m : Nat) : Int).toNat) = true := (by rw [Int.toNat_natCast]; exact t_good m (by omega))
      have hcF : (tC m i) = (tR1 ((m : Nat) : Int).toNat ((m : Nat) : Int).toNat) := (by rw [Int.toNat_natCast, hie]; exact tC_all m (by omega))
      have hrm := res_M (vars := (((m : Nat) : Int) * (((m : Nat) : Int) - 1) / 2)) (F := (tR1 ((m : Nat) : Int).toNat ((m : Nat) : Int).toNat)) hin hgd
      refine a_region ?_
      refine r_val (v := .rp _ _) (v_move (.inl rfl) (noOwn_flat rfl)) rfl rfl (by decide) ?_
      refine r_step rfl (o_callIO (q := (4, [])) (vs := [.rp _ _]) (args := [.rp (INH, []) _]) (x0 := .op [.int _ _, .osl _ _ _ _]) (x1 := .undef) (res := .tup [.agg [.int _ _, .osl _ _ _ _], .bool _]) rfl hb28 rfl (by decide) ⟨.inl rfl, trivial⟩ rfl rfl (cnf_c (((m : Nat) : Int) * (((m : Nat) : Int) - 1) / 2) (accM (tC m i)) (by rw [hcF]; exact goodB_okM (by omega) hgd)) rfl (by simp [noSh, noShL, osls_noSh]) (by simp [noRef, noRefL, osls_noRef]) rfl rfl (Nat.le_of_ble_eq_true rfl) (by decide) rfl) ?_
      refine r_val (v := .agg [.int _ _, .rsl _ _ _ _ _]) (v_extract rfl rfl) rfl rfl (by decide) ?_
      refine r_val (v := .bool _) (v_extract rfl rfl) rfl rfl (by decide) ?_
      refine r_pre (ent_reloc_at_sl (t := 58) (r := [1]) rfl (by decide) rfl rfl) ?_
      refine r_step rfl (o_store_own (v := .agg [.int _ _, .osl _ _ _ _]) (y' := .op [.int _ _, .osl _ _ _ _]) rfl rfl ta24 (.inl rfl) (by decide) rfl (by decide) rfl (by simp [cellsOf, noRefL, noRef, osls_noRef]) rfl rfl rfl rfl rfl (Nat.le_of_ble_eq_true rfl) rfl rfl) ?_
      refine r_val (v := .bool _) (v_assign (.inl rfl) (noOwn_flat rfl)) rfl rfl (by decide) ?_
      refine r_nil ?_
      refine a_ret ?_
      refine retL (rs := [.cell 2 24, .tmp 3]) [(2, _), (3, _)] ⟨Weak.rfl, Weak.rfl, trivial⟩ rfl Try.results15 (by decide) ⟨by decide, _, cell_agg rfl ta24, by decide, rfl⟩ (by decide) (by decide) (l2_eq (agg_eq (l2_eq (int_eq ?_) (osl_eq2 ?_ ?_))) (bool_eq ?_)) (by simp [refsL, refs])
      all_goals (rw [hcF])
      all_goals (first | rw [hrm.2] | rw [hrm.1])
end Go.Av
namespace Go.Av
open Go Go.Proofs Go.Sort
set_option maxRecDepth 10000
theorem hb14 : hasBody Try.prog 14 = true := by kernel_rfl
theorem hb15 : hasBody Try.prog 15 = true := by kernel_rfl
theorem hb33 : hasBody Try.prog 33 = true := by kernel_rfl

theorem sTri_c (n : Int) : ACall Try.prog 14 [.int .i64 n] [] (.tup [.agg [.int .i64 (resV (inR n 3 5 && cnfB (n * (n - 1) / 2) (accJ (tR1 n.toNat n.toNat))) (n * (n - 1) / 2)), .osl 1 (osls (resL (inR n 3 5 && cnfB (n * (n - 1) / 2) (accJ (tR1 n.toNat n.toNat))) (accJ (tR1 n.toNat n.toNat)))) (resL (inR n 3 5 && cnfB (n * (n - 1) / 2) (accJ (tR1 n.toNat n.toNat))) (accJ (tR1 n.toNat n.toNat))).length none], .bool (inR n 3 5 && cnfB (n * (n - 1) / 2) (accJ (tR1 n.toNat n.toNat)))]) [] := by
  refine ACall.intro Try.func14 rfl (N := 70) rfl (by decide) (by simp) ?_
  refine a_seq ?_
  refine a_region ?_
  refine r_new (v := .op [.int _ _, .nils]) (q_alloc zc24) rfl rfl (by decide) ?_
  refine r_val (v := .bool _) (v_assign (.inl rfl) (noOwn_flat rfl)) rfl rfl (by decide) ?_
  refine r_nil ?_
  refine a_seq ?_
  refine a_seq ?_
  refine a_region ?_
  refine r_val (v := .int _ _) (v_move (.inl rfl) (noOwn_flat rfl)) rfl rfl (by decide) ?_
  refine r_new (v := .bool _) (q_call (vs := [.int _ _, .int _ _, .int _ _]) (args := [.int .i64 _, .int .i64 _, .int .i64 _]) hb20 ⟨.inl rfl, .inl rfl, .inl rfl, trivial⟩ rfl (fun hA => l1In_c _ _ _) rfl rfl) rfl rfl (by decide) ?_
  refine r_val (v := .bool _) (v_not (.inl rfl)) rfl rfl (by decide) ?_
  refine r_nil ?_
  refine a_cond rfl (fun ht13 => ?_) (fun ht13 => ?_)
  ·
    skip
    refine a_seq ?_
    refine a_region ?_
    refine r_val (v := .agg [.int _ _, .nils]) (v_build sp24 rfl rfl) rfl rfl (by decide) ?_
    refine r_step rfl (o_store (v := .agg [.int _ _, .nils]) (y' := .op [.int _ _, .nils]) rfl rfl ta24 (.inl rfl) (.inl rfl) rfl rfl rfl rfl rfl rfl (Nat.le_of_ble_eq_true rfl) (by decide) rfl rfl) ?_
    refine r_val (v := .bool _) (v_assign (.inl rfl) (noOwn_flat rfl)) rfl rfl (by decide) ?_
    refine r_nil ?_
    refine a_pre (ent_nil_at (t := 2) (r := [1]) (sz := 1) rfl (.inl rfl) rfl rfl) ?_
    refine a_ret ?_
    refine retL (rs := [.cell 2 24, .tmp 3]) [(2, _), (3, _)] ⟨Weak.rfl, Weak.rfl, trivial⟩ rfl Try.results14 (by decide) ⟨by decide, _, cell_agg rfl ta24, by decide, rfl⟩ (by decide) (by decide) (l2_eq (agg_eq (l2_eq (int_eq ?_) (osl_eq2 ?_ ?_))) (bool_eq ?_)) (by simp [refsL, refs])
    all_goals (have hf : (inR n 3 5 && cnfB (n * (n - 1) / 2) (accJ (tR1 n.toNat n.toNat))) = false := (by simp_all); simp [resV, resL, hf, osls])
  ·
    skip
    refine a_skip ?_
    refine a_seq ?_
    have hin : inR n 3 5 = true := (by simpa using ht13)
    have hn := inR_spec.1 hin
    obtain ⟨m, rfl⟩ := Int.eq_ofNat_of_zero_le (by omega : 0 ≤ n)
    have hvb : 0 ≤ ((m : Nat) : Int) * (((m : Nat) : Int) - 1) ∧ ((m : Nat) : Int) * (((m : Nat) : Int) - 1) ≤ 20 := (by rcases (by omega : m = 3 ∨ m = 4 ∨ m = 5) with rfl | rfl | rfl <;> decide)
    refine a_region ?_
    refine r_val (v := .int _ _) (v_move (.inl rfl) (noOwn_flat rfl)) rfl rfl (by decide) ?_
    refine r_val (v := .int _ _) (v_move (.inl rfl) (noOwn_flat rfl)) rfl rfl (by decide) ?_
    refine r_val (v := .int _ _) (v_sub (.inl rfl) (.inl rfl) (fun _ => by omega)) rfl rfl (by decide) ?_
    refine r_val (v := .int _ _) (v_mul (.inl rfl) (.inl rfl) (fun _ => by omega)) rfl rfl (by decide) ?_
    refine r_val (v := .int _ _) (v_quo (.inl rfl) (.inl rfl) (fun _ => by omega)) rfl rfl (by decide) ?_
    refine r_new (v := .agg [.int _ _, .osl _ _ _ _]) (q_call (vs := [.int _ _]) (args := [.int .i64 _]) hb23 ⟨.inl rfl, trivial⟩ rfl (fun hA => l4New_c _) (by simp [noSh, noShL, osls_noSh]) (by simp [noRef, noRefL, osls_noRef])) rfl rfl (by decide) ?_
    refine r_new (v := .op [.int _ _, .nils]) (q_alloc zc24) rfl rfl (by decide) ?_
    refine r_step rfl (o_store_own (v := .agg [.int _ _, .osl _ _ _ _]) (y' := .op [.int _ _, .osl _ _ _ _]) rfl rfl ta24 (.inl rfl) (by decide) rfl (by decide) rfl (by simp [cellsOf, noRefL, noRef, osls_noRef]) rfl rfl rfl rfl rfl (Nat.le_of_ble_eq_true rfl) rfl rfl) ?_
    refine r_nil ?_
    refine a_seq ?_
    refine a_seq ?_
    refine a_region ?_
    refine r_val (v := .int _ _) (v_assign (.inl rfl) (noOwn_flat rfl)) rfl rfl (by decide) ?_
    refine r_nil ?_
    refine a_block ?_
    refine a_loop (X := Nat) (fun a => look [(0, .int .i64 ((m : Nat) : Int)), (2, .op [.int .i64 0, .nils]), (4, .op [.int .i64 (((m : Nat) : Int) * (((m : Nat) : Int) - 1) / 2), .osl 1 (osls (accS (tR1 m a))) (accS (tR1 m a)).length none]), (5, .int .i64 ((a + 1 : Nat) : Int))]) (fun a => a ≤ m) (fun a => m - a) 0 (ent_look ⟨Weak.of_eq rfl, Weak.of_eq rfl, Weak.of_eq rfl, Weak.of_eq rfl, trivial⟩) (Nat.zero_le _) (fun a hG => ?_)
    refine a_seq ?_
    refine a_seq ?_
    refine a_region ?_
    refine r_val (v := .int _ _) (v_move (.inl rfl) (noOwn_flat rfl)) rfl rfl (by decide) ?_
    refine r_val (v := .int _ _) (v_move (.inl rfl) (noOwn_flat rfl)) rfl rfl (by decide) ?_
    refine r_val (v := .bool _) (v_leq (.inl rfl) (.inl rfl)) rfl rfl (by decide) ?_
    refine r_nil ?_
    refine a_cond rfl (fun ht23 => ?_) (fun ht23 => ?_)
    ·
      skip
      refine a_skip ?_
      refine a_seq ?_
      refine a_block ?_
      refine a_seq ?_
      have ha : a < m := (by simp at ht23; omega)
      refine a_region ?_
      refine r_val (v := .int _ _) (v_move (.inl rfl) (noOwn_flat rfl)) rfl rfl (by decide) ?_
      refine r_val (v := .int _ _) (v_add (.inl rfl) (.inl rfl) (fun _ => by omega)) rfl rfl (by decide) ?_
      refine r_val (v := .int _ _) (v_assign (.inl rfl) (noOwn_flat rfl)) rfl rfl (by decide) ?_
      refine r_nil ?_
      refine a_block ?_
      refine a_loop (X := Nat) (fun b => look [(0, .int .i64 ((m : Nat) : Int)), (2, .op [.int .i64 0, .nils]), (4, .op [.int .i64 (((m : Nat) : Int) * (((m : Nat) : Int) - 1) / 2), .osl 1 (osls (accS (tR1 m a ++ tR2 m a b))) (accS (tR1 m a ++ tR2 m a b)).length none]), (5, .int .i64 ((a + 1 : Nat) : Int)), (6, .int .i64 ((a + 1 + b + 1 : Nat) : Int))]) (fun b => a + 1 + b ≤ m) (fun b => m - b) 0 (ent_look ⟨Weak.of_eq rfl, Weak.of_eq rfl, Weak.of_eq (by rw [show tR2 m a 0 = [] from rfl, List.append_nil]; rfl), Weak.of_eq rfl, Weak.of_eq rfl, trivial⟩) (by omega) (fun b hG => ?_)
      refine a_seq ?_
      refine a_seq ?_
      refine a_region ?_
      refine r_val (v := .int _ _) (v_move (.inl rfl) (noOwn_flat rfl)) rfl rfl (by decide) ?_
      refine r_val (v := .int _ _) (v_move (.inl rfl) (noOwn_flat rfl)) rfl rfl (by decide) ?_
      refine r_val (v := .bool _) (v_leq (.inl rfl) (.inl rfl)) rfl rfl (by decide) ?_
      refine r_nil ?_
      refine a_cond rfl (fun ht30 => ?_) (fun ht30 => ?_)
      ·
        skip
        refine a_skip ?_
        refine a_seq ?_
        refine a_block ?_
        refine a_seq ?_
        have hb : a + 1 + b < m := (by simp at ht30; omega)
        refine a_region ?_
        refine r_val (v := .int _ _) (v_move (.inl rfl) (noOwn_flat rfl)) rfl rfl (by decide) ?_
        refine r_val (v := .int _ _) (v_add (.inl rfl) (.inl rfl) (fun _ => by omega)) rfl rfl (by decide) ?_
        refine r_val (v := .int _ _) (v_assign (.inl rfl) (noOwn_flat rfl)) rfl rfl (by decide) ?_
        refine r_nil ?_
        refine a_block ?_
        refine a_loop (X := Nat) (fun c => look [(0, .int .i64 ((m : Nat) : Int)), (2, .op [.int .i64 0, .nils]), (4, .op [.int .i64 (((m : Nat) : Int) * (((m : Nat) : Int) - 1) / 2), .osl 1 (osls (accS ((tR1 m a ++ tR2 m a b) ++ tR3 m a (a + 1 + b) c))) (accS ((tR1 m a ++ tR2 m a b) ++ tR3 m a (a + 1 + b) c)).length none]), (5, .int .i64 ((a + 1 : Nat) : Int)), (6, .int .i64 ((a + 1 + b + 1 : Nat) : Int)), (7, .int .i64 ((a + 1 + b + 1 + c + 1 : Nat) : Int))]) (fun c => a + 1 + b + 1 + c ≤ m) (fun c => m - c) 0 (ent_look ⟨Weak.of_eq rfl, Weak.of_eq rfl, Weak.of_eq (by rw [show tR3 m a (a + 1 + b) 0 = [] from rfl, List.append_nil]; rfl), Weak.of_eq rfl, Weak.of_eq rfl, Weak.of_eq rfl, trivial⟩) (by omega) (fun c hG => ?_)
        refine a_seq ?_
        refine a_seq ?_
        refine a_region ?_
        refine r_val (v := .int _ _) (v_move (.inl rfl) (noOwn_flat rfl)) rfl rfl (by decide) ?_
        refine r_val (v := .int _ _) (v_move (.inl rfl) (noOwn_flat rfl)) rfl rfl (by decide) ?_
        refine r_val (v := .bool _) (v_leq (.inl rfl) (.inl rfl)) rfl rfl (by decide) ?_
        refine r_nil ?_
        refine a_cond rfl (fun ht37 => ?_) (fun ht37 => ?_)
        ·
          skip
          refine a_skip ?_
          refine a_seq ?_
          refine a_block ?_
          refine a_seq ?_
          have hc : a + 1 + b + 1 + c < m := (by simp at ht37; omega)
          have hpb0 := pNum_bd m (by omega) (a + 1) (by omega) (a + 1 + b + 1) (by omega)
          have hpb1 := pNum_bd m (by omega) (a + 1) (by omega) (a + 1 + b + 1 + c + 1) (by omega)
          have hpb2 := pNum_bd m (by omega) (a + 1 + b + 1) (by omega) (a + 1 + b + 1 + c + 1) (by omega)
          refine a_region ?_
          refine r_val (v := .int _ _) (v_move (.inl rfl) (noOwn_flat rfl)) rfl rfl (by decide) ?_
          refine r_val (v := .int _ _) (v_move (.inl rfl) (noOwn_flat rfl)) rfl rfl (by decide) ?_
          refine r_val (v := .int _ _) (v_move (.inl rfl) (noOwn_flat rfl)) rfl rfl (by decide) ?_
          refine r_new (v := .int _ _) (q_call (vs := [.int _ _, .int _ _, .int _ _]) (args := [.int .i64 _, .int .i64 _, .int .i64 _]) hb33 ⟨.inl rfl, .inl rfl, .inl rfl, trivial⟩ rfl (fun hA => l4Pair_c m (a + 1) (a + 1 + b + 1) (by omega) (by omega) (by omega) (by omega) (by omega)) rfl rfl) rfl rfl (by decide) ?_
          refine r_val (v := .int _ _) (v_move (.inl rfl) (noOwn_flat rfl)) rfl rfl (by decide) ?_
          refine r_val (v := .int _ _) (v_move (.inl rfl) (noOwn_flat rfl)) rfl rfl (by decide) ?_
          refine r_val (v := .int _ _) (v_move (.inl rfl) (noOwn_flat rfl)) rfl rfl (by decide) ?_
          refine r_new (v := .int _ _) (q_call (vs := [.int _ _, .int _ _, .int _ _]) (args := [.int .i64 _, .int .i64 _, .int .i64 _]) hb33 ⟨.inl rfl, .inl rfl, .inl rfl, trivial⟩ rfl (fun hA => l4Pair_c m (a + 1) (a + 1 + b + 1 + c + 1) (by omega) (by omega) (by omega) (by omega) (by omega)) rfl rfl) rfl rfl (by decide) ?_
          refine r_val (v := .int _ _) (v_move (.inl rfl) (noOwn_flat rfl)) rfl rfl (by decide) ?_
          refine r_val (v := .int _ _) (v_move (.inl rfl) (noOwn_flat rfl)) rfl rfl (by decide) ?_
          refine r_val (v := .int _ _) (v_move (.inl rfl) (noOwn_flat rfl)) rfl rfl (by decide) ?_
          refine r_new (v := .int _ _) (q_call (vs := [.int _ _, .int _ _, .int _ _]) (args := [.int .i64 _, .int .i64 _, .int .i64 _]) hb33 ⟨.inl rfl, .inl rfl, .inl rfl, trivial⟩ rfl (fun hA => l4Pair_c m (a + 1 + b + 1) (a + 1 + b + 1 + c + 1) (by omega) (by omega) (by omega) (by omega) (by omega)) rfl rfl) rfl rfl (by decide) ?_
          refine r_val (v := .int _ _) (v_assign (.inl rfl) (noOwn_flat rfl)) rfl rfl (by decide) ?_
          refine r_val (v := .int _ _) (v_assign (.inl rfl) (noOwn_flat rfl)) rfl rfl (by decide) ?_
          refine r_val (v := .int _ _) (v_assign (.inl rfl) (noOwn_flat rfl)) rfl rfl (by decide) ?_
          refine r_nil ?_
          refine a_pre (ent_look (L := [(0, .int _ _), (2, .op [.int _ _, .nils]), (4, .op [.int _ _, .osl _ _ _ _]), (5, .int _ _), (6, .int _ _), (7, .int _ _), (8, .int _ _), (9, .int _ _), (10, .int _ _)]) ⟨Weak.rfl, Weak.rfl, Weak.rfl, Weak.rfl, Weak.rfl, Weak.rfl, Weak.rfl, Weak.rfl, Weak.rfl, trivial⟩) ?_
          refine a_region ?_
          refine r_val (v := .agg [.int _ _, .rsl _ _ _ _ _]) (v_load_rpa (xs := [.int _ _, .osl _ _ _ _]) ta24 (.inl rfl) rfl rfl (fun _ => take_get rfl)) rfl rfl (by decide) ?_
          refine r_val (v := .int _ _) (v_move (.inl rfl) (noOwn_flat rfl)) rfl rfl (by decide) ?_
          refine r_val (v := .int _ _) (v_move (.inl rfl) (noOwn_flat rfl)) rfl rfl (by decide) ?_
          refine r_val (v := .int _ _) (v_move (.inl rfl) (noOwn_flat rfl)) rfl rfl (by decide) ?_
          refine r_new (v := .osl 1 (icells (tA m (a + 1) (a + 1 + b + 1) (a + 1 + b + 1 + c + 1))) 3 (some 3)) (q_sliceLit (n := 3) (parts := [(0, .tmp 53), (1, .tmp 54), (2, .tmp 55)]) lt42 rfl rfl rfl rfl) rfl rfl (by decide) ?_
          refine r_step rfl (o_callIO (q := (4, [1])) (vs := [.agg [.int _ _, .rsl _ _ _ _ _], .rsl _ _ _ _ _]) (args := [.agg [.int .i64 _, .rsl (INH, []) _ _ _ _], .sl _ _]) (x0 := .osl _ _ _ _) (x1 := .undef) (res := .agg [.int _ _, .osl _ _ _ _]) rfl hb34 rfl (by decide) ⟨.inl rfl, .inl rfl, trivial⟩ rfl (l2_eq rfl (sl_sh (ic_pure _))) (l4Add_c (((m : Nat) : Int) * (((m : Nat) : Int) - 1) / 2) ((tR1 m a ++ tR2 m a b) ++ tR3 m a (a + 1 + b) c) (tA m (a + 1) (a + 1 + b + 1) (a + 1 + b + 1 + c + 1)) (by simp [tA]) (SmI.of (by intro x hx; simp only [tA, List.mem_cons, List.not_mem_nil, or_false] at hx; omega))) rfl (by simp [noSh, noShL, osls_noSh]) (by simp [noRef, noRefL, osls_noRef]) rfl rfl (Nat.le_of_ble_eq_true rfl) (by decide) rfl) ?_
          refine r_val (v := .int _ _) (v_move (.inl rfl) (noOwn_flat rfl)) rfl rfl (by decide) ?_
          refine r_val (v := .int _ _) (v_neg (.inl rfl) (fun _ => by omega)) rfl rfl (by decide) ?_
          refine r_val (v := .int _ _) (v_move (.inl rfl) (noOwn_flat rfl)) rfl rfl (by decide) ?_
          refine r_val (v := .int _ _) (v_neg (.inl rfl) (fun _ => by omega)) rfl rfl (by decide) ?_
          refine r_val (v := .int _ _) (v_move (.inl rfl) (noOwn_flat rfl)) rfl rfl (by decide) ?_
          refine r_val (v := .int _ _) (v_neg (.inl rfl) (fun _ => by omega)) rfl rfl (by decide) ?_
          refine r_new (v := .osl 1 (icells (tB m (a + 1) (a + 1 + b + 1) (a + 1 + b + 1 + c + 1))) 3 (some 3)) (q_sliceLit (n := 3) (parts := [(0, .tmp 59), (1, .tmp 61), (2, .tmp 63)]) lt42 rfl rfl rfl rfl) rfl rfl (by decide) ?_
          refine r_step rfl (o_callIO (q := (57, [1])) (vs := [.agg [.int _ _, .rsl _ _ _ _ _], .rsl _ _ _ _ _]) (args := [.agg [.int .i64 _, .rsl (INH, []) _ _ _ _], .sl _ _]) (x0 := .osl _ _ _ _) (x1 := .undef) (res := .agg [.int _ _, .osl _ _ _ _]) rfl hb34 rfl (by decide) ⟨.inl rfl, .inl rfl, trivial⟩ rfl (l2_eq rfl (sl_sh (ic_pure _))) (l4Add_c (((m : Nat) : Int) * (((m : Nat) : Int) - 1) / 2) (((tR1 m a ++ tR2 m a b) ++ tR3 m a (a + 1 + b) c) ++ [(tA m (a + 1) (a + 1 + b + 1) (a + 1 + b + 1 + c + 1))]) (tB m (a + 1) (a + 1 + b + 1) (a + 1 + b + 1 + c + 1)) (by simp [tB]) (SmI.of (by intro x hx; simp only [tB, List.mem_cons, List.not_mem_nil, or_false] at hx; omega))) rfl (by simp [noSh, noShL, osls_noSh]) (by simp [noRef, noRefL, osls_noRef]) rfl rfl (Nat.le_of_ble_eq_true rfl) (by decide) rfl) ?_
          refine r_step rfl (o_store_own (v := .agg [.int _ _, .osl _ _ _ _]) (y' := .op [.int _ _, .osl _ _ _ _]) rfl rfl ta24 (.inl rfl) (by decide) rfl (by decide) rfl (by simp [cellsOf, noRefL, noRef, osls_noRef]) rfl rfl rfl rfl rfl (Nat.le_of_ble_eq_true rfl) rfl rfl) ?_
          refine r_nil ?_
          refine a_pre (ent_look (L := [(0, .int _ _), (2, .op [.int _ _, .nils]), (4, .op [.int _ _, .osl _ _ _ _]), (5, .int _ _), (6, .int _ _), (7, .int _ _)]) ⟨Weak.rfl, Weak.rfl, Weak.rfl, Weak.rfl, Weak.rfl, Weak.rfl, trivial⟩) ?_
          refine a_region ?_
          refine r_val (v := .int _ _) (v_move (.inl rfl) (noOwn_flat rfl)) rfl rfl (by decide) ?_
          refine r_val (v := .int _ _) (v_add (.inl rfl) (.inl rfl) (fun _ => by omega)) rfl rfl (by decide) ?_
          refine r_val (v := .int _ _) (v_assign (.inl rfl) (noOwn_flat rfl)) rfl rfl (by decide) ?_
          refine r_nil ?_
          refine ⟨c + 1, ent_look ⟨Weak.of_eq rfl, Weak.of_eq rfl, Weak.of_eq (by rw [tR3_succ, ← List.append_assoc, ← List.append_assoc]; rfl), Weak.of_eq rfl, Weak.of_eq rfl, Weak.of_eq (int_eq (by omega)), trivial⟩, (by omega), by omega⟩
        ·
          skip
          refine a_exit ?_
          have hcm : c = m - (a + 1 + b + 1) := (by simp at ht37; omega)
          refine a_region ?_
          refine r_val (v := .int _ _) (v_move (.inl rfl) (noOwn_flat rfl)) rfl rfl (by decide) ?_
          refine r_val (v := .int _ _) (v_add (.inl rfl) (.inl rfl) (fun _ => by omega)) rfl rfl (by decide) ?_
          refine r_val (v := .int _ _) (v_assign (.inl rfl) (noOwn_flat rfl)) rfl rfl (by decide) ?_
          refine r_nil ?_
          refine ⟨b + 1, ent_look ⟨Weak.of_eq rfl, Weak.of_eq rfl, Weak.of_eq (by rw [tR2_succ hcm, ← List.append_assoc]; rfl), Weak.of_eq rfl, Weak.of_eq (int_eq (by omega)), trivial⟩, (by omega), by omega⟩
      ·
        skip
        refine a_exit ?_
        have hbm : b = m - (a + 1) := (by simp at ht30; omega)
        refine a_region ?_
        refine r_val (v := .int _ _) (v_move (.inl rfl) (noOwn_flat rfl)) rfl rfl (by decide) ?_
        refine r_val (v := .int _ _) (v_add (.inl rfl) (.inl rfl) (fun _ => by omega)) rfl rfl (by decide) ?_
        refine r_val (v := .int _ _) (v_assign (.inl rfl) (noOwn_flat rfl)) rfl rfl (by decide) ?_
        refine r_nil ?_
        refine ⟨a + 1, ent_look ⟨Weak.of_eq rfl, Weak.of_eq rfl, Weak.of_eq (by rw [tR1_succ hbm]; rfl), Weak.of_eq (int_eq (by omega)), trivial⟩, (by omega), by omega⟩
    ·
      skip
      refine a_exit ?_
      refine a_seq ?_
      have ham : a = m := (by simp at ht23; omega)
      have hgd : goodB 144 (tR1 ((m : Nat) : Int).toNat ((m : Nat) : Int).toNat) = true := (by rw [Int.toNat_natCast]; exact t_good m (by omega))
      have hcF : (tR1 m a) = (tR1 ((m : Nat) : Int).toNat ((m : Nat) : Int).toNat) := (by rw [Int.toNat_natCast, ham])
      have hrm := res_S (vars := (((m : Nat) : Int) * (((m : Nat) : Int) - 1) / 2)) (F := (tR1 ((m : Nat) : Int).toNat ((m : Nat) : Int).toNat)) hin
      refine a_region ?_
      refine r_val (v := .agg [.int _ _, .rsl _ _ _ _ _]) (v_load_rpa (xs := [.int _ _, .osl _ _ _ _]) ta24 (.inl rfl) rfl rfl (fun _ => take_get rfl)) rfl rfl (by decide) ?_
      refine r_step rfl (o_callIO (q := (4, [1])) (vs := [.agg [.int _ _, .rsl _ _ _ _ _]]) (args := [.agg [.int .i64 _, .rsl (INH, []) _ _ _ _]]) (x0 := .osl _ _ _ _) (x1 := .undef) (res := .tup [.agg [.int _ _, .osl _ _ _ _], .bool _]) rfl hb21 rfl (by decide) ⟨.inl rfl, trivial⟩ rfl rfl (l4Give_c (((m : Nat) : Int) * (((m : Nat) : Int) - 1) / 2) (accS (tR1 m a)) (by rw [hcF]; exact goodB_okS (by omega) hgd)) rfl (by simp [noSh, noShL, osls_noSh]) (by simp [noRef, noRefL, osls_noRef]) rfl rfl (Nat.le_of_ble_eq_true rfl) (by decide) rfl) ?_
      refine r_val (v := .agg [.int _ _, .rsl _ _ _ _ _]) (v_extract rfl rfl) rfl rfl (by decide) ?_
      refine r_val (v := .bool _) (v_extract rfl rfl) rfl rfl (by decide) ?_
      refine r_pre (ent_reloc_at_sl (t := 68) (r := [1]) rfl (by decide) rfl rfl) ?_
      refine r_step rfl (o_store_own (v := .agg [.int _ _, .osl _ _ _ _]) (y' := .op [.int _ _, .osl _ _ _ _]) rfl rfl ta24 (.inl rfl) (by decide) rfl (by decide) rfl (by simp [cellsOf, noRefL, noRef, osls_noRef]) rfl rfl rfl rfl rfl (Nat.le_of_ble_eq_true rfl) rfl rfl) ?_
      refine r_val (v := .bool _) (v_assign (.inl rfl) (noOwn_flat rfl)) rfl rfl (by decide) ?_
      refine r_nil ?_
      refine a_ret ?_
      refine retL (rs := [.cell 2 24, .tmp 3]) [(2, _), (3, _)] ⟨Weak.rfl, Weak.rfl, trivial⟩ rfl Try.results14 (by decide) ⟨by decide, _, cell_agg rfl ta24, by decide, rfl⟩ (by decide) (by decide) (l2_eq (agg_eq (l2_eq (int_eq ?_) (osl_eq2 ?_ ?_))) (bool_eq ?_)) (by simp [refsL, refs])
      all_goals (rw [hcF])
      all_goals (first | rw [hrm.2] | rw [hrm.1])

theorem lawTriangleCnf_c (n : Int) : ACall Try.prog 5 [.int .i64 n] [] (.bool true) [] := by
  have hr := cnfB_res (vars := (n * (n - 1) / 2)) (c := inR n 3 5) (L := accJ (tR1 n.toNat n.toNat))
  have hrl := fun i => len_tot (L := resL (inR n 3 5 && cnfB (n * (n - 1) / 2) (accJ (tR1 n.toNat n.toNat))) (accJ (tR1 n.toNat n.toNat))) (i := i)
  refine ACall.intro Try.func5 rfl (N := 63) rfl (by decide) (by simp) ?_
  refine a_seq ?_
  refine a_region ?_
  refine r_val (v := .bool _) (v_assign (.inl rfl) (noOwn_flat rfl)) rfl rfl (by decide) ?_
  refine r_nil ?_
  refine a_seq ?_
  refine a_region ?_
  refine r_val (v := .int _ _) (v_move (.inl rfl) (noOwn_flat rfl)) rfl rfl (by decide) ?_
  refine r_new (v := .tup [.agg [.int _ _, .osl _ _ _ _], .bool _]) (q_call (vs := [.int _ _]) (args := [.int .i64 _]) hb14 ⟨.inl rfl, trivial⟩ rfl (fun hA => sTri_c _) (by simp [noSh, noShL, osls_noSh]) (by simp [noRef, noRefL, osls_noRef])) rfl rfl (by decide) ?_
  refine r_val (v := .tup [.agg [.int _ _, .rsl _ _ _ _ _], .bool _]) (v_mv rfl) rfl rfl (by decide) ?_
  refine r_val (v := .agg [.int _ _, .rsl _ _ _ _ _]) (v_extract rfl rfl) rfl rfl (by decide) ?_
  refine r_val (v := .bool _) (v_extract rfl rfl) rfl rfl (by decide) ?_
  refine r_new (v := .op [.int _ _, .nils]) (q_alloc zc24) rfl rfl (by decide) ?_
  refine r_pre (ent_reloc_at_sl (t := 14) (r := [1]) rfl (by decide) rfl rfl) ?_
  refine r_step rfl (o_store_own (v := .agg [.int _ _, .osl _ _ _ _]) (y' := .op [.int _ _, .osl _ _ _ _]) rfl rfl ta24 (.inl rfl) (by decide) rfl (by decide) rfl (by simp [cellsOf, noRefL, noRef, osls_noRef]) rfl rfl rfl rfl rfl (Nat.le_of_ble_eq_true rfl) rfl rfl) ?_
  refine r_val (v := .bool _) (v_assign (.inl rfl) (noOwn_flat rfl)) rfl rfl (by decide) ?_
  refine r_nil ?_
  refine a_seq ?_
  refine a_region ?_
  refine r_val (v := .int _ _) (v_move (.inl rfl) (noOwn_flat rfl)) rfl rfl (by decide) ?_
  refine r_new (v := .tup [.agg [.int _ _, .osl _ _ _ _], .bool _]) (q_call (vs := [.int _ _]) (args := [.int .i64 _]) hb15 ⟨.inl rfl, trivial⟩ rfl (fun hA => iTri_c _) (by simp [noSh, noShL, osls_noSh]) (by simp [noRef, noRefL, osls_noRef])) rfl rfl (by decide) ?_
  refine r_val (v := .tup [.agg [.int _ _, .rsl _ _ _ _ _], .bool _]) (v_mv rfl) rfl rfl (by decide) ?_
  refine r_val (v := .agg [.int _ _, .rsl _ _ _ _ _]) (v_extract rfl rfl) rfl rfl (by decide) ?_
  refine r_val (v := .bool _) (v_extract rfl rfl) rfl rfl (by decide) ?_
  refine r_new (v := .op [.int _ _, .nils]) (q_alloc zc24) rfl rfl (by decide) ?_
  refine r_pre (ent_reloc_at_sl (t := 19) (r := [1]) rfl (by decide) rfl rfl) ?_
  refine r_step rfl (o_store_own (v := .agg [.int _ _, .osl _ _ _ _]) (y' := .op [.int _ _, .osl _ _ _ _]) rfl rfl ta24 (.inl rfl) (by decide) rfl (by decide) rfl (by simp [cellsOf, noRefL, noRef, osls_noRef]) rfl rfl rfl rfl rfl (Nat.le_of_ble_eq_true rfl) rfl rfl) ?_
  refine r_val (v := .bool _) (v_assign (.inl rfl) (noOwn_flat rfl)) rfl rfl (by decide) ?_
  refine r_nil ?_
  refine a_seq ?_
  refine a_seq ?_
  refine a_region ?_
  refine r_val (v := .agg [.int _ _, .rsl _ _ _ _ _]) (v_load_rpa (xs := [.int _ _, .osl _ _ _ _]) ta24 (.inl rfl) rfl rfl (fun _ => take_get rfl)) rfl rfl (by decide) ?_
  refine r_val (v := .agg [.int _ _, .rsl _ _ _ _ _]) (v_load_rpa (xs := [.int _ _, .osl _ _ _ _]) ta24 (.inl rfl) rfl rfl (fun _ => take_get rfl)) rfl rfl (by decide) ?_
  refine r_new (v := .bool _) (q_call (vs := [.agg [.int _ _, .rsl _ _ _ _ _], .agg [.int _ _, .rsl _ _ _ _ _]]) (args := [.agg [.int .i64 _, .sl _ _], .agg [.int .i64 _, .sl _ _]]) hb9 ⟨.inl rfl, .inl rfl, trivial⟩ (l2_eq (agg_eq (l2_eq rfl sl_osls)) (agg_eq (l2_eq rfl sl_osls))) (fun hA => eqCnf_c _ _ _ _ (by omega) (by omega) (fun i => by have := hrl i; omega)) rfl rfl) rfl rfl (by decide) ?_
  refine r_val (v := .bool _) (v_not (.inl rfl)) rfl rfl (by decide) ?_
  refine r_val (v := .bool _) (v_move (.inl rfl) (noOwn_flat rfl)) rfl rfl (by decide) ?_
  refine r_gval (v := .bool _) (v_move (.inl rfl) (noOwn_flat rfl)) rfl rfl rfl (by decide) (.inl ⟨_, rfl, rfl⟩) rfl (by decide) ?_
  refine r_gval (v := .bool _) (v_move (.inl rfl) (noOwn_flat rfl)) rfl rfl rfl (by decide) (.inl ⟨_, rfl, rfl⟩) rfl (by decide) ?_
  refine r_gval (v := .bool _) (v_bne un4 (.inr ⟨_, rfl, fun h => h⟩) (.inr ⟨_, rfl, fun h => h⟩)) rfl rfl rfl (by decide) (.inl ⟨_, rfl, rfl⟩) rfl (by decide) ?_
  refine r_val (v := .bool _) (v_pick (.inl rfl) (.inl rfl) (.inr ⟨_, rfl, fun h h2 => by simp_all⟩)) rfl rfl (by decide) ?_
  refine r_nil ?_
  refine a_cond rfl (fun ht29 => ?_) (fun ht29 => ?_)
  ·
    skip
    refine a_seq ?_
    refine a_region ?_
    refine r_val (v := .bool _) (v_assign (.inl rfl) (noOwn_flat rfl)) rfl rfl (by decide) ?_
    refine r_nil ?_
    refine a_ret ?_
    refine ret1 Try.results5 (by decide) (by decide) (Weak.of_eq (bool_eq ?_)) rfl Leaves.nil
    first | rfl | (exfalso; simp at ht29; done) | (exfalso; simp at ht29; omega)
  ·
    skip
    refine a_skip ?_
    refine a_seq ?_
    refine a_region ?_
    refine r_val (v := .int _ _) (v_assign (.inl rfl) (noOwn_flat rfl)) rfl rfl (by decide) ?_
    refine r_nil ?_
    refine a_seq ?_
    refine a_region ?_
    refine r_val (v := .agg [.int _ _, .rsl _ _ _ _ _]) (v_load_rpa (xs := [.int _ _, .osl _ _ _ _]) ta24 (.inl rfl) rfl rfl (fun _ => take_get rfl)) rfl rfl (by decide) ?_
    refine r_val (v := .int _ _) (v_move (.inl rfl) (noOwn_flat rfl)) rfl rfl (by decide) ?_
    refine r_step rfl (o_callIO (q := (5, [1])) (vs := [.agg [.int _ _, .rsl _ _ _ _ _], .int _ _]) (args := [.agg [.int .i64 _, .rsl (INH, []) _ _ _ _], .int .i64 _]) (x0 := .osl _ _ _ _) (x1 := .osl _ _ _ _) (res := .int _ _) rfl hb10 rfl (by decide) ⟨.inl rfl, .inl rfl, trivial⟩ rfl rfl (markCnf_c _ _ _ (by omega) (by omega) (by omega)) rfl rfl rfl (osls_noSh _) (osls_noRef _) (Nat.le_of_ble_eq_true rfl) (by decide) rfl) ?_
    refine r_val (v := .int _ _) (v_assign (.inl rfl) (noOwn_flat rfl)) rfl rfl (by decide) ?_
    refine r_nil ?_
    refine a_seq ?_
    refine a_pre (ent_look (L := [(0, .int _ _), (2, .bool _), (3, .op [.int _ _, .osl _ _ _ _]), (4, .bool _), (5, .op [.int _ _, .osl _ _ _ _]), (7, .int _ _)]) ⟨Weak.rfl, Weak.rfl, Weak.rfl, Weak.rfl, Weak.rfl, Weak.rfl, trivial⟩) ?_
    refine a_region ?_
    refine r_val (v := .int _ _) (v_assign (.inl rfl) (noOwn_flat rfl)) rfl rfl (by decide) ?_
    refine r_nil ?_
    refine a_seq ?_
    refine a_region ?_
    refine r_val (v := .agg [.int _ _, .rsl _ _ _ _ _]) (v_load_rpa (xs := [.int _ _, .osl _ _ _ _]) ta24 (.inl rfl) rfl rfl (fun _ => take_get rfl)) rfl rfl (by decide) ?_
    refine r_val (v := .int _ _) (v_move (.inl rfl) (noOwn_flat rfl)) rfl rfl (by decide) ?_
    refine r_new (v := .int _ _) (q_call (vs := [.agg [.int _ _, .rsl _ _ _ _ _], .int _ _]) (args := [.agg [.int .i64 _, .sl _ _], .int .i64 _]) hb11 ⟨.inl rfl, .inl rfl, trivial⟩ (l2_eq (agg_eq (l2_eq rfl sl_osls)) rfl) (fun hA => heldCnf_c _ _ _ (by omega) (by omega) (by omega)) rfl rfl) rfl rfl (by decide) ?_
    refine r_val (v := .int _ _) (v_assign (.inl rfl) (noOwn_flat rfl)) rfl rfl (by decide) ?_
    refine r_nil ?_
    refine a_seq ?_
    refine a_seq ?_
    refine a_region ?_
    refine r_val (v := .int _ _) (v_move (.inl rfl) (noOwn_flat rfl)) rfl rfl (by decide) ?_
    refine r_val (v := .bool _) (v_lss (.inl rfl) (.inl rfl)) rfl rfl (by decide) ?_
    refine r_nil ?_
    refine a_cond rfl (fun ht37 => ?_) (fun ht37 => ?_)
    ·
      skip
      refine a_seq ?_
      refine a_region ?_
      refine r_val (v := .bool _) (v_assign (.inl rfl) (noOwn_flat rfl)) rfl rfl (by decide) ?_
      refine r_nil ?_
      refine a_ret ?_
      refine ret1 Try.results5 (by decide) (by decide) (Weak.of_eq (bool_eq ?_)) rfl Leaves.nil
      first | rfl | (exfalso; simp at ht37; done) | (exfalso; simp at ht37; omega)
    ·
      skip
      refine a_skip ?_
      refine a_seq ?_
      refine a_seq ?_
      refine a_region ?_
      refine r_val (v := .int _ _) (v_move (.inl rfl) (noOwn_flat rfl)) rfl rfl (by decide) ?_
      refine r_val (v := .int _ _) (v_move (.inl rfl) (noOwn_flat rfl)) rfl rfl (by decide) ?_
      refine r_val (v := .bool _) (v_neq (.inl rfl) (.inl rfl)) rfl rfl (by decide) ?_
      refine r_nil ?_
      refine a_cond rfl (fun ht40 => ?_) (fun ht40 => ?_)
      ·
        skip
        refine a_seq ?_
        refine a_region ?_
        refine r_val (v := .bool _) (v_assign (.inl rfl) (noOwn_flat rfl)) rfl rfl (by decide) ?_
        refine r_nil ?_
        refine a_ret ?_
        refine ret1 Try.results5 (by decide) (by decide) (Weak.of_eq (bool_eq ?_)) rfl Leaves.nil
        first | rfl | (exfalso; simp at ht40; done) | (exfalso; simp at ht40; omega)
      ·
        skip
        refine a_skip ?_
        refine a_seq ?_
        refine a_region ?_
        refine r_val (v := .int _ _) (v_move (.inl rfl) (noOwn_flat rfl)) rfl rfl (by decide) ?_
        refine r_new (v := .tup [.agg [.int _ _, .osl _ _ _ _], .bool _]) (q_call (vs := [.int _ _]) (args := [.int .i64 _]) hb15 ⟨.inl rfl, trivial⟩ rfl (fun hA => iTri_c _) (by simp [noSh, noShL, osls_noSh]) (by simp [noRef, noRefL, osls_noRef])) rfl rfl (by decide) ?_
        refine r_val (v := .tup [.agg [.int _ _, .rsl _ _ _ _ _], .bool _]) (v_mv rfl) rfl rfl (by decide) ?_
        refine r_val (v := .agg [.int _ _, .rsl _ _ _ _ _]) (v_extract rfl rfl) rfl rfl (by decide) ?_
        refine r_val (v := .bool _) (v_extract rfl rfl) rfl rfl (by decide) ?_
        refine r_new (v := .op [.int _ _, .nils]) (q_alloc zc24) rfl rfl (by decide) ?_
        refine r_pre (ent_reloc_at_sl (t := 44) (r := [1]) rfl (by decide) rfl rfl) ?_
        refine r_step rfl (o_store_own (v := .agg [.int _ _, .osl _ _ _ _]) (y' := .op [.int _ _, .osl _ _ _ _]) rfl rfl ta24 (.inl rfl) (by decide) rfl (by decide) rfl (by simp [cellsOf, noRefL, noRef, osls_noRef]) rfl rfl rfl rfl rfl (Nat.le_of_ble_eq_true rfl) rfl rfl) ?_
        refine r_val (v := .bool _) (v_assign (.inl rfl) (noOwn_flat rfl)) rfl rfl (by decide) ?_
        refine r_nil ?_
        refine a_seq ?_
        refine a_seq ?_
        refine a_region ?_
        refine r_val (v := .agg [.int _ _, .rsl _ _ _ _ _]) (v_load_rpa (xs := [.int _ _, .osl _ _ _ _]) ta24 (.inl rfl) rfl rfl (fun _ => take_get rfl)) rfl rfl (by decide) ?_
        refine r_val (v := .agg [.int _ _, .rsl _ _ _ _ _]) (v_load_rpa (xs := [.int _ _, .osl _ _ _ _]) ta24 (.inl rfl) rfl rfl (fun _ => take_get rfl)) rfl rfl (by decide) ?_
        refine r_new (v := .bool _) (q_call (vs := [.agg [.int _ _, .rsl _ _ _ _ _], .agg [.int _ _, .rsl _ _ _ _ _]]) (args := [.agg [.int .i64 _, .sl _ _], .agg [.int .i64 _, .sl _ _]]) hb9 ⟨.inl rfl, .inl rfl, trivial⟩ (l2_eq (agg_eq (l2_eq rfl sl_osls)) (agg_eq (l2_eq rfl sl_osls))) (fun hA => eqCnf_c _ _ _ _ (by omega) (by omega) (fun i => by have := hrl i; omega)) rfl rfl) rfl rfl (by decide) ?_
        refine r_val (v := .bool _) (v_not (.inl rfl)) rfl rfl (by decide) ?_
        refine r_val (v := .bool _) (v_move (.inl rfl) (noOwn_flat rfl)) rfl rfl (by decide) ?_
        refine r_gval (v := .bool _) (v_move (.inl rfl) (noOwn_flat rfl)) rfl rfl rfl (by decide) (.inl ⟨_, rfl, rfl⟩) rfl (by decide) ?_
        refine r_gval (v := .bool _) (v_move (.inl rfl) (noOwn_flat rfl)) rfl rfl rfl (by decide) (.inl ⟨_, rfl, rfl⟩) rfl (by decide) ?_
        refine r_gval (v := .bool _) (v_bne un4 (.inr ⟨_, rfl, fun h => h⟩) (.inr ⟨_, rfl, fun h => h⟩)) rfl rfl rfl (by decide) (.inl ⟨_, rfl, rfl⟩) rfl (by decide) ?_
        refine r_val (v := .bool _) (v_pick (.inl rfl) (.inl rfl) (.inr ⟨_, rfl, fun h h2 => by simp_all⟩)) rfl rfl (by decide) ?_
        refine r_nil ?_
        refine a_cond rfl (fun ht54 => ?_) (fun ht54 => ?_)
        ·
          skip
          refine a_seq ?_
          refine a_pre (ent_look (L := [(2, .bool _), (5, .op [.int _ _, .osl _ _ _ _]), (7, .int _ _), (8, .int _ _)]) ⟨Weak.rfl, Weak.rfl, Weak.rfl, Weak.rfl, trivial⟩) ?_
          refine a_region ?_
          refine r_val (v := .bool _) (v_assign (.inl rfl) (noOwn_flat rfl)) rfl rfl (by decide) ?_
          refine r_nil ?_
          refine a_ret ?_
          refine ret1 Try.results5 (by decide) (by decide) (Weak.of_eq (bool_eq ?_)) rfl Leaves.nil
          first | rfl | (exfalso; simp at ht54; done) | (exfalso; simp at ht54; omega)
        ·
          skip
          refine a_skip ?_
          refine a_seq ?_
          refine a_pre (ent_look (L := [(2, .bool _), (5, .op [.int _ _, .osl _ _ _ _]), (7, .int _ _), (8, .int _ _)]) ⟨Weak.rfl, Weak.rfl, Weak.rfl, Weak.rfl, trivial⟩) ?_
          refine a_region ?_
          refine r_val (v := .int _ _) (v_assign (.inl rfl) (noOwn_flat rfl)) rfl rfl (by decide) ?_
          refine r_nil ?_
          refine a_seq ?_
          refine a_region ?_
          refine r_val (v := .agg [.int _ _, .rsl _ _ _ _ _]) (v_load_rpa (xs := [.int _ _, .osl _ _ _ _]) ta24 (.inl rfl) rfl rfl (fun _ => take_get rfl)) rfl rfl (by decide) ?_
          refine r_val (v := .int _ _) (v_move (.inl rfl) (noOwn_flat rfl)) rfl rfl (by decide) ?_
          refine r_new (v := .int _ _) (q_call (vs := [.agg [.int _ _, .rsl _ _ _ _ _], .int _ _]) (args := [.agg [.int .i64 _, .sl _ _], .int .i64 _]) hb11 ⟨.inl rfl, .inl rfl, trivial⟩ (l2_eq (agg_eq (l2_eq rfl sl_osls)) rfl) (fun hA => heldCnf_c _ _ _ (by omega) (by omega) (by omega)) rfl rfl) rfl rfl (by decide) ?_
          refine r_val (v := .int _ _) (v_assign (.inl rfl) (noOwn_flat rfl)) rfl rfl (by decide) ?_
          refine r_nil ?_
          refine a_seq ?_
          refine a_seq ?_
          refine a_region ?_
          refine r_val (v := .int _ _) (v_move (.inl rfl) (noOwn_flat rfl)) rfl rfl (by decide) ?_
          refine r_val (v := .bool _) (v_lss (.inl rfl) (.inl rfl)) rfl rfl (by decide) ?_
          refine r_nil ?_
          refine a_cond rfl (fun ht59 => ?_) (fun ht59 => ?_)
          ·
            skip
            refine a_seq ?_
            refine a_region ?_
            refine r_val (v := .bool _) (v_assign (.inl rfl) (noOwn_flat rfl)) rfl rfl (by decide) ?_
            refine r_nil ?_
            refine a_ret ?_
            refine ret1 Try.results5 (by decide) (by decide) (Weak.of_eq (bool_eq ?_)) rfl Leaves.nil
            first | rfl | (exfalso; simp at ht59; done) | (exfalso; simp at ht59; omega)
          ·
            skip
            refine a_skip ?_
            refine a_seq ?_
            refine a_seq ?_
            refine a_region ?_
            refine r_val (v := .int _ _) (v_move (.inl rfl) (noOwn_flat rfl)) rfl rfl (by decide) ?_
            refine r_val (v := .int _ _) (v_move (.inl rfl) (noOwn_flat rfl)) rfl rfl (by decide) ?_
            refine r_val (v := .bool _) (v_neq (.inl rfl) (.inl rfl)) rfl rfl (by decide) ?_
            refine r_nil ?_
            refine a_cond rfl (fun ht62 => ?_) (fun ht62 => ?_)
            ·
              skip
              refine a_seq ?_
              refine a_region ?_
              refine r_val (v := .bool _) (v_assign (.inl rfl) (noOwn_flat rfl)) rfl rfl (by decide) ?_
              refine r_nil ?_
              refine a_ret ?_
              refine ret1 Try.results5 (by decide) (by decide) (Weak.of_eq (bool_eq ?_)) rfl Leaves.nil
              first | rfl | (exfalso; simp at ht62; done) | (exfalso; simp at ht62; omega)
            ·
              skip
              refine a_skip ?_
              refine a_seq ?_
              refine a_region ?_
              refine r_val (v := .bool _) (v_assign (.inl rfl) (noOwn_flat rfl)) rfl rfl (by decide) ?_
              refine r_nil ?_
              refine a_ret ?_
              refine ret1 Try.results5 (by decide) (by decide) (Weak.of_eq (bool_eq ?_)) rfl Leaves.nil
              first | rfl | (exfalso; simp at ht62; done) | (exfalso; simp at ht62; omega)
end Go.Av
namespace Go.Av
open Go Go.Proofs Go.Proofs.Ytmbjhednpnokpaa
set_option maxRecDepth 100000
theorem arg3 : OpensV Try.prog 3 (fun x : Int => AV.int .i64 x) (fun x => (Lit.int .i64 x).wf = true) :=
  opensV_one (ok_scalar (by rw [Try.underlying3])) (opens_int Try.underlying3) (fun _ => rfl)
theorem rowOwn : ownKnob Try.prog.godebug = none := by kernel_rfl
theorem rowLaid : laidOutB Try.prog = true := by kernel_rfl
end Go.Av
