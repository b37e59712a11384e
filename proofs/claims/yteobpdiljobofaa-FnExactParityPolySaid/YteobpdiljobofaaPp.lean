/- Rows of numbers as cells; polynomials by their coefficients. -/
import Derived.Test.YteobpdiljobofaaVb
import Derived.Test.YteobpdiljobofaaPo
import Derived.Test.YteobpdiljobofaaRows
set_option linter.unusedVariables false
set_option linter.unusedSimpArgs false
namespace Go.Av
open Go

def icells (xs : List Int) : List AV := xs.map (AV.int .i64)
theorem icells_length (xs : List Int) : (icells xs).length = xs.length := by simp [icells]
theorem icells_get {xs : List Int} {i : Nat} {n : Int} (h : xs[i]? = some n) : (icells xs)[i]? = some (.int .i64 n) := by simp [icells, h]
theorem ic_pureL (xs : List Int) : pureL (icells xs) = true := pureL_iff.2 fun c hc => by
  obtain ⟨n, _, rfl⟩ := List.mem_map.1 hc; rfl
theorem ic_noNil : ∀ (xs : List Int), noNilL (icells xs) = true
  | [] => rfl
  | x :: xs => by simp only [icells, List.map_cons, noNilL, noNil, Bool.true_and]; exact ic_noNil xs
theorem ic_noSh : ∀ (xs : List Int), noShL (icells xs) = true
  | [] => rfl
  | x :: xs => by simp only [icells, List.map_cons, noShL, noSh, Bool.true_and]; exact ic_noSh xs
theorem ic_noRef (xs : List Int) : noRefL (icells xs) = true := noRefL_pure _ (ic_pureL xs)
theorem ic_pure (xs : List Int) : pureL (icells xs) = true ∧ noNilL (icells xs) = true := ⟨ic_pureL xs, ic_noNil xs⟩
theorem icells_set {xs : List Int} {i : Nat} {n : Int} : (icells xs).set i (.int .i64 n) = icells (xs.set i n) := by simp [icells]
theorem icells_rep (n : Nat) : rep n [.int .i64 0] = icells (List.replicate n 0) := by
  induction n with
  | zero => rfl
  | succ n ih => simp only [rep, List.replicate_succ, List.flatten_cons] at ih ⊢; rw [ih]; rfl
theorem icells_app {xs : List Int} {n : Int} : icells xs ++ [.int .i64 n] = icells (xs ++ [n]) := by simp [icells]
theorem icells_ne {xs : List Int} {i : Nat} (h : i < xs.length) : icells xs ≠ [] := fun he => by
  have := icells_length xs
  rw [he] at this; simp at this; omega
theorem ic_cell (xs : List Int) : cellL (icells xs) = true := by
  simp only [cellL, List.all_eq_true]
  intro c hc
  obtain ⟨n, _, rfl⟩ := List.mem_map.1 hc; rfl
theorem tcells_app {xs : List (Int × Int)} {a b : Int} : tcells xs ++ [.int .i64 a, .int .i64 b] = tcells (xs ++ [(a, b)]) := by
  induction xs with
  | nil => rfl
  | cons x xs ih => simp only [List.cons_append, tcells, ih]
theorem tc_cell (xs : List (Int × Int)) : cellL (tcells xs) = true := by
  induction xs with
  | nil => rfl
  | cons x xs ih => simpa [tcells, cellL, cellV] using ih

/-- Number i of a row, 0 behind its end. -/
def gd (l : List Int) (i : Nat) : Int := (l[i]?).getD 0
theorem gd_get {l : List Int} {i : Nat} (h : i < l.length) : l[i]? = some (gd l i) := by simp [gd, List.getElem?_eq_getElem h]
theorem gd_set {l : List Int} {i : Nat} {x : Int} (h : i < l.length) : gd (l.set i x) i = x := by simp [gd, h]
theorem gd_set_ne {l : List Int} {i j : Nat} {x : Int} (h : i ≠ j) : gd (l.set i x) j = gd l j := by simp [gd, List.getElem?_set_ne h]
theorem gd_rep {n i : Nat} : gd (List.replicate n 0) i = 0 := by
  simp only [gd, List.getElem?_replicate]; split <;> rfl
theorem gd_ext {l l' : List Int} (hl : l.length = l'.length) (h : ∀ i, i < l.length → gd l i = gd l' i) : l = l' := by
  refine List.ext_getElem? fun i => ?_
  rcases Nat.lt_or_ge i l.length with hi | hi
  · rw [gd_get hi, gd_get (hl ▸ hi), h i hi]
  · rw [List.getElem?_eq_none hi, List.getElem?_eq_none (hl ▸ hi)]
theorem gd_map {l : List Int} {f : Int → Int} (hf : f 0 = 0) (i : Nat) : gd (l.map f) i = f (gd l i) := by
  simp only [gd, List.getElem?_map]
  cases l[i]? with
  | none => simp [hf]
  | some x => rfl

def dn (vars : Int) : Nat := 2 ^ vars.toNat
theorem dn_cast (vars : Int) : ((dn vars : Nat) : Int) = 2 ^ vars.toNat := by simp [dn]
theorem dn_le {vars : Int} (h : 0 ≤ vars ∧ vars ≤ 6) : 1 ≤ dn vars ∧ dn vars ≤ 64 := by
  have := pow6 h
  have := dn_cast vars
  omega

def bumpp (p : Int) (l : List Int) (m : Nat) (c : Int) : List Int := l.set m ((gd l m + c) % p)
/-- The coefficients modulo p. -/
def accp (p : Int) (n : Nat) (xs : List (Int × Int)) : List Int := xs.foldl (fun l t => bumpp p l t.1.toNat t.2) (List.replicate n 0)
theorem foldl_len {α : Type} {f : List Int → α → List Int} (hf : ∀ l a, (f l a).length = l.length) : ∀ (xs : List α) (l : List Int), (xs.foldl f l).length = l.length
  | [], _ => rfl
  | x :: xs, l => by rw [List.foldl_cons, foldl_len hf xs, hf]
theorem accp_length (p : Int) (n : Nat) (xs : List (Int × Int)) : (accp p n xs).length = n := by
  unfold accp
  rw [foldl_len (fun l a => by simp [bumpp])]; simp
theorem take_tm {xs : List (Int × Int)} {i : Nat} (h : i < xs.length) : xs.take (i + 1) = xs.take i ++ [tm xs i] := by
  rw [List.take_succ_eq_append_getElem h]
  simp [tm, List.getElem?_eq_getElem h]
theorem accp_step {p : Int} {n : Nat} {xs : List (Int × Int)} {i : Nat} (h : i < xs.length) : accp p n (xs.take (i + 1)) = bumpp p (accp p n (xs.take i)) (tm xs i).1.toNat (tm xs i).2 := by
  rw [take_tm h]; simp [accp]
theorem foldl_inv {α : Type} {f : List Int → α → List Int} {P : List Int → Prop} (hf : ∀ l a, P l → P (f l a)) : ∀ (xs : List α) (l : List Int), P l → P (xs.foldl f l)
  | [], _, h => h
  | x :: xs, l, h => foldl_inv hf xs _ (hf l x h)
theorem gd_setc {l : List Int} {i j : Nat} {x : Int} : gd (l.set i x) j = if i = j ∧ i < l.length then x else gd l j := by
  by_cases hi : i = j
  · subst hi
    by_cases hl : i < l.length
    · rw [gd_set hl]; simp [hl]
    · rw [if_neg (by omega), List.set_eq_of_length_le (by omega)]
  · rw [gd_set_ne hi]; simp [hi]
theorem accp_bd {p : Int} (hp : 1 ≤ p) (n : Nat) (xs : List (Int × Int)) (m : Nat) : 0 ≤ gd (accp p n xs) m ∧ gd (accp p n xs) m < p := by
  unfold accp
  refine foldl_inv (P := fun l => 0 ≤ gd l m ∧ gd l m < p) (fun l a h => ?_) xs _ (by rw [gd_rep]; omega)
  unfold bumpp
  rw [gd_setc]
  have h1 := Int.emod_nonneg (gd l a.1.toNat + a.2) (show p ≠ 0 by omega)
  have h2 := Int.emod_lt_of_pos (gd l a.1.toNat + a.2) (show 0 < p by omega)
  split
  · omega
  · exact h
theorem accp_zero {p : Int} {n m : Nat} : ∀ {xs : List (Int × Int)}, (∀ t ∈ xs, t.1.toNat ≠ m) → gd (accp p n xs) m = 0 := by
  intro xs
  unfold accp
  generalize hl : List.replicate n (0 : Int) = l
  have h0 : gd l m = 0 := by rw [← hl]; exact gd_rep
  clear hl
  induction xs generalizing l with
  | nil => intro _; exact h0
  | cons x xs ih =>
    intro h
    rw [List.foldl_cons]
    refine ih _ ?_ (fun t ht => h t (by simp [ht]))
    unfold bumpp
    rw [gd_set_ne (h x (by simp))]; exact h0

theorem good_ok {p vars : Int} {xs : List (Int × Int)} (h : goodL p vars xs = true) {i : Nat} (hi : i < xs.length) : okAt p vars xs i = true := by
  unfold goodL at h
  exact List.all_eq_true.1 h i (by simpa using hi)
theorem good_spec {p vars : Int} {xs : List (Int × Int)} (h : goodL p vars xs = true) {i : Nat} (hi : i < xs.length) :
    0 ≤ (tm xs i).1 ∧ (tm xs i).1 < 2 ^ vars.toNat ∧ 1 ≤ (tm xs i).2 ∧ (tm xs i).2 < p ∧ (i ≠ 0 → (tm xs (i - 1)).1 < (tm xs i).1) := by
  have := good_ok h hi
  simp only [okAt, inR, Bool.and_eq_true, decide_eq_true_eq, Bool.or_eq_true] at this
  omega
theorem good_asc {p vars : Int} {xs : List (Int × Int)} (h : goodL p vars xs = true) {i j : Nat} (hj : j < i) (hi : i < xs.length) : (tm xs j).1 < (tm xs i).1 := by
  induction i with
  | zero => omega
  | succ i ih =>
    have h1 := (good_spec h hi).2.2.2.2 (by omega)
    rw [Nat.add_sub_cancel] at h1
    rcases Nat.lt_or_ge j i with hlt | hge
    · have := ih hlt (by omega); omega
    · have : j = i := by omega
      subst this; exact h1
/-- Where the polynomial is good, the coefficient is set once. -/
theorem good_set {p vars : Int} {xs : List (Int × Int)} {n : Nat} (h : goodL p vars xs = true) {i : Nat} (hi : i < xs.length) :
    (accp p n (xs.take i)).set (tm xs i).1.toNat (tm xs i).2 = accp p n (xs.take (i + 1)) := by
  have hs := good_spec h hi
  rw [accp_step hi]
  unfold bumpp
  rw [accp_zero (fun t ht => ?_), Int.zero_add, Int.emod_eq_of_lt (by omega) (by omega)]
  obtain ⟨j, hj⟩ := List.getElem?_of_mem ht
  rw [List.getElem?_take] at hj
  split at hj
  · rename_i hji
    have h1 := good_asc h hji hi
    have h2 := (good_spec h (show j < xs.length by omega)).1
    have : tm xs j = t := by simp [tm, hj]
    rw [this] at h1 h2
    omega
  · cases hj

/-- The terms of the first i coefficients. -/
def trmTo (d : List Int) : Nat → List (Int × Int)
  | 0 => []
  | i + 1 => if gd d i = 0 then trmTo d i else trmTo d i ++ [((i : Int), gd d i)]
def trm (d : List Int) : List (Int × Int) := trmTo d d.length
theorem trmTo_len (d : List Int) : ∀ i, (trmTo d i).length ≤ i
  | 0 => Nat.le_refl _
  | i + 1 => by
    have := trmTo_len d i
    simp only [trmTo]; split
    · omega
    · simp; omega
theorem trm_len (d : List Int) : (trm d).length ≤ d.length := trmTo_len d _
theorem trmTo_skip {d : List Int} {i : Nat} (h : gd d i = 0) : trmTo d (i + 1) = trmTo d i := by simp [trmTo, h]
theorem trmTo_more {d : List Int} {i : Nat} (h : gd d i ≠ 0) : trmTo d (i + 1) = trmTo d i ++ [((i : Int), gd d i)] := by simp [trmTo, h]
/-- The coefficients modulo p, as terms. -/
def modp (p : Int) (l : List Int) : List Int := l.map (· % p)
theorem modp_length (p : Int) (l : List Int) : (modp p l).length = l.length := by simp [modp]
theorem gd_modp (p : Int) (l : List Int) (i : Nat) : gd (modp p l) i = gd l i % p := gd_map (by simp) i
end Go.Av
namespace Go.Av
/-- What mark writes. -/
def mkT (k : Int) (n : Nat) : List (Int × Int) := (List.range n).map fun (i : Nat) => (k + 2 * (i : Int), k + 2 * (i : Int) + 1)
theorem mkT_length (k : Int) (n : Nat) : (mkT k n).length = n := by simp [mkT]
theorem mkT_get {k : Int} {n i : Nat} (h : i < n) : (mkT k n)[i]? = some (k + 2 * i, k + 2 * i + 1) := by simp [mkT, h]
def mkPart (k : Int) (xs : List (Int × Int)) (i : Nat) : List (Int × Int) := mkT k i ++ xs.drop i
theorem mkPart_length {k : Int} {xs : List (Int × Int)} {i : Nat} (h : i ≤ xs.length) : (mkPart k xs i).length = xs.length := by simp [mkPart, mkT_length]; omega
theorem mkPart_set {k : Int} {xs : List (Int × Int)} {i : Nat} (h : i < xs.length) : (mkPart k xs i).set i (k + 2 * i, k + 2 * i + 1) = mkPart k xs (i + 1) := by
  unfold mkPart
  have e : xs.drop i = xs[i] :: xs.drop (i + 1) := List.drop_eq_getElem_cons h
  rw [List.set_append_right _ _ (by rw [mkT_length]; exact Nat.le_refl _), mkT_length, Nat.sub_self, e, List.set_cons_zero]
  simp only [mkT, List.range_succ, List.map_append, List.map_cons, List.map_nil, List.append_assoc, List.cons_append, List.nil_append]
theorem mkPart_full {k : Int} {xs : List (Int × Int)} {i : Nat} (h : i = xs.length) : mkPart k xs i = mkT k xs.length := by subst h; simp [mkPart]
theorem mkPart_zero (k : Int) (xs : List (Int × Int)) : mkPart k xs 0 = xs := by simp [mkPart, mkT]
theorem tcells_len1 {xs : List (Int × Int)} {i : Nat} (h : i < xs.length) : i * 2 + 1 < (tcells xs).length := by rw [tcells_length]; omega
end Go.Av
namespace Go.Av
/-- Row i of rows. -/
def nth (al : List (List (Int × Int))) (i : Nat) : List (Int × Int) := (al[i]?).getD []
theorem nth_get {al : List (List (Int × Int))} {i : Nat} (h : i < al.length) : al[i]? = some (nth al i) := by simp [nth, List.getElem?_eq_getElem h]
theorem nth_mem {al : List (List (Int × Int))} {i : Nat} (h : i < al.length) : nth al i ∈ al := List.mem_of_getElem? (nth_get h)
def acl (al : List (List (Int × Int))) : List AV := al.map fun a => .sl (tcells a) a.length
theorem acl_get {al : List (List (Int × Int))} {i : Nat} (h : i < al.length) : (acl al)[i]? = some (.sl (tcells (nth al i)) (nth al i).length) := by simp [acl, nth_get h]
theorem acl_ne {al : List (List (Int × Int))} {i : Nat} (h : i < al.length) : acl al ≠ [] := fun he => by
  have : (acl al).length = al.length := by simp [acl]
  rw [he] at this; simp at this; omega
def pcl (p : Int) (vars : Int) (al : List (List (Int × Int))) : List AV := al.map fun a => .osl 1 (icells (accp p (dn vars) a)) (dn vars) none
theorem pcl_length (p vars : Int) (al : List (List (Int × Int))) : (pcl p vars al).length = al.length := by simp [pcl]
theorem pcl_noSh (p vars : Int) (al : List (List (Int × Int))) : noShL (pcl p vars al) = true := by
  induction al with
  | nil => rfl
  | cons a al ih => simp only [pcl, List.map_cons, noShL, noSh, ic_noSh, Bool.true_and] at ih ⊢; exact ih
theorem pcl_noRef (p vars : Int) (al : List (List (Int × Int))) : noRefL (pcl p vars al) = true := by
  induction al with
  | nil => rfl
  | cons a al ih => simp only [pcl, List.map_cons, noRefL, noRef, ic_noRef, Bool.true_and] at ih ⊢; exact ih
theorem pcl_step {p vars : Int} {al : List (List (Int × Int))} {i : Nat} (h : i < al.length) : pcl p vars (al.take i) ++ [.osl 1 (icells (accp p (dn vars) (nth al i))) (dn vars) none] = pcl p vars (al.take (i + 1)) := by
  rw [List.take_add_one, nth_get h]; simp [pcl]
def polOk (p vars : Int) (al : List (List (Int × Int))) : Bool := prime p vars && al.all (goodL p vars)
def polRes (p vars : Int) (al : List (List (Int × Int))) : List (List (Int × Int)) := if polOk p vars al then al else []
theorem pol_bad {p vars : Int} {al : List (List (Int × Int))} {i : Nat} (hi : i < al.length) (h : goodL p vars (nth al i) = false) : polOk p vars al = false := by
  unfold polOk
  rw [Bool.and_eq_false_iff]; right
  rw [List.all_eq_false]
  exact ⟨_, nth_mem hi, by simp [h]⟩
theorem pol_good {p vars : Int} {al : List (List (Int × Int))} (hp : prime p vars = true) (h : ∀ j, j < al.length → goodL p vars (nth al j) = true) : polOk p vars al = true := by
  unfold polOk
  rw [hp, Bool.true_and, List.all_eq_true]
  intro a ha
  obtain ⟨i, hi⟩ := List.getElem?_of_mem ha
  have hlt : i < al.length := by
    rcases Nat.lt_or_ge i al.length with h | h
    · exact h
    · rw [List.getElem?_eq_none h] at hi; cases hi
  have := h i hlt
  rw [nth_get hlt] at hi; cases hi; exact this
theorem good_range {p vars : Int} {xs : List (Int × Int)} (h : goodL p vars xs = true) : ∀ i, i < xs.length → 0 ≤ (tm xs i).1 ∧ (tm xs i).1 < 2 ^ vars.toNat ∧ 0 ≤ (tm xs i).2 ∧ (tm xs i).2 < p := fun i hi => by
  have := good_spec h hi; omega
end Go.Av
namespace Go.Av
open Go Go.Proofs
set_option maxRecDepth 10000
theorem es35 : elemSize Try.prog 35 = some 1 := by kernel_rfl
theorem hb56 : hasBody Try.prog 56 = true := by kernel_rfl
theorem sb3 : (Try.prog.info? 3).map (fun i => (i.size, i.bytes)) = some (1, 8) := by kernel_rfl
theorem us35 : Try.prog.underlying 35 = some (.slice 3) := by kernel_rfl
theorem zc3 : zeroCells Try.prog 3 = some [.int .i64 0] := by kernel_rfl

theorem markTermS_c (xs : List (Int × Int)) (k : Int) (h : -9000000000000000000 ≤ k ∧ k + 2 * xs.length ≤ 9223372036854775807) : ACall Try.prog 24 [.rsl (INH, []) 2 0 xs.length none, .int .i64 k] [.osl 2 (tcells xs) xs.length none] (.int .i64 (k + 2 * xs.length)) [.osl 2 (tcells (mkT k xs.length)) xs.length none] := by
  refine ACall.intro Try.func24 rfl (N := 27) rfl (by decide) (by simp) ?_
  refine a_seq ?_
  refine a_region ?_
  refine r_val (v := .int _ _) (v_assign (.inl rfl) (noOwn_flat rfl)) rfl rfl (by decide) ?_
  refine r_nil ?_
  refine a_seq ?_
  refine a_seq ?_
  refine a_region ?_
  refine r_val (v := .int _ _) (v_assign (.inl rfl) (noOwn_flat rfl)) rfl rfl (by decide) ?_
  refine r_nil ?_
  refine a_block ?_
  refine a_loop (X := Nat) (fun i => look [(0, .rsl (INH, []) 2 0 xs.length none), (1, .int .i64 (k + 2 * (i : Nat))), (5, .int .i64 (i : Int)), (INH, .osl 2 (tcells (mkPart k xs i)) xs.length none)]) (fun i => i ≤ xs.length) (fun i => xs.length - i) 0 (ent_look ⟨Weak.of_eq rfl, Weak.of_eq (int_eq (by omega)), Weak.of_eq rfl, Weak.of_eq (osl_eq (by rw [mkPart_zero])), trivial⟩) (Nat.zero_le _) (fun i hG => ?_)
  refine a_seq ?_
  refine a_seq ?_
  refine a_region ?_
  refine r_val (v := .int _ _) (v_move (.inl rfl) (noOwn_flat rfl)) rfl rfl (by decide) ?_
  refine r_val (v := .rsl _ _ _ _ _) (v_move (.inl rfl) (noOwn_flat rfl)) rfl rfl (by decide) ?_
  refine r_val (v := .int _ _) (v_len_rsl sl25 (.inl rfl)) rfl rfl (by decide) ?_
  refine r_val (v := .bool _) (v_lss (.inl rfl) (.inl rfl)) rfl rfl (by decide) ?_
  refine r_nil ?_
  refine a_cond rfl (fun ht9 => ?_) (fun ht9 => ?_)
  ·
    skip
    refine a_skip ?_
    refine a_seq ?_
    refine a_block ?_
    refine a_seq ?_
    refine a_region ?_
    have hi : i < xs.length := (by simp at ht9; omega)
    have hlen : i * 2 + 1 < (tcells (mkPart k xs i)).length := tcells_len1 (by rw [mkPart_length (by omega)]; exact hi)
    have hq1 : i * 2 + 0 + 1 ≤ (tcells (mkPart k xs i)).length := (by omega)
    have hq2 : i * 2 + 1 + 1 ≤ ((tcells (mkPart k xs i)).set (i * 2 + 0) (.int .i64 (k + 2 * (i : Nat)))).length := (by rw [List.length_set]; omega)
    have hset : ((tcells (mkPart k xs i)).set (i * 2 + 0) (.int .i64 (k + 2 * (i : Nat)))).set (i * 2 + 1) (.int .i64 (k + 2 * (i : Nat) + 1)) = tcells (mkPart k xs (i + 1)) := (by rw [Nat.add_zero, tcells_set, ← mkPart_set hi])
    refine r_val (v := .rsl _ _ _ _ _) (v_move (.inl rfl) (noOwn_flat rfl)) rfl rfl (by decide) ?_
    refine r_val (v := .int _ _) (v_move (.inl rfl) (noOwn_flat rfl)) rfl rfl (by decide) ?_
    refine r_val (v := .int _ _) (v_move (.inl rfl) (noOwn_flat rfl)) rfl rfl (by decide) ?_
    refine r_val (v := .rp _ _) (v_indexAddr_rsl0 es25 (.inl rfl) (.inl rfl) (fun _ => by omega)) rfl rfl (by decide) ?_
    refine r_val (v := .rp _ _) (v_fieldAddr_rp fo54_0 (.inl rfl)) rfl rfl (by decide) ?_
    refine r_step rfl (o_store (v := .int _ _) (y' := .osl _ _ _ _) rfl rfl ta3 (.inl rfl) (.inl rfl) rfl rfl rfl rfl rfl rfl hq1 (by decide) rfl rfl) ?_
    refine r_nil ?_
    refine a_seq ?_
    refine a_region ?_
    refine r_val (v := .int _ _) (v_move (.inl rfl) (noOwn_flat rfl)) rfl rfl (by decide) ?_
    refine r_val (v := .int _ _) (v_add (.inl rfl) (.inl rfl) (fun _ => by omega)) rfl rfl (by decide) ?_
    refine r_val (v := .int _ _) (v_assign (.inl rfl) (noOwn_flat rfl)) rfl rfl (by decide) ?_
    refine r_nil ?_
    refine a_seq ?_
    refine a_region ?_
    refine r_val (v := .rsl _ _ _ _ _) (v_move (.inl rfl) (noOwn_flat rfl)) rfl rfl (by decide) ?_
    refine r_val (v := .int _ _) (v_move (.inl rfl) (noOwn_flat rfl)) rfl rfl (by decide) ?_
    refine r_val (v := .int _ _) (v_move (.inl rfl) (noOwn_flat rfl)) rfl rfl (by decide) ?_
    refine r_val (v := .rp _ _) (v_indexAddr_rsl0 es25 (.inl rfl) (.inl rfl) (fun _ => by omega)) rfl rfl (by decide) ?_
    refine r_val (v := .rp _ _) (v_fieldAddr_rp fo54_1 (.inl rfl)) rfl rfl (by decide) ?_
    refine r_step rfl (o_store (v := .int _ _) (y' := .osl _ _ _ _) rfl rfl ta3 (.inl rfl) (.inl rfl) rfl rfl rfl rfl rfl rfl hq2 (by decide) rfl (congrArg (fun c => AV.osl 2 c xs.length none) hset)) ?_
    refine r_nil ?_
    refine a_region ?_
    refine r_val (v := .int _ _) (v_move (.inl rfl) (noOwn_flat rfl)) rfl rfl (by decide) ?_
    refine r_val (v := .int _ _) (v_add (.inl rfl) (.inl rfl) (fun _ => by omega)) rfl rfl (by decide) ?_
    refine r_val (v := .int _ _) (v_assign (.inl rfl) (noOwn_flat rfl)) rfl rfl (by decide) ?_
    refine r_nil ?_
    refine a_region ?_
    refine r_val (v := .int _ _) (v_move (.inl rfl) (noOwn_flat rfl)) rfl rfl (by decide) ?_
    refine r_val (v := .int _ _) (v_add (.inl rfl) (.inl rfl) (fun _ => by omega)) rfl rfl (by decide) ?_
    refine r_val (v := .int _ _) (v_assign (.inl rfl) (noOwn_flat rfl)) rfl rfl (by decide) ?_
    refine r_nil ?_
    refine ⟨i + 1, ent_look ⟨Weak.of_eq rfl, Weak.of_eq (int_eq (by omega)), Weak.of_eq (int_eq (by omega)), Weak.of_eq rfl, trivial⟩, by omega, by omega⟩
  ·
    skip
    refine a_exit ?_
    refine a_seq ?_
    refine a_region ?_
    refine r_val (v := .int _ _) (v_move (.inl rfl) (noOwn_flat rfl)) rfl rfl (by decide) ?_
    refine r_val (v := .int _ _) (v_assign (.inl rfl) (noOwn_flat rfl)) rfl rfl (by decide) ?_
    refine r_nil ?_
    refine a_ret ?_
    refine ret1 Try.results24 (by decide) (by decide) (Weak.of_eq (int_eq ?_)) rfl (Leaves.one (Weak.of_eq (osl_eq (by simp at ht9; rw [mkPart_full (by omega)]))) rfl)
    simp at ht9; omega

theorem heldTermS_c (n : Nat) (k : Int) (h : -9000000000000000000 ≤ k ∧ k + 2 * n ≤ 9223372036854775807) : ACall Try.prog 25 [.sl (tcells (mkT k n)) n, .int .i64 k] [] (.int .i64 (k + 2 * n)) [] := by
  refine ACall.intro Try.func25 rfl (N := 31) rfl (by decide) (by simp) ?_
  refine a_seq ?_
  refine a_region ?_
  refine r_val (v := .int _ _) (v_assign (.inl rfl) (noOwn_flat rfl)) rfl rfl (by decide) ?_
  refine r_nil ?_
  refine a_seq ?_
  refine a_seq ?_
  refine a_region ?_
  refine r_val (v := .int _ _) (v_assign (.inl rfl) (noOwn_flat rfl)) rfl rfl (by decide) ?_
  refine r_nil ?_
  refine a_block ?_
  refine a_loop (X := Nat) (fun i => look [(0, .sl (tcells (mkT k n)) n), (1, .int .i64 (k + 2 * (i : Nat))), (5, .int .i64 (i : Int))]) (fun i => i ≤ n) (fun i => n - i) 0 (ent_look ⟨Weak.of_eq rfl, Weak.of_eq (int_eq (by omega)), Weak.of_eq rfl, trivial⟩) (Nat.zero_le _) (fun i hG => ?_)
  refine a_seq ?_
  refine a_seq ?_
  refine a_region ?_
  refine r_val (v := .int _ _) (v_move (.inl rfl) (noOwn_flat rfl)) rfl rfl (by decide) ?_
  refine r_val (v := .sl _ _) (v_move (.inl rfl) (noOwn_flat rfl)) rfl rfl (by decide) ?_
  refine r_val (v := .int _ _) (v_len_sl sl25 (.inl rfl)) rfl rfl (by decide) ?_
  refine r_val (v := .bool _) (v_lss (.inl rfl) (.inl rfl)) rfl rfl (by decide) ?_
  refine r_nil ?_
  refine a_cond rfl (fun ht9 => ?_) (fun ht9 => ?_)
  ·
    skip
    refine a_skip ?_
    refine a_seq ?_
    refine a_block ?_
    refine a_seq ?_
    refine a_seq ?_
    refine a_region ?_
    have hi : i < n := (by simp at ht9; omega)
    refine r_val (v := .sl _ _) (v_move (.inl rfl) (noOwn_flat rfl)) rfl rfl (by decide) ?_
    refine r_val (v := .int _ _) (v_move (.inl rfl) (noOwn_flat rfl)) rfl rfl (by decide) ?_
    refine r_val (v := .pp _ _) (v_indexAddr_sl es25 (.inl rfl) (.inl rfl) (fun _ => ⟨by omega, by omega, tcells_ne (i := i) (by rw [mkT_length]; exact hi)⟩)) rfl rfl (by decide) ?_
    refine r_val (v := .pp _ _) (v_fieldAddr_pp fo54_0 (.inl rfl)) rfl rfl (by decide) ?_
    refine r_val (v := .int .i64 (k + 2 * (i : Nat))) (v_load_pp ta3 (.inl rfl) (fun _ => tcells_get0 (i := i) (mkT_get hi)) rfl) rfl rfl (by decide) ?_
    refine r_val (v := .int _ _) (v_move (.inl rfl) (noOwn_flat rfl)) rfl rfl (by decide) ?_
    refine r_val (v := .bool _) (v_neq (.inl rfl) (.inl rfl)) rfl rfl (by decide) ?_
    refine r_nil ?_
    refine a_cond rfl (fun ht18 => ?_) (fun ht18 => ?_)
    ·
      skip
      refine a_seq ?_
      refine a_region ?_
      refine r_val (v := .int _ _) (v_assign (.inl rfl) (noOwn_flat rfl)) rfl rfl (by decide) ?_
      refine r_nil ?_
      refine a_ret ?_
      refine ret1 Try.results25 (by decide) (by decide) (Weak.of_eq (int_eq ?_)) rfl Leaves.nil
      exfalso; simp at ht18
    ·
      skip
      refine a_skip ?_
      refine a_seq ?_
      refine a_region ?_
      refine r_val (v := .int _ _) (v_move (.inl rfl) (noOwn_flat rfl)) rfl rfl (by decide) ?_
      refine r_val (v := .int _ _) (v_add (.inl rfl) (.inl rfl) (fun _ => by omega)) rfl rfl (by decide) ?_
      refine r_val (v := .int _ _) (v_assign (.inl rfl) (noOwn_flat rfl)) rfl rfl (by decide) ?_
      refine r_nil ?_
      refine a_seq ?_
      refine a_seq ?_
      refine a_region ?_
      refine r_val (v := .sl _ _) (v_move (.inl rfl) (noOwn_flat rfl)) rfl rfl (by decide) ?_
      refine r_val (v := .int _ _) (v_move (.inl rfl) (noOwn_flat rfl)) rfl rfl (by decide) ?_
      refine r_val (v := .pp _ _) (v_indexAddr_sl es25 (.inl rfl) (.inl rfl) (fun _ => ⟨by omega, by omega, tcells_ne (i := i) (by rw [mkT_length]; exact hi)⟩)) rfl rfl (by decide) ?_
      refine r_val (v := .pp _ _) (v_fieldAddr_pp fo54_1 (.inl rfl)) rfl rfl (by decide) ?_
      refine r_val (v := .int .i64 (k + 2 * (i : Nat) + 1)) (v_load_pp ta3 (.inl rfl) (fun _ => tcells_get1 (i := i) (mkT_get hi)) rfl) rfl rfl (by decide) ?_
      refine r_val (v := .int _ _) (v_move (.inl rfl) (noOwn_flat rfl)) rfl rfl (by decide) ?_
      refine r_val (v := .bool _) (v_neq (.inl rfl) (.inl rfl)) rfl rfl (by decide) ?_
      refine r_nil ?_
      refine a_cond rfl (fun ht27 => ?_) (fun ht27 => ?_)
      ·
        skip
        refine a_seq ?_
        refine a_region ?_
        refine r_val (v := .int _ _) (v_assign (.inl rfl) (noOwn_flat rfl)) rfl rfl (by decide) ?_
        refine r_nil ?_
        refine a_ret ?_
        refine ret1 Try.results25 (by decide) (by decide) (Weak.of_eq (int_eq ?_)) rfl Leaves.nil
        exfalso; simp at ht27
      ·
        skip
        refine a_skip ?_
        refine a_region ?_
        refine r_val (v := .int _ _) (v_move (.inl rfl) (noOwn_flat rfl)) rfl rfl (by decide) ?_
        refine r_val (v := .int _ _) (v_add (.inl rfl) (.inl rfl) (fun _ => by omega)) rfl rfl (by decide) ?_
        refine r_val (v := .int _ _) (v_assign (.inl rfl) (noOwn_flat rfl)) rfl rfl (by decide) ?_
        refine r_nil ?_
        refine a_region ?_
        refine r_val (v := .int _ _) (v_move (.inl rfl) (noOwn_flat rfl)) rfl rfl (by decide) ?_
        refine r_val (v := .int _ _) (v_add (.inl rfl) (.inl rfl) (fun _ => by omega)) rfl rfl (by decide) ?_
        refine r_val (v := .int _ _) (v_assign (.inl rfl) (noOwn_flat rfl)) rfl rfl (by decide) ?_
        refine r_nil ?_
        refine ⟨i + 1, ent_look ⟨Weak.of_eq rfl, Weak.of_eq (int_eq (by omega)), Weak.of_eq (int_eq (by omega)), trivial⟩, by omega, by omega⟩
  ·
    skip
    refine a_exit ?_
    refine a_seq ?_
    refine a_region ?_
    refine r_val (v := .int _ _) (v_move (.inl rfl) (noOwn_flat rfl)) rfl rfl (by decide) ?_
    refine r_val (v := .int _ _) (v_assign (.inl rfl) (noOwn_flat rfl)) rfl rfl (by decide) ?_
    refine r_nil ?_
    refine a_ret ?_
    refine ret1 Try.results25 (by decide) (by decide) (Weak.of_eq (int_eq ?_)) rfl Leaves.nil
    simp at ht9; omega

theorem l18Dense_c (p vars : Int) (xs : List (Int × Int)) (hp : prime p vars = true) (hg : goodL p vars xs = true) (hl : (xs.length : Int) ≤ 9223372036854775807) : ACall Try.prog 56 [.int .i64 vars, .sl (tcells xs) xs.length] [] (.osl 1 (icells (accp p (dn vars) xs)) (dn vars) none) [] := by
  have hp := prime_spec hp
  have hw := pow6 hp.2
  have hd := dn_le hp.2
  have hc := dn_cast vars
  refine ACall.intro Try.func56 rfl (N := 29) rfl (by decide) (by simp) ?_
  refine a_seq ?_
  refine a_region ?_
  refine r_val (v := .nils) (v_assign (.inl rfl) (noOwn_flat rfl)) rfl rfl (by decide) ?_
  refine r_nil ?_
  refine a_seq ?_
  refine a_region ?_
  refine r_val (v := .int _ _) (v_move (.inl rfl) (noOwn_flat rfl)) rfl rfl (by decide) ?_
  refine r_val (v := .int .i64 ((dn vars : Nat) : Int)) ((v_shl (.inl rfl) (.inl rfl) (fun _ => by omega)).cast (int_eq (by omega))) rfl rfl (by decide) ?_
  refine r_new (v := .osl _ _ _ _) (q_makeSlice us35 sb3 zc3 rfl (by decide) (.inl rfl) (.inl rfl) (fun _ => by omega)) rfl rfl (by decide) ?_
  refine r_val (v := .rsl _ _ _ _ _) (v_assign (.inl rfl) (noOwn_flat rfl)) rfl rfl (by decide) ?_
  refine r_pre (ent_reloc_sl (t := 5) rfl rfl) ?_
  refine r_nil ?_
  refine a_seq ?_
  refine a_seq ?_
  refine a_region ?_
  refine r_val (v := .int _ _) (v_assign (.inl rfl) (noOwn_flat rfl)) rfl rfl (by decide) ?_
  refine r_nil ?_
  refine a_block ?_
  refine a_loop (X := Nat) (fun i => look [(1, .sl (tcells xs) xs.length), (5, .osl 1 (icells (accp p (dn vars) (xs.take i))) (dn vars) (some (dn vars))), (6, .int .i64 (i : Int))]) (fun i => i ≤ xs.length) (fun i => xs.length - i) 0 (ent_look ⟨Weak.of_eq rfl, Weak.of_eq (osl_eq (by rw [List.take_zero, icells_rep]; rfl)), Weak.of_eq rfl, trivial⟩) (Nat.zero_le _) (fun i hG => ?_)
  refine a_seq ?_
  refine a_seq ?_
  refine a_region ?_
  refine r_val (v := .int _ _) (v_move (.inl rfl) (noOwn_flat rfl)) rfl rfl (by decide) ?_
  refine r_val (v := .sl _ _) (v_move (.inl rfl) (noOwn_flat rfl)) rfl rfl (by decide) ?_
  refine r_val (v := .int _ _) (v_len_sl sl25 (.inl rfl)) rfl rfl (by decide) ?_
  refine r_val (v := .bool _) (v_lss (.inl rfl) (.inl rfl)) rfl rfl (by decide) ?_
  refine r_nil ?_
  refine a_cond rfl (fun ht13 => ?_) (fun ht13 => ?_)
  ·
    skip
    refine a_skip ?_
    refine a_seq ?_
    refine a_block ?_
    refine a_region_tail (n := 12) mixed (by kernel_rfl) ?_
    have hi : i < xs.length := (by simp at ht13; omega)
    have hs := good_spec hg hi
    have hpl : (tm xs i).1.toNat * 1 + 1 ≤ (icells (accp p (dn vars) (xs.take i))).length := (by rw [icells_length, accp_length]; omega)
    refine t_val (v := .rsl _ _ _ _ _) (v_move (.inl rfl) (noOwn_flat rfl)) rfl rfl (by decide) (by kernel_rfl) ?_
    refine t_val (v := .sl _ _) (v_move (.inl rfl) (noOwn_flat rfl)) rfl rfl (by decide) (by kernel_rfl) ?_
    refine t_val (v := .int _ _) (v_move (.inl rfl) (noOwn_flat rfl)) rfl rfl (by decide) (by kernel_rfl) ?_
    refine t_val (v := .pp _ _) (v_indexAddr_sl es25 (.inl rfl) (.inl rfl) (fun _ => ⟨by omega, by omega, tcells_ne hi⟩)) rfl rfl (by decide) (by kernel_rfl) ?_
    refine t_val (v := .pp _ _) (v_fieldAddr_pp fo54_0 (.inl rfl)) rfl rfl (by decide) (by kernel_rfl) ?_
    refine t_val (v := .int .i64 (tm xs i).1) (v_load_pp ta3 (.inl rfl) (fun _ => tcells_get0 (i := i) (tm_get hi)) rfl) rfl rfl (by decide) (by kernel_rfl) ?_
    refine t_val (v := .sl _ _) (v_move (.inl rfl) (noOwn_flat rfl)) rfl rfl (by decide) (by kernel_rfl) ?_
    refine t_val (v := .int _ _) (v_move (.inl rfl) (noOwn_flat rfl)) rfl rfl (by decide) (by kernel_rfl) ?_
    refine t_val (v := .pp _ _) (v_indexAddr_sl es25 (.inl rfl) (.inl rfl) (fun _ => ⟨by omega, by omega, tcells_ne hi⟩)) rfl rfl (by decide) (by kernel_rfl) ?_
    refine t_val (v := .pp _ _) (v_fieldAddr_pp fo54_1 (.inl rfl)) rfl rfl (by decide) (by kernel_rfl) ?_
    refine t_val (v := .int .i64 (tm xs i).2) (v_load_pp ta3 (.inl rfl) (fun _ => tcells_get1 (i := i) (tm_get hi)) rfl) rfl rfl (by decide) (by kernel_rfl) ?_
    refine t_val (v := .rp _ _) (v_indexAddr_rsl0 es35 (.inl rfl) (.inl rfl) (fun _ => by omega)) rfl rfl (by decide) (by kernel_rfl) ?_
    refine t_nil ?_
    refine r_step rfl (o_store (v := .int _ _) (y' := .osl _ _ _ _) rfl rfl ta3 (.inl rfl) (.inl rfl) rfl rfl rfl rfl rfl rfl hpl (by decide) rfl (congrArg (fun c => AV.osl 1 c (dn vars) (some (dn vars))) ((congrArg (fun j => (icells _).set j _) (Nat.mul_one _)).trans (icells_set.trans (congrArg icells (good_set hg hi)))))) ?_
    refine r_nil ?_
    refine a_region ?_
    refine r_val (v := .int _ _) (v_move (.inl rfl) (noOwn_flat rfl)) rfl rfl (by decide) ?_
    refine r_val (v := .int _ _) (v_add (.inl rfl) (.inl rfl) (fun _ => by omega)) rfl rfl (by decide) ?_
    refine r_val (v := .int _ _) (v_assign (.inl rfl) (noOwn_flat rfl)) rfl rfl (by decide) ?_
    refine r_nil ?_
    refine ⟨i + 1, ent_look ⟨Weak.of_eq rfl, Weak.of_eq rfl, Weak.of_eq (int_eq (by omega)), trivial⟩, by omega, by omega⟩
  ·
    skip
    refine a_exit ?_
    refine a_seq ?_
    refine a_region ?_
    refine r_val (v := .rsl _ _ _ _ _) (v_move (.inl rfl) (noOwn_flat rfl)) rfl rfl (by decide) ?_
    refine r_val (v := .rsl _ _ _ _ _) (v_assign (.inl rfl) (noOwn_flat rfl)) rfl rfl (by decide) ?_
    refine r_pre (ent_reloc_sl (t := 4) rfl rfl) ?_
    refine r_nil ?_
    refine a_ret ?_
    refine ret1 Try.results56 (by decide) (by decide) (Weak.osl ?_ ?_) rfl Leaves.nil
    · simp at ht13; rw [List.take_of_length_le (by omega)]
    · rfl

theorem sCoeffAt_c (p vars : Int) (xs : List (Int × Int)) (m : Int) (hl : (xs.length : Int) ≤ 9223372036854775807) : ACall Try.prog 20 [.int .i64 p, .int .i64 vars, .sl (tcells xs) xs.length, .int .i64 m] [] (.tup [.int .i64 (if prime p vars && goodL p vars xs && inR m 0 (2 ^ vars.toNat - 1) then gd (accp p (dn vars) xs) m.toNat else 0), .bool (prime p vars && goodL p vars xs && inR m 0 (2 ^ vars.toNat - 1))]) [] := by
  refine ACall.intro Try.func20 rfl (N := 29) rfl (by decide) (by simp) ?_
  refine a_seq ?_
  refine a_region ?_
  refine r_val (v := .int _ _) (v_assign (.inl rfl) (noOwn_flat rfl)) rfl rfl (by decide) ?_
  refine r_val (v := .bool _) (v_assign (.inl rfl) (noOwn_flat rfl)) rfl rfl (by decide) ?_
  refine r_nil ?_
  refine a_seq ?_
  refine a_seq ?_
  refine a_region ?_
  refine r_val (v := .int _ _) (v_move (.inl rfl) (noOwn_flat rfl)) rfl rfl (by decide) ?_
  refine r_val (v := .int _ _) (v_move (.inl rfl) (noOwn_flat rfl)) rfl rfl (by decide) ?_
  refine r_val (v := .sl _ _) (v_move (.inl rfl) (noOwn_flat rfl)) rfl rfl (by decide) ?_
  refine r_new (v := .bool _) (q_call (vs := [.int _ _, .int _ _, .sl _ _]) (args := [.int .i64 _, .int .i64 _, .sl _ _]) hb50 ⟨.inl rfl, .inl rfl, .inl rfl, trivial⟩ rfl (fun hA => l18Good_c _ _ _ (by omega)) rfl rfl) rfl rfl (by decide) ?_
  refine r_val (v := .bool _) (v_not (.inl rfl)) rfl rfl (by decide) ?_
  refine r_val (v := .bool _) (v_move (.inl rfl) (noOwn_flat rfl)) rfl rfl (by decide) ?_
  refine r_gval (v := .int _ _) (v_move (.inl rfl) (noOwn_flat rfl)) rfl rfl rfl (by decide) (.inl ⟨_, rfl, rfl⟩) rfl (by decide) ?_
  refine r_gval (v := .int _ _) (v_move (.inl rfl) (noOwn_flat rfl)) rfl rfl rfl (by decide) (.inl ⟨_, rfl, rfl⟩) rfl (by decide) ?_
  refine r_gval (v := .int .i64 (1 * 2 ^ vars.toNat)) (v_shl (.inl rfl) (.inr ⟨_, rfl, fun h => h⟩) (fun hA => by have hp := prime_spec (p := p) (vars := vars) (by simp_all); have hw := pow6 hp.2; omega)) rfl rfl rfl (by decide) (.inl ⟨_, rfl, rfl⟩) rfl (by decide) ?_
  refine r_gval (v := .int _ _) (v_sub (.inr ⟨_, rfl, fun h => h⟩) (.inl rfl) (fun hA => by have hp := prime_spec (p := p) (vars := vars) (by simp_all); have hw := pow6 hp.2; omega)) rfl rfl rfl (by decide) (.inl ⟨_, rfl, rfl⟩) rfl (by decide) ?_
  refine r_guard (v := .bool _) (q_call (vs := [.int _ _, .int _ _, .int _ _]) (args := [.int .i64 _, .int .i64 _, .int .i64 _]) hb55 ⟨.inr ⟨_, rfl, fun h => h⟩, .inl rfl, .inr ⟨_, rfl, fun h => h⟩, trivial⟩ rfl (fun hA => l1In_c _ _ _) rfl rfl) rfl rfl rfl (by decide) (.inl ⟨_, rfl, rfl⟩) rfl (by decide) ?_
  refine r_gval (v := .bool _) (v_not (.inr ⟨_, rfl, fun h => h⟩)) rfl rfl rfl (by decide) (.inl ⟨_, rfl, rfl⟩) rfl (by decide) ?_
  refine r_val (v := .bool _) (v_pick (.inl rfl) (.inl rfl) (.inr ⟨_, rfl, fun h h2 => by simp_all⟩)) rfl rfl (by decide) ?_
  refine r_nil ?_
  refine a_cond rfl (fun ht22 => ?_) (fun ht22 => ?_)
  ·
    skip
    refine a_seq ?_
    refine a_region ?_
    refine r_val (v := .int _ _) (v_assign (.inl rfl) (noOwn_flat rfl)) rfl rfl (by decide) ?_
    refine r_val (v := .bool _) (v_assign (.inl rfl) (noOwn_flat rfl)) rfl rfl (by decide) ?_
    refine r_nil ?_
    refine a_ret ?_
    refine retL (rs := [.tmp 8, .tmp 9]) [(8, _), (9, _)] ⟨Weak.rfl, Weak.rfl, trivial⟩ rfl Try.results20 (by decide) ⟨by decide, by decide, rfl⟩ (by decide) (by decide) (l2_eq (int_eq ?_) (bool_eq ?_)) rfl
    all_goals (rw [Int.one_mul] at ht22; cases h1 : prime p vars <;> cases h2 : goodL p vars xs <;> simp_all)
  ·
    skip
    refine a_skip ?_
    refine a_seq ?_
    refine a_region ?_
    have hpp : prime p vars = true := (by simp_all)
    have hg : goodL p vars xs = true := (by simp_all)
    have hp := prime_spec hpp
    have hw := pow6 hp.2
    have hd := dn_le hp.2
    have hc := dn_cast vars
    have hm : 0 ≤ m ∧ m < 2 ^ vars.toNat := (by rw [Int.one_mul] at ht22; simp_all [inR]; omega)
    refine r_val (v := .int _ _) (v_move (.inl rfl) (noOwn_flat rfl)) rfl rfl (by decide) ?_
    refine r_val (v := .sl _ _) (v_move (.inl rfl) (noOwn_flat rfl)) rfl rfl (by decide) ?_
    refine r_new (v := .osl _ _ _ _) (q_call (vs := [.int _ _, .sl _ _]) (args := [.int .i64 _, .sl _ _]) hb56 ⟨.inl rfl, .inl rfl, trivial⟩ rfl (fun hA => l18Dense_c p _ _ (by simp_all) (by simp_all) (by omega)) (ic_noSh _) (ic_noRef _)) rfl rfl (by decide) ?_
    refine r_val (v := .int _ _) (v_move (.inl rfl) (noOwn_flat rfl)) rfl rfl (by decide) ?_
    refine r_val (v := .rp _ _) (v_indexAddr_rsl0 es35 (.inl rfl) (.inl rfl) (fun _ => by omega)) rfl rfl (by decide) ?_
    refine r_val (v := .int .i64 (gd (accp p (dn vars) xs) m.toNat)) (v_load_rp1 ta3 (.inl rfl) rfl (fun _ => by rw [Nat.mul_one]; exact icells_get (gd_get (by rw [accp_length]; omega))) rfl) rfl rfl (by decide) ?_
    refine r_val (v := .int _ _) (v_assign (.inl rfl) (noOwn_flat rfl)) rfl rfl (by decide) ?_
    refine r_val (v := .bool _) (v_assign (.inl rfl) (noOwn_flat rfl)) rfl rfl (by decide) ?_
    refine r_nil ?_
    refine a_ret ?_
    refine retL (rs := [.tmp 8, .tmp 9]) [(8, _), (9, _)] ⟨Weak.rfl, Weak.rfl, trivial⟩ rfl Try.results20 (by decide) ⟨by decide, by decide, rfl⟩ (by decide) (by decide) (l2_eq (int_eq ?_) (bool_eq ?_)) rfl
    all_goals (rw [Int.one_mul] at ht22; simp_all)
end Go.Av
namespace Go.Av
open Go Go.Proofs
set_option maxRecDepth 10000
theorem ap25 : appTy Try.prog 25 = some (2, 16) := by kernel_rfl
theorem es69 : elemSize Try.prog 69 = some 1 := by kernel_rfl
theorem hb73 : hasBody Try.prog 73 = true := by kernel_rfl
theorem lt25 : litTy Try.prog 25 = some (2, [.int .i64 0, .int .i64 0]) := by kernel_rfl
theorem sl35 : isSlice Try.prog 35 = true := by kernel_rfl
theorem sl69 : isSlice Try.prog 69 = true := by kernel_rfl
theorem sp54 : structPl Try.prog 54 = some ([.int .i64 0, .int .i64 0], [(0, 1), (1, 1)]) := by kernel_rfl
theorem us69 : Try.prog.underlying 69 = some (.slice 3) := by kernel_rfl

theorem zero_c (p vars : Int) (hp : 0 ≤ vars ∧ vars ≤ 6) : ACall Try.prog 73 [.agg [.int .i64 p, .int .i64 vars]] [] (.osl 1 (icells (List.replicate (dn vars) 0)) (dn vars) none) [] := by
  have hw := pow6 hp
  have hd := dn_le hp
  have hc := dn_cast vars
  refine ACall.intro Try.func73 rfl (N := 7) rfl (by decide) (by simp) ?_
  refine a_seq ?_
  refine a_region ?_
  refine r_new (v := .op [.int _ _, .int _ _]) (q_box (.inl rfl) rfl rfl) rfl rfl (by decide) ?_
  refine r_val (v := .nils) (v_assign (.inl rfl) (noOwn_flat rfl)) rfl rfl (by decide) ?_
  refine r_nil ?_
  refine a_seq ?_
  refine a_region ?_
  refine r_val (v := .rp _ _) (v_fieldAddr_rp fo58_1 (.inl rfl)) rfl rfl (by decide) ?_
  refine r_val (v := .int _ _) (v_load_rp1 ta3 (.inl rfl) rfl (fun _ => rfl) rfl) rfl rfl (by decide) ?_
  refine r_val (v := .int .i64 ((dn vars : Nat) : Int)) ((v_shl (.inl rfl) (.inl rfl) (fun _ => by omega)).cast (int_eq (by omega))) rfl rfl (by decide) ?_
  refine r_new (v := .osl _ _ _ _) (q_makeSlice us69 sb3 zc3 rfl (by decide) (.inl rfl) (.inl rfl) (fun _ => by omega)) rfl rfl (by decide) ?_
  refine r_val (v := .rsl _ _ _ _ _) (v_assign (.inl rfl) (noOwn_flat rfl)) rfl rfl (by decide) ?_
  refine r_pre (ent_reloc_sl (t := 2) rfl rfl) ?_
  refine r_nil ?_
  refine a_ret ?_
  refine ret1 Try.results73 (by decide) (by decide) (Weak.osl ?_ ?_) rfl Leaves.nil
  · exact icells_rep _
  · rfl

theorem dense_c (p vars : Int) (xs : List (Int × Int)) (hp : prime p vars = true) (hl : (xs.length : Int) ≤ 9223372036854775807) (h : ∀ i, i < xs.length → 0 ≤ (tm xs i).1 ∧ (tm xs i).1 < 2 ^ vars.toNat ∧ 0 ≤ (tm xs i).2 ∧ (tm xs i).2 < p) : ACall Try.prog 64 [.agg [.int .i64 p, .int .i64 vars], .sl (tcells xs) xs.length] [] (.osl 1 (icells (accp p (dn vars) xs)) (dn vars) none) [] := by
  have hp := prime_spec hp
  have hw := pow6 hp.2
  have hd := dn_le hp.2
  have hc := dn_cast vars
  refine ACall.intro Try.func64 rfl (N := 33) rfl (by decide) (by simp) ?_
  refine a_seq ?_
  refine a_region ?_
  refine r_new (v := .op [.int _ _, .int _ _]) (q_box (.inl rfl) rfl rfl) rfl rfl (by decide) ?_
  refine r_val (v := .nils) (v_assign (.inl rfl) (noOwn_flat rfl)) rfl rfl (by decide) ?_
  refine r_nil ?_
  refine a_seq ?_
  refine a_region ?_
  refine r_val (v := .agg [.int _ _, .int _ _]) (v_load_rpa1 ta58 (.inl rfl) rfl rfl (fun _ => rfl) rfl) rfl rfl (by decide) ?_
  refine r_new (v := .osl _ _ _ _) (q_call (vs := [.agg [.int _ _, .int _ _]]) (args := [.agg [.int .i64 _, .int .i64 _]]) hb73 ⟨.inl rfl, trivial⟩ rfl (fun hA => zero_c _ _ (by omega)) (ic_noSh _) (ic_noRef _)) rfl rfl (by decide) ?_
  refine r_val (v := .rsl _ _ _ _ _) (v_assign (.inl rfl) (noOwn_flat rfl)) rfl rfl (by decide) ?_
  refine r_pre (ent_reloc_sl (t := 5) rfl rfl) ?_
  refine r_nil ?_
  refine a_seq ?_
  refine a_seq ?_
  refine a_region ?_
  refine r_val (v := .sl _ _) (v_move (.inl rfl) (noOwn_flat rfl)) rfl rfl (by decide) ?_
  refine r_val (v := .int _ _) (v_len_sl sl25 (.inl rfl)) rfl rfl (by decide) ?_
  refine r_val (v := .int _ _) (v_move (.inl rfl) (noOwn_flat rfl)) rfl rfl (by decide) ?_
  refine r_nil ?_
  refine a_block ?_
  refine a_loop (X := Nat) (fun i => look [(2, .op [.int .i64 p, .int .i64 vars]), (5, .osl 1 (icells (accp p (dn vars) (xs.take i))) (dn vars) none), (10, .sl (tcells xs) xs.length), (11, .int .i64 (xs.length : Int)), (12, .int .i64 (i : Int))]) (fun i => i ≤ xs.length) (fun i => xs.length - i) 0 (ent_look ⟨Weak.of_eq rfl, Weak.of_eq rfl, Weak.of_eq rfl, Weak.of_eq rfl, Weak.of_eq rfl, trivial⟩) (Nat.zero_le _) (fun i hG => ?_)
  refine a_seq ?_
  refine a_region ?_
  refine r_val (v := .bool _) (v_lss (.inl rfl) (.inl rfl)) rfl rfl (by decide) ?_
  refine r_nil ?_
  refine a_seq ?_
  refine a_cond rfl (fun ht13 => ?_) (fun ht13 => ?_)
  ·
    skip
    refine a_skip ?_
    refine a_seq ?_
    refine a_block ?_
    refine a_seq ?_
    refine a_region ?_
    have hi : i < xs.length := (by simp at ht13; omega)
    have hs := h i hi
    have hb := accp_bd (p := p) (by omega) (dn vars) (xs.take i) (tm xs i).1.toNat
    have hpl : (tm xs i).1.toNat * 1 + 1 ≤ (icells (accp p (dn vars) (xs.take i))).length := (by rw [icells_length, accp_length]; omega)
    have hset : (icells (accp p (dn vars) (xs.take i))).set ((tm xs i).1.toNat * 1) (.int .i64 ((gd (accp p (dn vars) (xs.take i)) (tm xs i).1.toNat + (tm xs i).2) % p)) = icells (accp p (dn vars) (xs.take (i + 1))) := (by rw [Nat.mul_one, icells_set, accp_step hi]; rfl)
    refine r_val (v := .pp _ _) (v_indexAddr_sl es25 (.inl rfl) (.inl rfl) (fun _ => ⟨by omega, by omega, tcells_ne hi⟩)) rfl rfl (by decide) ?_
    refine r_val (v := .agg [.int .i64 (tm xs i).1, .int .i64 (tm xs i).2]) (v_load_ppa1 ta54 (.inl rfl) rfl (fun _ => tcells_two (tm_get hi)) rfl) rfl rfl (by decide) ?_
    refine r_new (v := .op [.int _ _, .int _ _]) (q_alloc zc54) rfl rfl (by decide) ?_
    refine r_step rfl (o_store (v := .agg [.int _ _, .int _ _]) (y' := .op [.int _ _, .int _ _]) rfl rfl ta54 (.inl rfl) (.inl rfl) rfl rfl rfl rfl rfl rfl (Nat.le_of_ble_eq_true rfl) (by decide) rfl rfl) ?_
    refine r_nil ?_
    refine a_region_tail (n := 15) mixed (by kernel_rfl) ?_
    refine t_val (v := .rsl _ _ _ _ _) (v_move (.inl rfl) (noOwn_flat rfl)) rfl rfl (by decide) (by kernel_rfl) ?_
    refine t_val (v := .rp _ _) (v_fieldAddr_rp fo54_0 (.inl rfl)) rfl rfl (by decide) (by kernel_rfl) ?_
    refine t_val (v := .int _ _) (v_load_rp1 ta3 (.inl rfl) rfl (fun _ => rfl) rfl) rfl rfl (by decide) (by kernel_rfl) ?_
    refine t_val (v := .rsl _ _ _ _ _) (v_move (.inl rfl) (noOwn_flat rfl)) rfl rfl (by decide) (by kernel_rfl) ?_
    refine t_val (v := .rp _ _) (v_fieldAddr_rp fo54_0 (.inl rfl)) rfl rfl (by decide) (by kernel_rfl) ?_
    refine t_val (v := .int _ _) (v_load_rp1 ta3 (.inl rfl) rfl (fun _ => rfl) rfl) rfl rfl (by decide) (by kernel_rfl) ?_
    refine t_val (v := .rp _ _) (v_indexAddr_rsl0 es69 (.inl rfl) (.inl rfl) (fun _ => by omega)) rfl rfl (by decide) (by kernel_rfl) ?_
    refine t_val (v := .int .i64 (gd (accp p (dn vars) (xs.take i)) (tm xs i).1.toNat)) (v_load_rp1 ta3 (.inl rfl) rfl (fun _ => by rw [Nat.mul_one]; exact icells_get (gd_get (by rw [accp_length]; omega))) rfl) rfl rfl (by decide) (by kernel_rfl) ?_
    refine t_val (v := .rp _ _) (v_fieldAddr_rp fo54_1 (.inl rfl)) rfl rfl (by decide) (by kernel_rfl) ?_
    refine t_val (v := .int _ _) (v_load_rp1 ta3 (.inl rfl) rfl (fun _ => rfl) rfl) rfl rfl (by decide) (by kernel_rfl) ?_
    refine t_val (v := .int _ _) (v_add (.inl rfl) (.inl rfl) (fun _ => by omega)) rfl rfl (by decide) (by kernel_rfl) ?_
    refine t_val (v := .rp _ _) (v_fieldAddr_rp fo58_0 (.inl rfl)) rfl rfl (by decide) (by kernel_rfl) ?_
    refine t_val (v := .int _ _) (v_load_rp1 ta3 (.inl rfl) rfl (fun _ => rfl) rfl) rfl rfl (by decide) (by kernel_rfl) ?_
    refine t_val (v := .int _ _) (v_rem (.inl rfl) (.inl rfl) (fun _ => by omega)) rfl rfl (by decide) (by kernel_rfl) ?_
    refine t_val (v := .rp _ _) (v_indexAddr_rsl0 es69 (.inl rfl) (.inl rfl) (fun _ => by omega)) rfl rfl (by decide) (by kernel_rfl) ?_
    refine t_nil ?_
    refine r_step rfl (o_store (v := .int _ _) (y' := .osl _ _ _ _) rfl rfl ta3 (.inl rfl) (.inl rfl) rfl rfl rfl rfl rfl rfl hpl (by decide) rfl (congrArg (fun c => AV.osl 1 c (dn vars) none) hset)) ?_
    refine r_nil ?_
    refine a_region ?_
    refine r_val (v := .int _ _) (v_add (.inl rfl) (.inl rfl) (fun _ => by omega)) rfl rfl (by decide) ?_
    refine r_val (v := .int _ _) (v_move (.inl rfl) (noOwn_flat rfl)) rfl rfl (by decide) ?_
    refine r_nil ?_
    refine ⟨i + 1, ent_look ⟨Weak.of_eq rfl, Weak.of_eq rfl, Weak.of_eq rfl, Weak.of_eq rfl, Weak.of_eq (int_eq (by omega)), trivial⟩, by omega, by omega⟩
  ·
    skip
    refine a_exit ?_
    refine a_seq ?_
    refine a_region ?_
    refine r_val (v := .rsl _ _ _ _ _) (v_move (.inl rfl) (noOwn_flat rfl)) rfl rfl (by decide) ?_
    refine r_val (v := .rsl _ _ _ _ _) (v_assign (.inl rfl) (noOwn_flat rfl)) rfl rfl (by decide) ?_
    refine r_pre (ent_reloc_sl (t := 4) rfl rfl) ?_
    refine r_nil ?_
    refine a_ret ?_
    refine ret1 Try.results64 (by decide) (by decide) (Weak.osl ?_ ?_) rfl Leaves.nil
    · simp at ht13; rw [List.take_of_length_le (by omega)]
    · rfl

theorem l18Sparse_c (p : Int) (all : List Int) (n : Nat) (h : 1 ≤ p ∧ all.length = n ∧ n ≤ 4096 ∧ ∀ i, 0 ≤ gd all i) : ACall Try.prog 60 [.int .i64 p, .sl (icells all) n] [] (.osl 2 (tcells (trm (modp p all))) (trm (modp p all)).length none) [] := by
  refine ACall.intro Try.func60 rfl (N := 30) rfl (by decide) (by simp) ?_
  refine a_seq ?_
  refine a_region ?_
  refine r_val (v := .nils) (v_assign (.inl rfl) (noOwn_flat rfl)) rfl rfl (by decide) ?_
  refine r_nil ?_
  refine a_seq ?_
  refine a_region ?_
  refine r_new (v := .osl _ _ _ _) (q_sliceLit (n := 0) (parts := []) lt25 rfl rfl rfl rfl) rfl rfl (by decide) ?_
  refine r_val (v := .rsl _ _ _ _ _) (v_assign (.inl rfl) (noOwn_flat rfl)) rfl rfl (by decide) ?_
  refine r_pre (ent_reloc_sl (t := 5) rfl rfl) ?_
  refine r_nil ?_
  refine a_seq ?_
  refine a_seq ?_
  refine a_region ?_
  refine r_val (v := .int _ _) (v_assign (.inl rfl) (noOwn_flat rfl)) rfl rfl (by decide) ?_
  refine r_nil ?_
  refine a_block ?_
  refine a_loop (X := Nat) (fun i => look [(0, .int .i64 p), (1, .sl (icells all) n), (5, .osl 2 (tcells (trmTo (modp p all) i)) (trmTo (modp p all) i).length none), (6, .int .i64 (i : Int))]) (fun i => i ≤ n) (fun i => n - i) 0 (ent_look ⟨Weak.of_eq rfl, Weak.of_eq rfl, Weak.osl rfl rfl, Weak.of_eq rfl, trivial⟩) (Nat.zero_le _) (fun i hG => ?_)
  refine a_seq ?_
  refine a_seq ?_
  refine a_region ?_
  refine r_val (v := .int _ _) (v_move (.inl rfl) (noOwn_flat rfl)) rfl rfl (by decide) ?_
  refine r_val (v := .sl _ _) (v_move (.inl rfl) (noOwn_flat rfl)) rfl rfl (by decide) ?_
  refine r_val (v := .int _ _) (v_len_sl sl35 (.inl rfl)) rfl rfl (by decide) ?_
  refine r_val (v := .bool _) (v_lss (.inl rfl) (.inl rfl)) rfl rfl (by decide) ?_
  refine r_nil ?_
  refine a_cond rfl (fun ht12 => ?_) (fun ht12 => ?_)
  ·
    skip
    refine a_skip ?_
    refine a_seq ?_
    refine a_block ?_
    refine a_seq ?_
    refine a_region ?_
    have hi : i < all.length := (by simp at ht12; omega)
    have hn := h.2.2.2 i
    have hlen := trmTo_len (modp p all) i
    refine r_val (v := .sl _ _) (v_move (.inl rfl) (noOwn_flat rfl)) rfl rfl (by decide) ?_
    refine r_val (v := .int _ _) (v_move (.inl rfl) (noOwn_flat rfl)) rfl rfl (by decide) ?_
    refine r_val (v := .pp _ _) (v_indexAddr_sl es35 (.inl rfl) (.inl rfl) (fun _ => ⟨by omega, by omega, icells_ne hi⟩)) rfl rfl (by decide) ?_
    refine r_val (v := .int .i64 (gd all i)) (v_load_pp ta3 (.inl rfl) (fun _ => by rw [Nat.mul_one]; exact icells_get (gd_get hi)) rfl) rfl rfl (by decide) ?_
    refine r_val (v := .int _ _) (v_move (.inl rfl) (noOwn_flat rfl)) rfl rfl (by decide) ?_
    refine r_val (v := .int _ _) (v_rem (.inl rfl) (.inl rfl) (fun _ => by omega)) rfl rfl (by decide) ?_
    refine r_val (v := .int _ _) (v_assign (.inl rfl) (noOwn_flat rfl)) rfl rfl (by decide) ?_
    refine r_nil ?_
    refine a_seq ?_
    refine a_region ?_
    refine r_val (v := .int _ _) (v_move (.inl rfl) (noOwn_flat rfl)) rfl rfl (by decide) ?_
    refine r_val (v := .bool _) (v_neq (.inl rfl) (.inl rfl)) rfl rfl (by decide) ?_
    refine r_nil ?_
    refine a_cond rfl (fun ht22 => ?_) (fun ht22 => ?_)
    ·
      skip
      refine a_region ?_
      refine r_val (v := .rsl _ _ _ _ _) (v_move (.inl rfl) (noOwn_flat rfl)) rfl rfl (by decide) ?_
      refine r_val (v := .int _ _) (v_move (.inl rfl) (noOwn_flat rfl)) rfl rfl (by decide) ?_
      refine r_val (v := .int _ _) (v_move (.inl rfl) (noOwn_flat rfl)) rfl rfl (by decide) ?_
      refine r_val (v := .agg [.int _ _, .int _ _]) (v_build sp54 rfl rfl) rfl rfl (by decide) ?_
      refine r_new (v := .osl _ _ _ _) (q_sliceLit (n := 1) (parts := [(0, .tmp 26)]) lt25 rfl rfl rfl rfl) rfl rfl (by decide) ?_
      refine r_pre (ent_reloc_sl (t := 23) rfl rfl) ?_
      refine r_step rfl (o_append rfl ap25 rfl (by decide) (by decide) rfl (src_lit (.inl rfl) rfl rfl rfl) rfl (by rw [tcells_length]) (by omega)) ?_
      refine r_val (v := .rsl _ _ _ _ _) (v_assign (.inl rfl) (noOwn_flat rfl)) rfl rfl (by decide) ?_
      refine r_pre (ent_reloc_sl (t := 5) rfl rfl) ?_
      refine r_nil ?_
      refine a_region ?_
      refine r_val (v := .int _ _) (v_move (.inl rfl) (noOwn_flat rfl)) rfl rfl (by decide) ?_
      refine r_val (v := .int _ _) (v_add (.inl rfl) (.inl rfl) (fun _ => by omega)) rfl rfl (by decide) ?_
      refine r_val (v := .int _ _) (v_assign (.inl rfl) (noOwn_flat rfl)) rfl rfl (by decide) ?_
      refine r_nil ?_
      have hne : gd (modp p all) i ≠ 0 := (by rw [gd_modp]; simpa using ht22)
      have hm := trmTo_more hne
      refine ⟨i + 1, ent_look ⟨Weak.of_eq rfl, Weak.of_eq rfl, Weak.osl (tcells_app.trans (by rw [hm, gd_modp])) (by rw [hm]; simp), Weak.of_eq (int_eq (by omega)), trivial⟩, by omega, by omega⟩
    ·
      skip
      refine a_skip ?_
      refine a_region ?_
      refine r_val (v := .int _ _) (v_move (.inl rfl) (noOwn_flat rfl)) rfl rfl (by decide) ?_
      refine r_val (v := .int _ _) (v_add (.inl rfl) (.inl rfl) (fun _ => by omega)) rfl rfl (by decide) ?_
      refine r_val (v := .int _ _) (v_assign (.inl rfl) (noOwn_flat rfl)) rfl rfl (by decide) ?_
      refine r_nil ?_
      have hm := trmTo_skip (d := modp p all) (i := i) (by rw [gd_modp]; simpa using ht22)
      refine ⟨i + 1, ent_look ⟨Weak.of_eq rfl, Weak.of_eq rfl, Weak.osl (by rw [hm]) (by rw [hm]), Weak.of_eq (int_eq (by omega)), trivial⟩, by omega, by omega⟩
  ·
    skip
    refine a_exit ?_
    refine a_seq ?_
    refine a_region ?_
    refine r_val (v := .rsl _ _ _ _ _) (v_move (.inl rfl) (noOwn_flat rfl)) rfl rfl (by decide) ?_
    refine r_val (v := .rsl _ _ _ _ _) (v_assign (.inl rfl) (noOwn_flat rfl)) rfl rfl (by decide) ?_
    refine r_pre (ent_reloc_sl (t := 4) rfl rfl) ?_
    refine r_nil ?_
    refine a_ret ?_
    refine ret1 Try.results60 (by decide) (by decide) (Weak.osl ?_ ?_) rfl Leaves.nil
    · simp at ht12; unfold trm; rw [modp_length, show i = all.length by omega]
    · simp at ht12; unfold trm; rw [modp_length, show i = all.length by omega]

theorem terms_c (d : List Int) (n : Nat) (h : d.length = n ∧ n ≤ 4096) : ACall Try.prog 65 [.sl (icells d) n] [] (.osl 2 (tcells (trm d)) (trm d).length none) [] := by
  refine ACall.intro Try.func65 rfl (N := 23) rfl (by decide) (by simp) ?_
  refine a_seq ?_
  refine a_region ?_
  refine r_val (v := .nils) (v_assign (.inl rfl) (noOwn_flat rfl)) rfl rfl (by decide) ?_
  refine r_nil ?_
  refine a_seq ?_
  refine a_region ?_
  refine r_val (v := .nils) (v_assign (.inl rfl) (noOwn_flat rfl)) rfl rfl (by decide) ?_
  refine r_nil ?_
  refine a_seq ?_
  refine a_seq ?_
  refine a_region ?_
  refine r_val (v := .sl _ _) (v_move (.inl rfl) (noOwn_flat rfl)) rfl rfl (by decide) ?_
  refine r_val (v := .int _ _) (v_len_sl sl69 (.inl rfl)) rfl rfl (by decide) ?_
  refine r_val (v := .int _ _) (v_move (.inl rfl) (noOwn_flat rfl)) rfl rfl (by decide) ?_
  refine r_nil ?_
  refine a_block ?_
  refine a_pre (ent_nil (t := 3) (sz := 2) (cap := none) (.inl rfl) (fun _ h => by cases h)) ?_
  refine a_loop (X := Nat) (fun i => look [(3, .osl 2 (tcells (trmTo d i)) (trmTo d i).length none), (6, .sl (icells d) n), (7, .int .i64 (n : Int)), (8, .int .i64 (i : Int))]) (fun i => i ≤ n) (fun i => n - i) 0 (ent_look ⟨Weak.osl rfl rfl, Weak.of_eq rfl, Weak.of_eq rfl, Weak.of_eq rfl, trivial⟩) (Nat.zero_le _) (fun i hG => ?_)
  refine a_seq ?_
  refine a_region ?_
  refine r_val (v := .bool _) (v_lss (.inl rfl) (.inl rfl)) rfl rfl (by decide) ?_
  refine r_nil ?_
  refine a_seq ?_
  refine a_cond rfl (fun ht9 => ?_) (fun ht9 => ?_)
  ·
    skip
    refine a_skip ?_
    refine a_seq ?_
    refine a_block ?_
    refine a_seq ?_
    refine a_region ?_
    have hi : i < d.length := (by simp at ht9; omega)
    have hlen := trmTo_len d i
    refine r_val (v := .int _ _) (v_move (.inl rfl) (noOwn_flat rfl)) rfl rfl (by decide) ?_
    refine r_val (v := .pp _ _) (v_indexAddr_sl es69 (.inl rfl) (.inl rfl) (fun _ => ⟨by omega, by omega, icells_ne hi⟩)) rfl rfl (by decide) ?_
    refine r_val (v := .int .i64 (gd d i)) (v_load_pp ta3 (.inl rfl) (fun _ => by rw [Nat.mul_one]; exact icells_get (gd_get hi)) rfl) rfl rfl (by decide) ?_
    refine r_val (v := .int _ _) (v_assign (.inl rfl) (noOwn_flat rfl)) rfl rfl (by decide) ?_
    refine r_val (v := .int _ _) (v_assign (.inl rfl) (noOwn_flat rfl)) rfl rfl (by decide) ?_
    refine r_nil ?_
    refine a_seq ?_
    refine a_region ?_
    refine r_val (v := .int _ _) (v_move (.inl rfl) (noOwn_flat rfl)) rfl rfl (by decide) ?_
    refine r_val (v := .bool _) (v_neq (.inl rfl) (.inl rfl)) rfl rfl (by decide) ?_
    refine r_nil ?_
    refine a_cond rfl (fun ht14 => ?_) (fun ht14 => ?_)
    ·
      skip
      refine a_region ?_
      refine r_val (v := .rsl _ _ _ _ _) (v_move (.inl rfl) (noOwn_flat rfl)) rfl rfl (by decide) ?_
      refine r_val (v := .int _ _) (v_move (.inl rfl) (noOwn_flat rfl)) rfl rfl (by decide) ?_
      refine r_val (v := .int _ _) (v_move (.inl rfl) (noOwn_flat rfl)) rfl rfl (by decide) ?_
      refine r_val (v := .agg [.int _ _, .int _ _]) (v_build sp54 rfl rfl) rfl rfl (by decide) ?_
      refine r_new (v := .osl _ _ _ _) (q_sliceLit (n := 1) (parts := [(0, .tmp 18)]) lt25 rfl rfl rfl rfl) rfl rfl (by decide) ?_
      refine r_pre (ent_reloc_sl (t := 15) rfl rfl) ?_
      refine r_step rfl (o_append rfl ap25 rfl (by decide) (by decide) rfl (src_lit (.inl rfl) rfl rfl rfl) rfl (by rw [tcells_length]) (by omega)) ?_
      refine r_val (v := .rsl _ _ _ _ _) (v_assign (.inl rfl) (noOwn_flat rfl)) rfl rfl (by decide) ?_
      refine r_pre (ent_reloc_sl (t := 3) rfl rfl) ?_
      refine r_nil ?_
      refine a_region ?_
      refine r_val (v := .int _ _) (v_add (.inl rfl) (.inl rfl) (fun _ => by omega)) rfl rfl (by decide) ?_
      refine r_val (v := .int _ _) (v_move (.inl rfl) (noOwn_flat rfl)) rfl rfl (by decide) ?_
      refine r_nil ?_
      have hne : gd d i ≠ 0 := (by simpa using ht14)
      have hm := trmTo_more hne
      refine ⟨i + 1, ent_look ⟨Weak.osl (tcells_app.trans (by rw [hm])) (by rw [hm]; simp), Weak.of_eq rfl, Weak.of_eq rfl, Weak.of_eq (int_eq (by omega)), trivial⟩, by omega, by omega⟩
    ·
      skip
      refine a_skip ?_
      refine a_region ?_
      refine r_val (v := .int _ _) (v_add (.inl rfl) (.inl rfl) (fun _ => by omega)) rfl rfl (by decide) ?_
      refine r_val (v := .int _ _) (v_move (.inl rfl) (noOwn_flat rfl)) rfl rfl (by decide) ?_
      refine r_nil ?_
      have hm := trmTo_skip (d := d) (i := i) (by simpa using ht14)
      refine ⟨i + 1, ent_look ⟨Weak.osl (by rw [hm]) (by rw [hm]), Weak.of_eq rfl, Weak.of_eq rfl, Weak.of_eq (int_eq (by omega)), trivial⟩, by omega, by omega⟩
  ·
    skip
    refine a_exit ?_
    refine a_seq ?_
    refine a_region ?_
    refine r_val (v := .rsl _ _ _ _ _) (v_move (.inl rfl) (noOwn_flat rfl)) rfl rfl (by decide) ?_
    refine r_val (v := .rsl _ _ _ _ _) (v_assign (.inl rfl) (noOwn_flat rfl)) rfl rfl (by decide) ?_
    refine r_pre (ent_reloc_sl (t := 2) rfl rfl) ?_
    refine r_nil ?_
    refine a_ret ?_
    refine ret1 Try.results65 (by decide) (by decide) (Weak.osl ?_ ?_) rfl Leaves.nil
    · simp at ht9; unfold trm; rw [show i = d.length by omega]
    · simp at ht9; unfold trm; rw [show i = d.length by omega]
end Go.Av
namespace Go.Av
open Go Go.Proofs
set_option maxRecDepth 10000
theorem ap65 : appTy Try.prog 65 = some (1, 24) := by kernel_rfl
theorem es65 : elemSize Try.prog 65 = some 1 := by kernel_rfl
theorem es97 : elemSize Try.prog 97 = some 1 := by kernel_rfl
theorem hb20 : hasBody Try.prog 20 = true := by kernel_rfl
theorem hb21 : hasBody Try.prog 21 = true := by kernel_rfl
theorem hb57 : hasBody Try.prog 57 = true := by kernel_rfl
theorem hb64 : hasBody Try.prog 64 = true := by kernel_rfl
theorem lt65 : litTy Try.prog 65 = some (1, [.nils]) := by kernel_rfl
theorem lt97 : litTy Try.prog 97 = some (1, [.nils]) := by kernel_rfl
theorem sl97 : isSlice Try.prog 97 = true := by kernel_rfl
theorem ta25 : tyAgg Try.prog 25 = some (false, 1) := by kernel_rfl
theorem ta69 : tyAgg Try.prog 69 = some (false, 1) := by kernel_rfl

theorem polys_c (p vars : Int) (al : List (List (Int × Int))) (hl : al.length ≤ 1000 ∧ ∀ a ∈ al, (a.length : Int) ≤ 9223372036854775807) : ACall Try.prog 57 [.int .i64 p, .int .i64 vars, .sl (acl al) al.length] [] (.tup [.agg [.int .i64 p, .int .i64 vars], .osl 1 (pcl p vars (polRes p vars al)) (polRes p vars al).length none, .bool (polOk p vars al)]) [] := by
  refine ACall.intro Try.func57 rfl (N := 43) rfl (by decide) (by simp) ?_
  refine a_seq ?_
  refine a_region ?_
  refine r_new (v := .op [.int _ _, .int _ _]) (q_alloc zc58) rfl rfl (by decide) ?_
  refine r_val (v := .nils) (v_assign (.inl rfl) (noOwn_flat rfl)) rfl rfl (by decide) ?_
  refine r_val (v := .bool _) (v_assign (.inl rfl) (noOwn_flat rfl)) rfl rfl (by decide) ?_
  refine r_nil ?_
  refine a_seq ?_
  refine a_region ?_
  refine r_val (v := .int _ _) (v_move (.inl rfl) (noOwn_flat rfl)) rfl rfl (by decide) ?_
  refine r_val (v := .int _ _) (v_move (.inl rfl) (noOwn_flat rfl)) rfl rfl (by decide) ?_
  refine r_new (v := .tup [.agg [.int _ _, .int _ _], .bool _]) (q_call (vs := [.int _ _, .int _ _]) (args := [.int .i64 _, .int .i64 _]) hb52 ⟨.inl rfl, .inl rfl, trivial⟩ rfl (fun hA => ringOf_c _ _) rfl rfl) rfl rfl (by decide) ?_
  refine r_val (v := .tup [.agg [.int _ _, .int _ _], .bool _]) (v_mv rfl) rfl rfl (by decide) ?_
  refine r_val (v := .agg [.int _ _, .int _ _]) (v_extract rfl rfl) rfl rfl (by decide) ?_
  refine r_val (v := .bool _) (v_extract rfl rfl) rfl rfl (by decide) ?_
  refine r_new (v := .op [.int _ _, .int _ _]) (q_alloc zc58) rfl rfl (by decide) ?_
  refine r_step rfl (o_store (v := .agg [.int _ _, .int _ _]) (y' := .op [.int _ _, .int _ _]) rfl rfl ta58 (.inl rfl) (.inl rfl) rfl rfl rfl rfl rfl rfl (Nat.le_of_ble_eq_true rfl) (by decide) rfl rfl) ?_
  refine r_val (v := .bool _) (v_assign (.inl rfl) (noOwn_flat rfl)) rfl rfl (by decide) ?_
  refine r_nil ?_
  refine a_seq ?_
  refine a_seq ?_
  refine a_region ?_
  refine r_val (v := .bool _) (v_move (.inl rfl) (noOwn_flat rfl)) rfl rfl (by decide) ?_
  refine r_val (v := .bool _) (v_not (.inl rfl)) rfl rfl (by decide) ?_
  refine r_nil ?_
  refine a_cond rfl (fun ht21 => ?_) (fun ht21 => ?_)
  ·
    skip
    refine a_seq ?_
    refine a_region ?_
    refine r_val (v := .agg [.int _ _, .int _ _]) (v_load_rpa1 ta58 (.inl rfl) rfl rfl (fun _ => rfl) rfl) rfl rfl (by decide) ?_
    refine r_step rfl (o_store (v := .agg [.int _ _, .int _ _]) (y' := .op [.int _ _, .int _ _]) rfl rfl ta58 (.inl rfl) (.inl rfl) rfl rfl rfl rfl rfl rfl (Nat.le_of_ble_eq_true rfl) (by decide) rfl rfl) ?_
    refine r_val (v := .nils) (v_assign (.inl rfl) (noOwn_flat rfl)) rfl rfl (by decide) ?_
    refine r_val (v := .bool _) (v_assign (.inl rfl) (noOwn_flat rfl)) rfl rfl (by decide) ?_
    refine r_nil ?_
    refine a_pre (ent_nil (t := 7) (sz := 1) (cap := none) (.inl rfl) (fun _ h => by cases h)) ?_
    refine a_ret ?_
    refine retL (rs := [.cell 6 58, .tmp 7, .tmp 8]) [(6, _), (7, .osl _ _ _ none), (8, _)] ⟨Weak.rfl, Weak.osl rfl rfl, Weak.rfl, trivial⟩ rfl Try.results57 (by decide) ⟨by decide, _, cell_agg rfl ta58, by decide, by decide, rfl⟩ (by decide) (by decide) (l3_eq (agg_eq (l2_eq (int_eq ?_) (int_eq ?_))) (osl_eq2 ?_ ?_) (bool_eq ?_)) (by simp [refsL, refs])
    all_goals (simp at ht21; simp [polRes, polOk, ht21, pcl])
  ·
    skip
    refine a_skip ?_
    refine a_seq ?_
    refine a_region ?_
    have hp : prime p vars = true := by simpa using ht21
    refine r_val (v := .nils) (v_assign (.inl rfl) (noOwn_flat rfl)) rfl rfl (by decide) ?_
    refine r_nil ?_
    refine a_seq ?_
    refine a_seq ?_
    refine a_region ?_
    refine r_val (v := .sl _ _) (v_move (.inl rfl) (noOwn_flat rfl)) rfl rfl (by decide) ?_
    refine r_val (v := .int _ _) (v_len_sl sl97 (.inl rfl)) rfl rfl (by decide) ?_
    refine r_val (v := .int _ _) (v_move (.inl rfl) (noOwn_flat rfl)) rfl rfl (by decide) ?_
    refine r_nil ?_
    refine a_block ?_
    refine a_pre (ent_nil (t := 11) (sz := 1) (cap := none) (.inl rfl) (fun _ h => by cases h)) ?_
    refine a_loop (X := Nat) (fun i => look [(6, .op [.int .i64 0, .int .i64 0]), (9, .op [.int .i64 p, .int .i64 vars]), (11, .osl 1 (pcl p vars (al.take i)) i none), (23, .sl (acl al) al.length), (24, .int .i64 (al.length : Int)), (25, .int .i64 (i : Int))]) (fun i => i ≤ al.length ∧ ∀ j, j < i → goodL p vars (nth al j) = true) (fun i => al.length - i) 0 (ent_look ⟨Weak.of_eq rfl, Weak.of_eq rfl, Weak.osl rfl rfl, Weak.of_eq rfl, Weak.of_eq rfl, Weak.of_eq rfl, trivial⟩) ⟨Nat.zero_le _, fun j h => by omega⟩ (fun i hG => ?_)
    obtain ⟨h1, h2⟩ := hG
    refine a_seq ?_
    refine a_region ?_
    refine r_val (v := .bool _) (v_lss (.inl rfl) (.inl rfl)) rfl rfl (by decide) ?_
    refine r_nil ?_
    refine a_seq ?_
    refine a_cond rfl (fun ht26 => ?_) (fun ht26 => ?_)
    ·
      skip
      refine a_skip ?_
      refine a_seq ?_
      refine a_block ?_
      refine a_seq ?_
      refine a_region ?_
      have hi : i < al.length := (by simp at ht26; omega)
      have hl1 := hl.2 _ (nth_mem hi)
      refine r_val (v := .pp _ _) (v_indexAddr_sl es97 (.inl rfl) (.inl rfl) (fun _ => ⟨by omega, by omega, acl_ne hi⟩)) rfl rfl (by decide) ?_
      refine r_val (v := .sl (tcells (nth al i)) (nth al i).length) (v_load_pp ta25 (.inl rfl) (fun _ => by rw [Nat.mul_one]; exact acl_get hi) rfl) rfl rfl (by decide) ?_
      refine r_val (v := .sl _ _) (v_assign (.inl rfl) (noOwn_flat rfl)) rfl rfl (by decide) ?_
      refine r_nil ?_
      refine a_seq ?_
      refine a_seq ?_
      refine a_region ?_
      refine r_val (v := .agg [.int _ _, .int _ _]) (v_load_rpa1 ta58 (.inl rfl) rfl rfl (fun _ => rfl) rfl) rfl rfl (by decide) ?_
      refine r_val (v := .sl _ _) (v_move (.inl rfl) (noOwn_flat rfl)) rfl rfl (by decide) ?_
      refine r_new (v := .bool _) (q_call (vs := [.agg [.int _ _, .int _ _], .sl _ _]) (args := [.agg [.int .i64 _, .int .i64 _], .sl _ _]) hb53 ⟨.inl rfl, .inl rfl, trivial⟩ rfl (fun hA => ringIs_c _ _ _ (by omega) (by simp_all)) rfl rfl) rfl rfl (by decide) ?_
      refine r_val (v := .bool _) (v_not (.inl rfl)) rfl rfl (by decide) ?_
      refine r_nil ?_
      refine a_cond rfl (fun ht32 => ?_) (fun ht32 => ?_)
      ·
        skip
        refine a_seq ?_
        refine a_region ?_
        refine r_val (v := .agg [.int _ _, .int _ _]) (v_load_rpa1 ta58 (.inl rfl) rfl rfl (fun _ => rfl) rfl) rfl rfl (by decide) ?_
        refine r_step rfl (o_store (v := .agg [.int _ _, .int _ _]) (y' := .op [.int _ _, .int _ _]) rfl rfl ta58 (.inl rfl) (.inl rfl) rfl rfl rfl rfl rfl rfl (Nat.le_of_ble_eq_true rfl) (by decide) rfl rfl) ?_
        refine r_val (v := .nils) (v_assign (.inl rfl) (noOwn_flat rfl)) rfl rfl (by decide) ?_
        refine r_val (v := .bool _) (v_assign (.inl rfl) (noOwn_flat rfl)) rfl rfl (by decide) ?_
        refine r_nil ?_
        refine a_pre (ent_nil (t := 7) (sz := 1) (cap := none) (.inl rfl) (fun _ h => by cases h)) ?_
        refine a_ret ?_
        refine retL (rs := [.cell 6 58, .tmp 7, .tmp 8]) [(6, _), (7, .osl _ _ _ none), (8, _)] ⟨Weak.rfl, Weak.osl rfl rfl, Weak.rfl, trivial⟩ rfl Try.results57 (by decide) ⟨by decide, _, cell_agg rfl ta58, by decide, by decide, rfl⟩ (by decide) (by decide) (l3_eq (agg_eq (l2_eq (int_eq ?_) (int_eq ?_))) (osl_eq2 ?_ ?_) (bool_eq ?_)) (by simp [refsL, refs])
        all_goals (have hb := pol_bad hi (p := p) (vars := vars) (by simpa using ht32); simp [polRes, hb, pcl])
      ·
        skip
        refine a_skip ?_
        refine a_region ?_
        refine r_val (v := .rsl _ _ _ _ _) (v_move (.inl rfl) (noOwn_flat rfl)) rfl rfl (by decide) ?_
        refine r_val (v := .agg [.int _ _, .int _ _]) (v_load_rpa1 ta58 (.inl rfl) rfl rfl (fun _ => rfl) rfl) rfl rfl (by decide) ?_
        refine r_val (v := .sl _ _) (v_move (.inl rfl) (noOwn_flat rfl)) rfl rfl (by decide) ?_
        refine r_new (v := .osl _ _ _ _) (q_call (vs := [.agg [.int _ _, .int _ _], .sl _ _]) (args := [.agg [.int .i64 _, .int .i64 _], .sl _ _]) hb64 ⟨.inl rfl, .inl rfl, trivial⟩ rfl (fun hA => dense_c _ _ _ (by simp_all) (by omega) (good_range (by simp_all))) (ic_noSh _) (ic_noRef _)) rfl rfl (by decide) ?_
        refine r_step rfl (o_sliceLit1 (v := .osl _ _ _ _) rfl lt65 rfl rfl (by decide) (by decide) rfl rfl (by simp [cellsOf, noRefL, noRef, ic_noRef]) rfl rfl) ?_
        refine r_pre (ent_reloc_sl (t := 34) rfl rfl) ?_
        refine r_step rfl (o_append_own rfl ap65 rfl (by decide) (by decide) (by decide) (by decide) rfl rfl rfl (by rw [pcl_length, List.length_take]; omega) rfl (by omega)) ?_
        refine r_val (v := .rsl _ _ _ _ _) (v_assign (.inl rfl) (noOwn_flat rfl)) rfl rfl (by decide) ?_
        refine r_pre (ent_reloc_sl (t := 11) rfl rfl) ?_
        refine r_nil ?_
        refine a_region ?_
        refine r_val (v := .int _ _) (v_add (.inl rfl) (.inl rfl) (fun _ => by omega)) rfl rfl (by decide) ?_
        refine r_val (v := .int _ _) (v_move (.inl rfl) (noOwn_flat rfl)) rfl rfl (by decide) ?_
        refine r_nil ?_
        refine ⟨i + 1, ent_look ⟨Weak.of_eq rfl, Weak.of_eq rfl, Weak.osl (pcl_step hi) rfl, Weak.of_eq rfl, Weak.of_eq rfl, Weak.of_eq (int_eq (by omega)), trivial⟩, ⟨by omega, ok_step h2 (by simpa using ht32)⟩, by omega⟩
    ·
      skip
      refine a_exit ?_
      refine a_seq ?_
      refine a_region ?_
      refine r_val (v := .agg [.int _ _, .int _ _]) (v_load_rpa1 ta58 (.inl rfl) rfl rfl (fun _ => rfl) rfl) rfl rfl (by decide) ?_
      refine r_val (v := .rsl _ _ _ _ _) (v_move (.inl rfl) (noOwn_flat rfl)) rfl rfl (by decide) ?_
      refine r_step rfl (o_store (v := .agg [.int _ _, .int _ _]) (y' := .op [.int _ _, .int _ _]) rfl rfl ta58 (.inl rfl) (.inl rfl) rfl rfl rfl rfl rfl rfl (Nat.le_of_ble_eq_true rfl) (by decide) rfl rfl) ?_
      refine r_val (v := .rsl _ _ _ _ _) (v_assign (.inl rfl) (noOwn_flat rfl)) rfl rfl (by decide) ?_
      refine r_pre (ent_reloc_sl (t := 7) rfl rfl) ?_
      refine r_val (v := .bool _) (v_assign (.inl rfl) (noOwn_flat rfl)) rfl rfl (by decide) ?_
      refine r_nil ?_
      refine a_ret ?_
      refine retL (rs := [.cell 6 58, .tmp 7, .tmp 8]) [(6, _), (7, .osl _ _ _ none), (8, _)] ⟨Weak.rfl, Weak.osl rfl rfl, Weak.rfl, trivial⟩ rfl Try.results57 (by decide) ⟨by decide, _, cell_agg rfl ta58, by decide, by decide, rfl⟩ (by decide) (by decide) (l3_eq (agg_eq (l2_eq (int_eq ?_) (int_eq ?_))) (osl_eq2 ?_ ?_) (bool_eq ?_)) (by simp [refsL, refs])
      all_goals (have hb := pol_good hp (fun j hj => h2 j (by simp at ht26; omega)); simp at ht26; try simp only [polRes, hb, if_true])
      · rw [List.take_of_length_le (by omega)]
      · omega

theorem iCoeffAt_c (p vars : Int) (xs : List (Int × Int)) (m : Int) (hl : (xs.length : Int) ≤ 9223372036854775807) : ACall Try.prog 21 [.int .i64 p, .int .i64 vars, .sl (tcells xs) xs.length, .int .i64 m] [] (.tup [.int .i64 (if prime p vars && goodL p vars xs && inR m 0 (2 ^ vars.toNat - 1) then gd (accp p (dn vars) xs) m.toNat else 0), .bool (prime p vars && goodL p vars xs && inR m 0 (2 ^ vars.toNat - 1))]) [] := by
  have hv : polOk p vars [xs] = (prime p vars && goodL p vars xs) := (by simp [polOk])
  refine ACall.intro Try.func21 rfl (N := 36) rfl (by decide) (by simp) ?_
  refine a_seq ?_
  refine a_region ?_
  refine r_val (v := .int _ _) (v_assign (.inl rfl) (noOwn_flat rfl)) rfl rfl (by decide) ?_
  refine r_val (v := .bool _) (v_assign (.inl rfl) (noOwn_flat rfl)) rfl rfl (by decide) ?_
  refine r_nil ?_
  refine a_seq ?_
  refine a_region ?_
  refine r_val (v := .int _ _) (v_move (.inl rfl) (noOwn_flat rfl)) rfl rfl (by decide) ?_
  refine r_val (v := .int _ _) (v_move (.inl rfl) (noOwn_flat rfl)) rfl rfl (by decide) ?_
  refine r_val (v := .sl _ _) (v_move (.inl rfl) (noOwn_flat rfl)) rfl rfl (by decide) ?_
  refine r_new (v := .osl _ _ _ _) (q_sliceLit (n := 1) (parts := [(0, .tmp 16)]) lt97 rfl rfl rfl rfl) rfl rfl (by decide) ?_
  refine r_new (v := .tup [.agg [.int _ _, .int _ _], .osl _ _ _ _, .bool _]) (q_call (vs := [.int _ _, .int _ _, .rsl _ _ _ _ _]) (args := [.int .i64 _, .int .i64 _, .sl _ _]) hb57 ⟨.inl rfl, .inl rfl, .inl rfl, trivial⟩ rfl (fun hA => polys_c _ _ [xs] (by simp; omega)) (by simp [noSh, noShL, pcl_noSh]) (by simp [noRef, noRefL, pcl_noRef])) rfl rfl (by decide) ?_
  refine r_val (v := .tup [.agg [.int _ _, .int _ _], .rsl _ _ _ _ _, .bool _]) (v_mv rfl) rfl rfl (by decide) ?_
  refine r_val (v := .agg [.int _ _, .int _ _]) (v_extract rfl rfl) rfl rfl (by decide) ?_
  refine r_val (v := .rsl _ _ _ _ _) (v_extract rfl rfl) rfl rfl (by decide) ?_
  refine r_val (v := .bool _) (v_extract rfl rfl) rfl rfl (by decide) ?_
  refine r_new (v := .op [.int _ _, .int _ _]) (q_alloc zc58) rfl rfl (by decide) ?_
  refine r_step rfl (o_store (v := .agg [.int _ _, .int _ _]) (y' := .op [.int _ _, .int _ _]) rfl rfl ta58 (.inl rfl) (.inl rfl) rfl rfl rfl rfl rfl rfl (Nat.le_of_ble_eq_true rfl) (by decide) rfl rfl) ?_
  refine r_val (v := .rsl _ _ _ _ _) (v_assign (.inl rfl) (noOwn_flat rfl)) rfl rfl (by decide) ?_
  refine r_pre (ent_reloc_sl (t := 11) rfl rfl) ?_
  refine r_val (v := .bool _) (v_assign (.inl rfl) (noOwn_flat rfl)) rfl rfl (by decide) ?_
  refine r_nil ?_
  refine a_seq ?_
  refine a_seq ?_
  refine a_region ?_
  refine r_val (v := .bool _) (v_move (.inl rfl) (noOwn_flat rfl)) rfl rfl (by decide) ?_
  refine r_val (v := .bool _) (v_not (.inl rfl)) rfl rfl (by decide) ?_
  refine r_val (v := .bool _) (v_move (.inl rfl) (noOwn_flat rfl)) rfl rfl (by decide) ?_
  refine r_gval (v := .int _ _) (v_move (.inl rfl) (noOwn_flat rfl)) rfl rfl rfl (by decide) (.inl ⟨_, rfl, rfl⟩) rfl (by decide) ?_
  refine r_gval (v := .int _ _) (v_move (.inl rfl) (noOwn_flat rfl)) rfl rfl rfl (by decide) (.inl ⟨_, rfl, rfl⟩) rfl (by decide) ?_
  refine r_guard (v := .bool _) (q_call (vs := [.int _ _, .int _ _]) (args := [.int .i64 _, .int .i64 _]) hb58 ⟨.inr ⟨_, rfl, fun h => h⟩, .inr ⟨_, rfl, fun h => h⟩, trivial⟩ rfl (fun hA => bitsOk_c _ _ (prime_spec (p := p) (by simp [polOk] at hA; exact hA.1)).2) rfl rfl) rfl rfl rfl (by decide) (.inl ⟨_, rfl, rfl⟩) rfl (by decide) ?_
  refine r_gval (v := .bool _) (v_not (.inr ⟨_, rfl, fun h => h⟩)) rfl rfl rfl (by decide) (.inl ⟨_, rfl, rfl⟩) rfl (by decide) ?_
  refine r_val (v := .bool _) (v_pick (.inl rfl) (.inl rfl) (.inr ⟨_, rfl, fun h h2 => by simp_all⟩)) rfl rfl (by decide) ?_
  refine r_nil ?_
  refine a_cond rfl (fun ht29 => ?_) (fun ht29 => ?_)
  ·
    skip
    refine a_seq ?_
    refine a_region ?_
    refine r_val (v := .int _ _) (v_assign (.inl rfl) (noOwn_flat rfl)) rfl rfl (by decide) ?_
    refine r_val (v := .bool _) (v_assign (.inl rfl) (noOwn_flat rfl)) rfl rfl (by decide) ?_
    refine r_nil ?_
    refine a_ret ?_
    refine retL (rs := [.tmp 8, .tmp 9]) [(8, _), (9, _)] ⟨Weak.rfl, Weak.rfl, trivial⟩ rfl Try.results21 (by decide) ⟨by decide, by decide, rfl⟩ (by decide) (by decide) (l2_eq (int_eq ?_) (bool_eq ?_)) rfl
    all_goals (simp at ht29; rw [hv] at ht29; cases h1 : prime p vars <;> cases h2 : goodL p vars xs <;> simp_all)
  ·
    skip
    refine a_skip ?_
    refine a_seq ?_
    refine a_region ?_
    simp at ht29
    obtain ⟨hok, hm⟩ := ht29
    have hok2 := hok
    rw [hv, Bool.and_eq_true] at hok2
    have hp := prime_spec hok2.1
    have hw := pow6 hp.2
    have hd := dn_le hp.2
    have hc := dn_cast vars
    have hm2 : 0 ≤ m ∧ m < 2 ^ vars.toNat := (by simp [inR] at hm; omega)
    refine r_pre (ent_eq (t := 11) (v' := .osl 1 [.osl 1 (icells (accp p (dn vars) xs)) (dn vars) none] 1 none) (Weak.of_eq (osl_eq2 (show pcl p vars (polRes p vars [xs]) = _ from by simp [polRes, hok, pcl]) (show (polRes p vars [xs]).length = _ from by simp [polRes, hok])))) ?_
    refine r_val (v := .rsl _ _ _ _ _) (v_move (.inl rfl) (noOwn_flat rfl)) rfl rfl (by decide) ?_
    refine r_val (v := .rp _ _) (v_indexAddr_rsl0 es65 (.inl rfl) (.inl rfl) (fun _ => by omega)) rfl rfl (by decide) ?_
    refine r_val (v := .rsl _ _ _ _ _) (v_load_rp (c := .osl _ _ _ _) ta69 (.inl rfl) rfl (fun _ => rfl)) rfl rfl (by decide) ?_
    refine r_val (v := .int _ _) (v_move (.inl rfl) (noOwn_flat rfl)) rfl rfl (by decide) ?_
    refine r_val (v := .rp _ _) (v_indexAddr_rsl0 es69 (.inl rfl) (.inl rfl) (fun _ => by omega)) rfl rfl (by decide) ?_
    refine r_val (v := .int .i64 (gd (accp p (dn vars) xs) m.toNat)) (v_load_rp1 ta3 (.inl rfl) rfl (fun _ => by rw [Nat.mul_one]; exact icells_get (gd_get (by rw [accp_length]; omega))) rfl) rfl rfl (by decide) ?_
    refine r_val (v := .int _ _) (v_assign (.inl rfl) (noOwn_flat rfl)) rfl rfl (by decide) ?_
    refine r_val (v := .bool _) (v_assign (.inl rfl) (noOwn_flat rfl)) rfl rfl (by decide) ?_
    refine r_nil ?_
    refine a_ret ?_
    refine retL (rs := [.tmp 8, .tmp 9]) [(8, _), (9, _)] ⟨Weak.rfl, Weak.rfl, trivial⟩ rfl Try.results21 (by decide) ⟨by decide, by decide, rfl⟩ (by decide) (by decide) (l2_eq (int_eq ?_) (bool_eq ?_)) rfl
    all_goals simp [hok2.1, hok2.2, hm]

theorem lawCoeffAt_c (p vars : Int) (xs : List (Int × Int)) (m : Int) (hl : (xs.length : Int) ≤ 9223372036854775807) : ACall Try.prog 4 [.int .i64 p, .int .i64 vars, .sl (tcells xs) xs.length, .int .i64 m] [] (.bool true) [] := by
  refine ACall.intro Try.func4 rfl (N := 52) rfl (by decide) (by simp) ?_
  refine a_seq ?_
  refine a_region ?_
  refine r_val (v := .bool _) (v_assign (.inl rfl) (noOwn_flat rfl)) rfl rfl (by decide) ?_
  refine r_nil ?_
  refine a_seq ?_
  refine a_region ?_
  refine r_val (v := .int _ _) (v_assign (.inl rfl) (noOwn_flat rfl)) rfl rfl (by decide) ?_
  refine r_nil ?_
  refine a_seq ?_
  refine a_region ?_
  refine r_val (v := .sl _ _) (v_move (.inl rfl) (noOwn_flat rfl)) rfl rfl (by decide) ?_
  refine r_val (v := .int _ _) (v_move (.inl rfl) (noOwn_flat rfl)) rfl rfl (by decide) ?_
  refine r_new (v := .int _ _) (q_call (vs := [.sl _ _, .int _ _]) (args := [.sl _ _, .int .i64 _]) hb15 ⟨.inl rfl, .inl rfl, trivial⟩ rfl (fun hA => szTermS_c _ _ (by omega)) rfl rfl) rfl rfl (by decide) ?_
  refine r_val (v := .int _ _) (v_assign (.inl rfl) (noOwn_flat rfl)) rfl rfl (by decide) ?_
  refine r_nil ?_
  refine a_seq ?_
  refine a_seq ?_
  refine a_region ?_
  refine r_val (v := .int _ _) (v_move (.inl rfl) (noOwn_flat rfl)) rfl rfl (by decide) ?_
  refine r_val (v := .bool _) (v_lss (.inl rfl) (.inl rfl)) rfl rfl (by decide) ?_
  refine r_nil ?_
  refine a_cond rfl (fun ht19 => ?_) (fun ht19 => ?_)
  ·
    skip
    refine a_seq ?_
    refine a_region ?_
    refine r_val (v := .bool _) (v_assign (.inl rfl) (noOwn_flat rfl)) rfl rfl (by decide) ?_
    refine r_nil ?_
    refine a_ret ?_
    refine ret1 Try.results4 (by decide) (by decide) (Weak.of_eq (bool_eq ?_)) rfl Leaves.nil
    rfl
  ·
    skip
    refine a_skip ?_
    refine a_seq ?_
    refine a_region ?_
    have hle : (xs.length : Int) ≤ 1048576 := by simp at ht19; split at ht19 <;> omega
    refine r_val (v := .int _ _) (v_move (.inl rfl) (noOwn_flat rfl)) rfl rfl (by decide) ?_
    refine r_val (v := .int _ _) (v_move (.inl rfl) (noOwn_flat rfl)) rfl rfl (by decide) ?_
    refine r_val (v := .sl _ _) (v_move (.inl rfl) (noOwn_flat rfl)) rfl rfl (by decide) ?_
    refine r_new (v := .osl _ _ _ _) (q_call (vs := [.sl _ _]) (args := [.sl _ _]) hb17 ⟨.inl rfl, trivial⟩ rfl (fun hA => toTermS_c _ (by omega)) (tc_noSh _) (tc_noRef _)) rfl rfl (by decide) ?_
    refine r_val (v := .int _ _) (v_move (.inl rfl) (noOwn_flat rfl)) rfl rfl (by decide) ?_
    refine r_new (v := .tup [.int _ _, .bool _]) (q_call (vs := [.int _ _, .int _ _, .rsl _ _ _ _ _, .int _ _]) (args := [.int .i64 _, .int .i64 _, .sl _ _, .int .i64 _]) hb20 ⟨.inl rfl, .inl rfl, .inl rfl, .inl rfl, trivial⟩ (l4_eq rfl rfl (sl_sh (tc_pure _)) rfl) (fun hA => sCoeffAt_c _ _ _ _ (by omega)) rfl rfl) rfl rfl (by decide) ?_
    refine r_val (v := .tup [.int _ _, .bool _]) (v_mv rfl) rfl rfl (by decide) ?_
    refine r_val (v := .int _ _) (v_extract rfl rfl) rfl rfl (by decide) ?_
    refine r_val (v := .bool _) (v_extract rfl rfl) rfl rfl (by decide) ?_
    refine r_val (v := .int _ _) (v_assign (.inl rfl) (noOwn_flat rfl)) rfl rfl (by decide) ?_
    refine r_val (v := .bool _) (v_assign (.inl rfl) (noOwn_flat rfl)) rfl rfl (by decide) ?_
    refine r_nil ?_
    refine a_seq ?_
    refine a_region ?_
    refine r_val (v := .sl _ _) (v_move (.inl rfl) (noOwn_flat rfl)) rfl rfl (by decide) ?_
    refine r_new (v := .osl _ _ _ _) (q_call (vs := [.sl _ _]) (args := [.sl _ _]) hb17 ⟨.inl rfl, trivial⟩ rfl (fun hA => toTermS_c _ (by omega)) (tc_noSh _) (tc_noRef _)) rfl rfl (by decide) ?_
    refine r_val (v := .rsl _ _ _ _ _) (v_assign (.inl rfl) (noOwn_flat rfl)) rfl rfl (by decide) ?_
    refine r_pre (ent_reloc_sl (t := 12) rfl rfl) ?_
    refine r_nil ?_
    refine a_seq ?_
    refine a_region ?_
    refine r_val (v := .int _ _) (v_move (.inl rfl) (noOwn_flat rfl)) rfl rfl (by decide) ?_
    refine r_val (v := .int _ _) (v_move (.inl rfl) (noOwn_flat rfl)) rfl rfl (by decide) ?_
    refine r_val (v := .rsl _ _ _ _ _) (v_move (.inl rfl) (noOwn_flat rfl)) rfl rfl (by decide) ?_
    refine r_val (v := .int _ _) (v_move (.inl rfl) (noOwn_flat rfl)) rfl rfl (by decide) ?_
    refine r_new (v := .tup [.int _ _, .bool _]) (q_call (vs := [.int _ _, .int _ _, .rsl _ _ _ _ _, .int _ _]) (args := [.int .i64 _, .int .i64 _, .sl _ _, .int .i64 _]) hb21 ⟨.inl rfl, .inl rfl, .inl rfl, .inl rfl, trivial⟩ (l4_eq rfl rfl (sl_sh (tc_pure _)) rfl) (fun hA => iCoeffAt_c _ _ _ _ (by omega)) rfl rfl) rfl rfl (by decide) ?_
    refine r_val (v := .tup [.int _ _, .bool _]) (v_mv rfl) rfl rfl (by decide) ?_
    refine r_val (v := .int _ _) (v_extract rfl rfl) rfl rfl (by decide) ?_
    refine r_val (v := .bool _) (v_extract rfl rfl) rfl rfl (by decide) ?_
    refine r_val (v := .int _ _) (v_assign (.inl rfl) (noOwn_flat rfl)) rfl rfl (by decide) ?_
    refine r_val (v := .bool _) (v_assign (.inl rfl) (noOwn_flat rfl)) rfl rfl (by decide) ?_
    refine r_nil ?_
    refine a_seq ?_
    refine a_seq ?_
    refine a_pre (ent_look (L := [(2, .sl _ _), (8, .bool _), (10, .int _ _), (11, .bool _), (12, .osl _ _ _ _), (13, .int _ _), (14, .bool _)]) ⟨Weak.rfl, Weak.rfl, Weak.rfl, Weak.rfl, Weak.rfl, Weak.rfl, Weak.rfl, trivial⟩) ?_
    refine a_region ?_
    refine r_val (v := .int _ _) (v_move (.inl rfl) (noOwn_flat rfl)) rfl rfl (by decide) ?_
    refine r_val (v := .int _ _) (v_move (.inl rfl) (noOwn_flat rfl)) rfl rfl (by decide) ?_
    refine r_val (v := .bool _) (v_neq (.inl rfl) (.inl rfl)) rfl rfl (by decide) ?_
    refine r_val (v := .bool _) (v_move (.inl rfl) (noOwn_flat rfl)) rfl rfl (by decide) ?_
    refine r_gval (v := .bool _) (v_move (.inl rfl) (noOwn_flat rfl)) rfl rfl rfl (by decide) (.inl ⟨_, rfl, rfl⟩) rfl (by decide) ?_
    refine r_gval (v := .bool _) (v_move (.inl rfl) (noOwn_flat rfl)) rfl rfl rfl (by decide) (.inl ⟨_, rfl, rfl⟩) rfl (by decide) ?_
    refine r_gval (v := .bool _) (v_bne un4 (.inr ⟨_, rfl, fun h => h⟩) (.inr ⟨_, rfl, fun h => h⟩)) rfl rfl rfl (by decide) (.inl ⟨_, rfl, rfl⟩) rfl (by decide) ?_
    refine r_val (v := .bool _) (v_pick (.inl rfl) (.inl rfl) (.inr ⟨_, rfl, fun h h2 => by simp_all⟩)) rfl rfl (by decide) ?_
    refine r_nil ?_
    refine a_cond rfl (fun ht46 => ?_) (fun ht46 => ?_)
    ·
      skip
      refine a_seq ?_
      refine a_region ?_
      refine r_val (v := .bool _) (v_assign (.inl rfl) (noOwn_flat rfl)) rfl rfl (by decide) ?_
      refine r_nil ?_
      refine a_ret ?_
      refine ret1 Try.results4 (by decide) (by decide) (Weak.of_eq (bool_eq ?_)) rfl Leaves.nil
      exfalso; simp at ht46
    ·
      skip
      refine a_skip ?_
      refine a_seq ?_
      refine a_seq ?_
      refine a_region ?_
      refine r_val (v := .rsl _ _ _ _ _) (v_move (.inl rfl) (noOwn_flat rfl)) rfl rfl (by decide) ?_
      refine r_val (v := .sl _ _) (v_move (.inl rfl) (noOwn_flat rfl)) rfl rfl (by decide) ?_
      refine r_new (v := .osl _ _ _ _) (q_call (vs := [.sl _ _]) (args := [.sl _ _]) hb17 ⟨.inl rfl, trivial⟩ rfl (fun hA => toTermS_c _ (by omega)) (tc_noSh _) (tc_noRef _)) rfl rfl (by decide) ?_
      refine r_new (v := .bool _) (q_call (vs := [.rsl _ _ _ _ _, .rsl _ _ _ _ _]) (args := [.sl _ _, .sl _ _]) hb19 ⟨.inl rfl, .inl rfl, trivial⟩ (l2_eq (sl_sh (tc_pure _)) (sl_sh (tc_pure _))) (fun hA => eqTermS_c _ _ (by omega)) rfl rfl) rfl rfl (by decide) ?_
      refine r_val (v := .bool _) (v_not (.inl rfl)) rfl rfl (by decide) ?_
      refine r_nil ?_
      refine a_cond rfl (fun ht51 => ?_) (fun ht51 => ?_)
      ·
        skip
        refine a_seq ?_
        refine a_region ?_
        refine r_val (v := .bool _) (v_assign (.inl rfl) (noOwn_flat rfl)) rfl rfl (by decide) ?_
        refine r_nil ?_
        refine a_ret ?_
        refine ret1 Try.results4 (by decide) (by decide) (Weak.of_eq (bool_eq ?_)) rfl Leaves.nil
        exfalso; simp at ht51
      ·
        skip
        refine a_skip ?_
        refine a_seq ?_
        refine a_region ?_
        refine r_val (v := .bool _) (v_assign (.inl rfl) (noOwn_flat rfl)) rfl rfl (by decide) ?_
        refine r_nil ?_
        refine a_ret ?_
        refine ret1 Try.results4 (by decide) (by decide) (Weak.of_eq (bool_eq ?_)) rfl Leaves.nil
        rfl
end Go.Av
namespace Go.Av
open Go Go.Proofs Go.Proofs.Yteobpdiljobofaa
set_option maxRecDepth 100000

theorem tcells_flat : ∀ (xs : List (Int × Int)), xs.flatMap (fun x => [AV.int .i64 x.1] ++ [AV.int .i64 x.2]) = tcells xs
  | [] => rfl
  | x :: xs => by rw [List.flatMap_cons, tcells_flat xs]; rfl
theorem bd64 {n : Int} (h : (Lit.int .i64 n).wf = true) : -9223372036854775808 ≤ n ∧ n ≤ 9223372036854775807 := bounds_i64 h
theorem len64 {n : Nat} (h : n ≤ maxLen) : (n : Int) ≤ 9223372036854775807 := by unfold maxLen at h; omega

theorem arg_int : OpensV Try.prog 3 (fun n : Int => .int .i64 n) (fun n => (Lit.int .i64 n).wf = true) :=
  opensV_one (ok_scalar (by rw [Try.underlying3])) (opens_int Try.underlying3) (fun _ => rfl)
theorem arg_terms : OpensV Try.prog 22 (fun xs : List (Int × Int) => .sl (xs.flatMap fun x => [AV.int .i64 x.1] ++ [AV.int .i64 x.2]) xs.length)
    (fun xs => xs.length ≤ maxLen ∧ ∀ x ∈ xs, ((Lit.int .i64 x.1).wf = true ∧ (Lit.int .i64 x.2).wf = true) ∧ ([AV.int .i64 x.1] ++ [AV.int .i64 x.2]).length = 2) :=
  opensV_one (ok_scalar (by rw [Try.underlying22])) (opens_slice (k := 2) Try.underlying22 (by kernel_rfl) (by decide)
    (opens_struct Try.underlying56 (tot := 1 + 1) (by kernel_rfl) (opensFs_cons rfl (by kernel_rfl) (opens_int Try.underlying3) (opensFs_one rfl (by kernel_rfl) (opens_int Try.underlying3)))) (fun _ => rfl)) (fun _ => rfl)
theorem icells_flat (xs : List Int) : xs.flatMap (fun n => [AV.int .i64 n]) = icells xs := by
  induction xs with
  | nil => rfl
  | cons x xs ih => rw [List.flatMap_cons, ih]; rfl
theorem arg_ints : OpensV Try.prog 35 (fun xs : List Int => .sl (xs.flatMap fun n => [AV.int .i64 n]) xs.length) (fun xs => xs.length ≤ maxLen ∧ ∀ x ∈ xs, (Lit.int .i64 x).wf = true ∧ ([AV.int .i64 x]).length = 1) :=
  opensV_one (ok_scalar (by rw [Try.underlying35])) (opens_slice (k := 1) Try.underlying35 (by kernel_rfl) (by decide) (opens_int Try.underlying3) (fun _ => rfl)) (fun _ => rfl)
theorem arg_bool : OpensV Try.prog 4 (fun b : Bool => .bool b) (fun _ => True) :=
  opensV_one (ok_scalar (by rw [Try.underlying4])) (opens_bool Try.underlying4) (fun _ => rfl)
theorem rowOwn : ownKnob Try.prog.godebug = none := by kernel_rfl
theorem rowLaid : laidOutB Try.prog = true := by kernel_rfl
end Go.Av
