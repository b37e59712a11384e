/- Lemmas, part 4. -/
import Derived.Test.YtgkfoiddncineaaH3
set_option linter.unusedVariables false
set_option linter.unusedSimpArgs false
namespace Go.Av
open Go Go.Proofs
set_option maxRecDepth 10000
theorem ap25 : appTy Try.prog 25 = some (1, 8) := by kernel_rfl
theorem hb106 : hasBody Try.prog 106 = true := by kernel_rfl
theorem hb107 : hasBody Try.prog 107 = true := by kernel_rfl
theorem hb144 : hasBody Try.prog 144 = true := by kernel_rfl
theorem lt25 : litTy Try.prog 25 = some (1, [.int .i64 0]) := by kernel_rfl

theorem idxI_c (f : Nat) (caps : List AV) (hb : hasBody Try.prog f = true) (hcap : capOk caps = true) (xs : List Int) (p : Nat → Bool) (hl : (xs.length : Int) ≤ 9223372036854775807) (hc : ∀ i, i < xs.length → ACall Try.prog f (.int .i64 (gd xs i) :: caps) [] (.bool (p i)) []) : ACall Try.prog 144 [.sl (icells xs) xs.length, .fn f [] caps] [] (.int .i64 (fidx p xs.length)) [] := by
  refine ACall.intro Try.func144 rfl (N := 19) rfl (by decide) (by simp) ?_
  refine a_seq ?_
  refine a_region ?_
  refine r_val (v := .int _ _) (v_assign (.inl rfl) (noOwn_flat rfl)) rfl rfl (by decide) ?_
  refine r_nil ?_
  refine a_seq ?_
  refine a_seq ?_
  refine a_region ?_
  refine r_val (v := .sl _ _) (v_move (.inl rfl) (noOwn_flat rfl)) rfl rfl (by decide) ?_
  refine r_val (v := .int _ _) (v_len_sl sl25 (.inl rfl)) rfl rfl (by decide) ?_
  refine r_val (v := .int _ _) (v_move (.inl rfl) (noOwn_flat rfl)) rfl rfl (by decide) ?_
  refine r_nil ?_
  refine a_block ?_
  refine a_loop (X := Nat) (fun i => look [(0, .sl (icells xs) xs.length), (1, .fn f [] caps), (7, .int .i64 (xs.length : Int)), (8, .int .i64 (i : Int))]) (fun i => i ≤ xs.length ∧ ∀ j, j < i → p j = false) (fun i => xs.length - i) 0 (ent_look ⟨Weak.of_eq rfl, Weak.of_eq rfl, Weak.of_eq rfl, Weak.of_eq rfl, trivial⟩) ⟨Nat.zero_le _, fun j h => by omega⟩ (fun i hG => ?_)
  obtain ⟨h1, h2⟩ := hG
  refine a_seq ?_
  refine a_region ?_
  refine r_val (v := .bool _) (v_lss (.inl rfl) (.inl rfl)) rfl rfl (by decide) ?_
  refine r_nil ?_
  refine a_seq ?_
  refine a_cond rfl (fun ht9 => ?_) (fun ht9 => ?_)
  ·
    skip
    refine a_skip ?_
    refine a_seq ?_
    refine a_block ?_
    refine a_seq ?_
    refine a_region ?_
    have hi : i < xs.length := (by simp at ht9; omega)
    refine r_val (v := .int _ _) (v_move (.inl rfl) (noOwn_flat rfl)) rfl rfl (by decide) ?_
    refine r_val (v := .int _ _) (v_assign (.inl rfl) (noOwn_flat rfl)) rfl rfl (by decide) ?_
    refine r_nil ?_
    refine a_seq ?_
    refine a_region ?_
    refine r_val (v := .fn _ _ _) (v_mv rfl) rfl rfl (by decide) ?_
    refine r_val (v := .sl _ _) (v_move (.inl rfl) (noOwn_flat rfl)) rfl rfl (by decide) ?_
    refine r_val (v := .int _ _) (v_move (.inl rfl) (noOwn_flat rfl)) rfl rfl (by decide) ?_
    refine r_val (v := .pp _ _) (v_indexAddr_sl es25 (.inl rfl) (.inl rfl) (fun _ => ⟨by omega, by omega, icells_ne hi⟩)) rfl rfl (by decide) ?_
    refine r_val (v := .int .i64 (gd xs i)) (v_load_pp ta3 (.inl rfl) (fun _ => by rw [Nat.mul_one]; exact icells_get (gd_get hi)) rfl) rfl rfl (by decide) ?_
    refine r_new (v := .bool _) (q_clo (vs := [.int _ _]) (args := (.int _ _ :: caps)) hb (.inl rfl) ⟨.inl rfl, trivial⟩ (snap_clo1 hcap rfl) (fun hA => hc i hi) rfl rfl) rfl rfl (by decide) ?_
    refine r_nil ?_
    refine a_cond rfl (fun ht16 => ?_) (fun ht16 => ?_)
    ·
      skip
      refine a_seq ?_
      refine a_region ?_
      refine r_val (v := .int _ _) (v_move (.inl rfl) (noOwn_flat rfl)) rfl rfl (by decide) ?_
      refine r_val (v := .int _ _) (v_assign (.inl rfl) (noOwn_flat rfl)) rfl rfl (by decide) ?_
      refine r_nil ?_
      refine a_ret ?_
      refine ret1 Try.results144 (by decide) (by decide) (Weak.of_eq (int_eq ?_)) rfl Leaves.nil
      exact (fidx_found hi ht16 h2).symm
    ·
      skip
      refine a_skip ?_
      refine a_region ?_
      refine r_val (v := .int _ _) (v_add (.inl rfl) (.inl rfl) (fun _ => by omega)) rfl rfl (by decide) ?_
      refine r_val (v := .int _ _) (v_move (.inl rfl) (noOwn_flat rfl)) rfl rfl (by decide) ?_
      refine r_nil ?_
      refine ⟨i + 1, ent_look ⟨Weak.of_eq rfl, (Weak.of_eq (purge_fn hcap)), Weak.of_eq rfl, Weak.of_eq (int_eq (by omega)), trivial⟩, ⟨by omega, ok_stepF h2 ht16⟩, by omega⟩
  ·
    skip
    refine a_exit ?_
    refine a_seq ?_
    refine a_region ?_
    refine r_val (v := .int _ _) (v_assign (.inl rfl) (noOwn_flat rfl)) rfl rfl (by decide) ?_
    refine r_nil ?_
    refine a_ret ?_
    refine ret1 Try.results144 (by decide) (by decide) (Weak.of_eq (int_eq ?_)) rfl Leaves.nil
    simp at ht9; exact (fidx_none (fun j hj => h2 j (by omega))).symm

theorem contI_c (f : Nat) (caps : List AV) (hb : hasBody Try.prog f = true) (hcap : capOk caps = true) (xs : List Int) (p : Nat → Bool) (hl : (xs.length : Int) ≤ 9223372036854775807) (hc : ∀ i, i < xs.length → ACall Try.prog f (.int .i64 (gd xs i) :: caps) [] (.bool (p i)) []) : ACall Try.prog 106 [.sl (icells xs) xs.length, .fn f [] caps] [] (.bool ((List.range xs.length).any p)) [] := by
  refine ACall.intro Try.func106 rfl (N := 9) rfl (by decide) (by simp) ?_
  refine a_seq ?_
  refine a_region ?_
  refine r_val (v := .bool _) (v_assign (.inl rfl) (noOwn_flat rfl)) rfl rfl (by decide) ?_
  refine r_nil ?_
  refine a_seq ?_
  refine a_region ?_
  refine r_val (v := .sl _ _) (v_move (.inl rfl) (noOwn_flat rfl)) rfl rfl (by decide) ?_
  refine r_val (v := .fn _ _ _) (v_mv rfl) rfl rfl (by decide) ?_
  refine r_new (v := .int _ _) (q_call (vs := [.sl _ _, .fn _ _ _]) (args := [.sl _ _, .fn _ _ _]) hb144 ⟨.inl rfl, .inl rfl, trivial⟩ (l2_eq rfl (snap_fn hcap)) (fun hA => idxI_c f caps hb hcap xs p hl hc) rfl rfl) rfl rfl (by decide) ?_
  refine r_val (v := .bool _) (v_geq (.inl rfl) (.inl rfl)) rfl rfl (by decide) ?_
  refine r_val (v := .bool _) (v_assign (.inl rfl) (noOwn_flat rfl)) rfl rfl (by decide) ?_
  refine r_nil ?_
  refine a_ret ?_
  refine ret1 Try.results106 (by decide) (by decide) (Weak.of_eq (bool_eq ?_)) rfl Leaves.nil
  exact fidx_any

theorem valuesOk1_c (p vars n : Int) (hp : 2 ≤ p ∧ p ≤ 5) : ACall Try.prog 107 [.int .i64 n, .pp [.int .i64 p, .int .i64 vars] 0] [] (.bool (!inR n 0 (p - 1))) [] := by
  refine ACall.intro Try.func107 rfl (N := 10) rfl (by decide) (by simp) ?_
  refine a_seq ?_
  refine a_region ?_
  refine r_val (v := .bool _) (v_assign (.inl rfl) (noOwn_flat rfl)) rfl rfl (by decide) ?_
  refine r_nil ?_
  refine a_seq ?_
  refine a_region ?_
  refine r_val (v := .int _ _) (v_move (.inl rfl) (noOwn_flat rfl)) rfl rfl (by decide) ?_
  refine r_val (v := .pp _ _) (v_fieldAddr_pp fo85_0 (.inl rfl)) rfl rfl (by decide) ?_
  refine r_val (v := .int _ _) (v_load_pp ta3 (.inl rfl) (fun _ => rfl) rfl) rfl rfl (by decide) ?_
  refine r_val (v := .int _ _) (v_sub (.inl rfl) (.inl rfl) (fun _ => by omega)) rfl rfl (by decide) ?_
  refine r_new (v := .bool _) (q_call (vs := [.int _ _, .int _ _, .int _ _]) (args := [.int .i64 _, .int .i64 _, .int .i64 _]) hb80 ⟨.inl rfl, .inl rfl, .inl rfl, trivial⟩ rfl (fun hA => within_c _ _ _) rfl rfl) rfl rfl (by decide) ?_
  refine r_val (v := .bool _) (v_not (.inl rfl)) rfl rfl (by decide) ?_
  refine r_val (v := .bool _) (v_assign (.inl rfl) (noOwn_flat rfl)) rfl rfl (by decide) ?_
  refine r_nil ?_
  refine a_ret ?_
  refine ret1 Try.results107 (by decide) (by decide) (Weak.of_eq (bool_eq ?_)) rfl Leaves.nil
  rfl

theorem valuesOk_c (p vars : Int) (xs : List Int) (hp : prime p vars = true) (hl : (xs.length : Int) ≤ 9223372036854775807) : ACall Try.prog 56 [.agg [.int .i64 p, .int .i64 vars], .sl (icells xs) xs.length] [] (.bool (decide (xs.length = dn vars) && vals p xs)) [] := by
  have hpp := prime_spec hp
  have hw := pow6 hpp.2
  have hdn := dn_cast vars
  have hbV := hb107
  refine ACall.intro Try.func56 rfl (N := 17) rfl (by decide) (by simp) ?_
  refine a_seq ?_
  refine a_region ?_
  refine r_new (v := .op [.int _ _, .int _ _]) (q_box (.inl rfl) rfl rfl) rfl rfl (by decide) ?_
  refine r_val (v := .bool _) (v_assign (.inl rfl) (noOwn_flat rfl)) rfl rfl (by decide) ?_
  refine r_nil ?_
  refine a_seq ?_
  refine a_region ?_
  refine r_val (v := .sl _ _) (v_move (.inl rfl) (noOwn_flat rfl)) rfl rfl (by decide) ?_
  refine r_val (v := .int _ _) (v_len_sl sl25 (.inl rfl)) rfl rfl (by decide) ?_
  refine r_val (v := .rp _ _) (v_fieldAddr_rp fo85_1 (.inl rfl)) rfl rfl (by decide) ?_
  refine r_val (v := .int _ _) (v_load_rp1 ta3 (.inl rfl) rfl (fun _ => rfl) rfl) rfl rfl (by decide) ?_
  refine r_val (v := .int .i64 ((dn vars : Nat) : Int)) ((v_shl (.inl rfl) (.inl rfl) (fun _ => by omega)).cast (int_eq (by omega))) rfl rfl (by decide) ?_
  refine r_val (v := .bool _) (v_eql (.inl rfl) (.inl rfl)) rfl rfl (by decide) ?_
  refine r_val (v := .bool _) (v_move (.inl rfl) (noOwn_flat rfl)) rfl rfl (by decide) ?_
  refine r_gval (v := .sl _ _) (v_move (.inl rfl) (noOwn_flat rfl)) rfl rfl rfl (by decide) (.inl ⟨_, rfl, rfl⟩) rfl (by decide) ?_
  refine r_gval (v := .fn _ _ _) (v_makeFunc (first := []) (caps := [.tmp 2]) rfl rfl) rfl rfl rfl (by decide) (.inl ⟨_, rfl, rfl⟩) rfl (by decide) ?_
  refine r_guard (v := .bool _) (q_call (vs := [.sl _ _, .fn _ _ _]) (args := [.sl _ _, .fn _ _ _]) hb106 ⟨.inr ⟨_, rfl, fun h => h⟩, .inr ⟨_, rfl, fun h => h⟩, trivial⟩ rfl (fun hA => contI_c 107 [.pp [.int .i64 p, .int .i64 vars] 0] hbV rfl xs (fun i => !inR (gd xs i) 0 (p - 1)) (by omega) (fun i hi => valuesOk1_c p vars _ hpp.1)) rfl rfl) rfl rfl rfl (by decide) (.inl ⟨_, rfl, rfl⟩) rfl (by decide) ?_
  refine r_gval (v := .bool _) (v_not (.inr ⟨_, rfl, fun h => h⟩)) rfl rfl rfl (by decide) (.inl ⟨_, rfl, rfl⟩) rfl (by decide) ?_
  refine r_val (v := .bool _) (v_pick (.inl rfl) (.inr ⟨_, rfl, fun h h2 => by simp_all⟩) (.inl rfl)) rfl rfl (by decide) ?_
  refine r_val (v := .bool _) (v_assign (.inl rfl) (noOwn_flat rfl)) rfl rfl (by decide) ?_
  refine r_nil ?_
  refine a_ret ?_
  refine ret1 Try.results56 (by decide) (by decide) (Weak.of_eq (bool_eq ?_)) rfl Leaves.nil
  rw [vals_any]; cases h1 : vals p xs <;> simp [h1] <;> omega
end Go.Av
namespace Go.Av
open Go
/-- The number of ones, as the library counts them. -/
def oc1 (n : Nat) : Nat := (n / 2 &&& 6148914691236517205) + (n &&& 6148914691236517205)
def oc2 (n : Nat) : Nat := (n / 4 &&& 3689348814741910323) + (n &&& 3689348814741910323)
def oc3 (n : Nat) : Nat := n / 16 + n &&& 1085102592571150095
def oc4 (n : Nat) : Nat := n + n / 256
def oc5 (n : Nat) : Nat := n + n / 65536
def oc6 (n : Nat) : Nat := n + n / 4294967296
def oc (n : Nat) : Nat := oc6 (oc5 (oc4 (oc3 (oc2 (oc1 n))))) &&& 127
end Go.Av
namespace Go.Av
open Go Go.Sort
def u64N (x : Int) : Nat := (IntKind.u64.wrap x).toNat
theorem u64N_cast (x : Int) : IntKind.u64.wrap x = ((u64N x : Nat) : Int) := by unfold u64N; rw [IntKind.wrap_u64]; omega
theorem u64N_lt (x : Int) : u64N x < 18446744073709551616 := by unfold u64N; rw [IntKind.wrap_u64]; omega
theorem u64N_of {n : Nat} (h : n < 18446744073709551616) : u64N (n : Int) = n := by unfold u64N; rw [IntWalk.u64_in _ (by omega)]; simp
def ocZ (x : Int) : Nat := oc (u64N x)
/-- The order of monomials. -/
def cfMono : Int → Int → Int := cf2 (fun x => (ocZ x : Int)) (fun x => x)
theorem cfMono_eq (x y : Int) : cfMono x y = orL [cmpI (ocZ x : Int) (ocZ y : Int), cmpI x y] := rfl
theorem cfMono_swo : SWO (ltc cfMono) := cf2_swo _ _
/-- Two strictly sorted lists with the same members. -/
theorem lt_unique {lt : Int → Int → Bool} (hS : SWO lt) : ∀ {c d : List Int}, c.Pairwise (fun a b => lt a b = true) → d.Pairwise (fun a b => lt a b = true) → (∀ x, x ∈ c ↔ x ∈ d) → c = d
  | [], [], _, _, _ => rfl
  | [], y :: d, _, _, h => by have := (h y).2 (by simp); simp at this
  | x :: c, [], _, _, h => by have := (h x).1 (by simp); simp at this
  | x :: c, y :: d, hc, hd, h => by
    simp only [List.pairwise_cons] at hc hd
    have asy : ∀ {a b : Int}, lt a b = true → lt b a = true → False := fun {a b} h1 h2 => by
      have := hS.trans _ _ _ h1 h2; rw [hS.irrefl] at this; cases this
    have hxy : x = y := by
      rcases List.mem_cons.1 ((h x).1 (by simp)) with h1 | h1
      · exact h1
      · rcases List.mem_cons.1 ((h y).2 (by simp)) with h2 | h2
        · exact h2.symm
        · exact (asy (hd.1 x h1) (hc.1 y h2)).elim
    subst hxy
    congr 1
    refine lt_unique hS hc.2 hd.2 fun z => ?_
    have hz := h z
    simp only [List.mem_cons] at hz
    constructor
    · intro hm
      rcases hz.1 (.inr hm) with rfl | h1
      · exact (asy (hc.1 z hm) (hc.1 z hm)).elim
      · exact h1
    · intro hm
      rcases hz.2 (.inr hm) with rfl | h1
      · exact (asy (hd.1 z hm) (hd.1 z hm)).elim
      · exact h1
/-- A sort of different numbers by a total order is strictly sorted. -/
theorem sort_strict {lt : Int → Int → Bool} (hS : SWO lt) (ht : ∀ x y, lt x y = false → lt y x = false → x = y) {L : List Int} (hn : L.Nodup) : (Go.Sort.sort lt L.toArray).toList.Pairwise (fun a b => lt a b = true) := by
  obtain ⟨h1, h2, h3⟩ := sort_facts hS L
  have hp : (Go.Sort.sort lt L.toArray).toList.Perm L := by
    obtain ⟨⟨h1, _, h3⟩, _⟩ := pdq_rec (l := bitsLen L.toArray.size) (wb := true) (wp := true) hS (a := 0) (b := L.toArray.size) (d := L.toArray) (Nat.zero_le _) (Nat.le_refl _) (Or.inl rfl)
    have hsz : (Go.Sort.sort lt L.toArray).size = L.length := by unfold Go.Sort.sort; rw [h1]; simp
    have e1 : (Go.Sort.sort lt L.toArray).extract 0 L.toArray.size = Go.Sort.sort lt L.toArray := by
      rw [show L.toArray.size = (Go.Sort.sort lt L.toArray).size by rw [hsz]; simp]; simp
    change ((Go.Sort.sort lt L.toArray).extract 0 L.toArray.size).toList.Perm _ at h3
    rw [e1] at h3
    simpa using h3
  have hnd : (Go.Sort.sort lt L.toArray).toList.Nodup := hp.nodup_iff.2 hn
  rw [List.pairwise_iff_getElem]
  intro i j hi hj hij
  simp only [Array.length_toList] at hi hj
  have hs := h2 i j (Nat.zero_le _) hij (by omega)
  rw [getElem!_pos _ i hi, getElem!_pos _ j hj] at hs
  cases hc : lt (Go.Sort.sort lt L.toArray).toList[i] (Go.Sort.sort lt L.toArray).toList[j] with
  | true => rfl
  | false =>
    exfalso
    have e := ht _ _ hc (by simpa using hs)
    have := (List.pairwise_iff_getElem.1 hnd) i j (by simpa using hi) (by simpa using hj) hij
    exact this e
/-- How many bits are set, one by one. -/
def cntB : Nat → Nat → Nat
  | 0, _ => 0
  | f + 1, n => if n = 0 then 0 else n % 2 + cntB f (n / 2)
def cntN (n : Nat) : Nat := cntB 7 n
theorem cnt_oc : ∀ m < 64, oc m = cntN m := by decide +kernel
/-- The monomials below 2 ^ v of degree k. -/
def monK (v k : Nat) : List Int := ((List.range (2 ^ v)).filter fun m => decide (cntN m = k)).map (fun m : Nat => (m : Int))
/-- The graded list. -/
def gradS (v d : Nat) : List Int := (List.range (d + 1)).flatMap (monK v)
def gradL (v d : Nat) : List Int := ((List.range (2 ^ v)).filter fun m => decide (cntN m ≤ d)).map (fun m : Nat => (m : Int))
theorem ocZ_of {m : Nat} (h : m < 64) : ocZ (m : Int) = cntN m := by unfold ocZ; rw [u64N_of (by omega), cnt_oc m h]
theorem pow_le64 {v : Nat} (h : v ≤ 6) : 2 ^ v ≤ 64 := Nat.pow_le_pow_right (by decide) h
theorem mono_lt {m n : Nat} (hm : m < 64) (hn : n < 64) : ltc cfMono (m : Int) (n : Int) = decide (cntN m < cntN n ∨ cntN m = cntN n ∧ m < n) := by
  unfold cfMono; rw [cf2_lt, ocZ_of hm, ocZ_of hn, decide_eq_decide]; omega
theorem gradS_sorted {v d : Nat} (hv : v ≤ 6) : (gradS v d).Pairwise fun a b => ltc cfMono a b = true := by
  have hp := pow_le64 hv
  unfold gradS
  rw [List.pairwise_flatMap]
  refine ⟨fun k _ => ?_, ?_⟩
  · unfold monK
    rw [List.pairwise_map]
    have h0 : ((List.range (2 ^ v)).filter fun m => decide (cntN m = k)).Pairwise (fun a b : Nat => a < b) := List.Pairwise.filter _ List.pairwise_lt_range
    refine h0.imp_of_mem ?_
    intro a b ha hb hlt
    simp only [List.mem_filter, List.mem_range, decide_eq_true_eq] at ha hb
    rw [mono_lt (by omega) (by omega), decide_eq_true_iff]; omega
  · refine List.pairwise_lt_range.imp fun {k k'} hk x hx y hy => ?_
    unfold monK at hx hy
    simp only [List.mem_map, List.mem_filter, List.mem_range, decide_eq_true_eq] at hx hy
    obtain ⟨m, ⟨h1, h2⟩, rfl⟩ := hx
    obtain ⟨n, ⟨h3, h4⟩, rfl⟩ := hy
    rw [mono_lt (by omega) (by omega), decide_eq_true_iff]; omega
theorem grad_mem {v d : Nat} {x : Int} : x ∈ gradS v d ↔ x ∈ gradL v d := by
  unfold gradS gradL monK
  simp only [List.mem_flatMap, List.mem_map, List.mem_filter, List.mem_range, decide_eq_true_eq]
  constructor
  · rintro ⟨k, hk, m, ⟨h1, h2⟩, rfl⟩; exact ⟨m, ⟨h1, by omega⟩, rfl⟩
  · rintro ⟨m, ⟨h1, h2⟩, rfl⟩; exact ⟨cntN m, by omega, m, ⟨h1, rfl⟩, rfl⟩
theorem gradL_nodup (v d : Nat) : (gradL v d).Nodup := by
  unfold gradL
  rw [List.nodup_iff_pairwise_ne, List.pairwise_map]
  exact (List.Pairwise.filter _ List.pairwise_lt_range).imp fun {a b} h he => by omega
theorem grad_eq {v d : Nat} (hv : v ≤ 6) : (Go.Sort.sort (ltc cfMono) (gradL v d).toArray).toList = gradS v d :=
  lt_unique cfMono_swo (sort_strict cfMono_swo (fun x y => cf2_total (fun a b h => h)) (gradL_nodup v d)) (gradS_sorted hv) fun x => by
    rw [(sort_facts cfMono_swo _).1, grad_mem]
end Go.Av
namespace Go.Av
open Go Go.Sort
theorem filt_yes {p : Nat → Bool} {i : Nat} (h : p i = true) : ((List.range (i + 1)).filter p).map (fun m : Nat => (m : Int)) = ((List.range i).filter p).map (fun m : Nat => (m : Int)) ++ [(i : Int)] := by
  rw [List.range_succ, List.filter_append]; simp [h]
theorem filt_no {p : Nat → Bool} {i : Nat} (h : p i = false) : ((List.range (i + 1)).filter p).map (fun m : Nat => (m : Int)) = ((List.range i).filter p).map (fun m : Nat => (m : Int)) := by
  rw [List.range_succ, List.filter_append]; simp [h]
theorem sort_sz {lt : Int → Int → Bool} (hS : SWO lt) (L : List Int) : (Go.Sort.sort lt L.toArray).size = L.length := (sort_facts hS L).2.2
end Go.Av
namespace Go.Av
theorem cntB_step {f p : Nat} (h : 0 < p) (hf : p < 2 ^ f) : 1 ≤ f ∧ p / 2 < 2 ^ (f - 1) ∧ cntB f p = p % 2 + cntB (f - 1) (p / 2) := by
  cases f with
  | zero => simp at hf; omega
  | succ f =>
    refine ⟨by omega, ?_, ?_⟩
    · rw [Nat.pow_succ] at hf; simp; omega
    · rw [cntB, if_neg (by omega)]; rfl
theorem cntB_zero (f : Nat) : cntB f 0 = 0 := by cases f <;> rfl
/-- The numbers below m of degree k. -/
def partK (k m : Nat) : List Int := ((List.range m).filter fun m => decide (cntN m = k)).map (fun m : Nat => (m : Int))
theorem partK_len (k m : Nat) : (partK k m).length ≤ m := by
  have := List.length_filter_le (fun m => decide (cntN m = k)) (List.range m)
  unfold partK; simp at this ⊢; omega
theorem partK_yes {k m : Nat} (h : cntN m = k) : partK k (m + 1) = partK k m ++ [(m : Int)] := filt_yes (by simp [h])
theorem partK_no {k m : Nat} (h : ¬ cntN m = k) : partK k (m + 1) = partK k m := filt_no (by simp [h])
/-- The first k degrees. -/
def firstK (v k : Nat) : List Int := (List.range k).flatMap (monK v)
theorem firstK_succ (v k : Nat) : firstK v (k + 1) = firstK v k ++ partK k (2 ^ v) := by
  unfold firstK; rw [List.range_succ, List.flatMap_append]; simp [monK, partK]
theorem firstK_len {v : Nat} (hv : v ≤ 6) : ∀ k, (firstK v k).length ≤ k * 64
  | 0 => by simp [firstK]
  | k + 1 => by
    rw [firstK_succ, List.length_append]
    have := firstK_len hv k
    have := partK_len k (2 ^ v)
    have := pow_le64 hv
    omega
theorem gradS_len {v d : Nat} (hv : v ≤ 6) (hd : d ≤ 6) : (gradS v d).length ≤ 448 := by
  have := firstK_len hv (d + 1); unfold firstK at this; unfold gradS; omega
end Go.Av
namespace Go.Av
open Go Go.Proofs
set_option maxRecDepth 10000
theorem hb158 : hasBody Try.prog 158 = true := by kernel_rfl
theorem hb164 : hasBody Try.prog 164 = true := by kernel_rfl
theorem iss176 : (Try.prog.underlying 176).isSome = true := by kernel_rfl
theorem iss3 : (Try.prog.underlying 3).isSome = true := by kernel_rfl
theorem uni170 : Try.prog.underlying 170 = some (.int .u64) := by kernel_rfl
theorem uni3 : Try.prog.underlying 3 = some (.int .i64) := by kernel_rfl

end Go.Av
namespace Go.Av
open Go Go.Proofs Go.Sort
set_option maxRecDepth 10000


theorem insertion_c (f : Nat) (hb : hasBody Try.prog f = true) (cf : Int → Int → Int) (hc : ∀ x y, ACall Try.prog f [.int .i64 x, .int .i64 y] [] (.int .i64 (cf x y)) []) (d : Array Int) (n a b : Nat) (hd : d.size = n) (hab : a ≤ b ∧ b ≤ n) (hn : n ≤ 4611686018427387904) : ACall Try.prog 165 [.rsl (INH, []) 1 0 n none, .int .i64 ((a : Nat) : Int), .int .i64 ((b : Nat) : Int), .fn f [] []] [.osl 1 (acells d) n none] (.tup []) [.osl 1 (acells (insertionSort (ltc cf) d a b)) n none] := by
  refine ACall.intro Try.func165 rfl (N := 53) rfl (by decide) (by simp) ?_
  refine a_seq ?_
  refine a_region ?_
  refine r_val (v := .int _ _) (v_move (.inl rfl) (noOwn_flat rfl)) rfl rfl (by decide) ?_
  refine r_val (v := .int _ _) (v_add (.inl rfl) (.inl rfl) (fun _ => by omega)) rfl rfl (by decide) ?_
  refine r_val (v := .int _ _) (v_assign (.inl rfl) (noOwn_flat rfl)) rfl rfl (by decide) ?_
  refine r_nil ?_
  refine a_block ?_
  refine a_loop (X := (Nat × Array Int)) (fun x => look [(0, .rsl (INH, []) 1 0 n none), (1, .int .i64 ((a : Nat) : Int)), (2, .int .i64 ((b : Nat) : Int)), (3, .fn f [] []), (8, .int .i64 ((x.1 : Nat) : Int)), (INH, .osl 1 (acells x.2) n none)]) (fun x => a + 1 ≤ x.1 ∧ x.2.size = n ∧ insOuter (ltc cf) a b x.1 x.2 = insertionSort (ltc cf) d a b) (fun x => b - x.1) (a + 1, d) (ent_look ⟨Weak.of_eq rfl, Weak.of_eq rfl, Weak.of_eq rfl, Weak.of_eq rfl, Weak.of_eq (int_eq (by omega)), Weak.of_eq rfl, trivial⟩) ⟨Nat.le_refl _, hd, rfl⟩ (fun x hG => ?_)
  obtain ⟨g1, g2, g3⟩ := hG
  refine a_seq ?_
  refine a_seq ?_
  refine a_region ?_
  refine r_val (v := .int _ _) (v_move (.inl rfl) (noOwn_flat rfl)) rfl rfl (by decide) ?_
  refine r_val (v := .int _ _) (v_move (.inl rfl) (noOwn_flat rfl)) rfl rfl (by decide) ?_
  refine r_val (v := .bool _) (v_lss (.inl rfl) (.inl rfl)) rfl rfl (by decide) ?_
  refine r_nil ?_
  refine a_cond rfl (fun ht14 => ?_) (fun ht14 => ?_)
  ·
    skip
    refine a_skip ?_
    refine a_seq ?_
    refine a_block ?_
    refine a_seq ?_
    have hxb : x.1 < b := (by simpa using ht14)
    refine a_region ?_
    refine r_val (v := .int _ _) (v_move (.inl rfl) (noOwn_flat rfl)) rfl rfl (by decide) ?_
    refine r_val (v := .int _ _) (v_assign (.inl rfl) (noOwn_flat rfl)) rfl rfl (by decide) ?_
    refine r_nil ?_
    refine a_block ?_
    refine a_loop (X := (Nat × Array Int)) (fun y => look [(0, .rsl (INH, []) 1 0 n none), (1, .int .i64 ((a : Nat) : Int)), (2, .int .i64 ((b : Nat) : Int)), (3, .fn f [] []), (8, .int .i64 ((x.1 : Nat) : Int)), (9, .int .i64 ((y.1 : Nat) : Int)), (INH, .osl 1 (acells y.2) n none)]) (fun y => a ≤ y.1 ∧ y.1 ≤ x.1 ∧ y.2.size = n ∧ insInner (ltc cf) a y.1 y.2 = insInner (ltc cf) a x.1 x.2) (fun y => y.1) (x.1, x.2) (ent_look ⟨Weak.of_eq rfl, Weak.of_eq rfl, Weak.of_eq rfl, Weak.of_eq rfl, Weak.of_eq rfl, Weak.of_eq rfl, Weak.of_eq rfl, trivial⟩) ⟨by omega, Nat.le_refl _, g2, rfl⟩ (fun y hG => ?_)
    obtain ⟨k1, k2, k3, k4⟩ := hG
    refine a_seq ?_
    refine a_seq ?_
    refine a_region_any mixed (by kernel_rfl) ?_
    refine y_val (v := .int _ _) (v_move (.inl rfl) (noOwn_flat rfl)) rfl rfl (by decide) (by kernel_rfl) ?_
    refine y_val (v := .int _ _) (v_move (.inl rfl) (noOwn_flat rfl)) rfl rfl (by decide) (by kernel_rfl) ?_
    refine y_val (v := .bool _) (v_gtr (.inl rfl) (.inl rfl)) rfl rfl (by decide) (by kernel_rfl) ?_
    refine y_val (v := .bool _) (v_move (.inl rfl) (noOwn_flat rfl)) rfl rfl (by decide) (by kernel_rfl) ?_
    refine y_guard (v := .fn _ _ _) (v_move (.inl rfl) (noOwn_flat rfl)).quiet rfl rfl rfl (by decide) (.inl ⟨_, rfl, rfl⟩) rfl (by decide) (by kernel_rfl) ?_
    refine y_guard (v := .rsl _ _ _ _ _) (v_move (.inl rfl) (noOwn_flat rfl)).quiet rfl rfl rfl (by decide) (.inl ⟨_, rfl, rfl⟩) rfl (by decide) (by kernel_rfl) ?_
    refine y_guard (v := .int _ _) (v_move (.inl rfl) (noOwn_flat rfl)).quiet rfl rfl rfl (by decide) (.inl ⟨_, rfl, rfl⟩) rfl (by decide) (by kernel_rfl) ?_
    refine y_guard (v := .rp _ _) (v_indexAddr_rsl0 es25 (.inr ⟨_, rfl, fun h => h⟩) (.inr ⟨_, rfl, fun h => h⟩) (fun hA => by simp at hA; omega)).quiet rfl rfl rfl (by decide) (.inl ⟨_, rfl, rfl⟩) rfl (by decide) (by kernel_rfl) ?_
    refine y_guard (v := .int .i64 y.2[y.1]!) (v_load_rp1 ta3 (.inr ⟨_, rfl, fun h => h⟩) rfl (fun hA => by simp at hA; rw [Nat.mul_one]; exact acells_get (by omega)) rfl).quiet rfl rfl rfl (by decide) (.inl ⟨_, rfl, rfl⟩) rfl (by decide) (by kernel_rfl) ?_
    refine y_guard (v := .rsl _ _ _ _ _) (v_move (.inl rfl) (noOwn_flat rfl)).quiet rfl rfl rfl (by decide) (.inl ⟨_, rfl, rfl⟩) rfl (by decide) (by kernel_rfl) ?_
    refine y_guard (v := .int _ _) (v_move (.inl rfl) (noOwn_flat rfl)).quiet rfl rfl rfl (by decide) (.inl ⟨_, rfl, rfl⟩) rfl (by decide) (by kernel_rfl) ?_
    refine y_guard (v := .int _ _) (v_sub (.inr ⟨_, rfl, fun h => h⟩) (.inl rfl) (fun hA => by simp at hA; omega)).quiet rfl rfl rfl (by decide) (.inl ⟨_, rfl, rfl⟩) rfl (by decide) (by kernel_rfl) ?_
    refine y_guard (v := .rp _ _) (v_indexAddr_rsl0 es25 (.inr ⟨_, rfl, fun h => h⟩) (.inr ⟨_, rfl, fun h => h⟩) (fun hA => by simp at hA; omega)).quiet rfl rfl rfl (by decide) (.inl ⟨_, rfl, rfl⟩) rfl (by decide) (by kernel_rfl) ?_
    refine y_guard (v := .int .i64 y.2[y.1 - 1]!) (v_load_rp1 ta3 (.inr ⟨_, rfl, fun h => h⟩) rfl (fun hA => by simp at hA; rw [show ((y.1 : Int) - 1).toNat = y.1 - 1 by omega, Nat.mul_one]; exact acells_get (by omega)) rfl).quiet rfl rfl rfl (by decide) (.inl ⟨_, rfl, rfl⟩) rfl (by decide) (by kernel_rfl) ?_
    refine y_guard (v := .int _ _) (q_clo (vs := [.int _ _, .int _ _]) (args := [.int .i64 _, .int .i64 _]) hb (.inr ⟨_, rfl, fun h => h⟩) ⟨.inr ⟨_, rfl, fun h => h⟩, .inr ⟨_, rfl, fun h => h⟩, trivial⟩ rfl (fun hA => hc _ _) rfl rfl) rfl rfl rfl (by decide) (.inl ⟨_, rfl, rfl⟩) rfl (by decide) (by kernel_rfl) ?_
    refine y_guard (v := .bool _) (v_lss (.inr ⟨_, rfl, fun h => h⟩) (.inl rfl)).quiet rfl rfl rfl (by decide) (.inl ⟨_, rfl, rfl⟩) rfl (by decide) (by kernel_rfl) ?_
    refine y_val (v := .bool _) (v_pick (.inl rfl) (.inr ⟨_, rfl, fun h h2 => by simp_all⟩) (.inl rfl)) rfl rfl (by decide) (by kernel_rfl) ?_
    refine y_nil ?_
    refine a_cond rfl (fun ht34 => ?_) (fun ht34 => ?_)
    ·
      skip
      refine a_skip ?_
      refine a_seq ?_
      refine a_block ?_
      have hjl : a < y.1 ∧ ltc cf y.2[y.1]! y.2[y.1 - 1]! = true := (by simpa [ltc] using ht34)
      obtain ⟨hj, hl⟩ := hjl
      have hp1 : y.1 * 1 + 1 ≤ (acells y.2).length := (by rw [acells_length]; omega)
      have hp2 : (y.1 - 1) * 1 + 1 ≤ ((acells y.2).set (y.1 * 1) (.int .i64 y.2[(y.1 - 1)]!)).length := (by rw [List.length_set, acells_length]; omega)
      have hset : ((acells y.2).set (y.1 * 1) (.int .i64 y.2[(y.1 - 1)]!)).set ((y.1 - 1) * 1) (.int .i64 y.2[y.1]!) = acells (swp y.2 y.1 (y.1 - 1)) := (by rw [Nat.mul_one, Nat.mul_one]; exact acells_swp _ _ _)
      refine a_region_w [(37, true), (38, true), (39, true), (40, true), (41, true), (42, true), (43, true), (44, true), (45, true), (46, true), (47, true), (48, true), (49, true), (50, true), (51, true), (INH, false), (52, true), (INH, false)] mixed (by kernel_rfl) ?_
      refine w_val (v := .rsl _ _ _ _ _) (v_move (.inl rfl) (noOwn_flat rfl)) rfl rfl (by decide) rfl (by kernel_rfl) ?_
      refine w_val (v := .int _ _) (v_move (.inl rfl) (noOwn_flat rfl)) rfl rfl (by decide) rfl (by kernel_rfl) ?_
      refine w_val (v := .rsl _ _ _ _ _) (v_move (.inl rfl) (noOwn_flat rfl)) rfl rfl (by decide) rfl (by kernel_rfl) ?_
      refine w_val (v := .int _ _) (v_move (.inl rfl) (noOwn_flat rfl)) rfl rfl (by decide) rfl (by kernel_rfl) ?_
      refine w_val (v := .int .i64 ((y.1 - 1 : Nat) : Int)) ((v_sub (.inl rfl) (.inl rfl) (fun _ => by omega)).cast (int_eq (by omega))) rfl rfl (by decide) rfl (by kernel_rfl) ?_
      refine w_val (v := .rsl _ _ _ _ _) (v_move (.inl rfl) (noOwn_flat rfl)) rfl rfl (by decide) rfl (by kernel_rfl) ?_
      refine w_val (v := .int _ _) (v_move (.inl rfl) (noOwn_flat rfl)) rfl rfl (by decide) rfl (by kernel_rfl) ?_
      refine w_val (v := .int .i64 ((y.1 - 1 : Nat) : Int)) ((v_sub (.inl rfl) (.inl rfl) (fun _ => by omega)).cast (int_eq (by omega))) rfl rfl (by decide) rfl (by kernel_rfl) ?_
      refine w_val (v := .rp _ _) (v_indexAddr_rsl0 es25 (.inl rfl) (.inl rfl) (fun _ => by omega)) rfl rfl (by decide) rfl (by kernel_rfl) ?_
      refine w_val (v := .int .i64 y.2[y.1 - 1]!) (v_load_rp1 ta3 (.inl rfl) rfl (fun _ => by rw [Nat.mul_one]; exact acells_get (by omega)) rfl) rfl rfl (by decide) rfl (by kernel_rfl) ?_
      refine w_val (v := .rsl _ _ _ _ _) (v_move (.inl rfl) (noOwn_flat rfl)) rfl rfl (by decide) rfl (by kernel_rfl) ?_
      refine w_val (v := .int _ _) (v_move (.inl rfl) (noOwn_flat rfl)) rfl rfl (by decide) rfl (by kernel_rfl) ?_
      refine w_val (v := .rp _ _) (v_indexAddr_rsl0 es25 (.inl rfl) (.inl rfl) (fun _ => by omega)) rfl rfl (by decide) rfl (by kernel_rfl) ?_
      refine w_val (v := .int .i64 y.2[y.1]!) (v_load_rp1 ta3 (.inl rfl) rfl (fun _ => by rw [Nat.mul_one]; exact acells_get (by omega)) rfl) rfl rfl (by decide) rfl (by kernel_rfl) ?_
      refine w_val (v := .rp _ _) (v_indexAddr_rsl0 es25 (.inl rfl) (.inl rfl) (fun _ => by omega)) rfl rfl (by decide) rfl (by kernel_rfl) ?_
      refine w_store (v := .int _ _) (y' := .osl _ _ _ _) rfl rfl rfl ta3 (.inl rfl) (.inl rfl) rfl rfl rfl rfl rfl rfl hp1 (by decide) rfl rfl rfl (by kernel_rfl) ?_
      refine w_val (v := .rp _ _) (v_indexAddr_rsl0 es25 (.inl rfl) (.inl rfl) (fun _ => by omega)) rfl rfl (by decide) rfl (by kernel_rfl) ?_
      refine w_store (v := .int _ _) (y' := .osl _ _ _ _) rfl rfl rfl ta3 (.inl rfl) (.inl rfl) rfl rfl rfl rfl rfl rfl hp2 (by decide) rfl (congrArg (fun c => AV.osl 1 c n none) hset) rfl (by kernel_rfl) ?_
      refine w_nil ?_
      refine a_pre (ent_look (L := [(0, .rsl _ _ _ _ _), (1, .int _ _), (2, .int _ _), (3, .fn _ _ _), (8, .int _ _), (9, .int _ _), (INH, .osl _ _ _ _)]) ⟨Weak.rfl, Weak.rfl, Weak.rfl, Weak.rfl, Weak.rfl, Weak.rfl, Weak.rfl, trivial⟩) ?_
      refine a_region ?_
      refine r_val (v := .int _ _) (v_move (.inl rfl) (noOwn_flat rfl)) rfl rfl (by decide) ?_
      refine r_val (v := .int _ _) (v_sub (.inl rfl) (.inl rfl) (fun _ => by omega)) rfl rfl (by decide) ?_
      refine r_val (v := .int _ _) (v_assign (.inl rfl) (noOwn_flat rfl)) rfl rfl (by decide) ?_
      refine r_nil ?_
      refine ⟨(y.1 - 1, swp y.2 y.1 (y.1 - 1)), ent_look ⟨Weak.of_eq rfl, Weak.of_eq rfl, Weak.of_eq rfl, Weak.of_eq rfl, Weak.of_eq rfl, Weak.of_eq (int_eq (by omega)), Weak.of_eq rfl, trivial⟩, ⟨by omega, by omega, by rw [swp_size]; exact k3, by rw [← k4, insInner_more hj hl]⟩, by omega⟩
    ·
      skip
      refine a_exit ?_
      have hdone : insInner (ltc cf) a y.1 y.2 = y.2 := insInner_stop (by simpa [ltc] using ht34)
      refine a_region ?_
      refine r_val (v := .int _ _) (v_move (.inl rfl) (noOwn_flat rfl)) rfl rfl (by decide) ?_
      refine r_val (v := .int _ _) (v_add (.inl rfl) (.inl rfl) (fun _ => by omega)) rfl rfl (by decide) ?_
      refine r_val (v := .int _ _) (v_assign (.inl rfl) (noOwn_flat rfl)) rfl rfl (by decide) ?_
      refine r_nil ?_
      refine ⟨(x.1 + 1, y.2), ent_look ⟨Weak.of_eq rfl, Weak.of_eq rfl, Weak.of_eq rfl, Weak.of_eq rfl, Weak.of_eq (int_eq (by omega)), Weak.of_eq rfl, trivial⟩, ⟨by omega, k3, by rw [← g3, insOuter.eq_1 _ _ _ x.1, if_pos hxb, ← k4, hdone]⟩, by omega⟩
  ·
    skip
    refine a_exit ?_
    refine ret0_look Try.results165 (by decide) ?_ rfl
    exact Weak.of_eq (osl_eq (by rw [← g3, insOuter.eq_1 _ _ _ x.1, if_neg (by simpa using ht14)]))
end Go.Av
namespace Go.Av
open Go Go.Proofs Go.Sort
set_option maxRecDepth 10000
theorem hb176 : hasBody Try.prog 176 = true := by kernel_rfl

theorem siftDown_c (f : Nat) (hb : hasBody Try.prog f = true) (cf : Int → Int → Int) (hc : ∀ x y, ACall Try.prog f [.int .i64 x, .int .i64 y] [] (.int .i64 (cf x y)) []) (d : Array Int) (n lo hi first : Nat) (hd : d.size = n) (hab : first + hi ≤ n ∧ lo ≤ n) (hn : n ≤ 1152921504606846976) : ACall Try.prog 176 [.rsl (INH, []) 1 0 n none, .int .i64 ((lo : Nat) : Int), .int .i64 ((hi : Nat) : Int), .int .i64 ((first : Nat) : Int), .fn f [] []] [.osl 1 (acells d) n none] (.tup []) [.osl 1 (acells (siftDown (ltc cf) hi first lo d)) n none] := by
  refine ACall.intro Try.func176 rfl (N := 82) rfl (by decide) (by simp) ?_
  refine a_seq ?_
  refine a_region ?_
  refine r_val (v := .int _ _) (v_move (.inl rfl) (noOwn_flat rfl)) rfl rfl (by decide) ?_
  refine r_val (v := .int _ _) (v_assign (.inl rfl) (noOwn_flat rfl)) rfl rfl (by decide) ?_
  refine r_nil ?_
  refine a_block ?_
  refine a_loop (X := (Nat × Array Int)) (fun x => look [(0, .rsl (INH, []) 1 0 n none), (2, .int .i64 ((hi : Nat) : Int)), (3, .int .i64 ((first : Nat) : Int)), (4, .fn f [] []), (10, .int .i64 ((x.1 : Nat) : Int)), (INH, .osl 1 (acells x.2) n none)]) (fun x => x.1 ≤ n ∧ x.2.size = n ∧ siftDown (ltc cf) hi first x.1 x.2 = siftDown (ltc cf) hi first lo d) (fun x => hi - x.1) (lo, d) (ent_look ⟨Weak.of_eq rfl, Weak.of_eq rfl, Weak.of_eq rfl, Weak.of_eq rfl, Weak.of_eq rfl, Weak.of_eq rfl, trivial⟩) ⟨by omega, hd, rfl⟩ (fun x hG => ?_)
  obtain ⟨g1, g2, g3⟩ := hG
  refine a_block ?_
  refine a_seq ?_
  refine a_region ?_
  refine r_val (v := .int _ _) (v_move (.inl rfl) (noOwn_flat rfl)) rfl rfl (by decide) ?_
  refine r_val (v := .int _ _) (v_mul (.inl rfl) (.inl rfl) (fun _ => by omega)) rfl rfl (by decide) ?_
  refine r_val (v := .int .i64 ((2 * x.1 + 1 : Nat) : Int)) ((v_add (.inl rfl) (.inl rfl) (fun _ => by omega)).cast (int_eq (by omega))) rfl rfl (by decide) ?_
  refine r_val (v := .int _ _) (v_assign (.inl rfl) (noOwn_flat rfl)) rfl rfl (by decide) ?_
  refine r_nil ?_
  refine a_seq ?_
  refine a_seq ?_
  refine a_region ?_
  refine r_val (v := .int _ _) (v_move (.inl rfl) (noOwn_flat rfl)) rfl rfl (by decide) ?_
  refine r_val (v := .int _ _) (v_move (.inl rfl) (noOwn_flat rfl)) rfl rfl (by decide) ?_
  refine r_val (v := .bool _) (v_geq (.inl rfl) (.inl rfl)) rfl rfl (by decide) ?_
  refine r_nil ?_
  refine a_cond rfl (fun ht18 => ?_) (fun ht18 => ?_)
  ·
    skip
    refine a_exit ?_
    refine ret0_look Try.results176 (by decide) ?_ rfl
    exact Weak.of_eq (osl_eq (by rw [← g3, sift_end (by simp at ht18; omega)]))
  ·
    skip
    refine a_skip ?_
    refine a_seq ?_
    refine a_seq ?_
    have hch : 2 * x.1 + 1 < hi := (by simp at ht18; omega)
    have hcb := chi_bd (lt := ltc cf) (hi := hi) (first := first) (r := x.1) (d := x.2) hch
    refine a_region_any mixed (by kernel_rfl) ?_
    refine y_val (v := .int _ _) (v_move (.inl rfl) (noOwn_flat rfl)) rfl rfl (by decide) (by kernel_rfl) ?_
    refine y_val (v := .int _ _) (v_add (.inl rfl) (.inl rfl) (fun _ => by omega)) rfl rfl (by decide) (by kernel_rfl) ?_
    refine y_val (v := .int _ _) (v_move (.inl rfl) (noOwn_flat rfl)) rfl rfl (by decide) (by kernel_rfl) ?_
    refine y_val (v := .bool _) (v_lss (.inl rfl) (.inl rfl)) rfl rfl (by decide) (by kernel_rfl) ?_
    refine y_val (v := .bool _) (v_move (.inl rfl) (noOwn_flat rfl)) rfl rfl (by decide) (by kernel_rfl) ?_
    refine y_guard (v := .fn _ _ _) (v_move (.inl rfl) (noOwn_flat rfl)).quiet rfl rfl rfl (by decide) (.inl ⟨_, rfl, rfl⟩) rfl (by decide) (by kernel_rfl) ?_
    refine y_guard (v := .rsl _ _ _ _ _) (v_move (.inl rfl) (noOwn_flat rfl)).quiet rfl rfl rfl (by decide) (.inl ⟨_, rfl, rfl⟩) rfl (by decide) (by kernel_rfl) ?_
    refine y_guard (v := .int _ _) (v_move (.inl rfl) (noOwn_flat rfl)).quiet rfl rfl rfl (by decide) (.inl ⟨_, rfl, rfl⟩) rfl (by decide) (by kernel_rfl) ?_
    refine y_guard (v := .int _ _) (v_move (.inl rfl) (noOwn_flat rfl)).quiet rfl rfl rfl (by decide) (.inl ⟨_, rfl, rfl⟩) rfl (by decide) (by kernel_rfl) ?_
    refine y_guard (v := .int .i64 ((first + (2 * x.1 + 1) : Nat) : Int)) ((v_add (.inr ⟨_, rfl, fun h => h⟩) (.inr ⟨_, rfl, fun h => h⟩) (fun _ => by omega)).cast (int_eq (by omega))).quiet rfl rfl rfl (by decide) (.inl ⟨_, rfl, rfl⟩) rfl (by decide) (by kernel_rfl) ?_
    refine y_guard (v := .rp _ _) (v_indexAddr_rsl0 es25 (.inr ⟨_, rfl, fun h => h⟩) (.inr ⟨_, rfl, fun h => h⟩) (fun hA => by simp at hA; omega)).quiet rfl rfl rfl (by decide) (.inl ⟨_, rfl, rfl⟩) rfl (by decide) (by kernel_rfl) ?_
    refine y_guard (v := .int .i64 x.2[first + (2 * x.1 + 1)]!) (v_load_rp1 ta3 (.inr ⟨_, rfl, fun h => h⟩) rfl (fun _ => by rw [Nat.mul_one]; exact acells_get (by omega)) rfl).quiet rfl rfl rfl (by decide) (.inl ⟨_, rfl, rfl⟩) rfl (by decide) (by kernel_rfl) ?_
    refine y_guard (v := .rsl _ _ _ _ _) (v_move (.inl rfl) (noOwn_flat rfl)).quiet rfl rfl rfl (by decide) (.inl ⟨_, rfl, rfl⟩) rfl (by decide) (by kernel_rfl) ?_
    refine y_guard (v := .int _ _) (v_move (.inl rfl) (noOwn_flat rfl)).quiet rfl rfl rfl (by decide) (.inl ⟨_, rfl, rfl⟩) rfl (by decide) (by kernel_rfl) ?_
    refine y_guard (v := .int _ _) (v_move (.inl rfl) (noOwn_flat rfl)).quiet rfl rfl rfl (by decide) (.inl ⟨_, rfl, rfl⟩) rfl (by decide) (by kernel_rfl) ?_
    refine y_guard (v := .int _ _) (v_add (.inr ⟨_, rfl, fun h => h⟩) (.inr ⟨_, rfl, fun h => h⟩) (fun _ => by omega)).quiet rfl rfl rfl (by decide) (.inl ⟨_, rfl, rfl⟩) rfl (by decide) (by kernel_rfl) ?_
    refine y_guard (v := .int .i64 ((first + (2 * x.1 + 1) + 1 : Nat) : Int)) ((v_add (.inr ⟨_, rfl, fun h => h⟩) (.inl rfl) (fun _ => by omega)).cast (int_eq (by omega))).quiet rfl rfl rfl (by decide) (.inl ⟨_, rfl, rfl⟩) rfl (by decide) (by kernel_rfl) ?_
    refine y_guard (v := .rp _ _) (v_indexAddr_rsl0 es25 (.inr ⟨_, rfl, fun h => h⟩) (.inr ⟨_, rfl, fun h => h⟩) (fun hA => by simp at hA; omega)).quiet rfl rfl rfl (by decide) (.inl ⟨_, rfl, rfl⟩) rfl (by decide) (by kernel_rfl) ?_
    refine y_guard (v := .int .i64 x.2[first + (2 * x.1 + 1) + 1]!) (v_load_rp1 ta3 (.inr ⟨_, rfl, fun h => h⟩) rfl (fun hA => by simp at hA; rw [Nat.mul_one]; exact acells_get (by omega)) rfl).quiet rfl rfl rfl (by decide) (.inl ⟨_, rfl, rfl⟩) rfl (by decide) (by kernel_rfl) ?_
    refine y_guard (v := .int _ _) (q_clo (vs := [.int _ _, .int _ _]) (args := [.int .i64 _, .int .i64 _]) hb (.inr ⟨_, rfl, fun h => h⟩) ⟨.inr ⟨_, rfl, fun h => h⟩, .inr ⟨_, rfl, fun h => h⟩, trivial⟩ rfl (fun hA => hc _ _) rfl rfl) rfl rfl rfl (by decide) (.inl ⟨_, rfl, rfl⟩) rfl (by decide) (by kernel_rfl) ?_
    refine y_guard (v := .bool _) (v_lss (.inr ⟨_, rfl, fun h => h⟩) (.inl rfl)).quiet rfl rfl rfl (by decide) (.inl ⟨_, rfl, rfl⟩) rfl (by decide) (by kernel_rfl) ?_
    refine y_val (v := .bool _) (v_pick (.inl rfl) (.inr ⟨_, rfl, fun h h2 => by simp_all⟩) (.inl rfl)) rfl rfl (by decide) (by kernel_rfl) ?_
    refine y_nil ?_
    refine a_cond rfl (fun ht40 => ?_) (fun ht40 => ?_)
    ·
      skip
      refine a_pre (ent_look (L := [(0, .rsl _ _ _ _ _), (2, .int _ _), (3, .int _ _), (4, .fn _ _ _), (10, .int _ _), (11, .int _ _), (INH, .osl _ _ _ _)]) ⟨Weak.rfl, Weak.rfl, Weak.rfl, Weak.rfl, Weak.rfl, Weak.rfl, Weak.rfl, trivial⟩) ?_
      refine a_region ?_
      refine r_val (v := .int _ _) (v_move (.inl rfl) (noOwn_flat rfl)) rfl rfl (by decide) ?_
      refine r_val (v := .int .i64 ((2 * x.1 + 2 : Nat) : Int)) ((v_add (.inl rfl) (.inl rfl) (fun _ => by omega)).cast (int_eq (by omega))) rfl rfl (by decide) ?_
      refine r_val (v := .int _ _) (v_assign (.inl rfl) (noOwn_flat rfl)) rfl rfl (by decide) ?_
      refine r_nil ?_
      refine a_seq ?_
      refine a_seq ?_
      have hcc : (decide (2 * x.1 + 1 + 1 < hi) && ltc cf x.2[first + (2 * x.1 + 1)]! x.2[first + (2 * x.1 + 1) + 1]!) = (bif decide (((2 * x.1 + 1 : Nat) : Int) + 1 < (hi : Int)) then decide (cf x.2[first + (2 * x.1 + 1)]! x.2[first + (2 * x.1 + 1) + 1]! < 0) else false) := (by rw [decide_eq_decide.2 (show 2 * x.1 + 1 + 1 < hi ↔ ((2 * x.1 + 1 : Nat) : Int) + 1 < (hi : Int) by omega)]; cases decide (((2 * x.1 + 1 : Nat) : Int) + 1 < (hi : Int)) <;> rfl)
      refine a_pre (ent_eq (t := 11) (v' := .int .i64 (((chi (ltc cf) hi first x.1 x.2) : Nat) : Int)) (Weak.of_eq (int_eq (by unfold chi; first | (rw [if_pos (by rw [hcc]; exact ht40)]; done) | (rw [if_neg (by rw [hcc, ht40]; decide)])))) ) ?_
      have hsw := sift_eq (lt := ltc cf) (hi := hi) (first := first) (r := x.1) (d := x.2) hch
      refine a_region_any mixed (by kernel_rfl) ?_
      refine y_val (v := .fn _ _ _) (v_mv rfl) rfl rfl (by decide) (by kernel_rfl) ?_
      refine y_val (v := .rsl _ _ _ _ _) (v_move (.inl rfl) (noOwn_flat rfl)) rfl rfl (by decide) (by kernel_rfl) ?_
      refine y_val (v := .int _ _) (v_move (.inl rfl) (noOwn_flat rfl)) rfl rfl (by decide) (by kernel_rfl) ?_
      refine y_val (v := .int _ _) (v_move (.inl rfl) (noOwn_flat rfl)) rfl rfl (by decide) (by kernel_rfl) ?_
      refine y_val (v := .int .i64 ((first + x.1 : Nat) : Int)) ((v_add (.inl rfl) (.inl rfl) (fun _ => by omega)).cast (int_eq (by omega))) rfl rfl (by decide) (by kernel_rfl) ?_
      refine y_val (v := .rp _ _) (v_indexAddr_rsl0 es25 (.inl rfl) (.inl rfl) (fun _ => by omega)) rfl rfl (by decide) (by kernel_rfl) ?_
      refine y_val (v := .int .i64 x.2[first + x.1]!) (v_load_rp1 ta3 (.inl rfl) rfl (fun _ => by rw [Nat.mul_one]; exact acells_get (by omega)) rfl) rfl rfl (by decide) (by kernel_rfl) ?_
      refine y_val (v := .rsl _ _ _ _ _) (v_move (.inl rfl) (noOwn_flat rfl)) rfl rfl (by decide) (by kernel_rfl) ?_
      refine y_val (v := .int _ _) (v_move (.inl rfl) (noOwn_flat rfl)) rfl rfl (by decide) (by kernel_rfl) ?_
      refine y_val (v := .int _ _) (v_move (.inl rfl) (noOwn_flat rfl)) rfl rfl (by decide) (by kernel_rfl) ?_
      refine y_val (v := .int .i64 ((first + (chi (ltc cf) hi first x.1 x.2) : Nat) : Int)) ((v_add (.inl rfl) (.inl rfl) (fun _ => by omega)).cast (int_eq (by omega))) rfl rfl (by decide) (by kernel_rfl) ?_
      refine y_val (v := .rp _ _) (v_indexAddr_rsl0 es25 (.inl rfl) (.inl rfl) (fun _ => by omega)) rfl rfl (by decide) (by kernel_rfl) ?_
      refine y_val (v := .int .i64 x.2[first + (chi (ltc cf) hi first x.1 x.2)]!) (v_load_rp1 ta3 (.inl rfl) rfl (fun _ => by rw [Nat.mul_one]; exact acells_get (by omega)) rfl) rfl rfl (by decide) (by kernel_rfl) ?_
      refine y_new (v := .int _ _) (q_clo (vs := [.int _ _, .int _ _]) (args := [.int .i64 _, .int .i64 _]) hb (.inl rfl) ⟨.inl rfl, .inl rfl, trivial⟩ rfl (fun hA => hc _ _) rfl rfl) rfl rfl (by decide) (by kernel_rfl) ?_
      refine y_val (v := .bool _) (v_lss (.inl rfl) (.inl rfl)) rfl rfl (by decide) (by kernel_rfl) ?_
      refine y_val (v := .bool _) (v_not (.inl rfl)) rfl rfl (by decide) (by kernel_rfl) ?_
      refine y_nil ?_
      refine a_cond rfl (fun ht58 => ?_) (fun ht58 => ?_)
      ·
        skip
        refine a_ret ?_
        refine ret0_look Try.results176 (by decide) ?_ rfl
        exact Weak.of_eq (osl_eq (by rw [← g3, hsw, if_neg (by simpa [ltc] using ht58)]))
      ·
        skip
        refine a_skip ?_
        refine a_seq ?_
        have hl : ltc cf x.2[first + x.1]! x.2[first + (chi (ltc cf) hi first x.1 x.2)]! = true := (by simpa [ltc] using ht58)
        have hp1 : (first + x.1) * 1 + 1 ≤ (acells x.2).length := (by rw [acells_length]; omega)
        have hp2 : (first + (chi (ltc cf) hi first x.1 x.2)) * 1 + 1 ≤ ((acells x.2).set ((first + x.1) * 1) (.int .i64 x.2[(first + (chi (ltc cf) hi first x.1 x.2))]!)).length := (by rw [List.length_set, acells_length]; omega)
        have hset : ((acells x.2).set ((first + x.1) * 1) (.int .i64 x.2[(first + (chi (ltc cf) hi first x.1 x.2))]!)).set ((first + (chi (ltc cf) hi first x.1 x.2)) * 1) (.int .i64 x.2[(first + x.1)]!) = acells (swp x.2 (first + x.1) (first + (chi (ltc cf) hi first x.1 x.2))) := (by rw [Nat.mul_one, Nat.mul_one]; exact acells_swp _ _ _)
        refine a_region_w [(59, true), (60, true), (61, true), (62, true), (63, true), (64, true), (65, true), (66, true), (67, true), (68, true), (69, true), (70, true), (71, true), (72, true), (73, true), (74, true), (75, true), (76, true), (77, true), (78, true), (79, true), (INH, false), (80, true), (INH, false)] mixed (by kernel_rfl) ?_
        refine w_val (v := .rsl _ _ _ _ _) (v_move (.inl rfl) (noOwn_flat rfl)) rfl rfl (by decide) rfl (by kernel_rfl) ?_
        refine w_val (v := .int _ _) (v_move (.inl rfl) (noOwn_flat rfl)) rfl rfl (by decide) rfl (by kernel_rfl) ?_
        refine w_val (v := .int _ _) (v_move (.inl rfl) (noOwn_flat rfl)) rfl rfl (by decide) rfl (by kernel_rfl) ?_
        refine w_val (v := .int .i64 ((first + x.1 : Nat) : Int)) ((v_add (.inl rfl) (.inl rfl) (fun _ => by omega)).cast (int_eq (by omega))) rfl rfl (by decide) rfl (by kernel_rfl) ?_
        refine w_val (v := .rsl _ _ _ _ _) (v_move (.inl rfl) (noOwn_flat rfl)) rfl rfl (by decide) rfl (by kernel_rfl) ?_
        refine w_val (v := .int _ _) (v_move (.inl rfl) (noOwn_flat rfl)) rfl rfl (by decide) rfl (by kernel_rfl) ?_
        refine w_val (v := .int _ _) (v_move (.inl rfl) (noOwn_flat rfl)) rfl rfl (by decide) rfl (by kernel_rfl) ?_
        refine w_val (v := .int .i64 ((first + (chi (ltc cf) hi first x.1 x.2) : Nat) : Int)) ((v_add (.inl rfl) (.inl rfl) (fun _ => by omega)).cast (int_eq (by omega))) rfl rfl (by decide) rfl (by kernel_rfl) ?_
        refine w_val (v := .rsl _ _ _ _ _) (v_move (.inl rfl) (noOwn_flat rfl)) rfl rfl (by decide) rfl (by kernel_rfl) ?_
        refine w_val (v := .int _ _) (v_move (.inl rfl) (noOwn_flat rfl)) rfl rfl (by decide) rfl (by kernel_rfl) ?_
        refine w_val (v := .int _ _) (v_move (.inl rfl) (noOwn_flat rfl)) rfl rfl (by decide) rfl (by kernel_rfl) ?_
        refine w_val (v := .int .i64 ((first + (chi (ltc cf) hi first x.1 x.2) : Nat) : Int)) ((v_add (.inl rfl) (.inl rfl) (fun _ => by omega)).cast (int_eq (by omega))) rfl rfl (by decide) rfl (by kernel_rfl) ?_
        refine w_val (v := .rp _ _) (v_indexAddr_rsl0 es25 (.inl rfl) (.inl rfl) (fun _ => by omega)) rfl rfl (by decide) rfl (by kernel_rfl) ?_
        refine w_val (v := .int .i64 x.2[first + (chi (ltc cf) hi first x.1 x.2)]!) (v_load_rp1 ta3 (.inl rfl) rfl (fun _ => by rw [Nat.mul_one]; exact acells_get (by omega)) rfl) rfl rfl (by decide) rfl (by kernel_rfl) ?_
        refine w_val (v := .rsl _ _ _ _ _) (v_move (.inl rfl) (noOwn_flat rfl)) rfl rfl (by decide) rfl (by kernel_rfl) ?_
        refine w_val (v := .int _ _) (v_move (.inl rfl) (noOwn_flat rfl)) rfl rfl (by decide) rfl (by kernel_rfl) ?_
        refine w_val (v := .int _ _) (v_move (.inl rfl) (noOwn_flat rfl)) rfl rfl (by decide) rfl (by kernel_rfl) ?_
        refine w_val (v := .int .i64 ((first + x.1 : Nat) : Int)) ((v_add (.inl rfl) (.inl rfl) (fun _ => by omega)).cast (int_eq (by omega))) rfl rfl (by decide) rfl (by kernel_rfl) ?_
        refine w_val (v := .rp _ _) (v_indexAddr_rsl0 es25 (.inl rfl) (.inl rfl) (fun _ => by omega)) rfl rfl (by decide) rfl (by kernel_rfl) ?_
        refine w_val (v := .int .i64 x.2[first + x.1]!) (v_load_rp1 ta3 (.inl rfl) rfl (fun _ => by rw [Nat.mul_one]; exact acells_get (by omega)) rfl) rfl rfl (by decide) rfl (by kernel_rfl) ?_
        refine w_val (v := .rp _ _) (v_indexAddr_rsl0 es25 (.inl rfl) (.inl rfl) (fun _ => by omega)) rfl rfl (by decide) rfl (by kernel_rfl) ?_
        refine w_store (v := .int _ _) (y' := .osl _ _ _ _) rfl rfl rfl ta3 (.inl rfl) (.inl rfl) rfl rfl rfl rfl rfl rfl hp1 (by decide) rfl rfl rfl (by kernel_rfl) ?_
        refine w_val (v := .rp _ _) (v_indexAddr_rsl0 es25 (.inl rfl) (.inl rfl) (fun _ => by omega)) rfl rfl (by decide) rfl (by kernel_rfl) ?_
        refine w_store (v := .int _ _) (y' := .osl _ _ _ _) rfl rfl rfl ta3 (.inl rfl) (.inl rfl) rfl rfl rfl rfl rfl rfl hp2 (by decide) rfl (congrArg (fun c => AV.osl 1 c n none) hset) rfl (by kernel_rfl) ?_
        refine w_nil ?_
        refine a_pre (ent_look (L := [(0, .rsl _ _ _ _ _), (2, .int _ _), (3, .int _ _), (4, .fn _ _ _), (10, .int _ _), (11, .int _ _), (INH, .osl _ _ _ _)]) ⟨Weak.rfl, Weak.rfl, Weak.rfl, Weak.rfl, Weak.rfl, Weak.rfl, Weak.rfl, trivial⟩) ?_
        refine a_region ?_
        refine r_val (v := .int _ _) (v_move (.inl rfl) (noOwn_flat rfl)) rfl rfl (by decide) ?_
        refine r_val (v := .int _ _) (v_assign (.inl rfl) (noOwn_flat rfl)) rfl rfl (by decide) ?_
        refine r_nil ?_
        refine ⟨((chi (ltc cf) hi first x.1 x.2), swp x.2 (first + x.1) (first + (chi (ltc cf) hi first x.1 x.2))), ent_look ⟨Weak.of_eq rfl, Weak.of_eq rfl, Weak.of_eq rfl, Weak.of_eq rfl, Weak.of_eq rfl, Weak.of_eq rfl, trivial⟩, ⟨by omega, by rw [swp_size]; exact g2, by rw [← g3, sift_eq (r := x.1) (by omega), if_pos hl]⟩, by dsimp only; omega⟩
    ·
      skip
      refine a_skip ?_
      refine a_seq ?_
      refine a_seq ?_
      refine a_pre (ent_look (L := [(0, .rsl _ _ _ _ _), (2, .int _ _), (3, .int _ _), (4, .fn _ _ _), (10, .int _ _), (11, .int _ _), (INH, .osl _ _ _ _)]) ⟨Weak.rfl, Weak.rfl, Weak.rfl, Weak.rfl, Weak.rfl, Weak.rfl, Weak.rfl, trivial⟩) ?_
      have hcc : (decide (2 * x.1 + 1 + 1 < hi) && ltc cf x.2[first + (2 * x.1 + 1)]! x.2[first + (2 * x.1 + 1) + 1]!) = (bif decide (((2 * x.1 + 1 : Nat) : Int) + 1 < (hi : Int)) then decide (cf x.2[first + (2 * x.1 + 1)]! x.2[first + (2 * x.1 + 1) + 1]! < 0) else false) := (by rw [decide_eq_decide.2 (show 2 * x.1 + 1 + 1 < hi ↔ ((2 * x.1 + 1 : Nat) : Int) + 1 < (hi : Int) by omega)]; cases decide (((2 * x.1 + 1 : Nat) : Int) + 1 < (hi : Int)) <;> rfl)
      refine a_pre (ent_eq (t := 11) (v' := .int .i64 (((chi (ltc cf) hi first x.1 x.2) : Nat) : Int)) (Weak.of_eq (int_eq (by unfold chi; first | (rw [if_pos (by rw [hcc]; exact ht40)]; done) | (rw [if_neg (by rw [hcc, ht40]; decide)])))) ) ?_
      have hsw := sift_eq (lt := ltc cf) (hi := hi) (first := first) (r := x.1) (d := x.2) hch
      refine a_region_any mixed (by kernel_rfl) ?_
      refine y_val (v := .fn _ _ _) (v_mv rfl) rfl rfl (by decide) (by kernel_rfl) ?_
      refine y_val (v := .rsl _ _ _ _ _) (v_move (.inl rfl) (noOwn_flat rfl)) rfl rfl (by decide) (by kernel_rfl) ?_
      refine y_val (v := .int _ _) (v_move (.inl rfl) (noOwn_flat rfl)) rfl rfl (by decide) (by kernel_rfl) ?_
      refine y_val (v := .int _ _) (v_move (.inl rfl) (noOwn_flat rfl)) rfl rfl (by decide) (by kernel_rfl) ?_
      refine y_val (v := .int .i64 ((first + x.1 : Nat) : Int)) ((v_add (.inl rfl) (.inl rfl) (fun _ => by omega)).cast (int_eq (by omega))) rfl rfl (by decide) (by kernel_rfl) ?_
      refine y_val (v := .rp _ _) (v_indexAddr_rsl0 es25 (.inl rfl) (.inl rfl) (fun _ => by omega)) rfl rfl (by decide) (by kernel_rfl) ?_
      refine y_val (v := .int .i64 x.2[first + x.1]!) (v_load_rp1 ta3 (.inl rfl) rfl (fun _ => by rw [Nat.mul_one]; exact acells_get (by omega)) rfl) rfl rfl (by decide) (by kernel_rfl) ?_
      refine y_val (v := .rsl _ _ _ _ _) (v_move (.inl rfl) (noOwn_flat rfl)) rfl rfl (by decide) (by kernel_rfl) ?_
      refine y_val (v := .int _ _) (v_move (.inl rfl) (noOwn_flat rfl)) rfl rfl (by decide) (by kernel_rfl) ?_
      refine y_val (v := .int _ _) (v_move (.inl rfl) (noOwn_flat rfl)) rfl rfl (by decide) (by kernel_rfl) ?_
      refine y_val (v := .int .i64 ((first + (chi (ltc cf) hi first x.1 x.2) : Nat) : Int)) ((v_add (.inl rfl) (.inl rfl) (fun _ => by omega)).cast (int_eq (by omega))) rfl rfl (by decide) (by kernel_rfl) ?_
      refine y_val (v := .rp _ _) (v_indexAddr_rsl0 es25 (.inl rfl) (.inl rfl) (fun _ => by omega)) rfl rfl (by decide) (by kernel_rfl) ?_
      refine y_val (v := .int .i64 x.2[first + (chi (ltc cf) hi first x.1 x.2)]!) (v_load_rp1 ta3 (.inl rfl) rfl (fun _ => by rw [Nat.mul_one]; exact acells_get (by omega)) rfl) rfl rfl (by decide) (by kernel_rfl) ?_
      refine y_new (v := .int _ _) (q_clo (vs := [.int _ _, .int _ _]) (args := [.int .i64 _, .int .i64 _]) hb (.inl rfl) ⟨.inl rfl, .inl rfl, trivial⟩ rfl (fun hA => hc _ _) rfl rfl) rfl rfl (by decide) (by kernel_rfl) ?_
      refine y_val (v := .bool _) (v_lss (.inl rfl) (.inl rfl)) rfl rfl (by decide) (by kernel_rfl) ?_
      refine y_val (v := .bool _) (v_not (.inl rfl)) rfl rfl (by decide) (by kernel_rfl) ?_
      refine y_nil ?_
      refine a_cond rfl (fun ht58 => ?_) (fun ht58 => ?_)
      ·
        skip
        refine a_ret ?_
        refine ret0_look Try.results176 (by decide) ?_ rfl
        exact Weak.of_eq (osl_eq (by rw [← g3, hsw, if_neg (by simpa [ltc] using ht58)]))
      ·
        skip
        refine a_skip ?_
        refine a_seq ?_
        have hl : ltc cf x.2[first + x.1]! x.2[first + (chi (ltc cf) hi first x.1 x.2)]! = true := (by simpa [ltc] using ht58)
        have hp1 : (first + x.1) * 1 + 1 ≤ (acells x.2).length := (by rw [acells_length]; omega)
        have hp2 : (first + (chi (ltc cf) hi first x.1 x.2)) * 1 + 1 ≤ ((acells x.2).set ((first + x.1) * 1) (.int .i64 x.2[(first + (chi (ltc cf) hi first x.1 x.2))]!)).length := (by rw [List.length_set, acells_length]; omega)
        have hset : ((acells x.2).set ((first + x.1) * 1) (.int .i64 x.2[(first + (chi (ltc cf) hi first x.1 x.2))]!)).set ((first + (chi (ltc cf) hi first x.1 x.2)) * 1) (.int .i64 x.2[(first + x.1)]!) = acells (swp x.2 (first + x.1) (first + (chi (ltc cf) hi first x.1 x.2))) := (by rw [Nat.mul_one, Nat.mul_one]; exact acells_swp _ _ _)
        refine a_region_w [(59, true), (60, true), (61, true), (62, true), (63, true), (64, true), (65, true), (66, true), (67, true), (68, true), (69, true), (70, true), (71, true), (72, true), (73, true), (74, true), (75, true), (76, true), (77, true), (78, true), (79, true), (INH, false), (80, true), (INH, false)] mixed (by kernel_rfl) ?_
        refine w_val (v := .rsl _ _ _ _ _) (v_move (.inl rfl) (noOwn_flat rfl)) rfl rfl (by decide) rfl (by kernel_rfl) ?_
        refine w_val (v := .int _ _) (v_move (.inl rfl) (noOwn_flat rfl)) rfl rfl (by decide) rfl (by kernel_rfl) ?_
        refine w_val (v := .int _ _) (v_move (.inl rfl) (noOwn_flat rfl)) rfl rfl (by decide) rfl (by kernel_rfl) ?_
        refine w_val (v := .int .i64 ((first + x.1 : Nat) : Int)) ((v_add (.inl rfl) (.inl rfl) (fun _ => by omega)).cast (int_eq (by omega))) rfl rfl (by decide) rfl (by kernel_rfl) ?_
        refine w_val (v := .rsl _ _ _ _ _) (v_move (.inl rfl) (noOwn_flat rfl)) rfl rfl (by decide) rfl (by kernel_rfl) ?_
        refine w_val (v := .int _ _) (v_move (.inl rfl) (noOwn_flat rfl)) rfl rfl (by decide) rfl (by kernel_rfl) ?_
        refine w_val (v := .int _ _) (v_move (.inl rfl) (noOwn_flat rfl)) rfl rfl (by decide) rfl (by kernel_rfl) ?_
        refine w_val (v := .int .i64 ((first + (chi (ltc cf) hi first x.1 x.2) : Nat) : Int)) ((v_add (.inl rfl) (.inl rfl) (fun _ => by omega)).cast (int_eq (by omega))) rfl rfl (by decide) rfl (by kernel_rfl) ?_
        refine w_val (v := .rsl _ _ _ _ _) (v_move (.inl rfl) (noOwn_flat rfl)) rfl rfl (by decide) rfl (by kernel_rfl) ?_
        refine w_val (v := .int _ _) (v_move (.inl rfl) (noOwn_flat rfl)) rfl rfl (by decide) rfl (by kernel_rfl) ?_
        refine w_val (v := .int _ _) (v_move (.inl rfl) (noOwn_flat rfl)) rfl rfl (by decide) rfl (by kernel_rfl) ?_
        refine w_val (v := .int .i64 ((first + (chi (ltc cf) hi first x.1 x.2) : Nat) : Int)) ((v_add (.inl rfl) (.inl rfl) (fun _ => by omega)).cast (int_eq (by omega))) rfl rfl (by decide) rfl (by kernel_rfl) ?_
        refine w_val (v := .rp _ _) (v_indexAddr_rsl0 es25 (.inl rfl) (.inl rfl) (fun _ => by omega)) rfl rfl (by decide) rfl (by kernel_rfl) ?_
        refine w_val (v := .int .i64 x.2[first + (chi (ltc cf) hi first x.1 x.2)]!) (v_load_rp1 ta3 (.inl rfl) rfl (fun _ => by rw [Nat.mul_one]; exact acells_get (by omega)) rfl) rfl rfl (by decide) rfl (by kernel_rfl) ?_
        refine w_val (v := .rsl _ _ _ _ _) (v_move (.inl rfl) (noOwn_flat rfl)) rfl rfl (by decide) rfl (by kernel_rfl) ?_
        refine w_val (v := .int _ _) (v_move (.inl rfl) (noOwn_flat rfl)) rfl rfl (by decide) rfl (by kernel_rfl) ?_
        refine w_val (v := .int _ _) (v_move (.inl rfl) (noOwn_flat rfl)) rfl rfl (by decide) rfl (by kernel_rfl) ?_
        refine w_val (v := .int .i64 ((first + x.1 : Nat) : Int)) ((v_add (.inl rfl) (.inl rfl) (fun _ => by omega)).cast (int_eq (by omega))) rfl rfl (by decide) rfl (by kernel_rfl) ?_
        refine w_val (v := .rp _ _) (v_indexAddr_rsl0 es25 (.inl rfl) (.inl rfl) (fun _ => by omega)) rfl rfl (by decide) rfl (by kernel_rfl) ?_
        refine w_val (v := .int .i64 x.2[first + x.1]!) (v_load_rp1 ta3 (.inl rfl) rfl (fun _ => by rw [Nat.mul_one]; exact acells_get (by omega)) rfl) rfl rfl (by decide) rfl (by kernel_rfl) ?_
        refine w_val (v := .rp _ _) (v_indexAddr_rsl0 es25 (.inl rfl) (.inl rfl) (fun _ => by omega)) rfl rfl (by decide) rfl (by kernel_rfl) ?_
        refine w_store (v := .int _ _) (y' := .osl _ _ _ _) rfl rfl rfl ta3 (.inl rfl) (.inl rfl) rfl rfl rfl rfl rfl rfl hp1 (by decide) rfl rfl rfl (by kernel_rfl) ?_
        refine w_val (v := .rp _ _) (v_indexAddr_rsl0 es25 (.inl rfl) (.inl rfl) (fun _ => by omega)) rfl rfl (by decide) rfl (by kernel_rfl) ?_
        refine w_store (v := .int _ _) (y' := .osl _ _ _ _) rfl rfl rfl ta3 (.inl rfl) (.inl rfl) rfl rfl rfl rfl rfl rfl hp2 (by decide) rfl (congrArg (fun c => AV.osl 1 c n none) hset) rfl (by kernel_rfl) ?_
        refine w_nil ?_
        refine a_pre (ent_look (L := [(0, .rsl _ _ _ _ _), (2, .int _ _), (3, .int _ _), (4, .fn _ _ _), (10, .int _ _), (11, .int _ _), (INH, .osl _ _ _ _)]) ⟨Weak.rfl, Weak.rfl, Weak.rfl, Weak.rfl, Weak.rfl, Weak.rfl, Weak.rfl, trivial⟩) ?_
        refine a_region ?_
        refine r_val (v := .int _ _) (v_move (.inl rfl) (noOwn_flat rfl)) rfl rfl (by decide) ?_
        refine r_val (v := .int _ _) (v_assign (.inl rfl) (noOwn_flat rfl)) rfl rfl (by decide) ?_
        refine r_nil ?_
        refine ⟨((chi (ltc cf) hi first x.1 x.2), swp x.2 (first + x.1) (first + (chi (ltc cf) hi first x.1 x.2))), ent_look ⟨Weak.of_eq rfl, Weak.of_eq rfl, Weak.of_eq rfl, Weak.of_eq rfl, Weak.of_eq rfl, Weak.of_eq rfl, trivial⟩, ⟨by omega, by rw [swp_size]; exact g2, by rw [← g3, sift_eq (r := x.1) (by omega), if_pos hl]⟩, by dsimp only; omega⟩

theorem reverse_c (f : Nat) (d : Array Int) (n a b : Nat) (hd : d.size = n) (hab : a < b ∧ b ≤ n) (hn : n ≤ 1152921504606846976) : ACall Try.prog 169 [.rsl (INH, []) 1 0 n none, .int .i64 ((a : Nat) : Int), .int .i64 ((b : Nat) : Int), .fn f [] []] [.osl 1 (acells d) n none] (.tup []) [.osl 1 (acells (reverseRange d a b)) n none] := by
  refine ACall.intro Try.func169 rfl (N := 34) rfl (by decide) (by simp) ?_
  refine a_seq ?_
  refine a_region ?_
  refine r_val (v := .int _ _) (v_move (.inl rfl) (noOwn_flat rfl)) rfl rfl (by decide) ?_
  refine r_val (v := .int _ _) (v_assign (.inl rfl) (noOwn_flat rfl)) rfl rfl (by decide) ?_
  refine r_nil ?_
  refine a_seq ?_
  refine a_region ?_
  refine r_val (v := .int _ _) (v_move (.inl rfl) (noOwn_flat rfl)) rfl rfl (by decide) ?_
  refine r_val (v := .int _ _) (v_sub (.inl rfl) (.inl rfl) (fun _ => by omega)) rfl rfl (by decide) ?_
  refine r_val (v := .int _ _) (v_assign (.inl rfl) (noOwn_flat rfl)) rfl rfl (by decide) ?_
  refine r_nil ?_
  refine a_block ?_
  refine a_loop (X := (Nat × Nat × Array Int)) (fun x => look [(0, .rsl (INH, []) 1 0 n none), (8, .int .i64 ((x.1 : Nat) : Int)), (9, .int .i64 ((x.2.1 : Nat) : Int)), (INH, .osl 1 (acells x.2.2) n none)]) (fun x => x.1 ≤ n ∧ x.2.1 < n ∧ x.2.2.size = n ∧ reverseLoop x.1 x.2.1 x.2.2 = reverseRange d a b) (fun x => x.2.1 - x.1) (a, b - 1, d) (ent_look ⟨Weak.of_eq rfl, Weak.of_eq rfl, Weak.of_eq (int_eq (by dsimp only; omega)), Weak.of_eq rfl, trivial⟩) ⟨by omega, by dsimp only; omega, hd, rfl⟩ (fun x hG => ?_)
  obtain ⟨g1, g2, g3, g4⟩ := hG
  refine a_seq ?_
  refine a_seq ?_
  refine a_region ?_
  refine r_val (v := .int _ _) (v_move (.inl rfl) (noOwn_flat rfl)) rfl rfl (by decide) ?_
  refine r_val (v := .int _ _) (v_move (.inl rfl) (noOwn_flat rfl)) rfl rfl (by decide) ?_
  refine r_val (v := .bool _) (v_lss (.inl rfl) (.inl rfl)) rfl rfl (by decide) ?_
  refine r_nil ?_
  refine a_cond rfl (fun ht15 => ?_) (fun ht15 => ?_)
  ·
    skip
    refine a_skip ?_
    refine a_block ?_
    refine a_seq ?_
    have hij : x.1 < x.2.1 := (by simpa using ht15)
    have hp1 : x.1 * 1 + 1 ≤ (acells x.2.2).length := (by rw [acells_length]; omega)
    have hp2 : x.2.1 * 1 + 1 ≤ ((acells x.2.2).set (x.1 * 1) (.int .i64 x.2.2[x.2.1]!)).length := (by rw [List.length_set, acells_length]; omega)
    have hset : ((acells x.2.2).set (x.1 * 1) (.int .i64 x.2.2[x.2.1]!)).set (x.2.1 * 1) (.int .i64 x.2.2[x.1]!) = acells (swp x.2.2 x.1 x.2.1) := (by rw [Nat.mul_one, Nat.mul_one]; exact acells_swp _ _ _)
    refine a_region_w [(16, true), (17, true), (18, true), (19, true), (20, true), (21, true), (22, true), (23, true), (24, true), (25, true), (26, true), (27, true), (28, true), (INH, false), (29, true), (INH, false)] mixed (by kernel_rfl) ?_
    refine w_val (v := .rsl _ _ _ _ _) (v_move (.inl rfl) (noOwn_flat rfl)) rfl rfl (by decide) rfl (by kernel_rfl) ?_
    refine w_val (v := .int _ _) (v_move (.inl rfl) (noOwn_flat rfl)) rfl rfl (by decide) rfl (by kernel_rfl) ?_
    refine w_val (v := .rsl _ _ _ _ _) (v_move (.inl rfl) (noOwn_flat rfl)) rfl rfl (by decide) rfl (by kernel_rfl) ?_
    refine w_val (v := .int _ _) (v_move (.inl rfl) (noOwn_flat rfl)) rfl rfl (by decide) rfl (by kernel_rfl) ?_
    refine w_val (v := .rsl _ _ _ _ _) (v_move (.inl rfl) (noOwn_flat rfl)) rfl rfl (by decide) rfl (by kernel_rfl) ?_
    refine w_val (v := .int _ _) (v_move (.inl rfl) (noOwn_flat rfl)) rfl rfl (by decide) rfl (by kernel_rfl) ?_
    refine w_val (v := .rp _ _) (v_indexAddr_rsl0 es25 (.inl rfl) (.inl rfl) (fun _ => by omega)) rfl rfl (by decide) rfl (by kernel_rfl) ?_
    refine w_val (v := .int .i64 x.2.2[x.2.1]!) (v_load_rp1 ta3 (.inl rfl) rfl (fun _ => by rw [Nat.mul_one]; exact acells_get (by omega)) rfl) rfl rfl (by decide) rfl (by kernel_rfl) ?_
    refine w_val (v := .rsl _ _ _ _ _) (v_move (.inl rfl) (noOwn_flat rfl)) rfl rfl (by decide) rfl (by kernel_rfl) ?_
    refine w_val (v := .int _ _) (v_move (.inl rfl) (noOwn_flat rfl)) rfl rfl (by decide) rfl (by kernel_rfl) ?_
    refine w_val (v := .rp _ _) (v_indexAddr_rsl0 es25 (.inl rfl) (.inl rfl) (fun _ => by omega)) rfl rfl (by decide) rfl (by kernel_rfl) ?_
    refine w_val (v := .int .i64 x.2.2[x.1]!) (v_load_rp1 ta3 (.inl rfl) rfl (fun _ => by rw [Nat.mul_one]; exact acells_get (by omega)) rfl) rfl rfl (by decide) rfl (by kernel_rfl) ?_
    refine w_val (v := .rp _ _) (v_indexAddr_rsl0 es25 (.inl rfl) (.inl rfl) (fun _ => by omega)) rfl rfl (by decide) rfl (by kernel_rfl) ?_
    refine w_store (v := .int _ _) (y' := .osl _ _ _ _) rfl rfl rfl ta3 (.inl rfl) (.inl rfl) rfl rfl rfl rfl rfl rfl hp1 (by decide) rfl rfl rfl (by kernel_rfl) ?_
    refine w_val (v := .rp _ _) (v_indexAddr_rsl0 es25 (.inl rfl) (.inl rfl) (fun _ => by omega)) rfl rfl (by decide) rfl (by kernel_rfl) ?_
    refine w_store (v := .int _ _) (y' := .osl _ _ _ _) rfl rfl rfl ta3 (.inl rfl) (.inl rfl) rfl rfl rfl rfl rfl rfl hp2 (by decide) rfl (congrArg (fun c => AV.osl 1 c n none) hset) rfl (by kernel_rfl) ?_
    refine w_nil ?_
    refine a_seq ?_
    refine a_region ?_
    refine r_val (v := .int _ _) (v_move (.inl rfl) (noOwn_flat rfl)) rfl rfl (by decide) ?_
    refine r_val (v := .int _ _) (v_add (.inl rfl) (.inl rfl) (fun _ => by omega)) rfl rfl (by decide) ?_
    refine r_val (v := .int _ _) (v_assign (.inl rfl) (noOwn_flat rfl)) rfl rfl (by decide) ?_
    refine r_nil ?_
    refine a_region ?_
    refine r_val (v := .int _ _) (v_move (.inl rfl) (noOwn_flat rfl)) rfl rfl (by decide) ?_
    refine r_val (v := .int _ _) (v_sub (.inl rfl) (.inl rfl) (fun _ => by omega)) rfl rfl (by decide) ?_
    refine r_val (v := .int _ _) (v_assign (.inl rfl) (noOwn_flat rfl)) rfl rfl (by decide) ?_
    refine r_nil ?_
    refine ⟨(x.1 + 1, x.2.1 - 1, swp x.2.2 x.1 x.2.1), ent_look ⟨Weak.of_eq rfl, Weak.of_eq (int_eq (by omega)), Weak.of_eq (int_eq (by dsimp only; omega)), Weak.of_eq rfl, trivial⟩, ⟨by dsimp only; omega, by dsimp only; omega, by rw [swp_size]; exact g3, by rw [← g4, reverse_more (i := x.1) hij]⟩, by dsimp only; omega⟩
  ·
    skip
    refine a_exit ?_
    refine ret0_look Try.results169 (by decide) ?_ rfl
    exact Weak.of_eq (osl_eq (by rw [← g4, reverse_end (by simpa using ht15)]))

theorem heapSort_c (f : Nat) (hb : hasBody Try.prog f = true) (cf : Int → Int → Int) (hc : ∀ x y, ACall Try.prog f [.int .i64 x, .int .i64 y] [] (.int .i64 (cf x y)) []) (d : Array Int) (n a b : Nat) (hd : d.size = n) (hab : a < b ∧ b ≤ n) (hn : n ≤ 1152921504606846976) : ACall Try.prog 166 [.rsl (INH, []) 1 0 n none, .int .i64 ((a : Nat) : Int), .int .i64 ((b : Nat) : Int), .fn f [] []] [.osl 1 (acells d) n none] (.tup []) [.osl 1 (acells (heapSort (ltc cf) d a b)) n none] := by
  refine ACall.intro Try.func166 rfl (N := 60) rfl (by decide) (by simp) ?_
  refine a_seq ?_
  refine a_region ?_
  refine r_val (v := .int _ _) (v_move (.inl rfl) (noOwn_flat rfl)) rfl rfl (by decide) ?_
  refine r_val (v := .int _ _) (v_assign (.inl rfl) (noOwn_flat rfl)) rfl rfl (by decide) ?_
  refine r_nil ?_
  refine a_seq ?_
  refine a_region ?_
  refine r_val (v := .int _ _) (v_assign (.inl rfl) (noOwn_flat rfl)) rfl rfl (by decide) ?_
  refine r_nil ?_
  refine a_seq ?_
  refine a_region ?_
  refine r_val (v := .int _ _) (v_move (.inl rfl) (noOwn_flat rfl)) rfl rfl (by decide) ?_
  refine r_val (v := .int _ _) (v_move (.inl rfl) (noOwn_flat rfl)) rfl rfl (by decide) ?_
  refine r_val (v := .int .i64 ((b - a : Nat) : Int)) ((v_sub (.inl rfl) (.inl rfl) (fun _ => by omega)).cast (int_eq (by omega))) rfl rfl (by decide) ?_
  refine r_val (v := .int _ _) (v_assign (.inl rfl) (noOwn_flat rfl)) rfl rfl (by decide) ?_
  refine r_nil ?_
  refine a_seq ?_
  refine a_seq ?_
  refine a_region ?_
  refine r_val (v := .int _ _) (v_move (.inl rfl) (noOwn_flat rfl)) rfl rfl (by decide) ?_
  refine r_val (v := .int _ _) (v_sub (.inl rfl) (.inl rfl) (fun _ => by omega)) rfl rfl (by decide) ?_
  refine r_val (v := .int _ _) (v_quo (.inl rfl) (.inl rfl) (fun _ => by omega)) rfl rfl (by decide) ?_
  refine r_val (v := .int _ _) (v_assign (.inl rfl) (noOwn_flat rfl)) rfl rfl (by decide) ?_
  refine r_nil ?_
  refine a_block ?_
  refine a_loop (X := (Nat × Array Int)) (fun x => look [(0, .rsl (INH, []) 1 0 n none), (3, .fn f [] []), (8, .int .i64 ((a : Nat) : Int)), (9, .int .i64 0), (10, .int .i64 ((b - a : Nat) : Int)), (11, .int .i64 ((x.1 : Nat) - 1 : Int)), (INH, .osl 1 (acells x.2) n none)]) (fun x => x.1 ≤ n ∧ x.2.size = n ∧ heapBuild (ltc cf) (b - a) a x.1 x.2 = heapBuild (ltc cf) (b - a) a ((b - a - 1) / 2 + 1) d) (fun x => x.1) ((b - a - 1) / 2 + 1, d) (ent_look ⟨Weak.of_eq rfl, Weak.of_eq rfl, Weak.of_eq rfl, Weak.of_eq rfl, Weak.of_eq rfl, Weak.of_eq (int_eq (by omega)), Weak.of_eq rfl, trivial⟩) ⟨by dsimp only; omega, hd, rfl⟩ (fun x hG => ?_)
  obtain ⟨g1, g2, g3⟩ := hG
  refine a_seq ?_
  refine a_seq ?_
  refine a_region ?_
  refine r_val (v := .int _ _) (v_move (.inl rfl) (noOwn_flat rfl)) rfl rfl (by decide) ?_
  refine r_val (v := .bool _) (v_geq (.inl rfl) (.inl rfl)) rfl rfl (by decide) ?_
  refine r_nil ?_
  refine a_cond rfl (fun ht21 => ?_) (fun ht21 => ?_)
  ·
    skip
    refine a_skip ?_
    refine a_seq ?_
    refine a_block ?_
    have hx1 : 1 ≤ x.1 := (by simp at ht21; omega)
    refine a_region ?_
    refine r_val (v := .rsl _ _ _ _ _) (v_move (.inl rfl) (noOwn_flat rfl)) rfl rfl (by decide) ?_
    refine r_val (v := .int .i64 ((x.1 - 1 : Nat) : Int)) ((v_move (.inl rfl) (noOwn_flat rfl)).cast (int_eq (by omega))) rfl rfl (by decide) ?_
    refine r_val (v := .int _ _) (v_move (.inl rfl) (noOwn_flat rfl)) rfl rfl (by decide) ?_
    refine r_val (v := .int _ _) (v_move (.inl rfl) (noOwn_flat rfl)) rfl rfl (by decide) ?_
    refine r_val (v := .fn _ _ _) (v_mv rfl) rfl rfl (by decide) ?_
    refine r_step rfl (o_callIOk (q := (INH, [])) (vs := [.rsl _ _ _ _ _, .int _ _, .int _ _, .int _ _, .fn _ _ _]) (args := [.rsl (INH, []) _ _ _ _, .int .i64 _, .int .i64 _, .int .i64 _, .fn _ _ _]) (x0 := .osl _ _ _ _) (x1 := .osl _ _ _ _) (res := .tup []) rfl hb176 rfl (by decide) ⟨.inl rfl, .inl rfl, .inl rfl, .inl rfl, .inl rfl, trivial⟩ rfl rfl (siftDown_c f hb cf hc x.2 n (x.1 - 1) (b - a) a g2 (by omega) hn) (by simp [stays]; omega) rfl rfl rfl (ac_noSh _) (ac_noRef _) (Nat.le_of_ble_eq_true rfl) (by decide) rfl) ?_
    refine r_nil ?_
    refine a_region ?_
    refine r_val (v := .int _ _) (v_move (.inl rfl) (noOwn_flat rfl)) rfl rfl (by decide) ?_
    refine r_val (v := .int _ _) (v_sub (.inl rfl) (.inl rfl) (fun _ => by omega)) rfl rfl (by decide) ?_
    refine r_val (v := .int _ _) (v_assign (.inl rfl) (noOwn_flat rfl)) rfl rfl (by decide) ?_
    refine r_nil ?_
    refine ⟨(x.1 - 1, siftDown (ltc cf) (b - a) a (x.1 - 1) x.2), ent_look ⟨Weak.of_eq rfl, Weak.of_eq rfl, Weak.of_eq rfl, Weak.of_eq rfl, Weak.of_eq rfl, Weak.of_eq (int_eq (by omega)), Weak.of_eq rfl, trivial⟩, ⟨by dsimp only; omega, by rw [sift_size]; exact g2, by rw [← g3]; exact heapBuild_more (by omega)⟩, by dsimp only; omega⟩
  ·
    skip
    refine a_exit ?_
    refine a_seq ?_
    refine a_region ?_
    refine r_val (v := .int _ _) (v_move (.inl rfl) (noOwn_flat rfl)) rfl rfl (by decide) ?_
    refine r_val (v := .int _ _) (v_sub (.inl rfl) (.inl rfl) (fun _ => by omega)) rfl rfl (by decide) ?_
    refine r_val (v := .int _ _) (v_assign (.inl rfl) (noOwn_flat rfl)) rfl rfl (by decide) ?_
    refine r_nil ?_
    refine a_block ?_
    refine a_loop (X := (Nat × Array Int)) (fun y => look [(0, .rsl (INH, []) 1 0 n none), (3, .fn f [] []), (8, .int .i64 ((a : Nat) : Int)), (9, .int .i64 0), (12, .int .i64 ((y.1 : Nat) - 1 : Int)), (INH, .osl 1 (acells y.2) n none)]) (fun y => y.1 ≤ b - a ∧ y.2.size = n ∧ heapPop (ltc cf) a y.1 y.2 = heapSort (ltc cf) d a b) (fun y => y.1) (b - a, x.2) (ent_look ⟨Weak.of_eq rfl, Weak.of_eq rfl, Weak.of_eq rfl, Weak.of_eq rfl, Weak.of_eq (int_eq (by omega)), Weak.of_eq rfl, trivial⟩) ⟨Nat.le_refl _, g2, by unfold heapSort; rw [← g3, show x.1 = 0 by simp at ht21; omega]; rfl⟩ (fun y hG => ?_)
    obtain ⟨k1, k2, k3⟩ := hG
    refine a_seq ?_
    refine a_seq ?_
    refine a_region ?_
    refine r_val (v := .int _ _) (v_move (.inl rfl) (noOwn_flat rfl)) rfl rfl (by decide) ?_
    refine r_val (v := .bool _) (v_geq (.inl rfl) (.inl rfl)) rfl rfl (by decide) ?_
    refine r_nil ?_
    refine a_cond rfl (fun ht33 => ?_) (fun ht33 => ?_)
    ·
      skip
      refine a_skip ?_
      refine a_seq ?_
      refine a_block ?_
      refine a_seq ?_
      have hy1 : 1 ≤ y.1 := (by simp at ht33; omega)
      have hp1 : a * 1 + 1 ≤ (acells y.2).length := (by rw [acells_length]; omega)
      have hp2 : (a + (y.1 - 1)) * 1 + 1 ≤ ((acells y.2).set (a * 1) (.int .i64 y.2[(a + (y.1 - 1))]!)).length := (by rw [List.length_set, acells_length]; omega)
      have hset : ((acells y.2).set (a * 1) (.int .i64 y.2[(a + (y.1 - 1))]!)).set ((a + (y.1 - 1)) * 1) (.int .i64 y.2[a]!) = acells (swp y.2 a (a + (y.1 - 1))) := (by rw [Nat.mul_one, Nat.mul_one]; exact acells_swp _ _ _)
      refine a_region_w [(36, true), (37, true), (38, true), (39, true), (40, true), (41, true), (42, true), (43, true), (44, true), (45, true), (46, true), (47, true), (48, true), (49, true), (50, true), (51, true), (52, true), (INH, false), (53, true), (INH, false)] mixed (by kernel_rfl) ?_
      refine w_val (v := .rsl _ _ _ _ _) (v_move (.inl rfl) (noOwn_flat rfl)) rfl rfl (by decide) rfl (by kernel_rfl) ?_
      refine w_val (v := .int _ _) (v_move (.inl rfl) (noOwn_flat rfl)) rfl rfl (by decide) rfl (by kernel_rfl) ?_
      refine w_val (v := .rsl _ _ _ _ _) (v_move (.inl rfl) (noOwn_flat rfl)) rfl rfl (by decide) rfl (by kernel_rfl) ?_
      refine w_val (v := .int _ _) (v_move (.inl rfl) (noOwn_flat rfl)) rfl rfl (by decide) rfl (by kernel_rfl) ?_
      refine w_val (v := .int _ _) (v_move (.inl rfl) (noOwn_flat rfl)) rfl rfl (by decide) rfl (by kernel_rfl) ?_
      refine w_val (v := .int .i64 ((a + (y.1 - 1) : Nat) : Int)) ((v_add (.inl rfl) (.inl rfl) (fun _ => by omega)).cast (int_eq (by omega))) rfl rfl (by decide) rfl (by kernel_rfl) ?_
      refine w_val (v := .rsl _ _ _ _ _) (v_move (.inl rfl) (noOwn_flat rfl)) rfl rfl (by decide) rfl (by kernel_rfl) ?_
      refine w_val (v := .int _ _) (v_move (.inl rfl) (noOwn_flat rfl)) rfl rfl (by decide) rfl (by kernel_rfl) ?_
      refine w_val (v := .int _ _) (v_move (.inl rfl) (noOwn_flat rfl)) rfl rfl (by decide) rfl (by kernel_rfl) ?_
      refine w_val (v := .int .i64 ((a + (y.1 - 1) : Nat) : Int)) ((v_add (.inl rfl) (.inl rfl) (fun _ => by omega)).cast (int_eq (by omega))) rfl rfl (by decide) rfl (by kernel_rfl) ?_
      refine w_val (v := .rp _ _) (v_indexAddr_rsl0 es25 (.inl rfl) (.inl rfl) (fun _ => by omega)) rfl rfl (by decide) rfl (by kernel_rfl) ?_
      refine w_val (v := .int .i64 y.2[a + (y.1 - 1)]!) (v_load_rp1 ta3 (.inl rfl) rfl (fun _ => by rw [Nat.mul_one]; exact acells_get (by omega)) rfl) rfl rfl (by decide) rfl (by kernel_rfl) ?_
      refine w_val (v := .rsl _ _ _ _ _) (v_move (.inl rfl) (noOwn_flat rfl)) rfl rfl (by decide) rfl (by kernel_rfl) ?_
      refine w_val (v := .int _ _) (v_move (.inl rfl) (noOwn_flat rfl)) rfl rfl (by decide) rfl (by kernel_rfl) ?_
      refine w_val (v := .rp _ _) (v_indexAddr_rsl0 es25 (.inl rfl) (.inl rfl) (fun _ => by omega)) rfl rfl (by decide) rfl (by kernel_rfl) ?_
      refine w_val (v := .int .i64 y.2[a]!) (v_load_rp1 ta3 (.inl rfl) rfl (fun _ => by rw [Nat.mul_one]; exact acells_get (by omega)) rfl) rfl rfl (by decide) rfl (by kernel_rfl) ?_
      refine w_val (v := .rp _ _) (v_indexAddr_rsl0 es25 (.inl rfl) (.inl rfl) (fun _ => by omega)) rfl rfl (by decide) rfl (by kernel_rfl) ?_
      refine w_store (v := .int _ _) (y' := .osl _ _ _ _) rfl rfl rfl ta3 (.inl rfl) (.inl rfl) rfl rfl rfl rfl rfl rfl hp1 (by decide) rfl rfl rfl (by kernel_rfl) ?_
      refine w_val (v := .rp _ _) (v_indexAddr_rsl0 es25 (.inl rfl) (.inl rfl) (fun _ => by omega)) rfl rfl (by decide) rfl (by kernel_rfl) ?_
      refine w_store (v := .int _ _) (y' := .osl _ _ _ _) rfl rfl rfl ta3 (.inl rfl) (.inl rfl) rfl rfl rfl rfl rfl rfl hp2 (by decide) rfl (congrArg (fun c => AV.osl 1 c n none) hset) rfl (by kernel_rfl) ?_
      refine w_nil ?_
      refine a_region ?_
      refine r_val (v := .rsl _ _ _ _ _) (v_move (.inl rfl) (noOwn_flat rfl)) rfl rfl (by decide) ?_
      refine r_val (v := .int .i64 ((0 : Nat) : Int)) ((v_move (.inl rfl) (noOwn_flat rfl)).cast (int_eq (by omega))) rfl rfl (by decide) ?_
      refine r_val (v := .int .i64 ((y.1 - 1 : Nat) : Int)) ((v_move (.inl rfl) (noOwn_flat rfl)).cast (int_eq (by omega))) rfl rfl (by decide) ?_
      refine r_val (v := .int _ _) (v_move (.inl rfl) (noOwn_flat rfl)) rfl rfl (by decide) ?_
      refine r_val (v := .fn _ _ _) (v_mv rfl) rfl rfl (by decide) ?_
      refine r_step rfl (o_callIOk (q := (INH, [])) (vs := [.rsl _ _ _ _ _, .int _ _, .int _ _, .int _ _, .fn _ _ _]) (args := [.rsl (INH, []) _ _ _ _, .int .i64 _, .int .i64 _, .int .i64 _, .fn _ _ _]) (x0 := .osl _ _ _ _) (x1 := .osl _ _ _ _) (res := .tup []) rfl hb176 rfl (by decide) ⟨.inl rfl, .inl rfl, .inl rfl, .inl rfl, .inl rfl, trivial⟩ rfl rfl (siftDown_c f hb cf hc _ n 0 (y.1 - 1) a (by rw [swp_size]; exact k2) (by omega) hn) (by simp [stays]; omega) rfl rfl rfl (ac_noSh _) (ac_noRef _) (Nat.le_of_ble_eq_true rfl) (by decide) rfl) ?_
      refine r_nil ?_
      refine a_pre (ent_look (L := [(0, .rsl _ _ _ _ _), (3, .fn _ _ _), (8, .int _ _), (9, .int _ _), (12, .int _ _), (INH, .osl _ _ _ _)]) ⟨Weak.rfl, Weak.rfl, Weak.rfl, Weak.rfl, Weak.rfl, Weak.rfl, trivial⟩) ?_
      refine a_region ?_
      refine r_val (v := .int _ _) (v_move (.inl rfl) (noOwn_flat rfl)) rfl rfl (by decide) ?_
      refine r_val (v := .int _ _) (v_sub (.inl rfl) (.inl rfl) (fun _ => by omega)) rfl rfl (by decide) ?_
      refine r_val (v := .int _ _) (v_assign (.inl rfl) (noOwn_flat rfl)) rfl rfl (by decide) ?_
      refine r_nil ?_
      refine ⟨(y.1 - 1, siftDown (ltc cf) (y.1 - 1) a 0 (swp y.2 a (a + (y.1 - 1)))), ent_look ⟨Weak.of_eq rfl, Weak.of_eq rfl, Weak.of_eq rfl, Weak.of_eq rfl, Weak.of_eq (int_eq (by omega)), Weak.of_eq rfl, trivial⟩, ⟨by dsimp only; omega, by rw [sift_size, swp_size]; exact k2, by rw [← k3]; exact heapPop_more (by omega)⟩, by dsimp only; omega⟩
    ·
      skip
      refine a_exit ?_
      refine ret0_look Try.results166 (by decide) ?_ rfl
      exact Weak.of_eq (osl_eq (by rw [← k3, show y.1 = 0 by simp at ht33; omega]; rfl))
end Go.Av
namespace Go.Av
open Go Go.Proofs Go.Sort
set_option maxRecDepth 10000


theorem partEq_c (f : Nat) (hb : hasBody Try.prog f = true) (cf : Int → Int → Int) (hc : ∀ x y, ACall Try.prog f [.int .i64 x, .int .i64 y] [] (.int .i64 (cf x y)) []) (d : Array Int) (n a b pivot : Nat) (hd : d.size = n) (hab : a ≤ pivot ∧ pivot < b ∧ b ≤ n) (hn : n ≤ 1152921504606846976) : ACall Try.prog 171 [.rsl (INH, []) 1 0 n none, .int .i64 ((a : Nat) : Int), .int .i64 ((b : Nat) : Int), .int .i64 ((pivot : Nat) : Int), .fn f [] []] [.osl 1 (acells d) n none] (.int .i64 (((partitionEqual (ltc cf) d a b pivot).1 : Nat) : Int)) [.osl 1 (acells (partitionEqual (ltc cf) d a b pivot).2) n none] := by
  refine ACall.intro Try.func171 rfl (N := 90) rfl (by decide) (by simp) ?_
  refine a_seq ?_
  refine a_region ?_
  refine r_val (v := .int _ _) (v_assign (.inl rfl) (noOwn_flat rfl)) rfl rfl (by decide) ?_
  refine r_nil ?_
  refine a_seq ?_
  have hp1 : a * 1 + 1 ≤ (acells d).length := (by rw [acells_length]; omega)
  have hp2 : pivot * 1 + 1 ≤ ((acells d).set (a * 1) (.int .i64 d[pivot]!)).length := (by rw [List.length_set, acells_length]; omega)
  have hset : ((acells d).set (a * 1) (.int .i64 d[pivot]!)).set (pivot * 1) (.int .i64 d[a]!) = acells (swp d a pivot) := (by rw [Nat.mul_one, Nat.mul_one]; exact acells_swp _ _ _)
  refine a_region_w [(13, true), (14, true), (15, true), (16, true), (17, true), (18, true), (19, true), (20, true), (21, true), (22, true), (23, true), (24, true), (25, true), (INH, false), (26, true), (INH, false)] mixed (by kernel_rfl) ?_
  refine w_val (v := .rsl _ _ _ _ _) (v_move (.inl rfl) (noOwn_flat rfl)) rfl rfl (by decide) rfl (by kernel_rfl) ?_
  refine w_val (v := .int _ _) (v_move (.inl rfl) (noOwn_flat rfl)) rfl rfl (by decide) rfl (by kernel_rfl) ?_
  refine w_val (v := .rsl _ _ _ _ _) (v_move (.inl rfl) (noOwn_flat rfl)) rfl rfl (by decide) rfl (by kernel_rfl) ?_
  refine w_val (v := .int _ _) (v_move (.inl rfl) (noOwn_flat rfl)) rfl rfl (by decide) rfl (by kernel_rfl) ?_
  refine w_val (v := .rsl _ _ _ _ _) (v_move (.inl rfl) (noOwn_flat rfl)) rfl rfl (by decide) rfl (by kernel_rfl) ?_
  refine w_val (v := .int _ _) (v_move (.inl rfl) (noOwn_flat rfl)) rfl rfl (by decide) rfl (by kernel_rfl) ?_
  refine w_val (v := .rp _ _) (v_indexAddr_rsl0 es25 (.inl rfl) (.inl rfl) (fun _ => by omega)) rfl rfl (by decide) rfl (by kernel_rfl) ?_
  refine w_val (v := .int .i64 d[pivot]!) (v_load_rp1 ta3 (.inl rfl) rfl (fun _ => by rw [Nat.mul_one]; exact acells_get (by omega)) rfl) rfl rfl (by decide) rfl (by kernel_rfl) ?_
  refine w_val (v := .rsl _ _ _ _ _) (v_move (.inl rfl) (noOwn_flat rfl)) rfl rfl (by decide) rfl (by kernel_rfl) ?_
  refine w_val (v := .int _ _) (v_move (.inl rfl) (noOwn_flat rfl)) rfl rfl (by decide) rfl (by kernel_rfl) ?_
  refine w_val (v := .rp _ _) (v_indexAddr_rsl0 es25 (.inl rfl) (.inl rfl) (fun _ => by omega)) rfl rfl (by decide) rfl (by kernel_rfl) ?_
  refine w_val (v := .int .i64 d[a]!) (v_load_rp1 ta3 (.inl rfl) rfl (fun _ => by rw [Nat.mul_one]; exact acells_get (by omega)) rfl) rfl rfl (by decide) rfl (by kernel_rfl) ?_
  refine w_val (v := .rp _ _) (v_indexAddr_rsl0 es25 (.inl rfl) (.inl rfl) (fun _ => by omega)) rfl rfl (by decide) rfl (by kernel_rfl) ?_
  refine w_store (v := .int _ _) (y' := .osl _ _ _ _) rfl rfl rfl ta3 (.inl rfl) (.inl rfl) rfl rfl rfl rfl rfl rfl hp1 (by decide) rfl rfl rfl (by kernel_rfl) ?_
  refine w_val (v := .rp _ _) (v_indexAddr_rsl0 es25 (.inl rfl) (.inl rfl) (fun _ => by omega)) rfl rfl (by decide) rfl (by kernel_rfl) ?_
  refine w_store (v := .int _ _) (y' := .osl _ _ _ _) rfl rfl rfl ta3 (.inl rfl) (.inl rfl) rfl rfl rfl rfl rfl rfl hp2 (by decide) rfl (congrArg (fun c => AV.osl 1 c n none) hset) rfl (by kernel_rfl) ?_
  refine w_nil ?_
  refine a_seq ?_
  refine a_region ?_
  refine r_val (v := .int _ _) (v_move (.inl rfl) (noOwn_flat rfl)) rfl rfl (by decide) ?_
  refine r_val (v := .int _ _) (v_add (.inl rfl) (.inl rfl) (fun _ => by omega)) rfl rfl (by decide) ?_
  refine r_val (v := .int _ _) (v_move (.inl rfl) (noOwn_flat rfl)) rfl rfl (by decide) ?_
  refine r_val (v := .int _ _) (v_sub (.inl rfl) (.inl rfl) (fun _ => by omega)) rfl rfl (by decide) ?_
  refine r_val (v := .int _ _) (v_assign (.inl rfl) (noOwn_flat rfl)) rfl rfl (by decide) ?_
  refine r_val (v := .int _ _) (v_assign (.inl rfl) (noOwn_flat rfl)) rfl rfl (by decide) ?_
  refine r_nil ?_
  refine a_seq ?_
  refine a_block ?_
  refine a_loop (X := (Nat × Nat × Array Int)) (fun x => look [(0, .rsl (INH, []) 1 0 n none), (1, .int .i64 ((a : Nat) : Int)), (4, .fn f [] []), (11, .int .i64 ((x.1 : Nat) : Int)), (12, .int .i64 ((x.2.1 : Nat) : Int)), (INH, .osl 1 (acells x.2.2) n none)]) (fun x => a < x.1 ∧ x.2.1 < b ∧ x.2.2.size = n ∧ x.1 ≤ n ∧ partEqLoop (ltc cf) a x.1 x.2.1 x.2.2 = partitionEqual (ltc cf) d a b pivot) (fun x => x.2.1 + 1 - x.1) (a + 1, b - 1, swp d a pivot) (ent_look ⟨Weak.of_eq rfl, Weak.of_eq rfl, Weak.of_eq rfl, Weak.of_eq (int_eq (by dsimp only; omega)), Weak.of_eq (int_eq (by dsimp only; omega)), Weak.of_eq rfl, trivial⟩) ⟨by dsimp only; omega, by dsimp only; omega, by rw [swp_size]; exact hd, by dsimp only; omega, rfl⟩ (fun x hG => ?_)
  obtain ⟨g1, g2, g3, g4, g5⟩ := hG
  refine a_block ?_
  refine a_seq ?_
  refine a_block ?_
  refine a_loop (X := Nat) (fun u => look [(0, .rsl (INH, []) 1 0 n none), (1, .int .i64 ((a : Nat) : Int)), (4, .fn f [] []), (11, .int .i64 ((u : Nat) : Int)), (12, .int .i64 ((x.2.1 : Nat) : Int)), (INH, .osl 1 (acells x.2.2) n none)]) (fun u => x.1 ≤ u ∧ u ≤ n ∧ scanUp (fun w => !ltc cf x.2.2[a]! w) x.2.2 x.2.1 u = scanUp (fun w => !ltc cf x.2.2[a]! w) x.2.2 x.2.1 x.1) (fun u => x.2.1 + 1 - u) x.1 (ent_look ⟨Weak.of_eq rfl, Weak.of_eq rfl, Weak.of_eq rfl, Weak.of_eq rfl, Weak.of_eq rfl, Weak.of_eq rfl, trivial⟩) ⟨Nat.le_refl _, g4, rfl⟩ (fun u hG => ?_)
  obtain ⟨u1, u2, u3⟩ := hG
  refine a_seq ?_
  refine a_seq ?_
  refine a_region_any mixed (by kernel_rfl) ?_
  refine y_val (v := .int _ _) (v_move (.inl rfl) (noOwn_flat rfl)) rfl rfl (by decide) (by kernel_rfl) ?_
  refine y_val (v := .int _ _) (v_move (.inl rfl) (noOwn_flat rfl)) rfl rfl (by decide) (by kernel_rfl) ?_
  refine y_val (v := .bool _) (v_leq (.inl rfl) (.inl rfl)) rfl rfl (by decide) (by kernel_rfl) ?_
  refine y_val (v := .bool _) (v_move (.inl rfl) (noOwn_flat rfl)) rfl rfl (by decide) (by kernel_rfl) ?_
  refine y_guard (v := .fn _ _ _) (v_move (.inl rfl) (noOwn_flat rfl)).quiet rfl rfl rfl (by decide) (.inl ⟨_, rfl, rfl⟩) rfl (by decide) (by kernel_rfl) ?_
  refine y_guard (v := .rsl _ _ _ _ _) (v_move (.inl rfl) (noOwn_flat rfl)).quiet rfl rfl rfl (by decide) (.inl ⟨_, rfl, rfl⟩) rfl (by decide) (by kernel_rfl) ?_
  refine y_guard (v := .int _ _) (v_move (.inl rfl) (noOwn_flat rfl)).quiet rfl rfl rfl (by decide) (.inl ⟨_, rfl, rfl⟩) rfl (by decide) (by kernel_rfl) ?_
  refine y_guard (v := .rp _ _) (v_indexAddr_rsl0 es25 (.inr ⟨_, rfl, fun h => h⟩) (.inr ⟨_, rfl, fun h => h⟩) (fun hA => by simp at hA; omega)).quiet rfl rfl rfl (by decide) (.inl ⟨_, rfl, rfl⟩) rfl (by decide) (by kernel_rfl) ?_
  refine y_guard (v := .int .i64 x.2.2[a]!) (v_load_rp1 ta3 (.inr ⟨_, rfl, fun h => h⟩) rfl (fun hA => by simp at hA; rw [Nat.mul_one]; exact acells_get (by omega)) rfl).quiet rfl rfl rfl (by decide) (.inl ⟨_, rfl, rfl⟩) rfl (by decide) (by kernel_rfl) ?_
  refine y_guard (v := .rsl _ _ _ _ _) (v_move (.inl rfl) (noOwn_flat rfl)).quiet rfl rfl rfl (by decide) (.inl ⟨_, rfl, rfl⟩) rfl (by decide) (by kernel_rfl) ?_
  refine y_guard (v := .int _ _) (v_move (.inl rfl) (noOwn_flat rfl)).quiet rfl rfl rfl (by decide) (.inl ⟨_, rfl, rfl⟩) rfl (by decide) (by kernel_rfl) ?_
  refine y_guard (v := .rp _ _) (v_indexAddr_rsl0 es25 (.inr ⟨_, rfl, fun h => h⟩) (.inr ⟨_, rfl, fun h => h⟩) (fun hA => by simp at hA; omega)).quiet rfl rfl rfl (by decide) (.inl ⟨_, rfl, rfl⟩) rfl (by decide) (by kernel_rfl) ?_
  refine y_guard (v := .int .i64 x.2.2[u]!) (v_load_rp1 ta3 (.inr ⟨_, rfl, fun h => h⟩) rfl (fun hA => by simp at hA; rw [Nat.mul_one]; exact acells_get (by omega)) rfl).quiet rfl rfl rfl (by decide) (.inl ⟨_, rfl, rfl⟩) rfl (by decide) (by kernel_rfl) ?_
  refine y_guard (v := .int _ _) (q_clo (vs := [.int _ _, .int _ _]) (args := [.int .i64 _, .int .i64 _]) hb (.inr ⟨_, rfl, fun h => h⟩) ⟨.inr ⟨_, rfl, fun h => h⟩, .inr ⟨_, rfl, fun h => h⟩, trivial⟩ rfl (fun hA => hc _ _) rfl rfl) rfl rfl rfl (by decide) (.inl ⟨_, rfl, rfl⟩) rfl (by decide) (by kernel_rfl) ?_
  refine y_guard (v := .bool _) (v_lss (.inr ⟨_, rfl, fun h => h⟩) (.inl rfl)).quiet rfl rfl rfl (by decide) (.inl ⟨_, rfl, rfl⟩) rfl (by decide) (by kernel_rfl) ?_
  refine y_guard (v := .bool _) (v_not (.inr ⟨_, rfl, fun h => h⟩)).quiet rfl rfl rfl (by decide) (.inl ⟨_, rfl, rfl⟩) rfl (by decide) (by kernel_rfl) ?_
  refine y_val (v := .bool _) (v_pick (.inl rfl) (.inr ⟨_, rfl, fun h h2 => by simp_all⟩) (.inl rfl)) rfl rfl (by decide) (by kernel_rfl) ?_
  refine y_nil ?_
  refine a_cond rfl (fun ht47 => ?_) (fun ht47 => ?_)
  ·
    skip
    refine a_skip ?_
    refine a_block ?_
    refine a_region ?_
    refine r_val (v := .int _ _) (v_move (.inl rfl) (noOwn_flat rfl)) rfl rfl (by decide) ?_
    refine r_val (v := .int _ _) (v_add (.inl rfl) (.inl rfl) (fun _ => by omega)) rfl rfl (by decide) ?_
    refine r_val (v := .int _ _) (v_assign (.inl rfl) (noOwn_flat rfl)) rfl rfl (by decide) ?_
    refine r_nil ?_
    have hcu : (decide (u ≤ x.2.1) && !ltc cf x.2.2[a]! x.2.2[u]!) = true := (by simpa [ltc] using ht47)
    refine ⟨u + 1, ent_look ⟨Weak.of_eq rfl, Weak.of_eq rfl, Weak.of_eq rfl, Weak.of_eq (int_eq (by omega)), Weak.of_eq rfl, Weak.of_eq rfl, trivial⟩, ⟨by omega, by simp at hcu; omega, by rw [← u3]; exact up_more hcu⟩, by simp at hcu; omega⟩
  ·
    skip
    refine a_exit ?_
    refine a_seq ?_
    refine a_block ?_
    refine a_loop (X := Nat) (fun v => look [(0, .rsl (INH, []) 1 0 n none), (1, .int .i64 ((a : Nat) : Int)), (4, .fn f [] []), (11, .int .i64 ((u : Nat) : Int)), (12, .int .i64 ((v : Nat) : Int)), (INH, .osl 1 (acells x.2.2) n none)]) (fun v => v ≤ x.2.1 ∧ scanDown (fun w => ltc cf x.2.2[a]! w) x.2.2 u v = scanDown (fun w => ltc cf x.2.2[a]! w) x.2.2 u x.2.1) (fun v => v) x.2.1 (ent_look ⟨Weak.of_eq rfl, Weak.of_eq rfl, Weak.of_eq rfl, Weak.of_eq rfl, Weak.of_eq rfl, Weak.of_eq rfl, trivial⟩) ⟨Nat.le_refl _, rfl⟩ (fun v hG => ?_)
    obtain ⟨v1, v2⟩ := hG
    refine a_seq ?_
    refine a_seq ?_
    refine a_region_any mixed (by kernel_rfl) ?_
    refine y_val (v := .int _ _) (v_move (.inl rfl) (noOwn_flat rfl)) rfl rfl (by decide) (by kernel_rfl) ?_
    refine y_val (v := .int _ _) (v_move (.inl rfl) (noOwn_flat rfl)) rfl rfl (by decide) (by kernel_rfl) ?_
    refine y_val (v := .bool _) (v_leq (.inl rfl) (.inl rfl)) rfl rfl (by decide) (by kernel_rfl) ?_
    refine y_val (v := .bool _) (v_move (.inl rfl) (noOwn_flat rfl)) rfl rfl (by decide) (by kernel_rfl) ?_
    refine y_guard (v := .fn _ _ _) (v_move (.inl rfl) (noOwn_flat rfl)).quiet rfl rfl rfl (by decide) (.inl ⟨_, rfl, rfl⟩) rfl (by decide) (by kernel_rfl) ?_
    refine y_guard (v := .rsl _ _ _ _ _) (v_move (.inl rfl) (noOwn_flat rfl)).quiet rfl rfl rfl (by decide) (.inl ⟨_, rfl, rfl⟩) rfl (by decide) (by kernel_rfl) ?_
    refine y_guard (v := .int _ _) (v_move (.inl rfl) (noOwn_flat rfl)).quiet rfl rfl rfl (by decide) (.inl ⟨_, rfl, rfl⟩) rfl (by decide) (by kernel_rfl) ?_
    refine y_guard (v := .rp _ _) (v_indexAddr_rsl0 es25 (.inr ⟨_, rfl, fun h => h⟩) (.inr ⟨_, rfl, fun h => h⟩) (fun hA => by simp at hA; omega)).quiet rfl rfl rfl (by decide) (.inl ⟨_, rfl, rfl⟩) rfl (by decide) (by kernel_rfl) ?_
    refine y_guard (v := .int .i64 x.2.2[a]!) (v_load_rp1 ta3 (.inr ⟨_, rfl, fun h => h⟩) rfl (fun hA => by simp at hA; rw [Nat.mul_one]; exact acells_get (by omega)) rfl).quiet rfl rfl rfl (by decide) (.inl ⟨_, rfl, rfl⟩) rfl (by decide) (by kernel_rfl) ?_
    refine y_guard (v := .rsl _ _ _ _ _) (v_move (.inl rfl) (noOwn_flat rfl)).quiet rfl rfl rfl (by decide) (.inl ⟨_, rfl, rfl⟩) rfl (by decide) (by kernel_rfl) ?_
    refine y_guard (v := .int _ _) (v_move (.inl rfl) (noOwn_flat rfl)).quiet rfl rfl rfl (by decide) (.inl ⟨_, rfl, rfl⟩) rfl (by decide) (by kernel_rfl) ?_
    refine y_guard (v := .rp _ _) (v_indexAddr_rsl0 es25 (.inr ⟨_, rfl, fun h => h⟩) (.inr ⟨_, rfl, fun h => h⟩) (fun hA => by simp at hA; omega)).quiet rfl rfl rfl (by decide) (.inl ⟨_, rfl, rfl⟩) rfl (by decide) (by kernel_rfl) ?_
    refine y_guard (v := .int .i64 x.2.2[v]!) (v_load_rp1 ta3 (.inr ⟨_, rfl, fun h => h⟩) rfl (fun hA => by simp at hA; rw [Nat.mul_one]; exact acells_get (by omega)) rfl).quiet rfl rfl rfl (by decide) (.inl ⟨_, rfl, rfl⟩) rfl (by decide) (by kernel_rfl) ?_
    refine y_guard (v := .int _ _) (q_clo (vs := [.int _ _, .int _ _]) (args := [.int .i64 _, .int .i64 _]) hb (.inr ⟨_, rfl, fun h => h⟩) ⟨.inr ⟨_, rfl, fun h => h⟩, .inr ⟨_, rfl, fun h => h⟩, trivial⟩ rfl (fun hA => hc _ _) rfl rfl) rfl rfl rfl (by decide) (.inl ⟨_, rfl, rfl⟩) rfl (by decide) (by kernel_rfl) ?_
    refine y_guard (v := .bool _) (v_lss (.inr ⟨_, rfl, fun h => h⟩) (.inl rfl)).quiet rfl rfl rfl (by decide) (.inl ⟨_, rfl, rfl⟩) rfl (by decide) (by kernel_rfl) ?_
    refine y_val (v := .bool _) (v_pick (.inl rfl) (.inr ⟨_, rfl, fun h h2 => by simp_all⟩) (.inl rfl)) rfl rfl (by decide) (by kernel_rfl) ?_
    refine y_nil ?_
    refine a_cond rfl (fun ht65 => ?_) (fun ht65 => ?_)
    ·
      skip
      refine a_skip ?_
      refine a_block ?_
      refine a_region ?_
      refine r_val (v := .int _ _) (v_move (.inl rfl) (noOwn_flat rfl)) rfl rfl (by decide) ?_
      refine r_val (v := .int _ _) (v_sub (.inl rfl) (.inl rfl) (fun _ => by omega)) rfl rfl (by decide) ?_
      refine r_val (v := .int _ _) (v_assign (.inl rfl) (noOwn_flat rfl)) rfl rfl (by decide) ?_
      refine r_nil ?_
      have hcv : (decide (u ≤ v) && ltc cf x.2.2[a]! x.2.2[v]!) = true := (by simpa [ltc] using ht65)
      refine ⟨v - 1, ent_look ⟨Weak.of_eq rfl, Weak.of_eq rfl, Weak.of_eq rfl, Weak.of_eq rfl, Weak.of_eq (int_eq (by simp at hcv; omega)), Weak.of_eq rfl, trivial⟩, ⟨by omega, by rw [← v2]; exact down_more (by simp at hcv; omega) hcv⟩, by simp at hcv; omega⟩
    ·
      skip
      refine a_exit ?_
      refine a_seq ?_
      refine a_seq ?_
      have hup : scanUp (fun w => !ltc cf x.2.2[a]! w) x.2.2 x.2.1 x.1 = u := (by rw [← u3]; exact up_stop (by simpa [ltc] using ht47))
      have hdn : scanDown (fun w => ltc cf x.2.2[a]! w) x.2.2 u x.2.1 = v := (by rw [← v2]; exact down_stop (by simpa [ltc] using ht65))
      refine a_region ?_
      refine r_val (v := .int _ _) (v_move (.inl rfl) (noOwn_flat rfl)) rfl rfl (by decide) ?_
      refine r_val (v := .int _ _) (v_move (.inl rfl) (noOwn_flat rfl)) rfl rfl (by decide) ?_
      refine r_val (v := .bool _) (v_gtr (.inl rfl) (.inl rfl)) rfl rfl (by decide) ?_
      refine r_nil ?_
      refine a_cond rfl (fun ht70 => ?_) (fun ht70 => ?_)
      ·
        skip
        refine a_exit ?_
        refine a_seq ?_
        have hfin : partitionEqual (ltc cf) d a b pivot = (u, x.2.2) := (by rw [← g5]; exact peq_end hup hdn (by simp at ht70; omega))
        refine a_region ?_
        refine r_val (v := .int _ _) (v_move (.inl rfl) (noOwn_flat rfl)) rfl rfl (by decide) ?_
        refine r_val (v := .int _ _) (v_assign (.inl rfl) (noOwn_flat rfl)) rfl rfl (by decide) ?_
        refine r_nil ?_
        refine a_ret ?_
        refine ret1 Try.results171 (by decide) (by decide) (Weak.of_eq (int_eq ?_)) rfl (Leaves.one (Weak.of_eq (osl_eq (by rw [hfin]))) rfl)
        rw [hfin]
      ·
        skip
        refine a_skip ?_
        refine a_seq ?_
        have huv : u ≤ v := (by simp at ht70; omega)
        have hp1 : u * 1 + 1 ≤ (acells x.2.2).length := (by rw [acells_length]; omega)
        have hp2 : v * 1 + 1 ≤ ((acells x.2.2).set (u * 1) (.int .i64 x.2.2[v]!)).length := (by rw [List.length_set, acells_length]; omega)
        have hset : ((acells x.2.2).set (u * 1) (.int .i64 x.2.2[v]!)).set (v * 1) (.int .i64 x.2.2[u]!) = acells (swp x.2.2 u v) := (by rw [Nat.mul_one, Nat.mul_one]; exact acells_swp _ _ _)
        refine a_region_w [(71, true), (72, true), (73, true), (74, true), (75, true), (76, true), (77, true), (78, true), (79, true), (80, true), (81, true), (82, true), (83, true), (INH, false), (84, true), (INH, false)] mixed (by kernel_rfl) ?_
        refine w_val (v := .rsl _ _ _ _ _) (v_move (.inl rfl) (noOwn_flat rfl)) rfl rfl (by decide) rfl (by kernel_rfl) ?_
        refine w_val (v := .int _ _) (v_move (.inl rfl) (noOwn_flat rfl)) rfl rfl (by decide) rfl (by kernel_rfl) ?_
        refine w_val (v := .rsl _ _ _ _ _) (v_move (.inl rfl) (noOwn_flat rfl)) rfl rfl (by decide) rfl (by kernel_rfl) ?_
        refine w_val (v := .int _ _) (v_move (.inl rfl) (noOwn_flat rfl)) rfl rfl (by decide) rfl (by kernel_rfl) ?_
        refine w_val (v := .rsl _ _ _ _ _) (v_move (.inl rfl) (noOwn_flat rfl)) rfl rfl (by decide) rfl (by kernel_rfl) ?_
        refine w_val (v := .int _ _) (v_move (.inl rfl) (noOwn_flat rfl)) rfl rfl (by decide) rfl (by kernel_rfl) ?_
        refine w_val (v := .rp _ _) (v_indexAddr_rsl0 es25 (.inl rfl) (.inl rfl) (fun _ => by omega)) rfl rfl (by decide) rfl (by kernel_rfl) ?_
        refine w_val (v := .int .i64 x.2.2[v]!) (v_load_rp1 ta3 (.inl rfl) rfl (fun _ => by rw [Nat.mul_one]; exact acells_get (by omega)) rfl) rfl rfl (by decide) rfl (by kernel_rfl) ?_
        refine w_val (v := .rsl _ _ _ _ _) (v_move (.inl rfl) (noOwn_flat rfl)) rfl rfl (by decide) rfl (by kernel_rfl) ?_
        refine w_val (v := .int _ _) (v_move (.inl rfl) (noOwn_flat rfl)) rfl rfl (by decide) rfl (by kernel_rfl) ?_
        refine w_val (v := .rp _ _) (v_indexAddr_rsl0 es25 (.inl rfl) (.inl rfl) (fun _ => by omega)) rfl rfl (by decide) rfl (by kernel_rfl) ?_
        refine w_val (v := .int .i64 x.2.2[u]!) (v_load_rp1 ta3 (.inl rfl) rfl (fun _ => by rw [Nat.mul_one]; exact acells_get (by omega)) rfl) rfl rfl (by decide) rfl (by kernel_rfl) ?_
        refine w_val (v := .rp _ _) (v_indexAddr_rsl0 es25 (.inl rfl) (.inl rfl) (fun _ => by omega)) rfl rfl (by decide) rfl (by kernel_rfl) ?_
        refine w_store (v := .int _ _) (y' := .osl _ _ _ _) rfl rfl rfl ta3 (.inl rfl) (.inl rfl) rfl rfl rfl rfl rfl rfl hp1 (by decide) rfl rfl rfl (by kernel_rfl) ?_
        refine w_val (v := .rp _ _) (v_indexAddr_rsl0 es25 (.inl rfl) (.inl rfl) (fun _ => by omega)) rfl rfl (by decide) rfl (by kernel_rfl) ?_
        refine w_store (v := .int _ _) (y' := .osl _ _ _ _) rfl rfl rfl ta3 (.inl rfl) (.inl rfl) rfl rfl rfl rfl rfl rfl hp2 (by decide) rfl (congrArg (fun c => AV.osl 1 c n none) hset) rfl (by kernel_rfl) ?_
        refine w_nil ?_
        refine a_seq ?_
        refine a_pre (ent_look (L := [(0, .rsl _ _ _ _ _), (1, .int _ _), (4, .fn _ _ _), (11, .int _ _), (12, .int _ _), (INH, .osl _ _ _ _)]) ⟨Weak.rfl, Weak.rfl, Weak.rfl, Weak.rfl, Weak.rfl, Weak.rfl, trivial⟩) ?_
        refine a_region ?_
        refine r_val (v := .int _ _) (v_move (.inl rfl) (noOwn_flat rfl)) rfl rfl (by decide) ?_
        refine r_val (v := .int _ _) (v_add (.inl rfl) (.inl rfl) (fun _ => by omega)) rfl rfl (by decide) ?_
        refine r_val (v := .int _ _) (v_assign (.inl rfl) (noOwn_flat rfl)) rfl rfl (by decide) ?_
        refine r_nil ?_
        refine a_region ?_
        refine r_val (v := .int _ _) (v_move (.inl rfl) (noOwn_flat rfl)) rfl rfl (by decide) ?_
        refine r_val (v := .int _ _) (v_sub (.inl rfl) (.inl rfl) (fun _ => by omega)) rfl rfl (by decide) ?_
        refine r_val (v := .int _ _) (v_assign (.inl rfl) (noOwn_flat rfl)) rfl rfl (by decide) ?_
        refine r_nil ?_
        refine ⟨(u + 1, v - 1, swp x.2.2 u v), ent_look ⟨Weak.of_eq rfl, Weak.of_eq rfl, Weak.of_eq rfl, Weak.of_eq (int_eq (by dsimp only; omega)), Weak.of_eq (int_eq (by dsimp only; omega)), Weak.of_eq rfl, trivial⟩, ⟨by dsimp only; omega, by dsimp only; omega, by rw [swp_size]; exact g3, by dsimp only; omega, by rw [← g5]; exact (peq_more hup hdn (by omega)).symm⟩, by dsimp only; omega⟩
end Go.Av
namespace Go.Av
open Go Go.Proofs Go.Sort
set_option maxRecDepth 10000


theorem partition_c (f : Nat) (hb : hasBody Try.prog f = true) (cf : Int → Int → Int) (hc : ∀ x y, ACall Try.prog f [.int .i64 x, .int .i64 y] [] (.int .i64 (cf x y)) []) (d : Array Int) (n a b pivot : Nat) (hd : d.size = n) (hab : a ≤ pivot ∧ pivot < b ∧ b ≤ n) (hn : n ≤ 1152921504606846976) : ACall Try.prog 172 [.rsl (INH, []) 1 0 n none, .int .i64 ((a : Nat) : Int), .int .i64 ((b : Nat) : Int), .int .i64 ((pivot : Nat) : Int), .fn f [] []] [.osl 1 (acells d) n none] (.tup [.int .i64 (((partition (ltc cf) d a b pivot).1 : Nat) : Int), .bool (partition (ltc cf) d a b pivot).2.1]) [.osl 1 (acells ((partition (ltc cf) d a b pivot).2.2)) n none] := by
  refine ACall.intro Try.func172 rfl (N := 178) rfl (by decide) (by simp) ?_
  refine a_seq ?_
  refine a_region ?_
  refine r_val (v := .int _ _) (v_assign (.inl rfl) (noOwn_flat rfl)) rfl rfl (by decide) ?_
  refine r_val (v := .bool _) (v_assign (.inl rfl) (noOwn_flat rfl)) rfl rfl (by decide) ?_
  refine r_nil ?_
  refine a_seq ?_
  have hp1 : a * 1 + 1 ≤ (acells d).length := (by rw [acells_length]; omega)
  have hp2 : pivot * 1 + 1 ≤ ((acells d).set (a * 1) (.int .i64 d[pivot]!)).length := (by rw [List.length_set, acells_length]; omega)
  have hset : ((acells d).set (a * 1) (.int .i64 d[pivot]!)).set (pivot * 1) (.int .i64 d[a]!) = acells (swp d a pivot) := (by rw [Nat.mul_one, Nat.mul_one]; exact acells_swp _ _ _)
  refine a_region_w [(14, true), (15, true), (16, true), (17, true), (18, true), (19, true), (20, true), (21, true), (22, true), (23, true), (24, true), (25, true), (26, true), (INH, false), (27, true), (INH, false)] mixed (by kernel_rfl) ?_
  refine w_val (v := .rsl _ _ _ _ _) (v_move (.inl rfl) (noOwn_flat rfl)) rfl rfl (by decide) rfl (by kernel_rfl) ?_
  refine w_val (v := .int _ _) (v_move (.inl rfl) (noOwn_flat rfl)) rfl rfl (by decide) rfl (by kernel_rfl) ?_
  refine w_val (v := .rsl _ _ _ _ _) (v_move (.inl rfl) (noOwn_flat rfl)) rfl rfl (by decide) rfl (by kernel_rfl) ?_
  refine w_val (v := .int _ _) (v_move (.inl rfl) (noOwn_flat rfl)) rfl rfl (by decide) rfl (by kernel_rfl) ?_
  refine w_val (v := .rsl _ _ _ _ _) (v_move (.inl rfl) (noOwn_flat rfl)) rfl rfl (by decide) rfl (by kernel_rfl) ?_
  refine w_val (v := .int _ _) (v_move (.inl rfl) (noOwn_flat rfl)) rfl rfl (by decide) rfl (by kernel_rfl) ?_
  refine w_val (v := .rp _ _) (v_indexAddr_rsl0 es25 (.inl rfl) (.inl rfl) (fun _ => by omega)) rfl rfl (by decide) rfl (by kernel_rfl) ?_
  refine w_val (v := .int .i64 d[pivot]!) (v_load_rp1 ta3 (.inl rfl) rfl (fun _ => by rw [Nat.mul_one]; exact acells_get (by omega)) rfl) rfl rfl (by decide) rfl (by kernel_rfl) ?_
  refine w_val (v := .rsl _ _ _ _ _) (v_move (.inl rfl) (noOwn_flat rfl)) rfl rfl (by decide) rfl (by kernel_rfl) ?_
  refine w_val (v := .int _ _) (v_move (.inl rfl) (noOwn_flat rfl)) rfl rfl (by decide) rfl (by kernel_rfl) ?_
  refine w_val (v := .rp _ _) (v_indexAddr_rsl0 es25 (.inl rfl) (.inl rfl) (fun _ => by omega)) rfl rfl (by decide) rfl (by kernel_rfl) ?_
  refine w_val (v := .int .i64 d[a]!) (v_load_rp1 ta3 (.inl rfl) rfl (fun _ => by rw [Nat.mul_one]; exact acells_get (by omega)) rfl) rfl rfl (by decide) rfl (by kernel_rfl) ?_
  refine w_val (v := .rp _ _) (v_indexAddr_rsl0 es25 (.inl rfl) (.inl rfl) (fun _ => by omega)) rfl rfl (by decide) rfl (by kernel_rfl) ?_
  refine w_store (v := .int _ _) (y' := .osl _ _ _ _) rfl rfl rfl ta3 (.inl rfl) (.inl rfl) rfl rfl rfl rfl rfl rfl hp1 (by decide) rfl rfl rfl (by kernel_rfl) ?_
  refine w_val (v := .rp _ _) (v_indexAddr_rsl0 es25 (.inl rfl) (.inl rfl) (fun _ => by omega)) rfl rfl (by decide) rfl (by kernel_rfl) ?_
  refine w_store (v := .int _ _) (y' := .osl _ _ _ _) rfl rfl rfl ta3 (.inl rfl) (.inl rfl) rfl rfl rfl rfl rfl rfl hp2 (by decide) rfl (congrArg (fun c => AV.osl 1 c n none) hset) rfl (by kernel_rfl) ?_
  refine w_nil ?_
  refine a_seq ?_
  refine a_region ?_
  refine r_val (v := .int _ _) (v_move (.inl rfl) (noOwn_flat rfl)) rfl rfl (by decide) ?_
  refine r_val (v := .int _ _) (v_add (.inl rfl) (.inl rfl) (fun _ => by omega)) rfl rfl (by decide) ?_
  refine r_val (v := .int _ _) (v_move (.inl rfl) (noOwn_flat rfl)) rfl rfl (by decide) ?_
  refine r_val (v := .int _ _) (v_sub (.inl rfl) (.inl rfl) (fun _ => by omega)) rfl rfl (by decide) ?_
  refine r_val (v := .int _ _) (v_assign (.inl rfl) (noOwn_flat rfl)) rfl rfl (by decide) ?_
  refine r_val (v := .int _ _) (v_assign (.inl rfl) (noOwn_flat rfl)) rfl rfl (by decide) ?_
  refine r_nil ?_
  refine a_seq ?_
  refine a_block ?_
  refine a_loop (X := Nat) (fun u0 => look [(0, .rsl (INH, []) 1 0 n none), (1, .int .i64 ((a : Nat) : Int)), (4, .fn f [] []), (12, .int .i64 ((u0 : Nat) : Int)), (13, .int .i64 ((b - 1 : Nat) : Int)), (INH, .osl 1 (acells (swp d a pivot)) n none)]) (fun u0 => a + 1 ≤ u0 ∧ u0 ≤ n ∧ scanUp (fun w => ltc cf w (swp d a pivot)[a]!) (swp d a pivot) (b - 1) u0 = scanUp (fun w => ltc cf w (swp d a pivot)[a]!) (swp d a pivot) (b - 1) (a + 1)) (fun u0 => b - u0) (a + 1) (ent_look ⟨Weak.of_eq rfl, Weak.of_eq rfl, Weak.of_eq rfl, Weak.of_eq (int_eq (by omega)), Weak.of_eq (int_eq (by omega)), Weak.of_eq rfl, trivial⟩) ⟨Nat.le_refl _, by omega, rfl⟩ (fun u0 hG => ?_)
  obtain ⟨a1, a2, a3⟩ := hG
  refine a_seq ?_
  refine a_seq ?_
  have hsz := swp_size (d := d) (i := a) (j := pivot)
  refine a_region_any mixed (by kernel_rfl) ?_
  refine y_val (v := .int _ _) (v_move (.inl rfl) (noOwn_flat rfl)) rfl rfl (by decide) (by kernel_rfl) ?_
  refine y_val (v := .int _ _) (v_move (.inl rfl) (noOwn_flat rfl)) rfl rfl (by decide) (by kernel_rfl) ?_
  refine y_val (v := .bool _) (v_leq (.inl rfl) (.inl rfl)) rfl rfl (by decide) (by kernel_rfl) ?_
  refine y_val (v := .bool _) (v_move (.inl rfl) (noOwn_flat rfl)) rfl rfl (by decide) (by kernel_rfl) ?_
  refine y_guard (v := .fn _ _ _) (v_move (.inl rfl) (noOwn_flat rfl)).quiet rfl rfl rfl (by decide) (.inl ⟨_, rfl, rfl⟩) rfl (by decide) (by kernel_rfl) ?_
  refine y_guard (v := .rsl _ _ _ _ _) (v_move (.inl rfl) (noOwn_flat rfl)).quiet rfl rfl rfl (by decide) (.inl ⟨_, rfl, rfl⟩) rfl (by decide) (by kernel_rfl) ?_
  refine y_guard (v := .int _ _) (v_move (.inl rfl) (noOwn_flat rfl)).quiet rfl rfl rfl (by decide) (.inl ⟨_, rfl, rfl⟩) rfl (by decide) (by kernel_rfl) ?_
  refine y_guard (v := .rp _ _) (v_indexAddr_rsl0 es25 (.inr ⟨_, rfl, fun h => h⟩) (.inr ⟨_, rfl, fun h => h⟩) (fun hA => by simp at hA; omega)).quiet rfl rfl rfl (by decide) (.inl ⟨_, rfl, rfl⟩) rfl (by decide) (by kernel_rfl) ?_
  refine y_guard (v := .int .i64 (swp d a pivot)[u0]!) (v_load_rp1 ta3 (.inr ⟨_, rfl, fun h => h⟩) rfl (fun hA => by simp at hA; rw [Nat.mul_one]; exact acells_get (by omega)) rfl).quiet rfl rfl rfl (by decide) (.inl ⟨_, rfl, rfl⟩) rfl (by decide) (by kernel_rfl) ?_
  refine y_guard (v := .rsl _ _ _ _ _) (v_move (.inl rfl) (noOwn_flat rfl)).quiet rfl rfl rfl (by decide) (.inl ⟨_, rfl, rfl⟩) rfl (by decide) (by kernel_rfl) ?_
  refine y_guard (v := .int _ _) (v_move (.inl rfl) (noOwn_flat rfl)).quiet rfl rfl rfl (by decide) (.inl ⟨_, rfl, rfl⟩) rfl (by decide) (by kernel_rfl) ?_
  refine y_guard (v := .rp _ _) (v_indexAddr_rsl0 es25 (.inr ⟨_, rfl, fun h => h⟩) (.inr ⟨_, rfl, fun h => h⟩) (fun hA => by simp at hA; omega)).quiet rfl rfl rfl (by decide) (.inl ⟨_, rfl, rfl⟩) rfl (by decide) (by kernel_rfl) ?_
  refine y_guard (v := .int .i64 (swp d a pivot)[a]!) (v_load_rp1 ta3 (.inr ⟨_, rfl, fun h => h⟩) rfl (fun hA => by simp at hA; rw [Nat.mul_one]; exact acells_get (by omega)) rfl).quiet rfl rfl rfl (by decide) (.inl ⟨_, rfl, rfl⟩) rfl (by decide) (by kernel_rfl) ?_
  refine y_guard (v := .int _ _) (q_clo (vs := [.int _ _, .int _ _]) (args := [.int .i64 _, .int .i64 _]) hb (.inr ⟨_, rfl, fun h => h⟩) ⟨.inr ⟨_, rfl, fun h => h⟩, .inr ⟨_, rfl, fun h => h⟩, trivial⟩ rfl (fun hA => hc _ _) rfl rfl) rfl rfl rfl (by decide) (.inl ⟨_, rfl, rfl⟩) rfl (by decide) (by kernel_rfl) ?_
  refine y_guard (v := .bool _) (v_lss (.inr ⟨_, rfl, fun h => h⟩) (.inl rfl)).quiet rfl rfl rfl (by decide) (.inl ⟨_, rfl, rfl⟩) rfl (by decide) (by kernel_rfl) ?_
  refine y_val (v := .bool _) (v_pick (.inl rfl) (.inr ⟨_, rfl, fun h h2 => by simp_all⟩) (.inl rfl)) rfl rfl (by decide) (by kernel_rfl) ?_
  refine y_nil ?_
  refine a_cond rfl (fun ht47 => ?_) (fun ht47 => ?_)
  ·
    skip
    refine a_skip ?_
    refine a_block ?_
    refine a_region ?_
    refine r_val (v := .int _ _) (v_move (.inl rfl) (noOwn_flat rfl)) rfl rfl (by decide) ?_
    refine r_val (v := .int _ _) (v_add (.inl rfl) (.inl rfl) (fun _ => by omega)) rfl rfl (by decide) ?_
    refine r_val (v := .int _ _) (v_assign (.inl rfl) (noOwn_flat rfl)) rfl rfl (by decide) ?_
    refine r_nil ?_
    have hcu : (decide (u0 ≤ b - 1) && ltc cf (swp d a pivot)[u0]! (swp d a pivot)[a]!) = true := (by simpa [ltc] using ht47)
    refine ⟨u0 + 1, ent_look ⟨Weak.of_eq rfl, Weak.of_eq rfl, Weak.of_eq rfl, Weak.of_eq (int_eq (by omega)), Weak.of_eq rfl, Weak.of_eq rfl, trivial⟩, ⟨by omega, by simp at hcu; omega, by rw [← a3]; exact up_more hcu⟩, by simp at hcu; omega⟩
  ·
    skip
    refine a_exit ?_
    refine a_seq ?_
    refine a_block ?_
    refine a_loop (X := Nat) (fun v0 => look [(0, .rsl (INH, []) 1 0 n none), (1, .int .i64 ((a : Nat) : Int)), (4, .fn f [] []), (12, .int .i64 ((u0 : Nat) : Int)), (13, .int .i64 ((v0 : Nat) : Int)), (INH, .osl 1 (acells (swp d a pivot)) n none)]) (fun v0 => v0 ≤ b - 1 ∧ scanDown (fun w => !ltc cf w (swp d a pivot)[a]!) (swp d a pivot) u0 v0 = scanDown (fun w => !ltc cf w (swp d a pivot)[a]!) (swp d a pivot) u0 (b - 1)) (fun v0 => v0) (b - 1) (ent_look ⟨Weak.of_eq rfl, Weak.of_eq rfl, Weak.of_eq rfl, Weak.of_eq rfl, Weak.of_eq rfl, Weak.of_eq rfl, trivial⟩) ⟨Nat.le_refl _, rfl⟩ (fun v0 hG => ?_)
    obtain ⟨b1, b2⟩ := hG
    refine a_seq ?_
    refine a_seq ?_
    have hsz := swp_size (d := d) (i := a) (j := pivot)
    refine a_region_any mixed (by kernel_rfl) ?_
    refine y_val (v := .int _ _) (v_move (.inl rfl) (noOwn_flat rfl)) rfl rfl (by decide) (by kernel_rfl) ?_
    refine y_val (v := .int _ _) (v_move (.inl rfl) (noOwn_flat rfl)) rfl rfl (by decide) (by kernel_rfl) ?_
    refine y_val (v := .bool _) (v_leq (.inl rfl) (.inl rfl)) rfl rfl (by decide) (by kernel_rfl) ?_
    refine y_val (v := .bool _) (v_move (.inl rfl) (noOwn_flat rfl)) rfl rfl (by decide) (by kernel_rfl) ?_
    refine y_guard (v := .fn _ _ _) (v_move (.inl rfl) (noOwn_flat rfl)).quiet rfl rfl rfl (by decide) (.inl ⟨_, rfl, rfl⟩) rfl (by decide) (by kernel_rfl) ?_
    refine y_guard (v := .rsl _ _ _ _ _) (v_move (.inl rfl) (noOwn_flat rfl)).quiet rfl rfl rfl (by decide) (.inl ⟨_, rfl, rfl⟩) rfl (by decide) (by kernel_rfl) ?_
    refine y_guard (v := .int _ _) (v_move (.inl rfl) (noOwn_flat rfl)).quiet rfl rfl rfl (by decide) (.inl ⟨_, rfl, rfl⟩) rfl (by decide) (by kernel_rfl) ?_
    refine y_guard (v := .rp _ _) (v_indexAddr_rsl0 es25 (.inr ⟨_, rfl, fun h => h⟩) (.inr ⟨_, rfl, fun h => h⟩) (fun hA => by simp at hA; omega)).quiet rfl rfl rfl (by decide) (.inl ⟨_, rfl, rfl⟩) rfl (by decide) (by kernel_rfl) ?_
    refine y_guard (v := .int .i64 (swp d a pivot)[v0]!) (v_load_rp1 ta3 (.inr ⟨_, rfl, fun h => h⟩) rfl (fun hA => by simp at hA; rw [Nat.mul_one]; exact acells_get (by omega)) rfl).quiet rfl rfl rfl (by decide) (.inl ⟨_, rfl, rfl⟩) rfl (by decide) (by kernel_rfl) ?_
    refine y_guard (v := .rsl _ _ _ _ _) (v_move (.inl rfl) (noOwn_flat rfl)).quiet rfl rfl rfl (by decide) (.inl ⟨_, rfl, rfl⟩) rfl (by decide) (by kernel_rfl) ?_
    refine y_guard (v := .int _ _) (v_move (.inl rfl) (noOwn_flat rfl)).quiet rfl rfl rfl (by decide) (.inl ⟨_, rfl, rfl⟩) rfl (by decide) (by kernel_rfl) ?_
    refine y_guard (v := .rp _ _) (v_indexAddr_rsl0 es25 (.inr ⟨_, rfl, fun h => h⟩) (.inr ⟨_, rfl, fun h => h⟩) (fun hA => by simp at hA; omega)).quiet rfl rfl rfl (by decide) (.inl ⟨_, rfl, rfl⟩) rfl (by decide) (by kernel_rfl) ?_
    refine y_guard (v := .int .i64 (swp d a pivot)[a]!) (v_load_rp1 ta3 (.inr ⟨_, rfl, fun h => h⟩) rfl (fun hA => by simp at hA; rw [Nat.mul_one]; exact acells_get (by omega)) rfl).quiet rfl rfl rfl (by decide) (.inl ⟨_, rfl, rfl⟩) rfl (by decide) (by kernel_rfl) ?_
    refine y_guard (v := .int _ _) (q_clo (vs := [.int _ _, .int _ _]) (args := [.int .i64 _, .int .i64 _]) hb (.inr ⟨_, rfl, fun h => h⟩) ⟨.inr ⟨_, rfl, fun h => h⟩, .inr ⟨_, rfl, fun h => h⟩, trivial⟩ rfl (fun hA => hc _ _) rfl rfl) rfl rfl rfl (by decide) (.inl ⟨_, rfl, rfl⟩) rfl (by decide) (by kernel_rfl) ?_
    refine y_guard (v := .bool _) (v_lss (.inr ⟨_, rfl, fun h => h⟩) (.inl rfl)).quiet rfl rfl rfl (by decide) (.inl ⟨_, rfl, rfl⟩) rfl (by decide) (by kernel_rfl) ?_
    refine y_guard (v := .bool _) (v_not (.inr ⟨_, rfl, fun h => h⟩)).quiet rfl rfl rfl (by decide) (.inl ⟨_, rfl, rfl⟩) rfl (by decide) (by kernel_rfl) ?_
    refine y_val (v := .bool _) (v_pick (.inl rfl) (.inr ⟨_, rfl, fun h h2 => by simp_all⟩) (.inl rfl)) rfl rfl (by decide) (by kernel_rfl) ?_
    refine y_nil ?_
    refine a_cond rfl (fun ht66 => ?_) (fun ht66 => ?_)
    ·
      skip
      refine a_skip ?_
      refine a_block ?_
      refine a_region ?_
      refine r_val (v := .int _ _) (v_move (.inl rfl) (noOwn_flat rfl)) rfl rfl (by decide) ?_
      refine r_val (v := .int _ _) (v_sub (.inl rfl) (.inl rfl) (fun _ => by omega)) rfl rfl (by decide) ?_
      refine r_val (v := .int _ _) (v_assign (.inl rfl) (noOwn_flat rfl)) rfl rfl (by decide) ?_
      refine r_nil ?_
      have hcv : (decide (u0 ≤ v0) && !ltc cf (swp d a pivot)[v0]! (swp d a pivot)[a]!) = true := (by simpa [ltc] using ht66)
      refine ⟨v0 - 1, ent_look ⟨Weak.of_eq rfl, Weak.of_eq rfl, Weak.of_eq rfl, Weak.of_eq rfl, Weak.of_eq (int_eq (by simp at hcv; omega)), Weak.of_eq rfl, trivial⟩, ⟨by omega, by rw [← b2]; exact down_more (by simp at hcv; omega) hcv⟩, by simp at hcv; omega⟩
    ·
      skip
      refine a_exit ?_
      refine a_seq ?_
      refine a_seq ?_
      have hsz := swp_size (d := d) (i := a) (j := pivot)
      have hup0 : scanUp (fun w => ltc cf w (swp d a pivot)[a]!) (swp d a pivot) (b - 1) (a + 1) = u0 := (by rw [← a3]; exact up_stop (by simpa [ltc] using ht47))
      have hdn0 : scanDown (fun w => !ltc cf w (swp d a pivot)[a]!) (swp d a pivot) u0 (b - 1) = v0 := (by rw [← b2]; exact down_stop (by simpa [ltc] using ht66))
      refine a_region ?_
      refine r_val (v := .int _ _) (v_move (.inl rfl) (noOwn_flat rfl)) rfl rfl (by decide) ?_
      refine r_val (v := .int _ _) (v_move (.inl rfl) (noOwn_flat rfl)) rfl rfl (by decide) ?_
      refine r_val (v := .bool _) (v_gtr (.inl rfl) (.inl rfl)) rfl rfl (by decide) ?_
      refine r_nil ?_
      refine a_cond rfl (fun ht71 => ?_) (fun ht71 => ?_)
      ·
        skip
        refine a_seq ?_
        have hfin : (partition (ltc cf) d a b pivot) = (v0, true, swp (swp d a pivot) v0 a) := part_end hup0 hdn0 (by simp at ht71; omega)
        have hp1 : v0 * 1 + 1 ≤ (acells (swp d a pivot)).length := (by rw [acells_length]; omega)
        have hp2 : a * 1 + 1 ≤ ((acells (swp d a pivot)).set (v0 * 1) (.int .i64 (swp d a pivot)[a]!)).length := (by rw [List.length_set, acells_length]; omega)
        have hset : ((acells (swp d a pivot)).set (v0 * 1) (.int .i64 (swp d a pivot)[a]!)).set (a * 1) (.int .i64 (swp d a pivot)[v0]!) = acells (swp (swp d a pivot) v0 a) := (by rw [Nat.mul_one, Nat.mul_one]; exact acells_swp _ _ _)
        refine a_region_w [(72, true), (73, true), (74, true), (75, true), (76, true), (77, true), (78, true), (79, true), (80, true), (81, true), (82, true), (83, true), (84, true), (INH, false), (85, true), (INH, false)] mixed (by kernel_rfl) ?_
        refine w_val (v := .rsl _ _ _ _ _) (v_move (.inl rfl) (noOwn_flat rfl)) rfl rfl (by decide) rfl (by kernel_rfl) ?_
        refine w_val (v := .int _ _) (v_move (.inl rfl) (noOwn_flat rfl)) rfl rfl (by decide) rfl (by kernel_rfl) ?_
        refine w_val (v := .rsl _ _ _ _ _) (v_move (.inl rfl) (noOwn_flat rfl)) rfl rfl (by decide) rfl (by kernel_rfl) ?_
        refine w_val (v := .int _ _) (v_move (.inl rfl) (noOwn_flat rfl)) rfl rfl (by decide) rfl (by kernel_rfl) ?_
        refine w_val (v := .rsl _ _ _ _ _) (v_move (.inl rfl) (noOwn_flat rfl)) rfl rfl (by decide) rfl (by kernel_rfl) ?_
        refine w_val (v := .int _ _) (v_move (.inl rfl) (noOwn_flat rfl)) rfl rfl (by decide) rfl (by kernel_rfl) ?_
        refine w_val (v := .rp _ _) (v_indexAddr_rsl0 es25 (.inl rfl) (.inl rfl) (fun _ => by omega)) rfl rfl (by decide) rfl (by kernel_rfl) ?_
        refine w_val (v := .int .i64 (swp d a pivot)[a]!) (v_load_rp1 ta3 (.inl rfl) rfl (fun _ => by rw [Nat.mul_one]; exact acells_get (by omega)) rfl) rfl rfl (by decide) rfl (by kernel_rfl) ?_
        refine w_val (v := .rsl _ _ _ _ _) (v_move (.inl rfl) (noOwn_flat rfl)) rfl rfl (by decide) rfl (by kernel_rfl) ?_
        refine w_val (v := .int _ _) (v_move (.inl rfl) (noOwn_flat rfl)) rfl rfl (by decide) rfl (by kernel_rfl) ?_
        refine w_val (v := .rp _ _) (v_indexAddr_rsl0 es25 (.inl rfl) (.inl rfl) (fun _ => by omega)) rfl rfl (by decide) rfl (by kernel_rfl) ?_
        refine w_val (v := .int .i64 (swp d a pivot)[v0]!) (v_load_rp1 ta3 (.inl rfl) rfl (fun _ => by rw [Nat.mul_one]; exact acells_get (by omega)) rfl) rfl rfl (by decide) rfl (by kernel_rfl) ?_
        refine w_val (v := .rp _ _) (v_indexAddr_rsl0 es25 (.inl rfl) (.inl rfl) (fun _ => by omega)) rfl rfl (by decide) rfl (by kernel_rfl) ?_
        refine w_store (v := .int _ _) (y' := .osl _ _ _ _) rfl rfl rfl ta3 (.inl rfl) (.inl rfl) rfl rfl rfl rfl rfl rfl hp1 (by decide) rfl rfl rfl (by kernel_rfl) ?_
        refine w_val (v := .rp _ _) (v_indexAddr_rsl0 es25 (.inl rfl) (.inl rfl) (fun _ => by omega)) rfl rfl (by decide) rfl (by kernel_rfl) ?_
        refine w_store (v := .int _ _) (y' := .osl _ _ _ _) rfl rfl rfl ta3 (.inl rfl) (.inl rfl) rfl rfl rfl rfl rfl rfl hp2 (by decide) rfl (congrArg (fun c => AV.osl 1 c n none) hset) rfl (by kernel_rfl) ?_
        refine w_nil ?_
        refine a_seq ?_
        refine a_pre (ent_look (L := [(0, .rsl _ _ _ _ _), (1, .int _ _), (4, .fn _ _ _), (12, .int _ _), (13, .int _ _), (INH, .osl _ _ _ _)]) ⟨Weak.rfl, Weak.rfl, Weak.rfl, Weak.rfl, Weak.rfl, Weak.rfl, trivial⟩) ?_
        refine a_region ?_
        refine r_val (v := .int _ _) (v_move (.inl rfl) (noOwn_flat rfl)) rfl rfl (by decide) ?_
        refine r_val (v := .int _ _) (v_assign (.inl rfl) (noOwn_flat rfl)) rfl rfl (by decide) ?_
        refine r_val (v := .bool _) (v_assign (.inl rfl) (noOwn_flat rfl)) rfl rfl (by decide) ?_
        refine r_nil ?_
        refine a_ret ?_
        refine retLO (rs := [.tmp 10, .tmp 11]) [(10, _), (11, _)] ⟨(Weak.of_eq (osl_eq (by rw [hfin]))), Weak.rfl, Weak.rfl, trivial⟩ rfl Try.results172 (by decide) ⟨by decide, by decide, rfl⟩ (by decide) (by decide) (l2_eq (int_eq ?_) (bool_eq ?_)) rfl rfl
        · rw [hfin]
        · rw [hfin]
      ·
        skip
        refine a_skip ?_
        refine a_seq ?_
        have huv0 : u0 ≤ v0 := (by simp at ht71; omega)
        have hpm := part_more (lt := ltc cf) (d := d) (a := a) (b := b) (pivot := pivot) hup0 hdn0 (by omega)
        have hp1 : u0 * 1 + 1 ≤ (acells (swp d a pivot)).length := (by rw [acells_length]; omega)
        have hp2 : v0 * 1 + 1 ≤ ((acells (swp d a pivot)).set (u0 * 1) (.int .i64 (swp d a pivot)[v0]!)).length := (by rw [List.length_set, acells_length]; omega)
        have hset : ((acells (swp d a pivot)).set (u0 * 1) (.int .i64 (swp d a pivot)[v0]!)).set (v0 * 1) (.int .i64 (swp d a pivot)[u0]!) = acells (swp (swp d a pivot) u0 v0) := (by rw [Nat.mul_one, Nat.mul_one]; exact acells_swp _ _ _)
        refine a_region_w [(87, true), (88, true), (89, true), (90, true), (91, true), (92, true), (93, true), (94, true), (95, true), (96, true), (97, true), (98, true), (99, true), (INH, false), (100, true), (INH, false)] mixed (by kernel_rfl) ?_
        refine w_val (v := .rsl _ _ _ _ _) (v_move (.inl rfl) (noOwn_flat rfl)) rfl rfl (by decide) rfl (by kernel_rfl) ?_
        refine w_val (v := .int _ _) (v_move (.inl rfl) (noOwn_flat rfl)) rfl rfl (by decide) rfl (by kernel_rfl) ?_
        refine w_val (v := .rsl _ _ _ _ _) (v_move (.inl rfl) (noOwn_flat rfl)) rfl rfl (by decide) rfl (by kernel_rfl) ?_
        refine w_val (v := .int _ _) (v_move (.inl rfl) (noOwn_flat rfl)) rfl rfl (by decide) rfl (by kernel_rfl) ?_
        refine w_val (v := .rsl _ _ _ _ _) (v_move (.inl rfl) (noOwn_flat rfl)) rfl rfl (by decide) rfl (by kernel_rfl) ?_
        refine w_val (v := .int _ _) (v_move (.inl rfl) (noOwn_flat rfl)) rfl rfl (by decide) rfl (by kernel_rfl) ?_
        refine w_val (v := .rp _ _) (v_indexAddr_rsl0 es25 (.inl rfl) (.inl rfl) (fun _ => by omega)) rfl rfl (by decide) rfl (by kernel_rfl) ?_
        refine w_val (v := .int .i64 (swp d a pivot)[v0]!) (v_load_rp1 ta3 (.inl rfl) rfl (fun _ => by rw [Nat.mul_one]; exact acells_get (by omega)) rfl) rfl rfl (by decide) rfl (by kernel_rfl) ?_
        refine w_val (v := .rsl _ _ _ _ _) (v_move (.inl rfl) (noOwn_flat rfl)) rfl rfl (by decide) rfl (by kernel_rfl) ?_
        refine w_val (v := .int _ _) (v_move (.inl rfl) (noOwn_flat rfl)) rfl rfl (by decide) rfl (by kernel_rfl) ?_
        refine w_val (v := .rp _ _) (v_indexAddr_rsl0 es25 (.inl rfl) (.inl rfl) (fun _ => by omega)) rfl rfl (by decide) rfl (by kernel_rfl) ?_
        refine w_val (v := .int .i64 (swp d a pivot)[u0]!) (v_load_rp1 ta3 (.inl rfl) rfl (fun _ => by rw [Nat.mul_one]; exact acells_get (by omega)) rfl) rfl rfl (by decide) rfl (by kernel_rfl) ?_
        refine w_val (v := .rp _ _) (v_indexAddr_rsl0 es25 (.inl rfl) (.inl rfl) (fun _ => by omega)) rfl rfl (by decide) rfl (by kernel_rfl) ?_
        refine w_store (v := .int _ _) (y' := .osl _ _ _ _) rfl rfl rfl ta3 (.inl rfl) (.inl rfl) rfl rfl rfl rfl rfl rfl hp1 (by decide) rfl rfl rfl (by kernel_rfl) ?_
        refine w_val (v := .rp _ _) (v_indexAddr_rsl0 es25 (.inl rfl) (.inl rfl) (fun _ => by omega)) rfl rfl (by decide) rfl (by kernel_rfl) ?_
        refine w_store (v := .int _ _) (y' := .osl _ _ _ _) rfl rfl rfl ta3 (.inl rfl) (.inl rfl) rfl rfl rfl rfl rfl rfl hp2 (by decide) rfl (congrArg (fun c => AV.osl 1 c n none) hset) rfl (by kernel_rfl) ?_
        refine w_nil ?_
        refine a_seq ?_
        refine a_pre (ent_look (L := [(0, .rsl _ _ _ _ _), (1, .int _ _), (4, .fn _ _ _), (12, .int _ _), (13, .int _ _), (INH, .osl _ _ _ _)]) ⟨Weak.rfl, Weak.rfl, Weak.rfl, Weak.rfl, Weak.rfl, Weak.rfl, trivial⟩) ?_
        refine a_region ?_
        refine r_val (v := .int _ _) (v_move (.inl rfl) (noOwn_flat rfl)) rfl rfl (by decide) ?_
        refine r_val (v := .int _ _) (v_add (.inl rfl) (.inl rfl) (fun _ => by omega)) rfl rfl (by decide) ?_
        refine r_val (v := .int _ _) (v_assign (.inl rfl) (noOwn_flat rfl)) rfl rfl (by decide) ?_
        refine r_nil ?_
        refine a_seq ?_
        refine a_region ?_
        refine r_val (v := .int _ _) (v_move (.inl rfl) (noOwn_flat rfl)) rfl rfl (by decide) ?_
        refine r_val (v := .int _ _) (v_sub (.inl rfl) (.inl rfl) (fun _ => by omega)) rfl rfl (by decide) ?_
        refine r_val (v := .int _ _) (v_assign (.inl rfl) (noOwn_flat rfl)) rfl rfl (by decide) ?_
        refine r_nil ?_
        refine a_seq ?_
        refine a_block ?_
        refine a_loop (X := (Nat × Nat × Array Int)) (fun x => look [(0, .rsl (INH, []) 1 0 n none), (1, .int .i64 ((a : Nat) : Int)), (4, .fn f [] []), (12, .int .i64 ((x.1 : Nat) : Int)), (13, .int .i64 ((x.2.1 : Nat) : Int)), (INH, .osl 1 (acells x.2.2) n none)]) (fun x => a < x.1 ∧ x.2.1 < b ∧ x.2.2.size = n ∧ x.1 ≤ n ∧ partLoop (ltc cf) a x.1 x.2.1 x.2.2 = partLoop (ltc cf) a (u0 + 1) (v0 - 1) (swp (swp d a pivot) u0 v0)) (fun x => x.2.1 + 1 - x.1) (u0 + 1, v0 - 1, swp (swp d a pivot) u0 v0) (ent_look ⟨Weak.of_eq rfl, Weak.of_eq rfl, Weak.of_eq rfl, Weak.of_eq (int_eq (by dsimp only; omega)), Weak.of_eq (int_eq (by dsimp only; omega)), Weak.of_eq rfl, trivial⟩) ⟨by dsimp only; omega, by dsimp only; omega, by rw [swp_size, swp_size]; exact hd, by dsimp only; omega, rfl⟩ (fun x hG => ?_)
        obtain ⟨g1, g2, g3, g4, g5⟩ := hG
        refine a_block ?_
        refine a_seq ?_
        refine a_block ?_
        refine a_loop (X := Nat) (fun u => look [(0, .rsl (INH, []) 1 0 n none), (1, .int .i64 ((a : Nat) : Int)), (4, .fn f [] []), (12, .int .i64 ((u : Nat) : Int)), (13, .int .i64 ((x.2.1 : Nat) : Int)), (INH, .osl 1 (acells x.2.2) n none)]) (fun u => x.1 ≤ u ∧ u ≤ n ∧ scanUp (fun w => ltc cf w x.2.2[a]!) x.2.2 x.2.1 u = scanUp (fun w => ltc cf w x.2.2[a]!) x.2.2 x.2.1 x.1) (fun u => x.2.1 + 1 - u) x.1 (ent_look ⟨Weak.of_eq rfl, Weak.of_eq rfl, Weak.of_eq rfl, Weak.of_eq rfl, Weak.of_eq rfl, Weak.of_eq rfl, trivial⟩) ⟨Nat.le_refl _, g4, rfl⟩ (fun u hG => ?_)
        obtain ⟨u1, u2, u3⟩ := hG
        refine a_seq ?_
        refine a_seq ?_
        refine a_region_any mixed (by kernel_rfl) ?_
        refine y_val (v := .int _ _) (v_move (.inl rfl) (noOwn_flat rfl)) rfl rfl (by decide) (by kernel_rfl) ?_
        refine y_val (v := .int _ _) (v_move (.inl rfl) (noOwn_flat rfl)) rfl rfl (by decide) (by kernel_rfl) ?_
        refine y_val (v := .bool _) (v_leq (.inl rfl) (.inl rfl)) rfl rfl (by decide) (by kernel_rfl) ?_
        refine y_val (v := .bool _) (v_move (.inl rfl) (noOwn_flat rfl)) rfl rfl (by decide) (by kernel_rfl) ?_
        refine y_guard (v := .fn _ _ _) (v_move (.inl rfl) (noOwn_flat rfl)).quiet rfl rfl rfl (by decide) (.inl ⟨_, rfl, rfl⟩) rfl (by decide) (by kernel_rfl) ?_
        refine y_guard (v := .rsl _ _ _ _ _) (v_move (.inl rfl) (noOwn_flat rfl)).quiet rfl rfl rfl (by decide) (.inl ⟨_, rfl, rfl⟩) rfl (by decide) (by kernel_rfl) ?_
        refine y_guard (v := .int _ _) (v_move (.inl rfl) (noOwn_flat rfl)).quiet rfl rfl rfl (by decide) (.inl ⟨_, rfl, rfl⟩) rfl (by decide) (by kernel_rfl) ?_
        refine y_guard (v := .rp _ _) (v_indexAddr_rsl0 es25 (.inr ⟨_, rfl, fun h => h⟩) (.inr ⟨_, rfl, fun h => h⟩) (fun hA => by simp at hA; omega)).quiet rfl rfl rfl (by decide) (.inl ⟨_, rfl, rfl⟩) rfl (by decide) (by kernel_rfl) ?_
        refine y_guard (v := .int .i64 x.2.2[u]!) (v_load_rp1 ta3 (.inr ⟨_, rfl, fun h => h⟩) rfl (fun hA => by simp at hA; rw [Nat.mul_one]; exact acells_get (by omega)) rfl).quiet rfl rfl rfl (by decide) (.inl ⟨_, rfl, rfl⟩) rfl (by decide) (by kernel_rfl) ?_
        refine y_guard (v := .rsl _ _ _ _ _) (v_move (.inl rfl) (noOwn_flat rfl)).quiet rfl rfl rfl (by decide) (.inl ⟨_, rfl, rfl⟩) rfl (by decide) (by kernel_rfl) ?_
        refine y_guard (v := .int _ _) (v_move (.inl rfl) (noOwn_flat rfl)).quiet rfl rfl rfl (by decide) (.inl ⟨_, rfl, rfl⟩) rfl (by decide) (by kernel_rfl) ?_
        refine y_guard (v := .rp _ _) (v_indexAddr_rsl0 es25 (.inr ⟨_, rfl, fun h => h⟩) (.inr ⟨_, rfl, fun h => h⟩) (fun hA => by simp at hA; omega)).quiet rfl rfl rfl (by decide) (.inl ⟨_, rfl, rfl⟩) rfl (by decide) (by kernel_rfl) ?_
        refine y_guard (v := .int .i64 x.2.2[a]!) (v_load_rp1 ta3 (.inr ⟨_, rfl, fun h => h⟩) rfl (fun hA => by simp at hA; rw [Nat.mul_one]; exact acells_get (by omega)) rfl).quiet rfl rfl rfl (by decide) (.inl ⟨_, rfl, rfl⟩) rfl (by decide) (by kernel_rfl) ?_
        refine y_guard (v := .int _ _) (q_clo (vs := [.int _ _, .int _ _]) (args := [.int .i64 _, .int .i64 _]) hb (.inr ⟨_, rfl, fun h => h⟩) ⟨.inr ⟨_, rfl, fun h => h⟩, .inr ⟨_, rfl, fun h => h⟩, trivial⟩ rfl (fun hA => hc _ _) rfl rfl) rfl rfl rfl (by decide) (.inl ⟨_, rfl, rfl⟩) rfl (by decide) (by kernel_rfl) ?_
        refine y_guard (v := .bool _) (v_lss (.inr ⟨_, rfl, fun h => h⟩) (.inl rfl)).quiet rfl rfl rfl (by decide) (.inl ⟨_, rfl, rfl⟩) rfl (by decide) (by kernel_rfl) ?_
        refine y_val (v := .bool _) (v_pick (.inl rfl) (.inr ⟨_, rfl, fun h h2 => by simp_all⟩) (.inl rfl)) rfl rfl (by decide) (by kernel_rfl) ?_
        refine y_nil ?_
        refine a_cond rfl (fun ht120 => ?_) (fun ht120 => ?_)
        ·
          skip
          refine a_skip ?_
          refine a_block ?_
          refine a_region ?_
          refine r_val (v := .int _ _) (v_move (.inl rfl) (noOwn_flat rfl)) rfl rfl (by decide) ?_
          refine r_val (v := .int _ _) (v_add (.inl rfl) (.inl rfl) (fun _ => by omega)) rfl rfl (by decide) ?_
          refine r_val (v := .int _ _) (v_assign (.inl rfl) (noOwn_flat rfl)) rfl rfl (by decide) ?_
          refine r_nil ?_
          have hcu : (decide (u ≤ x.2.1) && ltc cf x.2.2[u]! x.2.2[a]!) = true := (by simpa [ltc] using ht120)
          refine ⟨u + 1, ent_look ⟨Weak.of_eq rfl, Weak.of_eq rfl, Weak.of_eq rfl, Weak.of_eq (int_eq (by omega)), Weak.of_eq rfl, Weak.of_eq rfl, trivial⟩, ⟨by omega, by simp at hcu; omega, by rw [← u3]; exact up_more hcu⟩, by simp at hcu; omega⟩
        ·
          skip
          refine a_exit ?_
          refine a_seq ?_
          refine a_block ?_
          refine a_loop (X := Nat) (fun v => look [(0, .rsl (INH, []) 1 0 n none), (1, .int .i64 ((a : Nat) : Int)), (4, .fn f [] []), (12, .int .i64 ((u : Nat) : Int)), (13, .int .i64 ((v : Nat) : Int)), (INH, .osl 1 (acells x.2.2) n none)]) (fun v => v ≤ x.2.1 ∧ scanDown (fun w => !ltc cf w x.2.2[a]!) x.2.2 u v = scanDown (fun w => !ltc cf w x.2.2[a]!) x.2.2 u x.2.1) (fun v => v) x.2.1 (ent_look ⟨Weak.of_eq rfl, Weak.of_eq rfl, Weak.of_eq rfl, Weak.of_eq rfl, Weak.of_eq rfl, Weak.of_eq rfl, trivial⟩) ⟨Nat.le_refl _, rfl⟩ (fun v hG => ?_)
          obtain ⟨v1, v2⟩ := hG
          refine a_seq ?_
          refine a_seq ?_
          refine a_region_any mixed (by kernel_rfl) ?_
          refine y_val (v := .int _ _) (v_move (.inl rfl) (noOwn_flat rfl)) rfl rfl (by decide) (by kernel_rfl) ?_
          refine y_val (v := .int _ _) (v_move (.inl rfl) (noOwn_flat rfl)) rfl rfl (by decide) (by kernel_rfl) ?_
          refine y_val (v := .bool _) (v_leq (.inl rfl) (.inl rfl)) rfl rfl (by decide) (by kernel_rfl) ?_
          refine y_val (v := .bool _) (v_move (.inl rfl) (noOwn_flat rfl)) rfl rfl (by decide) (by kernel_rfl) ?_
          refine y_guard (v := .fn _ _ _) (v_move (.inl rfl) (noOwn_flat rfl)).quiet rfl rfl rfl (by decide) (.inl ⟨_, rfl, rfl⟩) rfl (by decide) (by kernel_rfl) ?_
          refine y_guard (v := .rsl _ _ _ _ _) (v_move (.inl rfl) (noOwn_flat rfl)).quiet rfl rfl rfl (by decide) (.inl ⟨_, rfl, rfl⟩) rfl (by decide) (by kernel_rfl) ?_
          refine y_guard (v := .int _ _) (v_move (.inl rfl) (noOwn_flat rfl)).quiet rfl rfl rfl (by decide) (.inl ⟨_, rfl, rfl⟩) rfl (by decide) (by kernel_rfl) ?_
          refine y_guard (v := .rp _ _) (v_indexAddr_rsl0 es25 (.inr ⟨_, rfl, fun h => h⟩) (.inr ⟨_, rfl, fun h => h⟩) (fun hA => by simp at hA; omega)).quiet rfl rfl rfl (by decide) (.inl ⟨_, rfl, rfl⟩) rfl (by decide) (by kernel_rfl) ?_
          refine y_guard (v := .int .i64 x.2.2[v]!) (v_load_rp1 ta3 (.inr ⟨_, rfl, fun h => h⟩) rfl (fun hA => by simp at hA; rw [Nat.mul_one]; exact acells_get (by omega)) rfl).quiet rfl rfl rfl (by decide) (.inl ⟨_, rfl, rfl⟩) rfl (by decide) (by kernel_rfl) ?_
          refine y_guard (v := .rsl _ _ _ _ _) (v_move (.inl rfl) (noOwn_flat rfl)).quiet rfl rfl rfl (by decide) (.inl ⟨_, rfl, rfl⟩) rfl (by decide) (by kernel_rfl) ?_
          refine y_guard (v := .int _ _) (v_move (.inl rfl) (noOwn_flat rfl)).quiet rfl rfl rfl (by decide) (.inl ⟨_, rfl, rfl⟩) rfl (by decide) (by kernel_rfl) ?_
          refine y_guard (v := .rp _ _) (v_indexAddr_rsl0 es25 (.inr ⟨_, rfl, fun h => h⟩) (.inr ⟨_, rfl, fun h => h⟩) (fun hA => by simp at hA; omega)).quiet rfl rfl rfl (by decide) (.inl ⟨_, rfl, rfl⟩) rfl (by decide) (by kernel_rfl) ?_
          refine y_guard (v := .int .i64 x.2.2[a]!) (v_load_rp1 ta3 (.inr ⟨_, rfl, fun h => h⟩) rfl (fun hA => by simp at hA; rw [Nat.mul_one]; exact acells_get (by omega)) rfl).quiet rfl rfl rfl (by decide) (.inl ⟨_, rfl, rfl⟩) rfl (by decide) (by kernel_rfl) ?_
          refine y_guard (v := .int _ _) (q_clo (vs := [.int _ _, .int _ _]) (args := [.int .i64 _, .int .i64 _]) hb (.inr ⟨_, rfl, fun h => h⟩) ⟨.inr ⟨_, rfl, fun h => h⟩, .inr ⟨_, rfl, fun h => h⟩, trivial⟩ rfl (fun hA => hc _ _) rfl rfl) rfl rfl rfl (by decide) (.inl ⟨_, rfl, rfl⟩) rfl (by decide) (by kernel_rfl) ?_
          refine y_guard (v := .bool _) (v_lss (.inr ⟨_, rfl, fun h => h⟩) (.inl rfl)).quiet rfl rfl rfl (by decide) (.inl ⟨_, rfl, rfl⟩) rfl (by decide) (by kernel_rfl) ?_
          refine y_guard (v := .bool _) (v_not (.inr ⟨_, rfl, fun h => h⟩)).quiet rfl rfl rfl (by decide) (.inl ⟨_, rfl, rfl⟩) rfl (by decide) (by kernel_rfl) ?_
          refine y_val (v := .bool _) (v_pick (.inl rfl) (.inr ⟨_, rfl, fun h h2 => by simp_all⟩) (.inl rfl)) rfl rfl (by decide) (by kernel_rfl) ?_
          refine y_nil ?_
          refine a_cond rfl (fun ht139 => ?_) (fun ht139 => ?_)
          ·
            skip
            refine a_skip ?_
            refine a_block ?_
            refine a_region ?_
            refine r_val (v := .int _ _) (v_move (.inl rfl) (noOwn_flat rfl)) rfl rfl (by decide) ?_
            refine r_val (v := .int _ _) (v_sub (.inl rfl) (.inl rfl) (fun _ => by omega)) rfl rfl (by decide) ?_
            refine r_val (v := .int _ _) (v_assign (.inl rfl) (noOwn_flat rfl)) rfl rfl (by decide) ?_
            refine r_nil ?_
            have hcv : (decide (u ≤ v) && !ltc cf x.2.2[v]! x.2.2[a]!) = true := (by simpa [ltc] using ht139)
            refine ⟨v - 1, ent_look ⟨Weak.of_eq rfl, Weak.of_eq rfl, Weak.of_eq rfl, Weak.of_eq rfl, Weak.of_eq (int_eq (by simp at hcv; omega)), Weak.of_eq rfl, trivial⟩, ⟨by omega, by rw [← v2]; exact down_more (by simp at hcv; omega) hcv⟩, by simp at hcv; omega⟩
          ·
            skip
            refine a_exit ?_
            refine a_seq ?_
            refine a_seq ?_
            have hup : scanUp (fun w => ltc cf w x.2.2[a]!) x.2.2 x.2.1 x.1 = u := (by rw [← u3]; exact up_stop (by simpa [ltc] using ht120))
            have hdn : scanDown (fun w => !ltc cf w x.2.2[a]!) x.2.2 u x.2.1 = v := (by rw [← v2]; exact down_stop (by simpa [ltc] using ht139))
            refine a_region ?_
            refine r_val (v := .int _ _) (v_move (.inl rfl) (noOwn_flat rfl)) rfl rfl (by decide) ?_
            refine r_val (v := .int _ _) (v_move (.inl rfl) (noOwn_flat rfl)) rfl rfl (by decide) ?_
            refine r_val (v := .bool _) (v_gtr (.inl rfl) (.inl rfl)) rfl rfl (by decide) ?_
            refine r_nil ?_
            refine a_cond rfl (fun ht144 => ?_) (fun ht144 => ?_)
            ·
              skip
              refine a_exit ?_
              refine a_seq ?_
              have hfin : (partition (ltc cf) d a b pivot) = (v, false, swp x.2.2 v a) := (by rw [hpm, ← g5, pl_end hup hdn (by simp at ht144; omega)])
              have hp1 : v * 1 + 1 ≤ (acells x.2.2).length := (by rw [acells_length]; omega)
              have hp2 : a * 1 + 1 ≤ ((acells x.2.2).set (v * 1) (.int .i64 x.2.2[a]!)).length := (by rw [List.length_set, acells_length]; omega)
              have hset : ((acells x.2.2).set (v * 1) (.int .i64 x.2.2[a]!)).set (a * 1) (.int .i64 x.2.2[v]!) = acells (swp x.2.2 v a) := (by rw [Nat.mul_one, Nat.mul_one]; exact acells_swp _ _ _)
              refine a_region_w [(163, true), (164, true), (165, true), (166, true), (167, true), (168, true), (169, true), (170, true), (171, true), (172, true), (173, true), (174, true), (175, true), (INH, false), (176, true), (INH, false)] mixed (by kernel_rfl) ?_
              refine w_val (v := .rsl _ _ _ _ _) (v_move (.inl rfl) (noOwn_flat rfl)) rfl rfl (by decide) rfl (by kernel_rfl) ?_
              refine w_val (v := .int _ _) (v_move (.inl rfl) (noOwn_flat rfl)) rfl rfl (by decide) rfl (by kernel_rfl) ?_
              refine w_val (v := .rsl _ _ _ _ _) (v_move (.inl rfl) (noOwn_flat rfl)) rfl rfl (by decide) rfl (by kernel_rfl) ?_
              refine w_val (v := .int _ _) (v_move (.inl rfl) (noOwn_flat rfl)) rfl rfl (by decide) rfl (by kernel_rfl) ?_
              refine w_val (v := .rsl _ _ _ _ _) (v_move (.inl rfl) (noOwn_flat rfl)) rfl rfl (by decide) rfl (by kernel_rfl) ?_
              refine w_val (v := .int _ _) (v_move (.inl rfl) (noOwn_flat rfl)) rfl rfl (by decide) rfl (by kernel_rfl) ?_
              refine w_val (v := .rp _ _) (v_indexAddr_rsl0 es25 (.inl rfl) (.inl rfl) (fun _ => by omega)) rfl rfl (by decide) rfl (by kernel_rfl) ?_
              refine w_val (v := .int .i64 x.2.2[a]!) (v_load_rp1 ta3 (.inl rfl) rfl (fun _ => by rw [Nat.mul_one]; exact acells_get (by omega)) rfl) rfl rfl (by decide) rfl (by kernel_rfl) ?_
              refine w_val (v := .rsl _ _ _ _ _) (v_move (.inl rfl) (noOwn_flat rfl)) rfl rfl (by decide) rfl (by kernel_rfl) ?_
              refine w_val (v := .int _ _) (v_move (.inl rfl) (noOwn_flat rfl)) rfl rfl (by decide) rfl (by kernel_rfl) ?_
              refine w_val (v := .rp _ _) (v_indexAddr_rsl0 es25 (.inl rfl) (.inl rfl) (fun _ => by omega)) rfl rfl (by decide) rfl (by kernel_rfl) ?_
              refine w_val (v := .int .i64 x.2.2[v]!) (v_load_rp1 ta3 (.inl rfl) rfl (fun _ => by rw [Nat.mul_one]; exact acells_get (by omega)) rfl) rfl rfl (by decide) rfl (by kernel_rfl) ?_
              refine w_val (v := .rp _ _) (v_indexAddr_rsl0 es25 (.inl rfl) (.inl rfl) (fun _ => by omega)) rfl rfl (by decide) rfl (by kernel_rfl) ?_
              refine w_store (v := .int _ _) (y' := .osl _ _ _ _) rfl rfl rfl ta3 (.inl rfl) (.inl rfl) rfl rfl rfl rfl rfl rfl hp1 (by decide) rfl rfl rfl (by kernel_rfl) ?_
              refine w_val (v := .rp _ _) (v_indexAddr_rsl0 es25 (.inl rfl) (.inl rfl) (fun _ => by omega)) rfl rfl (by decide) rfl (by kernel_rfl) ?_
              refine w_store (v := .int _ _) (y' := .osl _ _ _ _) rfl rfl rfl ta3 (.inl rfl) (.inl rfl) rfl rfl rfl rfl rfl rfl hp2 (by decide) rfl (congrArg (fun c => AV.osl 1 c n none) hset) rfl (by kernel_rfl) ?_
              refine w_nil ?_
              refine a_seq ?_
              refine a_pre (ent_look (L := [(0, .rsl _ _ _ _ _), (1, .int _ _), (4, .fn _ _ _), (12, .int _ _), (13, .int _ _), (INH, .osl _ _ _ _)]) ⟨Weak.rfl, Weak.rfl, Weak.rfl, Weak.rfl, Weak.rfl, Weak.rfl, trivial⟩) ?_
              refine a_region ?_
              refine r_val (v := .int _ _) (v_move (.inl rfl) (noOwn_flat rfl)) rfl rfl (by decide) ?_
              refine r_val (v := .int _ _) (v_assign (.inl rfl) (noOwn_flat rfl)) rfl rfl (by decide) ?_
              refine r_val (v := .bool _) (v_assign (.inl rfl) (noOwn_flat rfl)) rfl rfl (by decide) ?_
              refine r_nil ?_
              refine a_ret ?_
              refine retLO (rs := [.tmp 10, .tmp 11]) [(10, _), (11, _)] ⟨(Weak.of_eq (osl_eq (by rw [hfin]))), Weak.rfl, Weak.rfl, trivial⟩ rfl Try.results172 (by decide) ⟨by decide, by decide, rfl⟩ (by decide) (by decide) (l2_eq (int_eq ?_) (bool_eq ?_)) rfl rfl
              · rw [hfin]
              · rw [hfin]
            ·
              skip
              refine a_skip ?_
              refine a_seq ?_
              have huv : u ≤ v := (by simp at ht144; omega)
              have hp1 : u * 1 + 1 ≤ (acells x.2.2).length := (by rw [acells_length]; omega)
              have hp2 : v * 1 + 1 ≤ ((acells x.2.2).set (u * 1) (.int .i64 x.2.2[v]!)).length := (by rw [List.length_set, acells_length]; omega)
              have hset : ((acells x.2.2).set (u * 1) (.int .i64 x.2.2[v]!)).set (v * 1) (.int .i64 x.2.2[u]!) = acells (swp x.2.2 u v) := (by rw [Nat.mul_one, Nat.mul_one]; exact acells_swp _ _ _)
              refine a_region_w [(145, true), (146, true), (147, true), (148, true), (149, true), (150, true), (151, true), (152, true), (153, true), (154, true), (155, true), (156, true), (157, true), (INH, false), (158, true), (INH, false)] mixed (by kernel_rfl) ?_
              refine w_val (v := .rsl _ _ _ _ _) (v_move (.inl rfl) (noOwn_flat rfl)) rfl rfl (by decide) rfl (by kernel_rfl) ?_
              refine w_val (v := .int _ _) (v_move (.inl rfl) (noOwn_flat rfl)) rfl rfl (by decide) rfl (by kernel_rfl) ?_
              refine w_val (v := .rsl _ _ _ _ _) (v_move (.inl rfl) (noOwn_flat rfl)) rfl rfl (by decide) rfl (by kernel_rfl) ?_
              refine w_val (v := .int _ _) (v_move (.inl rfl) (noOwn_flat rfl)) rfl rfl (by decide) rfl (by kernel_rfl) ?_
              refine w_val (v := .rsl _ _ _ _ _) (v_move (.inl rfl) (noOwn_flat rfl)) rfl rfl (by decide) rfl (by kernel_rfl) ?_
              refine w_val (v := .int _ _) (v_move (.inl rfl) (noOwn_flat rfl)) rfl rfl (by decide) rfl (by kernel_rfl) ?_
              refine w_val (v := .rp _ _) (v_indexAddr_rsl0 es25 (.inl rfl) (.inl rfl) (fun _ => by omega)) rfl rfl (by decide) rfl (by kernel_rfl) ?_
              refine w_val (v := .int .i64 x.2.2[v]!) (v_load_rp1 ta3 (.inl rfl) rfl (fun _ => by rw [Nat.mul_one]; exact acells_get (by omega)) rfl) rfl rfl (by decide) rfl (by kernel_rfl) ?_
              refine w_val (v := .rsl _ _ _ _ _) (v_move (.inl rfl) (noOwn_flat rfl)) rfl rfl (by decide) rfl (by kernel_rfl) ?_
              refine w_val (v := .int _ _) (v_move (.inl rfl) (noOwn_flat rfl)) rfl rfl (by decide) rfl (by kernel_rfl) ?_
              refine w_val (v := .rp _ _) (v_indexAddr_rsl0 es25 (.inl rfl) (.inl rfl) (fun _ => by omega)) rfl rfl (by decide) rfl (by kernel_rfl) ?_
              refine w_val (v := .int .i64 x.2.2[u]!) (v_load_rp1 ta3 (.inl rfl) rfl (fun _ => by rw [Nat.mul_one]; exact acells_get (by omega)) rfl) rfl rfl (by decide) rfl (by kernel_rfl) ?_
              refine w_val (v := .rp _ _) (v_indexAddr_rsl0 es25 (.inl rfl) (.inl rfl) (fun _ => by omega)) rfl rfl (by decide) rfl (by kernel_rfl) ?_
              refine w_store (v := .int _ _) (y' := .osl _ _ _ _) rfl rfl rfl ta3 (.inl rfl) (.inl rfl) rfl rfl rfl rfl rfl rfl hp1 (by decide) rfl rfl rfl (by kernel_rfl) ?_
              refine w_val (v := .rp _ _) (v_indexAddr_rsl0 es25 (.inl rfl) (.inl rfl) (fun _ => by omega)) rfl rfl (by decide) rfl (by kernel_rfl) ?_
              refine w_store (v := .int _ _) (y' := .osl _ _ _ _) rfl rfl rfl ta3 (.inl rfl) (.inl rfl) rfl rfl rfl rfl rfl rfl hp2 (by decide) rfl (congrArg (fun c => AV.osl 1 c n none) hset) rfl (by kernel_rfl) ?_
              refine w_nil ?_
              refine a_seq ?_
              refine a_pre (ent_look (L := [(0, .rsl _ _ _ _ _), (1, .int _ _), (4, .fn _ _ _), (12, .int _ _), (13, .int _ _), (INH, .osl _ _ _ _)]) ⟨Weak.rfl, Weak.rfl, Weak.rfl, Weak.rfl, Weak.rfl, Weak.rfl, trivial⟩) ?_
              refine a_region ?_
              refine r_val (v := .int _ _) (v_move (.inl rfl) (noOwn_flat rfl)) rfl rfl (by decide) ?_
              refine r_val (v := .int _ _) (v_add (.inl rfl) (.inl rfl) (fun _ => by omega)) rfl rfl (by decide) ?_
              refine r_val (v := .int _ _) (v_assign (.inl rfl) (noOwn_flat rfl)) rfl rfl (by decide) ?_
              refine r_nil ?_
              refine a_region ?_
              refine r_val (v := .int _ _) (v_move (.inl rfl) (noOwn_flat rfl)) rfl rfl (by decide) ?_
              refine r_val (v := .int _ _) (v_sub (.inl rfl) (.inl rfl) (fun _ => by omega)) rfl rfl (by decide) ?_
              refine r_val (v := .int _ _) (v_assign (.inl rfl) (noOwn_flat rfl)) rfl rfl (by decide) ?_
              refine r_nil ?_
              refine ⟨(u + 1, v - 1, swp x.2.2 u v), ent_look ⟨Weak.of_eq rfl, Weak.of_eq rfl, Weak.of_eq rfl, Weak.of_eq (int_eq (by dsimp only; omega)), Weak.of_eq (int_eq (by dsimp only; omega)), Weak.of_eq rfl, trivial⟩, ⟨by dsimp only; omega, by dsimp only; omega, by rw [swp_size]; exact g3, by dsimp only; omega, by rw [← g5]; exact (pl_more hup hdn (by omega)).symm⟩, by dsimp only; omega⟩
end Go.Av
namespace Go.Av
open Go Go.Proofs Go.Sort
set_option maxRecDepth 10000


theorem partialIns_c (f : Nat) (hb : hasBody Try.prog f = true) (cf : Int → Int → Int) (hc : ∀ x y, ACall Try.prog f [.int .i64 x, .int .i64 y] [] (.int .i64 (cf x y)) []) (d : Array Int) (n a b : Nat) (hd : d.size = n) (hab : a < b ∧ b ≤ n) (hn : n ≤ 1152921504606846976) : ACall Try.prog 170 [.rsl (INH, []) 1 0 n none, .int .i64 ((a : Nat) : Int), .int .i64 ((b : Nat) : Int), .fn f [] []] [.osl 1 (acells d) n none] (.bool (partialInsertionSort (ltc cf) d a b).2) [.osl 1 (acells ((partialInsertionSort (ltc cf) d a b).1)) n none] := by
  refine ACall.intro Try.func170 rfl (N := 141) rfl (by decide) (by simp) ?_
  refine a_seq ?_
  refine a_region ?_
  refine r_val (v := .bool _) (v_assign (.inl rfl) (noOwn_flat rfl)) rfl rfl (by decide) ?_
  refine r_nil ?_
  refine a_seq ?_
  refine a_region ?_
  refine r_val (v := .int _ _) (v_move (.inl rfl) (noOwn_flat rfl)) rfl rfl (by decide) ?_
  refine r_val (v := .int _ _) (v_add (.inl rfl) (.inl rfl) (fun _ => by omega)) rfl rfl (by decide) ?_
  refine r_val (v := .int _ _) (v_assign (.inl rfl) (noOwn_flat rfl)) rfl rfl (by decide) ?_
  refine r_nil ?_
  refine a_seq ?_
  refine a_seq ?_
  refine a_region ?_
  refine r_val (v := .int _ _) (v_assign (.inl rfl) (noOwn_flat rfl)) rfl rfl (by decide) ?_
  refine r_nil ?_
  refine a_block ?_
  refine a_loop (X := (Nat × Nat × Array Int)) (fun x => look [(0, .rsl (INH, []) 1 0 n none), (1, .int .i64 ((a : Nat) : Int)), (2, .int .i64 ((b : Nat) : Int)), (3, .fn f [] []), (9, .int .i64 ((x.2.1 : Nat) : Int)), (10, .int .i64 ((x.1 : Nat) : Int)), (INH, .osl 1 (acells x.2.2) n none)]) (fun x => x.1 ≤ 5 ∧ a < x.2.1 ∧ x.2.1 ≤ b ∧ x.2.2.size = n ∧ partialIns (ltc cf) a b (5 - x.1) x.2.1 x.2.2 = (partialInsertionSort (ltc cf) d a b)) (fun x => 5 - x.1) (0, a + 1, d) (ent_look ⟨Weak.of_eq rfl, Weak.of_eq rfl, Weak.of_eq rfl, Weak.of_eq rfl, Weak.of_eq (int_eq (by dsimp only; omega)), Weak.of_eq (int_eq (by dsimp only; omega)), Weak.of_eq rfl, trivial⟩) ⟨by dsimp only; omega, by dsimp only; omega, by dsimp only; omega, hd, rfl⟩ (fun x hG => ?_)
  obtain ⟨g1, g2, g3, g4, g5⟩ := hG
  refine a_seq ?_
  refine a_seq ?_
  refine a_region ?_
  refine r_val (v := .int _ _) (v_move (.inl rfl) (noOwn_flat rfl)) rfl rfl (by decide) ?_
  refine r_val (v := .bool _) (v_lss (.inl rfl) (.inl rfl)) rfl rfl (by decide) ?_
  refine r_nil ?_
  refine a_cond rfl (fun ht16 => ?_) (fun ht16 => ?_)
  ·
    skip
    refine a_skip ?_
    refine a_seq ?_
    refine a_block ?_
    refine a_seq ?_
    refine a_block ?_
    refine a_loop (X := Nat) (fun u => look [(0, .rsl (INH, []) 1 0 n none), (1, .int .i64 ((a : Nat) : Int)), (2, .int .i64 ((b : Nat) : Int)), (3, .fn f [] []), (9, .int .i64 ((u : Nat) : Int)), (10, .int .i64 ((x.1 : Nat) : Int)), (INH, .osl 1 (acells x.2.2) n none)]) (fun u => x.2.1 ≤ u ∧ u ≤ b ∧ scanSorted (ltc cf) x.2.2 b u = scanSorted (ltc cf) x.2.2 b x.2.1) (fun u => b - u) x.2.1 (ent_look ⟨Weak.of_eq rfl, Weak.of_eq rfl, Weak.of_eq rfl, Weak.of_eq rfl, Weak.of_eq rfl, Weak.of_eq rfl, Weak.of_eq rfl, trivial⟩) ⟨Nat.le_refl _, g3, rfl⟩ (fun u hG => ?_)
    obtain ⟨u1, u2, u3⟩ := hG
    refine a_seq ?_
    refine a_seq ?_
    refine a_region_any mixed (by kernel_rfl) ?_
    refine y_val (v := .int _ _) (v_move (.inl rfl) (noOwn_flat rfl)) rfl rfl (by decide) (by kernel_rfl) ?_
    refine y_val (v := .int _ _) (v_move (.inl rfl) (noOwn_flat rfl)) rfl rfl (by decide) (by kernel_rfl) ?_
    refine y_val (v := .bool _) (v_lss (.inl rfl) (.inl rfl)) rfl rfl (by decide) (by kernel_rfl) ?_
    refine y_val (v := .bool _) (v_move (.inl rfl) (noOwn_flat rfl)) rfl rfl (by decide) (by kernel_rfl) ?_
    refine y_guard (v := .fn _ _ _) (v_move (.inl rfl) (noOwn_flat rfl)).quiet rfl rfl rfl (by decide) (.inl ⟨_, rfl, rfl⟩) rfl (by decide) (by kernel_rfl) ?_
    refine y_guard (v := .rsl _ _ _ _ _) (v_move (.inl rfl) (noOwn_flat rfl)).quiet rfl rfl rfl (by decide) (.inl ⟨_, rfl, rfl⟩) rfl (by decide) (by kernel_rfl) ?_
    refine y_guard (v := .int _ _) (v_move (.inl rfl) (noOwn_flat rfl)).quiet rfl rfl rfl (by decide) (.inl ⟨_, rfl, rfl⟩) rfl (by decide) (by kernel_rfl) ?_
    refine y_guard (v := .rp _ _) (v_indexAddr_rsl0 es25 (.inr ⟨_, rfl, fun h => h⟩) (.inr ⟨_, rfl, fun h => h⟩) (fun hA => by simp at hA; omega)).quiet rfl rfl rfl (by decide) (.inl ⟨_, rfl, rfl⟩) rfl (by decide) (by kernel_rfl) ?_
    refine y_guard (v := .int .i64 x.2.2[u]!) (v_load_rp1 ta3 (.inr ⟨_, rfl, fun h => h⟩) rfl (fun hA => by simp at hA; rw [Nat.mul_one]; exact acells_get (by omega)) rfl).quiet rfl rfl rfl (by decide) (.inl ⟨_, rfl, rfl⟩) rfl (by decide) (by kernel_rfl) ?_
    refine y_guard (v := .rsl _ _ _ _ _) (v_move (.inl rfl) (noOwn_flat rfl)).quiet rfl rfl rfl (by decide) (.inl ⟨_, rfl, rfl⟩) rfl (by decide) (by kernel_rfl) ?_
    refine y_guard (v := .int _ _) (v_move (.inl rfl) (noOwn_flat rfl)).quiet rfl rfl rfl (by decide) (.inl ⟨_, rfl, rfl⟩) rfl (by decide) (by kernel_rfl) ?_
    refine y_guard (v := .int _ _) (v_sub (.inr ⟨_, rfl, fun h => h⟩) (.inl rfl) (fun hA => by simp at hA; omega)).quiet rfl rfl rfl (by decide) (.inl ⟨_, rfl, rfl⟩) rfl (by decide) (by kernel_rfl) ?_
    refine y_guard (v := .rp _ _) (v_indexAddr_rsl0 es25 (.inr ⟨_, rfl, fun h => h⟩) (.inr ⟨_, rfl, fun h => h⟩) (fun hA => by simp at hA; omega)).quiet rfl rfl rfl (by decide) (.inl ⟨_, rfl, rfl⟩) rfl (by decide) (by kernel_rfl) ?_
    refine y_guard (v := .int .i64 x.2.2[u - 1]!) (v_load_rp1 ta3 (.inr ⟨_, rfl, fun h => h⟩) rfl (fun hA => by simp at hA; rw [show ((u : Int) - 1).toNat = u - 1 by omega, Nat.mul_one]; exact acells_get (by omega)) rfl).quiet rfl rfl rfl (by decide) (.inl ⟨_, rfl, rfl⟩) rfl (by decide) (by kernel_rfl) ?_
    refine y_guard (v := .int _ _) (q_clo (vs := [.int _ _, .int _ _]) (args := [.int .i64 _, .int .i64 _]) hb (.inr ⟨_, rfl, fun h => h⟩) ⟨.inr ⟨_, rfl, fun h => h⟩, .inr ⟨_, rfl, fun h => h⟩, trivial⟩ rfl (fun hA => hc _ _) rfl rfl) rfl rfl rfl (by decide) (.inl ⟨_, rfl, rfl⟩) rfl (by decide) (by kernel_rfl) ?_
    refine y_guard (v := .bool _) (v_lss (.inr ⟨_, rfl, fun h => h⟩) (.inl rfl)).quiet rfl rfl rfl (by decide) (.inl ⟨_, rfl, rfl⟩) rfl (by decide) (by kernel_rfl) ?_
    refine y_guard (v := .bool _) (v_not (.inr ⟨_, rfl, fun h => h⟩)).quiet rfl rfl rfl (by decide) (.inl ⟨_, rfl, rfl⟩) rfl (by decide) (by kernel_rfl) ?_
    refine y_val (v := .bool _) (v_pick (.inl rfl) (.inr ⟨_, rfl, fun h h2 => by simp_all⟩) (.inl rfl)) rfl rfl (by decide) (by kernel_rfl) ?_
    refine y_nil ?_
    refine a_cond rfl (fun ht36 => ?_) (fun ht36 => ?_)
    ·
      skip
      refine a_skip ?_
      refine a_block ?_
      refine a_region ?_
      refine r_val (v := .int _ _) (v_move (.inl rfl) (noOwn_flat rfl)) rfl rfl (by decide) ?_
      refine r_val (v := .int _ _) (v_add (.inl rfl) (.inl rfl) (fun _ => by omega)) rfl rfl (by decide) ?_
      refine r_val (v := .int _ _) (v_assign (.inl rfl) (noOwn_flat rfl)) rfl rfl (by decide) ?_
      refine r_nil ?_
      have hcu : (decide (u < b) && !ltc cf x.2.2[u]! x.2.2[u - 1]!) = true := (by simpa [ltc] using ht36)
      refine ⟨u + 1, ent_look ⟨Weak.of_eq rfl, Weak.of_eq rfl, Weak.of_eq rfl, Weak.of_eq rfl, Weak.of_eq (int_eq (by omega)), Weak.of_eq rfl, Weak.of_eq rfl, trivial⟩, ⟨by omega, by simp at hcu; omega, by rw [← u3]; exact ss_more hcu⟩, by simp at hcu; omega⟩
    ·
      skip
      refine a_exit ?_
      refine a_seq ?_
      refine a_seq ?_
      have hss : scanSorted (ltc cf) x.2.2 b x.2.1 = u := (by rw [← u3]; exact ss_stop (by simpa [ltc] using ht36))
      have hx4 : x.1 < 5 := (by simp at ht16; omega)
      have e5 : 5 - x.1 = (5 - (x.1 + 1)) + 1 := (by omega)
      refine a_region ?_
      refine r_val (v := .int _ _) (v_move (.inl rfl) (noOwn_flat rfl)) rfl rfl (by decide) ?_
      refine r_val (v := .int _ _) (v_move (.inl rfl) (noOwn_flat rfl)) rfl rfl (by decide) ?_
      refine r_val (v := .bool _) (v_eql (.inl rfl) (.inl rfl)) rfl rfl (by decide) ?_
      refine r_nil ?_
      refine a_cond rfl (fun ht41 => ?_) (fun ht41 => ?_)
      ·
        skip
        refine a_seq ?_
        have hfin : (partialInsertionSort (ltc cf) d a b) = (x.2.2, true) := (by rw [← g5, e5]; exact pi_true hss (by simp at ht41; omega))
        refine a_region ?_
        refine r_val (v := .bool _) (v_assign (.inl rfl) (noOwn_flat rfl)) rfl rfl (by decide) ?_
        refine r_nil ?_
        refine a_ret ?_
        refine ret1 Try.results170 (by decide) (by decide) (Weak.of_eq (bool_eq ?_)) rfl (Leaves.one (Weak.of_eq (osl_eq (by rw [hfin]))) rfl)
        rw [hfin]
      ·
        skip
        refine a_skip ?_
        refine a_seq ?_
        refine a_seq ?_
        have hub : ¬ u = b := (by simp at ht41; omega)
        refine a_region ?_
        refine r_val (v := .int _ _) (v_move (.inl rfl) (noOwn_flat rfl)) rfl rfl (by decide) ?_
        refine r_val (v := .int _ _) (v_move (.inl rfl) (noOwn_flat rfl)) rfl rfl (by decide) ?_
        refine r_val (v := .int _ _) (v_sub (.inl rfl) (.inl rfl) (fun _ => by omega)) rfl rfl (by decide) ?_
        refine r_val (v := .bool _) (v_lss (.inl rfl) (.inl rfl)) rfl rfl (by decide) ?_
        refine r_nil ?_
        refine a_cond rfl (fun ht45 => ?_) (fun ht45 => ?_)
        ·
          skip
          refine a_seq ?_
          refine a_pre (ent_look (L := [(0, .rsl _ _ _ _ _), (1, .int _ _), (2, .int _ _), (3, .fn _ _ _), (9, .int _ _), (10, .int _ _), (INH, .osl _ _ _ _)]) ⟨Weak.rfl, Weak.rfl, Weak.rfl, Weak.rfl, Weak.rfl, Weak.rfl, Weak.rfl, trivial⟩) ?_
          have hfin : (partialInsertionSort (ltc cf) d a b) = (x.2.2, false) := (by rw [← g5, e5]; exact pi_false hss hub (by simp at ht45; omega))
          refine a_region ?_
          refine r_val (v := .bool _) (v_assign (.inl rfl) (noOwn_flat rfl)) rfl rfl (by decide) ?_
          refine r_nil ?_
          refine a_ret ?_
          refine ret1 Try.results170 (by decide) (by decide) (Weak.of_eq (bool_eq ?_)) rfl (Leaves.one (Weak.of_eq (osl_eq (by rw [hfin]))) rfl)
          rw [hfin]
        ·
          skip
          refine a_skip ?_
          refine a_seq ?_
          refine a_pre (ent_look (L := [(0, .rsl _ _ _ _ _), (1, .int _ _), (2, .int _ _), (3, .fn _ _ _), (9, .int _ _), (10, .int _ _), (INH, .osl _ _ _ _)]) ⟨Weak.rfl, Weak.rfl, Weak.rfl, Weak.rfl, Weak.rfl, Weak.rfl, Weak.rfl, trivial⟩) ?_
          have h50 : ¬ b - a < 50 := (by simp at ht45; omega)
          have hp1 : u * 1 + 1 ≤ (acells x.2.2).length := (by rw [acells_length]; omega)
          have hp2 : (u - 1) * 1 + 1 ≤ ((acells x.2.2).set (u * 1) (.int .i64 x.2.2[(u - 1)]!)).length := (by rw [List.length_set, acells_length]; omega)
          have hset : ((acells x.2.2).set (u * 1) (.int .i64 x.2.2[(u - 1)]!)).set ((u - 1) * 1) (.int .i64 x.2.2[u]!) = acells (swp x.2.2 u (u - 1)) := (by rw [Nat.mul_one, Nat.mul_one]; exact acells_swp _ _ _)
          refine a_region_w [(46, true), (47, true), (48, true), (49, true), (50, true), (51, true), (52, true), (53, true), (54, true), (55, true), (56, true), (57, true), (58, true), (59, true), (60, true), (INH, false), (61, true), (INH, false)] mixed (by kernel_rfl) ?_
          refine w_val (v := .rsl _ _ _ _ _) (v_move (.inl rfl) (noOwn_flat rfl)) rfl rfl (by decide) rfl (by kernel_rfl) ?_
          refine w_val (v := .int _ _) (v_move (.inl rfl) (noOwn_flat rfl)) rfl rfl (by decide) rfl (by kernel_rfl) ?_
          refine w_val (v := .rsl _ _ _ _ _) (v_move (.inl rfl) (noOwn_flat rfl)) rfl rfl (by decide) rfl (by kernel_rfl) ?_
          refine w_val (v := .int _ _) (v_move (.inl rfl) (noOwn_flat rfl)) rfl rfl (by decide) rfl (by kernel_rfl) ?_
          refine w_val (v := .int .i64 ((u - 1 : Nat) : Int)) ((v_sub (.inl rfl) (.inl rfl) (fun _ => by omega)).cast (int_eq (by omega))) rfl rfl (by decide) rfl (by kernel_rfl) ?_
          refine w_val (v := .rsl _ _ _ _ _) (v_move (.inl rfl) (noOwn_flat rfl)) rfl rfl (by decide) rfl (by kernel_rfl) ?_
          refine w_val (v := .int _ _) (v_move (.inl rfl) (noOwn_flat rfl)) rfl rfl (by decide) rfl (by kernel_rfl) ?_
          refine w_val (v := .int .i64 ((u - 1 : Nat) : Int)) ((v_sub (.inl rfl) (.inl rfl) (fun _ => by omega)).cast (int_eq (by omega))) rfl rfl (by decide) rfl (by kernel_rfl) ?_
          refine w_val (v := .rp _ _) (v_indexAddr_rsl0 es25 (.inl rfl) (.inl rfl) (fun _ => by omega)) rfl rfl (by decide) rfl (by kernel_rfl) ?_
          refine w_val (v := .int .i64 x.2.2[u - 1]!) (v_load_rp1 ta3 (.inl rfl) rfl (fun _ => by rw [Nat.mul_one]; exact acells_get (by omega)) rfl) rfl rfl (by decide) rfl (by kernel_rfl) ?_
          refine w_val (v := .rsl _ _ _ _ _) (v_move (.inl rfl) (noOwn_flat rfl)) rfl rfl (by decide) rfl (by kernel_rfl) ?_
          refine w_val (v := .int _ _) (v_move (.inl rfl) (noOwn_flat rfl)) rfl rfl (by decide) rfl (by kernel_rfl) ?_
          refine w_val (v := .rp _ _) (v_indexAddr_rsl0 es25 (.inl rfl) (.inl rfl) (fun _ => by omega)) rfl rfl (by decide) rfl (by kernel_rfl) ?_
          refine w_val (v := .int .i64 x.2.2[u]!) (v_load_rp1 ta3 (.inl rfl) rfl (fun _ => by rw [Nat.mul_one]; exact acells_get (by omega)) rfl) rfl rfl (by decide) rfl (by kernel_rfl) ?_
          refine w_val (v := .rp _ _) (v_indexAddr_rsl0 es25 (.inl rfl) (.inl rfl) (fun _ => by omega)) rfl rfl (by decide) rfl (by kernel_rfl) ?_
          refine w_store (v := .int _ _) (y' := .osl _ _ _ _) rfl rfl rfl ta3 (.inl rfl) (.inl rfl) rfl rfl rfl rfl rfl rfl hp1 (by decide) rfl rfl rfl (by kernel_rfl) ?_
          refine w_val (v := .rp _ _) (v_indexAddr_rsl0 es25 (.inl rfl) (.inl rfl) (fun _ => by omega)) rfl rfl (by decide) rfl (by kernel_rfl) ?_
          refine w_store (v := .int _ _) (y' := .osl _ _ _ _) rfl rfl rfl ta3 (.inl rfl) (.inl rfl) rfl rfl rfl rfl rfl rfl hp2 (by decide) rfl (congrArg (fun c => AV.osl 1 c n none) hset) rfl (by kernel_rfl) ?_
          refine w_nil ?_
          refine a_seq ?_
          refine a_seq ?_
          refine a_region ?_
          refine r_val (v := .int _ _) (v_move (.inl rfl) (noOwn_flat rfl)) rfl rfl (by decide) ?_
          refine r_val (v := .int _ _) (v_move (.inl rfl) (noOwn_flat rfl)) rfl rfl (by decide) ?_
          refine r_val (v := .int _ _) (v_sub (.inl rfl) (.inl rfl) (fun _ => by omega)) rfl rfl (by decide) ?_
          refine r_val (v := .bool _) (v_geq (.inl rfl) (.inl rfl)) rfl rfl (by decide) ?_
          refine r_nil ?_
          refine a_cond rfl (fun ht65 => ?_) (fun ht65 => ?_)
          ·
            skip
            refine a_seq ?_
            refine a_region ?_
            refine r_val (v := .int _ _) (v_move (.inl rfl) (noOwn_flat rfl)) rfl rfl (by decide) ?_
            refine r_val (v := .int _ _) (v_sub (.inl rfl) (.inl rfl) (fun _ => by omega)) rfl rfl (by decide) ?_
            refine r_val (v := .int _ _) (v_assign (.inl rfl) (noOwn_flat rfl)) rfl rfl (by decide) ?_
            refine r_nil ?_
            refine a_block ?_
            refine a_loop (X := (Nat × Array Int)) (fun y => look [(0, .rsl (INH, []) 1 0 n none), (1, .int .i64 ((a : Nat) : Int)), (2, .int .i64 ((b : Nat) : Int)), (3, .fn f [] []), (9, .int .i64 ((u : Nat) : Int)), (10, .int .i64 ((x.1 : Nat) : Int)), (11, .int .i64 ((y.1 : Nat) : Int)), (INH, .osl 1 (acells y.2) n none)]) (fun y => y.1 < n ∧ y.2.size = n ∧ shiftDown (ltc cf) y.1 y.2 = shiftDown (ltc cf) (u - 1) (swp x.2.2 u (u - 1))) (fun y => y.1) (u - 1, swp x.2.2 u (u - 1)) (ent_look ⟨Weak.of_eq rfl, Weak.of_eq rfl, Weak.of_eq rfl, Weak.of_eq rfl, Weak.of_eq rfl, Weak.of_eq rfl, Weak.of_eq (int_eq (by dsimp only; omega)), Weak.of_eq rfl, trivial⟩) ⟨by dsimp only; omega, by rw [swp_size]; exact g4, rfl⟩ (fun y hG => ?_)
            obtain ⟨y1, y2, y3⟩ := hG
            refine a_seq ?_
            refine a_seq ?_
            refine a_region ?_
            refine r_val (v := .int _ _) (v_move (.inl rfl) (noOwn_flat rfl)) rfl rfl (by decide) ?_
            refine r_val (v := .bool _) (v_geq (.inl rfl) (.inl rfl)) rfl rfl (by decide) ?_
            refine r_nil ?_
            refine a_cond rfl (fun ht69 => ?_) (fun ht69 => ?_)
            ·
              skip
              refine a_skip ?_
              refine a_seq ?_
              refine a_block ?_
              refine a_seq ?_
              refine a_seq ?_
              have hy1 : 1 ≤ y.1 := (by simp at ht69; omega)
              refine a_region_any mixed (by kernel_rfl) ?_
              refine y_val (v := .fn _ _ _) (v_mv rfl) rfl rfl (by decide) (by kernel_rfl) ?_
              refine y_val (v := .rsl _ _ _ _ _) (v_move (.inl rfl) (noOwn_flat rfl)) rfl rfl (by decide) (by kernel_rfl) ?_
              refine y_val (v := .int _ _) (v_move (.inl rfl) (noOwn_flat rfl)) rfl rfl (by decide) (by kernel_rfl) ?_
              refine y_val (v := .rp _ _) (v_indexAddr_rsl0 es25 (.inl rfl) (.inl rfl) (fun _ => by omega)) rfl rfl (by decide) (by kernel_rfl) ?_
              refine y_val (v := .int .i64 y.2[y.1]!) (v_load_rp1 ta3 (.inl rfl) rfl (fun _ => by rw [Nat.mul_one]; exact acells_get (by omega)) rfl) rfl rfl (by decide) (by kernel_rfl) ?_
              refine y_val (v := .rsl _ _ _ _ _) (v_move (.inl rfl) (noOwn_flat rfl)) rfl rfl (by decide) (by kernel_rfl) ?_
              refine y_val (v := .int _ _) (v_move (.inl rfl) (noOwn_flat rfl)) rfl rfl (by decide) (by kernel_rfl) ?_
              refine y_val (v := .int .i64 ((y.1 - 1 : Nat) : Int)) ((v_sub (.inl rfl) (.inl rfl) (fun _ => by omega)).cast (int_eq (by omega))) rfl rfl (by decide) (by kernel_rfl) ?_
              refine y_val (v := .rp _ _) (v_indexAddr_rsl0 es25 (.inl rfl) (.inl rfl) (fun _ => by omega)) rfl rfl (by decide) (by kernel_rfl) ?_
              refine y_val (v := .int .i64 y.2[y.1 - 1]!) (v_load_rp1 ta3 (.inl rfl) rfl (fun _ => by rw [Nat.mul_one]; exact acells_get (by omega)) rfl) rfl rfl (by decide) (by kernel_rfl) ?_
              refine y_new (v := .int _ _) (q_clo (vs := [.int _ _, .int _ _]) (args := [.int .i64 _, .int .i64 _]) hb (.inl rfl) ⟨.inl rfl, .inl rfl, trivial⟩ rfl (fun hA => hc _ _) rfl rfl) rfl rfl (by decide) (by kernel_rfl) ?_
              refine y_val (v := .bool _) (v_lss (.inl rfl) (.inl rfl)) rfl rfl (by decide) (by kernel_rfl) ?_
              refine y_val (v := .bool _) (v_not (.inl rfl)) rfl rfl (by decide) (by kernel_rfl) ?_
              refine y_nil ?_
              refine a_cond rfl (fun ht84 => ?_) (fun ht84 => ?_)
              ·
                skip
                refine a_exit ?_
                refine a_seq ?_
                refine a_pre (ent_eq (t := INH) (v' := .osl 1 (acells (afterDown (ltc cf) a u (swp x.2.2 u (u - 1)))) n none) (Weak.of_eq (osl_eq (by unfold afterDown; first | (rw [if_pos (by simp at ht65; omega), ← y3, show y.1 = 0 by simp at ht69; omega]; rfl) | (rw [if_pos (by simp at ht65; omega), ← y3, sd_stop (by simpa [ltc] using ht84)]; done) | (rw [if_neg (by simp at ht65; omega)]))))) ?_
                refine a_region ?_
                refine r_val (v := .int _ _) (v_move (.inl rfl) (noOwn_flat rfl)) rfl rfl (by decide) ?_
                refine r_val (v := .int _ _) (v_move (.inl rfl) (noOwn_flat rfl)) rfl rfl (by decide) ?_
                refine r_val (v := .int _ _) (v_sub (.inl rfl) (.inl rfl) (fun _ => by omega)) rfl rfl (by decide) ?_
                refine r_val (v := .bool _) (v_geq (.inl rfl) (.inl rfl)) rfl rfl (by decide) ?_
                refine r_nil ?_
                refine a_cond rfl (fun ht104 => ?_) (fun ht104 => ?_)
                ·
                  skip
                  refine a_seq ?_
                  have hup2 : b - u ≥ 2 := (by simp at ht104; omega)
                  refine a_region ?_
                  refine r_val (v := .int _ _) (v_move (.inl rfl) (noOwn_flat rfl)) rfl rfl (by decide) ?_
                  refine r_val (v := .int _ _) (v_add (.inl rfl) (.inl rfl) (fun _ => by omega)) rfl rfl (by decide) ?_
                  refine r_val (v := .int _ _) (v_assign (.inl rfl) (noOwn_flat rfl)) rfl rfl (by decide) ?_
                  refine r_nil ?_
                  refine a_block ?_
                  refine a_loop (X := (Nat × Array Int)) (fun z => look [(0, .rsl (INH, []) 1 0 n none), (1, .int .i64 ((a : Nat) : Int)), (2, .int .i64 ((b : Nat) : Int)), (3, .fn f [] []), (9, .int .i64 ((u : Nat) : Int)), (10, .int .i64 ((x.1 : Nat) : Int)), (12, .int .i64 ((z.1 : Nat) : Int)), (INH, .osl 1 (acells z.2) n none)]) (fun z => 1 ≤ z.1 ∧ z.1 ≤ n ∧ z.2.size = n ∧ shiftUp (ltc cf) b z.1 z.2 = shiftUp (ltc cf) b (u + 1) (afterDown (ltc cf) a u (swp x.2.2 u (u - 1)))) (fun z => b - z.1) (u + 1, (afterDown (ltc cf) a u (swp x.2.2 u (u - 1)))) (ent_look ⟨Weak.of_eq rfl, Weak.of_eq rfl, Weak.of_eq rfl, Weak.of_eq rfl, Weak.of_eq rfl, Weak.of_eq rfl, Weak.of_eq (int_eq (by dsimp only; omega)), Weak.of_eq rfl, trivial⟩) ⟨by dsimp only; omega, by dsimp only; omega, by rw [ad_size, swp_size]; exact g4, rfl⟩ (fun z hG => ?_)
                  obtain ⟨w0, w1, w2, w3⟩ := hG
                  refine a_seq ?_
                  refine a_seq ?_
                  refine a_region ?_
                  refine r_val (v := .int _ _) (v_move (.inl rfl) (noOwn_flat rfl)) rfl rfl (by decide) ?_
                  refine r_val (v := .int _ _) (v_move (.inl rfl) (noOwn_flat rfl)) rfl rfl (by decide) ?_
                  refine r_val (v := .bool _) (v_lss (.inl rfl) (.inl rfl)) rfl rfl (by decide) ?_
                  refine r_nil ?_
                  refine a_cond rfl (fun ht109 => ?_) (fun ht109 => ?_)
                  ·
                    skip
                    refine a_skip ?_
                    refine a_seq ?_
                    refine a_block ?_
                    refine a_seq ?_
                    refine a_seq ?_
                    have hzb : z.1 < b := (by simpa using ht109)
                    refine a_region_any mixed (by kernel_rfl) ?_
                    refine y_val (v := .fn _ _ _) (v_mv rfl) rfl rfl (by decide) (by kernel_rfl) ?_
                    refine y_val (v := .rsl _ _ _ _ _) (v_move (.inl rfl) (noOwn_flat rfl)) rfl rfl (by decide) (by kernel_rfl) ?_
                    refine y_val (v := .int _ _) (v_move (.inl rfl) (noOwn_flat rfl)) rfl rfl (by decide) (by kernel_rfl) ?_
                    refine y_val (v := .rp _ _) (v_indexAddr_rsl0 es25 (.inl rfl) (.inl rfl) (fun _ => by omega)) rfl rfl (by decide) (by kernel_rfl) ?_
                    refine y_val (v := .int .i64 z.2[z.1]!) (v_load_rp1 ta3 (.inl rfl) rfl (fun _ => by rw [Nat.mul_one]; exact acells_get (by omega)) rfl) rfl rfl (by decide) (by kernel_rfl) ?_
                    refine y_val (v := .rsl _ _ _ _ _) (v_move (.inl rfl) (noOwn_flat rfl)) rfl rfl (by decide) (by kernel_rfl) ?_
                    refine y_val (v := .int _ _) (v_move (.inl rfl) (noOwn_flat rfl)) rfl rfl (by decide) (by kernel_rfl) ?_
                    refine y_val (v := .int .i64 ((z.1 - 1 : Nat) : Int)) ((v_sub (.inl rfl) (.inl rfl) (fun _ => by omega)).cast (int_eq (by omega))) rfl rfl (by decide) (by kernel_rfl) ?_
                    refine y_val (v := .rp _ _) (v_indexAddr_rsl0 es25 (.inl rfl) (.inl rfl) (fun _ => by omega)) rfl rfl (by decide) (by kernel_rfl) ?_
                    refine y_val (v := .int .i64 z.2[z.1 - 1]!) (v_load_rp1 ta3 (.inl rfl) rfl (fun _ => by rw [Nat.mul_one]; exact acells_get (by omega)) rfl) rfl rfl (by decide) (by kernel_rfl) ?_
                    refine y_new (v := .int _ _) (q_clo (vs := [.int _ _, .int _ _]) (args := [.int .i64 _, .int .i64 _]) hb (.inl rfl) ⟨.inl rfl, .inl rfl, trivial⟩ rfl (fun hA => hc _ _) rfl rfl) rfl rfl (by decide) (by kernel_rfl) ?_
                    refine y_val (v := .bool _) (v_lss (.inl rfl) (.inl rfl)) rfl rfl (by decide) (by kernel_rfl) ?_
                    refine y_val (v := .bool _) (v_not (.inl rfl)) rfl rfl (by decide) (by kernel_rfl) ?_
                    refine y_nil ?_
                    refine a_cond rfl (fun ht124 => ?_) (fun ht124 => ?_)
                    ·
                      skip
                      refine a_exit ?_
                      refine a_region ?_
                      refine r_val (v := .int _ _) (v_move (.inl rfl) (noOwn_flat rfl)) rfl rfl (by decide) ?_
                      refine r_val (v := .int _ _) (v_add (.inl rfl) (.inl rfl) (fun _ => by omega)) rfl rfl (by decide) ?_
                      refine r_val (v := .int _ _) (v_assign (.inl rfl) (noOwn_flat rfl)) rfl rfl (by decide) ?_
                      refine r_nil ?_
                      refine ⟨(x.1 + 1, u, afterUp (ltc cf) b u (afterDown (ltc cf) a u (swp x.2.2 u (u - 1)))), ent_look ⟨Weak.of_eq rfl, Weak.of_eq rfl, Weak.of_eq rfl, Weak.of_eq rfl, Weak.of_eq rfl, Weak.of_eq (int_eq (by dsimp only; omega)), Weak.of_eq (osl_eq (by unfold afterUp; first | (rw [if_pos hup2, ← w3, su_end (by simpa using ht109)]; done) | (rw [if_pos hup2, ← w3, su_stop (by simpa [ltc] using ht124)]; done) | (rw [if_neg (by simp at ht104; omega)]))), trivial⟩, ⟨by dsimp only; omega, by dsimp only; omega, by dsimp only; omega, by rw [au_size, ad_size, swp_size]; exact g4, by rw [← g5, show 5 - x.1 = (5 - (x.1 + 1)) + 1 by omega]; exact (pi_more hss hub h50).symm⟩, by dsimp only; omega⟩
                    ·
                      skip
                      refine a_skip ?_
                      have hzl : ltc cf z.2[z.1]! z.2[z.1 - 1]! = true := (by simpa [ltc] using ht124)
                      have hp1 : z.1 * 1 + 1 ≤ (acells z.2).length := (by rw [acells_length]; omega)
                      have hp2 : (z.1 - 1) * 1 + 1 ≤ ((acells z.2).set (z.1 * 1) (.int .i64 z.2[(z.1 - 1)]!)).length := (by rw [List.length_set, acells_length]; omega)
                      have hset : ((acells z.2).set (z.1 * 1) (.int .i64 z.2[(z.1 - 1)]!)).set ((z.1 - 1) * 1) (.int .i64 z.2[z.1]!) = acells (swp z.2 z.1 (z.1 - 1)) := (by rw [Nat.mul_one, Nat.mul_one]; exact acells_swp _ _ _)
                      refine a_region_w [(125, true), (126, true), (127, true), (128, true), (129, true), (130, true), (131, true), (132, true), (133, true), (134, true), (135, true), (136, true), (137, true), (138, true), (139, true), (INH, false), (140, true), (INH, false)] mixed (by kernel_rfl) ?_
                      refine w_val (v := .rsl _ _ _ _ _) (v_move (.inl rfl) (noOwn_flat rfl)) rfl rfl (by decide) rfl (by kernel_rfl) ?_
                      refine w_val (v := .int _ _) (v_move (.inl rfl) (noOwn_flat rfl)) rfl rfl (by decide) rfl (by kernel_rfl) ?_
                      refine w_val (v := .rsl _ _ _ _ _) (v_move (.inl rfl) (noOwn_flat rfl)) rfl rfl (by decide) rfl (by kernel_rfl) ?_
                      refine w_val (v := .int _ _) (v_move (.inl rfl) (noOwn_flat rfl)) rfl rfl (by decide) rfl (by kernel_rfl) ?_
                      refine w_val (v := .int .i64 ((z.1 - 1 : Nat) : Int)) ((v_sub (.inl rfl) (.inl rfl) (fun _ => by omega)).cast (int_eq (by omega))) rfl rfl (by decide) rfl (by kernel_rfl) ?_
                      refine w_val (v := .rsl _ _ _ _ _) (v_move (.inl rfl) (noOwn_flat rfl)) rfl rfl (by decide) rfl (by kernel_rfl) ?_
                      refine w_val (v := .int _ _) (v_move (.inl rfl) (noOwn_flat rfl)) rfl rfl (by decide) rfl (by kernel_rfl) ?_
                      refine w_val (v := .int .i64 ((z.1 - 1 : Nat) : Int)) ((v_sub (.inl rfl) (.inl rfl) (fun _ => by omega)).cast (int_eq (by omega))) rfl rfl (by decide) rfl (by kernel_rfl) ?_
                      refine w_val (v := .rp _ _) (v_indexAddr_rsl0 es25 (.inl rfl) (.inl rfl) (fun _ => by omega)) rfl rfl (by decide) rfl (by kernel_rfl) ?_
                      refine w_val (v := .int .i64 z.2[z.1 - 1]!) (v_load_rp1 ta3 (.inl rfl) rfl (fun _ => by rw [Nat.mul_one]; exact acells_get (by omega)) rfl) rfl rfl (by decide) rfl (by kernel_rfl) ?_
                      refine w_val (v := .rsl _ _ _ _ _) (v_move (.inl rfl) (noOwn_flat rfl)) rfl rfl (by decide) rfl (by kernel_rfl) ?_
                      refine w_val (v := .int _ _) (v_move (.inl rfl) (noOwn_flat rfl)) rfl rfl (by decide) rfl (by kernel_rfl) ?_
                      refine w_val (v := .rp _ _) (v_indexAddr_rsl0 es25 (.inl rfl) (.inl rfl) (fun _ => by omega)) rfl rfl (by decide) rfl (by kernel_rfl) ?_
                      refine w_val (v := .int .i64 z.2[z.1]!) (v_load_rp1 ta3 (.inl rfl) rfl (fun _ => by rw [Nat.mul_one]; exact acells_get (by omega)) rfl) rfl rfl (by decide) rfl (by kernel_rfl) ?_
                      refine w_val (v := .rp _ _) (v_indexAddr_rsl0 es25 (.inl rfl) (.inl rfl) (fun _ => by omega)) rfl rfl (by decide) rfl (by kernel_rfl) ?_
                      refine w_store (v := .int _ _) (y' := .osl _ _ _ _) rfl rfl rfl ta3 (.inl rfl) (.inl rfl) rfl rfl rfl rfl rfl rfl hp1 (by decide) rfl rfl rfl (by kernel_rfl) ?_
                      refine w_val (v := .rp _ _) (v_indexAddr_rsl0 es25 (.inl rfl) (.inl rfl) (fun _ => by omega)) rfl rfl (by decide) rfl (by kernel_rfl) ?_
                      refine w_store (v := .int _ _) (y' := .osl _ _ _ _) rfl rfl rfl ta3 (.inl rfl) (.inl rfl) rfl rfl rfl rfl rfl rfl hp2 (by decide) rfl (congrArg (fun c => AV.osl 1 c n none) hset) rfl (by kernel_rfl) ?_
                      refine w_nil ?_
                      refine a_pre (ent_look (L := [(0, .rsl _ _ _ _ _), (1, .int _ _), (2, .int _ _), (3, .fn _ _ _), (9, .int _ _), (10, .int _ _), (12, .int _ _), (INH, .osl _ _ _ _)]) ⟨Weak.rfl, Weak.rfl, Weak.rfl, Weak.rfl, Weak.rfl, Weak.rfl, Weak.rfl, Weak.rfl, trivial⟩) ?_
                      refine a_region ?_
                      refine r_val (v := .int _ _) (v_move (.inl rfl) (noOwn_flat rfl)) rfl rfl (by decide) ?_
                      refine r_val (v := .int _ _) (v_add (.inl rfl) (.inl rfl) (fun _ => by omega)) rfl rfl (by decide) ?_
                      refine r_val (v := .int _ _) (v_assign (.inl rfl) (noOwn_flat rfl)) rfl rfl (by decide) ?_
                      refine r_nil ?_
                      refine ⟨(z.1 + 1, swp z.2 z.1 (z.1 - 1)), ent_look ⟨Weak.of_eq rfl, Weak.of_eq rfl, Weak.of_eq rfl, Weak.of_eq rfl, Weak.of_eq rfl, Weak.of_eq rfl, Weak.of_eq (int_eq (by dsimp only; omega)), Weak.of_eq rfl, trivial⟩, ⟨by dsimp only; omega, by dsimp only; omega, by rw [swp_size]; exact w2, by rw [← w3]; exact su_more hzb hzl⟩, by dsimp only; omega⟩
                  ·
                    skip
                    refine a_exit ?_
                    refine a_region ?_
                    refine r_val (v := .int _ _) (v_move (.inl rfl) (noOwn_flat rfl)) rfl rfl (by decide) ?_
                    refine r_val (v := .int _ _) (v_add (.inl rfl) (.inl rfl) (fun _ => by omega)) rfl rfl (by decide) ?_
                    refine r_val (v := .int _ _) (v_assign (.inl rfl) (noOwn_flat rfl)) rfl rfl (by decide) ?_
                    refine r_nil ?_
                    refine ⟨(x.1 + 1, u, afterUp (ltc cf) b u (afterDown (ltc cf) a u (swp x.2.2 u (u - 1)))), ent_look ⟨Weak.of_eq rfl, Weak.of_eq rfl, Weak.of_eq rfl, Weak.of_eq rfl, Weak.of_eq rfl, Weak.of_eq (int_eq (by dsimp only; omega)), Weak.of_eq (osl_eq (by unfold afterUp; first | (rw [if_pos hup2, ← w3, su_end (by simpa using ht109)]; done) | (rw [if_pos hup2, ← w3, su_stop (by simpa [ltc] using ht124)]; done) | (rw [if_neg (by simp at ht104; omega)]))), trivial⟩, ⟨by dsimp only; omega, by dsimp only; omega, by dsimp only; omega, by rw [au_size, ad_size, swp_size]; exact g4, by rw [← g5, show 5 - x.1 = (5 - (x.1 + 1)) + 1 by omega]; exact (pi_more hss hub h50).symm⟩, by dsimp only; omega⟩
                ·
                  skip
                  refine a_skip ?_
                  refine a_region ?_
                  refine r_val (v := .int _ _) (v_move (.inl rfl) (noOwn_flat rfl)) rfl rfl (by decide) ?_
                  refine r_val (v := .int _ _) (v_add (.inl rfl) (.inl rfl) (fun _ => by omega)) rfl rfl (by decide) ?_
                  refine r_val (v := .int _ _) (v_assign (.inl rfl) (noOwn_flat rfl)) rfl rfl (by decide) ?_
                  refine r_nil ?_
                  refine ⟨(x.1 + 1, u, afterUp (ltc cf) b u (afterDown (ltc cf) a u (swp x.2.2 u (u - 1)))), ent_look ⟨Weak.of_eq rfl, Weak.of_eq rfl, Weak.of_eq rfl, Weak.of_eq rfl, Weak.of_eq rfl, Weak.of_eq (int_eq (by dsimp only; omega)), Weak.of_eq (osl_eq (by unfold afterUp; first | (rw [if_pos hup2, ← w3, su_end (by simpa using ht109)]; done) | (rw [if_pos hup2, ← w3, su_stop (by simpa [ltc] using ht124)]; done) | (rw [if_neg (by simp at ht104; omega)]))), trivial⟩, ⟨by dsimp only; omega, by dsimp only; omega, by dsimp only; omega, by rw [au_size, ad_size, swp_size]; exact g4, by rw [← g5, show 5 - x.1 = (5 - (x.1 + 1)) + 1 by omega]; exact (pi_more hss hub h50).symm⟩, by dsimp only; omega⟩
              ·
                skip
                refine a_skip ?_
                have hyl : ltc cf y.2[y.1]! y.2[y.1 - 1]! = true := (by simpa [ltc] using ht84)
                have hp1 : y.1 * 1 + 1 ≤ (acells y.2).length := (by rw [acells_length]; omega)
                have hp2 : (y.1 - 1) * 1 + 1 ≤ ((acells y.2).set (y.1 * 1) (.int .i64 y.2[(y.1 - 1)]!)).length := (by rw [List.length_set, acells_length]; omega)
                have hset : ((acells y.2).set (y.1 * 1) (.int .i64 y.2[(y.1 - 1)]!)).set ((y.1 - 1) * 1) (.int .i64 y.2[y.1]!) = acells (swp y.2 y.1 (y.1 - 1)) := (by rw [Nat.mul_one, Nat.mul_one]; exact acells_swp _ _ _)
                refine a_region_w [(85, true), (86, true), (87, true), (88, true), (89, true), (90, true), (91, true), (92, true), (93, true), (94, true), (95, true), (96, true), (97, true), (98, true), (99, true), (INH, false), (100, true), (INH, false)] mixed (by kernel_rfl) ?_
                refine w_val (v := .rsl _ _ _ _ _) (v_move (.inl rfl) (noOwn_flat rfl)) rfl rfl (by decide) rfl (by kernel_rfl) ?_
                refine w_val (v := .int _ _) (v_move (.inl rfl) (noOwn_flat rfl)) rfl rfl (by decide) rfl (by kernel_rfl) ?_
                refine w_val (v := .rsl _ _ _ _ _) (v_move (.inl rfl) (noOwn_flat rfl)) rfl rfl (by decide) rfl (by kernel_rfl) ?_
                refine w_val (v := .int _ _) (v_move (.inl rfl) (noOwn_flat rfl)) rfl rfl (by decide) rfl (by kernel_rfl) ?_
                refine w_val (v := .int .i64 ((y.1 - 1 : Nat) : Int)) ((v_sub (.inl rfl) (.inl rfl) (fun _ => by omega)).cast (int_eq (by omega))) rfl rfl (by decide) rfl (by kernel_rfl) ?_
                refine w_val (v := .rsl _ _ _ _ _) (v_move (.inl rfl) (noOwn_flat rfl)) rfl rfl (by decide) rfl (by kernel_rfl) ?_
                refine w_val (v := .int _ _) (v_move (.inl rfl) (noOwn_flat rfl)) rfl rfl (by decide) rfl (by kernel_rfl) ?_
                refine w_val (v := .int .i64 ((y.1 - 1 : Nat) : Int)) ((v_sub (.inl rfl) (.inl rfl) (fun _ => by omega)).cast (int_eq (by omega))) rfl rfl (by decide) rfl (by kernel_rfl) ?_
                refine w_val (v := .rp _ _) (v_indexAddr_rsl0 es25 (.inl rfl) (.inl rfl) (fun _ => by omega)) rfl rfl (by decide) rfl (by kernel_rfl) ?_
                refine w_val (v := .int .i64 y.2[y.1 - 1]!) (v_load_rp1 ta3 (.inl rfl) rfl (fun _ => by rw [Nat.mul_one]; exact acells_get (by omega)) rfl) rfl rfl (by decide) rfl (by kernel_rfl) ?_
                refine w_val (v := .rsl _ _ _ _ _) (v_move (.inl rfl) (noOwn_flat rfl)) rfl rfl (by decide) rfl (by kernel_rfl) ?_
                refine w_val (v := .int _ _) (v_move (.inl rfl) (noOwn_flat rfl)) rfl rfl (by decide) rfl (by kernel_rfl) ?_
                refine w_val (v := .rp _ _) (v_indexAddr_rsl0 es25 (.inl rfl) (.inl rfl) (fun _ => by omega)) rfl rfl (by decide) rfl (by kernel_rfl) ?_
                refine w_val (v := .int .i64 y.2[y.1]!) (v_load_rp1 ta3 (.inl rfl) rfl (fun _ => by rw [Nat.mul_one]; exact acells_get (by omega)) rfl) rfl rfl (by decide) rfl (by kernel_rfl) ?_
                refine w_val (v := .rp _ _) (v_indexAddr_rsl0 es25 (.inl rfl) (.inl rfl) (fun _ => by omega)) rfl rfl (by decide) rfl (by kernel_rfl) ?_
                refine w_store (v := .int _ _) (y' := .osl _ _ _ _) rfl rfl rfl ta3 (.inl rfl) (.inl rfl) rfl rfl rfl rfl rfl rfl hp1 (by decide) rfl rfl rfl (by kernel_rfl) ?_
                refine w_val (v := .rp _ _) (v_indexAddr_rsl0 es25 (.inl rfl) (.inl rfl) (fun _ => by omega)) rfl rfl (by decide) rfl (by kernel_rfl) ?_
                refine w_store (v := .int _ _) (y' := .osl _ _ _ _) rfl rfl rfl ta3 (.inl rfl) (.inl rfl) rfl rfl rfl rfl rfl rfl hp2 (by decide) rfl (congrArg (fun c => AV.osl 1 c n none) hset) rfl (by kernel_rfl) ?_
                refine w_nil ?_
                refine a_pre (ent_look (L := [(0, .rsl _ _ _ _ _), (1, .int _ _), (2, .int _ _), (3, .fn _ _ _), (9, .int _ _), (10, .int _ _), (11, .int _ _), (INH, .osl _ _ _ _)]) ⟨Weak.rfl, Weak.rfl, Weak.rfl, Weak.rfl, Weak.rfl, Weak.rfl, Weak.rfl, Weak.rfl, trivial⟩) ?_
                refine a_region ?_
                refine r_val (v := .int _ _) (v_move (.inl rfl) (noOwn_flat rfl)) rfl rfl (by decide) ?_
                refine r_val (v := .int _ _) (v_sub (.inl rfl) (.inl rfl) (fun _ => by omega)) rfl rfl (by decide) ?_
                refine r_val (v := .int _ _) (v_assign (.inl rfl) (noOwn_flat rfl)) rfl rfl (by decide) ?_
                refine r_nil ?_
                refine ⟨(y.1 - 1, swp y.2 y.1 (y.1 - 1)), ent_look ⟨Weak.of_eq rfl, Weak.of_eq rfl, Weak.of_eq rfl, Weak.of_eq rfl, Weak.of_eq rfl, Weak.of_eq rfl, Weak.of_eq (int_eq (by dsimp only; omega)), Weak.of_eq rfl, trivial⟩, ⟨by dsimp only; omega, by rw [swp_size]; exact y2, by rw [← y3]; exact sd_more hy1 hyl⟩, by dsimp only; omega⟩
            ·
              skip
              refine a_exit ?_
              refine a_seq ?_
              refine a_pre (ent_eq (t := INH) (v' := .osl 1 (acells (afterDown (ltc cf) a u (swp x.2.2 u (u - 1)))) n none) (Weak.of_eq (osl_eq (by unfold afterDown; first | (rw [if_pos (by simp at ht65; omega), ← y3, show y.1 = 0 by simp at ht69; omega]; rfl) | (rw [if_pos (by simp at ht65; omega), ← y3, sd_stop (by simpa [ltc] using ht84)]; done) | (rw [if_neg (by simp at ht65; omega)]))))) ?_
              refine a_region ?_
              refine r_val (v := .int _ _) (v_move (.inl rfl) (noOwn_flat rfl)) rfl rfl (by decide) ?_
              refine r_val (v := .int _ _) (v_move (.inl rfl) (noOwn_flat rfl)) rfl rfl (by decide) ?_
              refine r_val (v := .int _ _) (v_sub (.inl rfl) (.inl rfl) (fun _ => by omega)) rfl rfl (by decide) ?_
              refine r_val (v := .bool _) (v_geq (.inl rfl) (.inl rfl)) rfl rfl (by decide) ?_
              refine r_nil ?_
              refine a_cond rfl (fun ht104 => ?_) (fun ht104 => ?_)
              ·
                skip
                refine a_seq ?_
                have hup2 : b - u ≥ 2 := (by simp at ht104; omega)
                refine a_region ?_
                refine r_val (v := .int _ _) (v_move (.inl rfl) (noOwn_flat rfl)) rfl rfl (by decide) ?_
                refine r_val (v := .int _ _) (v_add (.inl rfl) (.inl rfl) (fun _ => by omega)) rfl rfl (by decide) ?_
                refine r_val (v := .int _ _) (v_assign (.inl rfl) (noOwn_flat rfl)) rfl rfl (by decide) ?_
                refine r_nil ?_
                refine a_block ?_
                refine a_loop (X := (Nat × Array Int)) (fun z => look [(0, .rsl (INH, []) 1 0 n none), (1, .int .i64 ((a : Nat) : Int)), (2, .int .i64 ((b : Nat) : Int)), (3, .fn f [] []), (9, .int .i64 ((u : Nat) : Int)), (10, .int .i64 ((x.1 : Nat) : Int)), (12, .int .i64 ((z.1 : Nat) : Int)), (INH, .osl 1 (acells z.2) n none)]) (fun z => 1 ≤ z.1 ∧ z.1 ≤ n ∧ z.2.size = n ∧ shiftUp (ltc cf) b z.1 z.2 = shiftUp (ltc cf) b (u + 1) (afterDown (ltc cf) a u (swp x.2.2 u (u - 1)))) (fun z => b - z.1) (u + 1, (afterDown (ltc cf) a u (swp x.2.2 u (u - 1)))) (ent_look ⟨Weak.of_eq rfl, Weak.of_eq rfl, Weak.of_eq rfl, Weak.of_eq rfl, Weak.of_eq rfl, Weak.of_eq rfl, Weak.of_eq (int_eq (by dsimp only; omega)), Weak.of_eq rfl, trivial⟩) ⟨by dsimp only; omega, by dsimp only; omega, by rw [ad_size, swp_size]; exact g4, rfl⟩ (fun z hG => ?_)
                obtain ⟨w0, w1, w2, w3⟩ := hG
                refine a_seq ?_
                refine a_seq ?_
                refine a_region ?_
                refine r_val (v := .int _ _) (v_move (.inl rfl) (noOwn_flat rfl)) rfl rfl (by decide) ?_
                refine r_val (v := .int _ _) (v_move (.inl rfl) (noOwn_flat rfl)) rfl rfl (by decide) ?_
                refine r_val (v := .bool _) (v_lss (.inl rfl) (.inl rfl)) rfl rfl (by decide) ?_
                refine r_nil ?_
                refine a_cond rfl (fun ht109 => ?_) (fun ht109 => ?_)
                ·
                  skip
                  refine a_skip ?_
                  refine a_seq ?_
                  refine a_block ?_
                  refine a_seq ?_
                  refine a_seq ?_
                  have hzb : z.1 < b := (by simpa using ht109)
                  refine a_region_any mixed (by kernel_rfl) ?_
                  refine y_val (v := .fn _ _ _) (v_mv rfl) rfl rfl (by decide) (by kernel_rfl) ?_
                  refine y_val (v := .rsl _ _ _ _ _) (v_move (.inl rfl) (noOwn_flat rfl)) rfl rfl (by decide) (by kernel_rfl) ?_
                  refine y_val (v := .int _ _) (v_move (.inl rfl) (noOwn_flat rfl)) rfl rfl (by decide) (by kernel_rfl) ?_
                  refine y_val (v := .rp _ _) (v_indexAddr_rsl0 es25 (.inl rfl) (.inl rfl) (fun _ => by omega)) rfl rfl (by decide) (by kernel_rfl) ?_
                  refine y_val (v := .int .i64 z.2[z.1]!) (v_load_rp1 ta3 (.inl rfl) rfl (fun _ => by rw [Nat.mul_one]; exact acells_get (by omega)) rfl) rfl rfl (by decide) (by kernel_rfl) ?_
                  refine y_val (v := .rsl _ _ _ _ _) (v_move (.inl rfl) (noOwn_flat rfl)) rfl rfl (by decide) (by kernel_rfl) ?_
                  refine y_val (v := .int _ _) (v_move (.inl rfl) (noOwn_flat rfl)) rfl rfl (by decide) (by kernel_rfl) ?_
                  refine y_val (v := .int .i64 ((z.1 - 1 : Nat) : Int)) ((v_sub (.inl rfl) (.inl rfl) (fun _ => by omega)).cast (int_eq (by omega))) rfl rfl (by decide) (by kernel_rfl) ?_
                  refine y_val (v := .rp _ _) (v_indexAddr_rsl0 es25 (.inl rfl) (.inl rfl) (fun _ => by omega)) rfl rfl (by decide) (by kernel_rfl) ?_
                  refine y_val (v := .int .i64 z.2[z.1 - 1]!) (v_load_rp1 ta3 (.inl rfl) rfl (fun _ => by rw [Nat.mul_one]; exact acells_get (by omega)) rfl) rfl rfl (by decide) (by kernel_rfl) ?_
                  refine y_new (v := .int _ _) (q_clo (vs := [.int _ _, .int _ _]) (args := [.int .i64 _, .int .i64 _]) hb (.inl rfl) ⟨.inl rfl, .inl rfl, trivial⟩ rfl (fun hA => hc _ _) rfl rfl) rfl rfl (by decide) (by kernel_rfl) ?_
                  refine y_val (v := .bool _) (v_lss (.inl rfl) (.inl rfl)) rfl rfl (by decide) (by kernel_rfl) ?_
                  refine y_val (v := .bool _) (v_not (.inl rfl)) rfl rfl (by decide) (by kernel_rfl) ?_
                  refine y_nil ?_
                  refine a_cond rfl (fun ht124 => ?_) (fun ht124 => ?_)
                  ·
                    skip
                    refine a_exit ?_
                    refine a_region ?_
                    refine r_val (v := .int _ _) (v_move (.inl rfl) (noOwn_flat rfl)) rfl rfl (by decide) ?_
                    refine r_val (v := .int _ _) (v_add (.inl rfl) (.inl rfl) (fun _ => by omega)) rfl rfl (by decide) ?_
                    refine r_val (v := .int _ _) (v_assign (.inl rfl) (noOwn_flat rfl)) rfl rfl (by decide) ?_
                    refine r_nil ?_
                    refine ⟨(x.1 + 1, u, afterUp (ltc cf) b u (afterDown (ltc cf) a u (swp x.2.2 u (u - 1)))), ent_look ⟨Weak.of_eq rfl, Weak.of_eq rfl, Weak.of_eq rfl, Weak.of_eq rfl, Weak.of_eq rfl, Weak.of_eq (int_eq (by dsimp only; omega)), Weak.of_eq (osl_eq (by unfold afterUp; first | (rw [if_pos hup2, ← w3, su_end (by simpa using ht109)]; done) | (rw [if_pos hup2, ← w3, su_stop (by simpa [ltc] using ht124)]; done) | (rw [if_neg (by simp at ht104; omega)]))), trivial⟩, ⟨by dsimp only; omega, by dsimp only; omega, by dsimp only; omega, by rw [au_size, ad_size, swp_size]; exact g4, by rw [← g5, show 5 - x.1 = (5 - (x.1 + 1)) + 1 by omega]; exact (pi_more hss hub h50).symm⟩, by dsimp only; omega⟩
                  ·
                    skip
                    refine a_skip ?_
                    have hzl : ltc cf z.2[z.1]! z.2[z.1 - 1]! = true := (by simpa [ltc] using ht124)
                    have hp1 : z.1 * 1 + 1 ≤ (acells z.2).length := (by rw [acells_length]; omega)
                    have hp2 : (z.1 - 1) * 1 + 1 ≤ ((acells z.2).set (z.1 * 1) (.int .i64 z.2[(z.1 - 1)]!)).length := (by rw [List.length_set, acells_length]; omega)
                    have hset : ((acells z.2).set (z.1 * 1) (.int .i64 z.2[(z.1 - 1)]!)).set ((z.1 - 1) * 1) (.int .i64 z.2[z.1]!) = acells (swp z.2 z.1 (z.1 - 1)) := (by rw [Nat.mul_one, Nat.mul_one]; exact acells_swp _ _ _)
                    refine a_region_w [(125, true), (126, true), (127, true), (128, true), (129, true), (130, true), (131, true), (132, true), (133, true), (134, true), (135, true), (136, true), (137, true), (138, true), (139, true), (INH, false), (140, true), (INH, false)] mixed (by kernel_rfl) ?_
                    refine w_val (v := .rsl _ _ _ _ _) (v_move (.inl rfl) (noOwn_flat rfl)) rfl rfl (by decide) rfl (by kernel_rfl) ?_
                    refine w_val (v := .int _ _) (v_move (.inl rfl) (noOwn_flat rfl)) rfl rfl (by decide) rfl (by kernel_rfl) ?_
                    refine w_val (v := .rsl _ _ _ _ _) (v_move (.inl rfl) (noOwn_flat rfl)) rfl rfl (by decide) rfl (by kernel_rfl) ?_
                    refine w_val (v := .int _ _) (v_move (.inl rfl) (noOwn_flat rfl)) rfl rfl (by decide) rfl (by kernel_rfl) ?_
                    refine w_val (v := .int .i64 ((z.1 - 1 : Nat) : Int)) ((v_sub (.inl rfl) (.inl rfl) (fun _ => by omega)).cast (int_eq (by omega))) rfl rfl (by decide) rfl (by kernel_rfl) ?_
                    refine w_val (v := .rsl _ _ _ _ _) (v_move (.inl rfl) (noOwn_flat rfl)) rfl rfl (by decide) rfl (by kernel_rfl) ?_
                    refine w_val (v := .int _ _) (v_move (.inl rfl) (noOwn_flat rfl)) rfl rfl (by decide) rfl (by kernel_rfl) ?_
                    refine w_val (v := .int .i64 ((z.1 - 1 : Nat) : Int)) ((v_sub (.inl rfl) (.inl rfl) (fun _ => by omega)).cast (int_eq (by omega))) rfl rfl (by decide) rfl (by kernel_rfl) ?_
                    refine w_val (v := .rp _ _) (v_indexAddr_rsl0 es25 (.inl rfl) (.inl rfl) (fun _ => by omega)) rfl rfl (by decide) rfl (by kernel_rfl) ?_
                    refine w_val (v := .int .i64 z.2[z.1 - 1]!) (v_load_rp1 ta3 (.inl rfl) rfl (fun _ => by rw [Nat.mul_one]; exact acells_get (by omega)) rfl) rfl rfl (by decide) rfl (by kernel_rfl) ?_
                    refine w_val (v := .rsl _ _ _ _ _) (v_move (.inl rfl) (noOwn_flat rfl)) rfl rfl (by decide) rfl (by kernel_rfl) ?_
                    refine w_val (v := .int _ _) (v_move (.inl rfl) (noOwn_flat rfl)) rfl rfl (by decide) rfl (by kernel_rfl) ?_
                    refine w_val (v := .rp _ _) (v_indexAddr_rsl0 es25 (.inl rfl) (.inl rfl) (fun _ => by omega)) rfl rfl (by decide) rfl (by kernel_rfl) ?_
                    refine w_val (v := .int .i64 z.2[z.1]!) (v_load_rp1 ta3 (.inl rfl) rfl (fun _ => by rw [Nat.mul_one]; exact acells_get (by omega)) rfl) rfl rfl (by decide) rfl (by kernel_rfl) ?_
                    refine w_val (v := .rp _ _) (v_indexAddr_rsl0 es25 (.inl rfl) (.inl rfl) (fun _ => by omega)) rfl rfl (by decide) rfl (by kernel_rfl) ?_
                    refine w_store (v := .int _ _) (y' := .osl _ _ _ _) rfl rfl rfl ta3 (.inl rfl) (.inl rfl) rfl rfl rfl rfl rfl rfl hp1 (by decide) rfl rfl rfl (by kernel_rfl) ?_
                    refine w_val (v := .rp _ _) (v_indexAddr_rsl0 es25 (.inl rfl) (.inl rfl) (fun _ => by omega)) rfl rfl (by decide) rfl (by kernel_rfl) ?_
                    refine w_store (v := .int _ _) (y' := .osl _ _ _ _) rfl rfl rfl ta3 (.inl rfl) (.inl rfl) rfl rfl rfl rfl rfl rfl hp2 (by decide) rfl (congrArg (fun c => AV.osl 1 c n none) hset) rfl (by kernel_rfl) ?_
                    refine w_nil ?_
                    refine a_pre (ent_look (L := [(0, .rsl _ _ _ _ _), (1, .int _ _), (2, .int _ _), (3, .fn _ _ _), (9, .int _ _), (10, .int _ _), (12, .int _ _), (INH, .osl _ _ _ _)]) ⟨Weak.rfl, Weak.rfl, Weak.rfl, Weak.rfl, Weak.rfl, Weak.rfl, Weak.rfl, Weak.rfl, trivial⟩) ?_
                    refine a_region ?_
                    refine r_val (v := .int _ _) (v_move (.inl rfl) (noOwn_flat rfl)) rfl rfl (by decide) ?_
                    refine r_val (v := .int _ _) (v_add (.inl rfl) (.inl rfl) (fun _ => by omega)) rfl rfl (by decide) ?_
                    refine r_val (v := .int _ _) (v_assign (.inl rfl) (noOwn_flat rfl)) rfl rfl (by decide) ?_
                    refine r_nil ?_
                    refine ⟨(z.1 + 1, swp z.2 z.1 (z.1 - 1)), ent_look ⟨Weak.of_eq rfl, Weak.of_eq rfl, Weak.of_eq rfl, Weak.of_eq rfl, Weak.of_eq rfl, Weak.of_eq rfl, Weak.of_eq (int_eq (by dsimp only; omega)), Weak.of_eq rfl, trivial⟩, ⟨by dsimp only; omega, by dsimp only; omega, by rw [swp_size]; exact w2, by rw [← w3]; exact su_more hzb hzl⟩, by dsimp only; omega⟩
                ·
                  skip
                  refine a_exit ?_
                  refine a_region ?_
                  refine r_val (v := .int _ _) (v_move (.inl rfl) (noOwn_flat rfl)) rfl rfl (by decide) ?_
                  refine r_val (v := .int _ _) (v_add (.inl rfl) (.inl rfl) (fun _ => by omega)) rfl rfl (by decide) ?_
                  refine r_val (v := .int _ _) (v_assign (.inl rfl) (noOwn_flat rfl)) rfl rfl (by decide) ?_
                  refine r_nil ?_
                  refine ⟨(x.1 + 1, u, afterUp (ltc cf) b u (afterDown (ltc cf) a u (swp x.2.2 u (u - 1)))), ent_look ⟨Weak.of_eq rfl, Weak.of_eq rfl, Weak.of_eq rfl, Weak.of_eq rfl, Weak.of_eq rfl, Weak.of_eq (int_eq (by dsimp only; omega)), Weak.of_eq (osl_eq (by unfold afterUp; first | (rw [if_pos hup2, ← w3, su_end (by simpa using ht109)]; done) | (rw [if_pos hup2, ← w3, su_stop (by simpa [ltc] using ht124)]; done) | (rw [if_neg (by simp at ht104; omega)]))), trivial⟩, ⟨by dsimp only; omega, by dsimp only; omega, by dsimp only; omega, by rw [au_size, ad_size, swp_size]; exact g4, by rw [← g5, show 5 - x.1 = (5 - (x.1 + 1)) + 1 by omega]; exact (pi_more hss hub h50).symm⟩, by dsimp only; omega⟩
              ·
                skip
                refine a_skip ?_
                refine a_region ?_
                refine r_val (v := .int _ _) (v_move (.inl rfl) (noOwn_flat rfl)) rfl rfl (by decide) ?_
                refine r_val (v := .int _ _) (v_add (.inl rfl) (.inl rfl) (fun _ => by omega)) rfl rfl (by decide) ?_
                refine r_val (v := .int _ _) (v_assign (.inl rfl) (noOwn_flat rfl)) rfl rfl (by decide) ?_
                refine r_nil ?_
                refine ⟨(x.1 + 1, u, afterUp (ltc cf) b u (afterDown (ltc cf) a u (swp x.2.2 u (u - 1)))), ent_look ⟨Weak.of_eq rfl, Weak.of_eq rfl, Weak.of_eq rfl, Weak.of_eq rfl, Weak.of_eq rfl, Weak.of_eq (int_eq (by dsimp only; omega)), Weak.of_eq (osl_eq (by unfold afterUp; first | (rw [if_pos hup2, ← w3, su_end (by simpa using ht109)]; done) | (rw [if_pos hup2, ← w3, su_stop (by simpa [ltc] using ht124)]; done) | (rw [if_neg (by simp at ht104; omega)]))), trivial⟩, ⟨by dsimp only; omega, by dsimp only; omega, by dsimp only; omega, by rw [au_size, ad_size, swp_size]; exact g4, by rw [← g5, show 5 - x.1 = (5 - (x.1 + 1)) + 1 by omega]; exact (pi_more hss hub h50).symm⟩, by dsimp only; omega⟩
          ·
            skip
            refine a_skip ?_
            refine a_seq ?_
            refine a_pre (ent_eq (t := INH) (v' := .osl 1 (acells (afterDown (ltc cf) a u (swp x.2.2 u (u - 1)))) n none) (Weak.of_eq (osl_eq (by unfold afterDown; first | (rw [if_pos (by simp at ht65; omega), ← y3, show y.1 = 0 by simp at ht69; omega]; rfl) | (rw [if_pos (by simp at ht65; omega), ← y3, sd_stop (by simpa [ltc] using ht84)]; done) | (rw [if_neg (by simp at ht65; omega)]))))) ?_
            refine a_region ?_
            refine r_val (v := .int _ _) (v_move (.inl rfl) (noOwn_flat rfl)) rfl rfl (by decide) ?_
            refine r_val (v := .int _ _) (v_move (.inl rfl) (noOwn_flat rfl)) rfl rfl (by decide) ?_
            refine r_val (v := .int _ _) (v_sub (.inl rfl) (.inl rfl) (fun _ => by omega)) rfl rfl (by decide) ?_
            refine r_val (v := .bool _) (v_geq (.inl rfl) (.inl rfl)) rfl rfl (by decide) ?_
            refine r_nil ?_
            refine a_cond rfl (fun ht104 => ?_) (fun ht104 => ?_)
            ·
              skip
              refine a_seq ?_
              refine a_pre (ent_look (L := [(0, .rsl _ _ _ _ _), (1, .int _ _), (2, .int _ _), (3, .fn _ _ _), (9, .int _ _), (10, .int _ _), (INH, .osl _ _ _ _)]) ⟨Weak.rfl, Weak.rfl, Weak.rfl, Weak.rfl, Weak.rfl, Weak.rfl, Weak.rfl, trivial⟩) ?_
              have hup2 : b - u ≥ 2 := (by simp at ht104; omega)
              refine a_region ?_
              refine r_val (v := .int _ _) (v_move (.inl rfl) (noOwn_flat rfl)) rfl rfl (by decide) ?_
              refine r_val (v := .int _ _) (v_add (.inl rfl) (.inl rfl) (fun _ => by omega)) rfl rfl (by decide) ?_
              refine r_val (v := .int _ _) (v_assign (.inl rfl) (noOwn_flat rfl)) rfl rfl (by decide) ?_
              refine r_nil ?_
              refine a_block ?_
              refine a_loop (X := (Nat × Array Int)) (fun z => look [(0, .rsl (INH, []) 1 0 n none), (1, .int .i64 ((a : Nat) : Int)), (2, .int .i64 ((b : Nat) : Int)), (3, .fn f [] []), (9, .int .i64 ((u : Nat) : Int)), (10, .int .i64 ((x.1 : Nat) : Int)), (12, .int .i64 ((z.1 : Nat) : Int)), (INH, .osl 1 (acells z.2) n none)]) (fun z => 1 ≤ z.1 ∧ z.1 ≤ n ∧ z.2.size = n ∧ shiftUp (ltc cf) b z.1 z.2 = shiftUp (ltc cf) b (u + 1) (afterDown (ltc cf) a u (swp x.2.2 u (u - 1)))) (fun z => b - z.1) (u + 1, (afterDown (ltc cf) a u (swp x.2.2 u (u - 1)))) (ent_look ⟨Weak.of_eq rfl, Weak.of_eq rfl, Weak.of_eq rfl, Weak.of_eq rfl, Weak.of_eq rfl, Weak.of_eq rfl, Weak.of_eq (int_eq (by dsimp only; omega)), Weak.of_eq rfl, trivial⟩) ⟨by dsimp only; omega, by dsimp only; omega, by rw [ad_size, swp_size]; exact g4, rfl⟩ (fun z hG => ?_)
              obtain ⟨w0, w1, w2, w3⟩ := hG
              refine a_seq ?_
              refine a_seq ?_
              refine a_region ?_
              refine r_val (v := .int _ _) (v_move (.inl rfl) (noOwn_flat rfl)) rfl rfl (by decide) ?_
              refine r_val (v := .int _ _) (v_move (.inl rfl) (noOwn_flat rfl)) rfl rfl (by decide) ?_
              refine r_val (v := .bool _) (v_lss (.inl rfl) (.inl rfl)) rfl rfl (by decide) ?_
              refine r_nil ?_
              refine a_cond rfl (fun ht109 => ?_) (fun ht109 => ?_)
              ·
                skip
                refine a_skip ?_
                refine a_seq ?_
                refine a_block ?_
                refine a_seq ?_
                refine a_seq ?_
                have hzb : z.1 < b := (by simpa using ht109)
                refine a_region_any mixed (by kernel_rfl) ?_
                refine y_val (v := .fn _ _ _) (v_mv rfl) rfl rfl (by decide) (by kernel_rfl) ?_
                refine y_val (v := .rsl _ _ _ _ _) (v_move (.inl rfl) (noOwn_flat rfl)) rfl rfl (by decide) (by kernel_rfl) ?_
                refine y_val (v := .int _ _) (v_move (.inl rfl) (noOwn_flat rfl)) rfl rfl (by decide) (by kernel_rfl) ?_
                refine y_val (v := .rp _ _) (v_indexAddr_rsl0 es25 (.inl rfl) (.inl rfl) (fun _ => by omega)) rfl rfl (by decide) (by kernel_rfl) ?_
                refine y_val (v := .int .i64 z.2[z.1]!) (v_load_rp1 ta3 (.inl rfl) rfl (fun _ => by rw [Nat.mul_one]; exact acells_get (by omega)) rfl) rfl rfl (by decide) (by kernel_rfl) ?_
                refine y_val (v := .rsl _ _ _ _ _) (v_move (.inl rfl) (noOwn_flat rfl)) rfl rfl (by decide) (by kernel_rfl) ?_
                refine y_val (v := .int _ _) (v_move (.inl rfl) (noOwn_flat rfl)) rfl rfl (by decide) (by kernel_rfl) ?_
                refine y_val (v := .int .i64 ((z.1 - 1 : Nat) : Int)) ((v_sub (.inl rfl) (.inl rfl) (fun _ => by omega)).cast (int_eq (by omega))) rfl rfl (by decide) (by kernel_rfl) ?_
                refine y_val (v := .rp _ _) (v_indexAddr_rsl0 es25 (.inl rfl) (.inl rfl) (fun _ => by omega)) rfl rfl (by decide) (by kernel_rfl) ?_
                refine y_val (v := .int .i64 z.2[z.1 - 1]!) (v_load_rp1 ta3 (.inl rfl) rfl (fun _ => by rw [Nat.mul_one]; exact acells_get (by omega)) rfl) rfl rfl (by decide) (by kernel_rfl) ?_
                refine y_new (v := .int _ _) (q_clo (vs := [.int _ _, .int _ _]) (args := [.int .i64 _, .int .i64 _]) hb (.inl rfl) ⟨.inl rfl, .inl rfl, trivial⟩ rfl (fun hA => hc _ _) rfl rfl) rfl rfl (by decide) (by kernel_rfl) ?_
                refine y_val (v := .bool _) (v_lss (.inl rfl) (.inl rfl)) rfl rfl (by decide) (by kernel_rfl) ?_
                refine y_val (v := .bool _) (v_not (.inl rfl)) rfl rfl (by decide) (by kernel_rfl) ?_
                refine y_nil ?_
                refine a_cond rfl (fun ht124 => ?_) (fun ht124 => ?_)
                ·
                  skip
                  refine a_exit ?_
                  refine a_region ?_
                  refine r_val (v := .int _ _) (v_move (.inl rfl) (noOwn_flat rfl)) rfl rfl (by decide) ?_
                  refine r_val (v := .int _ _) (v_add (.inl rfl) (.inl rfl) (fun _ => by omega)) rfl rfl (by decide) ?_
                  refine r_val (v := .int _ _) (v_assign (.inl rfl) (noOwn_flat rfl)) rfl rfl (by decide) ?_
                  refine r_nil ?_
                  refine ⟨(x.1 + 1, u, afterUp (ltc cf) b u (afterDown (ltc cf) a u (swp x.2.2 u (u - 1)))), ent_look ⟨Weak.of_eq rfl, Weak.of_eq rfl, Weak.of_eq rfl, Weak.of_eq rfl, Weak.of_eq rfl, Weak.of_eq (int_eq (by dsimp only; omega)), Weak.of_eq (osl_eq (by unfold afterUp; first | (rw [if_pos hup2, ← w3, su_end (by simpa using ht109)]; done) | (rw [if_pos hup2, ← w3, su_stop (by simpa [ltc] using ht124)]; done) | (rw [if_neg (by simp at ht104; omega)]))), trivial⟩, ⟨by dsimp only; omega, by dsimp only; omega, by dsimp only; omega, by rw [au_size, ad_size, swp_size]; exact g4, by rw [← g5, show 5 - x.1 = (5 - (x.1 + 1)) + 1 by omega]; exact (pi_more hss hub h50).symm⟩, by dsimp only; omega⟩
                ·
                  skip
                  refine a_skip ?_
                  have hzl : ltc cf z.2[z.1]! z.2[z.1 - 1]! = true := (by simpa [ltc] using ht124)
                  have hp1 : z.1 * 1 + 1 ≤ (acells z.2).length := (by rw [acells_length]; omega)
                  have hp2 : (z.1 - 1) * 1 + 1 ≤ ((acells z.2).set (z.1 * 1) (.int .i64 z.2[(z.1 - 1)]!)).length := (by rw [List.length_set, acells_length]; omega)
                  have hset : ((acells z.2).set (z.1 * 1) (.int .i64 z.2[(z.1 - 1)]!)).set ((z.1 - 1) * 1) (.int .i64 z.2[z.1]!) = acells (swp z.2 z.1 (z.1 - 1)) := (by rw [Nat.mul_one, Nat.mul_one]; exact acells_swp _ _ _)
                  refine a_region_w [(125, true), (126, true), (127, true), (128, true), (129, true), (130, true), (131, true), (132, true), (133, true), (134, true), (135, true), (136, true), (137, true), (138, true), (139, true), (INH, false), (140, true), (INH, false)] mixed (by kernel_rfl) ?_
                  refine w_val (v := .rsl _ _ _ _ _) (v_move (.inl rfl) (noOwn_flat rfl)) rfl rfl (by decide) rfl (by kernel_rfl) ?_
                  refine w_val (v := .int _ _) (v_move (.inl rfl) (noOwn_flat rfl)) rfl rfl (by decide) rfl (by kernel_rfl) ?_
                  refine w_val (v := .rsl _ _ _ _ _) (v_move (.inl rfl) (noOwn_flat rfl)) rfl rfl (by decide) rfl (by kernel_rfl) ?_
                  refine w_val (v := .int _ _) (v_move (.inl rfl) (noOwn_flat rfl)) rfl rfl (by decide) rfl (by kernel_rfl) ?_
                  refine w_val (v := .int .i64 ((z.1 - 1 : Nat) : Int)) ((v_sub (.inl rfl) (.inl rfl) (fun _ => by omega)).cast (int_eq (by omega))) rfl rfl (by decide) rfl (by kernel_rfl) ?_
                  refine w_val (v := .rsl _ _ _ _ _) (v_move (.inl rfl) (noOwn_flat rfl)) rfl rfl (by decide) rfl (by kernel_rfl) ?_
                  refine w_val (v := .int _ _) (v_move (.inl rfl) (noOwn_flat rfl)) rfl rfl (by decide) rfl (by kernel_rfl) ?_
                  refine w_val (v := .int .i64 ((z.1 - 1 : Nat) : Int)) ((v_sub (.inl rfl) (.inl rfl) (fun _ => by omega)).cast (int_eq (by omega))) rfl rfl (by decide) rfl (by kernel_rfl) ?_
                  refine w_val (v := .rp _ _) (v_indexAddr_rsl0 es25 (.inl rfl) (.inl rfl) (fun _ => by omega)) rfl rfl (by decide) rfl (by kernel_rfl) ?_
                  refine w_val (v := .int .i64 z.2[z.1 - 1]!) (v_load_rp1 ta3 (.inl rfl) rfl (fun _ => by rw [Nat.mul_one]; exact acells_get (by omega)) rfl) rfl rfl (by decide) rfl (by kernel_rfl) ?_
                  refine w_val (v := .rsl _ _ _ _ _) (v_move (.inl rfl) (noOwn_flat rfl)) rfl rfl (by decide) rfl (by kernel_rfl) ?_
                  refine w_val (v := .int _ _) (v_move (.inl rfl) (noOwn_flat rfl)) rfl rfl (by decide) rfl (by kernel_rfl) ?_
                  refine w_val (v := .rp _ _) (v_indexAddr_rsl0 es25 (.inl rfl) (.inl rfl) (fun _ => by omega)) rfl rfl (by decide) rfl (by kernel_rfl) ?_
                  refine w_val (v := .int .i64 z.2[z.1]!) (v_load_rp1 ta3 (.inl rfl) rfl (fun _ => by rw [Nat.mul_one]; exact acells_get (by omega)) rfl) rfl rfl (by decide) rfl (by kernel_rfl) ?_
                  refine w_val (v := .rp _ _) (v_indexAddr_rsl0 es25 (.inl rfl) (.inl rfl) (fun _ => by omega)) rfl rfl (by decide) rfl (by kernel_rfl) ?_
                  refine w_store (v := .int _ _) (y' := .osl _ _ _ _) rfl rfl rfl ta3 (.inl rfl) (.inl rfl) rfl rfl rfl rfl rfl rfl hp1 (by decide) rfl rfl rfl (by kernel_rfl) ?_
                  refine w_val (v := .rp _ _) (v_indexAddr_rsl0 es25 (.inl rfl) (.inl rfl) (fun _ => by omega)) rfl rfl (by decide) rfl (by kernel_rfl) ?_
                  refine w_store (v := .int _ _) (y' := .osl _ _ _ _) rfl rfl rfl ta3 (.inl rfl) (.inl rfl) rfl rfl rfl rfl rfl rfl hp2 (by decide) rfl (congrArg (fun c => AV.osl 1 c n none) hset) rfl (by kernel_rfl) ?_
                  refine w_nil ?_
                  refine a_pre (ent_look (L := [(0, .rsl _ _ _ _ _), (1, .int _ _), (2, .int _ _), (3, .fn _ _ _), (9, .int _ _), (10, .int _ _), (12, .int _ _), (INH, .osl _ _ _ _)]) ⟨Weak.rfl, Weak.rfl, Weak.rfl, Weak.rfl, Weak.rfl, Weak.rfl, Weak.rfl, Weak.rfl, trivial⟩) ?_
                  refine a_region ?_
                  refine r_val (v := .int _ _) (v_move (.inl rfl) (noOwn_flat rfl)) rfl rfl (by decide) ?_
                  refine r_val (v := .int _ _) (v_add (.inl rfl) (.inl rfl) (fun _ => by omega)) rfl rfl (by decide) ?_
                  refine r_val (v := .int _ _) (v_assign (.inl rfl) (noOwn_flat rfl)) rfl rfl (by decide) ?_
                  refine r_nil ?_
                  refine ⟨(z.1 + 1, swp z.2 z.1 (z.1 - 1)), ent_look ⟨Weak.of_eq rfl, Weak.of_eq rfl, Weak.of_eq rfl, Weak.of_eq rfl, Weak.of_eq rfl, Weak.of_eq rfl, Weak.of_eq (int_eq (by dsimp only; omega)), Weak.of_eq rfl, trivial⟩, ⟨by dsimp only; omega, by dsimp only; omega, by rw [swp_size]; exact w2, by rw [← w3]; exact su_more hzb hzl⟩, by dsimp only; omega⟩
              ·
                skip
                refine a_exit ?_
                refine a_region ?_
                refine r_val (v := .int _ _) (v_move (.inl rfl) (noOwn_flat rfl)) rfl rfl (by decide) ?_
                refine r_val (v := .int _ _) (v_add (.inl rfl) (.inl rfl) (fun _ => by omega)) rfl rfl (by decide) ?_
                refine r_val (v := .int _ _) (v_assign (.inl rfl) (noOwn_flat rfl)) rfl rfl (by decide) ?_
                refine r_nil ?_
                refine ⟨(x.1 + 1, u, afterUp (ltc cf) b u (afterDown (ltc cf) a u (swp x.2.2 u (u - 1)))), ent_look ⟨Weak.of_eq rfl, Weak.of_eq rfl, Weak.of_eq rfl, Weak.of_eq rfl, Weak.of_eq rfl, Weak.of_eq (int_eq (by dsimp only; omega)), Weak.of_eq (osl_eq (by unfold afterUp; first | (rw [if_pos hup2, ← w3, su_end (by simpa using ht109)]; done) | (rw [if_pos hup2, ← w3, su_stop (by simpa [ltc] using ht124)]; done) | (rw [if_neg (by simp at ht104; omega)]))), trivial⟩, ⟨by dsimp only; omega, by dsimp only; omega, by dsimp only; omega, by rw [au_size, ad_size, swp_size]; exact g4, by rw [← g5, show 5 - x.1 = (5 - (x.1 + 1)) + 1 by omega]; exact (pi_more hss hub h50).symm⟩, by dsimp only; omega⟩
            ·
              skip
              refine a_skip ?_
              refine a_pre (ent_look (L := [(0, .rsl _ _ _ _ _), (1, .int _ _), (2, .int _ _), (3, .fn _ _ _), (9, .int _ _), (10, .int _ _), (INH, .osl _ _ _ _)]) ⟨Weak.rfl, Weak.rfl, Weak.rfl, Weak.rfl, Weak.rfl, Weak.rfl, Weak.rfl, trivial⟩) ?_
              refine a_region ?_
              refine r_val (v := .int _ _) (v_move (.inl rfl) (noOwn_flat rfl)) rfl rfl (by decide) ?_
              refine r_val (v := .int _ _) (v_add (.inl rfl) (.inl rfl) (fun _ => by omega)) rfl rfl (by decide) ?_
              refine r_val (v := .int _ _) (v_assign (.inl rfl) (noOwn_flat rfl)) rfl rfl (by decide) ?_
              refine r_nil ?_
              refine ⟨(x.1 + 1, u, afterUp (ltc cf) b u (afterDown (ltc cf) a u (swp x.2.2 u (u - 1)))), ent_look ⟨Weak.of_eq rfl, Weak.of_eq rfl, Weak.of_eq rfl, Weak.of_eq rfl, Weak.of_eq rfl, Weak.of_eq (int_eq (by dsimp only; omega)), Weak.of_eq (osl_eq (by unfold afterUp; first | (rw [if_pos hup2, ← w3, su_end (by simpa using ht109)]; done) | (rw [if_pos hup2, ← w3, su_stop (by simpa [ltc] using ht124)]; done) | (rw [if_neg (by simp at ht104; omega)]))), trivial⟩, ⟨by dsimp only; omega, by dsimp only; omega, by dsimp only; omega, by rw [au_size, ad_size, swp_size]; exact g4, by rw [← g5, show 5 - x.1 = (5 - (x.1 + 1)) + 1 by omega]; exact (pi_more hss hub h50).symm⟩, by dsimp only; omega⟩
  ·
    skip
    refine a_exit ?_
    refine a_seq ?_
    have hfin : (partialInsertionSort (ltc cf) d a b) = (x.2.2, false) := (by rw [← g5, show 5 - x.1 = 0 by simp at ht16; omega]; rfl)
    refine a_region ?_
    refine r_val (v := .bool _) (v_assign (.inl rfl) (noOwn_flat rfl)) rfl rfl (by decide) ?_
    refine r_nil ?_
    refine a_ret ?_
    refine ret1 Try.results170 (by decide) (by decide) (Weak.of_eq (bool_eq ?_)) rfl (Leaves.one (Weak.of_eq (osl_eq (by rw [hfin]))) rfl)
    rw [hfin]
end Go.Av
namespace Go.Av
open Go Go.Proofs Go.Sort
set_option maxRecDepth 10000


theorem order2_c (f : Nat) (hb : hasBody Try.prog f = true) (cf : Int → Int → Int) (hc : ∀ x y, ACall Try.prog f [.int .i64 x, .int .i64 y] [] (.int .i64 (cf x y)) []) (d : Array Int) (n a b s : Nat) (hd : d.size = n) (hab : a < n ∧ b < n ∧ s ≤ 1000) (hn : n ≤ 1152921504606846976) : ACall Try.prog 181 [.sl (acells d) n, .int .i64 ((a : Nat) : Int), .int .i64 ((b : Nat) : Int), .rp (INH, []) 0, .fn f [] []] [.op [.int .i64 ((s : Nat) : Int)]] (.tup [.int .i64 (((order2 (ltc cf) d a b s).1 : Nat) : Int), .int .i64 (((order2 (ltc cf) d a b s).2.1 : Nat) : Int)]) [.op [.int .i64 (((order2 (ltc cf) d a b s).2.2 : Nat) : Int)]] := by
  refine ACall.intro Try.func181 rfl (N := 32) rfl (by decide) (by simp) ?_
  refine a_seq ?_
  refine a_region ?_
  refine r_val (v := .int _ _) (v_assign (.inl rfl) (noOwn_flat rfl)) rfl rfl (by decide) ?_
  refine r_val (v := .int _ _) (v_assign (.inl rfl) (noOwn_flat rfl)) rfl rfl (by decide) ?_
  refine r_nil ?_
  refine a_seq ?_
  refine a_seq ?_
  refine a_region_any mixed (by kernel_rfl) ?_
  refine y_val (v := .fn _ _ _) (v_mv rfl) rfl rfl (by decide) (by kernel_rfl) ?_
  refine y_val (v := .sl _ _) (v_move (.inl rfl) (noOwn_flat rfl)) rfl rfl (by decide) (by kernel_rfl) ?_
  refine y_val (v := .int _ _) (v_move (.inl rfl) (noOwn_flat rfl)) rfl rfl (by decide) (by kernel_rfl) ?_
  refine y_val (v := .pp _ _) (v_indexAddr_sl es25 (.inl rfl) (.inl rfl) (fun _ => ⟨by omega, by omega, acells_ne (d := d) (i := b) (by omega)⟩)) rfl rfl (by decide) (by kernel_rfl) ?_
  refine y_val (v := .int .i64 d[b]!) (v_load_pp ta3 (.inl rfl) (fun _ => by rw [Nat.mul_one]; exact acells_get (by omega)) rfl) rfl rfl (by decide) (by kernel_rfl) ?_
  refine y_val (v := .sl _ _) (v_move (.inl rfl) (noOwn_flat rfl)) rfl rfl (by decide) (by kernel_rfl) ?_
  refine y_val (v := .int _ _) (v_move (.inl rfl) (noOwn_flat rfl)) rfl rfl (by decide) (by kernel_rfl) ?_
  refine y_val (v := .pp _ _) (v_indexAddr_sl es25 (.inl rfl) (.inl rfl) (fun _ => ⟨by omega, by omega, acells_ne (d := d) (i := a) (by omega)⟩)) rfl rfl (by decide) (by kernel_rfl) ?_
  refine y_val (v := .int .i64 d[a]!) (v_load_pp ta3 (.inl rfl) (fun _ => by rw [Nat.mul_one]; exact acells_get (by omega)) rfl) rfl rfl (by decide) (by kernel_rfl) ?_
  refine y_new (v := .int _ _) (q_clo (vs := [.int _ _, .int _ _]) (args := [.int .i64 _, .int .i64 _]) hb (.inl rfl) ⟨.inl rfl, .inl rfl, trivial⟩ rfl (fun hA => hc _ _) rfl rfl) rfl rfl (by decide) (by kernel_rfl) ?_
  refine y_val (v := .bool _) (v_lss (.inl rfl) (.inl rfl)) rfl rfl (by decide) (by kernel_rfl) ?_
  refine y_nil ?_
  refine a_cond rfl (fun ht22 => ?_) (fun ht22 => ?_)
  ·
    skip
    refine a_seq ?_
    have hl : ltc cf d[b]! d[a]! = true := (by simpa [ltc] using ht22)
    have hfin : (order2 (ltc cf) d a b s) = (b, a, s + 1) := (by unfold order2; rw [if_pos hl])
    refine a_region ?_
    refine r_val (v := .rp _ _) (v_move (.inl rfl) (noOwn_flat rfl)) rfl rfl (by decide) ?_
    refine r_val (v := .rp _ _) (v_nilCheck (.inl rfl) rfl) rfl rfl (by decide) ?_
    refine r_val (v := .int _ _) (v_load_rp1 ta3 (.inl rfl) rfl (fun _ => rfl) rfl) rfl rfl (by decide) ?_
    refine r_val (v := .int .i64 ((s + 1 : Nat) : Int)) ((v_add (.inl rfl) (.inl rfl) (fun _ => by omega)).cast (int_eq (by omega))) rfl rfl (by decide) ?_
    refine r_val (v := .rp _ _) (v_nilCheck (.inl rfl) rfl) rfl rfl (by decide) ?_
    refine r_step rfl (o_store (v := .int _ _) (y' := .op [.int _ _]) rfl rfl ta3 (.inl rfl) (.inl rfl) rfl rfl rfl rfl rfl rfl (Nat.le_of_ble_eq_true rfl) (by decide) rfl rfl) ?_
    refine r_nil ?_
    refine a_seq ?_
    refine a_region ?_
    refine r_val (v := .int _ _) (v_move (.inl rfl) (noOwn_flat rfl)) rfl rfl (by decide) ?_
    refine r_val (v := .int _ _) (v_move (.inl rfl) (noOwn_flat rfl)) rfl rfl (by decide) ?_
    refine r_val (v := .int _ _) (v_assign (.inl rfl) (noOwn_flat rfl)) rfl rfl (by decide) ?_
    refine r_val (v := .int _ _) (v_assign (.inl rfl) (noOwn_flat rfl)) rfl rfl (by decide) ?_
    refine r_nil ?_
    refine a_ret ?_
    refine retLO (rs := [.tmp 10, .tmp 11]) [(10, _), (11, _)] ⟨(Weak.of_eq (congrArg (fun z : Nat => AV.op [.int .i64 (z : Int)]) (by rw [hfin]))), Weak.rfl, Weak.rfl, trivial⟩ rfl Try.results181 (by decide) ⟨by decide, by decide, rfl⟩ (by decide) (by decide) (l2_eq (int_eq ?_) (int_eq ?_)) rfl rfl
    · rw [hfin]
    · rw [hfin]
  ·
    skip
    refine a_skip ?_
    refine a_seq ?_
    have hl : ¬ ltc cf d[b]! d[a]! = true := (by simpa [ltc] using ht22)
    have hfin : (order2 (ltc cf) d a b s) = (a, b, s) := (by unfold order2; rw [if_neg hl])
    refine a_region ?_
    refine r_val (v := .int _ _) (v_move (.inl rfl) (noOwn_flat rfl)) rfl rfl (by decide) ?_
    refine r_val (v := .int _ _) (v_move (.inl rfl) (noOwn_flat rfl)) rfl rfl (by decide) ?_
    refine r_val (v := .int _ _) (v_assign (.inl rfl) (noOwn_flat rfl)) rfl rfl (by decide) ?_
    refine r_val (v := .int _ _) (v_assign (.inl rfl) (noOwn_flat rfl)) rfl rfl (by decide) ?_
    refine r_nil ?_
    refine a_ret ?_
    refine retLO (rs := [.tmp 10, .tmp 11]) [(10, _), (11, _)] ⟨(Weak.of_eq (congrArg (fun z : Nat => AV.op [.int .i64 (z : Int)]) (by rw [hfin]))), Weak.rfl, Weak.rfl, trivial⟩ rfl Try.results181 (by decide) ⟨by decide, by decide, rfl⟩ (by decide) (by decide) (l2_eq (int_eq ?_) (int_eq ?_)) rfl rfl
    · rw [hfin]
    · rw [hfin]
end Go.Av
namespace Go.Av
open Go Go.Proofs Go.Sort
set_option maxRecDepth 10000
theorem hb180 : hasBody Try.prog 180 = true := by kernel_rfl
theorem hb181 : hasBody Try.prog 181 = true := by kernel_rfl

theorem median_c (f : Nat) (hb : hasBody Try.prog f = true) (cf : Int → Int → Int) (hc : ∀ x y, ACall Try.prog f [.int .i64 x, .int .i64 y] [] (.int .i64 (cf x y)) []) (d : Array Int) (n a b c s : Nat) (hd : d.size = n) (hab : a < n ∧ b < n ∧ c < n ∧ s ≤ 900) (hn : n ≤ 1152921504606846976) : ACall Try.prog 180 [.sl (acells d) n, .int .i64 ((a : Nat) : Int), .int .i64 ((b : Nat) : Int), .int .i64 ((c : Nat) : Int), .rp (INH, []) 0, .fn f [] []] [.op [.int .i64 ((s : Nat) : Int)]] (.int .i64 (((median (ltc cf) d a b c s).1 : Nat) : Int)) [.op [.int .i64 (((median (ltc cf) d a b c s).2 : Nat) : Int)]] := by
  have q1 := o2_bd (lt := ltc cf) (d := d) (s := s) hab.1 hab.2.1
  have q2 := o2_bd (lt := ltc cf) (d := d) (s := (order2 (ltc cf) d a b s).2.2) q1.2.1 hab.2.2.1
  have q3 := o2_bd (lt := ltc cf) (d := d) (s := (order2 (ltc cf) d (order2 (ltc cf) d a b s).2.1 c (order2 (ltc cf) d a b s).2.2).2.2) q1.1 q2.1
  refine ACall.intro Try.func180 rfl (N := 41) rfl (by decide) (by simp) ?_
  refine a_seq ?_
  refine a_region ?_
  refine r_val (v := .int _ _) (v_assign (.inl rfl) (noOwn_flat rfl)) rfl rfl (by decide) ?_
  refine r_nil ?_
  refine a_seq ?_
  refine a_region ?_
  refine r_val (v := .sl _ _) (v_move (.inl rfl) (noOwn_flat rfl)) rfl rfl (by decide) ?_
  refine r_val (v := .int _ _) (v_move (.inl rfl) (noOwn_flat rfl)) rfl rfl (by decide) ?_
  refine r_val (v := .int _ _) (v_move (.inl rfl) (noOwn_flat rfl)) rfl rfl (by decide) ?_
  refine r_val (v := .rp _ _) (v_move (.inl rfl) (noOwn_flat rfl)) rfl rfl (by decide) ?_
  refine r_val (v := .fn _ _ _) (v_mv rfl) rfl rfl (by decide) ?_
  refine r_step rfl (o_callIOp (q := (INH, [])) (vs := [.sl _ _, .int _ _, .int _ _, .rp _ _, .fn _ _ _]) (args := [.sl _ _, .int .i64 _, .int .i64 _, .rp (INH, []) _, .fn _ _ _]) (cs0 := [.int _ _]) (cs1 := [.int _ _]) (res := .tup [.int _ _, .int _ _]) rfl hb181 rfl (by decide) ⟨.inl rfl, .inl rfl, .inl rfl, .inl rfl, .inl rfl, trivial⟩ rfl rfl (order2_c f hb cf hc d n _ _ _ hd (by omega) hn) rfl rfl rfl rfl rfl (Nat.le_of_ble_eq_true rfl) (by decide) rfl) ?_
  refine r_val (v := .tup [.int _ _, .int _ _]) (v_mv rfl) rfl rfl (by decide) ?_
  refine r_val (v := .int _ _) (v_extract rfl rfl) rfl rfl (by decide) ?_
  refine r_val (v := .int _ _) (v_extract rfl rfl) rfl rfl (by decide) ?_
  refine r_val (v := .int _ _) (v_assign (.inl rfl) (noOwn_flat rfl)) rfl rfl (by decide) ?_
  refine r_val (v := .int _ _) (v_assign (.inl rfl) (noOwn_flat rfl)) rfl rfl (by decide) ?_
  refine r_nil ?_
  refine a_seq ?_
  refine a_region ?_
  refine r_val (v := .sl _ _) (v_move (.inl rfl) (noOwn_flat rfl)) rfl rfl (by decide) ?_
  refine r_val (v := .int _ _) (v_move (.inl rfl) (noOwn_flat rfl)) rfl rfl (by decide) ?_
  refine r_val (v := .int _ _) (v_move (.inl rfl) (noOwn_flat rfl)) rfl rfl (by decide) ?_
  refine r_val (v := .rp _ _) (v_move (.inl rfl) (noOwn_flat rfl)) rfl rfl (by decide) ?_
  refine r_val (v := .fn _ _ _) (v_mv rfl) rfl rfl (by decide) ?_
  refine r_step rfl (o_callIOp (q := (INH, [])) (vs := [.sl _ _, .int _ _, .int _ _, .rp _ _, .fn _ _ _]) (args := [.sl _ _, .int .i64 _, .int .i64 _, .rp (INH, []) _, .fn _ _ _]) (cs0 := [.int _ _]) (cs1 := [.int _ _]) (res := .tup [.int _ _, .int _ _]) rfl hb181 rfl (by decide) ⟨.inl rfl, .inl rfl, .inl rfl, .inl rfl, .inl rfl, trivial⟩ rfl rfl (order2_c f hb cf hc d n _ _ _ hd (by omega) hn) rfl rfl rfl rfl rfl (Nat.le_of_ble_eq_true rfl) (by decide) rfl) ?_
  refine r_val (v := .tup [.int _ _, .int _ _]) (v_mv rfl) rfl rfl (by decide) ?_
  refine r_val (v := .int _ _) (v_extract rfl rfl) rfl rfl (by decide) ?_
  refine r_val (v := .int _ _) (v_extract rfl rfl) rfl rfl (by decide) ?_
  refine r_val (v := .int _ _) (v_assign (.inl rfl) (noOwn_flat rfl)) rfl rfl (by decide) ?_
  refine r_val (v := .int _ _) (v_assign (.inl rfl) (noOwn_flat rfl)) rfl rfl (by decide) ?_
  refine r_nil ?_
  refine a_seq ?_
  refine a_region ?_
  refine r_val (v := .sl _ _) (v_move (.inl rfl) (noOwn_flat rfl)) rfl rfl (by decide) ?_
  refine r_val (v := .int _ _) (v_move (.inl rfl) (noOwn_flat rfl)) rfl rfl (by decide) ?_
  refine r_val (v := .int _ _) (v_move (.inl rfl) (noOwn_flat rfl)) rfl rfl (by decide) ?_
  refine r_val (v := .rp _ _) (v_move (.inl rfl) (noOwn_flat rfl)) rfl rfl (by decide) ?_
  refine r_val (v := .fn _ _ _) (v_mv rfl) rfl rfl (by decide) ?_
  refine r_step rfl (o_callIOp (q := (INH, [])) (vs := [.sl _ _, .int _ _, .int _ _, .rp _ _, .fn _ _ _]) (args := [.sl _ _, .int .i64 _, .int .i64 _, .rp (INH, []) _, .fn _ _ _]) (cs0 := [.int _ _]) (cs1 := [.int _ _]) (res := .tup [.int _ _, .int _ _]) rfl hb181 rfl (by decide) ⟨.inl rfl, .inl rfl, .inl rfl, .inl rfl, .inl rfl, trivial⟩ rfl rfl (order2_c f hb cf hc d n _ _ _ hd (by omega) hn) rfl rfl rfl rfl rfl (Nat.le_of_ble_eq_true rfl) (by decide) rfl) ?_
  refine r_val (v := .tup [.int _ _, .int _ _]) (v_mv rfl) rfl rfl (by decide) ?_
  refine r_val (v := .int _ _) (v_extract rfl rfl) rfl rfl (by decide) ?_
  refine r_val (v := .int _ _) (v_extract rfl rfl) rfl rfl (by decide) ?_
  refine r_val (v := .int _ _) (v_assign (.inl rfl) (noOwn_flat rfl)) rfl rfl (by decide) ?_
  refine r_val (v := .int _ _) (v_assign (.inl rfl) (noOwn_flat rfl)) rfl rfl (by decide) ?_
  refine r_nil ?_
  refine a_seq ?_
  refine a_pre (ent_look (L := [(2, .int _ _), (12, .int _ _), (INH, .op [.int _ _])]) ⟨Weak.rfl, Weak.rfl, Weak.rfl, trivial⟩) ?_
  refine a_region ?_
  refine r_val (v := .int _ _) (v_move (.inl rfl) (noOwn_flat rfl)) rfl rfl (by decide) ?_
  refine r_val (v := .int _ _) (v_assign (.inl rfl) (noOwn_flat rfl)) rfl rfl (by decide) ?_
  refine r_nil ?_
  refine a_ret ?_
  refine ret1 Try.results180 (by decide) (by decide) (Weak.of_eq (int_eq ?_)) rfl (Leaves.one (Weak.of_eq rfl) rfl)
  rfl

theorem medianAdj_c (f : Nat) (hb : hasBody Try.prog f = true) (cf : Int → Int → Int) (hc : ∀ x y, ACall Try.prog f [.int .i64 x, .int .i64 y] [] (.int .i64 (cf x y)) []) (d : Array Int) (n a s : Nat) (hd : d.size = n) (hab : 1 ≤ a ∧ a + 1 < n ∧ s ≤ 900) (hn : n ≤ 1152921504606846976) : ACall Try.prog 179 [.sl (acells d) n, .int .i64 ((a : Nat) : Int), .rp (INH, []) 0, .fn f [] []] [.op [.int .i64 ((s : Nat) : Int)]] (.int .i64 (((medianAdjacent (ltc cf) d a s).1 : Nat) : Int)) [.op [.int .i64 (((medianAdjacent (ltc cf) d a s).2 : Nat) : Int)]] := by
  refine ACall.intro Try.func179 rfl (N := 18) rfl (by decide) (by simp) ?_
  refine a_seq ?_
  refine a_region ?_
  refine r_val (v := .int _ _) (v_assign (.inl rfl) (noOwn_flat rfl)) rfl rfl (by decide) ?_
  refine r_nil ?_
  refine a_seq ?_
  refine a_region ?_
  refine r_val (v := .sl _ _) (v_move (.inl rfl) (noOwn_flat rfl)) rfl rfl (by decide) ?_
  refine r_val (v := .int _ _) (v_move (.inl rfl) (noOwn_flat rfl)) rfl rfl (by decide) ?_
  refine r_val (v := .int .i64 ((a - 1 : Nat) : Int)) ((v_sub (.inl rfl) (.inl rfl) (fun _ => by omega)).cast (int_eq (by omega))) rfl rfl (by decide) ?_
  refine r_val (v := .int _ _) (v_move (.inl rfl) (noOwn_flat rfl)) rfl rfl (by decide) ?_
  refine r_val (v := .int _ _) (v_move (.inl rfl) (noOwn_flat rfl)) rfl rfl (by decide) ?_
  refine r_val (v := .int .i64 ((a + 1 : Nat) : Int)) ((v_add (.inl rfl) (.inl rfl) (fun _ => by omega)).cast (int_eq (by omega))) rfl rfl (by decide) ?_
  refine r_val (v := .rp _ _) (v_move (.inl rfl) (noOwn_flat rfl)) rfl rfl (by decide) ?_
  refine r_val (v := .fn _ _ _) (v_mv rfl) rfl rfl (by decide) ?_
  refine r_step rfl (o_callIOp (q := (INH, [])) (vs := [.sl _ _, .int _ _, .int _ _, .int _ _, .rp _ _, .fn _ _ _]) (args := [.sl _ _, .int .i64 _, .int .i64 _, .int .i64 _, .rp (INH, []) _, .fn _ _ _]) (cs0 := [.int _ _]) (cs1 := [.int _ _]) (res := .int _ _) rfl hb180 rfl (by decide) ⟨.inl rfl, .inl rfl, .inl rfl, .inl rfl, .inl rfl, .inl rfl, trivial⟩ rfl rfl (median_c f hb cf hc d n (a - 1) a (a + 1) s hd (by omega) hn) rfl rfl rfl rfl rfl (Nat.le_of_ble_eq_true rfl) (by decide) rfl) ?_
  refine r_val (v := .int _ _) (v_assign (.inl rfl) (noOwn_flat rfl)) rfl rfl (by decide) ?_
  refine r_nil ?_
  refine a_ret ?_
  refine ret1 Try.results179 (by decide) (by decide) (Weak.of_eq (int_eq ?_)) rfl (Leaves.one (Weak.of_eq rfl) rfl)
  rfl
end Go.Av
