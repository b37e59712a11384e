/- Lemmas, part 7. -/
import Derived.Test.YtknoopcjhjhggaaGreatB6
import Derived.Test.YtknoopcjhjhggaaGreatRows
set_option linter.unusedVariables false
set_option linter.unusedSimpArgs false
namespace Go.Av
open Go Go.Proofs Go.Sort
set_option maxRecDepth 10000
theorem hb23 : hasBody Tryz.prog 23 = true := by kernel_rfl
theorem hb24 : hasBody Tryz.prog 24 = true := by kernel_rfl
theorem hb25 : hasBody Tryz.prog 25 = true := by kernel_rfl
end Go.Av
namespace Go.Av
open Go Go.Proofs Go.Sort
set_option maxRecDepth 10000
end Go.Av
namespace Go.Av
open Go Go.Proofs Go.Sort
set_option maxRecDepth 10000
theorem hb11 : hasBody Tryz.prog 11 = true := by kernel_rfl
theorem hb13 : hasBody Tryz.prog 13 = true := by kernel_rfl
theorem hb5 : hasBody Tryz.prog 5 = true := by kernel_rfl
theorem hb7 : hasBody Tryz.prog 7 = true := by kernel_rfl
theorem ta24 : tyAgg Tryz.prog 24 = some (true, 2) := by kernel_rfl
end Go.Av
namespace Go.Av
open Go
def srt (D : List Int) : List Int := D.foldl putL []
def okD (vars : Int) (D : List Int) : Prop := (D.map vr).Nodup ∧ ∀ x ∈ D, litB vars x = true
theorem fold_strict : ∀ {D out : List Int}, Strict out → ((out ++ D).map vr).Nodup → Strict (D.foldl putL out)
  | [], out, h, _ => h
  | x :: D, out, h, hn => by
    rw [List.foldl_cons]
    have hx : ∀ y ∈ out, vr y ≠ vr x := fun y hy e => by
      rw [List.map_append, List.nodup_append] at hn
      exact hn.2.2 _ (List.mem_map_of_mem hy) _ (by simp) e
    refine fold_strict (strict_put h hx) ?_
    refine List.Perm.nodup ?_ hn
    refine List.Perm.map vr ?_
    have hp : ∀ (c : List Int), (putL c x).Perm (x :: c) := fun c => by
      induction c with
      | nil => exact List.Perm.refl _
      | cons a c ih =>
        unfold putL; split
        · exact (List.Perm.cons a ih).trans (List.Perm.swap _ _ _)
        · exact List.Perm.refl _
    exact (List.perm_middle).trans (List.Perm.append_right D (hp out)).symm
theorem mem_fold : ∀ {D out : List Int} {x : Int}, x ∈ D.foldl putL out ↔ x ∈ out ∨ x ∈ D
  | [], out, x => by simp
  | y :: D, out, x => by
    rw [List.foldl_cons, mem_fold, mem_putL, List.mem_cons]
    constructor
    · rintro ((h | h) | h)
      · exact .inr (.inl h)
      · exact .inl h
      · exact .inr (.inr h)
    · rintro (h | h | h)
      · exact .inl (.inr h)
      · exact .inl (.inl h)
      · exact .inr h
theorem mem_srt {D : List Int} {x : Int} : x ∈ srt D ↔ x ∈ D := by unfold srt; rw [mem_fold]; simp
theorem srt_cl {vars : Int} {D : List Int} (hv : 0 ≤ vars ∧ vars ≤ 12) (h : okD vars D) : clB vars (srt D) = true :=
  clB_of hv (fold_strict (out := []) (by simp [Strict]) (by simpa using h.1)) fun x hx => h.2 x (mem_srt.1 hx)
theorem srt_len (D : List Int) : (srt D).length = D.length := by unfold srt; rw [foldPut_len]; simp
theorem okD_len {vars : Int} {D : List Int} (hv : 0 ≤ vars ∧ vars ≤ 12) (h : okD vars D) : D.length ≤ 12 := by rw [← srt_len]; exact clB_len (srt_cl hv h)
theorem okD_nil (vars : Int) : okD vars [] := ⟨by simp, fun x hx => by cases hx⟩
theorem okD_take {vars : Int} {D : List Int} (h : okD vars D) (k : Nat) : okD vars (D.take k) :=
  ⟨by have := h.1; rw [List.map_take]; exact List.Pairwise.sublist (List.take_sublist _ _) this, fun x hx => h.2 x (List.mem_of_mem_take hx)⟩
theorem okD_snoc {vars : Int} {D : List Int} {x : Int} (h : okD vars D) (hx : litB vars x = true) (h1 : ¬ x ∈ D) (h2 : ¬ -x ∈ D) : okD vars (D ++ [x]) := by
  refine ⟨?_, fun y hy => ?_⟩
  · rw [List.map_append, List.nodup_append]
    refine ⟨h.1, by simp, fun a ha b hb e => ?_⟩
    obtain ⟨y, hy, rfl⟩ := List.mem_map.1 ha
    have hb' : b = vr x := by simpa using hb
    subst hb'
    rcases vr_same e with rfl | rfl
    · exact h1 hy
    · exact h2 hy
  · rcases List.mem_append.1 hy with hy | hy
    · exact h.2 y hy
    · have : y = x := by simpa using hy
      rw [this]; exact hx
theorem srt_take {D : List Int} {i : Nat} (h : i < D.length) : srt (D.take (i + 1)) = putL (srt (D.take i)) (gd D i) := by
  unfold srt; rw [take_gd h, List.foldl_append]; rfl
theorem litB_nz {vars x : Int} (h : litB vars x = true) : x ≠ 0 := (litB_spec.1 h).2
theorem okD_sm {vars : Int} {D : List Int} (hv : 0 ≤ vars ∧ vars ≤ 12) (h : okD vars D) : SmI D := SmI.of fun x hx => by have := litB_spec.1 (h.2 x hx); omega
theorem clR_srt {vars : Int} {D : List Int} (hv : 0 ≤ vars ∧ vars ≤ 12) (h : okD vars D) : (clR D).getD [] = srt D := by
  have h1 := clR_join (out := []) (b := D) (by simpa using okD_sm hv h) (fun x hx => litB_nz (h.2 x (by simpa using hx))) (by simp [Strict])
  rw [List.nil_append] at h1
  rw [h1, join_fold (by simpa using h.1)]; rfl
theorem vr_ng (x : Int) : vr (-x) = vr x := by unfold vr; split <;> split <;> omega
theorem ng_put : ∀ (c : List Int) (x : Int), ngL (putL c x) = putL (ngL c) (-x)
  | [], x => rfl
  | y :: c, x => by
    have ih := ng_put c x
    unfold ngL at *
    rw [putL, List.map_cons, putL]
    by_cases h : vr y < vr x
    · rw [if_pos h, if_pos (by rw [vr_ng, vr_ng]; exact h), List.map_cons, ih]
    · rw [if_neg h, if_neg (by rw [vr_ng, vr_ng]; exact h)]; rfl
theorem ng_fold : ∀ (D out : List Int), ngL (D.foldl putL out) = (ngL D).foldl putL (ngL out)
  | [], out => rfl
  | x :: D, out => by
    rw [List.foldl_cons, ng_fold D, ng_put]; rfl
theorem ng_srt (D : List Int) : ngL (srt D) = srt (ngL D) := ng_fold D []
theorem okD_ng {vars : Int} {D : List Int} (h : okD vars D) : okD vars (ngL D) := by
  refine ⟨?_, fun x hx => ?_⟩
  · have : (ngL D).map vr = D.map vr := by unfold ngL; rw [List.map_map]; exact List.map_congr_left fun x _ => vr_ng x
    rw [this]; exact h.1
  · unfold ngL at hx
    obtain ⟨y, hy, rfl⟩ := List.mem_map.1 hx
    have := litB_spec.1 (h.2 y hy)
    exact litB_spec.2 (by omega)
theorem prop_sup {L : List (List Int)} : ∀ (k : Nat) (a : List Int) (st : List (Int × Int)) {x : Int}, x ∈ a → x ∈ (prop L k a st).1
  | 0, a, st, x, h => h
  | k + 1, a, st, x, h => by
    unfold prop
    split
    · exact h
    · split
      · exact h
      · rename_i hu
        refine prop_sup k _ _ ?_
        obtain ⟨h1, h2, h3, h4⟩ := (uix_bd L a).resolve_left hu
        obtain ⟨g1, g2, g3⟩ := unit_open h4
        unfold setLit
        rw [wo_new g2 g3]
        exact mem_putL.2 (.inr h)
theorem prop_cfn {L : List (List Int)} : ∀ (k : Nat) (a : List Int) (st : List (Int × Int)), (prop L k a st).2.2 = conf L (prop L k a st).1
  | 0, a, st => rfl
  | k + 1, a, st => by
    unfold prop
    split
    · rename_i h; exact h.symm
    · rename_i h
      split
      · cases hc : conf L a with
        | true => exact absurd hc h
        | false => rfl
      · exact prop_cfn k _ _
theorem conf_app {L M : List (List Int)} {a : List Int} (h : conf (L ++ M) a = false) : ¬ 0 < (falP L a L.length).length := fun h2 => by
  have h3 : conf L a = true := by rw [conf_fal]; exact decide_eq_true (by omega)
  unfold conf at h h3
  obtain ⟨i, hi, he⟩ := List.any_eq_true.1 h3
  have hi := List.mem_range.1 hi
  rw [List.any_eq_false] at h
  exact h i (List.mem_range.2 (by rw [List.length_append]; omega)) (by rw [gl_app, if_pos hi]; exact he)
theorem cval_neg {c a : List Int} (h : cval c a < 0) : ∀ l ∈ c, -l ∈ a := fun l hl => by
  unfold cval at h
  split at h
  · omega
  · split at h
    · rename_i h2; simpa using List.all_eq_true.1 h2 l hl
    · omega
theorem prop_sound {vars : Int} {G : List (List Int)} (hG : ∀ i, i < G.length → clB vars (gl G i) = true) (τ : Int → Bool) (hτ : ∀ x, x ≠ 0 → τ (-x) = !τ x) (hs : ∀ i, i < G.length → ∃ l ∈ gl G i, τ l = true) :
    ∀ (k : Nat) (a : List Int) (st : List (Int × Int)), clB vars a = true → (∀ l ∈ a, τ l = true) → (prop G k a st).2.2 = false := by
  have hcf : ∀ a : List Int, (∀ l ∈ a, τ l = true) → conf G a = false := fun a ha => by
    unfold conf
    rw [List.any_eq_false]
    intro i hi hc
    have hi := List.mem_range.1 hi
    obtain ⟨l, hl, ht⟩ := hs i hi
    have h1 := ha _ (cval_neg (of_decide_eq_true hc) l hl)
    rw [hτ l (clB_mem (hG i hi) hl).2.2.2, ht] at h1; cases h1
  intro k
  induction k with
  | zero => intro a st _ ha; exact hcf a ha
  | succ k ih =>
    intro a st hc ha
    unfold prop
    rw [hcf a ha, if_neg (by simp)]
    split
    · rfl
    · rename_i hu
      obtain ⟨h1, h2, h3, h4⟩ := (uix_bd G a).resolve_left hu
      obtain ⟨g1, g2, g3⟩ := unit_open h4
      have hst := prop_step hG hc hu
      refine ih _ _ hst.2.1 fun l hl => ?_
      unfold setLit at hl
      rw [wo_new g2 g3] at hl
      rcases mem_putL.1 hl with rfl | hl
      · obtain ⟨x, hx, ht⟩ := hs _ h2
        have hone : (opn (gl G (uix G a).toNat) a).length = 1 := by
          have h5 := h4
          unfold unitL at h5
          split at h5
          · rename_i h6; exact h6.2
          · exact absurd rfl h5
        have hxo : x ∈ opn (gl G (uix G a).toNat) a := List.mem_filter.2 ⟨hx, by
          have : ¬ -x ∈ a := fun hm => by
            have h7 := ha _ hm
            rw [hτ x (clB_mem (hG _ h2) hx).2.2.2, ht] at h7; cases h7
          simpa using this⟩
        obtain ⟨j, hj, he⟩ := mem_gd hxo
        obtain rfl : j = 0 := by omega
        rw [unit_gd h4, he]; exact ht
      · exact ha l hl
def lbo (L : List (List Int)) (vs : List Int) : Nat → List (List Int) → List Int → List (List Int) × Bool
  | 0, _, _ => ([], false)
  | n + 1, M, D => if (propR (L ++ M) (srt D)).2.2 = true then
      (if M.length = 60 then ([], false) else if D.length = 0 then (M ++ [ngL (srt D)], true) else lbo L vs n (M ++ [ngL (srt D)]) (D.take (D.length - 1)))
    else if fopen vs (propR (L ++ M) (srt D)).1 = 0 then ([], false) else lbo L vs n M (D ++ [-(fopen vs (propR (L ++ M) (srt D)).1)])
def lbR (vars : Int) (L : List (List Int)) (vs : List Int) : List (List Int) × Bool := if toOk vars L vs then lbo L vs 855 [] [] else ([], false)
theorem lbo_len (L : List (List Int)) (vs : List Int) : ∀ (n : Nat) (M : List (List Int)) (D : List Int), M.length ≤ 60 → (lbo L vs n M D).1.length ≤ 60
  | 0, M, D, _ => by simp [lbo]
  | n + 1, M, D, h => by
    unfold lbo
    split
    · split
      · simp
      · split
        · simp; omega
        · exact lbo_len L vs n _ _ (by simp; omega)
    · split
      · simp
      · exact lbo_len L vs n _ _ h
theorem lbR_len (vars : Int) (L : List (List Int)) (vs : List Int) : (lbR vars L vs).1.length ≤ 60 := by
  unfold lbR; split
  · exact lbo_len L vs 855 [] [] (by simp)
  · simp
def lbI (vars : Int) (L : List (List Int)) (vs : List Int) (x : Nat × List (List Int) × List Int) : Prop :=
  x.2.1.length ≤ 60 ∧ (∀ i, i < x.2.1.length → clB vars (gl x.2.1 i) = true) ∧ okD vars x.2.2 ∧ (60 - x.2.1.length) * 14 + (13 - x.2.2.length) + 1 ≤ x.1 ∧ lbo L vs x.1 x.2.1 x.2.2 = lbo L vs 855 [] []
section
variable {vars : Int} {L : List (List Int)} {vs : List Int} {n : Nat} {M : List (List Int)} {D : List Int}
theorem lbI_start : lbI vars L vs (855, [], []) := ⟨by simp, fun i hi => by simp at hi, okD_nil vars, by simp, rfl⟩
theorem app_cl (hL : ∀ i, i < L.length → clB vars (gl L i) = true) (hM : ∀ i, i < M.length → clB vars (gl M i) = true) : ∀ i, i < (L ++ M).length → clB vars (gl (L ++ M) i) = true := fun i hi => by
  rw [List.length_append] at hi
  rw [gl_app]; split
  · rename_i h; exact hL i h
  · exact hM _ (by omega)
theorem snoc_cl {c : List Int} (hM : ∀ i, i < M.length → clB vars (gl M i) = true) (hc : clB vars c = true) : ∀ i, i < (M ++ [c]).length → clB vars (gl (M ++ [c]) i) = true := fun i hi => by
  rw [List.length_append] at hi
  rw [gl_app]; split
  · rename_i h; exact hM i h
  · rename_i h
    have : i = M.length := by simp at hi; omega
    subst this; rw [Nat.sub_self]; exact hc
theorem lbI_pos (h : lbI vars L vs (n, M, D)) : 0 < n := by have := h.2.2.2.1; omega
theorem lbI_learn (hv : 0 ≤ vars ∧ vars ≤ 12) (h : lbI vars L vs (n + 1, M, D)) (hc : (propR (L ++ M) (srt D)).2.2 = true) (h60 : ¬ M.length = 60) (hD : ¬ D.length = 0) : lbI vars L vs (n, M ++ [ngL (srt D)], D.take (D.length - 1)) := by
  obtain ⟨h1, h2, h3, h4, h5⟩ := h
  have hdl := okD_len hv h3
  dsimp only at h1 h2 h3 h4 h5
  refine ⟨by simp; omega, snoc_cl h2 (ngL_cl (srt_cl hv h3)), okD_take h3 _, by simp only [List.length_append, List.length_cons, List.length_nil, List.length_take]; omega, ?_⟩
  rw [← h5]; conv => rhs; rw [lbo, if_pos hc, if_neg h60, if_neg hD]
theorem lbI_full (h : lbI vars L vs (n + 1, M, D)) (hc : (propR (L ++ M) (srt D)).2.2 = true) (h60 : M.length = 60) : lbo L vs 855 [] [] = ([], false) := by
  rw [← h.2.2.2.2]; dsimp only; rw [lbo, if_pos hc, if_pos h60]
theorem lbI_done (h : lbI vars L vs (n + 1, M, D)) (hc : (propR (L ++ M) (srt D)).2.2 = true) (h60 : ¬ M.length = 60) (hD : D.length = 0) : lbo L vs 855 [] [] = (M ++ [ngL (srt D)], true) := by
  rw [← h.2.2.2.2]; dsimp only; rw [lbo, if_pos hc, if_neg h60, if_pos hD]
theorem lbI_none (h : lbI vars L vs (n + 1, M, D)) (hc : (propR (L ++ M) (srt D)).2.2 = false) (h0 : fopen vs (propR (L ++ M) (srt D)).1 = 0) : lbo L vs 855 [] [] = ([], false) := by
  rw [← h.2.2.2.2]; dsimp only; rw [lbo, if_neg (by rw [hc]; simp), if_pos h0]
theorem lbI_more (hv : 0 ≤ vars ∧ vars ≤ 12) (hL : ∀ i, i < L.length → clB vars (gl L i) = true) (ho : ordB vars vs = true) (h : lbI vars L vs (n + 1, M, D)) (hc : (propR (L ++ M) (srt D)).2.2 = false) (h0 : ¬ fopen vs (propR (L ++ M) (srt D)).1 = 0) :
    lbI vars L vs (n, M, D ++ [-(fopen vs (propR (L ++ M) (srt D)).1)]) := by
  obtain ⟨h1, h2, h3, h4, h5⟩ := h
  have hdl := okD_len hv h3
  dsimp only at h1 h2 h3 h4 h5
  have hpo := propR_ok (app_cl hL h2) (srt_cl hv h3)
  have ha := (ord_ok ho _ hpo.1).resolve_left h0
  have hsup : ∀ x, x ∈ D → x ∈ (propR (L ++ M) (srt D)).1 := fun x hx => prop_sup _ _ _ (mem_srt.2 hx)
  have hsn : okD vars (D ++ [-(fopen vs (propR (L ++ M) (srt D)).1)]) := okD_snoc h3 (litB_spec.2 (by omega)) (fun hm => ha.2.2.2 (hsup _ hm)) (fun hm => by rw [Int.neg_neg] at hm; exact ha.2.2.1 (hsup _ hm))
  have hsl := okD_len hv hsn
  refine ⟨h1, h2, hsn, by simp only [List.length_append, List.length_cons, List.length_nil] at hsl ⊢; omega, ?_⟩
  rw [← h5]; conv => rhs; rw [lbo, if_neg (by rw [hc]; simp), if_neg h0]
theorem lbI_open (hv : 0 ≤ vars ∧ vars ≤ 12) (hL : ∀ i, i < L.length → clB vars (gl L i) = true) (ho : ordB vars vs = true) (hns : ¬ 0 ≤ fW vars L) (h : lbI vars L vs (n, M, D)) (hc : (propR (L ++ M) (srt D)).2.2 = false) : ¬ fopen vs (propR (L ++ M) (srt D)).1 = 0 := by
  have hpo := propR_ok (app_cl hL h.2.1) (srt_cl hv h.2.2.1)
  refine un_ask hL (fun a _ h0 => ord_all ho h0) hns _ hpo.1 ?_
  refine conf_app (M := M) ?_
  rw [← hc]; exact (prop_cfn _ _ _).symm
end
theorem lbo_sat {vars : Int} {L : List (List Int)} {vs : List Int} {w : Nat} (hv : 0 ≤ vars ∧ vars ≤ 12) (hL : ∀ i, i < L.length → clB vars (gl L i) = true) (ho : ordB vars vs = true) (hw : aW L w = true) : ∀ (n : Nat) (M : List (List Int)) (D : List Int),
    (∀ i, i < M.length → clB vars (gl M i) = true) → (∀ i, i < M.length → ∃ l ∈ gl M i, litT w l = true) → okD vars D → lbo L vs n M D = ([], false)
  | 0, M, D, _, _, _ => rfl
  | n + 1, M, D, h1, h2, h3 => by
    have hG : ∀ i, i < (L ++ M).length → ∃ l ∈ gl (L ++ M) i, litT w l = true := fun i hi => by
      rw [List.length_append] at hi
      rw [gl_app]; split
      · rename_i h; exact aW_spec.1 hw i h
      · exact h2 _ (by omega)
    have hcl := srt_cl hv h3
    unfold lbo
    split
    · rename_i hc
      have hex : ∃ x ∈ srt D, litT w x = false := Classical.byContradiction fun hne => by
        have := prop_sound (app_cl hL h1) (litT w) (fun x hx => litT_neg hx) hG (13 - (srt D).length) (srt D) [] hcl (fun l hl => by
          cases ht : litT w l with
          | true => rfl
          | false => exact absurd ⟨l, hl, ht⟩ hne)
        unfold propR at hc
        rw [this] at hc; cases hc
      obtain ⟨x, hx, hxf⟩ := hex
      split
      · rfl
      · split
        · rename_i hD0
          rw [List.eq_nil_of_length_eq_zero hD0] at hx
          cases hx
        · refine lbo_sat hv hL ho hw n _ _ (snoc_cl h1 (ngL_cl hcl)) (fun i hi => ?_) (okD_take h3 _)
          rw [List.length_append] at hi
          rw [gl_app]; split
          · rename_i h; exact h2 i h
          · rename_i h
            have : i - M.length = 0 := by simp at hi; omega
            rw [this]
            refine ⟨-x, ?_, by rw [litT_neg (clB_mem hcl hx).2.2.2, hxf]; rfl⟩
            show -x ∈ ngL (srt D)
            unfold ngL; exact List.mem_map.2 ⟨x, hx, rfl⟩
    · rename_i hc
      split
      · rfl
      · rename_i h0
        have hpo := propR_ok (app_cl hL h1) hcl
        have ha := (ord_ok ho _ hpo.1).resolve_left h0
        have hsup : ∀ x, x ∈ D → x ∈ (propR (L ++ M) (srt D)).1 := fun x hx => prop_sup _ _ _ (mem_srt.2 hx)
        exact lbo_sat hv hL ho hw n _ _ h1 h2 (okD_snoc h3 (litB_spec.2 (by omega)) (fun hm => ha.2.2.2 (hsup _ hm)) (fun hm => by rw [Int.neg_neg] at hm; exact ha.2.2.1 (hsup _ hm)))
theorem lbR_sat {vars : Int} {L : List (List Int)} {vs : List Int} (ho : toOk vars L vs = true) (h : 0 ≤ fW vars L) : lbR vars L vs = ([], false) := by
  obtain ⟨w, hw⟩ := fW_sat h
  unfold lbR
  rw [if_pos ho]
  unfold toOk at ho
  simp only [Bool.and_eq_true] at ho
  have hcs := cnfB_spec ho.1
  exact lbo_sat hcs.1 hcs.2.2 ho.2 hw 855 [] [] (fun i hi => by simp at hi) (fun i hi => by simp at hi) (okD_nil vars)
theorem lbR_yes {vars : Int} {L : List (List Int)} {vs : List Int} (ho : toOk vars L vs = true) : lbR vars L vs = lbo L vs 855 [] [] := by unfold lbR; rw [if_pos ho]
theorem lbR_no {vars : Int} {L : List (List Int)} {vs : List Int} (ho : toOk vars L vs = false) : lbR vars L vs = ([], false) := by unfold lbR; rw [ho]; rfl
theorem fopen_back {vs a : List Int} {k : Nat} (h : k < vs.length) : fopen (vs.drop (vs.length - (k + 1))) a = if opB a (gd vs (vs.length - (k + 1))) = true then gd vs (vs.length - (k + 1)) else fopen (vs.drop (vs.length - k)) a := by
  rw [drop_gd (show vs.length - (k + 1) < vs.length by omega), show vs.length - (k + 1) + 1 = vs.length - k by omega]
  unfold fopen
  by_cases ho : opB a (gd vs (vs.length - (k + 1))) = true
  · rw [List.find?_cons_of_pos ho, if_pos ho]; rfl
  · rw [List.find?_cons_of_neg ho, if_neg ho]
end Go.Av
namespace Go.Av
open Go
theorem lbo_rows {vars : Int} {L : List (List Int)} {vs : List Int} (hv : 0 ≤ vars ∧ vars ≤ 12) (hL : ∀ i, i < L.length → clB vars (gl L i) = true) (ho : ordB vars vs = true) : ∀ (n : Nat) (M : List (List Int)) (D : List Int),
    (∀ i, i < M.length → clB vars (gl M i) = true) → okD vars D → ∀ i, i < (lbo L vs n M D).1.length → clB vars (gl (lbo L vs n M D).1 i) = true
  | 0, M, D, _, _ => fun i hi => by simp [lbo] at hi
  | n + 1, M, D, h1, h3 => by
    have hcl := srt_cl hv h3
    unfold lbo
    split
    · split
      · intro i hi; simp at hi
      · split
        · exact snoc_cl h1 (ngL_cl hcl)
        · exact lbo_rows hv hL ho n _ _ (snoc_cl h1 (ngL_cl hcl)) (okD_take h3 _)
    · split
      · intro i hi; simp at hi
      · rename_i h0
        have hpo := propR_ok (app_cl hL h1) hcl
        have ha := (ord_ok ho _ hpo.1).resolve_left h0
        have hsup : ∀ x, x ∈ D → x ∈ (propR (L ++ M) (srt D)).1 := fun x hx => prop_sup _ _ _ (mem_srt.2 hx)
        exact lbo_rows hv hL ho n _ _ h1 (okD_snoc h3 (litB_spec.2 (by omega)) (fun hm => ha.2.2.2 (hsup _ hm)) (fun hm => by rw [Int.neg_neg] at hm; exact ha.2.2.1 (hsup _ hm)))
theorem lbR_rows (vars : Int) (L : List (List Int)) (vs : List Int) (i : Nat) : (gl (lbR vars L vs).1 i).length ≤ 12 := by
  rcases Nat.lt_or_ge i (lbR vars L vs).1.length with hi | hi
  · unfold lbR at hi ⊢
    split
    · rename_i h
      rw [if_pos h] at hi
      unfold toOk at h
      simp only [Bool.and_eq_true] at h
      have hcs := cnfB_spec h.1
      exact clB_len (lbo_rows hcs.1 hcs.2.2 h.2 855 [] [] (fun i hi => by simp at hi) (okD_nil vars) i hi)
    · rename_i h
      rw [if_neg h] at hi; simp at hi
  · rw [gl_out hi]; simp
theorem tot_mul {L : List (List Int)} {k : Nat} (h : ∀ i, (gl L i).length ≤ k) : ∀ n, tot L n ≤ k * n
  | 0 => by simp [tot]
  | n + 1 => by
    have := tot_mul h n
    have := h n
    rw [Nat.mul_succ]
    rcases Nat.lt_or_ge n L.length with h2 | h2
    · rw [tot_more h2]; omega
    · have h3 : tot L (n + 1) = tot L n := by unfold tot; rw [List.take_of_length_le (by omega), List.take_of_length_le h2]
      omega
theorem lbR_tot (vars : Int) (L : List (List Int)) (vs : List Int) : tot (lbR vars L vs).1 (lbR vars L vs).1.length ≤ 720 := by
  have h1 := tot_mul (lbR_rows vars L vs) (lbR vars L vs).1.length
  have h2 := lbR_len vars L vs
  omega
end Go.Av
namespace Go.Av
open Go
def Kept (ds : List Nat) (a a' : Act) : Prop := ∀ i, i ∉ ds → a'.tmps.getD i undef = a.tmps.getD i undef
theorem Kept.put {ds : List Nat} {a a' : Act} {o : Option Nat} {v : Value} (h : Kept ds a a') (ho : ∀ d, o = some d → d ∈ ds) : Kept ds a (a'.put o v) := fun i hi => by
  rw [← h i hi]
  cases o with
  | none => rfl
  | some d =>
    have hne : d ≠ i := fun e => hi (by rw [← e]; exact ho d rfl)
    simp only [Act.put, Array.getD_eq_getD_getElem?]
    rw [Array.getElem?_setIfInBounds_ne hne]
section
variable {P : Program} {N : Nat} {ds : List Nat} {a0 : Act} {Q : Exit → Act → World → Prop}
def QK (ds : List Nat) (a0 : Act) (Q : Exit → Act → World → Prop) : Exit → Act → World → Prop := fun x a w => Q x a w ∧ (x = .normal → Kept ds a0 a)
theorem qk_out (h : ¬ LetsOut Q) : ¬ LetsOut (QK ds a0 Q) := fun ⟨a, w, h1⟩ => h ⟨a, w, h1.1⟩
theorem out_qk (h : LetsOut Q) : LetsOut (QK ds a0 Q) := by
  obtain ⟨a, w, h⟩ := h
  exact ⟨a, w, h, fun h => by cases h⟩
theorem wpop_kept {o : Oper} {a : Act} {w : World} {K K' : Act → World → Prop} (ho : ∀ d, o.dst = some d → d ∈ ds) (ha : Kept ds a0 a) (hK : ∀ a' w', K a' w' → Kept ds a0 a' → K' a' w') (h : o.wp P a w K Q) : o.wp P a w K' (QK ds a0 Q) := by
  unfold Oper.wp at *
  generalize (execOp a.eval o).run P w = r at *
  cases r with
  | ok n w' =>
    cases n <;> simp only [Oper.upon] at h ⊢ <;>
      first
        | exact hK _ _ h (ha.put ho)
        | exact hK _ _ h (Kept.put (a' := { a with defers := _ }) ha ho)
        | exact Calls.mono h (fun e w'' he => by cases e <;> first | exact hK _ _ he (ha.put ho) | exact out_qk he | exact ⟨he, fun h => by cases h⟩)
        | exact Rows.mono h (fun _ _ he => hK _ _ he (ha.put ho))
        | exact h
  | halt x w' => cases x <;> simp only [Oper.upon] at h ⊢ <;> first | exact ⟨h, fun h => by cases h⟩ | exact h
end
section
variable {P : Program} {N : Nat} {σ : Sig} {l : List Oper}
def ViewL (N : Nat) (σ : Sig) : List (Nat × AV) → Prop
  | [] => True
  | (i, v) :: L => (i < N ∧ snapV σ (rd N σ (.tmp i)) = v) ∧ ViewL N σ L
theorem view_rep {e : Ctx} {gv : Nat → Value} {a : Act} {w : World} {β β0 : Place → Option (Nat × Nat)} {F : Nat → Prop} (hi : Inv e σ (valOf N gv a) w β F) : ∀ {L : List (Nat × AV)}, ViewL N σ L → ∀ i p,
    pureV (look L i) = true ∧ Rep β0 (lent σ β F) w (look L i) p (valOf N gv a i)
  | [], _, i, p => ⟨rfl, by simp [look, Rep]⟩
  | (j, v) :: L, h, i, p => by
    by_cases hij : i = j
    · subst hij
      rw [show look ((i, v) :: L) i = v from upd_same _ _ _, ← h.1.2]
      have h1 := hi.snap (β0 := β0) (rd N σ (.tmp i)) (p' := p) (rd_rep hi (.tmp i) (0, [])) (noOwn_rd _)
      rw [show valOf N gv a i = a.eval (.tmp i) by simp [valOf, h.1.1, Act.eval]]
      exact ⟨pure_snap _ _, h1⟩
    · rw [show look ((j, v) :: L) i = look L i from upd_other _ _ hij]
      exact view_rep hi h.2 i p
theorem noOwn_look {L : List (Nat × AV)} (h : ∀ i, pureV (look L i) = true) (q : Place) : ¬ OwnAt (look L) q := by
  rintro ⟨y, hy, ho⟩
  rw [noOwn_pure (h q.1) hy] at ho; cases ho
end
end Go.Av
namespace Go.Av
open Go
section
variable {P : Program} {N : Nat} {ds : List Nat} {a0 : Act} {Q : Exit → Act → World → Prop}
theorem wpList_kept {ops : Array Oper} : ∀ {l : List Oper} {a : Act} {w : World}, (∀ o ∈ l, ∀ d, o.dst = some d → d ∈ ds) → Kept ds a0 a → wpList P ops Q l a w → wpList P ops (QK ds a0 Q) l a w
  | [], _, _, _, ha, h => ⟨h, fun _ => ha⟩
  | o :: l, a, w, hd, ha, h => by
    have ho := hd o List.mem_cons_self
    have hl : ∀ o ∈ l, ∀ d, o.dst = some d → d ∈ ds := fun o hm => hd o (List.mem_cons_of_mem _ hm)
    unfold wpList at h ⊢
    split
    · rename_i hw
      rw [if_pos hw] at h
      rcases h with h | ⟨h, h2⟩
      · exact .inl (wpop_kept ho ha (fun a' w' hk ha' => wpList_kept hl ha' hk) h)
      · exact .inr ⟨h, out_qk h2⟩
    · rename_i hw
      rw [if_neg hw] at h
      exact wpList_kept hl (ha.put ho) h
end
section
variable {P : Program} {N : Nat} {gv : Nat → Value} {e' : Ctx} {a : Act} {w : World} {K : Sig → Prop} {Q : Exit → Act → World → Prop}
theorem sw_regionV {id : Nat} {l : List Oper} (hnd : noDefer l = true) (hQ : ∀ a' w' σ', K σ' → All N gv e' σ' a' w' → Kept (l.filterMap (·.dst)) a a' → Q .normal a' w')
    (h : ∀ Q : Exit → Act → World → Prop, (∀ a' w' σ', K σ' → All N gv e' σ' a' w' → Q .normal a' w') → wpList P l.toArray Q l a w) : SWp P (.region id l.toArray false) Q a w := fun r n =>
  wpIn_mono (wpIn_region_lit (wpList_in (qk_out NQ_out) (noDefer_mem hnd) (wpList_kept (ds := l.filterMap (·.dst)) (a0 := a) (fun o ho d hd => List.mem_filterMap.2 ⟨o, ho, hd⟩) (fun _ _ => rfl) (h (NQ N gv e' K) fun a' w' σ' h1 h2 => ⟨rfl, σ', h1, h2⟩))))
    fun x a' w' ⟨⟨hx, σ', h1, h2⟩, hk⟩ => by rw [hx]; exact hQ _ _ _ h1 h2 (hk hx)
end
section
variable {P : Program} {N : Nat} {σ : Sig} {l : List Oper}
theorem a_region_runV {id d1 d2 : Nat} {x1 : AV} {b : Bool} {Φ : Exit → Sig → Prop} (L : List (Nat × AV)) (hd1 : d1 < N) (hne : d1 ≠ d2) (hL : ViewL N σ L) (hns : noSh x1 = true) (hnr : noRef x1 = true)
    (h : ARun P N l.toArray l (look L) (fun s => s d1 = x1 ∧ s d2 = .bool b)) (hc : Φ .normal (upd (fun i => purgeV d1 (upd (fun i => if (l.filterMap (·.dst)).contains i then .undef else σ i) d2 (.bool b) i)) d1 x1))
    (hnd : noDefer l = true := by kernel_rfl) : ACode P N (.region id l.toArray false) σ Φ := fun gv e a w ha Q0 hQ0 => by
  obtain ⟨hdf, hsz, β, F, hi⟩ := ha
  have hv := fun i => view_rep (β0 := fun _ => none) hi hL i
  have hinv : Inv ⟨w, fun _ => False, lent σ β F, e.ds⟩ (look L) (valOf N gv a) w (fun _ => none) (lent σ β F) := by
    refine ⟨fun i => (hv i _).2, fun q q' b s s' hq => (noOwn_look (fun i => (hv i (0, [])).1) q hq).elim, fun q b s hq => (noOwn_look (fun i => (hv i (0, [])).1) q hq).elim, fun b hb => ⟨?_, fun _ => hb⟩, fun _ _ _ => rfl, Nat.le_refl _, Tame.refl _⟩
    rcases hb with hb | ⟨q, s, hq, hb⟩
    · exact (hi.fr b hb).1
    · exact hi.own_lt hq hb
  have hall : All N gv ⟨w, fun _ => False, lent σ β F, e.ds⟩ (look L) a w := ⟨hdf, hsz, _, _, hinv⟩
  refine sw_regionV (K := fun s => s d1 = x1 ∧ s d2 = .bool b) (e' := ⟨w, fun _ => False, lent σ β F, e.ds⟩) (gv := gv) (N := N) hnd (fun a' w' σ' hs ha' hk => ?_) fun Q hQ => h gv _ a w hall Q hQ
  obtain ⟨hdf', hsz', β', F', hi'⟩ := ha'
  have hkept : ∀ b, b < w.heap.size → w'.heap[b]? = w.heap[b]? := fun b hb => hi'.kept b hb (fun h => h)
  have hI := hi.more hkept hi'.grow (hi.tame.trans hi'.tame hkept)
  have own : ∀ q, OwnAt (upd (fun i => if (l.filterMap (·.dst)).contains i then .undef else σ i) d2 (.bool b)) q → OwnAt σ q := fun q hq => by
    obtain ⟨y, hy, ho⟩ := hq
    by_cases hqd : q.1 = d2
    · rw [hqd, upd_same] at hy
      rw [noOwn_pure (x := .bool b) rfl hy] at ho; cases ho
    · rw [upd_other _ _ hqd] at hy
      split at hy
      · rw [noOwn_pure (x := .undef) rfl hy] at ho; cases ho
      · exact ⟨y, hy, ho⟩
  have hI0 : Inv e (upd (fun i => if (l.filterMap (·.dst)).contains i then .undef else σ i) d2 (.bool b)) (valOf N gv a') w' β F := by
    refine ⟨fun i => ?_, fun q q' b s s' hq hq' => hI.disj q q' b s s' (own q hq) (own q' hq'), fun q b s hq hb => hI.sep q b s (own q hq) hb, hI.fr, hI.kept, hI.grow, hI.tame⟩
    by_cases hid : i = d2
    · subst hid
      rw [upd_same]
      have := hi'.rep i
      rw [hs.2] at this
      simpa [Rep] using this
    · rw [upd_other _ _ hid]
      split
      · simp [Rep]
      · rename_i hni
        have hni' : i ∉ l.filterMap (·.dst) := fun hm => hni (by simpa using hm)
        have hval : valOf N gv a' i = valOf N gv a i := by
          unfold valOf; split
          · exact hk i hni'
          · rfl
        rw [hval]; exact hI.rep i
  have hdet : Det e (upd (fun i => if (l.filterMap (·.dst)).contains i then .undef else σ i) d2 (.bool b)) w' β F x1 (valOf N gv a' d1) (fun r => β' (d1, r)) := by
    refine ⟨?_, refs_of_noRef x1 hnr, ?_, ?_⟩
    · have := hi'.rep d1
      rw [hs.1] at this
      exact (this.noSh (G := F) x1 hns).tr _ (fun b hb => ⟨hb, rfl⟩) (fun r y _ _ => ⟨by simp, fun _ _ _ => rfl⟩) (fun q hq => by rw [refs_of_noRef x1 hnr] at hq; cases hq)
    · intro r r' y y' b s s' hy ho hy' ho' hb hb'
      have := hi'.disj (d1, r) (d1, r') b s s' ⟨y, by rw [hs.1]; exact hy, ho⟩ ⟨y', by rw [hs.1]; exact hy', ho'⟩ hb hb'
      simpa using this
    · intro r y b s hy ho hb
      have hs := hi'.sep (d1, r) b s ⟨y, by rw [hs.1]; exact hy, ho⟩ hb
      have hge : w.heap.size ≤ b := by rcases hs.2 with h | h; exact h; exact h.elim
      exact ⟨fun hF => by have := (hi.fr b hF).1; omega, .inl (Nat.le_trans hi.grow hge), fun q s' hq hb' => by have := hi.own_lt (own q hq) hb'; omega⟩
  have hat := hI0.attach d1 hdet
  rw [upd_self] at hat
  exact hQ0 _ _ _ _ hc ⟨hdf', hsz', _, F, hat⟩
end
end Go.Av
namespace Go.Av
open Go Go.Proofs Go.Sort
set_option maxRecDepth 10000
theorem hb40 : hasBody Tryz.prog 40 = true := by kernel_rfl
theorem hb41 : hasBody Tryz.prog 41 = true := by kernel_rfl
theorem hb43 : hasBody Tryz.prog 43 = true := by kernel_rfl
theorem iLbo_c (vars : Int) (L : List (List Int)) (vs : List Int) (hk : CnfOk vars L) (hvl : vs.length ≤ 1048576) : ACall Tryz.prog 18 [.agg [.int .i64 vars, .sl (sls L) L.length], .sl (icells vs) vs.length] [] (.tup [.osl 1 (osls (lbR vars L vs).1) (lbR vars L vs).1.length none, .bool (lbR vars L vs).2]) [] := by
  refine ACall.intro Tryz.func18 rfl (N := 69) rfl (by decide) (by simp) ?_
  refine a_seq ?_
  refine a_region ?_
  refine rn (v := .op [.int _ _, .sl _ _]) (q_box il rfl rfl) ?_
  refine rv (v := .nils) (v_assign il nf) ?_
  refine rv (v := .bool _) (v_assign il nf) ?_
  refine r_nil ?_
  refine a_seq ?_
  refine a_seq ?_
  refine a_region ?_
  refine rv (v := .agg [.int _ _, .sl _ _]) (v_load_rpa1 ta30 il rfl rfl (fun _ => rfl) rfl) ?_
  refine rn (v := .bool _) (q_call (vs := [.agg [.int _ _, .sl _ _]]) (args := [.agg [.int .i64 _, .sl _ _]]) hb29 ⟨il, trivial⟩ rfl (fun hA => isCnf_c vars L hk) rfl rfl) ?_
  refine rv (v := .bool _) (v_not il) ?_
  refine rv (v := .bool _) (v_move il nf) ?_
  refine r_gval (v := .rp _ _) (v_fieldAddr_rp fo30_0 il) rfl rfl rfl (by decide) (.inl ⟨_, rfl, rfl⟩) rfl (by decide) ?_
  refine r_gval (v := .int _ _) (v_load_rp1 ta3 (.inr ⟨_, rfl, fun h => h⟩) rfl (fun _ => rfl) rfl) rfl rfl rfl (by decide) (.inl ⟨_, rfl, rfl⟩) rfl (by decide) ?_
  refine r_gval (v := .sl _ _) (v_move il nf) rfl rfl rfl (by decide) (.inl ⟨_, rfl, rfl⟩) rfl (by decide) ?_
  refine r_guard (v := .bool _) (q_call (vs := [.int _ _, .sl _ _]) (args := [.int .i64 _, .sl _ _]) hb30 ⟨.inr ⟨_, rfl, fun h => h⟩, .inr ⟨_, rfl, fun h => h⟩, trivial⟩ rfl (fun hA => orderOk_c vars vs (cnfB_spec (by simpa using hA)).1 hvl) rfl rfl) rfl rfl rfl (by decide) (.inl ⟨_, rfl, rfl⟩) rfl (by decide) ?_
  refine r_gval (v := .bool _) (v_not (.inr ⟨_, rfl, fun h => h⟩)) rfl rfl rfl (by decide) (.inl ⟨_, rfl, rfl⟩) rfl (by decide) ?_
  refine rv (v := .bool _) (v_pick (.inl rfl) (.inl rfl) (.inr ⟨_, rfl, fun h h2 => by simp_all⟩)) ?_
  refine r_nil ?_
  refine a_cond rfl (fun ht20 => ?_) (fun ht20 => ?_)
  ·
    skip
    refine a_seq ?_
    have hno : toOk vars L vs = false := (by unfold toOk; cases h1 : cnfB vars L <;> simp_all)
    have hRR := lbR_no hno
    refine a_region ?_
    refine rv (v := .nils) (v_assign il nf) ?_
    refine rv (v := .bool _) (v_assign il nf) ?_
    refine r_nil ?_
    refine a_pre (ent_nil (t := 4) (sz := 1) (cap := none) (.inl rfl) (fun _ h => by cases h)) ?_
    refine a_ret ?_
    refine retL (rs := [.tmp 4, .tmp 5]) [(4, .osl _ _ _ none), (5, _)] ⟨Weak.osl rfl rfl, Weak.rfl, trivial⟩ rfl Tryz.results18 (by decide) ⟨by decide, by decide, rfl⟩ (by decide) (by decide) (l2_eq (osl_eq2 ?_ ?_) (bool_eq ?_)) (by simp [refsL, refs])
    all_goals (first | (rw [hRR]; done) | (rw [hRR]; rfl) | (rw [hRR]; simp [osls, rep]; done))
  ·
    skip
    refine a_skip ?_
    refine a_seq ?_
    have hye : cnfB vars L = true ∧ ordB vars vs = true := (by cases h1 : cnfB vars L <;> cases h2 : ordB vars vs <;> simp_all)
    have hcs := cnfB_spec hye.1
    have ho := hye.2
    have hsv := ord_sm hcs.1 ho
    have hok : toOk vars L vs = true := (by unfold toOk; rw [hye.1, hye.2]; rfl)
    have hR := lbR_yes hok
    refine a_region ?_
    refine rv (v := .nils) (v_assign il nf) ?_
    refine r_nil ?_
    refine a_seq ?_
    refine a_region ?_
    refine rv (v := .nils) (v_assign il nf) ?_
    refine r_nil ?_
    refine a_block ?_
    refine a_pre (ent_nil (t := 6) (sz := 1) (cap := none) (.inl rfl) (fun _ h => by cases h)) ?_
    refine a_pre (ent_nil (t := 7) (sz := 1) (cap := none) (.inl rfl) (fun _ h => by cases h)) ?_
    refine a_loop (X := (Nat × List (List Int) × List Int)) (fun x => look [(1, .sl (icells vs) vs.length), (2, .op [.int .i64 vars, .sl (sls L) L.length]), (6, .osl 1 (osls x.2.1) x.2.1.length none), (7, .osl 1 (icells x.2.2) x.2.2.length none)]) (fun x => lbI vars L vs x) (fun x => x.1) (855, [], []) (ent_look ⟨Weak.of_eq rfl, Weak.of_eq rfl, Weak.osl rfl rfl, Weak.osl rfl rfl, trivial⟩) lbI_start (fun x hG => ?_)
    obtain ⟨n0, M, D⟩ := x
    have hpos := lbI_pos hG
    obtain ⟨n, rfl⟩ : ∃ m, n0 = m + 1 := ⟨n0 - 1, by omega⟩
    have hGG := hG
    obtain ⟨hM60, hMc, hDo, hmu, hlb⟩ := hG
    dsimp only at hM60 hMc hDo hmu hlb
    have hDl := okD_len hcs.1 hDo
    have hDs := okD_sm hcs.1 hDo
    have hsc := srt_cl hcs.1 hDo
    have hsl := srt_len D
    have hss := clB_sm hsc
    have hGc := app_cl hcs.2.2 hMc
    have hGl : (L ++ M).length ≤ 120 := (by rw [List.length_append]; omega)
    have hpo := propR_ok hGc hsc
    have hps := clB_sm hpo.1
    refine a_block ?_
    refine a_seq ?_
    refine a_pre (ent_look (L := [(1, .sl _ _), (2, .op [.int _ _, .sl _ _]), (6, .osl _ _ _ _), (7, .osl _ _ _ _)]) ⟨Weak.rfl, Weak.rfl, Weak.rfl, Weak.rfl, trivial⟩) ?_
    refine a_pre (ent_eq (t := 6) (v' := .osl 1 (osls M) M.length none) (Weak.of_eq rfl)) ?_
    refine a_pre (ent_eq (t := 7) (v' := .osl 1 (icells D) D.length none) (Weak.of_eq rfl)) ?_
    have hcr := clR_srt hcs.1 hDo
    have hcn : (clR (ngL D)).getD [] = (ngL (srt D)) := (by rw [clR_srt hcs.1 (okD_ng hDo), ng_srt])
    have hnl := ngL_len D
    refine a_region_runV (d1 := 8) (d2 := 10) (x1 := .osl 1 (icells (propR (L ++ M) (srt D)).1) (propR (L ++ M) (srt D)).1.length none) (b := (propR (L ++ M) (srt D)).2.2) [(2, .pp [.int .i64 vars, .sl (sls L) L.length] 0), (6, .sl (sls M) M.length), (7, .sl (icells D) D.length)] (by decide) (by decide) ⟨⟨by decide, rfl⟩, ⟨by decide, sl_osls⟩, ⟨by decide, (sl_sh (ic_pure _))⟩, trivial⟩ (ic_noSh _) (ic_noRef _) ?_ ?_
    · skip
      refine rv (v := .agg [.int _ _, .sl _ _]) (v_load_ppa1 ta30 il rfl (fun _ => rfl) rfl) ?_
      refine rv (v := .sl _ _) (v_move il nf) ?_
      refine rv (v := .sl _ _) (v_move il nf) ?_
      refine rv (v := .int _ _) (v_len_sl sl22 il) ?_
      refine rn (v := .osl 1 (sls (L ++ M)) (L ++ M).length none) (QSem.cast (q_callF (vs := [.agg [.int _ _, .sl _ _], .sl _ _, .int _ _]) (args := [.agg [.int .i64 _, .sl _ _], .sl _ _, .int .i64 _]) hb41 ⟨il, il, il, trivial⟩ rfl (fun hA => before_c vars L M M.length (by omega) (by omega)) rfl (sls_noRef _)) (osl_eq2 (by rw [List.take_length]) (by rw [List.take_length]))) ?_
      refine rv (v := .sl _ _) (v_move il nf) ?_
      refine rn (v := .osl 1 (icells (srt D)) (srt D).length none) (QSem.cast (q_call (vs := [.sl _ _]) (args := [.sl _ _]) hb42 ⟨il, trivial⟩ rfl (fun hA => mustClause_c D (by omega)) (ic_noSh _) (ic_noRef _)) (osl_eq2 (by rw [hcr]) (by rw [hcr]))) ?_
      refine rn (v := .tup [.osl _ _ _ _, .osl _ _ _ _, .bool _]) (q_call (vs := [.rsl _ _ _ _ _, .rsl _ _ _ _ _]) (args := [.sl _ _, .sl _ _]) hb40 ⟨il, il, trivial⟩ (l2_eq (sl_sh (sls_pure _)) (sl_sh (ic_pure _))) (fun hA => iProp_c vars (L ++ M) (srt D) hGc (by omega) (by omega) hsc) (by simp [noSh, noShL, ic_noSh, tc_noSh]) (by simp [noRef, noRefL, ic_noRef, tc_noRef])) ?_
      refine rv (v := .tup [.rsl _ _ _ _ _, .rsl _ _ _ _ _, .bool _]) (v_mv rfl) ?_
      refine rv (v := .rsl _ _ _ _ _) (v_extract rfl rfl) ?_
      refine rv (v := .rsl _ _ _ _ _) (v_extract rfl rfl) ?_
      refine rv (v := .bool _) (v_extract rfl rfl) ?_
      refine rv (v := .rsl _ _ _ _ _) (v_assign il nf) ?_
      refine r_pre (ent_reloc_sl (t := 8) rfl rfl) ?_
      refine rv (v := .rsl _ _ _ _ _) (v_assign il nf) ?_
      refine r_pre (ent_reloc_sl (t := 9) rfl rfl) ?_
      refine rv (v := .bool _) (v_assign il nf) ?_
      refine r_nil ?_
      exact ⟨rfl, rfl⟩
    refine a_block ?_
    refine a_seq ?_
    refine a_region ?_
    refine rv (v := .bool _) (v_move il nf) ?_
    refine rv (v := .bool _) (v_move il nf) ?_
    refine r_gval (v := .rsl _ _ _ _ _) (v_move il nf) rfl rfl rfl (by decide) (.inl ⟨_, rfl, rfl⟩) rfl (by decide) ?_
    refine r_gval (v := .int _ _) (v_len_rsl sl22 (.inr ⟨_, rfl, fun h => h⟩)) rfl rfl rfl (by decide) (.inl ⟨_, rfl, rfl⟩) rfl (by decide) ?_
    refine r_gval (v := .bool _) (v_eql (.inr ⟨_, rfl, fun h => h⟩) il) rfl rfl rfl (by decide) (.inl ⟨_, rfl, rfl⟩) rfl (by decide) ?_
    refine rv (v := .bool _) (v_pick (.inl rfl) (.inr ⟨_, rfl, fun h h2 => by simp_all⟩) (.inl rfl)) ?_
    refine rv (v := .bool _) (v_assign il nf) ?_
    refine r_nil ?_
    refine a_cond rfl (fun ht40 => ?_) (fun ht40 => ?_)
    ·
      skip
      refine a_seq ?_
      have hcc : (propR (L ++ M) (srt D)).2.2 = true ∧ M.length = 60 := (by simp at ht40; exact ⟨ht40.1, by omega⟩)
      have hRR := hR.trans (lbI_full hGG hcc.1 hcc.2)
      refine a_region ?_
      refine rv (v := .nils) (v_assign il nf) ?_
      refine rv (v := .bool _) (v_assign il nf) ?_
      refine r_nil ?_
      refine a_pre (ent_nil (t := 4) (sz := 1) (cap := none) (.inl rfl) (fun _ h => by cases h)) ?_
      refine a_ret ?_
      refine retL (rs := [.tmp 4, .tmp 5]) [(4, .osl _ _ _ none), (5, _)] ⟨Weak.osl rfl rfl, Weak.rfl, trivial⟩ rfl Tryz.results18 (by decide) ⟨by decide, by decide, rfl⟩ (by decide) (by decide) (l2_eq (osl_eq2 ?_ ?_) (bool_eq ?_)) (by simp [refsL, refs])
      all_goals (first | (rw [hRR]; done) | (rw [hRR]; rfl) | (rw [hRR]; simp [osls, rep]; done))
    ·
      skip
      refine a_seq ?_
      refine a_region ?_
      refine rv (v := .bool _) (v_move il nf) ?_
      refine rv (v := .bool _) (v_assign il nf) ?_
      refine r_nil ?_
      refine a_cond rfl (fun ht47 => ?_) (fun ht47 => ?_)
      ·
        skip
        refine a_seq ?_
        have hc : (propR (L ++ M) (srt D)).2.2 = true := ht47
        have h60 : ¬ M.length = 60 := (by rw [hc] at ht40; simp at ht40; omega)
        refine a_region ?_
        refine rv (v := .rsl _ _ _ _ _) (v_move il nf) ?_
        refine rv (v := .rsl _ _ _ _ _) (v_move il nf) ?_
        refine rn (v := .osl _ _ _ _) (q_call (vs := [.rsl _ _ _ _ _]) (args := [.sl _ _]) hb43 ⟨il, trivial⟩ (l1_eq (sl_sh (ic_pure _))) (fun hA => negated_c D hDs (by omega)) (ic_noSh _) (ic_noRef _)) ?_
        refine rn (v := .osl 1 (icells (ngL (srt D))) (ngL (srt D)).length none) (QSem.cast (q_call (vs := [.rsl _ _ _ _ _]) (args := [.sl _ _]) hb42 ⟨il, trivial⟩ (l1_eq (sl_sh (ic_pure _))) (fun hA => mustClause_c (ngL D) (by omega)) (ic_noSh _) (ic_noRef _)) (osl_eq2 (by rw [hcn]) (by rw [hcn]))) ?_
        refine r_step rfl (o_sliceLit1 (v := .osl _ _ _ _) rfl lt22 rfl rfl (by decide) (by decide) rfl rfl (by simp [cellsOf, noRefL, noRef, ic_noRef]) rfl rfl) ?_
        refine r_pre (ent_reloc_sl (t := 49) rfl rfl) ?_
        refine r_step rfl (o_append_own rfl ap22 rfl (by decide) (by decide) (by decide) (by decide) rfl rfl rfl (by rw [osls_length]; omega) rfl (by omega)) ?_
        refine r_pre (ent_eq (t := 54) (v' := .osl 1 (osls (M ++ [(ngL (srt D))])) (M ++ [(ngL (srt D))]).length none) (Weak.osl (by rw [osls_append]; rfl) (by simp))) ?_
        refine rv (v := .rsl _ _ _ _ _) (v_assign il nf) ?_
        refine r_pre (ent_reloc_sl (t := 6) rfl rfl) ?_
        refine r_nil ?_
        refine a_seq ?_
        refine a_seq ?_
        refine a_region ?_
        refine rv (v := .rsl _ _ _ _ _) (v_move il nf) ?_
        refine rv (v := .int _ _) (v_len_rsl sl25 il) ?_
        refine rv (v := .bool _) (v_eql il il) ?_
        refine r_nil ?_
        refine a_cond rfl (fun ht57 => ?_) (fun ht57 => ?_)
        ·
          skip
          refine a_seq ?_
          have hRR := hR.trans (lbI_done hGG hc h60 (by have h9 := of_decide_eq_true ht57; omega))
          refine a_region ?_
          refine rv (v := .rsl _ _ _ _ _) (v_move il nf) ?_
          refine rv (v := .rsl _ _ _ _ _) (v_assign il nf) ?_
          refine r_pre (ent_reloc_sl (t := 4) rfl rfl) ?_
          refine rv (v := .bool _) (v_assign il nf) ?_
          refine r_nil ?_
          refine a_ret ?_
          refine retL (rs := [.tmp 4, .tmp 5]) [(4, .osl _ _ _ none), (5, _)] ⟨Weak.osl rfl rfl, Weak.rfl, trivial⟩ rfl Tryz.results18 (by decide) ⟨by decide, by decide, rfl⟩ (by decide) (by decide) (l2_eq (osl_eq2 ?_ ?_) (bool_eq ?_)) (by simp [refsL, refs])
          all_goals (first | (rw [hRR]; done) | (rw [hRR]; rfl) | (rw [hRR]; simp [osls, rep]; done))
        ·
          skip
          refine a_skip ?_
          refine a_region ?_
          refine rv (v := .rsl _ _ _ _ _) (v_move il nf) ?_
          refine rv (v := .rsl _ _ _ _ _) (v_move il nf) ?_
          refine rv (v := .int _ _) (v_len_rsl sl25 il) ?_
          refine rv (v := .int .i64 ((D.length - 1 : Nat) : Int)) ((v_sub il il (fun _ => by omega)).cast (int_eq (by have h9 := of_decide_eq_false ht57; omega))) ?_
          refine rv (v := .rsl (7, []) 1 0 (D.length - 1) none) ((v_slice_rsl (l := 0) (h := D.length - 1) es25 il (.inl ⟨rfl, rfl⟩) (.inr ⟨_, _, rfl, il⟩) (fun _ => by omega)).cast (rfl)) ?_
          refine r_pre (ent_reloc_sl (t := 63) rfl rfl) ?_
          refine rv (v := .rsl _ _ _ _ _) (v_assign il nf) ?_
          refine r_pre (ent_reloc_sl (t := 7) rfl rfl) ?_
          refine r_nil ?_
          refine ⟨(n, M ++ [(ngL (srt D))], D.take (D.length - 1)), ent_look ⟨Weak.of_eq rfl, Weak.of_eq rfl, Weak.of_eq rfl, (Weak.osl_take (ds := icells (D.drop (D.length - 1))) (by rw [← icells_append, List.take_append_drop]) (by rw [List.length_take]; omega)), trivial⟩, lbI_learn hcs.1 hGG hc h60 (by have h9 := of_decide_eq_false ht57; omega), by dsimp only; omega⟩
      ·
        skip
        refine a_seq ?_
        have hc : (propR (L ++ M) (srt D)).2.2 = false := ht47
        refine a_region ?_
        refine rv (v := .sl _ _) (v_move il nf) ?_
        refine rv (v := .rsl _ _ _ _ _) (v_move il nf) ?_
        refine rn (v := .int _ _) (q_call (vs := [.sl _ _, .rsl _ _ _ _ _]) (args := [.sl _ _, .sl _ _]) hb33 ⟨il, il, trivial⟩ (l2_eq rfl (sl_sh (ic_pure _))) (fun hA => fopen_c vs (propR (L ++ M) (srt D)).1 hsv hvl (by omega)) rfl rfl) ?_
        refine rv (v := .bool _) (v_eql il il) ?_
        refine rv (v := .bool _) (v_assign il nf) ?_
        refine r_nil ?_
        refine a_cond rfl (fun ht64 => ?_) (fun ht64 => ?_)
        ·
          skip
          refine a_seq ?_
          have hRR := hR.trans (lbI_none hGG hc (by simpa using ht64))
          refine a_region ?_
          refine rv (v := .nils) (v_assign il nf) ?_
          refine rv (v := .bool _) (v_assign il nf) ?_
          refine r_nil ?_
          refine a_pre (ent_nil (t := 4) (sz := 1) (cap := none) (.inl rfl) (fun _ h => by cases h)) ?_
          refine a_ret ?_
          refine retL (rs := [.tmp 4, .tmp 5]) [(4, .osl _ _ _ none), (5, _)] ⟨Weak.osl rfl rfl, Weak.rfl, trivial⟩ rfl Tryz.results18 (by decide) ⟨by decide, by decide, rfl⟩ (by decide) (by decide) (l2_eq (osl_eq2 ?_ ?_) (bool_eq ?_)) (by simp [refsL, refs])
          all_goals (first | (rw [hRR]; done) | (rw [hRR]; rfl) | (rw [hRR]; simp [osls, rep]; done))
        ·
          skip
          have h0 : ¬ (fopen vs (propR (L ++ M) (srt D)).1) = 0 := (by simpa using ht64)
          have hav := (ord_ok ho _ hpo.1).resolve_left h0
          refine a_region ?_
          refine rv (v := .rsl _ _ _ _ _) (v_move il nf) ?_
          refine rv (v := .sl _ _) (v_move il nf) ?_
          refine rv (v := .rsl _ _ _ _ _) (v_move il nf) ?_
          refine rn (v := .int _ _) (q_call (vs := [.sl _ _, .rsl _ _ _ _ _]) (args := [.sl _ _, .sl _ _]) hb33 ⟨il, il, trivial⟩ (l2_eq rfl (sl_sh (ic_pure _))) (fun hA => fopen_c vs (propR (L ++ M) (srt D)).1 hsv hvl (by omega)) rfl rfl) ?_
          refine rv (v := .int _ _) (v_neg il (fun _ => by omega)) ?_
          refine rn (v := .osl 1 (icells [-(fopen vs (propR (L ++ M) (srt D)).1)]) 1 (some 1)) (q_sliceLit (n := 1) (parts := [(0, .tmp 37)]) lt25 rfl rfl rfl rfl) ?_
          refine r_pre (ent_reloc_sl (t := 33) rfl rfl) ?_
          refine r_step rfl (o_append rfl ap25 rfl (by decide) (by decide) rfl (src_lit (.inl rfl) rfl rfl (ic_pureL _)) (ic_cell _) (by rw [icells_length]; omega) (by omega)) ?_
          refine rv (v := .rsl _ _ _ _ _) (v_assign il nf) ?_
          refine r_pre (ent_reloc_sl (t := 7) rfl rfl) ?_
          refine r_nil ?_
          refine ⟨(n, M, D ++ [-(fopen vs (propR (L ++ M) (srt D)).1)]), ent_look ⟨Weak.of_eq rfl, Weak.of_eq rfl, Weak.of_eq rfl, Weak.osl (by rw [icells_append]) (by simp), trivial⟩, lbI_more hcs.1 hcs.2.2 ho hGG hc h0, by dsimp only; omega⟩
end Go.Av
namespace Go.Av
open Go Go.Proofs Go.Sort
set_option maxRecDepth 10000
theorem hb36 : hasBody Tryz.prog 36 = true := by kernel_rfl
theorem hb37 : hasBody Tryz.prog 37 = true := by kernel_rfl
theorem hb39 : hasBody Tryz.prog 39 = true := by kernel_rfl
theorem sLbo_c (vars : Int) (L : List (List Int)) (vs : List Int) (hk : CnfOk vars L) (hvl : vs.length ≤ 1048576) : ACall Tryz.prog 17 [.agg [.int .i64 vars, .sl (sls L) L.length], .sl (icells vs) vs.length] [] (.tup [.osl 1 (osls (lbR vars L vs).1) (lbR vars L vs).1.length none, .bool (lbR vars L vs).2]) [] := by
  refine ACall.intro Tryz.func17 rfl (N := 96) rfl (by decide) (by simp) ?_
  refine a_seq ?_
  refine a_region ?_
  refine rn (v := .op [.int _ _, .sl _ _]) (q_box il rfl rfl) ?_
  refine rv (v := .nils) (v_assign il nf) ?_
  refine rv (v := .bool _) (v_assign il nf) ?_
  refine r_nil ?_
  refine a_seq ?_
  refine a_region ?_
  refine rn (v := .osl _ _ _ _) (q_sliceLit (n := 0) (parts := []) lt22 rfl rfl rfl rfl) ?_
  refine rv (v := .rsl _ _ _ _ _) (v_assign il nf) ?_
  refine r_pre (ent_reloc_sl (t := 6) rfl rfl) ?_
  refine r_nil ?_
  refine a_seq ?_
  refine a_seq ?_
  refine a_region ?_
  refine rv (v := .agg [.int _ _, .sl _ _]) (v_load_rpa1 ta30 il rfl rfl (fun _ => rfl) rfl) ?_
  refine rn (v := .bool _) (q_call (vs := [.agg [.int _ _, .sl _ _]]) (args := [.agg [.int .i64 _, .sl _ _]]) hb23 ⟨il, trivial⟩ rfl (fun hA => l2Good_c vars L hk) rfl rfl) ?_
  refine rv (v := .bool _) (v_not il) ?_
  refine rv (v := .bool _) (v_move il nf) ?_
  refine r_gval (v := .rp _ _) (v_fieldAddr_rp fo30_0 il) rfl rfl rfl (by decide) (.inl ⟨_, rfl, rfl⟩) rfl (by decide) ?_
  refine r_gval (v := .int _ _) (v_load_rp1 ta3 (.inr ⟨_, rfl, fun h => h⟩) rfl (fun _ => rfl) rfl) rfl rfl rfl (by decide) (.inl ⟨_, rfl, rfl⟩) rfl (by decide) ?_
  refine r_gval (v := .sl _ _) (v_move il nf) rfl rfl rfl (by decide) (.inl ⟨_, rfl, rfl⟩) rfl (by decide) ?_
  refine r_guard (v := .bool _) (q_call (vs := [.int _ _, .sl _ _]) (args := [.int .i64 _, .sl _ _]) hb24 ⟨.inr ⟨_, rfl, fun h => h⟩, .inr ⟨_, rfl, fun h => h⟩, trivial⟩ rfl (fun hA => order8_c vars vs (cnfB_spec (by simpa using hA)).1 hvl) rfl rfl) rfl rfl rfl (by decide) (.inl ⟨_, rfl, rfl⟩) rfl (by decide) ?_
  refine r_gval (v := .bool _) (v_not (.inr ⟨_, rfl, fun h => h⟩)) rfl rfl rfl (by decide) (.inl ⟨_, rfl, rfl⟩) rfl (by decide) ?_
  refine rv (v := .bool _) (v_pick (.inl rfl) (.inl rfl) (.inr ⟨_, rfl, fun h h2 => by simp_all⟩)) ?_
  refine rv (v := .bool _) (v_move il nf) ?_
  refine r_gval (v := .agg [.int _ _, .sl _ _]) (v_load_rpa1 ta30 il rfl rfl (fun _ => rfl) rfl) rfl rfl rfl (by decide) (.inl ⟨_, rfl, rfl⟩) rfl (by decide) ?_
  refine r_guard (v := .bool _) (q_call (vs := [.agg [.int _ _, .sl _ _]]) (args := [.agg [.int .i64 _, .sl _ _]]) hb25 ⟨.inr ⟨_, rfl, fun h => h⟩, trivial⟩ rfl (fun hA => sat5_c vars L (by simp at hA; exact hA.1)) rfl rfl) rfl rfl rfl (by decide) (.inl ⟨_, rfl, rfl⟩) rfl (by decide) ?_
  refine rv (v := .bool _) (v_pick (.inl rfl) (.inl rfl) (.inr ⟨_, rfl, fun h h2 => by simp_all⟩)) ?_
  refine r_nil ?_
  refine a_cond rfl (fun ht29 => ?_) (fun ht29 => ?_)
  ·
    skip
    refine a_seq ?_
    have hRR : lbR vars L vs = ([], false) := (by cases h0 : toOk vars L vs with
    | false => exact lbR_no h0
    | true => (have hye : cnfB vars L = true ∧ ordB vars vs = true := (by unfold toOk at h0; simpa using h0)); exact lbR_sat h0 (by rw [hye.1, hye.2] at ht29; simpa using ht29))
    refine a_region ?_
    refine rv (v := .rsl _ _ _ _ _) (v_move il nf) ?_
    refine rv (v := .rsl _ _ _ _ _) (v_assign il nf) ?_
    refine r_pre (ent_reloc_sl (t := 4) rfl rfl) ?_
    refine rv (v := .bool _) (v_assign il nf) ?_
    refine r_nil ?_
    refine a_ret ?_
    refine retL (rs := [.tmp 4, .tmp 5]) [(4, .osl _ _ _ none), (5, _)] ⟨Weak.osl rfl rfl, Weak.rfl, trivial⟩ rfl Tryz.results17 (by decide) ⟨by decide, by decide, rfl⟩ (by decide) (by decide) (l2_eq (osl_eq2 ?_ ?_) (bool_eq ?_)) (by simp [refsL, refs])
    all_goals (first | (rw [hRR]; done) | (rw [hRR]; rfl) | (rw [hRR]; simp [osls, rep]; done))
  ·
    skip
    refine a_skip ?_
    refine a_seq ?_
    have hye : cnfB vars L = true ∧ ordB vars vs = true := (by cases h1 : cnfB vars L <;> cases h2 : ordB vars vs <;> simp_all)
    have hcs := cnfB_spec hye.1
    have ho := hye.2
    have hsv := ord_sm hcs.1 ho
    have hok : toOk vars L vs = true := (by unfold toOk; rw [hye.1, hye.2]; rfl)
    have hR := lbR_yes hok
    have hns : ¬ 0 ≤ fW vars L := (by rw [hye.1, hye.2] at ht29; simpa using ht29)
    refine a_region ?_
    refine rn (v := .osl _ _ _ _) (q_sliceLit (n := 0) (parts := []) lt25 rfl rfl rfl rfl) ?_
    refine rv (v := .rsl _ _ _ _ _) (v_assign il nf) ?_
    refine r_pre (ent_reloc_sl (t := 7) rfl rfl) ?_
    refine r_nil ?_
    refine a_block ?_
    refine a_loop (X := (Nat × List (List Int) × List Int)) (fun x => look [(1, .sl (icells vs) vs.length), (2, .op [.int .i64 vars, .sl (sls L) L.length]), (6, .osl 1 (osls x.2.1) x.2.1.length none), (7, .osl 1 (icells x.2.2) x.2.2.length none)]) (fun x => lbI vars L vs x) (fun x => x.1) (855, [], []) (ent_look ⟨Weak.of_eq rfl, Weak.of_eq rfl, Weak.osl rfl rfl, Weak.osl rfl rfl, trivial⟩) lbI_start (fun x hG => ?_)
    obtain ⟨n0, M, D⟩ := x
    have hpos := lbI_pos hG
    obtain ⟨n, rfl⟩ : ∃ m, n0 = m + 1 := ⟨n0 - 1, by omega⟩
    have hGG := hG
    obtain ⟨hM60, hMc, hDo, hmu, hlb⟩ := hG
    dsimp only at hM60 hMc hDo hmu hlb
    have hDl := okD_len hcs.1 hDo
    have hDs := okD_sm hcs.1 hDo
    have hsc := srt_cl hcs.1 hDo
    have hsl := srt_len D
    have hss := clB_sm hsc
    have hGc := app_cl hcs.2.2 hMc
    have hGl : (L ++ M).length ≤ 120 := (by rw [List.length_append]; omega)
    have hpo := propR_ok hGc hsc
    have hps := clB_sm hpo.1
    refine a_block ?_
    refine a_seq ?_
    refine a_pre (ent_eq (t := 6) (v' := .osl 1 (osls M) M.length none) (Weak.of_eq rfl)) ?_
    refine a_pre (ent_eq (t := 7) (v' := .osl 1 (icells D) D.length none) (Weak.of_eq rfl)) ?_
    refine a_region ?_
    refine rn (v := .osl _ _ _ _) (q_sliceLit (n := 0) (parts := []) lt25 rfl rfl rfl rfl) ?_
    refine rv (v := .rsl _ _ _ _ _) (v_assign il nf) ?_
    refine r_pre (ent_reloc_sl (t := 8) rfl rfl) ?_
    refine r_nil ?_
    refine a_seq ?_
    refine a_seq ?_
    refine a_region ?_
    refine rv (v := .int _ _) (v_assign il nf) ?_
    refine r_nil ?_
    refine a_block ?_
    refine a_loop (X := Nat) (fun i => look [(1, .sl (icells vs) vs.length), (2, .op [.int .i64 vars, .sl (sls L) L.length]), (6, .osl 1 (osls M) M.length none), (7, .osl 1 (icells D) D.length none), (8, .osl 1 (icells (srt (D.take i))) (srt (D.take i)).length none), (9, .int .i64 ((i : Nat) : Int))]) (fun i => i ≤ D.length) (fun i => D.length - i) 0 (ent_look ⟨Weak.of_eq rfl, Weak.of_eq rfl, Weak.of_eq rfl, Weak.of_eq rfl, Weak.osl rfl rfl, Weak.of_eq rfl, trivial⟩) (Nat.zero_le _) (fun i hG => ?_)
    have hdi := hDs i
    have hti := okD_take hDo i
    have hci := srt_cl hcs.1 hti
    have hli := clB_len hci
    refine a_seq ?_
    refine a_seq ?_
    refine a_region ?_
    refine rv (v := .int _ _) (v_move il nf) ?_
    refine rv (v := .rsl _ _ _ _ _) (v_move il nf) ?_
    refine rv (v := .int _ _) (v_len_rsl sl25 il) ?_
    refine rv (v := .bool _) (v_lss il il) ?_
    refine r_nil ?_
    refine a_cond rfl (fun ht36 => ?_) (fun ht36 => ?_)
    ·
      skip
      refine a_skip ?_
      refine a_seq ?_
      refine a_block ?_
      have hi : i < D.length := (by simp at ht36; omega)
      refine a_region ?_
      refine rv (v := .rsl _ _ _ _ _) (v_move il nf) ?_
      refine rv (v := .rsl _ _ _ _ _) (v_move il nf) ?_
      refine rv (v := .int _ _) (v_move il nf) ?_
      refine rv (v := .rp _ _) (v_indexAddr_rsl0 es25 il il (fun _ => by omega)) ?_
      refine rv (v := .int .i64 (gd D i)) (v_load_rp1 ta3 il rfl (fun _ => by rw [Nat.mul_one]; exact icells_get (gd_get hi)) rfl) ?_
      refine rn (v := .osl 1 (icells (putL (srt (D.take i)) (gd D i))) (putL (srt (D.take i)) (gd D i)).length none) (QSem.cast (q_call (vs := [.rsl _ _ _ _ _, .int _ _]) (args := [.sl _ _, .int .i64 _]) hb35 ⟨il, il, trivial⟩ (l2_eq (sl_sh (ic_pure _)) rfl) (fun hA => put_c (srt (D.take i)) _ (gd D i) ⟨rfl, by omega⟩ (clB_sm hci) (by omega)) (ic_noSh _) (ic_noRef _)) (osl_eq2 rfl (putL_length _ _).symm)) ?_
      refine rv (v := .rsl _ _ _ _ _) (v_assign il nf) ?_
      refine r_pre (ent_reloc_sl (t := 8) rfl rfl) ?_
      refine r_nil ?_
      refine a_region ?_
      refine rv (v := .int _ _) (v_move il nf) ?_
      refine rv (v := .int _ _) (v_add il il (fun _ => by omega)) ?_
      refine rv (v := .int _ _) (v_assign il nf) ?_
      refine r_nil ?_
      refine ⟨i + 1, ent_look ⟨Weak.of_eq rfl, Weak.of_eq rfl, Weak.of_eq rfl, Weak.of_eq rfl, Weak.osl (by rw [srt_take hi]) (by rw [srt_take hi, putL_length]), Weak.of_eq (int_eq (by omega)), trivial⟩, by omega, by omega⟩
    ·
      skip
      refine a_exit ?_
      refine a_seq ?_
      refine a_pre (ent_look (L := [(1, .sl _ _), (2, .op [.int _ _, .sl _ _]), (6, .osl _ _ _ _), (7, .osl _ _ _ _), (8, .osl _ _ _ _), (9, .int _ _)]) ⟨Weak.rfl, Weak.rfl, Weak.rfl, Weak.rfl, Weak.rfl, Weak.rfl, trivial⟩) ?_
      have hDt : D.take i = D := List.take_of_length_le (by simp at ht36; omega)
      refine a_pre (ent_eq (t := 8) (v' := .osl 1 (icells (srt D)) (srt D).length none) (Weak.osl (by rw [hDt]) (by rw [hDt]))) ?_
      refine a_region_runV (d1 := 11) (d2 := 12) (x1 := .osl 1 (icells (propR (L ++ M) (srt D)).1) (propR (L ++ M) (srt D)).1.length none) (b := (propR (L ++ M) (srt D)).2.2) [(2, .pp [.int .i64 vars, .sl (sls L) L.length] 0), (6, .sl (sls M) M.length), (8, .sl (icells (srt D)) (srt D).length)] (by decide) (by decide) ⟨⟨by decide, rfl⟩, ⟨by decide, sl_osls⟩, ⟨by decide, (sl_sh (ic_pure _))⟩, trivial⟩ (ic_noSh _) (ic_noRef _) ?_ ?_
      · skip
        refine rv (v := .agg [.int _ _, .sl _ _]) (v_load_ppa1 ta30 il rfl (fun _ => rfl) rfl) ?_
        refine rv (v := .sl _ _) (v_move il nf) ?_
        refine rn (v := .agg [.int _ _, .osl _ _ _ _]) (q_callF (vs := [.agg [.int _ _, .sl _ _], .sl _ _]) (args := [.agg [.int .i64 _, .sl _ _], .sl _ _]) hb37 ⟨il, il, trivial⟩ rfl (fun hA => with_c vars L M M.length rfl (by omega)) rfl (by simp [noRef, noRefL, sls_noRef])) ?_
        refine rv (v := .sl _ _) (v_move il nf) ?_
        refine rn (v := .tup [.osl _ _ _ _, .osl _ _ _ _, .bool _]) (q_call (vs := [.agg [.int _ _, .rsl _ _ _ _ _], .sl _ _]) (args := [.agg [.int .i64 _, .sl _ _], .sl _ _]) hb36 ⟨il, il, trivial⟩ (l2_eq (agg_eq (l2_eq rfl (sl_sh (sls_pure _)))) rfl) (fun hA => sProp_c vars (L ++ M) (srt D) hGc (by omega) (by omega) hsc) (by simp [noSh, noShL, ic_noSh, tc_noSh]) (by simp [noRef, noRefL, ic_noRef, tc_noRef])) ?_
        refine rv (v := .tup [.rsl _ _ _ _ _, .rsl _ _ _ _ _, .bool _]) (v_mv rfl) ?_
        refine rv (v := .rsl _ _ _ _ _) (v_extract rfl rfl) ?_
        refine rv (v := .rsl _ _ _ _ _) (v_extract rfl rfl) ?_
        refine rv (v := .bool _) (v_extract rfl rfl) ?_
        refine rv (v := .rsl _ _ _ _ _) (v_assign il nf) ?_
        refine r_pre (ent_reloc_sl (t := 10) rfl rfl) ?_
        refine rv (v := .rsl _ _ _ _ _) (v_assign il nf) ?_
        refine r_pre (ent_reloc_sl (t := 11) rfl rfl) ?_
        refine rv (v := .bool _) (v_assign il nf) ?_
        refine r_nil ?_
        exact ⟨rfl, rfl⟩
      refine a_seq ?_
      refine a_seq ?_
      refine a_region ?_
      refine rv (v := .bool _) (v_move il nf) ?_
      refine rv (v := .bool _) (v_not il) ?_
      refine r_nil ?_
      refine a_cond rfl (fun ht55 => ?_) (fun ht55 => ?_)
      ·
        skip
        refine a_seq ?_
        have hc : (propR (L ++ M) (srt D)).2.2 = false := (by simpa using ht55)
        have h0 := lbI_open hcs.1 hcs.2.2 ho hns hGG hc
        have hav := (ord_ok ho _ hpo.1).resolve_left h0
        refine a_region ?_
        refine rv (v := .int _ _) (v_assign il nf) ?_
        refine r_nil ?_
        refine a_seq ?_
        refine a_seq ?_
        refine a_region ?_
        refine rv (v := .sl _ _) (v_move il nf) ?_
        refine rv (v := .int _ _) (v_len_sl sl25 il) ?_
        refine rv (v := .int _ _) (v_sub il il (fun _ => by omega)) ?_
        refine rv (v := .int _ _) (v_assign il nf) ?_
        refine r_nil ?_
        refine a_block ?_
        refine a_loop (X := Nat) (fun k => look [(1, .sl (icells vs) vs.length), (2, .op [.int .i64 vars, .sl (sls L) L.length]), (6, .osl 1 (osls M) M.length none), (7, .osl 1 (icells D) D.length none), (11, .osl 1 (icells (propR (L ++ M) (srt D)).1) (propR (L ++ M) (srt D)).1.length none), (13, .int .i64 (fopen (vs.drop (vs.length - k)) (propR (L ++ M) (srt D)).1)), (14, .int .i64 ((vs.length : Int) - 1 - (k : Nat)))]) (fun k => k ≤ vs.length) (fun k => vs.length - k) 0 (ent_look ⟨Weak.of_eq rfl, Weak.of_eq rfl, Weak.of_eq rfl, Weak.of_eq rfl, Weak.of_eq rfl, Weak.of_eq (int_eq (by rw [Nat.sub_zero, List.drop_length]; rfl)), Weak.of_eq (int_eq (by omega)), trivial⟩) (Nat.zero_le _) (fun k hG => ?_)
        refine a_seq ?_
        refine a_seq ?_
        refine a_region ?_
        refine rv (v := .int _ _) (v_move il nf) ?_
        refine rv (v := .bool _) (v_geq il il) ?_
        refine r_nil ?_
        refine a_cond rfl (fun ht60 => ?_) (fun ht60 => ?_)
        ·
          skip
          refine a_skip ?_
          refine a_seq ?_
          refine a_block ?_
          refine a_seq ?_
          have hk1 : k < vs.length := (by simp at ht60; omega)
          have hkn : ((vs.length : Int) - 1 - (k : Nat)).toNat = (vs.length - (k + 1)) := (by omega)
          have hvi := hsv (vs.length - (k + 1))
          refine a_region ?_
          refine rv (v := .rsl _ _ _ _ _) (v_move il nf) ?_
          refine rv (v := .sl _ _) (v_move il nf) ?_
          refine rv (v := .int _ _) (v_move il nf) ?_
          refine rv (v := .pp _ _) (v_indexAddr_sl es25 il il (fun _ => ⟨by omega, by omega, icells_ne (show (vs.length - (k + 1)) < vs.length by omega)⟩)) ?_
          refine rv (v := .int .i64 (gd vs (vs.length - (k + 1)))) (v_load_pp ta3 il (fun _ => by rw [hkn, Nat.mul_one]; exact icells_get (gd_get (by omega))) rfl) ?_
          refine rn (v := .bool _) (q_call (vs := [.rsl _ _ _ _ _, .int _ _]) (args := [.sl _ _, .int .i64 _]) hb38 ⟨il, il, trivial⟩ (l2_eq (sl_sh (ic_pure _)) rfl) (fun hA => open9_c (propR (L ++ M) (srt D)).1 (gd vs (vs.length - (k + 1))) (by omega) (by omega)) rfl rfl) ?_
          refine r_nil ?_
          refine a_cond rfl (fun ht68 => ?_) (fun ht68 => ?_)
          ·
            skip
            refine a_region ?_
            refine rv (v := .sl _ _) (v_move il nf) ?_
            refine rv (v := .int _ _) (v_move il nf) ?_
            refine rv (v := .pp _ _) (v_indexAddr_sl es25 il il (fun _ => ⟨by omega, by omega, icells_ne (show (vs.length - (k + 1)) < vs.length by omega)⟩)) ?_
            refine rv (v := .int .i64 (gd vs (vs.length - (k + 1)))) (v_load_pp ta3 il (fun _ => by rw [hkn, Nat.mul_one]; exact icells_get (gd_get (by omega))) rfl) ?_
            refine rv (v := .int _ _) (v_assign il nf) ?_
            refine r_nil ?_
            refine a_region ?_
            refine rv (v := .int _ _) (v_move il nf) ?_
            refine rv (v := .int _ _) (v_sub il il (fun _ => by omega)) ?_
            refine rv (v := .int _ _) (v_assign il nf) ?_
            refine r_nil ?_
            refine ⟨k + 1, ent_look ⟨Weak.of_eq rfl, Weak.of_eq rfl, Weak.of_eq rfl, Weak.of_eq rfl, Weak.of_eq rfl, Weak.of_eq (int_eq (by rw [fopen_back hk1, if_pos ht68])), Weak.of_eq (int_eq (by omega)), trivial⟩, by omega, by omega⟩
          ·
            skip
            refine a_skip ?_
            refine a_region ?_
            refine rv (v := .int _ _) (v_move il nf) ?_
            refine rv (v := .int _ _) (v_sub il il (fun _ => by omega)) ?_
            refine rv (v := .int _ _) (v_assign il nf) ?_
            refine r_nil ?_
            refine ⟨k + 1, ent_look ⟨Weak.of_eq rfl, Weak.of_eq rfl, Weak.of_eq rfl, Weak.of_eq rfl, Weak.of_eq rfl, Weak.of_eq (int_eq (by rw [fopen_back hk1, if_neg (by rw [ht68]; simp)])), Weak.of_eq (int_eq (by omega)), trivial⟩, by omega, by omega⟩
        ·
          skip
          refine a_exit ?_
          refine a_seq ?_
          have hkk : vs.length - k = 0 := (by simp at ht60; omega)
          refine a_pre (ent_eq (t := 13) (v' := .int .i64 (fopen vs (propR (L ++ M) (srt D)).1)) (Weak.of_eq (int_eq (by rw [hkk, List.drop_zero])))) ?_
          refine a_region ?_
          refine rv (v := .rsl _ _ _ _ _) (v_move il nf) ?_
          refine rv (v := .int _ _) (v_move il nf) ?_
          refine rv (v := .int _ _) (v_neg il (fun _ => by omega)) ?_
          refine rn (v := .osl 1 (icells [-(fopen vs (propR (L ++ M) (srt D)).1)]) 1 (some 1)) (q_sliceLit (n := 1) (parts := [(0, .tmp 75)]) lt25 rfl rfl rfl rfl) ?_
          refine r_pre (ent_reloc_sl (t := 73) rfl rfl) ?_
          refine r_step rfl (o_append rfl ap25 rfl (by decide) (by decide) rfl (src_lit (.inl rfl) rfl rfl (ic_pureL _)) (ic_cell _) (by rw [icells_length]; omega) (by omega)) ?_
          refine rv (v := .rsl _ _ _ _ _) (v_assign il nf) ?_
          refine r_pre (ent_reloc_sl (t := 7) rfl rfl) ?_
          refine r_nil ?_
          refine a_exit ?_
          refine ⟨(n, M, D ++ [-(fopen vs (propR (L ++ M) (srt D)).1)]), ent_look ⟨Weak.of_eq rfl, Weak.of_eq rfl, Weak.of_eq rfl, Weak.osl (by rw [icells_append]) (by simp), trivial⟩, lbI_more hcs.1 hcs.2.2 ho hGG hc h0, by dsimp only; omega⟩
      ·
        skip
        refine a_skip ?_
        refine a_seq ?_
        refine a_seq ?_
        have hc : (propR (L ++ M) (srt D)).2.2 = true := (by simpa using ht55)
        refine a_region ?_
        refine rv (v := .rsl _ _ _ _ _) (v_move il nf) ?_
        refine rv (v := .int _ _) (v_len_rsl sl22 il) ?_
        refine rv (v := .bool _) (v_eql il il) ?_
        refine r_nil ?_
        refine a_cond rfl (fun ht80 => ?_) (fun ht80 => ?_)
        ·
          skip
          refine a_seq ?_
          have hRR := hR.trans (lbI_full hGG hc (by have h9 := of_decide_eq_true ht80; omega))
          refine a_region ?_
          refine rn (v := .osl _ _ _ _) (q_sliceLit (n := 0) (parts := []) lt22 rfl rfl rfl rfl) ?_
          refine rv (v := .rsl _ _ _ _ _) (v_assign il nf) ?_
          refine r_pre (ent_reloc_sl (t := 4) rfl rfl) ?_
          refine rv (v := .bool _) (v_assign il nf) ?_
          refine r_nil ?_
          refine a_ret ?_
          refine retL (rs := [.tmp 4, .tmp 5]) [(4, .osl _ _ _ none), (5, _)] ⟨Weak.osl rfl rfl, Weak.rfl, trivial⟩ rfl Tryz.results17 (by decide) ⟨by decide, by decide, rfl⟩ (by decide) (by decide) (l2_eq (osl_eq2 ?_ ?_) (bool_eq ?_)) (by simp [refsL, refs])
          all_goals (first | (rw [hRR]; done) | (rw [hRR]; rfl) | (rw [hRR]; simp [osls, rep]; done))
        ·
          skip
          refine a_skip ?_
          refine a_seq ?_
          have h60 : ¬ M.length = 60 := (by have h9 := of_decide_eq_false ht80; omega)
          refine a_region ?_
          refine rv (v := .rsl _ _ _ _ _) (v_move il nf) ?_
          refine rv (v := .rsl _ _ _ _ _) (v_move il nf) ?_
          refine rn (v := .osl 1 (icells (ngL (srt D))) (ngL (srt D)).length none) (q_call (vs := [.rsl _ _ _ _ _]) (args := [.sl _ _]) hb39 ⟨il, trivial⟩ (l1_eq (sl_sh (ic_pure _))) (fun hA => deny_c (srt D) hss (by omega)) (ic_noSh _) (ic_noRef _)) ?_
          refine r_step rfl (o_sliceLit1 (v := .osl _ _ _ _) rfl lt22 rfl rfl (by decide) (by decide) rfl rfl (by simp [cellsOf, noRefL, noRef, ic_noRef]) rfl rfl) ?_
          refine r_pre (ent_reloc_sl (t := 82) rfl rfl) ?_
          refine r_step rfl (o_append_own rfl ap22 rfl (by decide) (by decide) (by decide) (by decide) rfl rfl rfl (by rw [osls_length]; omega) rfl (by omega)) ?_
          refine r_pre (ent_eq (t := 86) (v' := .osl 1 (osls (M ++ [(ngL (srt D))])) (M ++ [(ngL (srt D))]).length none) (Weak.osl (by rw [osls_append]; rfl) (by simp))) ?_
          refine rv (v := .rsl _ _ _ _ _) (v_assign il nf) ?_
          refine r_pre (ent_reloc_sl (t := 6) rfl rfl) ?_
          refine r_nil ?_
          refine a_seq ?_
          refine a_seq ?_
          refine a_region ?_
          refine rv (v := .rsl _ _ _ _ _) (v_move il nf) ?_
          refine rv (v := .int _ _) (v_len_rsl sl25 il) ?_
          refine rv (v := .bool _) (v_eql il il) ?_
          refine r_nil ?_
          refine a_cond rfl (fun ht89 => ?_) (fun ht89 => ?_)
          ·
            skip
            refine a_seq ?_
            have hRR := hR.trans (lbI_done hGG hc h60 (by have h9 := of_decide_eq_true ht89; omega))
            refine a_region ?_
            refine rv (v := .rsl _ _ _ _ _) (v_move il nf) ?_
            refine rv (v := .rsl _ _ _ _ _) (v_assign il nf) ?_
            refine r_pre (ent_reloc_sl (t := 4) rfl rfl) ?_
            refine rv (v := .bool _) (v_assign il nf) ?_
            refine r_nil ?_
            refine a_ret ?_
            refine retL (rs := [.tmp 4, .tmp 5]) [(4, .osl _ _ _ none), (5, _)] ⟨Weak.osl rfl rfl, Weak.rfl, trivial⟩ rfl Tryz.results17 (by decide) ⟨by decide, by decide, rfl⟩ (by decide) (by decide) (l2_eq (osl_eq2 ?_ ?_) (bool_eq ?_)) (by simp [refsL, refs])
            all_goals (first | (rw [hRR]; done) | (rw [hRR]; rfl) | (rw [hRR]; simp [osls, rep]; done))
          ·
            skip
            refine a_skip ?_
            refine a_region ?_
            refine rv (v := .rsl _ _ _ _ _) (v_move il nf) ?_
            refine rv (v := .rsl _ _ _ _ _) (v_move il nf) ?_
            refine rv (v := .int _ _) (v_len_rsl sl25 il) ?_
            refine rv (v := .int .i64 ((D.length - 1 : Nat) : Int)) ((v_sub il il (fun _ => by omega)).cast (int_eq (by have h9 := of_decide_eq_false ht89; omega))) ?_
            refine rv (v := .rsl (7, []) 1 0 (D.length - 1) none) ((v_slice_rsl (l := 0) (h := D.length - 1) es25 il (.inl ⟨rfl, rfl⟩) (.inr ⟨_, _, rfl, il⟩) (fun _ => by omega)).cast (rfl)) ?_
            refine r_pre (ent_reloc_sl (t := 95) rfl rfl) ?_
            refine rv (v := .rsl _ _ _ _ _) (v_assign il nf) ?_
            refine r_pre (ent_reloc_sl (t := 7) rfl rfl) ?_
            refine r_nil ?_
            refine ⟨(n, M ++ [(ngL (srt D))], D.take (D.length - 1)), ent_look ⟨Weak.of_eq rfl, Weak.of_eq rfl, Weak.of_eq rfl, (Weak.osl_take (ds := icells (D.drop (D.length - 1))) (by rw [← icells_append, List.take_append_drop]) (by rw [List.length_take]; omega)), trivial⟩, lbI_learn hcs.1 hGG hc h60 (by have h9 := of_decide_eq_false ht89; omega), by dsimp only; omega⟩
end Go.Av
namespace Go.Av
open Go Go.Proofs Go.Sort
set_option maxRecDepth 10000
theorem hb17 : hasBody Tryz.prog 17 = true := by kernel_rfl
theorem hb18 : hasBody Tryz.prog 18 = true := by kernel_rfl
theorem hb21 : hasBody Tryz.prog 21 = true := by kernel_rfl
theorem lawLearnByOrder_c (vars : Int) (L : List (List Int)) (vs : List Int) (hl9 : (vs.length : Int) ≤ 9223372036854775807) (hv : -9223372036854775808 ≤ vars ∧ vars ≤ 9223372036854775807) (hlen : ∀ i, ((gl L i).length : Int) ≤ 9223372036854775807) (hL : (L.length : Int) ≤ 9223372036854775807) (hbb : ∀ i j, -9223372036854775808 ≤ gd (gl L i) j ∧ gd (gl L i) j ≤ 9223372036854775807) (hb : ∀ j, -9223372036854775808 ≤ gd vs j ∧ gd vs j ≤ 9223372036854775807) : ACall Tryz.prog 4 [.agg [.int .i64 vars, .sl (sls L) L.length], .sl (icells vs) vs.length] [] (.bool true) [] := by
 have hrL := lbR_len vars L vs
 have hrl := lbR_rows vars L vs
 have hrt := lbR_tot vars L vs
 refine ACall.intro Tryz.func4 rfl (N := 117) rfl (by decide) (by simp) ?_
 refine a_seq ?_
 refine a_region ?_
 refine rn (v := .op [.int _ _, .sl _ _]) (q_box il rfl rfl) ?_
 refine rv (v := .bool _) (v_assign il nf) ?_
 refine r_nil ?_
 refine a_seq ?_
 refine a_seq ?_
 refine a_region ?_
 refine rv (v := .sl _ _) (v_move il nf) ?_
 refine rv (v := .int _ _) (v_len_sl sl25 il) ?_
 refine rv (v := .bool _) (v_gtr il il) ?_
 refine r_nil ?_
 refine a_cond rfl (fun ht19 => ?_) (fun ht19 => ?_)
 ·
  skip
  refine a_seq ?_
  refine a_region ?_
  refine rv (v := .bool _) (v_assign il nf) ?_
  refine r_nil ?_
  refine a_ret ?_
  refine ret1 Tryz.results4 (by decide) (by decide) (Weak.of_eq (bool_eq ?_)) rfl Leaves.nil
  first | rfl | (exfalso; simp at ht19; done) | (exfalso; simp at ht19; omega)
 ·
  skip
  refine a_skip ?_
  refine a_seq ?_
  have hle : (vs.length : Int) ≤ 1048576 := (by simpa using ht19)
  refine a_region ?_
  refine rv (v := .int _ _) (v_assign il nf) ?_
  refine r_nil ?_
  refine a_seq ?_
  refine a_region ?_
  refine rv (v := .agg [.int _ _, .sl _ _]) (v_load_rpa1 ta24 il rfl rfl (fun _ => rfl) rfl) ?_
  refine rv (v := .int _ _) (v_move il nf) ?_
  refine rn (v := .int _ _) (q_call (vs := [.agg [.int _ _, .sl _ _], .int _ _]) (args := [.agg [.int .i64 _, .sl _ _], .int .i64 _]) hb5 ⟨il, il, trivial⟩ rfl (fun hA => szCnf_c _ _ _ (by omega) hlen hL) rfl rfl) ?_
  refine rv (v := .int _ _) (v_assign il nf) ?_
  refine r_nil ?_
  refine a_seq ?_
  refine a_seq ?_
  refine a_region ?_
  refine rv (v := .int _ _) (v_move il nf) ?_
  refine rv (v := .bool _) (v_lss il il) ?_
  refine r_nil ?_
  refine a_cond rfl (fun ht24 => ?_) (fun ht24 => ?_)
  ·
   skip
   refine a_seq ?_
   refine a_region ?_
   refine rv (v := .bool _) (v_assign il nf) ?_
   refine r_nil ?_
   refine a_ret ?_
   refine ret1 Tryz.results4 (by decide) (by decide) (Weak.of_eq (bool_eq ?_)) rfl Leaves.nil
   first | rfl | (exfalso; simp at ht24; done) | (exfalso; simp at ht24; omega)
  ·
   skip
   refine a_skip ?_
   refine a_seq ?_
   have hsz : L.length + tot L L.length ≤ 1048576 := (by have h9 := of_decide_eq_false ht24; unfold szR at h9; split at h9 <;> omega)
   have hk : CnfOk vars L := ⟨hv, by omega, by omega, hbb⟩
   have hll := fun i => len_tot (L := L) (i := i)
   refine a_region ?_
   refine rv (v := .agg [.int _ _, .sl _ _]) (v_load_rpa1 ta24 il rfl rfl (fun _ => rfl) rfl) ?_
   refine rn (v := .agg [.int _ _, .osl _ _ _ _]) (q_call (vs := [.agg [.int _ _, .sl _ _]]) (args := [.agg [.int .i64 _, .sl _ _]]) hb7 ⟨il, trivial⟩ rfl (fun hA => toCnf_c _ _ (by omega) (by omega)) (by simp [noSh, noShL, osls_noSh]) (by simp [noRef, noRefL, osls_noRef])) ?_
   refine rv (v := .sl _ _) (v_move il nf) ?_
   refine rn (v := .osl _ _ _ _) (q_call (vs := [.sl _ _]) (args := [.sl _ _]) hb8 ⟨il, trivial⟩ rfl (fun hA => toIntS_c _ (by omega)) (ic_noSh _) (ic_noRef _)) ?_
   refine rn (v := .tup [.osl _ _ _ _, .bool _]) (q_call (vs := [.agg [.int _ _, .rsl _ _ _ _ _], .rsl _ _ _ _ _]) (args := [.agg [.int .i64 _, .sl _ _], .sl _ _]) hb17 ⟨il, il, trivial⟩ (l2_eq (agg_eq (l2_eq rfl sl_osls)) (sl_sh (ic_pure _))) (fun hA => sLbo_c vars L vs hk (by omega)) (by simp [noSh, noShL, osls_noSh]) (by simp [noRef, noRefL, osls_noRef])) ?_
   refine rv (v := .tup [.rsl _ _ _ _ _, .bool _]) (v_mv rfl) ?_
   refine rv (v := .rsl _ _ _ _ _) (v_extract rfl rfl) ?_
   refine rv (v := .bool _) (v_extract rfl rfl) ?_
   refine rv (v := .rsl _ _ _ _ _) (v_assign il nf) ?_
   refine r_pre (ent_reloc_sl (t := 6) rfl rfl) ?_
   refine rv (v := .bool _) (v_assign il nf) ?_
   refine r_nil ?_
   refine a_seq ?_
   refine a_pre (ent_look (L := [(1, .sl _ _), (2, .op [.int _ _, .sl _ _]), (4, .bool _), (6, .osl _ _ _ _), (7, .bool _)]) ⟨Weak.rfl, Weak.rfl, Weak.rfl, Weak.rfl, Weak.rfl, trivial⟩) ?_
   refine a_region ?_
   refine rv (v := .agg [.int _ _, .sl _ _]) (v_load_rpa1 ta24 il rfl rfl (fun _ => rfl) rfl) ?_
   refine rn (v := .agg [.int _ _, .osl _ _ _ _]) (q_call (vs := [.agg [.int _ _, .sl _ _]]) (args := [.agg [.int .i64 _, .sl _ _]]) hb7 ⟨il, trivial⟩ rfl (fun hA => toCnf_c _ _ (by omega) (by omega)) (by simp [noSh, noShL, osls_noSh]) (by simp [noRef, noRefL, osls_noRef])) ?_
   refine rn (v := .op [.int _ _, .nils]) (q_alloc zc30) ?_
   refine r_step rfl (o_store_own (v := .agg [.int _ _, .osl _ _ _ _]) (y' := .op [.int _ _, .osl _ _ _ _]) rfl rfl ta30 (.inl rfl) (by decide) rfl (by decide) rfl (by simp [cellsOf, noRefL, noRef, osls_noRef]) rfl rfl rfl rfl rfl (Nat.le_of_ble_eq_true rfl) rfl rfl) ?_
   refine r_nil ?_
   refine a_seq ?_
   refine a_region ?_
   refine rv (v := .sl _ _) (v_move il nf) ?_
   refine rn (v := .osl _ _ _ _) (q_call (vs := [.sl _ _]) (args := [.sl _ _]) hb8 ⟨il, trivial⟩ rfl (fun hA => toIntS_c _ (by omega)) (ic_noSh _) (ic_noRef _)) ?_
   refine rv (v := .rsl _ _ _ _ _) (v_assign il nf) ?_
   refine r_pre (ent_reloc_sl (t := 9) rfl rfl) ?_
   refine r_nil ?_
   refine a_seq ?_
   refine a_region ?_
   refine rv (v := .agg [.int _ _, .rsl _ _ _ _ _]) (v_load_rpa (xs := [.int _ _, .osl _ _ _ _]) ta30 il rfl rfl (fun _ => take_get rfl)) ?_
   refine rv (v := .rsl _ _ _ _ _) (v_move il nf) ?_
   refine rn (v := .tup [.osl _ _ _ _, .bool _]) (q_call (vs := [.agg [.int _ _, .rsl _ _ _ _ _], .rsl _ _ _ _ _]) (args := [.agg [.int .i64 _, .sl _ _], .sl _ _]) hb18 ⟨il, il, trivial⟩ (l2_eq (agg_eq (l2_eq rfl sl_osls)) (sl_sh (ic_pure _))) (fun hA => iLbo_c vars L vs hk (by omega)) (by simp [noSh, noShL, osls_noSh]) (by simp [noRef, noRefL, osls_noRef])) ?_
   refine rv (v := .tup [.rsl _ _ _ _ _, .bool _]) (v_mv rfl) ?_
   refine rv (v := .rsl _ _ _ _ _) (v_extract rfl rfl) ?_
   refine rv (v := .bool _) (v_extract rfl rfl) ?_
   refine rv (v := .rsl _ _ _ _ _) (v_assign il nf) ?_
   refine r_pre (ent_reloc_sl (t := 10) rfl rfl) ?_
   refine rv (v := .bool _) (v_assign il nf) ?_
   refine r_nil ?_
   refine a_seq ?_
   refine a_seq ?_
   refine a_pre (ent_look (L := [(1, .sl _ _), (2, .op [.int _ _, .sl _ _]), (4, .bool _), (6, .osl _ _ _ _), (7, .bool _), (8, .op [.int _ _, .osl _ _ _ _]), (9, .osl _ _ _ _), (10, .osl _ _ _ _), (11, .bool _)]) ⟨Weak.rfl, Weak.rfl, Weak.rfl, Weak.rfl, Weak.rfl, Weak.rfl, Weak.rfl, Weak.rfl, Weak.rfl, trivial⟩) ?_
   refine a_region ?_
   refine rv (v := .rsl _ _ _ _ _) (v_move il nf) ?_
   refine rv (v := .rsl _ _ _ _ _) (v_move il nf) ?_
   refine rn (v := .bool _) (q_call (vs := [.rsl _ _ _ _ _, .rsl _ _ _ _ _]) (args := [.sl _ _, .sl _ _]) hb19 ⟨il, il, trivial⟩ (l2_eq sl_osls sl_osls) (fun hA => eqIntSS_c _ _ (by omega) (by omega) (fun i => by have := hrl i; omega)) rfl rfl) ?_
   refine rv (v := .bool _) (v_not il) ?_
   refine rv (v := .bool _) (v_move il nf) ?_
   refine r_gval (v := .bool _) (v_move il nf) rfl rfl rfl (by decide) (.inl ⟨_, rfl, rfl⟩) rfl (by decide) ?_
   refine r_gval (v := .bool _) (v_move il nf) rfl rfl rfl (by decide) (.inl ⟨_, rfl, rfl⟩) rfl (by decide) ?_
   refine r_gval (v := .bool _) (v_bne un4 (.inr ⟨_, rfl, fun h => h⟩) (.inr ⟨_, rfl, fun h => h⟩)) rfl rfl rfl (by decide) (.inl ⟨_, rfl, rfl⟩) rfl (by decide) ?_
   refine rv (v := .bool _) (v_pick (.inl rfl) (.inl rfl) (.inr ⟨_, rfl, fun h h2 => by simp_all⟩)) ?_
   refine r_nil ?_
   refine a_cond rfl (fun ht51 => ?_) (fun ht51 => ?_)
   ·
    skip
    refine a_seq ?_
    refine a_pre (ent_look (L := [(1, .sl _ _), (2, .op [.int _ _, .sl _ _]), (4, .bool _), (6, .osl _ _ _ _), (7, .bool _), (8, .op [.int _ _, .osl _ _ _ _]), (9, .osl _ _ _ _), (10, .osl _ _ _ _), (11, .bool _)]) ⟨Weak.rfl, Weak.rfl, Weak.rfl, Weak.rfl, Weak.rfl, Weak.rfl, Weak.rfl, Weak.rfl, Weak.rfl, trivial⟩) ?_
    refine a_region ?_
    refine rv (v := .bool _) (v_assign il nf) ?_
    refine r_nil ?_
    refine a_ret ?_
    refine ret1 Tryz.results4 (by decide) (by decide) (Weak.of_eq (bool_eq ?_)) rfl Leaves.nil
    first | rfl | (exfalso; simp at ht51; done) | (exfalso; simp at ht51; omega)
   ·
    skip
    refine a_skip ?_
    refine a_seq ?_
    refine a_seq ?_
    refine a_pre (ent_look (L := [(1, .sl _ _), (2, .op [.int _ _, .sl _ _]), (4, .bool _), (6, .osl _ _ _ _), (7, .bool _), (8, .op [.int _ _, .osl _ _ _ _]), (9, .osl _ _ _ _), (10, .osl _ _ _ _), (11, .bool _)]) ⟨Weak.rfl, Weak.rfl, Weak.rfl, Weak.rfl, Weak.rfl, Weak.rfl, Weak.rfl, Weak.rfl, Weak.rfl, trivial⟩) ?_
    refine a_region_any mixed (by kernel_rfl) ?_
    refine yv (v := .agg [.int _ _, .rsl _ _ _ _ _]) (v_load_rpa (xs := [.int _ _, .osl _ _ _ _]) ta30 il rfl rfl (fun _ => take_get rfl)) ?_
    refine yv (v := .agg [.int _ _, .sl _ _]) (v_load_rpa1 ta24 il rfl rfl (fun _ => rfl) rfl) ?_
    refine y_new (v := .agg [.int _ _, .osl _ _ _ _]) (q_call (vs := [.agg [.int _ _, .sl _ _]]) (args := [.agg [.int .i64 _, .sl _ _]]) hb7 ⟨.inl rfl, trivial⟩ rfl (fun hA => toCnf_c _ _ (by omega) (by omega)) (by simp [noSh, noShL, osls_noSh]) (by simp [noRef, noRefL, osls_noRef])) rfl rfl (by decide) (by kernel_rfl) ?_
    refine y_new (v := .bool _) (q_call (vs := [.agg [.int _ _, .rsl _ _ _ _ _], .agg [.int _ _, .rsl _ _ _ _ _]]) (args := [.agg [.int .i64 _, .sl _ _], .agg [.int .i64 _, .sl _ _]]) hb11 ⟨.inl rfl, .inl rfl, trivial⟩ (l2_eq (agg_eq (l2_eq rfl sl_osls)) (agg_eq (l2_eq rfl sl_osls))) (fun hA => eqCnf_c _ _ _ _ (by omega) (by omega) (fun i => by first | (have := hrl i; omega) | (have := hll i; omega))) rfl rfl) rfl rfl (by decide) (by kernel_rfl) ?_
    refine yv (v := .bool _) (v_not il) ?_
    refine y_nil ?_
    refine a_cond rfl (fun ht56 => ?_) (fun ht56 => ?_)
    ·
     skip
     refine a_seq ?_
     refine a_pre (ent_look (L := [(1, .sl _ _), (2, .op [.int _ _, .sl _ _]), (4, .bool _), (6, .osl _ _ _ _), (7, .bool _), (8, .op [.int _ _, .osl _ _ _ _]), (9, .osl _ _ _ _), (10, .osl _ _ _ _), (11, .bool _)]) ⟨Weak.rfl, Weak.rfl, Weak.rfl, Weak.rfl, Weak.rfl, Weak.rfl, Weak.rfl, Weak.rfl, Weak.rfl, trivial⟩) ?_
     refine a_region ?_
     refine rv (v := .bool _) (v_assign il nf) ?_
     refine r_nil ?_
     refine a_ret ?_
     refine ret1 Tryz.results4 (by decide) (by decide) (Weak.of_eq (bool_eq ?_)) rfl Leaves.nil
     first | rfl | (exfalso; simp at ht56; done) | (exfalso; simp at ht56; omega)
    ·
     skip
     refine a_skip ?_
     refine a_seq ?_
     refine a_seq ?_
     refine a_pre (ent_look (L := [(1, .sl _ _), (2, .op [.int _ _, .sl _ _]), (4, .bool _), (6, .osl _ _ _ _), (7, .bool _), (8, .op [.int _ _, .osl _ _ _ _]), (9, .osl _ _ _ _), (10, .osl _ _ _ _), (11, .bool _)]) ⟨Weak.rfl, Weak.rfl, Weak.rfl, Weak.rfl, Weak.rfl, Weak.rfl, Weak.rfl, Weak.rfl, Weak.rfl, trivial⟩) ?_
     refine a_region ?_
     refine rv (v := .rsl _ _ _ _ _) (v_move il nf) ?_
     refine rv (v := .sl _ _) (v_move il nf) ?_
     refine rn (v := .osl _ _ _ _) (q_call (vs := [.sl _ _]) (args := [.sl _ _]) hb8 ⟨il, trivial⟩ rfl (fun hA => toIntS_c _ (by omega)) (ic_noSh _) (ic_noRef _)) ?_
     refine rn (v := .bool _) (q_call (vs := [.rsl _ _ _ _ _, .rsl _ _ _ _ _]) (args := [.sl _ _, .sl _ _]) hb12 ⟨il, il, trivial⟩ (l2_eq (sl_sh (ic_pure _)) (sl_sh (ic_pure _))) (fun hA => eqIntS_c _ _ (by omega)) rfl rfl) ?_
     refine rv (v := .bool _) (v_not il) ?_
     refine r_nil ?_
     refine a_cond rfl (fun ht61 => ?_) (fun ht61 => ?_)
     ·
      skip
      refine a_seq ?_
      refine a_pre (ent_look (L := [(1, .sl _ _), (2, .op [.int _ _, .sl _ _]), (4, .bool _), (6, .osl _ _ _ _), (7, .bool _), (8, .op [.int _ _, .osl _ _ _ _]), (9, .osl _ _ _ _), (10, .osl _ _ _ _), (11, .bool _)]) ⟨Weak.rfl, Weak.rfl, Weak.rfl, Weak.rfl, Weak.rfl, Weak.rfl, Weak.rfl, Weak.rfl, Weak.rfl, trivial⟩) ?_
      refine a_region ?_
      refine rv (v := .bool _) (v_assign il nf) ?_
      refine r_nil ?_
      refine a_ret ?_
      refine ret1 Tryz.results4 (by decide) (by decide) (Weak.of_eq (bool_eq ?_)) rfl Leaves.nil
      first | rfl | (exfalso; simp at ht61; done) | (exfalso; simp at ht61; omega)
     ·
      skip
      refine a_skip ?_
      refine a_seq ?_
      refine a_pre (ent_look (L := [(1, .sl _ _), (2, .op [.int _ _, .sl _ _]), (4, .bool _), (6, .osl _ _ _ _), (7, .bool _), (8, .op [.int _ _, .osl _ _ _ _]), (9, .osl _ _ _ _), (10, .osl _ _ _ _), (11, .bool _)]) ⟨Weak.rfl, Weak.rfl, Weak.rfl, Weak.rfl, Weak.rfl, Weak.rfl, Weak.rfl, Weak.rfl, Weak.rfl, trivial⟩) ?_
      refine a_region ?_
      refine rv (v := .int _ _) (v_assign il nf) ?_
      refine r_nil ?_
      refine a_seq ?_
      refine a_region ?_
      refine rv (v := .agg [.int _ _, .rsl _ _ _ _ _]) (v_load_rpa (xs := [.int _ _, .osl _ _ _ _]) ta30 il rfl rfl (fun _ => take_get rfl)) ?_
      refine rv (v := .int _ _) (v_move il nf) ?_
      refine r_step rfl (o_callIO (q := (8, [1])) (vs := [.agg [.int _ _, .rsl _ _ _ _ _], .int _ _]) (args := [.agg [.int .i64 _, .rsl (INH, []) _ _ _ _], .int .i64 _]) (x0 := .osl _ _ _ _) (x1 := .osl _ _ _ _) (res := .int _ _) rfl hb13 rfl (by decide) ⟨.inl rfl, .inl rfl, trivial⟩ rfl rfl (markCnf_c _ _ _ (by omega) (by omega) (by omega)) rfl rfl rfl (osls_noSh _) (osls_noRef _) (Nat.le_of_ble_eq_true rfl) (by decide) rfl) ?_
      refine rv (v := .int _ _) (v_assign il nf) ?_
      refine r_nil ?_
      refine a_seq ?_
      refine a_pre (ent_look (L := [(1, .sl _ _), (2, .op [.int _ _, .sl _ _]), (4, .bool _), (6, .osl _ _ _ _), (7, .bool _), (9, .osl _ _ _ _), (10, .osl _ _ _ _), (11, .bool _), (12, .int _ _)]) ⟨Weak.rfl, Weak.rfl, Weak.rfl, Weak.rfl, Weak.rfl, Weak.rfl, Weak.rfl, Weak.rfl, Weak.rfl, trivial⟩) ?_
      refine a_region ?_
      refine rv (v := .rsl _ _ _ _ _) (v_move il nf) ?_
      refine rv (v := .int _ _) (v_move il nf) ?_
      refine r_step rfl (o_callIO (q := (9, [])) (vs := [.rsl _ _ _ _ _, .int _ _]) (args := [.rsl (INH, []) _ _ _ _, .int .i64 _]) (x0 := .osl _ _ _ _) (x1 := .osl _ _ _ _) (res := .int _ _) rfl hb14 rfl (by decide) ⟨.inl rfl, .inl rfl, trivial⟩ rfl rfl (markIntS_c _ _ (by omega)) rfl rfl rfl (ic_noSh _) (ic_noRef _) (Nat.le_of_ble_eq_true rfl) (by decide) rfl) ?_
      refine rv (v := .int _ _) (v_assign il nf) ?_
      refine r_nil ?_
      refine a_seq ?_
      refine a_seq ?_
      refine a_region ?_
      refine rv (v := .int _ _) (v_move il nf) ?_
      refine rv (v := .bool _) (v_lss il il) ?_
      refine rv (v := .bool _) (v_move il nf) ?_
      refine r_gval (v := .rsl _ _ _ _ _) (v_move il nf) rfl rfl rfl (by decide) (.inl ⟨_, rfl, rfl⟩) rfl (by decide) ?_
      refine r_gval (v := .rsl _ _ _ _ _) (v_move il nf) rfl rfl rfl (by decide) (.inl ⟨_, rfl, rfl⟩) rfl (by decide) ?_
      refine r_guard (v := .bool _) (q_call (vs := [.rsl _ _ _ _ _, .rsl _ _ _ _ _]) (args := [.sl _ _, .sl _ _]) hb19 ⟨.inr ⟨_, rfl, fun h => h⟩, .inr ⟨_, rfl, fun h => h⟩, trivial⟩ (l2_eq sl_osls sl_osls) (fun hA => eqIntSS_c _ _ (by omega) (by omega) (fun i => by have := hrl i; omega)) rfl rfl) rfl rfl rfl (by decide) (.inl ⟨_, rfl, rfl⟩) rfl (by decide) ?_
      refine r_gval (v := .bool _) (v_not (.inr ⟨_, rfl, fun h => h⟩)) rfl rfl rfl (by decide) (.inl ⟨_, rfl, rfl⟩) rfl (by decide) ?_
      refine rv (v := .bool _) (v_pick (.inl rfl) (.inl rfl) (.inr ⟨_, rfl, fun h h2 => by simp_all⟩)) ?_
      refine rv (v := .bool _) (v_move il nf) ?_
      refine r_gval (v := .bool _) (v_move il nf) rfl rfl rfl (by decide) (.inl ⟨_, rfl, rfl⟩) rfl (by decide) ?_
      refine r_gval (v := .bool _) (v_move il nf) rfl rfl rfl (by decide) (.inl ⟨_, rfl, rfl⟩) rfl (by decide) ?_
      refine r_gval (v := .bool _) (v_bne un4 (.inr ⟨_, rfl, fun h => h⟩) (.inr ⟨_, rfl, fun h => h⟩)) rfl rfl rfl (by decide) (.inl ⟨_, rfl, rfl⟩) rfl (by decide) ?_
      refine rv (v := .bool _) (v_pick (.inl rfl) (.inl rfl) (.inr ⟨_, rfl, fun h h2 => by simp_all⟩)) ?_
      refine r_nil ?_
      refine a_cond rfl (fun ht80 => ?_) (fun ht80 => ?_)
      ·
       skip
       refine a_seq ?_
       refine a_pre (ent_look (L := [(1, .sl _ _), (2, .op [.int _ _, .sl _ _]), (4, .bool _), (6, .osl _ _ _ _), (7, .bool _), (10, .osl _ _ _ _)]) ⟨Weak.rfl, Weak.rfl, Weak.rfl, Weak.rfl, Weak.rfl, Weak.rfl, trivial⟩) ?_
       refine a_region ?_
       refine rv (v := .bool _) (v_assign il nf) ?_
       refine r_nil ?_
       refine a_ret ?_
       refine ret1 Tryz.results4 (by decide) (by decide) (Weak.of_eq (bool_eq ?_)) rfl Leaves.nil
       first | rfl | (exfalso; simp at ht80; done) | (exfalso; simp at ht80; omega)
      ·
       skip
       refine a_skip ?_
       refine a_seq ?_
       refine a_pre (ent_look (L := [(1, .sl _ _), (2, .op [.int _ _, .sl _ _]), (4, .bool _), (6, .osl _ _ _ _), (7, .bool _), (10, .osl _ _ _ _)]) ⟨Weak.rfl, Weak.rfl, Weak.rfl, Weak.rfl, Weak.rfl, Weak.rfl, trivial⟩) ?_
       refine a_region ?_
       refine rv (v := .int _ _) (v_assign il nf) ?_
       refine r_nil ?_
       refine a_seq ?_
       refine a_region ?_
       refine rv (v := .rsl _ _ _ _ _) (v_move il nf) ?_
       refine rv (v := .int _ _) (v_move il nf) ?_
       refine r_step rfl (o_callIO (q := (10, [])) (vs := [.rsl _ _ _ _ _, .int _ _]) (args := [.rsl (INH, []) _ _ _ _, .int .i64 _]) (x0 := .osl _ _ _ _) (x1 := .osl _ _ _ _) (res := .int _ _) rfl hb20 rfl (by decide) ⟨.inl rfl, .inl rfl, trivial⟩ rfl rfl (markIntSS_c (lbR vars L vs).1 _ (by omega) (by omega) (by omega)) rfl rfl rfl (osls_noSh _) (osls_noRef _) (Nat.le_of_ble_eq_true rfl) (by decide) rfl) ?_
       refine rv (v := .int _ _) (v_assign il nf) ?_
       refine r_nil ?_
       refine a_seq ?_
       refine a_region ?_
       refine rv (v := .int _ _) (v_assign il nf) ?_
       refine r_nil ?_
       refine a_seq ?_
       refine a_region ?_
       refine rv (v := .rsl _ _ _ _ _) (v_move il nf) ?_
       refine rv (v := .int _ _) (v_move il nf) ?_
       refine rn (v := .int _ _) (q_call (vs := [.rsl _ _ _ _ _, .int _ _]) (args := [.sl _ _, .int .i64 _]) hb21 ⟨il, il, trivial⟩ (l2_eq sl_osls rfl) (fun hA => heldIntSS_c (lbR vars L vs).1 _ (by omega) (by omega) (by omega)) rfl rfl) ?_
       refine rv (v := .int _ _) (v_assign il nf) ?_
       refine r_nil ?_
       refine a_seq ?_
       refine a_seq ?_
       refine a_pre (ent_look (L := [(1, .sl _ _), (2, .op [.int _ _, .sl _ _]), (4, .bool _), (6, .osl _ _ _ _), (7, .bool _), (10, .osl _ _ _ _), (13, .int _ _), (14, .int _ _)]) ⟨Weak.rfl, Weak.rfl, Weak.rfl, Weak.rfl, Weak.rfl, Weak.rfl, Weak.rfl, Weak.rfl, trivial⟩) ?_
       refine a_region ?_
       refine rv (v := .int _ _) (v_move il nf) ?_
       refine rv (v := .bool _) (v_lss il il) ?_
       refine r_nil ?_
       refine a_cond rfl (fun ht88 => ?_) (fun ht88 => ?_)
       ·
        skip
        refine a_seq ?_
        refine a_region ?_
        refine rv (v := .bool _) (v_assign il nf) ?_
        refine r_nil ?_
        refine a_ret ?_
        refine ret1 Tryz.results4 (by decide) (by decide) (Weak.of_eq (bool_eq ?_)) rfl Leaves.nil
        first | rfl | (exfalso; simp at ht88; done) | (exfalso; simp at ht88; omega)
       ·
        skip
        refine a_skip ?_
        refine a_seq ?_
        refine a_seq ?_
        refine a_region ?_
        refine rv (v := .int _ _) (v_move il nf) ?_
        refine rv (v := .int _ _) (v_move il nf) ?_
        refine rv (v := .bool _) (v_neq il il) ?_
        refine r_nil ?_
        refine a_cond rfl (fun ht91 => ?_) (fun ht91 => ?_)
        ·
         skip
         refine a_seq ?_
         refine a_region ?_
         refine rv (v := .bool _) (v_assign il nf) ?_
         refine r_nil ?_
         refine a_ret ?_
         refine ret1 Tryz.results4 (by decide) (by decide) (Weak.of_eq (bool_eq ?_)) rfl Leaves.nil
         first | rfl | (exfalso; simp at ht91; done) | (exfalso; simp at ht91; omega)
        ·
         skip
         refine a_skip ?_
         refine a_seq ?_
         refine a_region ?_
         refine rv (v := .agg [.int _ _, .sl _ _]) (v_load_rpa1 ta24 il rfl rfl (fun _ => rfl) rfl) ?_
         refine rn (v := .agg [.int _ _, .osl _ _ _ _]) (q_call (vs := [.agg [.int _ _, .sl _ _]]) (args := [.agg [.int .i64 _, .sl _ _]]) hb7 ⟨il, trivial⟩ rfl (fun hA => toCnf_c _ _ (by omega) (by omega)) (by simp [noSh, noShL, osls_noSh]) (by simp [noRef, noRefL, osls_noRef])) ?_
         refine rv (v := .sl _ _) (v_move il nf) ?_
         refine rn (v := .osl _ _ _ _) (q_call (vs := [.sl _ _]) (args := [.sl _ _]) hb8 ⟨il, trivial⟩ rfl (fun hA => toIntS_c _ (by omega)) (ic_noSh _) (ic_noRef _)) ?_
         refine rn (v := .tup [.osl _ _ _ _, .bool _]) (q_call (vs := [.agg [.int _ _, .rsl _ _ _ _ _], .rsl _ _ _ _ _]) (args := [.agg [.int .i64 _, .sl _ _], .sl _ _]) hb18 ⟨il, il, trivial⟩ (l2_eq (agg_eq (l2_eq rfl sl_osls)) (sl_sh (ic_pure _))) (fun hA => iLbo_c vars L vs hk (by omega)) (by simp [noSh, noShL, osls_noSh]) (by simp [noRef, noRefL, osls_noRef])) ?_
         refine rv (v := .tup [.rsl _ _ _ _ _, .bool _]) (v_mv rfl) ?_
         refine rv (v := .rsl _ _ _ _ _) (v_extract rfl rfl) ?_
         refine rv (v := .bool _) (v_extract rfl rfl) ?_
         refine rv (v := .rsl _ _ _ _ _) (v_assign il nf) ?_
         refine r_pre (ent_reloc_sl (t := 15) rfl rfl) ?_
         refine rv (v := .bool _) (v_assign il nf) ?_
         refine r_nil ?_
         refine a_seq ?_
         refine a_seq ?_
         refine a_pre (ent_look (L := [(4, .bool _), (6, .osl _ _ _ _), (7, .bool _), (10, .osl _ _ _ _), (13, .int _ _), (14, .int _ _), (15, .osl _ _ _ _), (16, .bool _)]) ⟨Weak.rfl, Weak.rfl, Weak.rfl, Weak.rfl, Weak.rfl, Weak.rfl, Weak.rfl, Weak.rfl, trivial⟩) ?_
         refine a_region ?_
         refine rv (v := .rsl _ _ _ _ _) (v_move il nf) ?_
         refine rv (v := .rsl _ _ _ _ _) (v_move il nf) ?_
         refine rn (v := .bool _) (q_call (vs := [.rsl _ _ _ _ _, .rsl _ _ _ _ _]) (args := [.sl _ _, .sl _ _]) hb19 ⟨il, il, trivial⟩ (l2_eq sl_osls sl_osls) (fun hA => eqIntSS_c _ _ (by omega) (by omega) (fun i => by have := hrl i; omega)) rfl rfl) ?_
         refine rv (v := .bool _) (v_not il) ?_
         refine rv (v := .bool _) (v_move il nf) ?_
         refine r_gval (v := .bool _) (v_move il nf) rfl rfl rfl (by decide) (.inl ⟨_, rfl, rfl⟩) rfl (by decide) ?_
         refine r_gval (v := .bool _) (v_move il nf) rfl rfl rfl (by decide) (.inl ⟨_, rfl, rfl⟩) rfl (by decide) ?_
         refine r_gval (v := .bool _) (v_bne un4 (.inr ⟨_, rfl, fun h => h⟩) (.inr ⟨_, rfl, fun h => h⟩)) rfl rfl rfl (by decide) (.inl ⟨_, rfl, rfl⟩) rfl (by decide) ?_
         refine rv (v := .bool _) (v_pick (.inl rfl) (.inl rfl) (.inr ⟨_, rfl, fun h h2 => by simp_all⟩)) ?_
         refine r_nil ?_
         refine a_cond rfl (fun ht108 => ?_) (fun ht108 => ?_)
         ·
          skip
          refine a_seq ?_
          refine a_pre (ent_look (L := [(4, .bool _), (10, .osl _ _ _ _), (13, .int _ _), (14, .int _ _)]) ⟨Weak.rfl, Weak.rfl, Weak.rfl, Weak.rfl, trivial⟩) ?_
          refine a_region ?_
          refine rv (v := .bool _) (v_assign il nf) ?_
          refine r_nil ?_
          refine a_ret ?_
          refine ret1 Tryz.results4 (by decide) (by decide) (Weak.of_eq (bool_eq ?_)) rfl Leaves.nil
          first | rfl | (exfalso; simp at ht108; done) | (exfalso; simp at ht108; omega)
         ·
          skip
          refine a_skip ?_
          refine a_seq ?_
          refine a_pre (ent_look (L := [(4, .bool _), (10, .osl _ _ _ _), (13, .int _ _), (14, .int _ _)]) ⟨Weak.rfl, Weak.rfl, Weak.rfl, Weak.rfl, trivial⟩) ?_
          refine a_region ?_
          refine rv (v := .int _ _) (v_assign il nf) ?_
          refine r_nil ?_
          refine a_seq ?_
          refine a_region ?_
          refine rv (v := .rsl _ _ _ _ _) (v_move il nf) ?_
          refine rv (v := .int _ _) (v_move il nf) ?_
          refine rn (v := .int _ _) (q_call (vs := [.rsl _ _ _ _ _, .int _ _]) (args := [.sl _ _, .int .i64 _]) hb21 ⟨il, il, trivial⟩ (l2_eq sl_osls rfl) (fun hA => heldIntSS_c (lbR vars L vs).1 _ (by omega) (by omega) (by omega)) rfl rfl) ?_
          refine rv (v := .int _ _) (v_assign il nf) ?_
          refine r_nil ?_
          refine a_seq ?_
          refine a_seq ?_
          refine a_region ?_
          refine rv (v := .int _ _) (v_move il nf) ?_
          refine rv (v := .bool _) (v_lss il il) ?_
          refine r_nil ?_
          refine a_cond rfl (fun ht113 => ?_) (fun ht113 => ?_)
          ·
           skip
           refine a_seq ?_
           refine a_region ?_
           refine rv (v := .bool _) (v_assign il nf) ?_
           refine r_nil ?_
           refine a_ret ?_
           refine ret1 Tryz.results4 (by decide) (by decide) (Weak.of_eq (bool_eq ?_)) rfl Leaves.nil
           first | rfl | (exfalso; simp at ht113; done) | (exfalso; simp at ht113; omega)
          ·
           skip
           refine a_skip ?_
           refine a_seq ?_
           refine a_seq ?_
           refine a_region ?_
           refine rv (v := .int _ _) (v_move il nf) ?_
           refine rv (v := .int _ _) (v_move il nf) ?_
           refine rv (v := .bool _) (v_neq il il) ?_
           refine r_nil ?_
           refine a_cond rfl (fun ht116 => ?_) (fun ht116 => ?_)
           ·
            skip
            refine a_seq ?_
            refine a_pre (ent_look (L := [(4, .bool _)]) ⟨Weak.rfl, trivial⟩) ?_
            refine a_region ?_
            refine rv (v := .bool _) (v_assign il nf) ?_
            refine r_nil ?_
            refine a_ret ?_
            refine ret1 Tryz.results4 (by decide) (by decide) (Weak.of_eq (bool_eq ?_)) rfl Leaves.nil
            first | rfl | (exfalso; simp at ht116; done) | (exfalso; simp at ht116; omega)
           ·
            skip
            refine a_skip ?_
            refine a_seq ?_
            refine a_pre (ent_look (L := [(4, .bool _)]) ⟨Weak.rfl, trivial⟩) ?_
            refine a_region ?_
            refine rv (v := .bool _) (v_assign il nf) ?_
            refine r_nil ?_
            refine a_ret ?_
            refine ret1 Tryz.results4 (by decide) (by decide) (Weak.of_eq (bool_eq ?_)) rfl Leaves.nil
            first | rfl | (exfalso; simp at ht116; done) | (exfalso; simp at ht116; omega)
end Go.Av
namespace Go.Av
open Go
theorem bd64 {n : Int} (h : (Lit.int .i64 n).wf = true) : -9223372036854775808 ≤ n ∧ n ≤ 9223372036854775807 := bounds_i64 h
theorem len64 {n : Nat} (h : n ≤ maxLen) : (n : Int) ≤ 9223372036854775807 := by unfold maxLen at h; omega
theorem icells_flat (xs : List Int) : xs.flatMap (fun n => [AV.int .i64 n]) = icells xs := by
 induction xs with
 | nil => rfl
 | cons x xs ih => rw [List.flatMap_cons, ih]; rfl
end Go.Av
namespace Go.Av
open Go
theorem sls_flat (L : List (List Int)) : L.flatMap (fun c => [AV.sl (icells c) c.length]) = sls L := by
  induction L with
  | nil => rfl
  | cons c L ih => rw [List.flatMap_cons, ih]; rfl
theorem cnf_hyp {L : List (List Int)} (h : L.length ≤ maxLen ∧ ∀ y ∈ L, (y.length ≤ maxLen ∧ ∀ z ∈ y, (Lit.int .i64 z).wf = true ∧ ([AV.int .i64 z]).length = 1) ∧ ([AV.sl (y.flatMap fun z => [AV.int .i64 z]) y.length]).length = 1) :
    (∀ i, ((gl L i).length : Int) ≤ 9223372036854775807) ∧ (L.length : Int) ≤ 9223372036854775807 ∧ ∀ i j, -9223372036854775808 ≤ gd (gl L i) j ∧ gd (gl L i) j ≤ 9223372036854775807 := by
  refine ⟨fun i => ?_, len64 h.1, fun i => ?_⟩
  · rcases Nat.lt_or_ge i L.length with hi | hi
    · exact len64 (h.2 _ (gl_mem hi)).1.1
    · rw [gl_out hi]; simp
  · rcases Nat.lt_or_ge i L.length with hi | hi
    · exact gd_bd fun x hx => bd64 ((h.2 _ (gl_mem hi)).1.2 x hx).1
    · intro j; rw [gl_out hi]; simp [gd]
end Go.Av
namespace Go.Av
open Go Go.Proofs Go.Proofs.YtknoopcjhjhggaaGreat
set_option maxRecDepth 100000
theorem arg24 : OpensV Tryz.prog 24 (fun x : (Int) × (List (List (Int))) => .agg (([AV.int .i64 x.1] ++ [AV.sl (x.2.flatMap fun y2 => [AV.sl (y2.flatMap fun y1 => [AV.int .i64 y1]) y2.length]) x.2.length]))) (fun x => (((Lit.int .i64 x.1).wf = true) ∧ ((x.2.length ≤ maxLen ∧ ∀ y2 ∈ x.2, (y2.length ≤ maxLen ∧ ∀ y1 ∈ y2, (Lit.int .i64 y1).wf = true ∧ ([AV.int .i64 y1]).length = 1) ∧ ([AV.sl (y2.flatMap fun y1 => [AV.int .i64 y1]) y2.length]).length = 1)))) :=
 opensV_agg (ok_agg (by rw [Tryz.underlying24])) (opens_struct Tryz.underlying24 (tot := (1 + 1)) (by kernel_rfl) (opensFs_cons rfl (by kernel_rfl) (opens_int Tryz.underlying3) (opensFs_one rfl (by kernel_rfl) (opens_slice (k := 1) Tryz.underlying22 (by kernel_rfl) (by decide) (opens_slice (k := 1) Tryz.underlying25 (by kernel_rfl) (by decide) (opens_int Tryz.underlying3) (fun _ => rfl)) (fun _ => rfl)))))
theorem arg25 : OpensV Tryz.prog 25 (fun x : List (Int) => AV.sl (x.flatMap fun y3 => [AV.int .i64 y3]) x.length) (fun x => (x.length ≤ maxLen ∧ ∀ y3 ∈ x, (Lit.int .i64 y3).wf = true ∧ ([AV.int .i64 y3]).length = 1)) :=
 opensV_one (ok_scalar (by rw [Tryz.underlying25])) (opens_slice (k := 1) Tryz.underlying25 (by kernel_rfl) (by decide) (opens_int Tryz.underlying3) (fun _ => rfl)) (fun _ => rfl)
theorem rowOwn : ownKnob Tryz.prog.godebug = none := by kernel_rfl
theorem rowLaid : laidOutB Tryz.prog = true := by kernel_rfl
end Go.Av
