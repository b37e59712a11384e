/- Lemmas, part 2. -/
import Derived.Test.YtflabfgegbccjaaDoorA1
import Derived.ProofKit
import Derived.OpenShut
import Derived.Deep.Slices
import Derived.ChangeArms
import Derived.Test.YtflabfgegbccjaaDoorProg
import Derived.Lib.SliceRun
import Derived.Below
import Derived.Lib.Join
import Derived.Shelf.Strings.OnBuilder
import Derived.Shelf.Strconv.Itoa3
import Derived.Test.YtflabfgegbccjaaDoorRows
set_option linter.unusedVariables false
set_option linter.unusedSimpArgs false
namespace Go.Av
open Go

/-- The cells ns from index off on. -/
def setL : List AV → Nat → List AV → List AV
  | cs, _, [] => cs
  | cs, off, n :: ns => setL (cs.set off n) (off + 1) ns

theorem setL_length : ∀ {ns cs : List AV} {off : Nat}, (setL cs off ns).length = cs.length
  | [], _, _ => rfl
  | n :: ns, cs, off => by simp only [setL]; rw [setL_length]; simp

theorem setL_get : ∀ {ns cs : List AV} {off i : Nat}, off + ns.length ≤ cs.length → (setL cs off ns)[i]? = if off ≤ i ∧ i < off + ns.length then ns[i - off]? else cs[i]?
  | [], cs, off, i, h => by simp only [setL]; rw [if_neg (by simp)]
  | n :: ns, cs, off, i, h => by
    simp only [List.length_cons] at h
    simp only [setL]
    rw [setL_get (by simp; omega)]
    simp only [List.length_cons]
    by_cases h1 : i = off
    · subst h1
      rw [if_neg (by omega), if_pos (by omega), List.getElem?_set_self (by omega)]
      simp
    · rw [List.getElem?_set_ne (Ne.symm h1)]
      by_cases h2 : off + 1 ≤ i ∧ i < off + 1 + ns.length
      · rw [if_pos h2, if_pos (by omega)]
        rw [show i - off = (i - (off + 1)) + 1 by omega, List.getElem?_cons_succ]
      · rw [if_neg h2, if_neg (by omega)]

theorem noRefL_setL {ns cs : List AV} {off : Nat} (h : noRefL cs = true) (hn : noRefL ns = true) : noRefL (setL cs off ns) = true := by
  induction ns generalizing cs off with
  | nil => exact h
  | cons n ns ih =>
    have hn' := noRefL_iff.1 hn
    exact ih (noRefL_set h (hn' n (by simp))) (noRefL_iff.2 fun c hc => hn' c (by simp [hc]))

def spliceV (arr : List Value) (off : Nat) (us : List Value) : List Value := arr.take off ++ us ++ arr.drop (off + us.length)
theorem spliceV_get {arr us : List Value} {off i : Nat} (h : off + us.length ≤ arr.length) : (spliceV arr off us)[i]? = if off ≤ i ∧ i < off + us.length then us[i - off]? else arr[i]? := by
  unfold spliceV
  have ht : (arr.take off).length = off := by rw [List.length_take]; omega
  by_cases h1 : i < off
  · rw [if_neg (by omega), List.append_assoc, List.getElem?_append_left (by omega), List.getElem?_take, if_pos h1]
  · rw [List.append_assoc, List.getElem?_append_right (by omega), ht]
    by_cases h2 : i < off + us.length
    · rw [if_pos (by omega), List.getElem?_append_left (by omega)]
    · rw [if_neg (by omega), List.getElem?_append_right (by omega), List.getElem?_drop]
      congr 1; omega

theorem refsL_nil_mem {cs : List AV} (h : refsL cs = []) {c : AV} (hc : c ∈ cs) : refs c = [] := by
  rw [List.eq_nil_iff_forall_not_mem]
  intro q hq
  have : q ∈ refsL cs := refsL_mem.2 ⟨c, hc, hq⟩
  rw [h] at this; cases this

section
variable {β β' : Place → Option (Nat × Nat)} {F F' : Nat → Prop} {w w' : World}

/-- A part of the tree is replaced; memory has changed, but not what the rest of the tree owns. -/
theorem Rep.plant {y z : AV} (hn : noRef y = true) (hF : ∀ b, F b → F' b ∧ w'.heap[b]? = w.heap[b]?) : ∀ {r : List Nat} {x : AV} {p : Place} {v : Value}, Rep β F w x p v → refs x = [] → node x r = some z →
    (∀ r' y', node x r' = some y' → y'.isOwn = true → ¬ r <+: r' → β' (p.1, p.2 ++ r') = β (p.1, p.2 ++ r') ∧ ∀ b s, β (p.1, p.2 ++ r') = some (b, s) → w'.heap[b]? = w.heap[b]?) →
    (∀ u, Rep β F w z (p.1, p.2 ++ r) u → Rep β' F' w' y (p.1, p.2 ++ r) u) → Rep β' F' w' (Av.setNode x r y) p v := by
  intro r
  induction r with
  | nil => intro x p v h hx hz hO hy; simp only [node, Option.some.injEq] at hz; subst hz; simpa [Av.setNode] using hy v (by simpa using h)
  | cons j r ih =>
    intro x p v h hx hz hO hy
    simp only [node] at hz
    cases hc : (kids x)[j]? with
    | none => rw [hc] at hz; cases hz
    | some c =>
      rw [hc] at hz
      simp only [Av.setNode, hc]
      have hnr : noRef c = true → noRef (Av.setNode c r y) = true := by
        clear ih hy hO hc h
        induction r generalizing c with
        | nil => intro _; simpa [Av.setNode] using hn
        | cons i r ih =>
          intro hcr
          simp only [node] at hz
          cases hd : (kids c)[i]? with
          | none => rw [hd] at hz; cases hz
          | some d =>
            rw [hd] at hz
            simp only [Av.setNode, hd]
            have hm := List.mem_of_getElem? hd
            cases c <;> simp only [kids, List.not_mem_nil] at hm <;> simp only [noRef] at hcr <;> simp only [setKids, noRef, kids] <;> exact noRefL_set hcr (ih d hz (noRefL_mem hcr hm))
      -- the kids, each in the new memory
      have kid : ∀ {cs : List AV} {us : List Value}, kids x = cs → (∀ c ∈ cs, refs c = []) → RepL β F w cs p 0 us → RepL β' F' w' (cs.set j (Av.setNode c r y)) p 0 us := by
        intro cs us hk hrs hr
        refine RepL_iff.2 fun i d hd => ?_
        by_cases hij : i = j
        · subst hij
          have hlt : i < cs.length := by
            rcases Nat.lt_or_ge i cs.length with h | h
            · exact h
            · rw [List.getElem?_eq_none (by simpa using h)] at hd; cases hd
          rw [List.getElem?_set_self hlt] at hd
          cases hd
          obtain ⟨u, hu, hru⟩ := RepL_iff.1 hr i c (by rw [← hk]; exact hc)
          rw [Nat.zero_add] at hru ⊢
          refine ⟨u, hu, ih hru (hrs c (List.mem_of_getElem? (by rw [← hk]; exact hc))) hz (fun r' y' hy' ho' hp => ?_) (fun u' hu' => by simpa using hy u' (by simpa using hu'))⟩
          have := hO (i :: r') y' (by simp only [node, hc]; exact hy') ho' (fun hpre => hp (by simpa using hpre))
          simpa using this
        · rw [List.getElem?_set_ne (Ne.symm hij)] at hd
          obtain ⟨u, hu, hru⟩ := RepL_iff.1 hr i d hd
          refine ⟨u, hu, hru.tr _ hF (fun r' y' hy' ho' => ?_) (fun q hq => by rw [hrs d (List.mem_of_getElem? hd)] at hq; cases hq)⟩
          have := hO (i :: r') y' (by simp only [node, hk, hd]; exact hy') ho' (fun hpre => by
            obtain ⟨t, ht⟩ := hpre
            simp only [List.cons_append, List.cons.injEq] at ht
            exact hij ht.1.symm)
          simpa using this
      have hmem := List.mem_of_getElem? hc
      have hroot : x.isOwn = true → β' p = β p ∧ ∀ b s, β p = some (b, s) → w'.heap[b]? = w.heap[b]? := fun ho => by
        have := hO [] x rfl ho (fun hpre => by simp at hpre)
        simpa using this
      have nrl : ∀ {cs : List AV}, noRefL cs = true → ∀ c ∈ cs, refs c = [] := fun h c hc => refs_of_noRef c (noRefL_mem h hc)
      cases x <;> simp only [kids, List.getElem?_nil, reduceCtorEq] at hc <;> simp only [Rep] at h <;> simp only [setKids, kids, Rep]
      · obtain ⟨vs, rfl, hl, h⟩ := h
        exact ⟨vs, rfl, by simpa using hl, kid rfl (fun c hc => refsL_nil_mem (by simpa [refs] using hx) hc) h⟩
      · obtain ⟨vs, rfl, hl, h⟩ := h
        exact ⟨vs, rfl, by simpa using hl, kid rfl (fun c hc => refsL_nil_mem (by simpa [refs] using hx) hc) h⟩
      · obtain ⟨e1, e2⟩ := hroot rfl
        rcases h with ⟨_, _, h, _⟩ | ⟨hnl, b, capv, arr, t, h1, h2, h3, h4, h5, h6, h⟩
        · subst h; simp at hc
        · exact .inr ⟨noRefL_set hnl (hnr (noRefL_mem hnl (List.mem_of_getElem? hc))), b, capv, arr, t, e1.trans h1, h2, h3, h4, (e2 _ _ h1).trans h5, h6, kid rfl (nrl hnl) h⟩
      · obtain ⟨e1, e2⟩ := hroot rfl
        obtain ⟨hnl, b, arr, t, h1, h2, h3, h⟩ := h
        exact ⟨noRefL_set hnl (hnr (noRefL_mem hnl (List.mem_of_getElem? hc))), b, arr, t, e1.trans h1, h2, (e2 _ _ h1).trans h3, kid rfl (nrl hnl) h⟩
end

/-- The blocks once the cells from off on of the place q have been replaced. -/
def under (q : Place) (off n : Nat) (δ : List Nat → Option (Nat × Nat)) (β : Place → Option (Nat × Nat)) (q' : Place) : Option (Nat × Nat) :=
  if q'.1 = q.1 ∧ q.2 <+: q'.2 then
    match q'.2.drop q.2.length with
    | [] => β q'
    | i :: s => if off ≤ i ∧ i < off + n then δ ((i - off) :: s) else β q'
  else β q'

theorem under_at {q : Place} {off n i : Nat} {s : List Nat} {δ : List Nat → Option (Nat × Nat)} {β : Place → Option (Nat × Nat)} :
    under q off n δ β (q.1, q.2 ++ i :: s) = if off ≤ i ∧ i < off + n then δ ((i - off) :: s) else β (q.1, q.2 ++ i :: s) := by
  simp [under]
theorem under_self {q : Place} {off n : Nat} {δ : List Nat → Option (Nat × Nat)} {β : Place → Option (Nat × Nat)} : under q off n δ β q = β q := by
  simp [under]
theorem under_off {q q' : Place} {off n : Nat} {δ : List Nat → Option (Nat × Nat)} {β : Place → Option (Nat × Nat)} (h : ¬ (q'.1 = q.1 ∧ q.2 <+: q'.2)) : under q off n δ β q' = β q' := by
  simp only [under, if_neg h]
theorem under_short {q q' : Place} {off n : Nat} {δ : List Nat → Option (Nat × Nat)} {β : Place → Option (Nat × Nat)} (h : q'.2.length ≤ q.2.length) : under q off n δ β q' = β q' := by
  unfold under
  split
  · rw [List.drop_of_length_le h]
  · rfl

theorem own_kids {z : AV} {L : List AV} (h : z.isOwn = true) : kids (setKids z L) = L := by cases z <;> simp [AV.isOwn] at h <;> rfl

section
variable {e : Ctx} {σ : Sig} {val : Nat → Value} {w : World} {β : Place → Option (Nat × Nat)} {F : Nat → Prop}

theorem Inv.store (h : Inv e σ val w β F) {q : Place} {z : AV} {cs ns : List AV} {off b s : Nat} {us : List Value} {δ : List Nat → Option (Nat × Nat)} {arr : Array Value} {t : TypeId}
    (hz : node (σ q.1) q.2 = some z) (ho : z.isOwn = true) (hk : kids z = cs) (hb : β q = some (b, s)) (hh : w.heap[b]? = some (.cells arr t (0, 0))) (hx : refs (σ q.1) = [])
    (hd : Det e σ w β F (.agg ns) (.agg us.toArray) δ) (hn : noRefL ns = true) (hncs : noRefL cs = true) (hl : off + ns.length ≤ cs.length)
    {σ1 : Sig} (hσ1 : ∀ i, i ≠ q.1 → σ1 i = .undef ∨ (σ1 i = σ i ∧ ∀ q' ∈ refs (σ i), under q off ns.length δ β q' = β q')) :
    ∃ β', Inv e (upd σ1 q.1 (setNode (σ q.1) q.2 (setKids z (setL cs off ns)))) val (w.setRow b (spliceV arr.toList off us).toArray) β' F := by
  have hq : OwnAt σ q := ⟨z, hz, ho⟩
  have hbs := h.sep q b s hq hb
  have hoth : ∀ k, k ≠ b → (w.setRow b (spliceV arr.toList off us).toArray).heap[k]? = w.heap[k]? := fun k hk => setRow_other w b k _ hk
  have hhF : ∀ k, F k → F k ∧ (w.setRow b (spliceV arr.toList off us).toArray).heap[k]? = w.heap[k]? := fun k hF => ⟨hF, hoth k fun he => hbs.1 (he ▸ hF)⟩
  have hhO : ∀ q', OwnAt σ q' → q' ≠ q → ∀ k s', β q' = some (k, s') → (w.setRow b (spliceV arr.toList off us).toArray).heap[k]? = w.heap[k]? := fun q' hq' hne k s' hk =>
    hoth k fun he => hne (h.disj q' q b s' s hq' hq (by rw [← he]; exact hk) hb)
  obtain ⟨hul, hur⟩ := hd.repL
  -- who owns what now
  have who : ∀ q', OwnAt (upd σ1 q.1 (setNode (σ q.1) q.2 (setKids z (setL cs off ns)))) q' →
      (∃ j r y, q' = (q.1, q.2 ++ (off + j) :: r) ∧ j < ns.length ∧ node (.agg ns) (j :: r) = some y ∧ y.isOwn = true ∧ under q off ns.length δ β q' = δ (j :: r)) ∨ (OwnAt σ q' ∧ under q off ns.length δ β q' = β q') := by
    rintro ⟨i, r⟩ ⟨y, hy, hyo⟩
    dsimp only at hy
    by_cases hi : i = q.1
    · subst hi
      rw [upd_same] at hy
      rcases node_setNode hz hy with ⟨t', rfl, hy'⟩ | ⟨hnp, z0, hz0, hz0o⟩
      · cases t' with
        | nil =>
          right
          rw [List.append_nil]
          exact ⟨hq, under_self⟩
        | cons i r' =>
          simp only [node, own_kids ho] at hy'
          rw [setL_get hl] at hy'
          by_cases hin : off ≤ i ∧ i < off + ns.length
          · left
            rw [if_pos hin] at hy'
            obtain ⟨j, rfl⟩ : ∃ j, i = off + j := ⟨i - off, by omega⟩
            rw [Nat.add_sub_cancel_left] at hy'
            refine ⟨j, r', y, rfl, by omega, by simp only [node, kids]; exact hy', hyo, ?_⟩
            rw [under_at, if_pos hin, Nat.add_sub_cancel_left]
          · right
            rw [if_neg hin] at hy'
            refine ⟨⟨y, node_append hz (by simp only [node, hk]; exact hy'), hyo⟩, ?_⟩
            rw [under_at, if_neg hin]
      · right
        exact ⟨⟨z0, hz0, hz0o.trans hyo⟩, under_off fun hp => hnp hp.2⟩
    · right
      rw [upd_other _ _ hi] at hy
      rcases hσ1 i hi with h1 | ⟨h1, _⟩
      · rw [h1] at hy; exact (undef_node hy hyo).elim
      · rw [h1] at hy; exact ⟨⟨y, hy, hyo⟩, under_off fun hp => hi hp.1⟩
  refine ⟨under q off ns.length δ β, ⟨fun i => ?_, fun q1 q2 k s1 s2 h1 h2 hb1 hb2 => ?_, fun q1 k s1 h1 hb1 => ?_, fun k hk => ?_, fun k hk hik => ?_, ?_, ?_⟩⟩
  · by_cases hi : i = q.1
    · subst hi
      rw [upd_same]
      refine (h.rep q.1).plant (y := setKids z (setL cs off ns)) ?_ hhF hx hz (fun r' y' hy' hyo' hnp => ?_) (fun u hu => ?_)
      · cases z <;> simp [AV.isOwn] at ho <;> simp only [setKids, noRef] <;> exact noRefL_setL hncs hn
      · have hne : ((q.1, r') : Place) ≠ q := fun he => hnp (by rw [← he]; exact List.prefix_refl _)
        refine ⟨?_, fun k s' hk => ?_⟩
        · simp only [List.nil_append]; exact under_off fun hp => hnp hp.2
        · simp only [List.nil_append] at hk
          exact hhO _ ⟨y', hy', hyo'⟩ hne k s' hk
      · simp only [List.nil_append] at hu ⊢
        have cells : ∀ {arr' : List Value}, arr' = arr.toList → RepL β F w cs q 0 arr' → RepL (under q off ns.length δ β) F (w.setRow b (spliceV arr.toList off us).toArray) (setL cs off ns) q 0 (spliceV arr.toList off us) := by
          rintro _ rfl hr
          have hcl := hr.len
          refine RepL_iff.2 fun i c hc => ?_
          rw [setL_get hl] at hc
          rw [spliceV_get (by omega), hul]
          by_cases hin : off ≤ i ∧ i < off + ns.length
          · rw [if_pos hin] at hc ⊢
            obtain ⟨u', hu', hru⟩ := RepL_iff.1 hur (i - off) c hc
            refine ⟨u', hu', hru.tr _ hhF (fun r y hy hyo => ?_) (fun q' hq' => by rw [refs_of_noRef c (noRefL_mem hn (List.mem_of_getElem? hc))] at hq'; cases hq')⟩
            simp only [Nat.zero_add, List.nil_append, List.append_assoc, List.singleton_append, List.cons_append]
            rw [under_at, if_pos hin]
            refine ⟨rfl, fun k s' hk => hoth k fun he => ?_⟩
            subst he
            exact (hd.sep ((i - off) :: r) y k s' (by simp only [node, kids, hc]; exact hy) hyo hk).2.2 q s hq hb
          · rw [if_neg hin] at hc ⊢
            obtain ⟨u', hu', hru⟩ := RepL_iff.1 hr i c hc
            refine ⟨u', hu', hru.tr _ hhF (fun r y hy hyo => ?_) (fun q' hq' => by rw [refs_of_noRef c (noRefL_mem hncs (List.mem_of_getElem? hc))] at hq'; cases hq')⟩
            simp only [Nat.zero_add, List.append_assoc, List.singleton_append]
            rw [under_at, if_neg hin]
            refine ⟨rfl, fun k s' hk' => hhO _ ⟨y, node_append hz (by simp only [node, hk, hc]; exact hy), hyo⟩ (fun he => ?_) k s' hk'⟩
            have := congrArg (fun p : Place => p.2.length) he
            simp at this
        have hsz : (spliceV arr.toList off us).length = arr.size := by
          have hcl : cs.length ≤ arr.size := by
            cases z <;> simp [AV.isOwn] at ho <;> simp only [kids] at hk <;> subst hk <;> simp only [Rep] at hu
            · rcases hu with ⟨h0, _⟩ | ⟨_, b', capv, arr', t', h1, _, _, _, h2, _, h3⟩
              · rw [hb] at h0; cases h0
              · rw [hb] at h1; cases h1; rw [hh] at h2; cases h2; simpa using h3.len
            · obtain ⟨_, b', arr', t', h1, _, h2, h3⟩ := hu
              rw [hb] at h1; cases h1; rw [hh] at h2; cases h2; simpa using h3.len
          simp only [spliceV, List.length_append, List.length_take, List.length_drop, Array.length_toList]
          omega
        have hh' := setRow_heap w b arr (spliceV arr.toList off us).toArray t (0, 0) hh
        cases z <;> simp [AV.isOwn] at ho <;> simp only [kids] at hk <;> subst hk <;> simp only [setKids, Rep] at hu ⊢
        · rcases hu with ⟨h0, _⟩ | ⟨_, b', capv, arr', t', h1, h2, h3, h4, h5, h6, h7⟩
          · rw [hb] at h0; cases h0
          · rw [hb] at h1
            simp only [Option.some.injEq, Prod.mk.injEq] at h1
            obtain ⟨rfl, rfl⟩ := h1
            rw [hh] at h5; cases h5
            exact .inr ⟨noRefL_setL hncs hn, b, capv, _, _, under_self.trans hb, h2, h3, h4, hh', by simp [hsz, h6], by simpa using cells rfl h7⟩
        · obtain ⟨_, b', arr', t', h1, h2, h3, h4⟩ := hu
          rw [hb] at h1
          simp only [Option.some.injEq, Prod.mk.injEq] at h1
          obtain ⟨rfl, rfl⟩ := h1
          rw [hh] at h3; cases h3
          exact ⟨noRefL_setL hncs hn, b, _, _, by rw [under_self, hb]; simp [hsz], h2, hh', by simpa using cells rfl h4⟩
    · rw [upd_other _ _ hi]
      have hr := h.rep i
      rcases hσ1 i hi with h1 | ⟨h1, hrf⟩
      · rw [h1]; simp [Rep]
      · rw [h1]
        refine hr.tr _ hhF (fun r y hy hyo => ?_) hrf
        simp only [List.nil_append]
        exact ⟨under_off fun hp => hi hp.1, fun k s' hk => hhO (i, r) ⟨y, hy, hyo⟩ (fun he => hi (congrArg Prod.fst he)) k s' hk⟩
  · rcases who q1 h1 with ⟨j, r, y, rfl, hj, hy, hyo, e1⟩ | ⟨ho1, e1⟩ <;> rcases who q2 h2 with ⟨j', r', y', rfl, hj', hy', hyo', e2⟩ | ⟨ho2, e2⟩
    · rw [e1] at hb1; rw [e2] at hb2
      have := hd.inj _ _ y y' k s1 s2 hy hyo hy' hyo' hb1 hb2
      simp only [List.cons.injEq] at this
      rw [this.1, this.2]
    · rw [e1] at hb1; rw [e2] at hb2
      exact absurd hb2 ((hd.sep _ y k s1 hy hyo hb1).2.2 q2 s2 ho2)
    · rw [e1] at hb1; rw [e2] at hb2
      exact absurd hb1 ((hd.sep _ y' k s2 hy' hyo' hb2).2.2 q1 s1 ho1)
    · rw [e1] at hb1; rw [e2] at hb2
      exact h.disj q1 q2 k s1 s2 ho1 ho2 hb1 hb2
  · rcases who q1 h1 with ⟨j, r, y, rfl, hj, hy, hyo, e1⟩ | ⟨ho1, e1⟩
    · rw [e1] at hb1
      exact ⟨(hd.sep _ y k s1 hy hyo hb1).1, (hd.sep _ y k s1 hy hyo hb1).2.1⟩
    · rw [e1] at hb1
      exact h.sep q1 k s1 ho1 hb1
  · exact ⟨by simpa [World.setRow] using (h.fr k hk).1, (h.fr k hk).2⟩
  · rw [hoth k fun he => ?_]
    · exact h.kept k hk hik
    · subst he
      rcases hbs.2 with h1 | h1
      · omega
      · exact hik h1
  · simpa [World.setRow] using h.grow
  · exact tame_row h.tame hh

/-- Where the new cells own nothing every block may stay where it is. -/
def same (q : Place) (off : Nat) (β : Place → Option (Nat × Nat)) : List Nat → Option (Nat × Nat)
  | [] => none
  | j :: s => β (q.1, q.2 ++ (off + j) :: s)
theorem under_same {q q' : Place} {off n : Nat} : under q off n (same q off β) β q' = β q' := by
  by_cases hp : q'.1 = q.1 ∧ q.2 <+: q'.2
  · obtain ⟨h1, t, ht⟩ := hp
    obtain ⟨i, r⟩ := q'
    dsimp only at h1 ht
    subst h1; subst ht
    cases t with
    | nil => exact under_short (by simp)
    | cons i s =>
      rw [under_at]
      split
      · rename_i hi
        simp only [same]
        rw [show off + (i - off) = i by omega]
      · rfl
  · exact under_off hp
end
end Go.Av
namespace Go.Av
open Go

section
variable {P : Program} {N : Nat} {A : Bool} {σ σ' : Sig} {x y z : Operand} {D : List Nat} {o : Oper} {d : Nat} {ty : TypeId}
variable {e : Ctx} {val : Nat → Value} {w : World} {β : Place → Option (Nat × Nat)} {F : Nat → Prop}

theorem size_of {t s : Nat} {g : Bool} (h : tyAgg P t = some (g, s)) (w : World) : (sizeOf t).run P w = .ok s w := (tyAgg_spec h w).2

theorem run_storeAt {t s b off : Nat} {g : Bool} (ht : tyAgg P t = some (g, s)) {v : Value} {arr : Array Value} {tt : TypeId} (hl : v.cells.toList.length = s) (hh : w.heap[b]? = some (.cells arr tt (0, 0)))
    (hf : off + s ≤ arr.size) (h1 : ∀ u ∈ v.cells.toList, u.oneCell' = true) :
    (Instr.storeAt t (.pointer (some ⟨b, off, none⟩)) v).run P w = .ok () (w.setRow b (spliceV arr.toList off v.cells.toList).toArray) := by
  have hc := run_storeCells_at P b off tt v.cells.toList 0 arr w hh (by rw [hl]; omega) h1
  have hs : ¬ v.cells.size ≠ s := by simpa using hl
  simp only [Nat.add_zero] at hc
  simp only [Instr.storeAt, Instr.sureAddr, storeVar, Sem.run_bind, Sem.run_pure, Result.andThen_ok, size_of ht, if_neg hs, hc]
  rfl

/-- A store of a value that owns nothing. -/
theorem o_store {t off s : Nat} {g : Bool} {q : Place} {z : AV} {v y' : AV} (ho : o.op = .store t x y) (hd : o.dst = none) (ht : tyAgg P t = some (g, s)) (hx : RdTo N true σ x (.rp q off)) (hy : RdTo N true σ y v)
    (hz : node (σ q.1) q.2 = some z) (hzo : z.isOwn = true) (hb : boxable v = true) (hp : pureL (cellsOf v) = true) (hc : cellL (cellsOf v) = true) (hs : (cellsOf v).length = s) (hl : off + s ≤ (kids z).length) (h0 : 0 < s)
    (hr : refs (σ q.1) = []) (hres : setNode (σ q.1) q.2 (setKids z (setL (kids z) off (cellsOf v))) = y') : OStep P N o σ (upd σ q.1 y') := by
  intro gv e a w ⟨hdf, hsz, β, F, hi⟩ K Q hK
  have ex := hx.rep rfl (fun _ _ => rfl) hi (0, [])
  have ey := hy.rep rfl (fun _ _ => rfl) hi (0, [])
  obtain ⟨hul, hur⟩ := cells_of ey hb hp
  have hq : blk σ q = some (kids z) := by
    unfold blk; rw [hz]
    cases z <;> simp [AV.isOwn] at hzo <;> rfl
  simp only [Rep] at ex
  obtain ⟨b, s1, hb1, ex⟩ := ex
  rcases hi.block hq with ⟨hb2, _⟩ | ⟨b2, s2, arr, tt, hb2, hh, hrc, hnr⟩
  · rw [hb1] at hb2; cases hb2
  · rw [hb1] at hb2
    simp only [Option.some.injEq, Prod.mk.injEq] at hb2
    obtain ⟨rfl, rfl⟩ := hb2
    have hcl := hrc.len
    simp only [Array.length_toList] at hcl
    have hrun := run_storeAt (b := b) (off := off) ht (v := a.eval y) (hul.trans hs) hh (by omega) (ones_of hur hul hc)
    have hrep : Rep β F w (.agg (cellsOf v)) (0, []) (.agg (a.eval y).cells.toList.toArray) := by simp only [Rep]; exact ⟨_, rfl, hul, hur⟩
    have hdet : Det e σ w β F (.agg (cellsOf v)) (.agg (a.eval y).cells.toList.toArray) (same q off β) := Det.pure (p := (0, [])) hrep (by simpa [pureV] using hp)
    obtain ⟨β', h⟩ := hi.store hz hzo rfl hb1 hh hr hdet (noRefL_pure _ hp) hnr (by omega) (σ1 := σ) (fun i _ => .inr ⟨rfl, fun q' _ => under_same⟩)
    rw [hres] at h
    refine wp_unit (w' := w.setRow b (spliceV arr.toList off (a.eval y).cells.toList).toArray) ?_ (hK _ _ ⟨?_, ?_, β', F, ?_⟩)
    · simp only [execOp, ho, ex, hrun, Sem.run_bind, Sem.run_pure, Result.andThen_ok]
    · rw [hd]; exact hdf
    · rw [hd]; exact hsz
    · rw [hd]; exact h
end

/-- A value that owns nothing stands for the same at every place. -/
theorem Rep.anywhere {β : Place → Option (Nat × Nat)} {F : Nat → Prop} {w : World} {c : AV} {p p' : Place} {v : Value} (h : Rep β F w c p v) (hn : NoOwn c) : Rep β F w c p' v :=
  h.tr _ (fun b hb => ⟨hb, rfl⟩) (fun r y hy ho => by rw [hn r y hy] at ho; cases ho) (fun _ _ => rfl)

theorem noOwn_agg {cs : List AV} (h : ∀ c ∈ cs, NoOwn c) : NoOwn (.agg cs) := fun r y hy => by
  cases r with
  | nil => simp [node] at hy; subst hy; rfl
  | cons j r =>
    simp only [node, kids] at hy
    cases hc : cs[j]? with
    | none => rw [hc] at hy; cases hy
    | some c => rw [hc] at hy; exact h c (List.mem_of_getElem? hc) r y hy

theorem noOwn_cellsOf {v : AV} (h : NoOwn v) : ∀ c ∈ cellsOf v, NoOwn c := by
  cases v <;> simp only [cellsOf, List.mem_singleton, forall_eq] <;> try exact h
  intro c hc r y hy
  obtain ⟨j, hj⟩ := List.getElem?_of_mem hc
  exact h (j :: r) y (by simp only [node, kids, hj]; exact hy)

/-- A value of known cells: also one that holds references. -/
theorem cells_ref {β : Place → Option (Nat × Nat)} {F : Nat → Prop} {w : World} {v : AV} {p : Place} {u : Value} (h : Rep β F w v p u) (hb : boxable v = true) (hn : NoOwn v) :
    u.cells.toList.length = (cellsOf v).length ∧ RepL β F w (cellsOf v) p 0 u.cells.toList := by
  have one : ∀ (v : AV) (u : Value), Rep β F w v p u → NoOwn v → u.cells = #[u] → cellsOf v = [v] → u.cells.toList.length = (cellsOf v).length ∧ RepL β F w (cellsOf v) p 0 u.cells.toList := by
    intro v u h hv e1 e2
    rw [e1, e2]
    exact ⟨rfl, by simp only [RepL]; exact ⟨h.anywhere hv, trivial⟩⟩
  cases v <;> simp [boxable] at hb
  case agg cs =>
    simp only [Rep] at h
    obtain ⟨vs, rfl, hl, h⟩ := h
    exact ⟨by simpa [Value.cells, cellsOf] using hl, by simpa [Value.cells, cellsOf] using h⟩
  all_goals
    refine one _ _ h hn ?_ rfl
    simp only [Rep] at h
  · rw [h]; rfl
  · rw [h]; rfl
  · rw [h]; rfl
  · rw [h]; rfl
  · rw [h]; rfl
  · rw [h]; rfl
  · obtain ⟨a, rfl⟩ := h; rfl
  · obtain ⟨us, vs, rfl, _⟩ := h; rfl
  · obtain ⟨_, a, c, rfl, _⟩ := h; rfl
  · obtain ⟨_, b, o, arr, t, fz, rfl, _⟩ := h; rfl
  · rcases h with ⟨_, ⟨a, rfl⟩, _⟩ | ⟨b, capv, _, rfl, _⟩ <;> rfl
  · obtain ⟨b, s, _, rfl⟩ := h; rfl

/-- The parts of a literal put into the zero value's cells. -/
def fillA (place : Nat → Option (Nat × Nat)) : List AV → List (Nat × AV) → Option (List AV)
  | cells, [] => some cells
  | cells, (i, v) :: rest => match place i with
    | none => none
    | some (off, size) => if (cellsOf v).length == size && decide (off + size ≤ cells.length) && boxable v then fillA place (setL cells off (cellsOf v)) rest else none

/-- The cells read so. -/
def CellsAre (β : Place → Option (Nat × Nat)) (F : Nat → Prop) (w : World) (cs : List AV) (arr : Array Value) : Prop :=
  arr.size = cs.length ∧ (∀ c ∈ cs, NoOwn c) ∧ RepL β F w cs (0, []) 0 arr.toList

theorem foldl_set_get : ∀ (us : List Value) (off k : Nat) (arr : Array Value), ((us.zipIdx k).foldl (fun cs (c, j) => cs.setIfInBounds (off + j) c) arr).size = arr.size ∧
    (off + k + us.length ≤ arr.size → ∀ i, ((us.zipIdx k).foldl (fun cs (c, j) => cs.setIfInBounds (off + j) c) arr)[i]? = if off + k ≤ i ∧ i < off + k + us.length then us[i - (off + k)]? else arr[i]?)
  | [], off, k, arr => ⟨rfl, fun _ i => by rw [if_neg (by simp)]; rfl⟩
  | u :: us, off, k, arr => by
    simp only [List.zipIdx_cons, List.foldl_cons]
    obtain ⟨h1, h2⟩ := foldl_set_get us off (k + 1) (arr.setIfInBounds (off + k) u)
    refine ⟨by rw [h1]; simp, fun hl i => ?_⟩
    simp only [List.length_cons] at hl
    rw [h2 (by simp; omega) i]
    simp only [List.length_cons]
    by_cases hi : i = off + k
    · subst hi
      rw [if_neg (by omega), if_pos (by omega), Array.getElem?_setIfInBounds_self]
      simp; omega
    · rw [Array.getElem?_setIfInBounds_ne (Ne.symm hi)]
      by_cases hin : off + (k + 1) ≤ i ∧ i < off + (k + 1) + us.length
      · rw [if_pos hin, if_pos (by omega), show i - (off + k) = (i - (off + (k + 1))) + 1 by omega, List.getElem?_cons_succ]
      · rw [if_neg hin, if_neg (by omega)]

theorem fill_spec {β : Place → Option (Nat × Nat)} {F : Nat → Prop} {w : World} {place : Nat → Option (Nat × Nat)} : ∀ (ps : List (Nat × AV)) (us : List (Nat × Value)) (cells : List AV) (arr : Array Value) (cs : List AV), CellsAre β F w cells arr →
    us.length = ps.length → (∀ (j i : Nat) (v : AV), ps[j]? = some (i, v) → NoOwn v ∧ ∃ u p, us[j]? = some (i, u) ∧ Rep β F w v p u) → fillA place cells ps = some cs → ∃ arr', Instr.fill place arr us = some arr' ∧ CellsAre β F w cs arr'
  | [], us, cells, arr, cs, hc, hl, hp, h => by
    cases us with
    | nil => simp only [fillA, Option.some.injEq] at h; subst h; exact ⟨arr, rfl, hc⟩
    | cons u us => simp at hl
  | (i, v) :: ps, us, cells, arr, cs, hc, hl, hp, h => by
    obtain ⟨hn, u, p, hu, hru⟩ := hp 0 i v rfl
    cases us with
    | nil => simp at hu
    | cons u' us =>
      simp at hu; subst hu
      simp only [fillA] at h
      cases hpl : place i with
      | none => rw [hpl] at h; cases h
      | some q =>
        obtain ⟨off, size⟩ := q
        rw [hpl] at h
        dsimp only at h
        split at h
        · rename_i hcond
          simp only [Bool.and_eq_true, beq_iff_eq, decide_eq_true_eq] at hcond
          obtain ⟨⟨h1, h2⟩, h3⟩ := hcond
          obtain ⟨hcl, hcr⟩ := cells_ref hru h3 hn
          have hsz : u.cells.size = size := by rw [← h1, ← hcl]; simp
          obtain ⟨ha, hb, hcc⟩ := hc
          have hf := foldl_set_get u.cells.toList off 0 arr
          have hfa : u.cells.zipIdx.foldl (fun cs (c, j) => cs.setIfInBounds (off + j) c) arr = (u.cells.toList.zipIdx 0).foldl (fun cs (c, j) => cs.setIfInBounds (off + j) c) arr := by
            rw [← Array.foldl_toList, Array.toList_zipIdx]
          have hbd : off + 0 + u.cells.toList.length ≤ arr.size := by rw [ha, hcl, h1]; omega
          obtain ⟨hf1, hf2⟩ := hf
          have hf2 := hf2 hbd
          have hnew : CellsAre β F w (setL cells off (cellsOf v)) ((u.cells.toList.zipIdx 0).foldl (fun cs (c, j) => cs.setIfInBounds (off + j) c) arr) := by
            refine ⟨by rw [hf1, setL_length]; exact ha, fun c hc => ?_, RepL_iff.2 fun k c hc => ?_⟩
            · obtain ⟨k, hk⟩ := List.getElem?_of_mem hc
              rw [setL_get (by omega)] at hk
              split at hk
              · exact noOwn_cellsOf hn c (List.mem_of_getElem? hk)
              · exact hb c (List.mem_of_getElem? hk)
            · rw [setL_get (by omega)] at hc
              simp only [Array.getElem?_toList]
              rw [hf2 k]
              simp only [Nat.add_zero, hcl]
              split at hc
              · rename_i hin
                rw [if_pos hin]
                obtain ⟨x, hx, hrx⟩ := RepL_iff.1 hcr _ c hc
                exact ⟨x, hx, hrx.anywhere (noOwn_cellsOf hn c (List.mem_of_getElem? hc))⟩
              · rename_i hin
                rw [if_neg hin]
                obtain ⟨x, hx, hrx⟩ := RepL_iff.1 hcc _ c hc
                exact ⟨x, by simpa using hx, hrx.anywhere (hb c (List.mem_of_getElem? hc))⟩
          obtain ⟨arr', he, hca⟩ := fill_spec ps us _ _ cs hnew (by simpa using hl) (fun j i v hj => by
            have := hp (j + 1) i v (by simpa using hj)
            simpa using this) h
          refine ⟨arr', ?_, hca⟩
          simp only [Instr.fill, hpl]
          rw [if_neg]
          · rw [hfa]; exact he
          · simp only [ne_eq, Bool.or_eq_true, decide_eq_true_eq, not_or, Nat.not_lt, Decidable.not_not, gt_iff_lt, bne_iff_ne]
            exact ⟨hsz, by rw [hsz, ha]; omega⟩
        · cases h

/-- A struct type's zero cells and its fields' places. -/
def structPl (P : Program) (t : Nat) : Option (List AV × List (Nat × Nat)) :=
  match P.info? t, P.underlying t with
  | some it, some (.struct fields) =>
    match it.zero, fields.toList.mapM (fun f => (P.info? f.type).map fun i => (f.offset, i.size)) with
    | some z, some places => some (z.cells.toList.map cstS, places)
    | _, _ => none
  | _, _ => none

theorem cells_zero {β : Place → Option (Nat × Nat)} {F : Nat → Prop} {w : World} (cs : Array Value) : CellsAre β F w (cs.toList.map cstS) cs :=
  ⟨by simp, fun c hc => by obtain ⟨v, _, rfl⟩ := List.mem_map.1 hc; exact noOwn_scalar (scalar_cstS v), repL_cstL cs.toList _⟩

section
variable {P : Program} {N : Nat} {A : Bool} {σ : Sig} {ty : TypeId}

def buildOp (t : TypeId) (parts : List (Nat × Operand)) : Op := .build t parts.toArray

/-- A struct literal. -/
theorem v_build {t : Nat} {zs : List AV} {places : List (Nat × Nat)} {parts : List (Nat × Operand)} {cs : List AV} (ht : structPl P t = some (zs, places))
    (hf : fillA (fun i => places[i]?) zs (parts.map fun x => (x.1, rd N σ x.2)) = some cs) (hn : (cs.all fun c => c.isOwn == false && (kids c).isEmpty) = true) :
    VSem P N A (buildOp t parts) ty σ (slotsL (parts.map (·.2))) (.agg cs) := by
  have hno : NoOwn (.agg cs) := noOwn_agg fun c hc r y hy => by
    simp only [List.all_eq_true, Bool.and_eq_true, beq_iff_eq, List.isEmpty_iff] at hn
    obtain ⟨h1, h2⟩ := hn c hc
    cases r with
    | nil => simp [node] at hy; subst hy; exact h1
    | cons j r => simp [node, h2] at hy
  refine ⟨hno, fun hA σ' hD gv e a w β F hi p o' ho _ => ?_⟩
  unfold structPl at ht
  cases hit : P.info? t with
  | none => rw [hit] at ht; cases ht
  | some it =>
    cases hu : P.underlying t with
    | none => rw [hit, hu] at ht; cases ht
    | some dsc =>
      rw [hit, hu] at ht
      cases dsc <;> try (simp at ht; done)
      case struct fields =>
        dsimp only at ht
        cases hz : it.zero with
        | none => rw [hz] at ht; cases ht
        | some z =>
          cases hm : fields.toList.mapM (fun f => (P.info? f.type).map fun i => (f.offset, i.size)) with
          | none => rw [hz, hm] at ht; cases ht
          | some pl =>
            rw [hz, hm] at ht
            simp only [Option.some.injEq, Prod.mk.injEq] at ht
            obtain ⟨rfl, rfl⟩ := ht
            obtain ⟨arr', he, hca⟩ := fill_spec (β := β) (F := F) (w := w) (parts.map fun x => (x.1, rd N σ x.2)) (parts.map fun x => (x.1, a.eval x.2)) _ z.cells cs (cells_zero z.cells) (by simp)
              (fun j i v hj => by
                rw [List.getElem?_map] at hj
                cases hp : parts[j]? with
                | none => rw [hp] at hj; cases hj
                | some x =>
                  rw [hp] at hj
                  simp only [Option.map_some, Option.some.injEq, Prod.mk.injEq] at hj
                  obtain ⟨rfl, rfl⟩ := hj
                  refine ⟨noOwn_rd _, a.eval x.2, (0, []), by rw [List.getElem?_map, hp]; rfl, ?_⟩
                  have := rd_rep hi x.2 (0, [])
                  rwa [rd_agree (fun i hi' => hD i (List.mem_flatMap.2 ⟨x.2, List.mem_map.2 ⟨x, List.mem_of_getElem? hp, rfl⟩, hi'⟩))] at this) hf
            refine ⟨.agg arr', ?_, ?_⟩
            · have hb : P.built t (parts.map fun x => (x.1, a.eval x.2)) = some arr' := by
                unfold Program.built
                simp only [hit, hu, hz, hm]
                simpa using he
              have := run_build w t (parts.map fun x => (x.1, a.eval x.2)).toArray arr' (by simpa using hb)
              simp only [execOp, ho, buildOp, List.map_toArray, this, Sem.run_bind, Sem.run_pure, Result.andThen_ok]
            · obtain ⟨h1, h2, h3⟩ := hca
              have : Rep β F w (.agg cs) (0, []) (.agg arr') := by
                simp only [Rep]
                exact ⟨arr'.toList, by simp, by simpa using h1, h3⟩
              exact this.anywhere hno
end
end Go.Av
namespace Go.Av
open Go

section
variable {P : Program} {N : Nat} {σ σ' : Sig} {e : Ctx} {val : Nat → Value} {w : World} {β : Place → Option (Nat × Nat)} {F : Nat → Prop} {fn : Func} {res : AV} {objs2 : List AV}

def resSlot : ResultVar → Nat
  | .tmp t => t
  | .cell t _ => t

/-- The value v that the variable in slot t holds. -/
def CellTo (P : Program) (σ : Sig) (t T : Nat) (v : AV) : Prop :=
  ∃ cs, σ t = .op cs ∧ ((tyAgg P T = some (true, cs.length) ∧ v = .agg cs) ∨ (tyAgg P T = some (false, 1) ∧ cs = [v]))

theorem cell_agg {t T : Nat} {cs : List AV} (h : σ t = .op cs) (ht : tyAgg P T = some (true, cs.length)) : CellTo P σ t T (.agg cs) := ⟨cs, h, .inl ⟨ht, rfl⟩⟩
def packRes : List Value → Value
  | [u] => u
  | us => .tuple us.toArray

def readRes (tmps : Array Value) : ResultVar → Sem Value
  | .tmp t => pure (tmps.getD t undef)
  | .cell a t => do loadVar t (← asAddr (tmps.getD a undef))

/-- Once the variable's value has been read the variable itself is given up. -/
theorem Inv.open_cell (h : Inv e σ val w β F) {t T : Nat} {v : AV} (hc : CellTo P σ t T v) (tmps : Array Value) (hv : val t = tmps.getD t undef) :
    ∃ u β', (readRes tmps (.cell t T)).run P w = .ok u w ∧ Inv e (upd (fun i => purgeV t (σ i)) t v) (upd val t u) w β' F := by
  obtain ⟨cs, hσ, hc⟩ := hc
  have hp := h.purge t
  have hr := h.rep t
  rw [hσ] at hr
  simp only [Rep] at hr
  obtain ⟨hnl, b, arr, tt, hb, hval, hh, hrl⟩ := hr
  have haddr : ∀ w, (asAddr (tmps.getD t undef)).run P w = .ok ⟨b, 0, none⟩ w := fun w => by rw [← hv, hval]; simp [asAddr]
  have hle := hrl.len
  have hrun : ∀ (u : Value), (loadVar T ⟨b, 0, none⟩).run P w = .ok u w → (readRes tmps (.cell t T)).run P w = .ok u w := fun u hu => by
    simp only [readRes, Sem.run_bind, haddr, Result.andThen_ok, hu]
  rcases hc with ⟨ht, rfl⟩ | ⟨ht, rfl⟩
  · -- an aggregate: the same places
    refine ⟨.agg (arr.toList.take cs.length).toArray, β, hrun _ ?_, ?_⟩
    · have := run_loadVar_agg (P := P) (b := b) (o := 0) ht (w := w) (vs := arr.toList.take cs.length) (by rw [List.length_take]; omega) (fun j v hj => by
        rw [cell_of hh, Nat.zero_add]
        rw [List.getElem?_take] at hj
        split at hj
        · simpa using hj
        · cases hj)
      exact this
    · have pown : ∀ q : Place, q.1 ≠ t → OwnAt (upd (fun i => purgeV t (σ i)) t (.agg cs)) q → OwnAt σ q := fun q hi hq => by
        obtain ⟨y, hy, ho⟩ := (own_upd_other hi).1 hq
        simp only [purgeV_eq] at hy
        split at hy
        · exact (undef_node hy ho).elim
        · exact ⟨y, hy, ho⟩
      have own : ∀ q, OwnAt (upd (fun i => purgeV t (σ i)) t (.agg cs)) q → OwnAt σ q := fun q ⟨y, hy, ho⟩ => by
        by_cases hi : q.1 = t
        · rw [hi, upd_same] at hy
          cases hr : q.2 with
          | nil => rw [hr] at hy; simp [node] at hy; subst hy; simp [AV.isOwn] at ho
          | cons j r =>
            rw [hr] at hy
            refine ⟨y, ?_, ho⟩
            rw [hi, hσ, hr]; exact hy
        · exact pown q hi ⟨y, hy, ho⟩
      refine ⟨fun i => ?_, fun q q' b s s' hq hq' => h.disj q q' b s s' (own q hq) (own q' hq'), fun q b s hq => h.sep q b s (own q hq), h.fr, h.kept, h.grow, h.tame⟩
      by_cases hi : i = t
      · subst hi
        rw [upd_same, upd_same]
        simp only [Rep]
        refine ⟨_, rfl, by rw [List.length_take]; omega, RepL_iff.2 fun i c hc => ?_⟩
        obtain ⟨u, hu, hru⟩ := RepL_iff.1 hrl i c hc
        have hlt : i < cs.length := by
          rcases Nat.lt_or_ge i cs.length with h | h
          · exact h
          · rw [List.getElem?_eq_none h] at hc; cases hc
        exact ⟨u, by rw [List.getElem?_take, if_pos hlt]; exact hu, hru⟩
      · rw [upd_other _ _ hi, upd_other _ _ hi]; exact hp.rep i
  · -- one cell: its places come up by one step
    obtain ⟨u, hu, hru⟩ := RepL_iff.1 hrl 0 v rfl
    refine ⟨u, fun q => if q.1 = t then β (t, 0 :: q.2) else β q, hrun _ ?_, ?_⟩
    · exact run_loadVar_one ht (by rw [cell_of hh]; simpa using hu)
    · have own : ∀ q, OwnAt (upd (fun i => purgeV t (σ i)) t v) q → OwnAt σ (if q.1 = t then (t, 0 :: q.2) else q) := fun q ⟨y, hy, ho⟩ => by
        by_cases hi : q.1 = t
        · rw [hi, upd_same] at hy
          rw [if_pos hi]
          exact ⟨y, by rw [hσ]; simp only [node, kids, List.getElem?_cons_zero]; exact hy, ho⟩
        · rw [if_neg hi]
          rw [upd_other _ _ hi] at hy
          simp only [purgeV_eq] at hy
          split at hy
          · exact (undef_node hy ho).elim
          · exact ⟨y, hy, ho⟩
      have bet : ∀ q : Place, (if q.1 = t then β (t, 0 :: q.2) else β q) = β (if q.1 = t then (t, 0 :: q.2) else q) := fun q => by split <;> rfl
      have hvr : refs v = [] := refs_of_noRef v (noRefL_mem hnl (by simp))
      refine ⟨fun i => ?_, fun q q' b s s' hq hq' hb hb' => ?_, fun q b s hq hb => h.sep _ b s (own q hq) (by rw [← bet]; exact hb), h.fr, h.kept, h.grow, h.tame⟩
      · by_cases hi : i = t
        · subst hi
          rw [upd_same, upd_same]
          exact hru.tr _ (fun b hb => ⟨hb, rfl⟩) (fun r y hy ho => ⟨by simp, fun _ _ _ => rfl⟩) (fun q hq => by rw [hvr] at hq; cases hq)
        · rw [upd_other _ _ hi, upd_other _ _ hi]
          exact (hp.rep i).tr _ (fun b hb => ⟨hb, rfl⟩) (fun r y hy ho => ⟨by simp [hi], fun _ _ _ => rfl⟩) (fun q hq => by rw [if_neg (refs_purge q hq)])
      · rw [bet] at hb hb'
        have := h.disj _ _ b s s' (own q hq) (own q' hq') hb hb'
        by_cases hi : q.1 = t <;> by_cases hi' : q'.1 = t <;> simp only [hi, hi', if_true, if_false] at this
        · simp only [Prod.mk.injEq, List.cons.injEq, true_and] at this
          exact Prod.ext (hi.trans hi'.symm) this
        · exact absurd (congrArg Prod.fst this).symm hi'
        · exact absurd (congrArg Prod.fst this) hi
        · exact this

/-- The results, read one by one. -/
def ResIs (P : Program) (N : Nat) : List ResultVar → Sig → Sig → Prop
  | [], σ, σ' => σ = σ'
  | .tmp t :: rs, σ, σ' => t < N ∧ ResIs P N rs σ σ'
  | .cell t T :: rs, σ, σ' => t < N ∧ ∃ v, CellTo P σ t T v ∧ ResIs P N rs (upd (fun i => purgeV t (σ i)) t v) σ'

theorem res_run {tmps : Array Value} : ∀ {rs : List ResultVar} {σ σ' : Sig} {val : Nat → Value} {β : Place → Option (Nat × Nat)}, ResIs P N rs σ σ' → (rs.map resSlot).Nodup → Inv e σ val w β F → (∀ t ∈ rs.map resSlot, val t = tmps.getD t undef) →
    ∃ val' β', Inv e σ' val' w β' F ∧ (rs.mapM (readRes tmps)).run P w = .ok (rs.map fun r => val' (resSlot r)) w ∧ ∀ i, i ∉ rs.map resSlot → val' i = val i
  | [], σ, σ', val, β, h, _, hi, _ => by
    simp only [ResIs] at h; subst h
    exact ⟨val, β, hi, by simp, fun _ _ => rfl⟩
  | .tmp t :: rs, σ, σ', val, β, h, hn, hi, hv => by
    simp only [List.map_cons, List.nodup_cons, resSlot] at hn
    obtain ⟨val', β', h1, h2, h3⟩ := res_run (tmps := tmps) h.2 hn.2 hi (fun t ht => hv t (by simp only [List.map_cons, List.mem_cons]; exact .inr ht))
    refine ⟨val', β', h1, ?_, fun i hi => h3 i fun hm => hi (by simp only [List.map_cons, List.mem_cons]; exact .inr hm)⟩
    have : val' t = tmps.getD t undef := by rw [h3 t hn.1]; exact hv t (by simp [resSlot])
    simp only [List.mapM_cons, readRes, Sem.run_bind, Sem.run_pure, Result.andThen_ok, h2, List.map_cons, resSlot, this]
  | .cell t T :: rs, σ, σ', val, β, h, hn, hi, hv => by
    simp only [List.map_cons, List.nodup_cons, resSlot] at hn
    obtain ⟨_, v, hc, h⟩ := h
    obtain ⟨u, β1, hrun, hi1⟩ := hi.open_cell hc tmps (hv t (by simp [resSlot]))
    obtain ⟨val', β', h1, h2, h3⟩ := res_run (tmps := tmps) h hn.2 hi1 (fun t' ht => by
      have hne : t' ≠ t := fun he => hn.1 (by rw [← he]; exact ht)
      rw [upd_other _ _ hne]
      exact hv t' (by simp only [List.map_cons, List.mem_cons]; exact .inr ht))
    refine ⟨val', β', h1, ?_, fun i hi => ?_⟩
    · have : val' t = u := by rw [h3 t hn.1, upd_same]
      simp only [List.mapM_cons, Sem.run_bind, hrun, Result.andThen_ok, h2, Sem.run_pure, List.map_cons, resSlot, this]
    · simp only [List.map_cons, List.mem_cons, not_or, resSlot] at hi
      rw [h3 i hi.2, upd_other _ _ hi.1]

theorem ResIs.lt : ∀ {rs : List ResultVar} {σ σ' : Sig}, ResIs P N rs σ σ' → ∀ t ∈ rs.map resSlot, t < N
  | [], _, _, _, t, ht => by simp at ht
  | .tmp t :: rs, σ, σ', h, u, hu => by
    simp only [List.map_cons, List.mem_cons, resSlot] at hu
    rcases hu with rfl | hu
    · exact h.1
    · exact ResIs.lt h.2 u hu
  | .cell t T :: rs, σ, σ', h, u, hu => by
    simp only [List.map_cons, List.mem_cons, resSlot] at hu
    obtain ⟨h1, v, _, h2⟩ := h
    rcases hu with rfl | hu
    · exact h1
    · exact ResIs.lt h2 u hu

theorem run_results_list {rs : List ResultVar} (hr : fn.results = rs.toArray) {tmps : Array Value} {us : List Value} (h : (rs.mapM (readRes tmps)).run P w = .ok us w) :
    (results fn tmps).run P w = .ok (packRes us) w := by
  have h' : (fn.results.mapM (readRes tmps)).run P w = .ok us.toArray w := by
    rw [hr, Array.mapM_eq_mapM_toList]
    simp [h]
  unfold results
  change ((fn.results.mapM (readRes tmps)) >>= _).run P w = _
  rw [Sem.run_bind, h', Result.andThen_ok]
  cases us with
  | nil => rfl
  | cons u us => cases us <;> rfl

/-- One result. -/
theorem retC1 {r : ResultVar} (hr : fn.results = [r].toArray) (h : ResIs P N [r] σ σ') (hN : N < INH) (hw : Weak (σ' (resSlot r)) res) (hrr : refs res = []) (ho : Leaves σ' objs2) : Returns P fn N σ res objs2 := by
  intro gv e a w ⟨hdf, hsz, β, F, hi⟩
  have hlt := h.lt (resSlot r) (by simp)
  obtain ⟨val', β1, h1, h2, h3⟩ := res_run (tmps := a.tmps) h (by simp) hi (fun t ht => by have := h.lt t ht; simp [valOf, this])
  obtain ⟨β', h4⟩ := h1.pack1 (gv := gv) (t := resSlot r) (by omega) hw hrr ho (fun i hi => by
    rw [h3 i (by simp only [List.map_cons, List.map_nil, List.mem_singleton]; omega)]; exact valOf_big hN hi)
  exact ⟨val' (resSlot r), run_results_list hr h2, β', F, h4⟩

/-- Several results. -/
theorem retCT {rs : List ResultVar} (hr : fn.results = rs.toArray) (hl : rs.length ≠ 1) (h : ResIs P N rs σ σ') (hnd : (rs.map resSlot).Nodup) (hN : N < INH) {L : List AV} (hL : (rs.map resSlot).map σ' = L) (hrr : refsL L = []) (ho : Leaves σ' objs2)
    (hp : ∀ j, purgeV N (σ' (INH + j)) = σ' (INH + j)) : Returns P fn N σ (.tup L) objs2 := by
  intro gv e a w ⟨hdf, hsz, β, F, hi⟩
  subst hL
  have hlt := h.lt
  obtain ⟨val', β1, h1, h2, h3⟩ := res_run (tmps := a.tmps) h hnd hi (fun t ht => by have := h.lt t ht; simp [valOf, this])
  have hrf : ∀ t ∈ rs.map resSlot, refs (σ' t) = [] := fun t ht => refsL_nil_mem hrr (List.mem_map.2 ⟨t, ht, rfl⟩)
  obtain ⟨β2, h4⟩ := h1.tuple hnd (G := N) (fun t ht => by have := hlt t ht; omega) hrf
  obtain ⟨β', h5⟩ := h4.pack1 (gv := gv) (t := N) (res := .tup ((rs.map resSlot).map σ')) (objs2 := objs2) hN (by rw [upd_same]; exact Weak.rfl) (by simpa [refs] using hrr) (leaves_tuple hlt hN ho hp)
    (fun i hi => by
      rw [upd_other _ _ (by omega), h3 i (fun hm => by have := hlt i hm; omega)]; exact valOf_big hN hi)
  refine ⟨_, run_results_list hr h2, β', F, ?_⟩
  rw [upd_same] at h5
  have : packRes (rs.map (fun r => val' (resSlot r))) = .tuple ((rs.map resSlot).map val').toArray := by
    match rs, hl with
    | [], _ => rfl
    | [_], hl => exact absurd rfl hl
    | _ :: _ :: _, _ => simp [Function.comp_def, packRes]
  rw [this]
  exact h5
end
end Go.Av
namespace Go.Av
open Go

section
variable {P : Program} {N : Nat} {σ σ' : Sig} {fn : Func}

theorem resIs_big : ∀ {rs : List ResultVar} {σ σ' : Sig}, N < INH → ResIs P N rs σ σ' → (∀ j, σ (INH + j) = .undef) → ∀ j, σ' (INH + j) = .undef
  | [], σ, σ', _, h, hu, j => by simp only [ResIs] at h; subst h; exact hu j
  | .tmp t :: rs, σ, σ', hN, h, hu, j => resIs_big hN h.2 hu j
  | .cell t T :: rs, σ, σ', hN, h, hu, j => by
    obtain ⟨h1, v, _, h2⟩ := h
    refine resIs_big hN h2 (fun j => ?_) j
    have hne : INH + j ≠ t := fun he => by
      have h1' : t < N := h1
      have : INH + j < INH := by rw [he]; exact Nat.lt_trans h1' hN
      omega
    rw [upd_other _ _ hne, hu j]
    simp [purgeV_eq, refs]

theorem look_big : ∀ {L : List (Nat × AV)}, (L.all fun p => decide (p.1 < INH)) = true → ∀ j, look L (INH + j) = .undef
  | [], _, j => rfl
  | (d, v) :: L, h, j => by
    simp only [List.all_cons, Bool.and_eq_true, decide_eq_true_eq] at h
    simp only [look]
    rw [upd_other _ _ (by omega)]
    exact look_big h.2 j

theorem retL {rs : List ResultVar} (L0 : List (Nat × AV)) (hH : Has σ L0) (h0 : (L0.all fun p => decide (p.1 < INH)) = true) (hr : fn.results = rs.toArray) (hl : rs.length ≠ 1) (h : ResIs P N rs (look L0) σ') (hnd : (rs.map resSlot).Nodup)
    (hN : N < INH) {L : List AV} (hL : (rs.map resSlot).map σ' = L) (hrr : refsL L = []) : Returns P fn N σ (.tup L) [] := fun gv e a w ha => by
  have hb := resIs_big hN h (look_big h0)
  exact retCT hr hl h hnd hN hL hrr Leaves.nil (fun j => by rw [hb j]; simp [purgeV_eq, refs]) gv e a w ((ent_look hH).all ha)
end
end Go.Av
namespace Go.Av
theorem l2_eq {a b c d : AV} (h : a = c) (h' : b = d) : [a, b] = [c, d] := by rw [h, h']
theorem l3_eq {a b c d e f : AV} (h : a = d) (h' : b = e) (h2 : c = f) : [a, b, c] = [d, e, f] := by rw [h, h', h2]
theorem bool_eq {a b : Bool} (h : a = b) : AV.bool a = AV.bool b := by rw [h]
theorem int_eq {k : IntKind} {a b : Int} (h : a = b) : AV.int k a = AV.int k b := by rw [h]
end Go.Av
namespace Go.Av
open Go
mutual
theorem refd_pure : ∀ (x : AV) (p : Place), pureV x = true → refd p x = x
  | .undef, _, _ | .int .., _, _ | .bool _, _, _ | .str _, _, _ | .that .., _, _ | .nilp, _, _ | .nils, _, _ | .emp, _, _ | .sl .., _, _ | .pp .., _, _ => rfl
  | .rsl .., _, h | .rp .., _, h | .tup _, _, h | .osl .., _, h | .op _, _, h | .when .., _, h => by simp [pureV] at h
  | .agg cs, p, h => by simp only [pureV] at h; simp only [refd, refdL_pure cs p 0 h]
  | .fn .., _, _ => rfl
theorem refdL_pure : ∀ (cs : List AV) (p : Place) (j : Nat), pureL cs = true → refdL p j cs = cs
  | [], _, _, _ => rfl
  | c :: cs, p, j, h => by
    simp only [pureL, Bool.and_eq_true] at h
    simp only [refdL, refd_pure c _ h.1, refdL_pure cs p (j + 1) h.2]
end
section
variable {P : Program} {N : Nat} {A : Bool} {ty : TypeId} {σ : Sig} {x : Operand}

/-- A load of a cell that owns nothing and refers to nothing. -/
theorem v_load_rp1 {t o : Nat} {q : Place} {cs : List AV} {c : AV} (ht : tyAgg P t = some (false, 1)) (hx : RdTo N A σ x (.rp q o)) (hq : blk σ q = some cs) (hc : A = true → cs[o]? = some c) (hp : pureV c = true) :
    VSem P N A (.load t x) ty σ (slots x ++ [q.1]) c := by
  have := v_load_rp (ty := ty) ht hx hq hc
  rwa [refd_pure c _ hp] at this

theorem take_get {cs xs : List AV} {o s : Nat} (h : (cs.drop o).take s = xs) : ∀ j, j < s → cs[o + j]? = xs[j]? := fun j hj => by
  rw [← h, List.getElem?_take, if_pos hj, List.getElem?_drop]

theorem v_load_rpa1 {t o s : Nat} {q : Place} {cs xs : List AV} (ht : tyAgg P t = some (true, s)) (hx : RdTo N A σ x (.rp q o)) (hq : blk σ q = some cs) (hl : xs.length = s) (hc : A = true → (cs.drop o).take s = xs) (hp : pureL xs = true) :
    VSem P N A (.load t x) ty σ (slots x ++ [q.1]) (.agg xs) := by
  have := v_load_rpa (ty := ty) ht hx hq hl (fun hA => take_get (hc hA))
  rwa [refdL_pure xs _ _ hp] at this

theorem v_load_ppa1 {t o s : Nat} {cs xs : List AV} (ht : tyAgg P t = some (true, s)) (hx : RdTo N A σ x (.pp cs o)) (hl : xs.length = s) (hc : A = true → (cs.drop o).take s = xs) (hp : pureL xs = true) :
    VSem P N A (.load t x) ty σ (slots x) (.agg xs) :=
  v_load_ppa ht hx hl (fun hA => take_get (hc hA)) hp
end
end Go.Av
namespace Go.Av
open Go
section
variable {P : Program} {N : Nat} {A : Bool} {ty : TypeId} {σ : Sig} {x y : Operand}
/-- An element's place in a row that begins at its block's begin. -/
theorem v_indexAddr_rsl0 {t sz sz' n : Nat} {cap : Option Nat} {k : IntKind} {i : Int} {q : Place} (ht : elemSize P t = some sz) (hx : RdTo N A σ x (.rsl q sz' 0 n cap)) (hy : RdTo N A σ y (.int k i))
    (hb : A = true → 0 ≤ i ∧ i < n) : VSem P N A (.indexAddr t x y) ty σ (slots x ++ slots y) (.rp q (i.toNat * sz)) := by
  have := v_indexAddr_rsl (ty := ty) ht hx hy hb
  rwa [Nat.zero_add] at this
end
end Go.Av
namespace Go.Av
theorem osl_eq {sz n : Nat} {cap : Option Nat} {cs ds : List AV} (h : cs = ds) : AV.osl sz cs n cap = AV.osl sz ds n cap := by rw [h]
end Go.Av
namespace Go.Av
open Go
section
variable {P : Program} {N : Nat} {A : Bool} {ty : TypeId} {σ : Sig} {x : Operand}
theorem v_mv {v : AV} (h : rd N σ x = v) : VSem P N A (.move x) ty σ (slots x) v := v_move (.inl h) (by rw [← h]; exact noOwn_rd x)
end
end Go.Av
namespace Go.Av
mutual
theorem sh_id : ∀ (x : AV), pureV x = true → noNil x = true → sh x = x
  | .undef, _, _ | .int .., _, _ | .bool _, _, _ | .str _, _, _ | .that .., _, _ | .nilp, _, _ | .sl .., _, _ | .pp .., _, _ => rfl
  | .nils, _, h | .emp, _, h => by simp [noNil] at h
  | .rsl .., h, _ | .rp .., h, _ | .tup _, h, _ | .osl .., h, _ | .op _, h, _ | .when .., h, _ => by simp [pureV] at h
  | .agg cs, h, h' => by simp only [pureV] at h; simp only [noNil] at h'; simp only [sh, shL_id cs h h']
  | .fn f us cs, h, h' => by
    simp only [pureV, Bool.and_eq_true] at h
    simp only [noNil, Bool.and_eq_true] at h'
    simp only [sh, shL_id us h.1 h'.1, shL_id cs h.2 h'.2]
theorem shL_id : ∀ (cs : List AV), pureL cs = true → noNilL cs = true → shL cs = cs
  | [], _, _ => rfl
  | c :: cs, h, h' => by
    simp only [pureL, Bool.and_eq_true] at h
    simp only [noNilL, Bool.and_eq_true] at h'
    simp only [shL, sh_id c h.1 h'.1, shL_id cs h.2 h'.2]
end
/-- A row that is lent. -/
theorem sl_sh {cs : List AV} {n : Nat} (h : pureL cs = true ∧ noNilL cs = true) : AV.sl (shL (cs.drop 0)) n = .sl cs n := by rw [List.drop_zero, shL_id cs h.1 h.2]
end Go.Av
namespace Go.Av
open Go

theorem acall_run {P : Program} {f : FuncId} {args : List AV} {res : AV} {vs : List Value} {W : World} (hc : ACall P f args [] res []) (hp : pureL args = true) (hl : vs.length = args.length)
    (ha : RepL (fun _ => none) (fun b => b < W.heap.size) W args (0, []) 0 vs) :
    Calls P f vs.toArray W fun e W' => ∃ v, e = .returned v ∧ (∃ β F, Rep β F W' res (0, []) v) ∧ (W.keptBut W' (fun _ => False) ∧ W.heap.size ≤ W'.heap.size) ∧ ∀ b, b < W.heap.size → W'.heap[b]? = W.heap[b]? := by
  have hinv : Inv ⟨W, fun _ => False, fun _ => True, []⟩ (argSig args []) (fun i => vs.getD i undef) W (fun _ => none) (fun b => b < W.heap.size) := by
    refine ⟨fun i => ?_, fun q q' b s s' hq => (noOwn_argSig hp q hq).elim, fun q b s hq => (noOwn_argSig hp q hq).elim, fun b hb => ⟨hb, fun _ => trivial⟩, fun _ _ _ => rfl, Nat.le_refl _, Tame.refl _⟩
    unfold argSig
    split
    · cases hx : args[i]? with
      | none => simp [Rep]
      | some c =>
        obtain ⟨u, hu, hru⟩ := RepL_iff.1 ha i c hx
        rw [List.getD_eq_getElem?_getD, hu]
        exact hru.pure_any (pureL_mem hp (List.mem_of_getElem? hx))
    · simp [Rep]
  refine (hc _ vs _ W _ _ hl (fun _ _ => rfl) hinv).mono fun en w' ⟨v, β', F', he, hi⟩ => ⟨v, he, ?_, ?_, ?_⟩
  · have := hi.rep 0
    rw [argSig_zero, upd_same] at this
    exact ⟨β', F', this⟩
  · have hk : ∀ b, b < W.heap.size → w'.heap[b]? = W.heap[b]? := fun b hb => hi.kept b hb (fun h => h)
    refine ⟨⟨hi.tame.1, hi.tame.2, fun i hlt => ?_⟩, hi.grow⟩
    rw [hk i hlt]
    cases W.heap[i]? with
    | none => rfl
    | some o => cases o <;> simp
  · exact fun b hb => hi.kept b hb (fun h => h)
end Go.Av
namespace Go.Av
open Go Go.ChangeShapes Go.WideShapes Go.ChangeAt Go.RowKit

theorem sameAt_kept {W W' : World} (h : ∀ b, b < W.heap.size → W'.heap[b]? = W.heap[b]?) {p : MemPlace} (hp : p.block < W.heap.size) : W.sameAt W' p := by
  cases p with
  | cell b o =>
    have := h b hp
    simp [World.sameAt, World.cell?, this]
  | map b =>
    have := h b hp
    simp [World.sameAt, this]

theorem trodAll_stays {H : Type} {enc : TypeId × Value → H} {P : Program} (hl : laidOutB P = true) {W W' : World} (h : ∀ b, b < W.heap.size → W'.heap[b]? = W.heap[b]?) {sp' : Nat → Bool} :
    ∀ {ts : List TypeId} {vs : List Value} {ds : List (DataW H)} {ps : List MemPlace}, (∀ t ∈ ts, P.readableRec t = true ∧ t < P.types.size) → DataW.TrodAll enc P W 0 (fun _ => true) true ts vs ds ps →
      (∀ p ∈ ps, p.block < W.heap.size) → (∀ p ∈ ps, sp' p.block = true) → DataW.TrodAll enc P W' 0 sp' true ts vs ds ps
  | [], vs, ds, ps, _, hA, _, _ => by
    obtain ⟨rfl, rfl, rfl⟩ := trodAll_nil hA
    exact trodAll_mk0
  | t :: ts, vs, ds, ps, ht, hA, hlt, hsp => by
    obtain ⟨v0, vs0, d0, ds0, p0, q0, rfl, rfl, rfl, h0, r0⟩ := trodAll_cons hA
    obtain ⟨hr, hrow⟩ := ht t (by simp)
    exact trodAll_cons_mk (WideElems.Trod_stays hl hr hrow h0 (fun p hp => sameAt_kept h (hlt p (by simp [hp]))) (fun p hp => hsp p (by simp [hp])))
      (trodAll_stays hl h (fun t ht' => ht t (by simp [ht'])) r0 (fun p hp => hlt p (by simp [hp])) (fun p hp => hsp p (by simp [hp])))
end Go.Av
namespace Go.Av
open Go Go.ChangeShapes Go.WideShapes Go.ChangeAt Go.RowKit Go.Deep

/-- Cells that read as data of type t stand for 'f a' for a good a. -/
def Opens (P : Program) (t : TypeId) {X : Type} (f : X → List AV) (good : X → Prop) : Prop :=
  ∀ (H : Type) (enc : TypeId × Value → H) (W : World) (fuel : Nat) (cs : List Value) (x : DataW H × List MemPlace), DataW.trod enc P W 0 (fun _ => true) true fuel t cs = some x →
    ∃ a : X, good a ∧ (f a).length = cs.length ∧ ∀ β p j, RepL β (fun b => b < W.heap.size) W (f a) p j cs

theorem lt_of_cell {W : World} {a : Addr} {v : Value} (h : W.cell? a = some v) : a.block < W.heap.size ∧ a.spot = none ∧ ∃ arr t fz, W.heap[a.block]? = some (.cells arr t fz) ∧ arr[a.off]? = some v := by
  have hs := World.cell?_spot h
  unfold World.cell? at h
  split at h
  · rename_i c t fz hh
    rw [hs] at h
    refine ⟨?_, hs, c, t, fz, hh, by simpa using h⟩
    rcases Nat.lt_or_ge a.block W.heap.size with h' | h'
    · exact h'
    · rw [Array.getElem?_eq_none h'] at hh; cases hh
  · cases h

theorem opens_int {P : Program} {t : TypeId} {k : IntKind} (ht : P.underlying t = some (.int k)) : Opens P t (fun n : Int => [.int k n]) (fun n => (Lit.int k n).wf = true) := by
  intro H enc W fuel cs x h
  obtain ⟨n, h1, h2, h3⟩ := DataW.trod_int ht h
  subst h1 h2
  exact ⟨n, h3, rfl, fun β p j => by simp [RepL, Rep]⟩

theorem flat_get {X : Type} {f : X → List AV} {k : Nat} {g : X → Prop} (hk : ∀ x, g x → (f x).length = k) : ∀ {xs : List X} {i : Nat}, (∀ x ∈ xs, g x) → 0 < k → (xs.flatMap f)[i]? = (xs[i / k]?).bind fun x => (f x)[i % k]?
  | [], i, _, _ => by simp
  | x :: xs, i, hg, h0 => by
    have hx := hk x (hg x (by simp))
    rw [List.flatMap_cons]
    rcases Nat.lt_or_ge i k with h | h
    · rw [List.getElem?_append_left (by omega), Nat.div_eq_of_lt h, Nat.mod_eq_of_lt h]
      simp
    · rw [List.getElem?_append_right (by omega), hx, flat_get hk (fun y hy => hg y (by simp [hy])) h0]
      obtain ⟨m, rfl⟩ : ∃ m, i = m + k := ⟨i - k, by omega⟩
      rw [Nat.add_sub_cancel, Nat.add_div_right m h0, Nat.add_mod_right]
      simp

theorem flat_pure {X : Type} {f : X → List AV} (hp : ∀ x, pureL (f x) = true) (xs : List X) : pureL (xs.flatMap f) = true :=
  pureL_iff.2 fun c hc => by
    obtain ⟨x, _, hx⟩ := List.mem_flatMap.1 hc
    exact pureL_mem (hp x) hx

theorem opens_slice {P : Program} {t e : TypeId} {X : Type} {f : X → List AV} {good : X → Prop} {k : Nat} [Inhabited X] (ht : P.underlying t = some (.slice e)) (hk : P.cellsOf e = k) (h0 : 0 < k) (he : Opens P e f good)
    (hp : ∀ x, pureL (f x) = true) : Opens P t (fun xs : List X => [.sl (xs.flatMap f) xs.length]) (fun xs => xs.length ≤ maxLen ∧ ∀ x ∈ xs, good x ∧ (f x).length = k) := by
  intro H enc W fuel cs x h
  rcases open_slice ht h with ⟨rfl, rfl⟩ | ⟨a, len, cap, m, n, D, Pl, rfl, hb, hl, hm, hmm, rfl, hx⟩
  · exact ⟨[], ⟨Nat.zero_le _, fun x hx => by cases hx⟩, rfl, fun β p j => by simp [RepL, Rep, pureL]⟩
  simp only [if_true] at hmm
  subst hmm
  rw [hk] at hx
  have hch : ∀ i, i < m → ∃ y : X × List Value, W.cells? 0 (a.add (i * k)) k = some y.2 ∧ good y.1 ∧ (f y.1).length = y.2.length ∧ ∀ β p j, RepL β (fun b => b < W.heap.size) W (f y.1) p j y.2 := fun i hi => by
    obtain ⟨cs', h1, h2⟩ := hx i hi
    obtain ⟨y, hy1, hy2, hy3⟩ := he H enc W n cs' _ h2
    exact ⟨(y, cs'), h1, hy1, hy2, hy3⟩
  obtain ⟨Y, hY⟩ := choose_lt (α := X × List Value) hch
  have hlenY : ∀ i, i < m → (Y i).2.length = k := fun i hi => (World.cells?_some (hY i hi).1).2.1
  refine ⟨(List.range len).map fun i => (Y i).1, ⟨by simpa using Nat.le_trans hl hm, fun x hx => ?_⟩, rfl, fun β p j => ?_⟩
  · obtain ⟨i, hi, rfl⟩ := List.mem_map.1 hx
    have hi' := List.mem_range.1 hi
    exact ⟨(hY i (by omega)).2.1, (hY i (by omega)).2.2.1.trans (hlenY i (by omega))⟩
  · simp only [RepL, Rep, and_true]
    refine ⟨flat_pure hp _, some a, m, by simp, by simpa using hl, fun hne => ?_⟩
    have hpos : 0 < len := by
      rcases Nat.eq_zero_or_pos len with h | h
      · subst h; simp at hne
      · exact h
    obtain ⟨hbk, hspot, arr, tt, fz, hh, _⟩ := lt_of_cell (v := ((Y 0).2)[0]'(by rw [hlenY 0 (by omega)]; exact h0)) (a := a) (W := W) (by
      have := (World.cells?_some (hY 0 (by omega)).1).2.2 0 h0
      rw [List.getElem?_eq_getElem (by rw [hlenY 0 (by omega)]; exact h0)] at this
      simpa [Addr.add] using this)
    obtain ⟨b, off, spot⟩ := a
    dsimp only at hspot hh hbk
    subst hspot
    refine ⟨b, off, arr, tt, fz, rfl, hbk, hh, RepL_iff.2 fun i c hc => ?_⟩
    have hgl : ∀ x ∈ (List.range len).map (fun i => (Y i).1), (fun x => (f x).length = k) x := fun x hx => by
      obtain ⟨i, hi, rfl⟩ := List.mem_map.1 hx
      have hi' := List.mem_range.1 hi
      exact (hY i (by omega)).2.2.1.trans (hlenY i (by omega))
    rw [flat_get (g := fun x => (f x).length = k) (fun _ h => h) hgl h0] at hc
    obtain ⟨y, hy, hc⟩ := Option.bind_eq_some_iff.1 hc
    have hilt : i / k < len := by
      rcases Nat.lt_or_ge (i / k) len with h | h
      · exact h
      · rw [List.getElem?_eq_none (by simpa using h)] at hy; cases hy
    simp only [List.getElem?_map, List.getElem?_range hilt, Option.map_some, Option.some.injEq] at hy
    subst hy
    obtain ⟨u, hu, hr⟩ := RepL_iff.1 ((hY (i / k) (by omega)).2.2.2 (fun _ => none) p i) (i % k) c hc
    have hmod := Nat.mod_lt i h0
    have hcell := (World.cells?_some (hY (i / k) (by omega)).1).2.2 (i % k) hmod
    refine ⟨u, ?_, hr.pure_any (pureL_mem (hp (Y (i / k)).1) (List.mem_of_getElem? hc))⟩
    · rw [hu] at hcell
      have he : ((⟨b, off, none⟩ : Addr).add (i / k * k)).add (i % k) = ⟨b, off + i, none⟩ := by
        rw [Go.Deep.add_add, Go.WideShapes.add_plain]
        congr 1
        have := Nat.div_add_mod i k
        rw [Nat.mul_comm] at this
        omega
      rw [he] at hcell
      have := (lt_of_cell hcell).2.2
      obtain ⟨arr', t', fz', h1, h2⟩ := this
      dsimp only at h1 h2
      rw [hh] at h1
      cases h1
      rw [List.getElem?_drop]
      simpa using h2

theorem repL_app {β : Place → Option (Nat × Nat)} {F : Nat → Prop} {W : World} : ∀ {es bs : List AV} {us vs : List Value} {p : Place} {j : Nat}, es.length = us.length → RepL β F W es p j us → RepL β F W bs p (j + es.length) vs → RepL β F W (es ++ bs) p j (us ++ vs)
  | [], bs, [], vs, p, j, _, _, h => by simpa using h
  | [], _, _ :: _, _, _, _, h, _, _ => by simp at h
  | _ :: _, _, [], _, _, _, h, _, _ => by simp at h
  | a :: es, bs, u :: us, vs, p, j, hl, h1, h2 => by
    simp only [List.cons_append, RepL] at h1 ⊢
    refine ⟨h1.1, repL_app (by simpa using hl) h1.2 ?_⟩
    rw [show j + 1 + es.length = j + (a :: es).length by simp; omega]
    exact h2

/-- Some fields of a struct, from cell 'base' on, 'tot' cells. -/
def OpensFs (P : Program) (fs : List Field) (base tot : Nat) {X : Type} (f : X → List AV) (good : X → Prop) : Prop :=
  ∀ (H : Type) (enc : TypeId × Value → H) (W : World) (n : Nat) (cs : List Value), (∀ fd ∈ fs, ∃ x, DataW.trod enc P W 0 (fun _ => true) true n fd.type ((cs.drop fd.offset).take (P.cellsOf fd.type)) = some x) → base + tot ≤ cs.length →
    ∃ a : X, good a ∧ (f a).length = tot ∧ ∀ β p j, RepL β (fun b => b < W.heap.size) W (f a) p j ((cs.drop base).take tot)

theorem opensFs_one {P : Program} {fd : Field} {base k : Nat} {X : Type} {f : X → List AV} {good : X → Prop} (ho : fd.offset = base) (hk : P.cellsOf fd.type = k) (h : Opens P fd.type f good) : OpensFs P [fd] base k f good := by
  intro H enc W n cs hx hl
  obtain ⟨x, hx⟩ := hx fd (by simp)
  rw [ho, hk] at hx
  obtain ⟨a, h1, h2, h3⟩ := h H enc W n _ x hx
  exact ⟨a, h1, h2.trans (by simp; omega), h3⟩

theorem opensFs_cons {P : Program} {fd : Field} {fs : List Field} {base k tot : Nat} {X Y : Type} {f : X → List AV} {g : Y → List AV} {good : X → Prop} {good' : Y → Prop} (ho : fd.offset = base) (hk : P.cellsOf fd.type = k) (h : Opens P fd.type f good)
    (hs : OpensFs P fs (base + k) tot g good') : OpensFs P (fd :: fs) base (k + tot) (fun x : X × Y => f x.1 ++ g x.2) (fun x => good x.1 ∧ good' x.2) := by
  intro H enc W n cs hx hl
  obtain ⟨b, g1, g2, g3⟩ := hs H enc W n cs (fun fd hfd => hx fd (by simp [hfd])) (by omega)
  obtain ⟨x, hx⟩ := hx fd (by simp)
  rw [ho, hk] at hx
  obtain ⟨a, h1, h2, h3⟩ := h H enc W n _ x hx
  refine ⟨(a, b), ⟨h1, g1⟩, by simp [h2, g2]; omega, fun β p j => ?_⟩
  have e : (cs.drop base).take (k + tot) = (cs.drop base).take k ++ (cs.drop (base + k)).take tot := by
    rw [List.take_add, List.drop_drop]
  rw [e]
  exact repL_app h2 (h3 β p j) (g3 β p _)

theorem opens_struct {P : Program} {t : TypeId} {fs : Array Field} {tot : Nat} {X : Type} {f : X → List AV} {good : X → Prop} (ht : P.underlying t = some (.struct fs)) (hk : P.cellsOf t = tot) (h : OpensFs P fs.toList 0 tot f good) : Opens P t f good := by
  intro H enc W fuel cs x hx
  obtain ⟨xs, n, rfl, rfl, hl, hxs, hall⟩ := DataW.trod_struct ht hx
  obtain ⟨a, h1, h2, h3⟩ := h H enc W n cs (fun fd hfd => by
    obtain ⟨i, hi⟩ := List.getElem?_of_mem hfd
    have hi' : fs[i]? = some fd := by simpa using hi
    have hlt : i < fs.size := by
      rcases Nat.lt_or_ge i fs.size with h | h
      · exact h
      · rw [Array.getElem?_eq_none h] at hi'; cases hi'
    have := hall i fd hi'
    rw [List.getElem?_eq_getElem (by omega)] at this
    exact ⟨_, this⟩) (by omega)
  refine ⟨a, h1, h2.trans (by omega), fun β p j => ?_⟩
  have := h3 β p j
  rwa [List.drop_zero, List.take_of_length_le (by omega)] at this

/-- A value, whole. -/
def OpensV (P : Program) (t : TypeId) {X : Type} (f : X → AV) (good : X → Prop) : Prop :=
  ∀ (H : Type) (enc : TypeId × Value → H) (W : World) (base : Nat) (v : Value) (d : DataW H) (ps : List MemPlace), Value.okWide P W .any base t v → DataW.Trod enc P W 0 (fun _ => true) true t v d ps →
    ∃ a : X, good a ∧ ∀ β p, Rep β (fun b => b < W.heap.size) W (f a) p v

theorem opensV_one {P : Program} {t : TypeId} {X : Type} {f : X → AV} {good : X → Prop} (hn : ∀ W base cs, ¬ Value.okWide P W .any base t (.agg cs)) (h : Opens P t (fun x => [f x]) good) (hp : ∀ x, pureV (f x) = true) : OpensV P t f good := by
  intro H enc W base v d ps hv ⟨fuel, hd⟩
  obtain ⟨a, h1, h2, h3⟩ := h H enc W fuel _ _ hd
  refine ⟨a, h1, fun β p => ?_⟩
  have hc : v.cells.toList = [v] := by
    cases v with
    | agg cs => exact (hn W base cs hv).elim
    | _ => rfl
  rw [hc] at h3
  exact (h3 (fun _ => none) p 0).1.pure_any (hp a)

theorem ok_scalar {P : Program} {t : TypeId} (h : match P.underlying t with | some (.int _) => true | some .bool => true | some .string => true | some (.slice _) => true | _ => false) : ∀ W base cs, ¬ Value.okWide P W .any base t (.agg cs) := by
  intro W base cs hv
  unfold Value.okWide at hv
  split at h
  case h_5 => cases h
  all_goals
    rename_i hu
    rw [hu] at hv
    unfold Cell.okWide Cell.ok at hv
    rw [hu] at hv
    exact hv

/-- The arguments, all. -/
def OpenArgs (P : Program) (ts : List TypeId) (R : List AV → Prop) : Prop :=
  ∀ (H : Type) (enc : TypeId × Value → H) (W : World) (base : Nat) (vs : List Value) (ds : List (DataW H)) (ps : List MemPlace), (∀ (j : Nat) t v, ts[j]? = some t → vs[j]? = some v → Value.okWide P W .any base t v) →
    DataW.TrodAll enc P W 0 (fun _ => true) true ts vs ds ps → ∃ avs, R avs ∧ avs.length = vs.length ∧ ds.length = ts.length ∧ ∀ β p j, RepL β (fun b => b < W.heap.size) W avs p j vs

theorem openArgs_nil {P : Program} : OpenArgs P [] (fun avs => avs = []) := by
  intro H enc W base vs ds ps _ hA
  obtain ⟨rfl, rfl, rfl⟩ := trodAll_nil hA
  exact ⟨[], rfl, rfl, rfl, fun β p j => by simp [RepL]⟩

theorem openArgs_cons {P : Program} {t : TypeId} {ts : List TypeId} {X : Type} {f : X → AV} {good : X → Prop} {R : List AV → Prop} (h : OpensV P t f good) (hs : OpenArgs P ts R) :
    OpenArgs P (t :: ts) (fun avs => ∃ a avs', avs = f a :: avs' ∧ good a ∧ R avs') := by
  intro H enc W base vs ds ps hv hA
  obtain ⟨v0, vs0, d0, ds0, p0, q0, rfl, rfl, rfl, h0, r0⟩ := trodAll_cons hA
  obtain ⟨a, ha, hr⟩ := h H enc W base v0 d0 p0 (hv 0 t v0 rfl rfl) h0
  obtain ⟨avs, h1, h2, h3, h4⟩ := hs H enc W base vs0 ds0 q0 (fun j t' v h h' => hv (j + 1) t' v (by simpa using h) (by simpa using h')) r0
  exact ⟨f a :: avs, ⟨a, avs, rfl, ha, h1⟩, by simp [h2], by simp [h3], fun β p j => by simp only [RepL]; exact ⟨hr _ _, h4 _ _ _⟩⟩

/-- What a row asks, of a world that has only grown (what is new may be frozen). -/
theorem post_of_grown {H : Type} {enc : TypeId × Value → H} {P : Program} {f : Func} {s : ChangeSpec} {apart fresh handsOn again : Bool} {W W' : World} {args : Array Value} {v : Value} {ds gs : List (DataW H)} {before pa pv : List MemPlace}
    (hW : DataW.Whole enc P f.params.toList s.vars apart W args.toList ds gs before)
    (hres : ∀ (b : Nat) (sp : Nat → Bool) (hd : Bool), DataW.TrodAll enc P W' b sp hd f.resultTypes.toList (v.resultList f.resultTypes.size) (s.fn H (ds ++ gs)).results [])
    (hargs : ∀ sp : Nat → Bool, (∀ p ∈ before, sp p.block = true) → DataW.TrodAll enc P W' 0 sp true f.params.toList args.toList (s.fn H (ds ++ gs)).args pa)
    (hvars : ∀ sp : Nat → Bool, (∀ p ∈ before, sp p.block = true) → DataW.TrodVars enc P W' sp s.vars (s.fn H (ds ++ gs)).vars pv)
    (hps : before = pa ++ pv) (hk : W.keptBut W' (fun _ => False)) (ho : ∀ b, b < W.heap.size → W'.heap[b]? = W.heap[b]?)
    (hok : ∀ (j : Nat) (t : TypeId) (r : Value), f.resultTypes[j]? = some t → (v.resultList f.resultTypes.size)[j]? = some r → Value.okWide P W' .any 0 t r) :
    s.post enc P f apart fresh handsOn again W args v W' := by
  have hlt := hW.lt
  have hlt' : ∀ p ∈ before, decide (p.block < W.heap.size) = true := fun p hp => by simpa using hlt p hp
  refine ⟨ds, gs, before, [], pa, pv, hW, hres _ _ _, hargs _ hlt', hvars _ hlt', World.keptBut_mono (fun p hp => hp.elim) hk, fun _ => ⟨hok, _, _, pa ++ pv, ⟨pa, pv, trodAll_append (hargs _ (fun _ _ => rfl)) (hres _ _ _), hvars _ (fun _ _ => rfl), rfl, fun b off hp => ?_, fun ha => ?_⟩, fun p hp _ => ?_⟩⟩
  · obtain ⟨_, _, _, _, _, hz, _⟩ := hW
    rw [← hps] at hp
    have hl := hlt _ hp
    have := hz b off hp
    simp only [World.frozen?] at this ⊢
    rw [show W'.heap[b]? = W.heap[b]? from ho b hl]
    exact this
  · obtain ⟨_, _, _, _, _, _, hn⟩ := hW
    have := hn ha
    rwa [hps] at this
  · rw [hps]; simpa using hp

end Go.Av
namespace Go.Av
open Go


end Go.Av
namespace Go.Av
open Go

section
variable {β : Place → Option (Nat × Nat)} {F : Nat → Prop} {w : World}

end

section
variable {e : Ctx} {σ τ : Sig} {val : Nat → Value} {w w' : World} {β : Place → Option (Nat × Nat)} {F : Nat → Prop}

end

/-- Is the place p under q? Then the rest of the way. -/
def underP (q p : Place) : Option (List Nat) := if p.1 == q.1 && q.2.isPrefixOf p.2 then some (p.2.drop q.2.length) else none
theorem underP_spec {q p : Place} {t : List Nat} (h : underP q p = some t) : p = (q.1, q.2 ++ t) := by
  unfold underP at h
  split at h
  · rename_i hc
    simp only [Bool.and_eq_true, beq_iff_eq] at hc
    simp only [Option.some.injEq] at h
    obtain ⟨s, hs⟩ := List.isPrefixOf_iff_prefix.1 hc.2
    rw [← hs, List.drop_left] at h
    exact Prod.ext hc.1 (by rw [← hs, h])
  · cases h

mutual
/-- A slot's value as it is handed to a function that may write into what lies at q. -/
def passV (q : Place) (σ : Sig) : AV → AV
  | .rsl p sz off n cap => match underP q p with
    | some t => .rsl (INH, t) sz off n cap
    | none => snapV σ (.rsl p sz off n cap)
  | .rp p off => match underP q p with
    | some t => .rp (INH, t) off
    | none => snapV σ (.rp p off)
  | .agg cs => .agg (passL q σ cs)
  | .fn f us cs => .fn f (passL q σ us) (passL q σ cs)
  | x => snapV σ x
def passL (q : Place) (σ : Sig) : List AV → List AV
  | [] => []
  | c :: cs => passV q σ c :: passL q σ cs
end
theorem passL_eq (q : Place) (σ : Sig) (cs : List AV) : passL q σ cs = cs.map (passV q σ) := by
  induction cs with
  | nil => rfl
  | cons c cs ih => simp [passL, ih]
theorem scalar_pass {q : Place} {σ : Sig} {x : AV} (h : scalar x = true) : scalar (passV q σ x) = true := by
  cases x <;> simp only [passV] <;> first | (split <;> first | rfl | exact scalar_snap h) | exact scalar_snap h | (simp [scalar] at h)
theorem scalar_passL {q : Place} {σ : Sig} {cs : List AV} (h : scalarL cs = true) : scalarL (passL q σ cs) = true := by
  rw [passL_eq]
  simp only [scalarL, List.all_eq_true, List.mem_map] at h ⊢
  rintro _ ⟨c, hc, rfl⟩
  exact scalar_pass (h c hc)

/-- The places of an object that is handed over. -/
def passB (q : Place) (β : Place → Option (Nat × Nat)) : Place → Option (Nat × Nat) := fun p => if p.1 = INH then β (q.1, q.2 ++ p.2) else none

section
variable {e : Ctx} {σ : Sig} {val : Nat → Value} {w : World} {β : Place → Option (Nat × Nat)} {F : Nat → Prop}
mutual
theorem Inv.pass (h : Inv e σ val w β F) (q : Place) : ∀ (x : AV) {p p' : Place} {v : Value}, Rep β F w x p v → NoOwn x → Rep (passB q β) (lent σ β F) w (passV q σ x) p' v
  | .undef, _, _, _, hr, hn | .int .., _, _, _, hr, hn | .bool _, _, _, _, hr, hn | .str _, _, _, _, hr, hn | .that .., _, _, _, hr, hn | .nilp, _, _, _, hr, hn | .nils, _, _, _, hr, hn | .emp, _, _, _, hr, hn
  | .sl .., _, _, _, hr, hn | .pp .., _, _, _, hr, hn | .tup _, _, _, _, hr, hn | .when .., _, _, _, hr, hn | .osl .., _, _, _, hr, hn | .op _, _, _, _, hr, hn => by simp only [passV]; exact h.snap _ hr hn
  | .rsl p sz off n cap, _, _, _, hr, hn => by
    simp only [passV]
    split
    · rename_i t ht
      have := underP_spec ht
      subst this
      simpa [Rep, passB] using hr
    · exact h.snap _ hr hn
  | .rp p off, _, _, _, hr, hn => by
    simp only [passV]
    split
    · rename_i t ht
      have := underP_spec ht
      subst this
      simpa [Rep, passB] using hr
    · exact h.snap _ hr hn
  | .agg cs, _, _, _, hr, hn => by
    simp only [passV, Rep] at hr ⊢
    obtain ⟨vs, rfl, hl, hr⟩ := hr
    exact ⟨vs, rfl, by rw [passL_eq]; simpa using hl, Inv.passL h q cs hr (fun i c hc r y hy => hn (i :: r) y (by simp [node, kids, hc, hy]))⟩
  | .fn f us cs, _, _, _, hr, hn => by
    simp only [passV, Rep] at hr ⊢
    obtain ⟨vs, ws, rfl, hl, hl', hs, hs', hr, hr'⟩ := hr
    exact ⟨vs, ws, rfl, by rw [passL_eq]; simpa using hl, by rw [passL_eq]; simpa using hl', scalar_passL hs, scalar_passL hs',
      Inv.passL h q us hr (fun i c hc => noOwn_scalar (scalarL_mem hs (List.mem_of_getElem? hc))), Inv.passL h q cs hr' (fun i c hc => noOwn_scalar (scalarL_mem hs' (List.mem_of_getElem? hc)))⟩
theorem Inv.passL (h : Inv e σ val w β F) (q : Place) : ∀ (cs : List AV) {p p' : Place} {j : Nat} {vs : List Value}, RepL β F w cs p j vs → (∀ (i : Nat) c, cs[i]? = some c → NoOwn c) → RepL (passB q β) (lent σ β F) w (Av.passL q σ cs) p' j vs
  | [], _, _, _, _, _, _ => by simp [Av.passL, RepL]
  | c :: cs, _, _, _, [], hr, _ => by simp [RepL] at hr
  | c :: cs, p, p', j, v :: vs, hr, hn => by
    simp only [RepL, Av.passL] at hr ⊢
    exact ⟨Inv.pass h q c hr.1 (hn 0 c rfl), Inv.passL h q cs hr.2 (fun i d hd => hn (i + 1) d (by simpa using hd))⟩
end
end

section
variable {P : Program} {e : Ctx} {σ τ : Sig} {val : Nat → Value} {w : World} {β : Place → Option (Nat × Nat)} {F : Nat → Prop}

end

section
variable {P : Program} {N : Nat} {σ τ : Sig} {o : Oper} {d : Nat}

theorem noOwn_snap {σ : Sig} {x : AV} : NoOwn (snapV σ x) := fun _ _ hy => noOwn_pure (pure_snap _ _) hy
mutual
theorem noOwn_passV (q : Place) (σ : Sig) : ∀ x : AV, NoOwn x → NoOwn (passV q σ x)
  | .undef, _ | .int .., _ | .bool _, _ | .str _, _ | .that .., _ | .nilp, _ | .nils, _ | .emp, _ | .sl .., _ | .pp .., _ | .tup _, _ | .when .., _ | .osl .., _ | .op _, _ => by simp only [passV]; exact noOwn_snap
  | .rsl .., _ | .rp .., _ => by
    simp only [passV]
    split
    · exact noOwn_scalar rfl
    · exact noOwn_snap
  | .agg cs, hn => fun r y hy => by
    cases r with
    | nil => simp [node, passV] at hy; subst hy; rfl
    | cons j r =>
      simp only [node, passV, kids] at hy
      cases hc : (passL q σ cs)[j]? with
      | none => rw [hc] at hy; cases hy
      | some c =>
        rw [hc] at hy
        exact noOwn_passL q σ cs (fun c hc r y hy => by
          obtain ⟨i, hi⟩ := List.getElem?_of_mem hc
          exact hn (i :: r) y (by simp [node, kids, hi, hy])) c (List.mem_of_getElem? hc) r y hy
  | .fn f us cs, _ => fun r y hy => by
    cases r with
    | nil => simp [node, passV] at hy; subst hy; rfl
    | cons j r => simp [node, passV, kids] at hy
theorem noOwn_passL (q : Place) (σ : Sig) : ∀ cs : List AV, (∀ c ∈ cs, NoOwn c) → ∀ c ∈ passL q σ cs, NoOwn c
  | [], _, c, hc => by simp [passL] at hc
  | x :: cs, h, c, hc => by
    simp only [passL, List.mem_cons] at hc
    rcases hc with rfl | hc
    · exact noOwn_passV q σ x (h x (by simp))
    · exact noOwn_passL q σ cs (fun c hc => h c (by simp [hc])) c hc
end
end
end Go.Av
namespace Go.Av
open Go

section
variable {e : Ctx} {σ : Sig} {val : Nat → Value} {w : World} {β : Place → Option (Nat × Nat)} {F : Nat → Prop}

/-- A slot that holds nil or an empty slice may be taken for a row that it owns. -/
theorem ent_nil {t sz : Nat} {cap : Option Nat} (h : σ t = .nils ∨ σ t = .emp) (hc : ∀ c, cap = some c → c = 0) : Ent σ (upd (fun i => purgeV t (σ i)) t (.osl sz [] 0 cap)) := fun e val w β F hi => by
  have hr := hi.rep t
  have : ∃ a, val t = .slice a 0 0 := by
    rcases h with h | h <;> rw [h] at hr <;> simp only [Rep] at hr
    · exact ⟨none, hr⟩
    · exact hr
  obtain ⟨a, ha⟩ := this
  obtain ⟨β', h'⟩ := hi.new_virt t sz a hc
  rw [← ha, upd_self] at h'
  exact ⟨β', h'⟩

theorem Det.lt {c : AV} {u : Value} {δ : List Nat → Option (Nat × Nat)} (h : Det e σ w β F c u δ) {r : List Nat} {y : AV} {b s : Nat} (hy : node c r = some y) (ho : y.isOwn = true) (hb : δ r = some (b, s)) : b < w.heap.size := by
  obtain ⟨v, hv⟩ := h.rep.sub hy
  exact hv.own_lt ho (by simpa using hb)

end

def sliceLit (t n : Nat) (parts : List (Nat × Operand)) : Op := .buildSlice t n parts.toArray

/-- What a slice literal's type must be: the size of an element, its zero cells. -/
def litTy (P : Program) (t : Nat) : Option (Nat × List AV) :=
  match P.underlying t with
  | some (.slice el) => match P.info? el with
    | some i => match i.zero with
      | some z => if z.cells.size = i.size then some (i.size, z.cells.toList.map cstS) else none
      | none => none
    | none => none
  | _ => none

theorem litTy_spec {P : Program} {t sz : Nat} {zs : List AV} (h : litTy P t = some (sz, zs)) :
    ∃ el i z, P.underlying t = some (.slice el) ∧ P.info? el = some i ∧ i.zero = some z ∧ i.size = sz ∧ z.cells.size = sz ∧ zs = z.cells.toList.map cstS := by
  unfold litTy at h
  split at h
  · rename_i el hu
    split at h
    · rename_i i hi
      split at h
      · rename_i z hz
        split at h
        · rename_i hs
          simp only [Option.some.injEq, Prod.mk.injEq] at h
          exact ⟨el, i, z, hu, hi, hz, h.1, hs.trans h.1, h.2.symm⟩
        · cases h
      · cases h
    · cases h
  · cases h

section
variable {P : Program} {N : Nat} {A : Bool} {σ : Sig} {ty : TypeId} {o : Oper} {d : Nat}

theorem run_lit {t n sz : Nat} {zs : List AV} (h : litTy P t = some (sz, zs)) (hsm : n * sz ≤ 16777216) :
    ∃ (el : TypeId) (arr0 : Array Value), (∀ (β : Place → Option (Nat × Nat)) (F : Nat → Prop) (w : World), CellsAre β F w (rep n zs) arr0) ∧
      ∀ (parts : Array (Nat × Value)) (cells : Array Value) (w : World), Instr.fill (fun i => some (i * sz, sz)) arr0 parts.toList = some cells →
        (Instr.buildSlice t n parts).run P w = .ok (.slice (some ⟨w.heap.size, 0, none⟩) n n) (w.alloc (.cells cells el)) := by
  obtain ⟨el, i, z, hu, hi, hz, rfl, hzs, rfl⟩ := litTy_spec h
  have hs : ¬ 16777216 < n * i.size := by omega
  refine ⟨el, (Array.range (n * i.size)).map (z.cells[· % z.cells.size]!), fun β F w => ⟨by rw [rep_length]; simp [hzs], fun c hc => ?_, RepL_iff.2 fun j c hc => ?_⟩, fun parts cells w hf => ?_⟩
  · simp only [rep, List.mem_flatten] at hc
    obtain ⟨l, hl, hc⟩ := hc
    rw [List.eq_of_mem_replicate hl] at hc
    obtain ⟨v, _, rfl⟩ := List.mem_map.1 hc
    exact noOwn_scalar (scalar_cstS v)
  · have hlt : j < n * i.size := by
      rcases Nat.lt_or_ge j (n * i.size) with h | h
      · exact h
      · rw [List.getElem?_eq_none (by rw [rep_length]; simp [hzs]; exact h)] at hc; cases hc
    have hpos : 0 < i.size := Nat.pos_of_ne_zero fun h => by rw [h] at hlt; simp at hlt
    have hmod : j % i.size < z.cells.size := by rw [hzs]; exact Nat.mod_lt _ hpos
    rw [rep_get (by simp [hzs, hpos]) (by simp [hzs]; exact hlt)] at hc
    simp only [List.length_map, Array.length_toList, hzs, List.getElem?_map] at hc
    refine ⟨z.cells[j % i.size], by
      simp only [Array.toList_map, List.getElem?_map]
      simp [hlt, hzs]
      exact getElem!_pos z.cells _ hmod, ?_⟩
    have : z.cells.toList[j % i.size]? = some z.cells[j % i.size] := by simp [hmod]
    rw [this] at hc
    simp only [Option.map_some, Option.some.injEq] at hc
    subst hc
    exact rep_cstS _ _
  · by_cases h0 : n * i.size = 0
    · have e : (Array.range (n * i.size)).map (z.cells[· % z.cells.size]!) = #[] := by
        rw [h0]; simp
      rw [e] at hf
      have e2 : ∀ g : Nat → Value, Array.map g (Array.range 0) = #[] := fun g => by simp
      simp [Instr.buildSlice, run_underlying hu, sizeOf, typeInfo, hi, h0, newRow, e2, hf]
    · simp [Instr.buildSlice, run_underlying hu, sizeOf, typeInfo, zeroValue, hi, hz, hs, h0, hf, newRow]

/-- A slice literal of values that own nothing. -/
theorem q_sliceLit {t n sz : Nat} {zs cs : List AV} {parts : List (Nat × Operand)} (h : litTy P t = some (sz, zs)) (hsm : Nat.ble (n * sz) 16777216 = true)
    (hf : fillA (fun i => some (i * sz, sz)) (rep n zs) (parts.map fun x => (x.1, rd N σ x.2)) = some cs) (hl : Nat.beq cs.length (n * sz) = true) (hp : pureL cs = true) :
    QSem P N A (sliceLit t n parts) ty σ (slotsL (parts.map (·.2))) (.osl sz cs n (some n)) := by
  intro hA σ' hD gv e a w β F hi d o ho hty K Q hK
  obtain ⟨el, arr0, harr, hrun⟩ := run_lit h (Nat.le_of_ble_eq_true hsm)
  obtain ⟨cells, he, hc1, hc2, hc3⟩ := fill_spec (β := β) (F := F) (w := w) (parts.map fun x => (x.1, rd N σ x.2)) (parts.map fun x => (x.1, a.eval x.2)) _ arr0 cs (harr β F w) (by simp)
      (fun j i v hj => by
        rw [List.getElem?_map] at hj
        cases hp : parts[j]? with
        | none => rw [hp] at hj; cases hj
        | some x =>
          rw [hp] at hj
          simp only [Option.map_some, Option.some.injEq, Prod.mk.injEq] at hj
          obtain ⟨rfl, rfl⟩ := hj
          refine ⟨noOwn_rd _, a.eval x.2, (0, []), by rw [List.getElem?_map, hp]; rfl, ?_⟩
          have := rd_rep hi x.2 (0, [])
          rwa [rd_agree (fun i hi' => hD i (List.mem_flatMap.2 ⟨x.2, List.mem_map.2 ⟨x, List.mem_of_getElem? hp, rfl⟩, hi'⟩))] at this) hf
  have hr := hrun (parts.map fun x => (x.1, a.eval x.2)).toArray cells w (by simpa using he)
  obtain ⟨β', h'⟩ := hi.new_osl (us := cells.toList) (by simpa using hc1) hc3 hp el d (arr := cells) (sz := sz) (n := n) (capv := n) (cap := some n) (fun j x hx => hx) (by rw [hc1]; exact Nat.eq_of_beq_eq_true hl) (Nat.le_refl _) (fun c hc => by cases hc; rfl)
  refine wp_value (v := .slice (some ⟨w.heap.size, 0, none⟩) n n) (w' := w.alloc (.cells cells el)) ?_ (hK _ _ ⟨β', F, h'⟩)
  simp only [execOp, ho, sliceLit, List.map_toArray, hr, Sem.run_bind, Sem.run_pure, Result.andThen_ok]

end
end Go.Av
namespace Go.Av
open Go

theorem Weak.osl {sz n n' : Nat} {cap : Option Nat} {cs cs' : List AV} (h : cs = cs') (hn : n = n') : Weak (.osl sz cs n cap) (.osl sz cs' n' none) := by
  subst h hn
  refine ⟨fun β F w p v hr => ?_, fun r z hz ho => ?_⟩
  · simp only [Rep] at hr ⊢
    rcases hr with ⟨h1, h2, h3, h4, _⟩ | ⟨h0, b, capv, arr, t, h1, h2, h3, _, h5⟩
    · exact .inl ⟨h1, h2, h3, h4, fun c hc => by cases hc⟩
    · exact .inr ⟨h0, b, capv, arr, t, h1, h2, h3, (fun c hc => by cases hc), h5⟩
  · cases r with
    | nil => exact ⟨.osl sz cs n cap, _root_.rfl, _root_.rfl⟩
    | cons j r => exact ⟨z, by simpa [node, kids] using hz, ho⟩
theorem Weak.rsl {q : Place} {sz off n n' : Nat} {cap : Option Nat} (hn : n = n') : Weak (.rsl q sz off n cap) (.rsl q sz off n' none) := by
  subst hn
  refine ⟨fun β F w p v hr => ?_, fun r z hz ho => ?_⟩
  · simp only [Rep] at hr ⊢
    rcases hr with ⟨h1, h2, h3, _⟩ | ⟨b, capv, h1, h2, h3, _⟩
    · exact .inl ⟨h1, h2, h3, fun c hc => by cases hc⟩
    · exact .inr ⟨b, capv, h1, h2, h3, fun c hc => by cases hc⟩
  · cases r with
    | nil => simp [node] at hz; subst hz; simp [AV.isOwn] at ho
    | cons j r => simp [node, kids] at hz
theorem agg_eq {cs cs' : List AV} (h : cs = cs') : AV.agg cs = AV.agg cs' := by rw [h]
theorem str_eq {a b : ByteArray} (h : a = b) : AV.str a = AV.str b := by rw [h]
section
variable {N : Nat} {A : Bool} {σ : Sig} {x : Operand}
theorem src_lit {q : Place} {sz m : Nat} {cap : Option Nat} {ns : List AV} (hx : RdTo N A σ x (.rsl q sz 0 m cap)) (hq : blk σ q = some ns) (hl : ns.length = m * sz) (hp : pureL ns = true) : SrcIs N A σ x sz m ns (slots x ++ [q.1]) := by
  have h := src_rsl (m := m) hx hq (fun _ => by omega) (by simpa [hl.symm] using hp)
  rwa [List.drop_zero, List.take_of_length_le (by omega)] at h
end

theorem VSem.cast {P : Program} {N : Nat} {A : Bool} {o : Op} {ty : TypeId} {σ : Sig} {D : List Nat} {v v' : AV} (h : VSem P N A o ty σ D v) (e : v = v') : VSem P N A o ty σ D v' := e ▸ h
theorem QSem.cast {P : Program} {N : Nat} {A : Bool} {o : Op} {ty : TypeId} {σ : Sig} {D : List Nat} {v v' : AV} (h : QSem P N A o ty σ D v) (e : v = v') : QSem P N A o ty σ D v' := e ▸ h
/-- A slot's value, said otherwise. -/
theorem ent_eq {σ : Sig} {t : Nat} {v' : AV} (h : Weak (σ t) v') : Ent σ (upd σ t v') := ent_weak fun i => by
  by_cases hi : i = t
  · subst hi; rw [upd_same]; exact h
  · rw [upd_other _ _ hi]; exact Weak.rfl
end Go.Av
namespace Go.Av
open Go Go.Proofs
set_option maxRecDepth 10000
def inR (n lo hi : Int) : Bool := decide (lo ≤ n) && decide (n ≤ hi)
def prime (p vars : Int) : Bool := (decide (p = 2) || decide (p = 3) || decide (p = 5)) && inR vars 0 6
theorem pow6 {v : Int} (h : 0 ≤ v ∧ v ≤ 6) : 1 ≤ (2 : Int) ^ v.toNat ∧ (2 : Int) ^ v.toNat ≤ 64 := by
  obtain ⟨n, rfl⟩ := Int.eq_ofNat_of_zero_le h.1
  have hn : n ≤ 6 := by omega
  simp only [Int.toNat_natCast]
  match n, hn with
  | 0, _ => decide
  | 1, _ => decide
  | 2, _ => decide
  | 3, _ => decide
  | 4, _ => decide
  | 5, _ => decide
  | 6, _ => decide
theorem mixed : Tryd.prog.follows .mixedOrders = true := by kernel_rfl
theorem fo33_0 : fieldOff Tryd.prog 33 0 = some 0 := by kernel_rfl
theorem fo33_1 : fieldOff Tryd.prog 33 1 = some 1 := by kernel_rfl
theorem fo37_0 : fieldOff Tryd.prog 37 0 = some 0 := by kernel_rfl
theorem fo37_1 : fieldOff Tryd.prog 37 1 = some 1 := by kernel_rfl
theorem hb19 : hasBody Tryd.prog 19 = true := by kernel_rfl
theorem hb20 : hasBody Tryd.prog 20 = true := by kernel_rfl
theorem sp39 : structPl Tryd.prog 39 = some ([.int .i64 0, .int .i64 0], [(0, 1), (1, 1)]) := by kernel_rfl
theorem ta3 : tyAgg Tryd.prog 3 = some (false, 1) := by kernel_rfl
theorem ta33 : tyAgg Tryd.prog 33 = some (true, 2) := by kernel_rfl
theorem ta39 : tyAgg Tryd.prog 39 = some (true, 2) := by kernel_rfl
theorem zc33 : zeroCells Tryd.prog 33 = some [.int .i64 0, .int .i64 0] := by kernel_rfl
theorem zc39 : zeroCells Tryd.prog 39 = some [.int .i64 0, .int .i64 0] := by kernel_rfl

theorem l1In_c (n lo hi : Int) : ACall Tryd.prog 19 [.int .i64 n, .int .i64 lo, .int .i64 hi] [] (.bool (inR n lo hi)) [] := by
  refine ACall.intro Tryd.func19 rfl (N := 15) rfl (by decide) (by simp) ?_
  refine a_seq ?_
  refine a_region ?_
  refine r_val (v := .bool _) (v_assign (.inl rfl) (noOwn_flat rfl)) rfl rfl (by decide) ?_
  refine r_nil ?_
  refine a_seq ?_
  refine a_region ?_
  refine r_val (v := .int _ _) (v_move (.inl rfl) (noOwn_flat rfl)) rfl rfl (by decide) ?_
  refine r_val (v := .int _ _) (v_move (.inl rfl) (noOwn_flat rfl)) rfl rfl (by decide) ?_
  refine r_val (v := .bool _) (v_geq (.inl rfl) (.inl rfl)) rfl rfl (by decide) ?_
  refine r_val (v := .bool _) (v_move (.inl rfl) (noOwn_flat rfl)) rfl rfl (by decide) ?_
  refine r_gval (v := .int _ _) (v_move (.inl rfl) (noOwn_flat rfl)) rfl rfl rfl (by decide) (.inl ⟨_, rfl, rfl⟩) rfl (by decide) ?_
  refine r_gval (v := .int _ _) (v_move (.inl rfl) (noOwn_flat rfl)) rfl rfl rfl (by decide) (.inl ⟨_, rfl, rfl⟩) rfl (by decide) ?_
  refine r_gval (v := .bool _) (v_leq (.inr ⟨_, rfl, fun h => h⟩) (.inr ⟨_, rfl, fun h => h⟩)) rfl rfl rfl (by decide) (.inl ⟨_, rfl, rfl⟩) rfl (by decide) ?_
  refine r_val (v := .bool _) (v_pick (.inl rfl) (.inr ⟨_, rfl, fun h h2 => by simp_all⟩) (.inl rfl)) rfl rfl (by decide) ?_
  refine r_val (v := .bool _) (v_assign (.inl rfl) (noOwn_flat rfl)) rfl rfl (by decide) ?_
  refine r_nil ?_
  refine a_ret ?_
  refine ret1 Tryd.results19 (by decide) (by decide) (Weak.of_eq (bool_eq ?_)) rfl Leaves.nil
  unfold inR; cases h : decide (lo ≤ n) <;> simp [h]

theorem within_c (n lo hi : Int) : ACall Tryd.prog 20 [.int .i64 n, .int .i64 lo, .int .i64 hi] [] (.bool (inR n lo hi)) [] := by
  refine ACall.intro Tryd.func20 rfl (N := 15) rfl (by decide) (by simp) ?_
  refine a_seq ?_
  refine a_region ?_
  refine r_val (v := .bool _) (v_assign (.inl rfl) (noOwn_flat rfl)) rfl rfl (by decide) ?_
  refine r_nil ?_
  refine a_seq ?_
  refine a_region ?_
  refine r_val (v := .int _ _) (v_move (.inl rfl) (noOwn_flat rfl)) rfl rfl (by decide) ?_
  refine r_val (v := .int _ _) (v_move (.inl rfl) (noOwn_flat rfl)) rfl rfl (by decide) ?_
  refine r_val (v := .bool _) (v_geq (.inl rfl) (.inl rfl)) rfl rfl (by decide) ?_
  refine r_val (v := .bool _) (v_move (.inl rfl) (noOwn_flat rfl)) rfl rfl (by decide) ?_
  refine r_gval (v := .int _ _) (v_move (.inl rfl) (noOwn_flat rfl)) rfl rfl rfl (by decide) (.inl ⟨_, rfl, rfl⟩) rfl (by decide) ?_
  refine r_gval (v := .int _ _) (v_move (.inl rfl) (noOwn_flat rfl)) rfl rfl rfl (by decide) (.inl ⟨_, rfl, rfl⟩) rfl (by decide) ?_
  refine r_gval (v := .bool _) (v_leq (.inr ⟨_, rfl, fun h => h⟩) (.inr ⟨_, rfl, fun h => h⟩)) rfl rfl rfl (by decide) (.inl ⟨_, rfl, rfl⟩) rfl (by decide) ?_
  refine r_val (v := .bool _) (v_pick (.inl rfl) (.inr ⟨_, rfl, fun h h2 => by simp_all⟩) (.inl rfl)) rfl rfl (by decide) ?_
  refine r_val (v := .bool _) (v_assign (.inl rfl) (noOwn_flat rfl)) rfl rfl (by decide) ?_
  refine r_nil ?_
  refine a_ret ?_
  refine ret1 Tryd.results20 (by decide) (by decide) (Weak.of_eq (bool_eq ?_)) rfl Leaves.nil
  unfold inR; cases h : decide (lo ≤ n) <;> simp [h]

theorem l18Prime_c (p vars : Int) : ACall Tryd.prog 18 [.int .i64 p, .int .i64 vars] [] (.bool (prime p vars)) [] := by
  refine ACall.intro Tryd.func18 rfl (N := 19) rfl (by decide) (by simp) ?_
  refine a_seq ?_
  refine a_region ?_
  refine r_val (v := .bool _) (v_assign (.inl rfl) (noOwn_flat rfl)) rfl rfl (by decide) ?_
  refine r_nil ?_
  refine a_seq ?_
  refine a_region ?_
  refine r_val (v := .int _ _) (v_move (.inl rfl) (noOwn_flat rfl)) rfl rfl (by decide) ?_
  refine r_val (v := .bool _) (v_eql (.inl rfl) (.inl rfl)) rfl rfl (by decide) ?_
  refine r_val (v := .bool _) (v_move (.inl rfl) (noOwn_flat rfl)) rfl rfl (by decide) ?_
  refine r_gval (v := .int _ _) (v_move (.inl rfl) (noOwn_flat rfl)) rfl rfl rfl (by decide) (.inl ⟨_, rfl, rfl⟩) rfl (by decide) ?_
  refine r_gval (v := .bool _) (v_eql (.inr ⟨_, rfl, fun h => h⟩) (.inl rfl)) rfl rfl rfl (by decide) (.inl ⟨_, rfl, rfl⟩) rfl (by decide) ?_
  refine r_val (v := .bool _) (v_pick (.inl rfl) (.inl rfl) (.inr ⟨_, rfl, fun h h2 => by simp_all⟩)) rfl rfl (by decide) ?_
  refine r_val (v := .bool _) (v_move (.inl rfl) (noOwn_flat rfl)) rfl rfl (by decide) ?_
  refine r_gval (v := .int _ _) (v_move (.inl rfl) (noOwn_flat rfl)) rfl rfl rfl (by decide) (.inl ⟨_, rfl, rfl⟩) rfl (by decide) ?_
  refine r_gval (v := .bool _) (v_eql (.inr ⟨_, rfl, fun h => h⟩) (.inl rfl)) rfl rfl rfl (by decide) (.inl ⟨_, rfl, rfl⟩) rfl (by decide) ?_
  refine r_val (v := .bool _) (v_pick (.inl rfl) (.inl rfl) (.inr ⟨_, rfl, fun h h2 => by simp_all⟩)) rfl rfl (by decide) ?_
  refine r_val (v := .bool _) (v_move (.inl rfl) (noOwn_flat rfl)) rfl rfl (by decide) ?_
  refine r_gval (v := .int _ _) (v_move (.inl rfl) (noOwn_flat rfl)) rfl rfl rfl (by decide) (.inl ⟨_, rfl, rfl⟩) rfl (by decide) ?_
  refine r_guard (v := .bool _) (q_call (vs := [.int _ _, .int _ _, .int _ _]) (args := [.int .i64 _, .int .i64 _, .int .i64 _]) hb19 ⟨.inr ⟨_, rfl, fun h => h⟩, .inl rfl, .inl rfl, trivial⟩ rfl (fun hA => l1In_c _ _ _) rfl rfl) rfl rfl rfl (by decide) (.inl ⟨_, rfl, rfl⟩) rfl (by decide) ?_
  refine r_val (v := .bool _) (v_pick (.inl rfl) (.inr ⟨_, rfl, fun h h2 => by simp_all⟩) (.inl rfl)) rfl rfl (by decide) ?_
  refine r_val (v := .bool _) (v_assign (.inl rfl) (noOwn_flat rfl)) rfl rfl (by decide) ?_
  refine r_nil ?_
  refine a_ret ?_
  refine ret1 Tryd.results18 (by decide) (by decide) (Weak.of_eq (bool_eq ?_)) rfl Leaves.nil
  unfold prime; cases h1 : decide (p = 2) <;> cases h2 : decide (p = 3) <;> cases h3 : decide (p = 5) <;> simp [h1, h2, h3]

theorem bitsOk_c (vars b : Int) (h : 0 ≤ vars ∧ vars ≤ 6) : ACall Tryd.prog 21 [.int .i64 vars, .int .i64 b] [] (.bool (inR b 0 ((2 : Int) ^ vars.toNat - 1))) [] := by
  refine ACall.intro Tryd.func21 rfl (N := 10) rfl (by decide) (by simp) ?_
  refine a_seq ?_
  refine a_region ?_
  refine r_val (v := .bool _) (v_assign (.inl rfl) (noOwn_flat rfl)) rfl rfl (by decide) ?_
  refine r_nil ?_
  refine a_seq ?_
  refine a_region ?_
  refine r_val (v := .int _ _) (v_move (.inl rfl) (noOwn_flat rfl)) rfl rfl (by decide) ?_
  refine r_val (v := .int _ _) (v_move (.inl rfl) (noOwn_flat rfl)) rfl rfl (by decide) ?_
  refine r_val (v := .int _ _) (v_shl (.inl rfl) (.inl rfl) (fun _ => by have := pow6 h; omega)) rfl rfl (by decide) ?_
  refine r_val (v := .int _ _) (v_sub (.inl rfl) (.inl rfl) (fun _ => by have := pow6 h; omega)) rfl rfl (by decide) ?_
  refine r_new (v := .bool _) (q_call (vs := [.int _ _, .int _ _, .int _ _]) (args := [.int .i64 _, .int .i64 _, .int .i64 _]) hb20 ⟨.inl rfl, .inl rfl, .inl rfl, trivial⟩ rfl (fun hA => within_c _ _ _) rfl rfl) rfl rfl (by decide) ?_
  refine r_val (v := .bool _) (v_assign (.inl rfl) (noOwn_flat rfl)) rfl rfl (by decide) ?_
  refine r_nil ?_
  refine a_ret ?_
  refine ret1 Tryd.results21 (by decide) (by decide) (Weak.of_eq (bool_eq ?_)) rfl Leaves.nil
  rw [Int.one_mul]

theorem ringOf_c (p vars : Int) : ACall Tryd.prog 13 [.int .i64 p, .int .i64 vars] [] (.tup [.agg [.int .i64 p, .int .i64 vars], .bool (prime p vars)]) [] := by
  refine ACall.intro Tryd.func13 rfl (N := 23) rfl (by decide) (by simp) ?_
  refine a_seq ?_
  refine a_region ?_
  refine r_new (v := .op [.int _ _, .int _ _]) (q_alloc zc39) rfl rfl (by decide) ?_
  refine r_val (v := .bool _) (v_assign (.inl rfl) (noOwn_flat rfl)) rfl rfl (by decide) ?_
  refine r_nil ?_
  refine a_seq ?_
  refine a_region ?_
  refine r_val (v := .int _ _) (v_move (.inl rfl) (noOwn_flat rfl)) rfl rfl (by decide) ?_
  refine r_val (v := .int _ _) (v_move (.inl rfl) (noOwn_flat rfl)) rfl rfl (by decide) ?_
  refine r_val (v := .agg [.int _ _, .int _ _]) (v_build sp39 rfl rfl) rfl rfl (by decide) ?_
  refine r_val (v := .int _ _) (v_move (.inl rfl) (noOwn_flat rfl)) rfl rfl (by decide) ?_
  refine r_val (v := .bool _) (v_eql (.inl rfl) (.inl rfl)) rfl rfl (by decide) ?_
  refine r_val (v := .bool _) (v_move (.inl rfl) (noOwn_flat rfl)) rfl rfl (by decide) ?_
  refine r_gval (v := .int _ _) (v_move (.inl rfl) (noOwn_flat rfl)) rfl rfl rfl (by decide) (.inl ⟨_, rfl, rfl⟩) rfl (by decide) ?_
  refine r_gval (v := .bool _) (v_eql (.inr ⟨_, rfl, fun h => h⟩) (.inl rfl)) rfl rfl rfl (by decide) (.inl ⟨_, rfl, rfl⟩) rfl (by decide) ?_
  refine r_val (v := .bool _) (v_pick (.inl rfl) (.inl rfl) (.inr ⟨_, rfl, fun h h2 => by simp_all⟩)) rfl rfl (by decide) ?_
  refine r_val (v := .bool _) (v_move (.inl rfl) (noOwn_flat rfl)) rfl rfl (by decide) ?_
  refine r_gval (v := .int _ _) (v_move (.inl rfl) (noOwn_flat rfl)) rfl rfl rfl (by decide) (.inl ⟨_, rfl, rfl⟩) rfl (by decide) ?_
  refine r_gval (v := .bool _) (v_eql (.inr ⟨_, rfl, fun h => h⟩) (.inl rfl)) rfl rfl rfl (by decide) (.inl ⟨_, rfl, rfl⟩) rfl (by decide) ?_
  refine r_val (v := .bool _) (v_pick (.inl rfl) (.inl rfl) (.inr ⟨_, rfl, fun h h2 => by simp_all⟩)) rfl rfl (by decide) ?_
  refine r_val (v := .bool _) (v_move (.inl rfl) (noOwn_flat rfl)) rfl rfl (by decide) ?_
  refine r_gval (v := .int _ _) (v_move (.inl rfl) (noOwn_flat rfl)) rfl rfl rfl (by decide) (.inl ⟨_, rfl, rfl⟩) rfl (by decide) ?_
  refine r_guard (v := .bool _) (q_call (vs := [.int _ _, .int _ _, .int _ _]) (args := [.int .i64 _, .int .i64 _, .int .i64 _]) hb20 ⟨.inr ⟨_, rfl, fun h => h⟩, .inl rfl, .inl rfl, trivial⟩ rfl (fun hA => within_c _ _ _) rfl rfl) rfl rfl rfl (by decide) (.inl ⟨_, rfl, rfl⟩) rfl (by decide) ?_
  refine r_val (v := .bool _) (v_pick (.inl rfl) (.inr ⟨_, rfl, fun h h2 => by simp_all⟩) (.inl rfl)) rfl rfl (by decide) ?_
  refine r_step rfl (o_store (v := .agg [.int _ _, .int _ _]) (y' := .op [.int _ _, .int _ _]) rfl rfl ta39 (.inl rfl) (.inl rfl) rfl rfl rfl rfl rfl rfl (Nat.le_of_ble_eq_true rfl) (by decide) rfl rfl) ?_
  refine r_val (v := .bool _) (v_assign (.inl rfl) (noOwn_flat rfl)) rfl rfl (by decide) ?_
  refine r_nil ?_
  refine a_ret ?_
  refine retL (rs := [.cell 4 39, .tmp 5]) [(4, _), (5, _)] ⟨Weak.rfl, Weak.rfl, trivial⟩ rfl Tryd.results13 (by decide) ⟨by decide, _, cell_agg rfl ta39, by decide, rfl⟩ (by decide) (by decide) (l2_eq (agg_eq (l2_eq (int_eq ?_) (int_eq ?_))) (bool_eq ?_)) rfl
  · rfl
  · rfl
  · unfold prime; cases h1 : decide (p = 2) <;> cases h2 : decide (p = 3) <;> cases h3 : decide (p = 5) <;> simp [h1, h2, h3]

theorem toTerm_c (a b : Int) : ACall Tryd.prog 12 [.agg [.int .i64 a, .int .i64 b]] [] (.agg [.int .i64 a, .int .i64 b]) [] := by
  refine ACall.intro Tryd.func12 rfl (N := 11) rfl (by decide) (by simp) ?_
  refine a_seq ?_
  refine a_region ?_
  refine r_new (v := .op [.int _ _, .int _ _]) (q_box (.inl rfl) rfl rfl) rfl rfl (by decide) ?_
  refine r_new (v := .op [.int _ _, .int _ _]) (q_alloc zc33) rfl rfl (by decide) ?_
  refine r_nil ?_
  refine a_seq ?_
  refine a_region ?_
  refine r_new (v := .op [.int _ _, .int _ _]) (q_alloc zc33) rfl rfl (by decide) ?_
  refine r_nil ?_
  refine a_seq ?_
  refine a_region ?_
  refine r_val (v := .rp _ _) (v_fieldAddr_rp fo37_0 (.inl rfl)) rfl rfl (by decide) ?_
  refine r_val (v := .int _ _) (v_load_rp1 ta3 (.inl rfl) rfl (fun _ => rfl) rfl) rfl rfl (by decide) ?_
  refine r_val (v := .rp _ _) (v_fieldAddr_rp fo33_0 (.inl rfl)) rfl rfl (by decide) ?_
  refine r_step rfl (o_store (v := .int _ _) (y' := .op [.int _ _, .int _ _]) rfl rfl ta3 (.inl rfl) (.inl rfl) rfl rfl rfl rfl rfl rfl (Nat.le_of_ble_eq_true rfl) (by decide) rfl rfl) ?_
  refine r_nil ?_
  refine a_seq ?_
  refine a_region ?_
  refine r_val (v := .rp _ _) (v_fieldAddr_rp fo37_1 (.inl rfl)) rfl rfl (by decide) ?_
  refine r_val (v := .int _ _) (v_load_rp1 ta3 (.inl rfl) rfl (fun _ => rfl) rfl) rfl rfl (by decide) ?_
  refine r_val (v := .rp _ _) (v_fieldAddr_rp fo33_1 (.inl rfl)) rfl rfl (by decide) ?_
  refine r_step rfl (o_store (v := .int _ _) (y' := .op [.int _ _, .int _ _]) rfl rfl ta3 (.inl rfl) (.inl rfl) rfl rfl rfl rfl rfl rfl (Nat.le_of_ble_eq_true rfl) (by decide) rfl rfl) ?_
  refine r_nil ?_
  refine a_seq ?_
  refine a_region ?_
  refine r_val (v := .agg [.int _ _, .int _ _]) (v_load_rpa1 ta33 (.inl rfl) rfl rfl (fun _ => rfl) rfl) rfl rfl (by decide) ?_
  refine r_step rfl (o_store (v := .agg [.int _ _, .int _ _]) (y' := .op [.int _ _, .int _ _]) rfl rfl ta33 (.inl rfl) (.inl rfl) rfl rfl rfl rfl rfl rfl (Nat.le_of_ble_eq_true rfl) (by decide) rfl rfl) ?_
  refine r_nil ?_
  refine a_ret ?_
  refine retC1 (r := .cell 2 33) Tryd.results12 ⟨by decide, _, cell_agg rfl ta33, rfl⟩ (by decide) (Weak.of_eq (agg_eq (l2_eq (int_eq ?_) (int_eq ?_)))) rfl Leaves.nil
  all_goals rfl

theorem eqTerm_c (a b c d : Int) : ACall Tryd.prog 17 [.agg [.int .i64 a, .int .i64 b], .agg [.int .i64 c, .int .i64 d]] [] (.bool (decide (a = c) && decide (b = d))) [] := by
  refine ACall.intro Tryd.func17 rfl (N := 15) rfl (by decide) (by simp) ?_
  refine a_seq ?_
  refine a_region ?_
  refine r_new (v := .op [.int _ _, .int _ _]) (q_box (.inl rfl) rfl rfl) rfl rfl (by decide) ?_
  refine r_new (v := .op [.int _ _, .int _ _]) (q_box (.inl rfl) rfl rfl) rfl rfl (by decide) ?_
  refine r_val (v := .bool _) (v_assign (.inl rfl) (noOwn_flat rfl)) rfl rfl (by decide) ?_
  refine r_nil ?_
  refine a_seq ?_
  refine a_seq ?_
  refine a_region ?_
  refine r_val (v := .rp _ _) (v_fieldAddr_rp fo33_0 (.inl rfl)) rfl rfl (by decide) ?_
  refine r_val (v := .int _ _) (v_load_rp1 ta3 (.inl rfl) rfl (fun _ => rfl) rfl) rfl rfl (by decide) ?_
  refine r_val (v := .rp _ _) (v_fieldAddr_rp fo33_0 (.inl rfl)) rfl rfl (by decide) ?_
  refine r_val (v := .int _ _) (v_load_rp1 ta3 (.inl rfl) rfl (fun _ => rfl) rfl) rfl rfl (by decide) ?_
  refine r_val (v := .bool _) (v_neq (.inl rfl) (.inl rfl)) rfl rfl (by decide) ?_
  refine r_nil ?_
  refine a_cond rfl (fun ht9 => ?_) (fun ht9 => ?_)
  ·
    skip
    refine a_seq ?_
    refine a_region ?_
    refine r_val (v := .bool _) (v_assign (.inl rfl) (noOwn_flat rfl)) rfl rfl (by decide) ?_
    refine r_nil ?_
    refine a_ret ?_
    refine ret1 Tryd.results17 (by decide) (by decide) (Weak.of_eq (bool_eq ?_)) rfl Leaves.nil
    simp_all
  ·
    skip
    refine a_skip ?_
    refine a_seq ?_
    refine a_seq ?_
    refine a_region ?_
    refine r_val (v := .rp _ _) (v_fieldAddr_rp fo33_1 (.inl rfl)) rfl rfl (by decide) ?_
    refine r_val (v := .int _ _) (v_load_rp1 ta3 (.inl rfl) rfl (fun _ => rfl) rfl) rfl rfl (by decide) ?_
    refine r_val (v := .rp _ _) (v_fieldAddr_rp fo33_1 (.inl rfl)) rfl rfl (by decide) ?_
    refine r_val (v := .int _ _) (v_load_rp1 ta3 (.inl rfl) rfl (fun _ => rfl) rfl) rfl rfl (by decide) ?_
    refine r_val (v := .bool _) (v_neq (.inl rfl) (.inl rfl)) rfl rfl (by decide) ?_
    refine r_nil ?_
    refine a_cond rfl (fun ht14 => ?_) (fun ht14 => ?_)
    ·
      skip
      refine a_seq ?_
      refine a_region ?_
      refine r_val (v := .bool _) (v_assign (.inl rfl) (noOwn_flat rfl)) rfl rfl (by decide) ?_
      refine r_nil ?_
      refine a_ret ?_
      refine ret1 Tryd.results17 (by decide) (by decide) (Weak.of_eq (bool_eq ?_)) rfl Leaves.nil
      simp_all
    ·
      skip
      refine a_skip ?_
      refine a_seq ?_
      refine a_region ?_
      refine r_val (v := .bool _) (v_assign (.inl rfl) (noOwn_flat rfl)) rfl rfl (by decide) ?_
      refine r_nil ?_
      refine a_ret ?_
      refine ret1 Tryd.results17 (by decide) (by decide) (Weak.of_eq (bool_eq ?_)) rfl Leaves.nil
      simp_all
end Go.Av
namespace Go.Av
open Go

/-- The cells of a row of terms. -/
def tcells : List (Int × Int) → List AV
  | [] => []
  | t :: r => .int .i64 t.1 :: .int .i64 t.2 :: tcells r

theorem tcells_length : ∀ (xs : List (Int × Int)), (tcells xs).length = xs.length * 2
  | [] => rfl
  | t :: r => by simp [tcells, tcells_length r]; omega

theorem tcells_pure : ∀ (xs : List (Int × Int)), pureL (tcells xs) = true
  | [] => rfl
  | t :: r => by simp [tcells, pureL, pureV, tcells_pure r]

theorem tcells_get0 : ∀ {xs : List (Int × Int)} {i : Nat} {t : Int × Int}, xs[i]? = some t → (tcells xs)[i * 2]? = some (.int .i64 t.1)
  | [], i, t, h => by simp at h
  | s :: r, 0, t, h => by simp at h; subst h; rfl
  | s :: r, i + 1, t, h => by
    rw [show (i + 1) * 2 = i * 2 + 1 + 1 by omega]
    simp only [tcells, List.getElem?_cons_succ]
    exact tcells_get0 (by simpa using h)
theorem tcells_get1 : ∀ {xs : List (Int × Int)} {i : Nat} {t : Int × Int}, xs[i]? = some t → (tcells xs)[i * 2 + 1]? = some (.int .i64 t.2)
  | [], i, t, h => by simp at h
  | s :: r, 0, t, h => by simp at h; subst h; rfl
  | s :: r, i + 1, t, h => by
    rw [show (i + 1) * 2 + 1 = (i * 2 + 1) + 1 + 1 by omega]
    simp only [tcells, List.getElem?_cons_succ]
    exact tcells_get1 (by simpa using h)
theorem tcells_two : ∀ {xs : List (Int × Int)} {i : Nat} {t : Int × Int}, xs[i]? = some t → ((tcells xs).drop (i * 2)).take 2 = [.int .i64 t.1, .int .i64 t.2]
  | [], i, t, h => by simp at h
  | s :: r, 0, t, h => by simp at h; subst h; rfl
  | s :: r, i + 1, t, h => by
    rw [show (i + 1) * 2 = i * 2 + 1 + 1 by omega]
    simp only [tcells, List.drop_succ_cons]
    exact tcells_two (by simpa using h)
theorem tcells_set : ∀ {xs : List (Int × Int)} {i : Nat} {a b : Int}, ((tcells xs).set (i * 2) (.int .i64 a)).set (i * 2 + 1) (.int .i64 b) = tcells (xs.set i (a, b))
  | [], i, a, b => by simp [tcells]
  | s :: r, 0, a, b => rfl
  | s :: r, i + 1, a, b => by
    rw [show (i + 1) * 2 = i * 2 + 1 + 1 by omega]
    simp only [tcells, List.set_cons_succ]
    rw [tcells_set]
theorem tcells_rep : ∀ (n : Nat), rep n [.int .i64 0, .int .i64 0] = tcells (List.replicate n (0, 0))
  | 0 => rfl
  | n + 1 => by
    have := tcells_rep n
    simp only [rep] at this
    simp only [rep, List.replicate_succ, List.flatten_cons, tcells, this]; rfl

/-- A copy under way: the first i are done. -/
def part {α : Type} (z : α) (xs : List α) (i : Nat) : List α := xs.take i ++ List.replicate (xs.length - i) z
theorem part_zero {α : Type} (z : α) (xs : List α) : part z xs 0 = List.replicate xs.length z := by simp [part]
theorem part_full {α : Type} (z : α) (xs : List α) {i : Nat} (h : xs.length ≤ i) : part z xs i = xs := by
  unfold part
  rw [List.take_of_length_le h, show xs.length - i = 0 by omega]
  simp
theorem part_length {α : Type} (z : α) (xs : List α) {i : Nat} (h : i ≤ xs.length) : (part z xs i).length = xs.length := by
  simp [part]; omega
theorem part_set {α : Type} (z : α) (xs : List α) {i : Nat} {x : α} (h : xs[i]? = some x) : (part z xs i).set i x = part z xs (i + 1) := by
  have hl : i < xs.length := by
    rcases Nat.lt_or_ge i xs.length with h' | h'
    · exact h'
    · rw [List.getElem?_eq_none h'] at h; cases h
  refine List.ext_getElem? fun j => ?_
  unfold part
  by_cases hj : j = i
  · subst hj
    rw [List.getElem?_set_self (by simp; omega), List.getElem?_append_left (by simp; omega), List.getElem?_take, if_pos (by omega), h]
  · rw [List.getElem?_set_ne (Ne.symm hj)]
    by_cases h1 : j < i
    · rw [List.getElem?_append_left (by simp; omega), List.getElem?_append_left (by simp; omega), List.getElem?_take, List.getElem?_take, if_pos h1, if_pos (by omega)]
    · rw [List.getElem?_append_right (by simp; omega), List.getElem?_append_right (by simp; omega)]
      simp only [List.length_take, List.getElem?_replicate]
      have : j - min i xs.length < xs.length - i ↔ j - min (i + 1) xs.length < xs.length - (i + 1) := by omega
      simp only [this]
theorem getElem?_of_lt {α : Type} {xs : List α} {i : Nat} (h : i < xs.length) : xs[i]? = some xs[i] := List.getElem?_eq_getElem h
end Go.Av
namespace Go.Av
theorem tcells_ne {xs : List (Int × Int)} {i : Nat} (h : i < xs.length) : tcells xs ≠ [] := fun he => by
  have := tcells_length xs
  rw [he] at this
  simp at this
  omega
theorem take_step {α : Type} {xs ys : List α} {i : Nat} (hx : i < xs.length) (hy : i < ys.length) (h : xs.take i = ys.take i) (he : xs[i] = ys[i]) : xs.take (i + 1) = ys.take (i + 1) := by
  rw [List.take_succ_eq_append_getElem hx, List.take_succ_eq_append_getElem hy, h, he]
end Go.Av
namespace Go.Av
/-- Term i. -/
def tm (xs : List (Int × Int)) (i : Nat) : Int × Int := (xs[i]?).getD (0, 0)
theorem tm_get {xs : List (Int × Int)} {i : Nat} (h : i < xs.length) : xs[i]? = some (tm xs i) := by
  simp [tm, List.getElem?_eq_getElem h]
end Go.Av
namespace Go.Av
theorem tcells_noNil : ∀ (xs : List (Int × Int)), noNilL (tcells xs) = true
  | [] => rfl
  | t :: r => by simp [tcells, noNilL, noNil, tcells_noNil r]
theorem tc_pure (xs : List (Int × Int)) : pureL (tcells xs) = true ∧ noNilL (tcells xs) = true := ⟨tcells_pure xs, tcells_noNil xs⟩
end Go.Av
namespace Go.Av
theorem tc_noSh : ∀ (xs : List (Int × Int)), noShL (tcells xs) = true
  | [] => rfl
  | t :: r => by simp [tcells, noShL, noSh, tc_noSh r]
theorem tc_noRef (xs : List (Int × Int)) : noRefL (tcells xs) = true := noRefL_pure _ (tcells_pure xs)
end Go.Av
namespace Go.Av
open Go Go.Proofs
set_option maxRecDepth 10000
theorem es22 : elemSize Tryd.prog 22 = some 2 := by kernel_rfl
theorem es26 : elemSize Tryd.prog 26 = some 2 := by kernel_rfl
theorem hb12 : hasBody Tryd.prog 12 = true := by kernel_rfl
theorem hb17 : hasBody Tryd.prog 17 = true := by kernel_rfl
theorem sb33 : (Tryd.prog.info? 33).map (fun i => (i.size, i.bytes)) = some (2, 16) := by kernel_rfl
theorem sl22 : isSlice Tryd.prog 22 = true := by kernel_rfl
theorem sl26 : isSlice Tryd.prog 26 = true := by kernel_rfl
theorem ta37 : tyAgg Tryd.prog 37 = some (true, 2) := by kernel_rfl
theorem us26 : Tryd.prog.underlying 26 = some (.slice 33) := by kernel_rfl

theorem szTermS_c (xs : List (Int × Int)) (left : Int) (h : (xs.length : Int) ≤ 9223372036854775807 ∧ 0 ≤ left ∧ left ≤ 9223372036854775807) : ACall Tryd.prog 4 [.sl (tcells xs) xs.length, .int .i64 left] [] (.int .i64 (if left - xs.length < 0 then -1 else left - xs.length)) [] := by
  refine ACall.intro Tryd.func4 rfl (N := 12) rfl (by decide) (by simp) ?_
  refine a_seq ?_
  refine a_region ?_
  refine r_val (v := .int _ _) (v_assign (.inl rfl) (noOwn_flat rfl)) rfl rfl (by decide) ?_
  refine r_nil ?_
  refine a_seq ?_
  refine a_region ?_
  refine r_val (v := .int _ _) (v_move (.inl rfl) (noOwn_flat rfl)) rfl rfl (by decide) ?_
  refine r_val (v := .sl _ _) (v_move (.inl rfl) (noOwn_flat rfl)) rfl rfl (by decide) ?_
  refine r_val (v := .int _ _) (v_len_sl sl22 (.inl rfl)) rfl rfl (by decide) ?_
  refine r_val (v := .int _ _) (v_sub (.inl rfl) (.inl rfl) (fun _ => by omega)) rfl rfl (by decide) ?_
  refine r_val (v := .int _ _) (v_assign (.inl rfl) (noOwn_flat rfl)) rfl rfl (by decide) ?_
  refine r_nil ?_
  refine a_seq ?_
  refine a_seq ?_
  refine a_region ?_
  refine r_val (v := .int _ _) (v_move (.inl rfl) (noOwn_flat rfl)) rfl rfl (by decide) ?_
  refine r_val (v := .bool _) (v_lss (.inl rfl) (.inl rfl)) rfl rfl (by decide) ?_
  refine r_nil ?_
  refine a_cond rfl (fun ht10 => ?_) (fun ht10 => ?_)
  ·
    skip
    refine a_seq ?_
    refine a_region ?_
    refine r_val (v := .int _ _) (v_assign (.inl rfl) (noOwn_flat rfl)) rfl rfl (by decide) ?_
    refine r_nil ?_
    refine a_ret ?_
    refine ret1 Tryd.results4 (by decide) (by decide) (Weak.of_eq (int_eq ?_)) rfl Leaves.nil
    simp at ht10; rw [if_pos (by omega)]
  ·
    skip
    refine a_skip ?_
    refine a_seq ?_
    refine a_region ?_
    refine r_val (v := .int _ _) (v_move (.inl rfl) (noOwn_flat rfl)) rfl rfl (by decide) ?_
    refine r_val (v := .int _ _) (v_assign (.inl rfl) (noOwn_flat rfl)) rfl rfl (by decide) ?_
    refine r_nil ?_
    refine a_ret ?_
    refine ret1 Tryd.results4 (by decide) (by decide) (Weak.of_eq (int_eq ?_)) rfl Leaves.nil
    simp at ht10; rw [if_neg (by omega)]

theorem eqTermS_c (xs ys : List (Int × Int)) (hl : (xs.length : Int) ≤ 9223372036854775807) : ACall Tryd.prog 8 [.sl (tcells xs) xs.length, .sl (tcells ys) ys.length] [] (.bool (decide (xs = ys))) [] := by
  refine ACall.intro Tryd.func8 rfl (N := 27) rfl (by decide) (by simp) ?_
  refine a_seq ?_
  refine a_region ?_
  refine r_val (v := .bool _) (v_assign (.inl rfl) (noOwn_flat rfl)) rfl rfl (by decide) ?_
  refine r_nil ?_
  refine a_seq ?_
  refine a_seq ?_
  refine a_region ?_
  refine r_val (v := .sl _ _) (v_move (.inl rfl) (noOwn_flat rfl)) rfl rfl (by decide) ?_
  refine r_val (v := .int _ _) (v_len_sl sl26 (.inl rfl)) rfl rfl (by decide) ?_
  refine r_val (v := .sl _ _) (v_move (.inl rfl) (noOwn_flat rfl)) rfl rfl (by decide) ?_
  refine r_val (v := .int _ _) (v_len_sl sl26 (.inl rfl)) rfl rfl (by decide) ?_
  refine r_val (v := .bool _) (v_neq (.inl rfl) (.inl rfl)) rfl rfl (by decide) ?_
  refine r_nil ?_
  refine a_cond rfl (fun ht10 => ?_) (fun ht10 => ?_)
  ·
    skip
    refine a_seq ?_
    refine a_region ?_
    refine r_val (v := .bool _) (v_assign (.inl rfl) (noOwn_flat rfl)) rfl rfl (by decide) ?_
    refine r_nil ?_
    refine a_ret ?_
    refine ret1 Tryd.results8 (by decide) (by decide) (Weak.of_eq (bool_eq ?_)) rfl Leaves.nil
    simp at ht10; exact (decide_eq_false (fun h => ht10 (by rw [h]))).symm
  ·
    skip
    refine a_skip ?_
    refine a_seq ?_
    refine a_seq ?_
    refine a_region ?_
    refine r_val (v := .int _ _) (v_assign (.inl rfl) (noOwn_flat rfl)) rfl rfl (by decide) ?_
    refine r_nil ?_
    refine a_block ?_
    refine a_loop (X := Nat) (fun i => look [(0, .sl (tcells xs) xs.length), (1, .sl (tcells ys) ys.length), (5, .int .i64 (i : Int))]) (fun i => i ≤ xs.length ∧ xs.length = ys.length ∧ xs.take i = ys.take i) (fun i => xs.length - i) 0 (ent_look ⟨Weak.of_eq rfl, Weak.of_eq rfl, Weak.of_eq rfl, trivial⟩) ⟨Nat.zero_le _, by simp at ht10; omega, rfl⟩ (fun i hG => ?_)
    obtain ⟨h1, h2, h3⟩ := hG
    refine a_seq ?_
    refine a_seq ?_
    refine a_region ?_
    refine r_val (v := .int _ _) (v_move (.inl rfl) (noOwn_flat rfl)) rfl rfl (by decide) ?_
    refine r_val (v := .sl _ _) (v_move (.inl rfl) (noOwn_flat rfl)) rfl rfl (by decide) ?_
    refine r_val (v := .int _ _) (v_len_sl sl26 (.inl rfl)) rfl rfl (by decide) ?_
    refine r_val (v := .bool _) (v_lss (.inl rfl) (.inl rfl)) rfl rfl (by decide) ?_
    refine r_nil ?_
    refine a_cond rfl (fun ht14 => ?_) (fun ht14 => ?_)
    ·
      skip
      refine a_skip ?_
      refine a_seq ?_
      refine a_block ?_
      refine a_seq ?_
      refine a_region_any mixed (by kernel_rfl) ?_
      have hi : i < xs.length := (by simp at ht14; omega); have hi2 : i < ys.length := (by omega)
      refine y_val (v := .sl _ _) (v_move (.inl rfl) (noOwn_flat rfl)) rfl rfl (by decide) (by kernel_rfl) ?_
      refine y_val (v := .int _ _) (v_move (.inl rfl) (noOwn_flat rfl)) rfl rfl (by decide) (by kernel_rfl) ?_
      refine y_val (v := .pp _ _) (v_indexAddr_sl es26 (.inl rfl) (.inl rfl) (fun _ => ⟨by omega, by omega, tcells_ne hi⟩)) rfl rfl (by decide) (by kernel_rfl) ?_
      refine y_val (v := .agg [.int _ _, .int _ _]) (v_load_ppa1 ta33 (.inl rfl) rfl (fun _ => tcells_two (getElem?_of_lt hi)) rfl) rfl rfl (by decide) (by kernel_rfl) ?_
      refine y_val (v := .sl _ _) (v_move (.inl rfl) (noOwn_flat rfl)) rfl rfl (by decide) (by kernel_rfl) ?_
      refine y_val (v := .int _ _) (v_move (.inl rfl) (noOwn_flat rfl)) rfl rfl (by decide) (by kernel_rfl) ?_
      refine y_val (v := .pp _ _) (v_indexAddr_sl es26 (.inl rfl) (.inl rfl) (fun _ => ⟨by omega, by omega, tcells_ne hi2⟩)) rfl rfl (by decide) (by kernel_rfl) ?_
      refine y_val (v := .agg [.int _ _, .int _ _]) (v_load_ppa1 ta33 (.inl rfl) rfl (fun _ => tcells_two (getElem?_of_lt hi2)) rfl) rfl rfl (by decide) (by kernel_rfl) ?_
      refine y_new (v := .bool _) (q_call (vs := [.agg [.int _ _, .int _ _], .agg [.int _ _, .int _ _]]) (args := [.agg [.int .i64 _, .int .i64 _], .agg [.int .i64 _, .int .i64 _]]) hb17 ⟨.inl rfl, .inl rfl, trivial⟩ rfl (fun hA => eqTerm_c _ _ _ _) rfl rfl) rfl rfl (by decide) (by kernel_rfl) ?_
      refine y_val (v := .bool _) (v_not (.inl rfl)) rfl rfl (by decide) (by kernel_rfl) ?_
      refine y_nil ?_
      refine a_cond rfl (fun ht26 => ?_) (fun ht26 => ?_)
      ·
        skip
        refine a_seq ?_
        refine a_region ?_
        refine r_val (v := .bool _) (v_assign (.inl rfl) (noOwn_flat rfl)) rfl rfl (by decide) ?_
        refine r_nil ?_
        refine a_ret ?_
        refine ret1 Tryd.results8 (by decide) (by decide) (Weak.of_eq (bool_eq ?_)) rfl Leaves.nil
        simp at ht26; refine (decide_eq_false (fun h => ?_)).symm
        subst h
        simp at ht26
      ·
        skip
        refine a_skip ?_
        refine a_region ?_
        refine r_val (v := .int _ _) (v_move (.inl rfl) (noOwn_flat rfl)) rfl rfl (by decide) ?_
        refine r_val (v := .int _ _) (v_add (.inl rfl) (.inl rfl) (fun _ => by omega)) rfl rfl (by decide) ?_
        refine r_val (v := .int _ _) (v_assign (.inl rfl) (noOwn_flat rfl)) rfl rfl (by decide) ?_
        refine r_nil ?_
        refine ⟨i + 1, ent_look ⟨Weak.of_eq rfl, Weak.of_eq rfl, Weak.of_eq (int_eq (by omega)), trivial⟩, ⟨by omega, h2, take_step hi (by omega) h3 (by simp at ht26; exact Prod.ext ht26.1 ht26.2)⟩, by omega⟩
    ·
      skip
      refine a_exit ?_
      refine a_seq ?_
      refine a_region ?_
      refine r_val (v := .bool _) (v_assign (.inl rfl) (noOwn_flat rfl)) rfl rfl (by decide) ?_
      refine r_nil ?_
      refine a_ret ?_
      refine ret1 Tryd.results8 (by decide) (by decide) (Weak.of_eq (bool_eq ?_)) rfl Leaves.nil
      simp at ht14; refine (decide_eq_true ?_).symm
      rw [List.take_of_length_le (by omega), List.take_of_length_le (by omega)] at h3; exact h3

theorem toTermS_c (xs : List (Int × Int)) (hl : (xs.length : Int) ≤ 8388608) : ACall Tryd.prog 6 [.sl (tcells xs) xs.length] [] (.osl 2 (tcells xs) xs.length none) [] := by
  refine ACall.intro Tryd.func6 rfl (N := 23) rfl (by decide) (by simp) ?_
  refine a_seq ?_
  refine a_region ?_
  refine r_val (v := .nils) (v_assign (.inl rfl) (noOwn_flat rfl)) rfl rfl (by decide) ?_
  refine r_nil ?_
  refine a_seq ?_
  refine a_region ?_
  refine r_val (v := .sl _ _) (v_move (.inl rfl) (noOwn_flat rfl)) rfl rfl (by decide) ?_
  refine r_val (v := .int _ _) (v_len_sl sl22 (.inl rfl)) rfl rfl (by decide) ?_
  refine r_new (v := .osl _ _ _ _) (q_makeSlice us26 sb33 zc33 rfl (by decide) (.inl rfl) (.inl rfl) (fun _ => by omega)) rfl rfl (by decide) ?_
  refine r_val (v := .rsl _ _ _ _ _) (v_assign (.inl rfl) (noOwn_flat rfl)) rfl rfl (by decide) ?_
  refine r_pre (ent_reloc_sl (t := 3) rfl rfl) ?_
  refine r_nil ?_
  refine a_seq ?_
  refine a_seq ?_
  refine a_region ?_
  refine r_val (v := .int _ _) (v_assign (.inl rfl) (noOwn_flat rfl)) rfl rfl (by decide) ?_
  refine r_nil ?_
  refine a_block ?_
  refine a_loop (X := Nat) (fun i => look [(0, .sl (tcells xs) xs.length), (3, .osl 2 (tcells (part (0, 0) xs i)) xs.length (some xs.length)), (4, .int .i64 (i : Int))]) (fun i => i ≤ xs.length) (fun i => xs.length - i) 0 (ent_look ⟨Weak.of_eq rfl, Weak.of_eq (osl_eq (by rw [part_zero, ← tcells_rep])), Weak.of_eq rfl, trivial⟩) (Nat.zero_le _) (fun i hG => ?_)
  refine a_seq ?_
  refine a_seq ?_
  refine a_region ?_
  refine r_val (v := .int _ _) (v_move (.inl rfl) (noOwn_flat rfl)) rfl rfl (by decide) ?_
  refine r_val (v := .sl _ _) (v_move (.inl rfl) (noOwn_flat rfl)) rfl rfl (by decide) ?_
  refine r_val (v := .int _ _) (v_len_sl sl22 (.inl rfl)) rfl rfl (by decide) ?_
  refine r_val (v := .bool _) (v_lss (.inl rfl) (.inl rfl)) rfl rfl (by decide) ?_
  refine r_nil ?_
  refine a_cond rfl (fun ht11 => ?_) (fun ht11 => ?_)
  ·
    skip
    refine a_skip ?_
    refine a_seq ?_
    refine a_block ?_
    refine a_region ?_
    have hi : i < xs.length := (by simp at ht11; omega); have hpl : i * 2 + 2 ≤ (tcells (part (0, 0) xs i)).length := (by rw [tcells_length, part_length _ _ (by omega)]; omega)
    refine r_val (v := .rsl _ _ _ _ _) (v_move (.inl rfl) (noOwn_flat rfl)) rfl rfl (by decide) ?_
    refine r_val (v := .int _ _) (v_move (.inl rfl) (noOwn_flat rfl)) rfl rfl (by decide) ?_
    refine r_val (v := .sl _ _) (v_move (.inl rfl) (noOwn_flat rfl)) rfl rfl (by decide) ?_
    refine r_val (v := .int _ _) (v_move (.inl rfl) (noOwn_flat rfl)) rfl rfl (by decide) ?_
    refine r_val (v := .pp _ _) (v_indexAddr_sl es22 (.inl rfl) (.inl rfl) (fun _ => ⟨by omega, by omega, tcells_ne hi⟩)) rfl rfl (by decide) ?_
    refine r_val (v := .agg [.int _ _, .int _ _]) (v_load_ppa1 ta37 (.inl rfl) rfl (fun _ => tcells_two (getElem?_of_lt hi)) rfl) rfl rfl (by decide) ?_
    refine r_new (v := .agg [.int _ _, .int _ _]) (q_call (vs := [.agg [.int _ _, .int _ _]]) (args := [.agg [.int .i64 _, .int .i64 _]]) hb12 ⟨.inl rfl, trivial⟩ rfl (fun hA => toTerm_c _ _) rfl rfl) rfl rfl (by decide) ?_
    refine r_val (v := .rp _ _) (v_indexAddr_rsl0 es26 (.inl rfl) (.inl rfl) (fun _ => by omega)) rfl rfl (by decide) ?_
    refine r_step rfl (o_store (v := .agg [.int _ _, .int _ _]) (y' := .osl _ _ _ _) rfl rfl ta33 (.inl rfl) (.inl rfl) rfl rfl rfl rfl rfl rfl hpl (by decide) rfl (congrArg (fun c => AV.osl 2 c xs.length (some xs.length)) (tcells_set.trans (congrArg tcells (part_set (0, 0) xs (getElem?_of_lt hi)))))) ?_
    refine r_nil ?_
    refine a_region ?_
    refine r_val (v := .int _ _) (v_move (.inl rfl) (noOwn_flat rfl)) rfl rfl (by decide) ?_
    refine r_val (v := .int _ _) (v_add (.inl rfl) (.inl rfl) (fun _ => by omega)) rfl rfl (by decide) ?_
    refine r_val (v := .int _ _) (v_assign (.inl rfl) (noOwn_flat rfl)) rfl rfl (by decide) ?_
    refine r_nil ?_
    refine ⟨i + 1, ent_look ⟨Weak.of_eq rfl, Weak.of_eq rfl, Weak.of_eq (int_eq (by omega)), trivial⟩, by omega, by omega⟩
  ·
    skip
    refine a_exit ?_
    refine a_seq ?_
    refine a_region ?_
    refine r_val (v := .rsl _ _ _ _ _) (v_move (.inl rfl) (noOwn_flat rfl)) rfl rfl (by decide) ?_
    refine r_val (v := .rsl _ _ _ _ _) (v_assign (.inl rfl) (noOwn_flat rfl)) rfl rfl (by decide) ?_
    refine r_pre (ent_reloc_sl (t := 2) rfl rfl) ?_
    refine r_nil ?_
    refine a_ret ?_
    refine ret1 Tryd.results6 (by decide) (by decide) (Weak.osl ?_ ?_) rfl Leaves.nil
    · simp at ht11; rw [part_full _ _ (by omega)]
    · rfl
end Go.Av
namespace Go.Av
open Go Go.Proofs
set_option maxRecDepth 10000
theorem prime_spec {p vars : Int} (h : prime p vars = true) : (2 ≤ p ∧ p ≤ 5) ∧ 0 ≤ vars ∧ vars ≤ 6 := by
  simp [prime, inR] at h; omega
def okAt (p vars : Int) (xs : List (Int × Int)) (i : Nat) : Bool := inR (tm xs i).1 0 (2 ^ vars.toNat - 1) && inR (tm xs i).2 1 (p - 1) && (decide (i = 0) || decide ((tm xs (i - 1)).1 < (tm xs i).1))
def goodL (p vars : Int) (xs : List (Int × Int)) : Bool := (List.range xs.length).all (okAt p vars xs)
theorem good_false {p vars : Int} {xs : List (Int × Int)} {i : Nat} (hi : i < xs.length) (h : okAt p vars xs i = false) : goodL p vars xs = false := by
  unfold goodL
  rw [List.all_eq_false]
  exact ⟨i, by simpa using hi, by simp [h]⟩
theorem good_true {p vars : Int} {xs : List (Int × Int)} (h : ∀ j, j < xs.length → okAt p vars xs j = true) : goodL p vars xs = true := by
  unfold goodL
  rw [List.all_eq_true]
  intro j hj
  exact h j (by simpa using hj)
theorem ok_step {p : Nat → Bool} {i : Nat} (h : ∀ j, j < i → p j = true) (hi : p i = true) : ∀ j, j < i + 1 → p j = true := fun j hj => by
  rcases Nat.lt_or_ge j i with h' | h'
  · exact h j h'
  · rw [show j = i by omega]; exact hi
theorem hb18 : hasBody Tryd.prog 18 = true := by kernel_rfl

theorem l18Good_c (p vars : Int) (xs : List (Int × Int)) (hl : (xs.length : Int) ≤ 9223372036854775807) : ACall Tryd.prog 9 [.int .i64 p, .int .i64 vars, .sl (tcells xs) xs.length] [] (.bool (prime p vars && goodL p vars xs)) [] := by
  refine ACall.intro Tryd.func9 rfl (N := 57) rfl (by decide) (by simp) ?_
  refine a_seq ?_
  refine a_region ?_
  refine r_val (v := .bool _) (v_assign (.inl rfl) (noOwn_flat rfl)) rfl rfl (by decide) ?_
  refine r_nil ?_
  refine a_seq ?_
  refine a_seq ?_
  refine a_region ?_
  refine r_val (v := .int _ _) (v_move (.inl rfl) (noOwn_flat rfl)) rfl rfl (by decide) ?_
  refine r_val (v := .int _ _) (v_move (.inl rfl) (noOwn_flat rfl)) rfl rfl (by decide) ?_
  refine r_new (v := .bool _) (q_call (vs := [.int _ _, .int _ _]) (args := [.int .i64 _, .int .i64 _]) hb18 ⟨.inl rfl, .inl rfl, trivial⟩ rfl (fun hA => l18Prime_c _ _) rfl rfl) rfl rfl (by decide) ?_
  refine r_val (v := .bool _) (v_not (.inl rfl)) rfl rfl (by decide) ?_
  refine r_nil ?_
  refine a_cond rfl (fun ht11 => ?_) (fun ht11 => ?_)
  ·
    skip
    refine a_seq ?_
    refine a_region ?_
    refine r_val (v := .bool _) (v_assign (.inl rfl) (noOwn_flat rfl)) rfl rfl (by decide) ?_
    refine r_nil ?_
    refine a_ret ?_
    refine ret1 Tryd.results9 (by decide) (by decide) (Weak.of_eq (bool_eq ?_)) rfl Leaves.nil
    simp at ht11; rw [ht11]; rfl
  ·
    skip
    refine a_skip ?_
    refine a_seq ?_
    refine a_seq ?_
    refine a_region ?_
    have hp := prime_spec (by simpa using ht11)
    refine r_val (v := .int _ _) (v_assign (.inl rfl) (noOwn_flat rfl)) rfl rfl (by decide) ?_
    refine r_nil ?_
    refine a_block ?_
    refine a_loop (X := Nat) (fun i => look [(0, .int .i64 p), (1, .int .i64 vars), (2, .sl (tcells xs) xs.length), (7, .int .i64 (i : Int))]) (fun i => i ≤ xs.length ∧ ∀ j, j < i → okAt p vars xs j = true) (fun i => xs.length - i) 0 (ent_look ⟨Weak.of_eq rfl, Weak.of_eq rfl, Weak.of_eq rfl, Weak.of_eq rfl, trivial⟩) ⟨Nat.zero_le _, fun j h => by omega⟩ (fun i hG => ?_)
    obtain ⟨h1, h2⟩ := hG
    refine a_seq ?_
    refine a_seq ?_
    refine a_region ?_
    refine r_val (v := .int _ _) (v_move (.inl rfl) (noOwn_flat rfl)) rfl rfl (by decide) ?_
    refine r_val (v := .sl _ _) (v_move (.inl rfl) (noOwn_flat rfl)) rfl rfl (by decide) ?_
    refine r_val (v := .int _ _) (v_len_sl sl26 (.inl rfl)) rfl rfl (by decide) ?_
    refine r_val (v := .bool _) (v_lss (.inl rfl) (.inl rfl)) rfl rfl (by decide) ?_
    refine r_nil ?_
    refine a_cond rfl (fun ht15 => ?_) (fun ht15 => ?_)
    ·
      skip
      refine a_skip ?_
      refine a_seq ?_
      refine a_block ?_
      refine a_seq ?_
      refine a_region_any mixed (by kernel_rfl) ?_
      have hi : i < xs.length := (by simp at ht15; omega); have hw := pow6 hp.2
      refine y_val (v := .sl _ _) (v_move (.inl rfl) (noOwn_flat rfl)) rfl rfl (by decide) (by kernel_rfl) ?_
      refine y_val (v := .int _ _) (v_move (.inl rfl) (noOwn_flat rfl)) rfl rfl (by decide) (by kernel_rfl) ?_
      refine y_val (v := .pp _ _) (v_indexAddr_sl es26 (.inl rfl) (.inl rfl) (fun _ => ⟨by omega, by omega, tcells_ne hi⟩)) rfl rfl (by decide) (by kernel_rfl) ?_
      refine y_val (v := .pp _ _) (v_fieldAddr_pp fo33_0 (.inl rfl)) rfl rfl (by decide) (by kernel_rfl) ?_
      refine y_val (v := .int .i64 (tm xs i).1) (v_load_pp ta3 (.inl rfl) (fun _ => tcells_get0 (i := i) (tm_get hi)) rfl) rfl rfl (by decide) (by kernel_rfl) ?_
      refine y_val (v := .int _ _) (v_move (.inl rfl) (noOwn_flat rfl)) rfl rfl (by decide) (by kernel_rfl) ?_
      refine y_val (v := .int _ _) (v_shl (.inl rfl) (.inl rfl) (fun _ => by omega)) rfl rfl (by decide) (by kernel_rfl) ?_
      refine y_val (v := .int _ _) (v_sub (.inl rfl) (.inl rfl) (fun _ => by omega)) rfl rfl (by decide) (by kernel_rfl) ?_
      refine y_new (v := .bool _) (q_call (vs := [.int _ _, .int _ _, .int _ _]) (args := [.int .i64 _, .int .i64 _, .int .i64 _]) hb19 ⟨.inl rfl, .inl rfl, .inl rfl, trivial⟩ rfl (fun hA => l1In_c _ _ _) rfl rfl) rfl rfl (by decide) (by kernel_rfl) ?_
      refine y_val (v := .bool _) (v_not (.inl rfl)) rfl rfl (by decide) (by kernel_rfl) ?_
      refine y_val (v := .bool _) (v_move (.inl rfl) (noOwn_flat rfl)) rfl rfl (by decide) (by kernel_rfl) ?_
      refine y_guard (v := .sl _ _) (v_move (.inl rfl) (noOwn_flat rfl)).quiet rfl rfl rfl (by decide) (.inl ⟨_, rfl, rfl⟩) rfl (by decide) (by kernel_rfl) ?_
      refine y_guard (v := .int _ _) (v_move (.inl rfl) (noOwn_flat rfl)).quiet rfl rfl rfl (by decide) (.inl ⟨_, rfl, rfl⟩) rfl (by decide) (by kernel_rfl) ?_
      refine y_guard (v := .pp _ _) (v_indexAddr_sl es26 (.inr ⟨_, rfl, fun h => h⟩) (.inr ⟨_, rfl, fun h => h⟩) (fun _ => ⟨by omega, by omega, tcells_ne hi⟩)).quiet rfl rfl rfl (by decide) (.inl ⟨_, rfl, rfl⟩) rfl (by decide) (by kernel_rfl) ?_
      refine y_guard (v := .pp _ _) (v_fieldAddr_pp fo33_1 (.inr ⟨_, rfl, fun h => h⟩)).quiet rfl rfl rfl (by decide) (.inl ⟨_, rfl, rfl⟩) rfl (by decide) (by kernel_rfl) ?_
      refine y_guard (v := .int .i64 (tm xs i).2) (v_load_pp ta3 (.inr ⟨_, rfl, fun h => h⟩) (fun _ => tcells_get1 (i := i) (tm_get hi)) rfl).quiet rfl rfl rfl (by decide) (.inl ⟨_, rfl, rfl⟩) rfl (by decide) (by kernel_rfl) ?_
      refine y_guard (v := .int _ _) (v_move (.inl rfl) (noOwn_flat rfl)).quiet rfl rfl rfl (by decide) (.inl ⟨_, rfl, rfl⟩) rfl (by decide) (by kernel_rfl) ?_
      refine y_guard (v := .int _ _) (v_sub (.inr ⟨_, rfl, fun h => h⟩) (.inl rfl) (fun _ => by omega)).quiet rfl rfl rfl (by decide) (.inl ⟨_, rfl, rfl⟩) rfl (by decide) (by kernel_rfl) ?_
      refine y_guard (v := .bool _) (q_call (vs := [.int _ _, .int _ _, .int _ _]) (args := [.int .i64 _, .int .i64 _, .int .i64 _]) hb19 ⟨.inr ⟨_, rfl, fun h => h⟩, .inl rfl, .inr ⟨_, rfl, fun h => h⟩, trivial⟩ rfl (fun hA => l1In_c _ _ _) rfl rfl) rfl rfl rfl (by decide) (.inl ⟨_, rfl, rfl⟩) rfl (by decide) (by kernel_rfl) ?_
      refine y_guard (v := .bool _) (v_not (.inr ⟨_, rfl, fun h => h⟩)).quiet rfl rfl rfl (by decide) (.inl ⟨_, rfl, rfl⟩) rfl (by decide) (by kernel_rfl) ?_
      refine y_val (v := .bool _) (v_pick (.inl rfl) (.inl rfl) (.inr ⟨_, rfl, fun h h2 => by simp_all⟩)) rfl rfl (by decide) (by kernel_rfl) ?_
      refine y_val (v := .bool _) (v_move (.inl rfl) (noOwn_flat rfl)) rfl rfl (by decide) (by kernel_rfl) ?_
      refine y_guard (v := .int _ _) (v_move (.inl rfl) (noOwn_flat rfl)).quiet rfl rfl rfl (by decide) (.inl ⟨_, rfl, rfl⟩) rfl (by decide) (by kernel_rfl) ?_
      refine y_guard (v := .bool _) (v_gtr (.inr ⟨_, rfl, fun h => h⟩) (.inl rfl)).quiet rfl rfl rfl (by decide) (.inl ⟨_, rfl, rfl⟩) rfl (by decide) (by kernel_rfl) ?_
      refine y_guard (v := .bool _) (v_move (.inr ⟨_, rfl, fun h => h⟩) (noOwn_flat rfl)).quiet rfl rfl rfl (by decide) (.inl ⟨_, rfl, rfl⟩) rfl (by decide) (by kernel_rfl) ?_
      refine y_guard (v := .sl _ _) (v_move (.inl rfl) (noOwn_flat rfl)).quiet rfl rfl rfl (by decide) (.inr ⟨_, _, rfl, rfl⟩) rfl (by decide) (by kernel_rfl) ?_
      refine y_guard (v := .int _ _) (v_move (.inl rfl) (noOwn_flat rfl)).quiet rfl rfl rfl (by decide) (.inr ⟨_, _, rfl, rfl⟩) rfl (by decide) (by kernel_rfl) ?_
      refine y_guard (v := .int _ _) (v_sub (.inr ⟨_, rfl, fun h => h⟩) (.inl rfl) (fun hA => by omega)).quiet rfl rfl rfl (by decide) (.inr ⟨_, _, rfl, rfl⟩) rfl (by decide) (by kernel_rfl) ?_
      refine y_guard (v := .pp _ _) (v_indexAddr_sl es26 (.inr ⟨_, rfl, fun h => h⟩) (.inr ⟨_, rfl, fun h => h⟩) (fun hA => ⟨by simp at hA; omega, by omega, tcells_ne hi⟩)).quiet rfl rfl rfl (by decide) (.inr ⟨_, _, rfl, rfl⟩) rfl (by decide) (by kernel_rfl) ?_
      refine y_guard (v := .pp _ _) (v_fieldAddr_pp fo33_0 (.inr ⟨_, rfl, fun h => h⟩)).quiet rfl rfl rfl (by decide) (.inr ⟨_, _, rfl, rfl⟩) rfl (by decide) (by kernel_rfl) ?_
      refine y_guard (v := .int .i64 (tm xs (i - 1)).1) (v_load_pp ta3 (.inr ⟨_, rfl, fun h => h⟩) (fun hA => by rw [Nat.add_zero, show ((i : Int) - 1).toNat = i - 1 by omega]; exact tcells_get0 (tm_get (by omega))) rfl).quiet rfl rfl rfl (by decide) (.inr ⟨_, _, rfl, rfl⟩) rfl (by decide) (by kernel_rfl) ?_
      refine y_guard (v := .sl _ _) (v_move (.inl rfl) (noOwn_flat rfl)).quiet rfl rfl rfl (by decide) (.inr ⟨_, _, rfl, rfl⟩) rfl (by decide) (by kernel_rfl) ?_
      refine y_guard (v := .int _ _) (v_move (.inl rfl) (noOwn_flat rfl)).quiet rfl rfl rfl (by decide) (.inr ⟨_, _, rfl, rfl⟩) rfl (by decide) (by kernel_rfl) ?_
      refine y_guard (v := .pp _ _) (v_indexAddr_sl es26 (.inr ⟨_, rfl, fun h => h⟩) (.inr ⟨_, rfl, fun h => h⟩) (fun _ => ⟨by omega, by omega, tcells_ne hi⟩)).quiet rfl rfl rfl (by decide) (.inr ⟨_, _, rfl, rfl⟩) rfl (by decide) (by kernel_rfl) ?_
      refine y_guard (v := .pp _ _) (v_fieldAddr_pp fo33_0 (.inr ⟨_, rfl, fun h => h⟩)).quiet rfl rfl rfl (by decide) (.inr ⟨_, _, rfl, rfl⟩) rfl (by decide) (by kernel_rfl) ?_
      refine y_guard (v := .int .i64 (tm xs i).1) (v_load_pp ta3 (.inr ⟨_, rfl, fun h => h⟩) (fun _ => tcells_get0 (i := i) (tm_get hi)) rfl).quiet rfl rfl rfl (by decide) (.inr ⟨_, _, rfl, rfl⟩) rfl (by decide) (by kernel_rfl) ?_
      refine y_guard (v := .bool _) (v_geq (.inr ⟨_, rfl, fun h => h⟩) (.inr ⟨_, rfl, fun h => h⟩)).quiet rfl rfl rfl (by decide) (.inr ⟨_, _, rfl, rfl⟩) rfl (by decide) (by kernel_rfl) ?_
      refine y_guard (v := .bool _) (v_pick (.inr ⟨_, rfl, fun h => h⟩) (.inr ⟨_, rfl, fun h h2 => by simp_all⟩) (.inl rfl)).quiet rfl rfl rfl (by decide) (.inl ⟨_, rfl, rfl⟩) rfl (by decide) (by kernel_rfl) ?_
      refine y_val (v := .bool _) (v_pick (.inl rfl) (.inl rfl) (.inr ⟨_, rfl, fun h h2 => by simp_all⟩)) rfl rfl (by decide) (by kernel_rfl) ?_
      refine y_nil ?_
      refine a_cond rfl (fun ht56 => ?_) (fun ht56 => ?_)
      ·
        skip
        refine a_seq ?_
        refine a_pre (ent_look (L := [(0, .int _ _), (1, .int _ _), (2, .sl _ _), (7, .int _ _)]) ⟨Weak.rfl, Weak.rfl, Weak.rfl, Weak.rfl, trivial⟩) ?_
        refine a_region ?_
        refine r_val (v := .bool _) (v_assign (.inl rfl) (noOwn_flat rfl)) rfl rfl (by decide) ?_
        refine r_nil ?_
        refine a_ret ?_
        refine ret1 Tryd.results9 (by decide) (by decide) (Weak.of_eq (bool_eq ?_)) rfl Leaves.nil
        have hk : okAt p vars xs i = false := by unfold okAt; rw [Int.one_mul] at ht56; cases ha : inR (tm xs i).1 0 (2 ^ vars.toNat - 1) <;> cases hb : inR (tm xs i).2 1 (p - 1) <;> simp [ha, hb] at ht56 ⊢ <;> omega
        rw [good_false hi hk, Bool.and_false]
      ·
        skip
        refine a_skip ?_
        refine a_pre (ent_look (L := [(0, .int _ _), (1, .int _ _), (2, .sl _ _), (7, .int _ _)]) ⟨Weak.rfl, Weak.rfl, Weak.rfl, Weak.rfl, trivial⟩) ?_
        refine a_region ?_
        refine r_val (v := .int _ _) (v_move (.inl rfl) (noOwn_flat rfl)) rfl rfl (by decide) ?_
        refine r_val (v := .int _ _) (v_add (.inl rfl) (.inl rfl) (fun _ => by omega)) rfl rfl (by decide) ?_
        refine r_val (v := .int _ _) (v_assign (.inl rfl) (noOwn_flat rfl)) rfl rfl (by decide) ?_
        refine r_nil ?_
        have hk : okAt p vars xs i = true := by unfold okAt; rw [Int.one_mul] at ht56; cases ha : inR (tm xs i).1 0 (2 ^ vars.toNat - 1) <;> cases hb : inR (tm xs i).2 1 (p - 1) <;> simp [ha, hb] at ht56 ⊢ <;> omega
        refine ⟨i + 1, ent_look ⟨Weak.of_eq rfl, Weak.of_eq rfl, Weak.of_eq rfl, Weak.of_eq (int_eq (by omega)), trivial⟩, ⟨by omega, ok_step h2 hk⟩, by omega⟩
    ·
      skip
      refine a_exit ?_
      refine a_seq ?_
      refine a_region ?_
      refine r_val (v := .bool _) (v_assign (.inl rfl) (noOwn_flat rfl)) rfl rfl (by decide) ?_
      refine r_nil ?_
      refine a_ret ?_
      refine ret1 Tryd.results9 (by decide) (by decide) (Weak.of_eq (bool_eq ?_)) rfl Leaves.nil
      simp at ht11 ht15
      rw [ht11, good_true (fun j hj => h2 j (by omega))]; rfl
end Go.Av
namespace Go.Av
open Go

def icells (xs : List Int) : List AV := xs.map (AV.int .i64)
theorem icells_length (xs : List Int) : (icells xs).length = xs.length := by simp [icells]
theorem icells_get {xs : List Int} {i : Nat} {n : Int} (h : xs[i]? = some n) : (icells xs)[i]? = some (.int .i64 n) := by simp [icells, h]
theorem ic_pureL (xs : List Int) : pureL (icells xs) = true := pureL_iff.2 fun c hc => by
  obtain ⟨n, _, rfl⟩ := List.mem_map.1 hc; rfl
theorem ic_noSh : ∀ (xs : List Int), noShL (icells xs) = true
  | [] => rfl
  | x :: xs => by simp only [icells, List.map_cons, noShL, noSh, Bool.true_and]; exact ic_noSh xs
theorem ic_noRef (xs : List Int) : noRefL (icells xs) = true := noRefL_pure _ (ic_pureL xs)
theorem icells_app {xs : List Int} {n : Int} : icells xs ++ [.int .i64 n] = icells (xs ++ [n]) := by simp [icells]
/-- Number i of a row, 0 behind its end. -/
def gd (l : List Int) (i : Nat) : Int := (l[i]?).getD 0
theorem gd_get {l : List Int} {i : Nat} (h : i < l.length) : l[i]? = some (gd l i) := by simp [gd, List.getElem?_eq_getElem h]
theorem gd_set {l : List Int} {i : Nat} {x : Int} (h : i < l.length) : gd (l.set i x) i = x := by simp [gd, h]
theorem gd_set_ne {l : List Int} {i j : Nat} {x : Int} (h : i ≠ j) : gd (l.set i x) j = gd l j := by simp [gd, List.getElem?_set_ne h]
theorem gd_rep {n i : Nat} : gd (List.replicate n 0) i = 0 := by
  simp only [gd, List.getElem?_replicate]; split <;> rfl
def dn (vars : Int) : Nat := 2 ^ vars.toNat
theorem dn_cast (vars : Int) : ((dn vars : Nat) : Int) = 2 ^ vars.toNat := by simp [dn]
theorem dn_le {vars : Int} (h : 0 ≤ vars ∧ vars ≤ 6) : 1 ≤ dn vars ∧ dn vars ≤ 64 := by
  have := pow6 h
  have := dn_cast vars
  omega

def bumpp (p : Int) (l : List Int) (m : Nat) (c : Int) : List Int := l.set m ((gd l m + c) % p)
/-- The coefficients modulo p. -/
def accp (p : Int) (n : Nat) (xs : List (Int × Int)) : List Int := xs.foldl (fun l t => bumpp p l t.1.toNat t.2) (List.replicate n 0)
theorem foldl_len {α : Type} {f : List Int → α → List Int} (hf : ∀ l a, (f l a).length = l.length) : ∀ (xs : List α) (l : List Int), (xs.foldl f l).length = l.length
  | [], _ => rfl
  | x :: xs, l => by rw [List.foldl_cons, foldl_len hf xs, hf]
theorem accp_length (p : Int) (n : Nat) (xs : List (Int × Int)) : (accp p n xs).length = n := by
  unfold accp
  rw [foldl_len (fun l a => by simp [bumpp])]; simp
theorem take_tm {xs : List (Int × Int)} {i : Nat} (h : i < xs.length) : xs.take (i + 1) = xs.take i ++ [tm xs i] := by
  rw [List.take_succ_eq_append_getElem h]
  simp [tm, List.getElem?_eq_getElem h]
theorem accp_step {p : Int} {n : Nat} {xs : List (Int × Int)} {i : Nat} (h : i < xs.length) : accp p n (xs.take (i + 1)) = bumpp p (accp p n (xs.take i)) (tm xs i).1.toNat (tm xs i).2 := by
  rw [take_tm h]; simp [accp]
theorem accp_zero {p : Int} {n m : Nat} : ∀ {xs : List (Int × Int)}, (∀ t ∈ xs, t.1.toNat ≠ m) → gd (accp p n xs) m = 0 := by
  intro xs
  unfold accp
  generalize hl : List.replicate n (0 : Int) = l
  have h0 : gd l m = 0 := by rw [← hl]; exact gd_rep
  clear hl
  induction xs generalizing l with
  | nil => intro _; exact h0
  | cons x xs ih =>
    intro h
    rw [List.foldl_cons]
    refine ih _ ?_ (fun t ht => h t (by simp [ht]))
    unfold bumpp
    rw [gd_set_ne (h x (by simp))]; exact h0

theorem good_ok {p vars : Int} {xs : List (Int × Int)} (h : goodL p vars xs = true) {i : Nat} (hi : i < xs.length) : okAt p vars xs i = true := by
  unfold goodL at h
  exact List.all_eq_true.1 h i (by simpa using hi)
theorem good_spec {p vars : Int} {xs : List (Int × Int)} (h : goodL p vars xs = true) {i : Nat} (hi : i < xs.length) :
    0 ≤ (tm xs i).1 ∧ (tm xs i).1 < 2 ^ vars.toNat ∧ 1 ≤ (tm xs i).2 ∧ (tm xs i).2 < p ∧ (i ≠ 0 → (tm xs (i - 1)).1 < (tm xs i).1) := by
  have := good_ok h hi
  simp only [okAt, inR, Bool.and_eq_true, decide_eq_true_eq, Bool.or_eq_true] at this
  omega
theorem good_asc {p vars : Int} {xs : List (Int × Int)} (h : goodL p vars xs = true) {i j : Nat} (hj : j < i) (hi : i < xs.length) : (tm xs j).1 < (tm xs i).1 := by
  induction i with
  | zero => omega
  | succ i ih =>
    have h1 := (good_spec h hi).2.2.2.2 (by omega)
    rw [Nat.add_sub_cancel] at h1
    rcases Nat.lt_or_ge j i with hlt | hge
    · have := ih hlt (by omega); omega
    · have : j = i := by omega
      subst this; exact h1
/-- Where the polynomial is good, the coefficient is set once. -/
theorem good_set {p vars : Int} {xs : List (Int × Int)} {n : Nat} (h : goodL p vars xs = true) {i : Nat} (hi : i < xs.length) :
    (accp p n (xs.take i)).set (tm xs i).1.toNat (tm xs i).2 = accp p n (xs.take (i + 1)) := by
  have hs := good_spec h hi
  rw [accp_step hi]
  unfold bumpp
  rw [accp_zero (fun t ht => ?_), Int.zero_add, Int.emod_eq_of_lt (by omega) (by omega)]
  obtain ⟨j, hj⟩ := List.getElem?_of_mem ht
  rw [List.getElem?_take] at hj
  split at hj
  · rename_i hji
    have h1 := good_asc h hji hi
    have h2 := (good_spec h (show j < xs.length by omega)).1
    have : tm xs j = t := by simp [tm, hj]
    rw [this] at h1 h2
    omega
  · cases hj

/-- The terms of the first i coefficients. -/
def trmTo (d : List Int) : Nat → List (Int × Int)
  | 0 => []
  | i + 1 => if gd d i = 0 then trmTo d i else trmTo d i ++ [((i : Int), gd d i)]
def trm (d : List Int) : List (Int × Int) := trmTo d d.length
theorem trmTo_len (d : List Int) : ∀ i, (trmTo d i).length ≤ i
  | 0 => Nat.le_refl _
  | i + 1 => by
    have := trmTo_len d i
    simp only [trmTo]; split
    · omega
    · simp; omega
theorem trm_len (d : List Int) : (trm d).length ≤ d.length := trmTo_len d _
theorem trmTo_skip {d : List Int} {i : Nat} (h : gd d i = 0) : trmTo d (i + 1) = trmTo d i := by simp [trmTo, h]
theorem trmTo_more {d : List Int} {i : Nat} (h : gd d i ≠ 0) : trmTo d (i + 1) = trmTo d i ++ [((i : Int), gd d i)] := by simp [trmTo, h]
end Go.Av
namespace Go.Av
open Go Go.Proofs
set_option maxRecDepth 10000
theorem fo39_0 : fieldOff Tryd.prog 39 0 = some 0 := by kernel_rfl
theorem fo39_1 : fieldOff Tryd.prog 39 1 = some 1 := by kernel_rfl
theorem hb21 : hasBody Tryd.prog 21 = true := by kernel_rfl

theorem ringIs_c (p vars : Int) (xs : List (Int × Int)) (hl : (xs.length : Int) ≤ 9223372036854775807) (hp : prime p vars = true) : ACall Tryd.prog 14 [.agg [.int .i64 p, .int .i64 vars], .sl (tcells xs) xs.length] [] (.bool (goodL p vars xs)) [] := by
  have hp := prime_spec hp
  have hw := pow6 hp.2
  refine ACall.intro Tryd.func14 rfl (N := 45) rfl (by decide) (by simp) ?_
  refine a_seq ?_
  refine a_region ?_
  refine r_new (v := .op [.int _ _, .int _ _]) (q_box (.inl rfl) rfl rfl) rfl rfl (by decide) ?_
  refine r_val (v := .bool _) (v_assign (.inl rfl) (noOwn_flat rfl)) rfl rfl (by decide) ?_
  refine r_nil ?_
  refine a_seq ?_
  refine a_seq ?_
  refine a_region ?_
  refine r_val (v := .sl _ _) (v_move (.inl rfl) (noOwn_flat rfl)) rfl rfl (by decide) ?_
  refine r_val (v := .int _ _) (v_len_sl sl26 (.inl rfl)) rfl rfl (by decide) ?_
  refine r_val (v := .int _ _) (v_move (.inl rfl) (noOwn_flat rfl)) rfl rfl (by decide) ?_
  refine r_nil ?_
  refine a_block ?_
  refine a_loop (X := Nat) (fun i => look [(1, .sl (tcells xs) xs.length), (2, .op [.int .i64 p, .int .i64 vars]), (7, .sl (tcells xs) xs.length), (8, .int .i64 (xs.length : Int)), (9, .int .i64 (i : Int))]) (fun i => i ≤ xs.length ∧ ∀ j, j < i → okAt p vars xs j = true) (fun i => xs.length - i) 0 (ent_look ⟨Weak.of_eq rfl, Weak.of_eq rfl, Weak.of_eq rfl, Weak.of_eq rfl, Weak.of_eq rfl, trivial⟩) ⟨Nat.zero_le _, fun j h => by omega⟩ (fun i hG => ?_)
  obtain ⟨h1, h2⟩ := hG
  refine a_seq ?_
  refine a_region ?_
  refine r_val (v := .bool _) (v_lss (.inl rfl) (.inl rfl)) rfl rfl (by decide) ?_
  refine r_nil ?_
  refine a_seq ?_
  refine a_cond rfl (fun ht10 => ?_) (fun ht10 => ?_)
  ·
    skip
    refine a_skip ?_
    refine a_seq ?_
    refine a_block ?_
    refine a_seq ?_
    refine a_region ?_
    have hi : i < xs.length := (by simp at ht10; omega)
    refine r_val (v := .int _ _) (v_move (.inl rfl) (noOwn_flat rfl)) rfl rfl (by decide) ?_
    refine r_val (v := .pp _ _) (v_indexAddr_sl es26 (.inl rfl) (.inl rfl) (fun _ => ⟨by omega, by omega, tcells_ne hi⟩)) rfl rfl (by decide) ?_
    refine r_val (v := .agg [.int .i64 (tm xs i).1, .int .i64 (tm xs i).2]) (v_load_ppa1 ta33 (.inl rfl) rfl (fun _ => tcells_two (i := i) (tm_get hi)) rfl) rfl rfl (by decide) ?_
    refine r_new (v := .op [.int _ _, .int _ _]) (q_alloc zc33) rfl rfl (by decide) ?_
    refine r_val (v := .int _ _) (v_assign (.inl rfl) (noOwn_flat rfl)) rfl rfl (by decide) ?_
    refine r_step rfl (o_store (v := .agg [.int _ _, .int _ _]) (y' := .op [.int _ _, .int _ _]) rfl rfl ta33 (.inl rfl) (.inl rfl) rfl rfl rfl rfl rfl rfl (Nat.le_of_ble_eq_true rfl) (by decide) rfl rfl) ?_
    refine r_nil ?_
    refine a_seq ?_
    refine a_region_any mixed (by kernel_rfl) ?_
    refine y_val (v := .rp _ _) (v_fieldAddr_rp fo39_1 (.inl rfl)) rfl rfl (by decide) (by kernel_rfl) ?_
    refine y_val (v := .int _ _) (v_load_rp1 ta3 (.inl rfl) rfl (fun _ => rfl) rfl) rfl rfl (by decide) (by kernel_rfl) ?_
    refine y_val (v := .rp _ _) (v_fieldAddr_rp fo33_0 (.inl rfl)) rfl rfl (by decide) (by kernel_rfl) ?_
    refine y_val (v := .int _ _) (v_load_rp1 ta3 (.inl rfl) rfl (fun _ => rfl) rfl) rfl rfl (by decide) (by kernel_rfl) ?_
    refine y_new (v := .bool _) (q_call (vs := [.int _ _, .int _ _]) (args := [.int .i64 _, .int .i64 _]) hb21 ⟨.inl rfl, .inl rfl, trivial⟩ rfl (fun hA => bitsOk_c _ _ (by omega)) rfl rfl) rfl rfl (by decide) (by kernel_rfl) ?_
    refine y_val (v := .bool _) (v_not (.inl rfl)) rfl rfl (by decide) (by kernel_rfl) ?_
    refine y_val (v := .bool _) (v_move (.inl rfl) (noOwn_flat rfl)) rfl rfl (by decide) (by kernel_rfl) ?_
    refine y_guard (v := .rp _ _) (v_fieldAddr_rp fo33_1 (.inl rfl)).quiet rfl rfl rfl (by decide) (.inl ⟨_, rfl, rfl⟩) rfl (by decide) (by kernel_rfl) ?_
    refine y_guard (v := .int _ _) (v_load_rp1 ta3 (.inr ⟨_, rfl, fun h => h⟩) rfl (fun _ => rfl) rfl).quiet rfl rfl rfl (by decide) (.inl ⟨_, rfl, rfl⟩) rfl (by decide) (by kernel_rfl) ?_
    refine y_guard (v := .rp _ _) (v_fieldAddr_rp fo39_0 (.inl rfl)).quiet rfl rfl rfl (by decide) (.inl ⟨_, rfl, rfl⟩) rfl (by decide) (by kernel_rfl) ?_
    refine y_guard (v := .int _ _) (v_load_rp1 ta3 (.inr ⟨_, rfl, fun h => h⟩) rfl (fun _ => rfl) rfl).quiet rfl rfl rfl (by decide) (.inl ⟨_, rfl, rfl⟩) rfl (by decide) (by kernel_rfl) ?_
    refine y_guard (v := .int _ _) (v_sub (.inr ⟨_, rfl, fun h => h⟩) (.inl rfl) (fun hA => by omega)).quiet rfl rfl rfl (by decide) (.inl ⟨_, rfl, rfl⟩) rfl (by decide) (by kernel_rfl) ?_
    refine y_guard (v := .bool _) (q_call (vs := [.int _ _, .int _ _, .int _ _]) (args := [.int .i64 _, .int .i64 _, .int .i64 _]) hb20 ⟨.inr ⟨_, rfl, fun h => h⟩, .inl rfl, .inr ⟨_, rfl, fun h => h⟩, trivial⟩ rfl (fun hA => within_c _ _ _) rfl rfl) rfl rfl rfl (by decide) (.inl ⟨_, rfl, rfl⟩) rfl (by decide) (by kernel_rfl) ?_
    refine y_guard (v := .bool _) (v_not (.inr ⟨_, rfl, fun h => h⟩)).quiet rfl rfl rfl (by decide) (.inl ⟨_, rfl, rfl⟩) rfl (by decide) (by kernel_rfl) ?_
    refine y_val (v := .bool _) (v_pick (.inl rfl) (.inl rfl) (.inr ⟨_, rfl, fun h h2 => by simp_all⟩)) rfl rfl (by decide) (by kernel_rfl) ?_
    refine y_val (v := .bool _) (v_move (.inl rfl) (noOwn_flat rfl)) rfl rfl (by decide) (by kernel_rfl) ?_
    refine y_guard (v := .int _ _) (v_move (.inl rfl) (noOwn_flat rfl)).quiet rfl rfl rfl (by decide) (.inl ⟨_, rfl, rfl⟩) rfl (by decide) (by kernel_rfl) ?_
    refine y_guard (v := .bool _) (v_gtr (.inr ⟨_, rfl, fun h => h⟩) (.inl rfl)).quiet rfl rfl rfl (by decide) (.inl ⟨_, rfl, rfl⟩) rfl (by decide) (by kernel_rfl) ?_
    refine y_guard (v := .bool _) (v_move (.inr ⟨_, rfl, fun h => h⟩) (noOwn_flat rfl)).quiet rfl rfl rfl (by decide) (.inl ⟨_, rfl, rfl⟩) rfl (by decide) (by kernel_rfl) ?_
    refine y_guard (v := .rp _ _) (v_fieldAddr_rp fo33_0 (.inl rfl)).quiet rfl rfl rfl (by decide) (.inr ⟨_, _, rfl, rfl⟩) rfl (by decide) (by kernel_rfl) ?_
    refine y_guard (v := .int _ _) (v_load_rp1 ta3 (.inr ⟨_, rfl, fun h => h⟩) rfl (fun _ => rfl) rfl).quiet rfl rfl rfl (by decide) (.inr ⟨_, _, rfl, rfl⟩) rfl (by decide) (by kernel_rfl) ?_
    refine y_guard (v := .sl _ _) (v_move (.inl rfl) (noOwn_flat rfl)).quiet rfl rfl rfl (by decide) (.inr ⟨_, _, rfl, rfl⟩) rfl (by decide) (by kernel_rfl) ?_
    refine y_guard (v := .int _ _) (v_move (.inl rfl) (noOwn_flat rfl)).quiet rfl rfl rfl (by decide) (.inr ⟨_, _, rfl, rfl⟩) rfl (by decide) (by kernel_rfl) ?_
    refine y_guard (v := .int _ _) (v_sub (.inr ⟨_, rfl, fun h => h⟩) (.inl rfl) (fun hA => by omega)).quiet rfl rfl rfl (by decide) (.inr ⟨_, _, rfl, rfl⟩) rfl (by decide) (by kernel_rfl) ?_
    refine y_guard (v := .pp _ _) (v_indexAddr_sl es26 (.inr ⟨_, rfl, fun h => h⟩) (.inr ⟨_, rfl, fun h => h⟩) (fun hA => ⟨by simp at hA; omega, by omega, tcells_ne hi⟩)).quiet rfl rfl rfl (by decide) (.inr ⟨_, _, rfl, rfl⟩) rfl (by decide) (by kernel_rfl) ?_
    refine y_guard (v := .pp _ _) (v_fieldAddr_pp fo33_0 (.inr ⟨_, rfl, fun h => h⟩)).quiet rfl rfl rfl (by decide) (.inr ⟨_, _, rfl, rfl⟩) rfl (by decide) (by kernel_rfl) ?_
    refine y_guard (v := .int .i64 (tm xs (i - 1)).1) (v_load_pp ta3 (.inr ⟨_, rfl, fun h => h⟩) (fun hA => by rw [Nat.add_zero, show ((i : Int) - 1).toNat = i - 1 by omega]; exact tcells_get0 (tm_get (by omega))) rfl).quiet rfl rfl rfl (by decide) (.inr ⟨_, _, rfl, rfl⟩) rfl (by decide) (by kernel_rfl) ?_
    refine y_guard (v := .bool _) (v_leq (.inr ⟨_, rfl, fun h => h⟩) (.inr ⟨_, rfl, fun h => h⟩)).quiet rfl rfl rfl (by decide) (.inr ⟨_, _, rfl, rfl⟩) rfl (by decide) (by kernel_rfl) ?_
    refine y_guard (v := .bool _) (v_pick (.inr ⟨_, rfl, fun h => h⟩) (.inr ⟨_, rfl, fun h h2 => by simp_all⟩) (.inl rfl)).quiet rfl rfl rfl (by decide) (.inl ⟨_, rfl, rfl⟩) rfl (by decide) (by kernel_rfl) ?_
    refine y_val (v := .bool _) (v_pick (.inl rfl) (.inl rfl) (.inr ⟨_, rfl, fun h h2 => by simp_all⟩)) rfl rfl (by decide) (by kernel_rfl) ?_
    refine y_nil ?_
    refine a_cond rfl (fun ht43 => ?_) (fun ht43 => ?_)
    ·
      skip
      refine a_seq ?_
      refine a_pre (ent_look (L := [(1, .sl _ _), (2, .op [.int _ _, .int _ _]), (7, .sl _ _), (8, .int _ _), (9, .int _ _)]) ⟨Weak.rfl, Weak.rfl, Weak.rfl, Weak.rfl, Weak.rfl, trivial⟩) ?_
      refine a_region ?_
      refine r_val (v := .bool _) (v_assign (.inl rfl) (noOwn_flat rfl)) rfl rfl (by decide) ?_
      refine r_nil ?_
      refine a_ret ?_
      refine ret1 Tryd.results14 (by decide) (by decide) (Weak.of_eq (bool_eq ?_)) rfl Leaves.nil
      have hk : okAt p vars xs i = false := by unfold okAt; cases ha : inR (tm xs i).1 0 (2 ^ vars.toNat - 1) <;> cases hb : inR (tm xs i).2 1 (p - 1) <;> simp [ha, hb] at ht43 ⊢ <;> omega
      rw [good_false hi hk]
    ·
      skip
      refine a_skip ?_
      refine a_pre (ent_look (L := [(1, .sl _ _), (2, .op [.int _ _, .int _ _]), (7, .sl _ _), (8, .int _ _), (9, .int _ _)]) ⟨Weak.rfl, Weak.rfl, Weak.rfl, Weak.rfl, Weak.rfl, trivial⟩) ?_
      refine a_region ?_
      refine r_val (v := .int _ _) (v_add (.inl rfl) (.inl rfl) (fun _ => by omega)) rfl rfl (by decide) ?_
      refine r_val (v := .int _ _) (v_move (.inl rfl) (noOwn_flat rfl)) rfl rfl (by decide) ?_
      refine r_nil ?_
      have hk : okAt p vars xs i = true := by unfold okAt; cases ha : inR (tm xs i).1 0 (2 ^ vars.toNat - 1) <;> cases hb : inR (tm xs i).2 1 (p - 1) <;> simp [ha, hb] at ht43 ⊢ <;> omega
      refine ⟨i + 1, ent_look ⟨Weak.of_eq rfl, Weak.of_eq rfl, Weak.of_eq rfl, Weak.of_eq rfl, Weak.of_eq (int_eq (by omega)), trivial⟩, ⟨by omega, ok_step h2 hk⟩, by omega⟩
  ·
    skip
    refine a_exit ?_
    refine a_seq ?_
    refine a_region ?_
    refine r_val (v := .bool _) (v_assign (.inl rfl) (noOwn_flat rfl)) rfl rfl (by decide) ?_
    refine r_nil ?_
    refine a_ret ?_
    refine ret1 Tryd.results14 (by decide) (by decide) (Weak.of_eq (bool_eq ?_)) rfl Leaves.nil
    simp at ht10
    rw [good_true (fun j hj => h2 j (by omega))]
end Go.Av
namespace Go.Av
open Go Go.Proofs
set_option maxRecDepth 10000



end Go.Av
namespace Go.Av
open Go Go.Proofs
set_option maxRecDepth 10000



end Go.Av
namespace Go.Av
open Go Go.Proofs
set_option maxRecDepth 10000



end Go.Av
namespace Go.Av
open Go Go.Proofs
set_option maxRecDepth 10000



end Go.Av
namespace Go.Av
open Go

mutual
theorem snapV_id (σ : Sig) : ∀ x : AV, pureV x = true → noNil x = true → snapV σ x = x
  | .undef, _, _ | .int .., _, _ | .bool _, _, _ | .str _, _, _ | .that .., _, _ | .nilp, _, _ | .sl .., _, _ | .pp .., _, _ => rfl
  | .nils, _, h | .emp, _, h => by simp [noNil] at h
  | .rsl .., h, _ | .rp .., h, _ | .tup _, h, _ | .osl .., h, _ | .op _, h, _ | .when .., h, _ => by simp [pureV] at h
  | .agg cs, h, h' => by simp only [pureV] at h; simp only [noNil] at h'; simp only [snapV, snapL_id σ cs h h']
  | .fn f us cs, h, h' => by
    simp only [pureV, Bool.and_eq_true] at h
    simp only [noNil, Bool.and_eq_true] at h'
    simp only [snapV, snapL_id σ us h.1 h'.1, snapL_id σ cs h.2 h'.2]
theorem snapL_id (σ : Sig) : ∀ cs : List AV, pureL cs = true → noNilL cs = true → snapL σ cs = cs
  | [], _, _ => rfl
  | c :: cs, h, h' => by
    simp only [pureL, Bool.and_eq_true] at h
    simp only [noNilL, Bool.and_eq_true] at h'
    simp only [snapL, snapV_id σ c h.1 h'.1, snapL_id σ cs h.2 h'.2]
end
end Go.Av
namespace Go.Av
open Go
theorem trmTo_congr {A B : List Int} : ∀ {i : Nat}, (∀ j, j < i → gd A j = gd B j) → trmTo A i = trmTo B i
  | 0, _ => rfl
  | i + 1, h => by simp only [trmTo, h i (by omega), trmTo_congr (fun j hj => h j (Nat.lt_succ_of_lt hj))]
theorem trmTo_tail {A : List Int} {m : Nat} (h : ∀ j, m ≤ j → gd A j = 0) : ∀ {i : Nat}, m ≤ i → trmTo A i = trmTo A m
  | 0, hi => by have : m = 0 := by omega
                rw [this]
  | i + 1, hi => by
    rcases Nat.eq_or_lt_of_le hi with he | hl
    · rw [he]
    · rw [trmTo_skip (h i (by omega)), trmTo_tail h (by omega)]
/-- A good polynomial is the terms of its coefficients. -/
theorem good_trm {p vars : Int} {xs : List (Int × Int)} (hp : 0 ≤ vars) (h : goodL p vars xs = true) : trm (accp p (dn vars) xs) = xs := by
  have hdn := dn_cast vars
  have key : ∀ k, k ≤ xs.length → trmTo (accp p (dn vars) (xs.take k)) (dn vars) = xs.take k := by
    intro k
    induction k with
    | zero =>
      intro _
      rw [List.take_zero]
      exact trmTo_tail (A := accp p (dn vars) []) (m := 0) (fun j _ => gd_rep) (Nat.zero_le _)
    | succ k ih =>
      intro hk
      have hs := good_spec h (show k < xs.length by omega)
      have hz : ∀ j, (tm xs k).1.toNat ≤ j → gd (accp p (dn vars) (xs.take k)) j = 0 := fun j hj => accp_zero fun t ht => by
        obtain ⟨i, hi⟩ := List.getElem?_of_mem ht
        rw [List.getElem?_take] at hi
        split at hi
        · rename_i hik
          have h1 := good_asc h hik (by omega)
          have h2 := (good_spec h (show i < xs.length by omega)).1
          have : tm xs i = t := by simp [tm, hi]
          rw [this] at h1 h2
          omega
        · cases hi
      have ih := ih (by omega)
      rw [trmTo_tail hz (by omega)] at ih
      rw [← good_set h (show k < xs.length by omega)]
      have hlt : (tm xs k).1.toNat < dn vars := by omega
      have hg : gd ((accp p (dn vars) (xs.take k)).set (tm xs k).1.toNat (tm xs k).2) (tm xs k).1.toNat = (tm xs k).2 := by rw [gd_set (by rw [accp_length]; exact hlt)]
      rw [trmTo_tail (m := (tm xs k).1.toNat + 1) (fun j hj => by rw [gd_set_ne (by omega)]; exact hz j (by omega)) hlt, trmTo_more (by rw [hg]; omega), hg,
        trmTo_congr (B := accp p (dn vars) (xs.take k)) (fun j hj => gd_set_ne (by omega)), ih, take_tm (by omega)]
      congr 2
      exact Prod.ext (by simp; omega) rfl
  have := key xs.length (Nat.le_refl _)
  rw [List.take_length] at this
  unfold trm; rw [accp_length]; exact this
end Go.Av
namespace Go.Av
open Go

theorem acall_below {P : Program} {f : FuncId} {args : List AV} {r : ByteArray} (hN : args.length ≤ INH) (hp : pureL args = true)
    (h : ∀ (F : Nat → Prop) (w : World) (vs : List Value), (∀ b, F b → b < w.heap.size) → vs.length = args.length → RepL (fun _ => none) F w args (0, []) 0 vs →
      Calls P f vs.toArray w fun en w' => en = .returned (.string r) ∧ Go.RowKit.Below w.heap.size w w') : ACall P f args [] (.str r) [] := by
  intro e vs val w β F hl hv hi
  have ha : RepL (fun _ => none) F w args (0, []) 0 vs := RepL_iff.2 fun i c hc => by
    have hil : i < args.length := (List.getElem?_eq_some_iff.1 hc).1
    have hr := hi.rep i
    have hs : argSig args [] i = c := by unfold argSig; rw [if_pos (by omega), hc]; rfl
    rw [hs, hv i (by omega)] at hr
    have hg : vs[i]? = some (vs.getD i undef) := by rw [List.getD_eq_getElem?_getD, List.getElem?_eq_getElem (by omega)]; rfl
    exact ⟨_, hg, hr.pure_any (pureL_mem hp (List.mem_of_getElem? hc))⟩
  refine (h F w vs (fun b hb => (hi.fr b hb).1) hl ha).mono fun en w' ⟨he, hb⟩ => ⟨.string r, β, F, he, ?_⟩
  have hM := hi.more hb.block hb.size ⟨hb.os.trans hi.tame.1, hb.output.trans hi.tame.2⟩
  have hq : pureL [AV.str r] = true := rfl
  refine ⟨fun i => ?_, fun q q' b s s' ho => (noOwn_argSig hq q ho).elim, fun q b s ho => (noOwn_argSig hq q ho).elim, hM.fr, hM.kept, hM.grow, hM.tame⟩
  by_cases h0 : i = 0
  · subst h0
    rw [argSig_zero, upd_same]; simp [Rep]
  · unfold argSig
    split
    · rw [List.getElem?_eq_none (by simp; omega)]; simp [Rep]
    · simp [Rep]

/-- A string of bytes. -/
def bs (l : List UInt8) : ByteArray := ⟨l.toArray⟩
theorem bs_app (a b : List UInt8) : bs a ++ bs b = bs (a ++ b) := by
  have h : (bs a ++ bs b).data = (bs (a ++ b)).data := by simp [bs]
  cases hx : bs a ++ bs b; cases hy : bs (a ++ b); rw [hx, hy] at h; simp at h; rw [h]
theorem bs_size (a : List UInt8) : (bs a).size = a.length := by simp [bs, ByteArray.size]
theorem bs_list (a : List UInt8) : (bs a).data.toList = a := by simp [bs]
/-- The cells of a row of strings. -/
def scells (l : List (List UInt8)) : List AV := l.map fun s => .str (bs s)
theorem scells_pure (l : List (List UInt8)) : pureL (scells l) = true := pureL_iff.2 fun c hc => by obtain ⟨s, _, rfl⟩ := List.mem_map.1 hc; rfl
theorem scells_length (l : List (List UInt8)) : (scells l).length = l.length := by simp [scells]

/-- strings.Join, out of its contract. -/
theorem acall_join {P : Program} {f : FuncId} {l : List (List UInt8)} {sep : List UInt8} (hne : l ≠ []) (hl : l.length ≤ 140737488355328) (hlen : (Lib.join l sep).length ≤ 140737488355328)
    (hJ : ∀ (bk o c : Nat) (xs : List ByteArray) (sep : ByteArray) (w : World), (∀ (j : Nat) x, xs[j]? = some x → w.cell? ⟨bk, o + j, none⟩ = some (.string x)) → bk < w.heap.size → xs.length ≤ 140737488355328 → xs.length ≤ c →
      (Lib.join (xs.map (·.data.toList)) sep.data.toList).length ≤ 140737488355328 →
      Calls P f #[.slice (some ⟨bk, o, none⟩) xs.length c, .string sep] w fun e w' => e = .returned (.string ⟨(Lib.join (xs.map (·.data.toList)) sep.data.toList).toArray⟩) ∧ Go.RowKit.Below w.heap.size w w') :
    ACall P f [.sl (scells l) l.length, .str (bs sep)] [] (.str (bs (Lib.join l sep))) [] := by
  refine acall_below (by simp; unfold INH; omega) (by simp [pureL, pureV, scells_pure]) fun F w vs hF hvl ha => ?_
  have e1 : (l.map bs).map (·.data.toList) = l := by rw [List.map_map]; conv => rhs; rw [← List.map_id l]
                                                     exact List.map_congr_left fun s _ => bs_list s
  match vs, hvl with
  | [v0, v1], _ =>
    simp only [RepL, Rep] at ha
    obtain ⟨⟨_, a, cap, rfl, hc, hx⟩, rfl, _⟩ := ha
    obtain ⟨b, off, arr, t, fz, rfl, hb, hh, hr⟩ := hx (by simpa [scells] using hne)
    have := hJ b off cap (l.map bs) (bs sep) w (fun j x hj => by
      rw [List.getElem?_map] at hj
      cases hs : l[j]? with
      | none => rw [hs] at hj; cases hj
      | some s =>
        rw [hs] at hj; simp at hj; subst hj
        obtain ⟨v, hv, hrv⟩ := RepL_iff.1 hr j (.str (bs s)) (by simp [scells, hs])
        simp only [Rep] at hrv
        subst hrv
        rw [List.getElem?_drop] at hv
        simp [World.cell?, hh]
        simpa using hv) (hF b hb) (by simpa using hl) (by simpa using hc) (by rw [e1, bs_list]; exact hlen)
    rw [e1, bs_list, List.length_map] at this
    exact this
end Go.Av
namespace Go.Av
open Go
set_option maxRecDepth 10000

/-- The digit of a small number. -/
def dg (n : Nat) : UInt8 := UInt8.ofNat (48 + n)
/-- What stands for a variable. -/
def vtx (j : Nat) : List UInt8 := [42, 120, dg (j + 1)]
/-- The variables of a monomial, among the first n. -/
def mtx (m : Nat) : Nat → List UInt8
  | 0 => []
  | n + 1 => mtx m n ++ (if m / 2 ^ n % 2 = 1 then vtx n else [])
def bitsL (m : Nat) : Nat → List Int
  | 0 => []
  | n + 1 => bitsL m n ++ (if m / 2 ^ n % 2 = 1 then [(n : Int)] else [])
def ltx (L : List Int) (k : Nat) : List UInt8 := (L.take k).flatMap fun j => vtx j.toNat
/-- The text of a term. -/
def pxt (vars : Nat) (t : Int × Int) : List UInt8 := dg t.2.toNat :: mtx t.1.toNat vars
def sepx : List UInt8 := [32, 43, 32]
/-- The text of the first i terms. -/
def stx (vars : Nat) (xs : List (Int × Int)) : Nat → List UInt8
  | 0 => []
  | i + 1 => stx vars xs i ++ ((if 0 < i then sepx else []) ++ pxt vars (tm xs i))
def ptl (vars : Nat) (xs : List (Int × Int)) : Nat → List (List UInt8)
  | 0 => []
  | i + 1 => ptl vars xs i ++ [pxt vars (tm xs i)]
def txt (p vars : Int) (xs : List (Int × Int)) : List UInt8 :=
  if prime p vars && goodL p vars xs then (if xs = [] then [48] else stx vars.toNat xs xs.length) else []

theorem ptl_length (vars : Nat) (xs : List (Int × Int)) : ∀ i, (ptl vars xs i).length = i
  | 0 => rfl
  | i + 1 => by simp [ptl, ptl_length vars xs i]
theorem mtx_length (m : Nat) : ∀ n, (mtx m n).length ≤ 3 * n
  | 0 => by simp [mtx]
  | n + 1 => by
    have := mtx_length m n
    simp only [mtx, List.length_append]
    split <;> simp [vtx] <;> omega
theorem pxt_length (vars : Nat) (t : Int × Int) (h : vars ≤ 6) : (pxt vars t).length ≤ 19 := by
  have := mtx_length t.1.toNat vars
  simp [pxt]; omega
theorem stx_length (vars : Nat) (xs : List (Int × Int)) (h : vars ≤ 6) : ∀ i, (stx vars xs i).length ≤ 22 * i
  | 0 => by simp [stx]
  | i + 1 => by
    have := stx_length vars xs h i
    have := pxt_length vars (tm xs i) h
    simp only [stx, List.length_append]
    split <;> simp [sepx] <;> omega
theorem bitsL_length (m : Nat) : ∀ n, (bitsL m n).length ≤ n
  | 0 => by simp [bitsL]
  | n + 1 => by
    have := bitsL_length m n
    simp only [bitsL, List.length_append]
    split <;> simp <;> omega
theorem bitsL_mem (m : Nat) : ∀ n x, x ∈ bitsL m n → 0 ≤ x ∧ x < n
  | 0, x, h => by simp [bitsL] at h
  | n + 1, x, h => by
    simp only [bitsL, List.mem_append] at h
    rcases h with h | h
    · have := bitsL_mem m n x h; omega
    · split at h
      · simp at h; omega
      · simp at h
theorem bitsL_ltx (m : Nat) : ∀ n, (bitsL m n).flatMap (fun j => vtx j.toNat) = mtx m n
  | 0 => rfl
  | n + 1 => by
    simp only [bitsL, mtx, List.flatMap_append, bitsL_ltx m n]
    split <;> simp
theorem ltx_full (m n : Nat) : ltx (bitsL m n) (bitsL m n).length = mtx m n := by
  unfold ltx; rw [List.take_of_length_le (Nat.le_refl _), bitsL_ltx]
theorem ltx_succ {L : List Int} {k : Nat} (h : k < L.length) : ltx L (k + 1) = ltx L k ++ vtx (gd L k).toNat := by
  unfold ltx
  have h1 : L[k]? = some (gd L k) := gd_get h
  rw [List.take_add_one, h1, List.flatMap_append]
  simp
theorem ltx_length (L : List Int) (k : Nat) : (ltx L k).length ≤ 3 * k := by
  have h : ∀ l : List Int, (l.flatMap fun j => vtx j.toNat).length = 3 * l.length := fun l => by
    induction l with
    | nil => rfl
    | cons x l ih => simp only [List.flatMap_cons, List.length_append, ih, List.length_cons]; simp [vtx]; omega
  unfold ltx; rw [h, List.length_take]; omega
theorem bits_stop {m i : Nat} (h : m / 2 ^ i = 0) : ∀ k, bitsL m (i + k) = bitsL m i
  | 0 => rfl
  | k + 1 => by
    have h1 : m / 2 ^ (i + k) = 0 := by rw [Nat.pow_add, ← Nat.div_div_eq_div_mul, h]; simp
    have h2 : bitsL m (i + (k + 1)) = bitsL m (i + k) ++ (if m / 2 ^ (i + k) % 2 = 1 then [((i + k : Nat) : Int)] else []) := rfl
    rw [h2, h1, bits_stop h k]; simp
theorem bits_done {m i n : Nat} (h : m / 2 ^ i = 0) (hi : i ≤ n) : bitsL m i = bitsL m n := by
  have := bits_stop h (n - i)
  rw [show i + (n - i) = n by omega] at this; exact this.symm

theorem join_snoc (sep y : List UInt8) : ∀ A : List (List UInt8), A ≠ [] → Lib.join (A ++ [y]) sep = Lib.join A sep ++ (sep ++ y)
  | [], h => absurd rfl h
  | x :: r, _ => by rw [List.cons_append, Lib.join_cons, Lib.join_cons]; simp [Lib.joinTail]
theorem join_ptl (vars : Nat) (xs : List (Int × Int)) : ∀ i, Lib.join (ptl vars xs i) sepx = stx vars xs i
  | 0 => rfl
  | 1 => by simp [ptl, stx, Lib.join_one]
  | i + 2 => by
    have h : ptl vars xs (i + 1) ≠ [] := fun h => by have := ptl_length vars xs (i + 1); rw [h] at this; simp at this
    have h1 : ptl vars xs (i + 2) = ptl vars xs (i + 1) ++ [pxt vars (tm xs (i + 1))] := rfl
    have h2 : stx vars xs (i + 2) = stx vars xs (i + 1) ++ ((if 0 < i + 1 then sepx else []) ++ pxt vars (tm xs (i + 1))) := rfl
    rw [h1, join_snoc _ _ _ h, join_ptl vars xs (i + 1), h2, if_pos (by omega)]
theorem good_len {p vars : Int} {xs : List (Int × Int)} (hp : prime p vars = true) (h : goodL p vars xs = true) : xs.length ≤ 64 := by
  have h1 := prime_spec hp
  have h2 := good_trm (p := p) h1.2.1 h
  have h3 := trm_len (accp p (dn vars) xs)
  rw [h2, accp_length] at h3
  have := dn_le h1.2
  omega
theorem sapp {a b : List UInt8} {x y : ByteArray} (hx : x = bs a) (hy : y = bs b) : x ++ y = bs (a ++ b) := by rw [hx, hy, bs_app]
theorem dig_ext {n : Nat} (h : n < 10) : (⟨#[48, 49, 50, 51, 52, 53, 54, 55, 56, 57]⟩ : ByteArray).extract n (n + 1) = bs [dg n] := by
  match n, h with
  | 0, _ | 1, _ | 2, _ | 3, _ | 4, _ | 5, _ | 6, _ | 7, _ | 8, _ | 9, _ => rfl
theorem bit_and (m j : Nat) : (((m / 2 ^ j &&& 1 : Nat) : Int) = 1) ↔ m / 2 ^ j % 2 = 1 := by
  rw [Nat.and_one_is_mod]; omega
def shx (m i : Nat) : Nat := m / 2 ^ i
theorem shx_le (m i : Nat) : shx m i ≤ m := Nat.div_le_self _ _
theorem shx_int (m i : Nat) : ((m : Nat) : Int) / 2 ^ ((i : Nat) : Int).toNat = ((shx m i : Nat) : Int) := by simp [shx]
theorem shx_bit {m i : Nat} (h : ((shx m i &&& 1 : Nat) : Int) = 1) : m / 2 ^ i % 2 = 1 := (bit_and m i).1 h
theorem shx_bitn {m i : Nat} (h : ¬ ((shx m i &&& 1 : Nat) : Int) = 1) : ¬ m / 2 ^ i % 2 = 1 := fun h' => h ((bit_and m i).2 h')
theorem shx_lt {m n i : Nat} (hm : m < 2 ^ n) (h : 0 < shx m i) : i < n := by
  rcases Nat.lt_or_ge i n with h' | h'
  · exact h'
  · have := Nat.div_eq_of_lt (Nat.lt_of_lt_of_le hm (Nat.pow_le_pow_right (n := 2) (by decide) h'))
    unfold shx at h; omega
theorem good_term {p vars : Int} {xs : List (Int × Int)} (hp : prime p vars = true) (hg : goodL p vars xs = true) {i : Nat} (hi : i < xs.length) :
    (tm xs i).1.toNat < 2 ^ vars.toNat ∧ (((tm xs i).1.toNat : Nat) : Int) = (tm xs i).1 ∧ (tm xs i).2.toNat < 10 ∧ (((tm xs i).2.toNat : Nat) : Int) = (tm xs i).2 := by
  have h1 := prime_spec hp
  have h2 := good_spec hg hi
  have h3 : ((2 ^ vars.toNat : Nat) : Int) = (2 : Int) ^ vars.toNat := by simp
  omega
/-- What stands ahead of the i-th term. -/
def atx (vars : Nat) (xs : List (Int × Int)) (i : Nat) : List UInt8 := stx vars xs i ++ (if 0 < i then sepx else [])
def btx (vars : Nat) (xs : List (Int × Int)) (i k : Nat) : List UInt8 := atx vars xs i ++ (dg (tm xs i).2.toNat :: ltx (bitsL (tm xs i).1.toNat vars) k)
theorem stx_size {vars : Nat} {xs : List (Int × Int)} {i : Nat} (h : vars ≤ 6) (hi : i ≤ 64) : (bs (stx vars xs i)).size ≤ 2000 := by
  have := stx_length vars xs h i
  rw [bs_size]; omega
theorem atx_size {vars : Nat} {xs : List (Int × Int)} {i : Nat} (h : vars ≤ 6) (hi : i ≤ 64) : (bs (atx vars xs i)).size ≤ 2000 := by
  have := stx_length vars xs h i
  rw [bs_size]; unfold atx; rw [List.length_append]
  split <;> simp [sepx] <;> omega
theorem btx_size {vars : Nat} {xs : List (Int × Int)} {i k : Nat} (h : vars ≤ 6) (hi : i ≤ 64) (hk : k ≤ 6) : (bs (btx vars xs i k)).size ≤ 2100 := by
  have h1 := atx_size (xs := xs) h hi
  have h2 := ltx_length (bitsL (tm xs i).1.toNat vars) k
  rw [bs_size] at h1
  rw [bs_size]; unfold btx; rw [List.length_append, List.length_cons]; omega
theorem btx_succ {vars : Nat} {xs : List (Int × Int)} {i k : Nat} (hk : k < (bitsL (tm xs i).1.toNat vars).length) :
    (btx vars xs i k ++ [42, 120]) ++ [dg ((gd (bitsL (tm xs i).1.toNat vars) k).toNat + 1)] = btx vars xs i (k + 1) := by
  unfold btx
  rw [ltx_succ hk]; simp [vtx]
theorem btx_full (vars : Nat) (xs : List (Int × Int)) (i : Nat) : btx vars xs i (bitsL (tm xs i).1.toNat vars).length = stx vars xs (i + 1) := by
  unfold btx atx
  rw [ltx_full]; simp [stx, pxt]
theorem bst_eq {a b : List UInt8} (h : a = b) : AV.str (bs a) = AV.str (bs b) := congrArg (fun x => AV.str (bs x)) h
theorem scells_app {l : List (List UInt8)} {s : List UInt8} : scells l ++ [.str (bs s)] = scells (l ++ [s]) := by simp [scells]
theorem sc_noNil (l : List (List UInt8)) : noNilL (scells l) = true := by
  induction l with
  | nil => rfl
  | cons x l ih => simpa [scells, noNilL, noNil] using ih
theorem sc_pure (l : List (List UInt8)) : pureL (scells l) = true ∧ noNilL (scells l) = true := ⟨scells_pure l, sc_noNil l⟩
end Go.Av
namespace Go.Proofs
open Go.Shelf
def Tryd.lays156_ren : Go.Shelf.Ren := ⟨fun | 156 => 16 | 165 => 23 | 166 => 24 | 169 => 25 | 240 => 27 | 241 => 28 | 276 => 33 | 277 => 34 | n => n, fun | 31 => 43 | 9 => 9 | 3 => 3 | 4 => 4 | 0 => 0 | 20 => 20 | 72 => 51 | 76 => 55 | 70 => 48 | 37 => 49 | 75 => 54 | 127 => 59 | 164 => 66 | 5 => 5 | 80 => 57 | n => n, fun | n => n⟩
theorem Tryd.lays156 : Go.Proofs.Lays.n156 Tryd.prog Tryd.lays156_ren := {
  mixed := by kernel_rfl
  f156 := Tryd.func16.trans (congrArg some (by kernel_rfl))
  f165 := Tryd.func23.trans (congrArg some (by kernel_rfl))
  f166 := Tryd.func24.trans (congrArg some (by kernel_rfl))
  f169 := Tryd.func25.trans (congrArg some (by kernel_rfl))
  f240 := Tryd.func27.trans (congrArg some (by kernel_rfl))
  f241 := Tryd.func28.trans (congrArg some (by kernel_rfl))
  f276 := Tryd.func33.trans (congrArg some (by kernel_rfl))
  f277 := Tryd.func34.trans (congrArg some (by kernel_rfl))
  t0 := Tryd.underlying0
  a0 := Tryd.isAgg0
  z0 := Tryd.sizeOf0
  v0 := Tryd.zeroValue0
  t3 := Tryd.underlying3
  a3 := Tryd.isAgg3
  z3 := Tryd.sizeOf3
  v3 := Tryd.zeroValue3
  t4 := Tryd.underlying4
  a4 := Tryd.isAgg4
  z4 := Tryd.sizeOf4
  v4 := Tryd.zeroValue4
  t9 := Tryd.underlying9
  a9 := Tryd.isAgg9
  z9 := Tryd.sizeOf9
  v9 := Tryd.zeroValue9
  t20 := Tryd.underlying20
  a20 := Tryd.isAgg20
  z20 := Tryd.sizeOf20
  v20 := Tryd.zeroValue20
  t31 := Tryd.underlying43
  a31 := Tryd.isAgg43
  z31 := Tryd.sizeOf43
  v31 := Tryd.zeroValue43
  t37 := Tryd.underlying49
  a37 := Tryd.isAgg49
  z37 := Tryd.sizeOf49
  v37 := Tryd.zeroValue49
  t70 := Tryd.underlying48
  a70 := Tryd.isAgg48
  z70 := Tryd.sizeOf48
  v70 := Tryd.zeroValue48
  t72 := Tryd.underlying51
  a72 := Tryd.isAgg51
  z72 := Tryd.sizeOf51
  v72 := Tryd.zeroValue51
  t75 := Tryd.underlying54
  a75 := Tryd.isAgg54
  z75 := Tryd.sizeOf54
  v75 := Tryd.zeroValue54
  t76 := Tryd.underlying55
  a76 := Tryd.isAgg55
  z76 := Tryd.sizeOf55
  v76 := Tryd.zeroValue55
  t127 := Tryd.underlying59
  a127 := Tryd.isAgg59
  z127 := Tryd.sizeOf59
  v127 := Tryd.zeroValue59
  t164 := Tryd.underlying66
  a164 := Tryd.isAgg66
  z164 := Tryd.sizeOf66
  v164 := Tryd.zeroValue66 }
theorem Tryd.Builder_Extra_156 : Builder.Extra Tryd.prog Tryd.lays156_ren := {
  sizeBuilder := by kernel_rfl
  liesBuilder := by kernel_rfl
  t5 := Tryd.underlying5
  a5 := Tryd.isAgg5
  z5 := Tryd.sizeOf5
  v5 := Tryd.zeroValue5
  infoByte := by kernel_rfl
  cellsByte := by kernel_rfl
  sizeByte := by kernel_rfl
  neB5 := by decide }
open Go.RowKit in
/-- strings.Join: "Join concatenates the elements of its first argument to create a single string. The separator string sep is placed between elements in the resulting string.": HOWEVER MANY ELEMENTS. Below the heap's end the world is as it was. (LAID: no walk: one application.) -/
theorem Tryd.strings_Join (bk o c : Nat) (xs : List ByteArray) (sep : ByteArray) (w : World) (hcells : ∀ (j : Nat) x, xs[j]? = some x → w.cell? ⟨bk, o + j, none⟩ = some (.string x)) (hbk : bk < w.heap.size) (hN : xs.length ≤ 140737488355328) (hcap : xs.length ≤ c) (hlen : (Lib.join (xs.map (·.data.toList)) sep.data.toList).length ≤ 140737488355328) :
    Calls Tryd.prog 16 #[.slice (some ⟨bk, o, none⟩) xs.length c, .string sep] w fun e w' => e = .returned (.string ⟨(Lib.join (xs.map (·.data.toList)) sep.data.toList).toArray⟩) ∧ Below w.heap.size w w' := Any.strings_Join Tryd.lays156 Tryd.Builder_Extra_156 bk o c xs sep w hcells hbk hN hcap hlen
def Tryd.lays171_ren : Go.Shelf.Ren := ⟨fun | 171 => 15 | 243 => 22 | 246 => 26 | 283 => 29 | 284 => 30 | 285 => 31 | 286 => 32 | 129 => 36 | 317 => 35 | 318 => 37 | 319 => 38 | 320 => 39 | 337 => 40 | 338 => 41 | n => n, fun | 3 => 3 | 9 => 9 | 2 => 2 | 4 => 4 | 171 => 60 | 0 => 0 | 53 => 61 | 37 => 49 | 5 => 5 | 173 => 64 | 212 => 71 | 51 => 72 | 20 => 20 | 213 => 73 | 46 => 75 | 232 => 78 | 233 => 79 | n => n, fun | 17 => 0 | 18 => 2 | 19 => 3 | n => n⟩
theorem Tryd.lays171 : Go.Proofs.Lays.n171 Tryd.prog Tryd.lays171_ren := {
  mixed := by kernel_rfl
  f129 := Tryd.func36.trans (congrArg some (by kernel_rfl))
  f171 := Tryd.func15.trans (congrArg some (by kernel_rfl))
  f243 := Tryd.func22.trans (congrArg some (by kernel_rfl))
  f246 := Tryd.func26.trans (congrArg some (by kernel_rfl))
  f283 := Tryd.func29.trans (congrArg some (by kernel_rfl))
  f284 := Tryd.func30.trans (congrArg some (by kernel_rfl))
  f285 := Tryd.func31.trans (congrArg some (by kernel_rfl))
  f286 := Tryd.func32.trans (congrArg some (by kernel_rfl))
  f317 := Tryd.func35.trans (congrArg some (by kernel_rfl))
  f318 := Tryd.func37.trans (congrArg some (by kernel_rfl))
  f319 := Tryd.func38.trans (congrArg some (by kernel_rfl))
  f320 := Tryd.func39.trans (congrArg some (by kernel_rfl))
  f337 := Tryd.func40.trans (congrArg some (by kernel_rfl))
  f338 := Tryd.func41.trans (congrArg some (by kernel_rfl))
  t0 := Tryd.underlying0
  a0 := Tryd.isAgg0
  z0 := Tryd.sizeOf0
  v0 := Tryd.zeroValue0
  t2 := Tryd.underlying2
  a2 := Tryd.isAgg2
  z2 := Tryd.sizeOf2
  v2 := Tryd.zeroValue2
  t3 := Tryd.underlying3
  a3 := Tryd.isAgg3
  z3 := Tryd.sizeOf3
  v3 := Tryd.zeroValue3
  t4 := Tryd.underlying4
  a4 := Tryd.isAgg4
  z4 := Tryd.sizeOf4
  v4 := Tryd.zeroValue4
  t5 := Tryd.underlying5
  a5 := Tryd.isAgg5
  z5 := Tryd.sizeOf5
  v5 := Tryd.zeroValue5
  t9 := Tryd.underlying9
  a9 := Tryd.isAgg9
  z9 := Tryd.sizeOf9
  v9 := Tryd.zeroValue9
  t20 := Tryd.underlying20
  a20 := Tryd.isAgg20
  z20 := Tryd.sizeOf20
  v20 := Tryd.zeroValue20
  t37 := Tryd.underlying49
  a37 := Tryd.isAgg49
  z37 := Tryd.sizeOf49
  v37 := Tryd.zeroValue49
  t46 := Tryd.underlying75
  a46 := Tryd.isAgg75
  z46 := Tryd.sizeOf75
  v46 := Tryd.zeroValue75
  t51 := Tryd.underlying72
  a51 := Tryd.isAgg72
  z51 := Tryd.sizeOf72
  v51 := Tryd.zeroValue72
  t53 := Tryd.underlying61
  a53 := Tryd.isAgg61
  z53 := Tryd.sizeOf61
  v53 := Tryd.zeroValue61
  t171 := Tryd.underlying60
  a171 := Tryd.isAgg60
  z171 := Tryd.sizeOf60
  v171 := Tryd.zeroValue60
  t173 := Tryd.underlying64
  a173 := Tryd.isAgg64
  z173 := Tryd.sizeOf64
  v173 := Tryd.zeroValue64
  t212 := Tryd.underlying71
  a212 := Tryd.isAgg71
  z212 := Tryd.sizeOf71
  v212 := Tryd.zeroValue71
  t213 := Tryd.underlying73
  a213 := Tryd.isAgg73
  z213 := Tryd.sizeOf73
  t232 := Tryd.underlying78
  a232 := Tryd.isAgg78
  z232 := Tryd.sizeOf78
  v232 := Tryd.zeroValue78
  t233 := Tryd.underlying79
  a233 := Tryd.isAgg79
  z233 := Tryd.sizeOf79
  v233 := Tryd.zeroValue79
  g17 := by kernel_rfl
  g18 := by kernel_rfl
  g19 := by kernel_rfl }
open Go.RowKit Go.Sort Go.Lib in
/-- THE ROAD WITHOUT THE TABLE: 0 <= i < 100: NO PREMISE ON THE WORLD, AND THE WORLD IS AS IT WAS: a row that keeps its argument in that range need list no table ('laid = []'). (LAID: no walk: one application.) -/
theorem Tryd.strconv_Itoa_small (i : Nat) (hi : i < 100) (w : World) :
    Calls Tryd.prog 15 #[.int .i64 i] w fun e w' => e = .returned (.string ⟨(Lib.decDigits i).toArray⟩) ∧ w' = w := Any.strconv_Itoa_small Tryd.lays171 i hi w
end Go.Proofs
namespace Go.Av
open Go Go.Proofs


theorem join_c (l : List (List UInt8)) (sep : List UInt8) (hne : l ≠ []) (hl : l.length ≤ 140737488355328) (hlen : (Lib.join l sep).length ≤ 140737488355328) :
    ACall Tryd.prog 16 [.sl (scells l) l.length, .str (bs sep)] [] (.str (bs (Lib.join l sep))) [] := acall_join hne hl hlen Tryd.strings_Join
theorem itoa_c (n : Nat) (h : n < 10) : ACall Tryd.prog 15 [.int .i64 (n : Int)] [] (.str (bs [dg n])) [] :=
  acall_below (by simp [INH]) rfl fun F w vs _ hl ha => by
    match vs, hl with
    | [v], _ =>
      simp only [RepL, Rep] at ha
      obtain ⟨rfl, _⟩ := ha
      refine (Tryd.strconv_Itoa_small n (by omega) w).mono fun e w' ⟨he, hw⟩ => ⟨?_, by rw [hw]; exact Go.RowKit.Below.refl _ _⟩
      rw [he, Lib.decDigits, dif_pos h]; rfl
end Go.Av
namespace Go.Av
open Go Go.Proofs
set_option maxRecDepth 10000
theorem ap34 : appTy Tryd.prog 34 = some (1, 8) := by kernel_rfl
theorem es34 : elemSize Tryd.prog 34 = some 1 := by kernel_rfl
theorem hb10 : hasBody Tryd.prog 10 = true := by kernel_rfl
theorem hb11 : hasBody Tryd.prog 11 = true := by kernel_rfl
theorem hb9 : hasBody Tryd.prog 9 = true := by kernel_rfl
theorem lt34 : litTy Tryd.prog 34 = some (1, [.int .i64 0]) := by kernel_rfl
theorem sl34 : isSlice Tryd.prog 34 = true := by kernel_rfl
theorem un9 : Tryd.prog.underlying 9 = some .string := by kernel_rfl

theorem l1Num_c (n : Nat) (h : n < 10) : ACall Tryd.prog 10 [.int .i64 ((n : Nat) : Int)] [] (.str (bs [dg n])) [] := by
  refine ACall.intro Tryd.func10 rfl (N := 25) rfl (by decide) (by simp) ?_
  refine a_seq ?_
  refine a_region ?_
  refine r_val (v := .str _) (v_assign (.inl rfl) (noOwn_flat rfl)) rfl rfl (by decide) ?_
  refine r_nil ?_
  refine a_seq ?_
  refine a_seq ?_
  refine a_region ?_
  refine r_val (v := .int _ _) (v_move (.inl rfl) (noOwn_flat rfl)) rfl rfl (by decide) ?_
  refine r_val (v := .bool _) (v_lss (.inl rfl) (.inl rfl)) rfl rfl (by decide) ?_
  refine r_nil ?_
  refine a_cond rfl (fun ht4 => ?_) (fun ht4 => ?_)
  ·
    skip
    exfalso
    simp at ht4; omega
  ·
    skip
    refine a_skip ?_
    refine a_seq ?_
    refine a_seq ?_
    refine a_region ?_
    refine r_val (v := .int _ _) (v_move (.inl rfl) (noOwn_flat rfl)) rfl rfl (by decide) ?_
    refine r_val (v := .bool _) (v_lss (.inl rfl) (.inl rfl)) rfl rfl (by decide) ?_
    refine r_nil ?_
    refine a_cond rfl (fun ht10 => ?_) (fun ht10 => ?_)
    ·
      skip
      refine a_seq ?_
      refine a_region ?_
      refine r_val (v := .int _ _) (v_move (.inl rfl) (noOwn_flat rfl)) rfl rfl (by decide) ?_
      refine r_val (v := .int _ _) (v_move (.inl rfl) (noOwn_flat rfl)) rfl rfl (by decide) ?_
      refine r_val (v := .int _ _) (v_add (.inl rfl) (.inl rfl) (fun _ => by omega)) rfl rfl (by decide) ?_
      refine r_val (v := .str (bs [dg n])) ((v_slice_str (l := n) (h := n + 1) un9 (.inl rfl) (.inr ⟨_, _, rfl, .inl rfl⟩) (.inr ⟨_, _, rfl, .inl rfl⟩) (fun _ => ⟨by omega, by show _ ≤ 10; omega⟩)).cast (str_eq (dig_ext h))) rfl rfl (by decide) ?_
      refine r_val (v := .str _) (v_assign (.inl rfl) (noOwn_flat rfl)) rfl rfl (by decide) ?_
      refine r_nil ?_
      refine a_ret ?_
      refine ret1 Tryd.results10 (by decide) (by decide) (Weak.of_eq (str_eq ?_)) rfl Leaves.nil
      rfl
    ·
      skip
      refine a_skip ?_
      refine a_seq ?_
      exfalso
      simp at ht10; omega

theorem l14List_c (m n : Nat) (hm : m < 2 ^ n) (hn : n ≤ 6) : ACall Tryd.prog 11 [.int .i64 ((m : Nat) : Int)] [] (.osl 1 (icells (bitsL m n)) (bitsL m n).length none) [] := by
  have hp : (2 : Nat) ^ n ≤ 2 ^ 6 := Nat.pow_le_pow_right (by decide) hn
  have hm64 : m < 64 := (by omega)
  refine ACall.intro Tryd.func11 rfl (N := 22) rfl (by decide) (by simp) ?_
  refine a_seq ?_
  refine a_region ?_
  refine r_val (v := .nils) (v_assign (.inl rfl) (noOwn_flat rfl)) rfl rfl (by decide) ?_
  refine r_nil ?_
  refine a_seq ?_
  refine a_region ?_
  refine r_new (v := .osl _ _ _ _) (q_sliceLit (n := 0) (parts := []) lt34 rfl rfl rfl rfl) rfl rfl (by decide) ?_
  refine r_val (v := .rsl _ _ _ _ _) (v_assign (.inl rfl) (noOwn_flat rfl)) rfl rfl (by decide) ?_
  refine r_pre (ent_reloc_sl (t := 3) rfl rfl) ?_
  refine r_nil ?_
  refine a_seq ?_
  refine a_seq ?_
  refine a_region ?_
  refine r_val (v := .int _ _) (v_assign (.inl rfl) (noOwn_flat rfl)) rfl rfl (by decide) ?_
  refine r_nil ?_
  refine a_block ?_
  refine a_loop (X := Nat) (fun i => look [(0, .int .i64 ((m : Nat) : Int)), (3, .osl 1 (icells (bitsL m i)) (bitsL m i).length none), (4, .int .i64 ((i : Nat) : Int))]) (fun i => i ≤ n) (fun i => n - i) 0 (ent_look ⟨Weak.of_eq rfl, Weak.osl rfl rfl, Weak.of_eq rfl, trivial⟩) (Nat.zero_le _) (fun i hG => ?_)
  refine a_seq ?_
  refine a_seq ?_
  have hsl := shx_le m i
  refine a_region ?_
  refine r_val (v := .int _ _) (v_move (.inl rfl) (noOwn_flat rfl)) rfl rfl (by decide) ?_
  refine r_val (v := .int _ _) (v_move (.inl rfl) (noOwn_flat rfl)) rfl rfl (by decide) ?_
  refine r_val (v := .int .i64 ((shx m i : Nat) : Int)) ((v_shr (.inl rfl) (.inl rfl) (fun _ => by omega)).cast (int_eq (shx_int m i))) rfl rfl (by decide) ?_
  refine r_val (v := .bool _) (v_gtr (.inl rfl) (.inl rfl)) rfl rfl (by decide) ?_
  refine r_nil ?_
  refine a_cond rfl (fun ht9 => ?_) (fun ht9 => ?_)
  ·
    skip
    refine a_skip ?_
    refine a_seq ?_
    refine a_block ?_
    refine a_seq ?_
    have hin : i < n := shx_lt hm (by simpa using ht9)
    have hbl := bitsL_length m i
    have ha1 : shx m i &&& 1 ≤ 1 := Nat.and_le_right
    refine a_region ?_
    refine r_val (v := .int _ _) (v_move (.inl rfl) (noOwn_flat rfl)) rfl rfl (by decide) ?_
    refine r_val (v := .int _ _) (v_move (.inl rfl) (noOwn_flat rfl)) rfl rfl (by decide) ?_
    refine r_val (v := .int .i64 ((shx m i : Nat) : Int)) ((v_shr (.inl rfl) (.inl rfl) (fun _ => by omega)).cast (int_eq (shx_int m i))) rfl rfl (by decide) ?_
    refine r_val (v := .int .i64 ((shx m i &&& 1 : Nat) : Int)) ((v_and (.inl rfl) (.inl rfl) (fun _ => by omega)).cast (int_eq rfl)) rfl rfl (by decide) ?_
    refine r_val (v := .bool _) (v_eql (.inl rfl) (.inl rfl)) rfl rfl (by decide) ?_
    refine r_nil ?_
    refine a_cond rfl (fun ht16 => ?_) (fun ht16 => ?_)
    ·
      skip
      refine a_region ?_
      refine r_val (v := .rsl _ _ _ _ _) (v_move (.inl rfl) (noOwn_flat rfl)) rfl rfl (by decide) ?_
      refine r_val (v := .int _ _) (v_move (.inl rfl) (noOwn_flat rfl)) rfl rfl (by decide) ?_
      refine r_new (v := .osl _ _ _ _) (q_sliceLit (n := 1) (parts := [(0, .tmp 18)]) lt34 rfl rfl rfl rfl) rfl rfl (by decide) ?_
      refine r_pre (ent_reloc_sl (t := 17) rfl rfl) ?_
      refine r_step rfl (o_append rfl ap34 rfl (by decide) (by decide) rfl (src_lit (.inl rfl) rfl rfl rfl) rfl (by rw [icells_length, Nat.mul_one]) (by omega)) ?_
      refine r_val (v := .rsl _ _ _ _ _) (v_assign (.inl rfl) (noOwn_flat rfl)) rfl rfl (by decide) ?_
      refine r_pre (ent_reloc_sl (t := 3) rfl rfl) ?_
      refine r_nil ?_
      refine a_region ?_
      refine r_val (v := .int _ _) (v_move (.inl rfl) (noOwn_flat rfl)) rfl rfl (by decide) ?_
      refine r_val (v := .int _ _) (v_add (.inl rfl) (.inl rfl) (fun _ => by omega)) rfl rfl (by decide) ?_
      refine r_val (v := .int _ _) (v_assign (.inl rfl) (noOwn_flat rfl)) rfl rfl (by decide) ?_
      refine r_nil ?_
      have hb : m / 2 ^ i % 2 = 1 := shx_bit (by simpa using ht16)
      refine ⟨i + 1, ent_look ⟨Weak.of_eq rfl, Weak.osl (icells_app.trans (congrArg icells (by simp [bitsL, hb]))) (by simp [bitsL, hb]), Weak.of_eq (int_eq (by omega)), trivial⟩, by omega, by omega⟩
    ·
      skip
      refine a_skip ?_
      refine a_region ?_
      refine r_val (v := .int _ _) (v_move (.inl rfl) (noOwn_flat rfl)) rfl rfl (by decide) ?_
      refine r_val (v := .int _ _) (v_add (.inl rfl) (.inl rfl) (fun _ => by omega)) rfl rfl (by decide) ?_
      refine r_val (v := .int _ _) (v_assign (.inl rfl) (noOwn_flat rfl)) rfl rfl (by decide) ?_
      refine r_nil ?_
      have hb : ¬ m / 2 ^ i % 2 = 1 := shx_bitn (by simpa using ht16)
      refine ⟨i + 1, ent_look ⟨Weak.of_eq rfl, Weak.osl (congrArg icells (by simp [bitsL, hb])) (by simp [bitsL, hb]), Weak.of_eq (int_eq (by omega)), trivial⟩, by omega, by omega⟩
  ·
    skip
    refine a_exit ?_
    refine a_seq ?_
    have h0 : m / 2 ^ i = 0 := (by have : shx m i = 0 := (by simp at ht9; omega); exact this)
    have hbd := bits_done (n := n) h0 (by omega)
    refine a_pre (ent_eq (t := 3) (v' := .osl 1 (icells (bitsL m n)) (bitsL m n).length none) (Weak.osl (by rw [hbd]) (by rw [hbd]))) ?_
    refine a_region ?_
    refine r_val (v := .rsl _ _ _ _ _) (v_move (.inl rfl) (noOwn_flat rfl)) rfl rfl (by decide) ?_
    refine r_val (v := .rsl _ _ _ _ _) (v_assign (.inl rfl) (noOwn_flat rfl)) rfl rfl (by decide) ?_
    refine r_pre (ent_reloc_sl (t := 2) rfl rfl) ?_
    refine r_nil ?_
    refine a_ret ?_
    refine ret1 Tryd.results11 (by decide) (by decide) (Weak.osl ?_ ?_) rfl Leaves.nil
    all_goals rfl

theorem sPolyText_c (p vars : Int) (xs : List (Int × Int)) (hl : (xs.length : Int) ≤ 9223372036854775807) : ACall Tryd.prog 5 [.int .i64 p, .int .i64 vars, .sl (tcells xs) xs.length] [] (.tup [.str (bs (txt p vars xs)), .bool (prime p vars && goodL p vars xs)]) [] := by
  refine ACall.intro Tryd.func5 rfl (N := 60) rfl (by decide) (by simp) ?_
  refine a_seq ?_
  refine a_region ?_
  refine r_val (v := .str _) (v_assign (.inl rfl) (noOwn_flat rfl)) rfl rfl (by decide) ?_
  refine r_val (v := .bool _) (v_assign (.inl rfl) (noOwn_flat rfl)) rfl rfl (by decide) ?_
  refine r_nil ?_
  refine a_seq ?_
  refine a_seq ?_
  refine a_region ?_
  refine r_val (v := .int _ _) (v_move (.inl rfl) (noOwn_flat rfl)) rfl rfl (by decide) ?_
  refine r_val (v := .int _ _) (v_move (.inl rfl) (noOwn_flat rfl)) rfl rfl (by decide) ?_
  refine r_val (v := .sl _ _) (v_move (.inl rfl) (noOwn_flat rfl)) rfl rfl (by decide) ?_
  refine r_new (v := .bool _) (q_call (vs := [.int _ _, .int _ _, .sl _ _]) (args := [.int .i64 _, .int .i64 _, .sl _ _]) hb9 ⟨.inl rfl, .inl rfl, .inl rfl, trivial⟩ rfl (fun hA => l18Good_c _ _ _ (by omega)) rfl rfl) rfl rfl (by decide) ?_
  refine r_val (v := .bool _) (v_not (.inl rfl)) rfl rfl (by decide) ?_
  refine r_nil ?_
  refine a_cond rfl (fun ht16 => ?_) (fun ht16 => ?_)
  ·
    skip
    refine a_seq ?_
    refine a_region ?_
    refine r_val (v := .str _) (v_assign (.inl rfl) (noOwn_flat rfl)) rfl rfl (by decide) ?_
    refine r_val (v := .bool _) (v_assign (.inl rfl) (noOwn_flat rfl)) rfl rfl (by decide) ?_
    refine r_nil ?_
    refine a_ret ?_
    refine retL (rs := [.tmp 6, .tmp 7]) [(6, _), (7, _)] ⟨Weak.rfl, Weak.rfl, trivial⟩ rfl Tryd.results5 (by decide) ⟨by decide, by decide, rfl⟩ (by decide) (by decide) (l2_eq (str_eq ?_) (bool_eq ?_)) rfl
    all_goals (have hno : (prime p vars && goodL p vars xs) = false := (by cases h1 : prime p vars <;> cases h2 : goodL p vars xs <;> simp_all); simp [txt, hno, bs])
  ·
    skip
    refine a_skip ?_
    refine a_seq ?_
    refine a_seq ?_
    obtain ⟨hp, hg⟩ : prime p vars = true ∧ goodL p vars xs = true := (by simpa using ht16)
    have hpp := prime_spec hp
    have hlen := good_len hp hg
    refine a_region ?_
    refine r_val (v := .sl _ _) (v_move (.inl rfl) (noOwn_flat rfl)) rfl rfl (by decide) ?_
    refine r_val (v := .int _ _) (v_len_sl sl26 (.inl rfl)) rfl rfl (by decide) ?_
    refine r_val (v := .bool _) (v_eql (.inl rfl) (.inl rfl)) rfl rfl (by decide) ?_
    refine r_nil ?_
    refine a_cond rfl (fun ht19 => ?_) (fun ht19 => ?_)
    ·
      skip
      refine a_seq ?_
      refine a_region ?_
      refine r_val (v := .str _) (v_assign (.inl rfl) (noOwn_flat rfl)) rfl rfl (by decide) ?_
      refine r_val (v := .bool _) (v_assign (.inl rfl) (noOwn_flat rfl)) rfl rfl (by decide) ?_
      refine r_nil ?_
      refine a_ret ?_
      refine retL (rs := [.tmp 6, .tmp 7]) [(6, _), (7, _)] ⟨Weak.rfl, Weak.rfl, trivial⟩ rfl Tryd.results5 (by decide) ⟨by decide, by decide, rfl⟩ (by decide) (by decide) (l2_eq (str_eq ?_) (bool_eq ?_)) rfl
      all_goals (have hx : xs = [] := (by simpa using ht19); subst hx; simp [txt, hp, hg, bs])
    ·
      skip
      refine a_skip ?_
      refine a_seq ?_
      refine a_region ?_
      refine r_val (v := .str _) (v_assign (.inl rfl) (noOwn_flat rfl)) rfl rfl (by decide) ?_
      refine r_nil ?_
      refine a_seq ?_
      refine a_seq ?_
      refine a_region ?_
      refine r_val (v := .int _ _) (v_assign (.inl rfl) (noOwn_flat rfl)) rfl rfl (by decide) ?_
      refine r_nil ?_
      refine a_block ?_
      refine a_loop (X := Nat) (fun i => look [(0, .int .i64 p), (1, .int .i64 vars), (2, .sl (tcells xs) xs.length), (8, .str (bs (stx vars.toNat xs i))), (9, .int .i64 ((i : Nat) : Int))]) (fun i => i ≤ xs.length) (fun i => xs.length - i) 0 (ent_look ⟨Weak.of_eq rfl, Weak.of_eq rfl, Weak.of_eq rfl, Weak.of_eq rfl, Weak.of_eq rfl, trivial⟩) (Nat.zero_le _) (fun i hG => ?_)
      refine a_seq ?_
      refine a_seq ?_
      refine a_region ?_
      refine r_val (v := .int _ _) (v_move (.inl rfl) (noOwn_flat rfl)) rfl rfl (by decide) ?_
      refine r_val (v := .sl _ _) (v_move (.inl rfl) (noOwn_flat rfl)) rfl rfl (by decide) ?_
      refine r_val (v := .int _ _) (v_len_sl sl26 (.inl rfl)) rfl rfl (by decide) ?_
      refine r_val (v := .bool _) (v_lss (.inl rfl) (.inl rfl)) rfl rfl (by decide) ?_
      refine r_nil ?_
      refine a_cond rfl (fun ht23 => ?_) (fun ht23 => ?_)
      ·
        skip
        refine a_skip ?_
        refine a_seq ?_
        refine a_block ?_
        refine a_seq ?_
        refine a_seq ?_
        have hi : i < xs.length := (by simp at ht23; omega)
        have ht := good_term hp hg hi
        have hz1 := stx_size (vars := vars.toNat) (xs := xs) (i := i) (by omega) (by omega)
        have hz2 := atx_size (vars := vars.toNat) (xs := xs) (i := i) (by omega) (by omega)
        have hbl := bitsL_length (tm xs i).1.toNat vars.toNat
        refine a_region ?_
        refine r_val (v := .int _ _) (v_move (.inl rfl) (noOwn_flat rfl)) rfl rfl (by decide) ?_
        refine r_val (v := .bool _) (v_gtr (.inl rfl) (.inl rfl)) rfl rfl (by decide) ?_
        refine r_nil ?_
        refine a_cond rfl (fun ht27 => ?_) (fun ht27 => ?_)
        ·
          skip
          refine a_region ?_
          refine r_val (v := .str _) (v_move (.inl rfl) (noOwn_flat rfl)) rfl rfl (by decide) ?_
          refine r_val (v := .str _) (v_sadd (.inl rfl) (.inl rfl) (fun _ => by show _ + 3 ≤ _; omega)) rfl rfl (by decide) ?_
          refine r_val (v := .str _) (v_assign (.inl rfl) (noOwn_flat rfl)) rfl rfl (by decide) ?_
          refine r_nil ?_
          refine a_seq ?_
          refine a_pre (ent_eq (t := 8) (v' := .str (bs (atx vars.toNat xs i))) (Weak.of_eq (str_eq (by unfold atx; first | (rw [if_pos (by simp at ht27; omega)]; exact sapp rfl rfl) | (rw [if_neg (by simp at ht27; omega), List.append_nil]))))) ?_
          refine a_region ?_
          refine r_val (v := .str _) (v_move (.inl rfl) (noOwn_flat rfl)) rfl rfl (by decide) ?_
          refine r_val (v := .sl _ _) (v_move (.inl rfl) (noOwn_flat rfl)) rfl rfl (by decide) ?_
          refine r_val (v := .int _ _) (v_move (.inl rfl) (noOwn_flat rfl)) rfl rfl (by decide) ?_
          refine r_val (v := .pp _ _) (v_indexAddr_sl es26 (.inl rfl) (.inl rfl) (fun _ => ⟨by omega, by omega, tcells_ne hi⟩)) rfl rfl (by decide) ?_
          refine r_val (v := .pp _ _) (v_fieldAddr_pp fo33_1 (.inl rfl)) rfl rfl (by decide) ?_
          refine r_val (v := .int .i64 (((tm xs i).2.toNat : Nat) : Int)) ((v_load_pp ta3 (.inl rfl) (fun _ => tcells_get1 (i := i) (tm_get hi)) rfl).cast (int_eq (by omega))) rfl rfl (by decide) ?_
          refine r_new (v := .str _) (q_call (vs := [.int _ _]) (args := [.int .i64 ((_ : Nat) : Int)]) hb10 ⟨.inl rfl, trivial⟩ rfl (fun hA => l1Num_c _ (by omega)) rfl rfl) rfl rfl (by decide) ?_
          refine r_val (v := .str (bs (btx vars.toNat xs i 0))) ((v_sadd (.inl rfl) (.inl rfl) (fun _ => by show _ + 1 ≤ _; omega)).cast (str_eq (bs_app _ _))) rfl rfl (by decide) ?_
          refine r_val (v := .str _) (v_assign (.inl rfl) (noOwn_flat rfl)) rfl rfl (by decide) ?_
          refine r_nil ?_
          refine a_seq ?_
          refine a_region ?_
          refine r_val (v := .sl _ _) (v_move (.inl rfl) (noOwn_flat rfl)) rfl rfl (by decide) ?_
          refine r_val (v := .int _ _) (v_move (.inl rfl) (noOwn_flat rfl)) rfl rfl (by decide) ?_
          refine r_val (v := .pp _ _) (v_indexAddr_sl es26 (.inl rfl) (.inl rfl) (fun _ => ⟨by omega, by omega, tcells_ne hi⟩)) rfl rfl (by decide) ?_
          refine r_val (v := .pp _ _) (v_fieldAddr_pp fo33_0 (.inl rfl)) rfl rfl (by decide) ?_
          refine r_val (v := .int .i64 (((tm xs i).1.toNat : Nat) : Int)) ((v_load_pp ta3 (.inl rfl) (fun _ => tcells_get0 (i := i) (tm_get hi)) rfl).cast (int_eq (by omega))) rfl rfl (by decide) ?_
          refine r_new (v := .osl _ _ _ _) (q_call (vs := [.int _ _]) (args := [.int .i64 ((_ : Nat) : Int)]) hb11 ⟨.inl rfl, trivial⟩ rfl (fun hA => l14List_c _ vars.toNat ht.1 (by omega)) (ic_noSh _) (ic_noRef _)) rfl rfl (by decide) ?_
          refine r_val (v := .rsl _ _ _ _ _) (v_assign (.inl rfl) (noOwn_flat rfl)) rfl rfl (by decide) ?_
          refine r_pre (ent_reloc_sl (t := 10) rfl rfl) ?_
          refine r_nil ?_
          refine a_seq ?_
          refine a_pre (ent_look (L := [(0, .int _ _), (1, .int _ _), (2, .sl _ _), (8, .str _), (9, .int _ _), (10, .osl _ _ _ _)]) ⟨Weak.rfl, Weak.rfl, Weak.rfl, Weak.rfl, Weak.rfl, Weak.rfl, trivial⟩) ?_
          refine a_region ?_
          refine r_val (v := .int _ _) (v_assign (.inl rfl) (noOwn_flat rfl)) rfl rfl (by decide) ?_
          refine r_nil ?_
          refine a_block ?_
          refine a_loop (X := Nat) (fun k => look [(0, .int .i64 p), (1, .int .i64 vars), (2, .sl (tcells xs) xs.length), (8, .str (bs (btx vars.toNat xs i k))), (9, .int .i64 ((i : Nat) : Int)), (10, .osl 1 (icells (bitsL (tm xs i).1.toNat vars.toNat)) (bitsL (tm xs i).1.toNat vars.toNat).length none), (11, .int .i64 ((k : Nat) : Int))]) (fun k => k ≤ (bitsL (tm xs i).1.toNat vars.toNat).length) (fun k => (bitsL (tm xs i).1.toNat vars.toNat).length - k) 0 (ent_look ⟨Weak.of_eq rfl, Weak.of_eq rfl, Weak.of_eq rfl, Weak.of_eq rfl, Weak.of_eq rfl, Weak.of_eq rfl, Weak.of_eq rfl, trivial⟩) (Nat.zero_le _) (fun k hG => ?_)
          refine a_seq ?_
          refine a_seq ?_
          refine a_region ?_
          refine r_val (v := .int _ _) (v_move (.inl rfl) (noOwn_flat rfl)) rfl rfl (by decide) ?_
          refine r_val (v := .rsl _ _ _ _ _) (v_move (.inl rfl) (noOwn_flat rfl)) rfl rfl (by decide) ?_
          refine r_val (v := .int _ _) (v_len_rsl sl34 (.inl rfl)) rfl rfl (by decide) ?_
          refine r_val (v := .bool _) (v_lss (.inl rfl) (.inl rfl)) rfl rfl (by decide) ?_
          refine r_nil ?_
          refine a_cond rfl (fun ht47 => ?_) (fun ht47 => ?_)
          ·
            skip
            refine a_skip ?_
            refine a_seq ?_
            refine a_block ?_
            have hk : k < (bitsL (tm xs i).1.toNat vars.toNat).length := (by simp at ht47; omega)
            have hz3 := btx_size (vars := vars.toNat) (xs := xs) (i := i) (k := k) (by omega) (by omega) (by omega)
            have hgk := bitsL_mem _ _ _ (List.mem_of_getElem? (gd_get hk))
            refine a_region ?_
            refine r_val (v := .str _) (v_move (.inl rfl) (noOwn_flat rfl)) rfl rfl (by decide) ?_
            refine r_val (v := .str (bs (btx vars.toNat xs i k ++ [42, 120]))) ((v_sadd (.inl rfl) (.inl rfl) (fun _ => by show _ + 2 ≤ _; omega)).cast (str_eq (sapp rfl rfl))) rfl rfl (by decide) ?_
            refine r_val (v := .rsl _ _ _ _ _) (v_move (.inl rfl) (noOwn_flat rfl)) rfl rfl (by decide) ?_
            refine r_val (v := .int _ _) (v_move (.inl rfl) (noOwn_flat rfl)) rfl rfl (by decide) ?_
            refine r_val (v := .rp _ _) (v_indexAddr_rsl0 es34 (.inl rfl) (.inl rfl) (fun _ => by omega)) rfl rfl (by decide) ?_
            refine r_val (v := .int .i64 (gd (bitsL (tm xs i).1.toNat vars.toNat) k)) (v_load_rp1 ta3 (.inl rfl) rfl (fun _ => by rw [Nat.mul_one]; exact icells_get (gd_get hk)) rfl) rfl rfl (by decide) ?_
            refine r_val (v := .int .i64 (((gd (bitsL (tm xs i).1.toNat vars.toNat) k).toNat + 1 : Nat) : Int)) ((v_add (.inl rfl) (.inl rfl) (fun _ => by omega)).cast (int_eq (by omega))) rfl rfl (by decide) ?_
            refine r_new (v := .str _) (q_call (vs := [.int _ _]) (args := [.int .i64 ((_ : Nat) : Int)]) hb10 ⟨.inl rfl, trivial⟩ rfl (fun hA => l1Num_c _ (by omega)) rfl rfl) rfl rfl (by decide) ?_
            refine r_val (v := .str (bs (btx vars.toNat xs i (k + 1)))) ((v_sadd (.inl rfl) (.inl rfl) (fun _ => by rw [bs_size] at hz3; rw [bs_size, List.length_append]; show _ + 2 + 1 ≤ _; omega)).cast (str_eq ((bs_app _ _).trans (congrArg bs (btx_succ hk))))) rfl rfl (by decide) ?_
            refine r_val (v := .str _) (v_assign (.inl rfl) (noOwn_flat rfl)) rfl rfl (by decide) ?_
            refine r_nil ?_
            refine a_region ?_
            refine r_val (v := .int _ _) (v_move (.inl rfl) (noOwn_flat rfl)) rfl rfl (by decide) ?_
            refine r_val (v := .int _ _) (v_add (.inl rfl) (.inl rfl) (fun _ => by omega)) rfl rfl (by decide) ?_
            refine r_val (v := .int _ _) (v_assign (.inl rfl) (noOwn_flat rfl)) rfl rfl (by decide) ?_
            refine r_nil ?_
            refine ⟨k + 1, ent_look ⟨Weak.of_eq rfl, Weak.of_eq rfl, Weak.of_eq rfl, Weak.of_eq rfl, Weak.of_eq rfl, Weak.of_eq rfl, Weak.of_eq (int_eq (by omega)), trivial⟩, by omega, by omega⟩
          ·
            skip
            refine a_exit ?_
            refine a_region ?_
            refine r_val (v := .int _ _) (v_move (.inl rfl) (noOwn_flat rfl)) rfl rfl (by decide) ?_
            refine r_val (v := .int _ _) (v_add (.inl rfl) (.inl rfl) (fun _ => by omega)) rfl rfl (by decide) ?_
            refine r_val (v := .int _ _) (v_assign (.inl rfl) (noOwn_flat rfl)) rfl rfl (by decide) ?_
            refine r_nil ?_
            refine ⟨i + 1, ent_look ⟨Weak.of_eq rfl, Weak.of_eq rfl, Weak.of_eq rfl, Weak.of_eq (bst_eq (by rw [show k = (bitsL (tm xs i).1.toNat vars.toNat).length by simp at ht47; omega, btx_full])), Weak.of_eq (int_eq (by omega)), trivial⟩, by omega, by omega⟩
        ·
          skip
          refine a_skip ?_
          refine a_seq ?_
          refine a_pre (ent_eq (t := 8) (v' := .str (bs (atx vars.toNat xs i))) (Weak.of_eq (str_eq (by unfold atx; first | (rw [if_pos (by simp at ht27; omega)]; exact sapp rfl rfl) | (rw [if_neg (by simp at ht27; omega), List.append_nil]))))) ?_
          refine a_region ?_
          refine r_val (v := .str _) (v_move (.inl rfl) (noOwn_flat rfl)) rfl rfl (by decide) ?_
          refine r_val (v := .sl _ _) (v_move (.inl rfl) (noOwn_flat rfl)) rfl rfl (by decide) ?_
          refine r_val (v := .int _ _) (v_move (.inl rfl) (noOwn_flat rfl)) rfl rfl (by decide) ?_
          refine r_val (v := .pp _ _) (v_indexAddr_sl es26 (.inl rfl) (.inl rfl) (fun _ => ⟨by omega, by omega, tcells_ne hi⟩)) rfl rfl (by decide) ?_
          refine r_val (v := .pp _ _) (v_fieldAddr_pp fo33_1 (.inl rfl)) rfl rfl (by decide) ?_
          refine r_val (v := .int .i64 (((tm xs i).2.toNat : Nat) : Int)) ((v_load_pp ta3 (.inl rfl) (fun _ => tcells_get1 (i := i) (tm_get hi)) rfl).cast (int_eq (by omega))) rfl rfl (by decide) ?_
          refine r_new (v := .str _) (q_call (vs := [.int _ _]) (args := [.int .i64 ((_ : Nat) : Int)]) hb10 ⟨.inl rfl, trivial⟩ rfl (fun hA => l1Num_c _ (by omega)) rfl rfl) rfl rfl (by decide) ?_
          refine r_val (v := .str (bs (btx vars.toNat xs i 0))) ((v_sadd (.inl rfl) (.inl rfl) (fun _ => by show _ + 1 ≤ _; omega)).cast (str_eq (bs_app _ _))) rfl rfl (by decide) ?_
          refine r_val (v := .str _) (v_assign (.inl rfl) (noOwn_flat rfl)) rfl rfl (by decide) ?_
          refine r_nil ?_
          refine a_seq ?_
          refine a_region ?_
          refine r_val (v := .sl _ _) (v_move (.inl rfl) (noOwn_flat rfl)) rfl rfl (by decide) ?_
          refine r_val (v := .int _ _) (v_move (.inl rfl) (noOwn_flat rfl)) rfl rfl (by decide) ?_
          refine r_val (v := .pp _ _) (v_indexAddr_sl es26 (.inl rfl) (.inl rfl) (fun _ => ⟨by omega, by omega, tcells_ne hi⟩)) rfl rfl (by decide) ?_
          refine r_val (v := .pp _ _) (v_fieldAddr_pp fo33_0 (.inl rfl)) rfl rfl (by decide) ?_
          refine r_val (v := .int .i64 (((tm xs i).1.toNat : Nat) : Int)) ((v_load_pp ta3 (.inl rfl) (fun _ => tcells_get0 (i := i) (tm_get hi)) rfl).cast (int_eq (by omega))) rfl rfl (by decide) ?_
          refine r_new (v := .osl _ _ _ _) (q_call (vs := [.int _ _]) (args := [.int .i64 ((_ : Nat) : Int)]) hb11 ⟨.inl rfl, trivial⟩ rfl (fun hA => l14List_c _ vars.toNat ht.1 (by omega)) (ic_noSh _) (ic_noRef _)) rfl rfl (by decide) ?_
          refine r_val (v := .rsl _ _ _ _ _) (v_assign (.inl rfl) (noOwn_flat rfl)) rfl rfl (by decide) ?_
          refine r_pre (ent_reloc_sl (t := 10) rfl rfl) ?_
          refine r_nil ?_
          refine a_seq ?_
          refine a_region ?_
          refine r_val (v := .int _ _) (v_assign (.inl rfl) (noOwn_flat rfl)) rfl rfl (by decide) ?_
          refine r_nil ?_
          refine a_block ?_
          refine a_loop (X := Nat) (fun k => look [(0, .int .i64 p), (1, .int .i64 vars), (2, .sl (tcells xs) xs.length), (8, .str (bs (btx vars.toNat xs i k))), (9, .int .i64 ((i : Nat) : Int)), (10, .osl 1 (icells (bitsL (tm xs i).1.toNat vars.toNat)) (bitsL (tm xs i).1.toNat vars.toNat).length none), (11, .int .i64 ((k : Nat) : Int))]) (fun k => k ≤ (bitsL (tm xs i).1.toNat vars.toNat).length) (fun k => (bitsL (tm xs i).1.toNat vars.toNat).length - k) 0 (ent_look ⟨Weak.of_eq rfl, Weak.of_eq rfl, Weak.of_eq rfl, Weak.of_eq rfl, Weak.of_eq rfl, Weak.of_eq rfl, Weak.of_eq rfl, trivial⟩) (Nat.zero_le _) (fun k hG => ?_)
          refine a_seq ?_
          refine a_seq ?_
          refine a_region ?_
          refine r_val (v := .int _ _) (v_move (.inl rfl) (noOwn_flat rfl)) rfl rfl (by decide) ?_
          refine r_val (v := .rsl _ _ _ _ _) (v_move (.inl rfl) (noOwn_flat rfl)) rfl rfl (by decide) ?_
          refine r_val (v := .int _ _) (v_len_rsl sl34 (.inl rfl)) rfl rfl (by decide) ?_
          refine r_val (v := .bool _) (v_lss (.inl rfl) (.inl rfl)) rfl rfl (by decide) ?_
          refine r_nil ?_
          refine a_cond rfl (fun ht47 => ?_) (fun ht47 => ?_)
          ·
            skip
            refine a_skip ?_
            refine a_seq ?_
            refine a_block ?_
            have hk : k < (bitsL (tm xs i).1.toNat vars.toNat).length := (by simp at ht47; omega)
            have hz3 := btx_size (vars := vars.toNat) (xs := xs) (i := i) (k := k) (by omega) (by omega) (by omega)
            have hgk := bitsL_mem _ _ _ (List.mem_of_getElem? (gd_get hk))
            refine a_region ?_
            refine r_val (v := .str _) (v_move (.inl rfl) (noOwn_flat rfl)) rfl rfl (by decide) ?_
            refine r_val (v := .str (bs (btx vars.toNat xs i k ++ [42, 120]))) ((v_sadd (.inl rfl) (.inl rfl) (fun _ => by show _ + 2 ≤ _; omega)).cast (str_eq (sapp rfl rfl))) rfl rfl (by decide) ?_
            refine r_val (v := .rsl _ _ _ _ _) (v_move (.inl rfl) (noOwn_flat rfl)) rfl rfl (by decide) ?_
            refine r_val (v := .int _ _) (v_move (.inl rfl) (noOwn_flat rfl)) rfl rfl (by decide) ?_
            refine r_val (v := .rp _ _) (v_indexAddr_rsl0 es34 (.inl rfl) (.inl rfl) (fun _ => by omega)) rfl rfl (by decide) ?_
            refine r_val (v := .int .i64 (gd (bitsL (tm xs i).1.toNat vars.toNat) k)) (v_load_rp1 ta3 (.inl rfl) rfl (fun _ => by rw [Nat.mul_one]; exact icells_get (gd_get hk)) rfl) rfl rfl (by decide) ?_
            refine r_val (v := .int .i64 (((gd (bitsL (tm xs i).1.toNat vars.toNat) k).toNat + 1 : Nat) : Int)) ((v_add (.inl rfl) (.inl rfl) (fun _ => by omega)).cast (int_eq (by omega))) rfl rfl (by decide) ?_
            refine r_new (v := .str _) (q_call (vs := [.int _ _]) (args := [.int .i64 ((_ : Nat) : Int)]) hb10 ⟨.inl rfl, trivial⟩ rfl (fun hA => l1Num_c _ (by omega)) rfl rfl) rfl rfl (by decide) ?_
            refine r_val (v := .str (bs (btx vars.toNat xs i (k + 1)))) ((v_sadd (.inl rfl) (.inl rfl) (fun _ => by rw [bs_size] at hz3; rw [bs_size, List.length_append]; show _ + 2 + 1 ≤ _; omega)).cast (str_eq ((bs_app _ _).trans (congrArg bs (btx_succ hk))))) rfl rfl (by decide) ?_
            refine r_val (v := .str _) (v_assign (.inl rfl) (noOwn_flat rfl)) rfl rfl (by decide) ?_
            refine r_nil ?_
            refine a_region ?_
            refine r_val (v := .int _ _) (v_move (.inl rfl) (noOwn_flat rfl)) rfl rfl (by decide) ?_
            refine r_val (v := .int _ _) (v_add (.inl rfl) (.inl rfl) (fun _ => by omega)) rfl rfl (by decide) ?_
            refine r_val (v := .int _ _) (v_assign (.inl rfl) (noOwn_flat rfl)) rfl rfl (by decide) ?_
            refine r_nil ?_
            refine ⟨k + 1, ent_look ⟨Weak.of_eq rfl, Weak.of_eq rfl, Weak.of_eq rfl, Weak.of_eq rfl, Weak.of_eq rfl, Weak.of_eq rfl, Weak.of_eq (int_eq (by omega)), trivial⟩, by omega, by omega⟩
          ·
            skip
            refine a_exit ?_
            refine a_region ?_
            refine r_val (v := .int _ _) (v_move (.inl rfl) (noOwn_flat rfl)) rfl rfl (by decide) ?_
            refine r_val (v := .int _ _) (v_add (.inl rfl) (.inl rfl) (fun _ => by omega)) rfl rfl (by decide) ?_
            refine r_val (v := .int _ _) (v_assign (.inl rfl) (noOwn_flat rfl)) rfl rfl (by decide) ?_
            refine r_nil ?_
            refine ⟨i + 1, ent_look ⟨Weak.of_eq rfl, Weak.of_eq rfl, Weak.of_eq rfl, Weak.of_eq (bst_eq (by rw [show k = (bitsL (tm xs i).1.toNat vars.toNat).length by simp at ht47; omega, btx_full])), Weak.of_eq (int_eq (by omega)), trivial⟩, by omega, by omega⟩
      ·
        skip
        refine a_exit ?_
        refine a_seq ?_
        refine a_region ?_
        refine r_val (v := .str _) (v_move (.inl rfl) (noOwn_flat rfl)) rfl rfl (by decide) ?_
        refine r_val (v := .str _) (v_assign (.inl rfl) (noOwn_flat rfl)) rfl rfl (by decide) ?_
        refine r_val (v := .bool _) (v_assign (.inl rfl) (noOwn_flat rfl)) rfl rfl (by decide) ?_
        refine r_nil ?_
        refine a_ret ?_
        refine retL (rs := [.tmp 6, .tmp 7]) [(6, _), (7, _)] ⟨Weak.rfl, Weak.rfl, trivial⟩ rfl Tryd.results5 (by decide) ⟨by decide, by decide, rfl⟩ (by decide) (by decide) (l2_eq (str_eq ?_) (bool_eq ?_)) rfl
        all_goals (have hx : xs ≠ [] := (by intro hx; rw [hx] at ht19; simp at ht19); have hie : i = xs.length := (by simp at ht23; omega); simp [txt, hp, hg, hx, hie])
end Go.Av
namespace Go.Av
open Go Go.Proofs
set_option maxRecDepth 10000
theorem ap43 : appTy Tryd.prog 43 = some (1, 16) := by kernel_rfl
theorem hb13 : hasBody Tryd.prog 13 = true := by kernel_rfl
theorem hb14 : hasBody Tryd.prog 14 = true := by kernel_rfl
theorem hb15 : hasBody Tryd.prog 15 = true := by kernel_rfl
theorem hb16 : hasBody Tryd.prog 16 = true := by kernel_rfl
theorem lt43 : litTy Tryd.prog 43 = some (1, [.str ByteArray.empty]) := by kernel_rfl

theorem iPolyText_c (p vars : Int) (xs : List (Int × Int)) (hl : (xs.length : Int) ≤ 9223372036854775807) : ACall Tryd.prog 7 [.int .i64 p, .int .i64 vars, .sl (tcells xs) xs.length] [] (.tup [.str (bs (txt p vars xs)), .bool (prime p vars && goodL p vars xs)]) [] := by
  refine ACall.intro Tryd.func7 rfl (N := 65) rfl (by decide) (by simp) ?_
  refine a_seq ?_
  refine a_region ?_
  refine r_val (v := .str _) (v_assign (.inl rfl) (noOwn_flat rfl)) rfl rfl (by decide) ?_
  refine r_val (v := .bool _) (v_assign (.inl rfl) (noOwn_flat rfl)) rfl rfl (by decide) ?_
  refine r_nil ?_
  refine a_seq ?_
  refine a_region ?_
  refine r_val (v := .int _ _) (v_move (.inl rfl) (noOwn_flat rfl)) rfl rfl (by decide) ?_
  refine r_val (v := .int _ _) (v_move (.inl rfl) (noOwn_flat rfl)) rfl rfl (by decide) ?_
  refine r_new (v := .tup [.agg [.int _ _, .int _ _], .bool _]) (q_call (vs := [.int _ _, .int _ _]) (args := [.int .i64 _, .int .i64 _]) hb13 ⟨.inl rfl, .inl rfl, trivial⟩ rfl (fun hA => ringOf_c p vars) rfl rfl) rfl rfl (by decide) ?_
  refine r_val (v := .tup [.agg [.int _ _, .int _ _], .bool _]) (v_mv rfl) rfl rfl (by decide) ?_
  refine r_val (v := .agg [.int _ _, .int _ _]) (v_extract rfl rfl) rfl rfl (by decide) ?_
  refine r_val (v := .bool _) (v_extract rfl rfl) rfl rfl (by decide) ?_
  refine r_new (v := .op [.int _ _, .int _ _]) (q_alloc zc39) rfl rfl (by decide) ?_
  refine r_step rfl (o_store (v := .agg [.int _ _, .int _ _]) (y' := .op [.int _ _, .int _ _]) rfl rfl ta39 (.inl rfl) (.inl rfl) rfl rfl rfl rfl rfl rfl (Nat.le_of_ble_eq_true rfl) (by decide) rfl rfl) ?_
  refine r_val (v := .bool _) (v_assign (.inl rfl) (noOwn_flat rfl)) rfl rfl (by decide) ?_
  refine r_nil ?_
  refine a_seq ?_
  refine a_seq ?_
  refine a_region ?_
  refine r_val (v := .bool _) (v_move (.inl rfl) (noOwn_flat rfl)) rfl rfl (by decide) ?_
  refine r_val (v := .bool _) (v_not (.inl rfl)) rfl rfl (by decide) ?_
  refine r_val (v := .bool _) (v_move (.inl rfl) (noOwn_flat rfl)) rfl rfl (by decide) ?_
  refine r_gval (v := .agg [.int _ _, .int _ _]) (v_load_rpa1 ta39 (.inl rfl) rfl rfl (fun _ => rfl) rfl) rfl rfl rfl (by decide) (.inl ⟨_, rfl, rfl⟩) rfl (by decide) ?_
  refine r_gval (v := .sl _ _) (v_move (.inl rfl) (noOwn_flat rfl)) rfl rfl rfl (by decide) (.inl ⟨_, rfl, rfl⟩) rfl (by decide) ?_
  refine r_guard (v := .bool _) (q_call (vs := [.agg [.int _ _, .int _ _], .sl _ _]) (args := [.agg [.int .i64 _, .int .i64 _], .sl _ _]) hb14 ⟨.inr ⟨_, rfl, fun h => h⟩, .inr ⟨_, rfl, fun h => h⟩, trivial⟩ rfl (fun hA => ringIs_c _ _ _ (by omega) (by simp_all)) rfl rfl) rfl rfl rfl (by decide) (.inl ⟨_, rfl, rfl⟩) rfl (by decide) ?_
  refine r_gval (v := .bool _) (v_not (.inr ⟨_, rfl, fun h => h⟩)) rfl rfl rfl (by decide) (.inl ⟨_, rfl, rfl⟩) rfl (by decide) ?_
  refine r_val (v := .bool _) (v_pick (.inl rfl) (.inl rfl) (.inr ⟨_, rfl, fun h h2 => by simp_all⟩)) rfl rfl (by decide) ?_
  refine r_nil ?_
  refine a_cond rfl (fun ht28 => ?_) (fun ht28 => ?_)
  ·
    skip
    refine a_seq ?_
    refine a_region ?_
    refine r_val (v := .str _) (v_assign (.inl rfl) (noOwn_flat rfl)) rfl rfl (by decide) ?_
    refine r_val (v := .bool _) (v_assign (.inl rfl) (noOwn_flat rfl)) rfl rfl (by decide) ?_
    refine r_nil ?_
    refine a_ret ?_
    refine retL (rs := [.tmp 6, .tmp 7]) [(6, _), (7, _)] ⟨Weak.rfl, Weak.rfl, trivial⟩ rfl Tryd.results7 (by decide) ⟨by decide, by decide, rfl⟩ (by decide) (by decide) (l2_eq (str_eq ?_) (bool_eq ?_)) rfl
    all_goals (have hno : (prime p vars && goodL p vars xs) = false := (by cases h1 : prime p vars <;> cases h2 : goodL p vars xs <;> simp_all); simp [txt, hno, bs])
  ·
    skip
    refine a_skip ?_
    refine a_seq ?_
    refine a_seq ?_
    obtain ⟨hp, hg⟩ : prime p vars = true ∧ goodL p vars xs = true := (by cases h1 : prime p vars <;> cases h2 : goodL p vars xs <;> simp_all)
    have hpp := prime_spec hp
    have hlen := good_len hp hg
    refine a_region ?_
    refine r_val (v := .sl _ _) (v_move (.inl rfl) (noOwn_flat rfl)) rfl rfl (by decide) ?_
    refine r_val (v := .int _ _) (v_len_sl sl26 (.inl rfl)) rfl rfl (by decide) ?_
    refine r_val (v := .bool _) (v_eql (.inl rfl) (.inl rfl)) rfl rfl (by decide) ?_
    refine r_nil ?_
    refine a_cond rfl (fun ht31 => ?_) (fun ht31 => ?_)
    ·
      skip
      refine a_seq ?_
      refine a_region ?_
      refine r_val (v := .str _) (v_assign (.inl rfl) (noOwn_flat rfl)) rfl rfl (by decide) ?_
      refine r_val (v := .bool _) (v_assign (.inl rfl) (noOwn_flat rfl)) rfl rfl (by decide) ?_
      refine r_nil ?_
      refine a_ret ?_
      refine retL (rs := [.tmp 6, .tmp 7]) [(6, _), (7, _)] ⟨Weak.rfl, Weak.rfl, trivial⟩ rfl Tryd.results7 (by decide) ⟨by decide, by decide, rfl⟩ (by decide) (by decide) (l2_eq (str_eq ?_) (bool_eq ?_)) rfl
      all_goals (have hx : xs = [] := (by simpa using ht31); subst hx; simp [txt, hp, hg, bs])
    ·
      skip
      refine a_skip ?_
      refine a_seq ?_
      refine a_region ?_
      refine r_val (v := .nils) (v_assign (.inl rfl) (noOwn_flat rfl)) rfl rfl (by decide) ?_
      refine r_nil ?_
      refine a_seq ?_
      refine a_seq ?_
      refine a_pre (ent_nil (t := 10) (sz := 1) (cap := none) (.inl rfl) (fun c h => by cases h)) ?_
      refine a_region ?_
      refine r_val (v := .sl _ _) (v_move (.inl rfl) (noOwn_flat rfl)) rfl rfl (by decide) ?_
      refine r_val (v := .int _ _) (v_len_sl sl26 (.inl rfl)) rfl rfl (by decide) ?_
      refine r_val (v := .int _ _) (v_move (.inl rfl) (noOwn_flat rfl)) rfl rfl (by decide) ?_
      refine r_nil ?_
      refine a_block ?_
      refine a_loop (X := Nat) (fun i => look [(1, .int .i64 vars), (8, .op [.int .i64 p, .int .i64 vars]), (10, .osl 1 (scells (ptl vars.toNat xs i)) i none), (32, .sl (tcells xs) xs.length), (33, .int .i64 (xs.length : Int)), (34, .int .i64 ((i : Nat) : Int))]) (fun i => i ≤ xs.length) (fun i => xs.length - i) 0 (ent_look ⟨Weak.of_eq rfl, Weak.of_eq rfl, Weak.of_eq rfl, Weak.of_eq rfl, Weak.of_eq rfl, Weak.of_eq rfl, trivial⟩) (Nat.zero_le _) (fun i hG => ?_)
      refine a_seq ?_
      refine a_region ?_
      refine r_val (v := .bool _) (v_lss (.inl rfl) (.inl rfl)) rfl rfl (by decide) ?_
      refine r_nil ?_
      refine a_seq ?_
      refine a_cond rfl (fun ht35 => ?_) (fun ht35 => ?_)
      ·
        skip
        refine a_skip ?_
        refine a_seq ?_
        refine a_block ?_
        refine a_seq ?_
        have hi : i < xs.length := (by simp at ht35; omega)
        have ht := good_term hp hg hi
        refine a_region ?_
        refine r_val (v := .pp _ _) (v_indexAddr_sl es26 (.inl rfl) (.inl rfl) (fun _ => ⟨by omega, by omega, tcells_ne hi⟩)) rfl rfl (by decide) ?_
        refine r_val (v := .agg [.int .i64 (tm xs i).1, .int .i64 (tm xs i).2]) (v_load_ppa1 ta33 (.inl rfl) rfl (fun _ => tcells_two (i := i) (tm_get hi)) rfl) rfl rfl (by decide) ?_
        refine r_new (v := .op [.int _ _, .int _ _]) (q_alloc zc33) rfl rfl (by decide) ?_
        refine r_step rfl (o_store (v := .agg [.int _ _, .int _ _]) (y' := .op [.int _ _, .int _ _]) rfl rfl ta33 (.inl rfl) (.inl rfl) rfl rfl rfl rfl rfl rfl (Nat.le_of_ble_eq_true rfl) (by decide) rfl rfl) ?_
        refine r_nil ?_
        refine a_seq ?_
        refine a_region ?_
        refine r_val (v := .rp _ _) (v_fieldAddr_rp fo33_1 (.inl rfl)) rfl rfl (by decide) ?_
        refine r_val (v := .int .i64 (((tm xs i).2.toNat : Nat) : Int)) ((v_load_rp1 ta3 (.inl rfl) rfl (fun _ => rfl) rfl).cast (int_eq (by omega))) rfl rfl (by decide) ?_
        refine r_new (v := .str _) (q_call (vs := [.int _ _]) (args := [.int .i64 ((_ : Nat) : Int)]) hb15 ⟨.inl rfl, trivial⟩ rfl (fun hA => itoa_c _ (by omega)) rfl rfl) rfl rfl (by decide) ?_
        refine r_val (v := .str _) (v_assign (.inl rfl) (noOwn_flat rfl)) rfl rfl (by decide) ?_
        refine r_nil ?_
        refine a_seq ?_
        refine a_seq ?_
        refine a_region ?_
        refine r_val (v := .int _ _) (v_move (.inl rfl) (noOwn_flat rfl)) rfl rfl (by decide) ?_
        refine r_val (v := .int _ _) (v_move (.inl rfl) (noOwn_flat rfl)) rfl rfl (by decide) ?_
        refine r_nil ?_
        refine a_block ?_
        refine a_loop (X := Nat) (fun v => look [(1, .int .i64 vars), (8, .op [.int .i64 p, .int .i64 vars]), (10, .osl 1 (scells (ptl vars.toNat xs i)) i none), (12, .op [.int .i64 (tm xs i).1, .int .i64 (tm xs i).2]), (13, .str (bs (dg (tm xs i).2.toNat :: mtx (tm xs i).1.toNat v))), (32, .sl (tcells xs) xs.length), (33, .int .i64 (xs.length : Int)), (34, .int .i64 ((i : Nat) : Int)), (41, .int .i64 vars), (42, .int .i64 ((v : Nat) : Int))]) (fun v => v ≤ vars.toNat) (fun v => vars.toNat - v) 0 (ent_look ⟨Weak.of_eq rfl, Weak.of_eq rfl, Weak.of_eq rfl, Weak.of_eq rfl, Weak.of_eq rfl, Weak.of_eq rfl, Weak.of_eq rfl, Weak.of_eq rfl, Weak.of_eq rfl, Weak.of_eq rfl, trivial⟩) (Nat.zero_le _) (fun v hG => ?_)
        refine a_seq ?_
        have hml := mtx_length (tm xs i).1.toNat v
        refine a_region ?_
        refine r_val (v := .bool _) (v_lss (.inl rfl) (.inl rfl)) rfl rfl (by decide) ?_
        refine r_nil ?_
        refine a_seq ?_
        refine a_cond rfl (fun ht43 => ?_) (fun ht43 => ?_)
        ·
          skip
          refine a_skip ?_
          refine a_seq ?_
          refine a_block ?_
          refine a_seq ?_
          have hv : v < vars.toNat := (by simp at ht43; omega)
          have hsl := shx_le (tm xs i).1.toNat v
          have hm64 : (tm xs i).1.toNat < 64 := (by have := pow6 hpp.2; have h3 : ((2 ^ vars.toNat : Nat) : Int) = (2 : Int) ^ vars.toNat := (by simp); omega)
          have ha1 : shx (tm xs i).1.toNat v &&& 1 ≤ 1 := Nat.and_le_right
          refine a_region ?_
          refine r_val (v := .int _ _) (v_move (.inl rfl) (noOwn_flat rfl)) rfl rfl (by decide) ?_
          refine r_val (v := .int _ _) (v_assign (.inl rfl) (noOwn_flat rfl)) rfl rfl (by decide) ?_
          refine r_nil ?_
          refine a_seq ?_
          refine a_region ?_
          refine r_val (v := .rp _ _) (v_fieldAddr_rp fo33_0 (.inl rfl)) rfl rfl (by decide) ?_
          refine r_val (v := .int .i64 (((tm xs i).1.toNat : Nat) : Int)) ((v_load_rp1 ta3 (.inl rfl) rfl (fun _ => rfl) rfl).cast (int_eq (by omega))) rfl rfl (by decide) ?_
          refine r_val (v := .int _ _) (v_move (.inl rfl) (noOwn_flat rfl)) rfl rfl (by decide) ?_
          refine r_val (v := .int .i64 ((shx (tm xs i).1.toNat v : Nat) : Int)) ((v_shr (.inl rfl) (.inl rfl) (fun _ => by omega)).cast (int_eq (shx_int (tm xs i).1.toNat v))) rfl rfl (by decide) ?_
          refine r_val (v := .int .i64 ((shx (tm xs i).1.toNat v &&& 1 : Nat) : Int)) ((v_and (.inl rfl) (.inl rfl) (fun _ => by omega)).cast (int_eq rfl)) rfl rfl (by decide) ?_
          refine r_val (v := .bool _) (v_eql (.inl rfl) (.inl rfl)) rfl rfl (by decide) ?_
          refine r_nil ?_
          refine a_cond rfl (fun ht50 => ?_) (fun ht50 => ?_)
          ·
            skip
            refine a_region ?_
            refine r_val (v := .str _) (v_move (.inl rfl) (noOwn_flat rfl)) rfl rfl (by decide) ?_
            refine r_val (v := .int _ _) (v_move (.inl rfl) (noOwn_flat rfl)) rfl rfl (by decide) ?_
            refine r_val (v := .int .i64 ((v + 1 : Nat) : Int)) ((v_add (.inl rfl) (.inl rfl) (fun _ => by omega)).cast (int_eq (by omega))) rfl rfl (by decide) ?_
            refine r_new (v := .str _) (q_call (vs := [.int _ _]) (args := [.int .i64 ((_ : Nat) : Int)]) hb15 ⟨.inl rfl, trivial⟩ rfl (fun hA => itoa_c _ (by omega)) rfl rfl) rfl rfl (by decide) ?_
            refine r_val (v := .str (bs (vtx v))) ((v_sadd (.inl rfl) (.inl rfl) (fun _ => by show 2 + 1 ≤ _; omega)).cast (str_eq (sapp rfl rfl))) rfl rfl (by decide) ?_
            refine r_val (v := .str (bs (dg (tm xs i).2.toNat :: mtx (tm xs i).1.toNat v ++ vtx v))) ((v_sadd (.inl rfl) (.inl rfl) (fun _ => by rw [bs_size]; show _ + 3 ≤ _; simp only [List.length_cons]; omega)).cast (str_eq (bs_app _ _))) rfl rfl (by decide) ?_
            refine r_val (v := .str _) (v_assign (.inl rfl) (noOwn_flat rfl)) rfl rfl (by decide) ?_
            refine r_nil ?_
            refine a_region ?_
            refine r_val (v := .int _ _) (v_add (.inl rfl) (.inl rfl) (fun _ => by omega)) rfl rfl (by decide) ?_
            refine r_val (v := .int _ _) (v_move (.inl rfl) (noOwn_flat rfl)) rfl rfl (by decide) ?_
            refine r_nil ?_
            have hb : (tm xs i).1.toNat / 2 ^ v % 2 = 1 := shx_bit (by simpa using ht50)
            refine ⟨v + 1, ent_look ⟨Weak.of_eq rfl, Weak.of_eq rfl, Weak.of_eq rfl, Weak.of_eq rfl, Weak.of_eq (bst_eq (by simp [mtx, hb])), Weak.of_eq rfl, Weak.of_eq rfl, Weak.of_eq rfl, Weak.of_eq rfl, Weak.of_eq (int_eq (by omega)), trivial⟩, by omega, by omega⟩
          ·
            skip
            refine a_skip ?_
            refine a_region ?_
            refine r_val (v := .int _ _) (v_add (.inl rfl) (.inl rfl) (fun _ => by omega)) rfl rfl (by decide) ?_
            refine r_val (v := .int _ _) (v_move (.inl rfl) (noOwn_flat rfl)) rfl rfl (by decide) ?_
            refine r_nil ?_
            have hb : ¬ (tm xs i).1.toNat / 2 ^ v % 2 = 1 := shx_bitn (by simpa using ht50)
            refine ⟨v + 1, ent_look ⟨Weak.of_eq rfl, Weak.of_eq rfl, Weak.of_eq rfl, Weak.of_eq rfl, Weak.of_eq (bst_eq (by simp [mtx, hb])), Weak.of_eq rfl, Weak.of_eq rfl, Weak.of_eq rfl, Weak.of_eq rfl, Weak.of_eq (int_eq (by omega)), trivial⟩, by omega, by omega⟩
        ·
          skip
          refine a_exit ?_
          refine a_region ?_
          refine r_val (v := .rsl _ _ _ _ _) (v_move (.inl rfl) (noOwn_flat rfl)) rfl rfl (by decide) ?_
          refine r_val (v := .str _) (v_move (.inl rfl) (noOwn_flat rfl)) rfl rfl (by decide) ?_
          refine r_new (v := .osl _ _ _ _) (q_sliceLit (n := 1) (parts := [(0, .tmp 59)]) lt43 rfl rfl rfl rfl) rfl rfl (by decide) ?_
          refine r_pre (ent_reloc_sl (t := 58) rfl rfl) ?_
          refine r_step rfl (o_append rfl ap43 rfl (by decide) (by decide) rfl (src_lit (.inl rfl) rfl rfl rfl) rfl (by rw [scells_length, ptl_length, Nat.mul_one]) (by omega)) ?_
          refine r_val (v := .rsl _ _ _ _ _) (v_assign (.inl rfl) (noOwn_flat rfl)) rfl rfl (by decide) ?_
          refine r_pre (ent_reloc_sl (t := 10) rfl rfl) ?_
          refine r_nil ?_
          refine a_region ?_
          refine r_val (v := .int _ _) (v_add (.inl rfl) (.inl rfl) (fun _ => by omega)) rfl rfl (by decide) ?_
          refine r_val (v := .int _ _) (v_move (.inl rfl) (noOwn_flat rfl)) rfl rfl (by decide) ?_
          refine r_nil ?_
          refine ⟨i + 1, ent_look ⟨Weak.of_eq rfl, Weak.of_eq rfl, Weak.osl ((scells_app (s := dg (tm xs i).2.toNat :: mtx (tm xs i).1.toNat v)).trans (by rw [show v = vars.toNat by simp at ht43; omega]; rfl)) rfl, Weak.of_eq rfl, Weak.of_eq rfl, Weak.of_eq (int_eq (by omega)), trivial⟩, by omega, by omega⟩
      ·
        skip
        refine a_exit ?_
        refine a_seq ?_
        have hie : i = xs.length := (by simp at ht35; omega)
        have hxn : xs ≠ [] := (by intro hx; rw [hx] at ht31; simp at ht31)
        refine a_pre (ent_eq (t := 10) (v' := .osl 1 (scells (ptl vars.toNat xs xs.length)) (ptl vars.toNat xs xs.length).length none) (Weak.osl (by rw [hie]) (by rw [ptl_length, hie]))) ?_
        have hpn : (ptl vars.toNat xs xs.length) ≠ [] := (by intro h; have h2 := ptl_length vars.toNat xs xs.length; rw [h] at h2; exact hxn (List.length_eq_zero_iff.1 h2.symm))
        have hsz := stx_length vars.toNat xs (by omega) xs.length
        refine a_region ?_
        refine r_val (v := .rsl _ _ _ _ _) (v_move (.inl rfl) (noOwn_flat rfl)) rfl rfl (by decide) ?_
        refine r_new (v := .str (bs (stx vars.toNat xs xs.length))) (QSem.cast (q_call (vs := [.rsl _ _ _ _ _, .str _]) (args := [.sl _ _, .str (bs sepx)]) hb16 ⟨.inl rfl, .inl rfl, trivial⟩ (l2_eq (sl_sh (sc_pure _)) rfl) (fun hA => join_c (ptl vars.toNat xs xs.length) sepx hpn (by rw [ptl_length]; omega) (by rw [join_ptl]; omega)) rfl rfl) (bst_eq (join_ptl _ _ _))) rfl rfl (by decide) ?_
        refine r_val (v := .str _) (v_assign (.inl rfl) (noOwn_flat rfl)) rfl rfl (by decide) ?_
        refine r_val (v := .bool _) (v_assign (.inl rfl) (noOwn_flat rfl)) rfl rfl (by decide) ?_
        refine r_nil ?_
        refine a_ret ?_
        refine retL (rs := [.tmp 6, .tmp 7]) [(6, _), (7, _)] ⟨Weak.rfl, Weak.rfl, trivial⟩ rfl Tryd.results7 (by decide) ⟨by decide, by decide, rfl⟩ (by decide) (by decide) (l2_eq (str_eq ?_) (bool_eq ?_)) rfl
        all_goals simp [txt, hp, hg, hxn]
end Go.Av
namespace Go.Av
open Go Go.Proofs
set_option maxRecDepth 10000
theorem hb4 : hasBody Tryd.prog 4 = true := by kernel_rfl
theorem hb5 : hasBody Tryd.prog 5 = true := by kernel_rfl
theorem hb6 : hasBody Tryd.prog 6 = true := by kernel_rfl
theorem hb7 : hasBody Tryd.prog 7 = true := by kernel_rfl
theorem hb8 : hasBody Tryd.prog 8 = true := by kernel_rfl
theorem un4 : Tryd.prog.underlying 4 = some .bool := by kernel_rfl

theorem lawPolyText_c (p vars : Int) (xs : List (Int × Int)) (hl : (xs.length : Int) ≤ 9223372036854775807) : ACall Tryd.prog 3 [.int .i64 p, .int .i64 vars, .sl (tcells xs) xs.length] [] (.bool true) [] := by
  refine ACall.intro Tryd.func3 rfl (N := 48) rfl (by decide) (by simp) ?_
  refine a_seq ?_
  refine a_region ?_
  refine r_val (v := .bool _) (v_assign (.inl rfl) (noOwn_flat rfl)) rfl rfl (by decide) ?_
  refine r_nil ?_
  refine a_seq ?_
  refine a_region ?_
  refine r_val (v := .int _ _) (v_assign (.inl rfl) (noOwn_flat rfl)) rfl rfl (by decide) ?_
  refine r_nil ?_
  refine a_seq ?_
  refine a_region ?_
  refine r_val (v := .sl _ _) (v_move (.inl rfl) (noOwn_flat rfl)) rfl rfl (by decide) ?_
  refine r_val (v := .int _ _) (v_move (.inl rfl) (noOwn_flat rfl)) rfl rfl (by decide) ?_
  refine r_new (v := .int _ _) (q_call (vs := [.sl _ _, .int _ _]) (args := [.sl _ _, .int .i64 _]) hb4 ⟨.inl rfl, .inl rfl, trivial⟩ rfl (fun hA => szTermS_c _ _ (by omega)) rfl rfl) rfl rfl (by decide) ?_
  refine r_val (v := .int _ _) (v_assign (.inl rfl) (noOwn_flat rfl)) rfl rfl (by decide) ?_
  refine r_nil ?_
  refine a_seq ?_
  refine a_seq ?_
  refine a_region ?_
  refine r_val (v := .int _ _) (v_move (.inl rfl) (noOwn_flat rfl)) rfl rfl (by decide) ?_
  refine r_val (v := .bool _) (v_lss (.inl rfl) (.inl rfl)) rfl rfl (by decide) ?_
  refine r_nil ?_
  refine a_cond rfl (fun ht17 => ?_) (fun ht17 => ?_)
  ·
    skip
    refine a_seq ?_
    refine a_region ?_
    refine r_val (v := .bool _) (v_assign (.inl rfl) (noOwn_flat rfl)) rfl rfl (by decide) ?_
    refine r_nil ?_
    refine a_ret ?_
    refine ret1 Tryd.results3 (by decide) (by decide) (Weak.of_eq (bool_eq ?_)) rfl Leaves.nil
    rfl
  ·
    skip
    refine a_skip ?_
    refine a_seq ?_
    have hle : (xs.length : Int) ≤ 1048576 := (by simp at ht17; split at ht17 <;> omega)
    refine a_region ?_
    refine r_val (v := .int _ _) (v_move (.inl rfl) (noOwn_flat rfl)) rfl rfl (by decide) ?_
    refine r_val (v := .int _ _) (v_move (.inl rfl) (noOwn_flat rfl)) rfl rfl (by decide) ?_
    refine r_val (v := .sl _ _) (v_move (.inl rfl) (noOwn_flat rfl)) rfl rfl (by decide) ?_
    refine r_new (v := .osl _ _ _ _) (q_call (vs := [.sl _ _]) (args := [.sl _ _]) hb6 ⟨.inl rfl, trivial⟩ rfl (fun hA => toTermS_c _ (by omega)) (tc_noSh _) (tc_noRef _)) rfl rfl (by decide) ?_
    refine r_new (v := .tup [.str _, .bool _]) (q_call (vs := [.int _ _, .int _ _, .rsl _ _ _ _ _]) (args := [.int .i64 _, .int .i64 _, .sl _ _]) hb5 ⟨.inl rfl, .inl rfl, .inl rfl, trivial⟩ (l3_eq rfl rfl (sl_sh (tc_pure _))) (fun hA => sPolyText_c _ _ _ (by omega)) rfl rfl) rfl rfl (by decide) ?_
    refine r_val (v := .tup [.str _, .bool _]) (v_mv rfl) rfl rfl (by decide) ?_
    refine r_val (v := .str _) (v_extract rfl rfl) rfl rfl (by decide) ?_
    refine r_val (v := .bool _) (v_extract rfl rfl) rfl rfl (by decide) ?_
    refine r_val (v := .str _) (v_assign (.inl rfl) (noOwn_flat rfl)) rfl rfl (by decide) ?_
    refine r_val (v := .bool _) (v_assign (.inl rfl) (noOwn_flat rfl)) rfl rfl (by decide) ?_
    refine r_nil ?_
    refine a_seq ?_
    refine a_region ?_
    refine r_val (v := .sl _ _) (v_move (.inl rfl) (noOwn_flat rfl)) rfl rfl (by decide) ?_
    refine r_new (v := .osl _ _ _ _) (q_call (vs := [.sl _ _]) (args := [.sl _ _]) hb6 ⟨.inl rfl, trivial⟩ rfl (fun hA => toTermS_c _ (by omega)) (tc_noSh _) (tc_noRef _)) rfl rfl (by decide) ?_
    refine r_val (v := .rsl _ _ _ _ _) (v_assign (.inl rfl) (noOwn_flat rfl)) rfl rfl (by decide) ?_
    refine r_pre (ent_reloc_sl (t := 10) rfl rfl) ?_
    refine r_nil ?_
    refine a_seq ?_
    refine a_region ?_
    refine r_val (v := .int _ _) (v_move (.inl rfl) (noOwn_flat rfl)) rfl rfl (by decide) ?_
    refine r_val (v := .int _ _) (v_move (.inl rfl) (noOwn_flat rfl)) rfl rfl (by decide) ?_
    refine r_val (v := .rsl _ _ _ _ _) (v_move (.inl rfl) (noOwn_flat rfl)) rfl rfl (by decide) ?_
    refine r_new (v := .tup [.str _, .bool _]) (q_call (vs := [.int _ _, .int _ _, .rsl _ _ _ _ _]) (args := [.int .i64 _, .int .i64 _, .sl _ _]) hb7 ⟨.inl rfl, .inl rfl, .inl rfl, trivial⟩ (l3_eq rfl rfl (sl_sh (tc_pure _))) (fun hA => iPolyText_c _ _ _ (by omega)) rfl rfl) rfl rfl (by decide) ?_
    refine r_val (v := .tup [.str _, .bool _]) (v_mv rfl) rfl rfl (by decide) ?_
    refine r_val (v := .str _) (v_extract rfl rfl) rfl rfl (by decide) ?_
    refine r_val (v := .bool _) (v_extract rfl rfl) rfl rfl (by decide) ?_
    refine r_val (v := .str _) (v_assign (.inl rfl) (noOwn_flat rfl)) rfl rfl (by decide) ?_
    refine r_val (v := .bool _) (v_assign (.inl rfl) (noOwn_flat rfl)) rfl rfl (by decide) ?_
    refine r_nil ?_
    refine a_seq ?_
    refine a_seq ?_
    refine a_pre (ent_look (L := [(2, .sl _ _), (6, .bool _), (8, .str _), (9, .bool _), (10, .osl _ _ _ _), (11, .str _), (12, .bool _)]) ⟨Weak.rfl, Weak.rfl, Weak.rfl, Weak.rfl, Weak.rfl, Weak.rfl, Weak.rfl, trivial⟩) ?_
    refine a_region ?_
    refine r_val (v := .str _) (v_move (.inl rfl) (noOwn_flat rfl)) rfl rfl (by decide) ?_
    refine r_val (v := .str _) (v_move (.inl rfl) (noOwn_flat rfl)) rfl rfl (by decide) ?_
    refine r_val (v := .bool _) (v_sne (.inl rfl) (.inl rfl)) rfl rfl (by decide) ?_
    refine r_val (v := .bool _) (v_move (.inl rfl) (noOwn_flat rfl)) rfl rfl (by decide) ?_
    refine r_gval (v := .bool _) (v_move (.inl rfl) (noOwn_flat rfl)) rfl rfl rfl (by decide) (.inl ⟨_, rfl, rfl⟩) rfl (by decide) ?_
    refine r_gval (v := .bool _) (v_move (.inl rfl) (noOwn_flat rfl)) rfl rfl rfl (by decide) (.inl ⟨_, rfl, rfl⟩) rfl (by decide) ?_
    refine r_gval (v := .bool _) (v_bne un4 (.inr ⟨_, rfl, fun h => h⟩) (.inr ⟨_, rfl, fun h => h⟩)) rfl rfl rfl (by decide) (.inl ⟨_, rfl, rfl⟩) rfl (by decide) ?_
    refine r_val (v := .bool _) (v_pick (.inl rfl) (.inl rfl) (.inr ⟨_, rfl, fun h h2 => by simp_all⟩)) rfl rfl (by decide) ?_
    refine r_nil ?_
    refine a_cond rfl (fun ht42 => ?_) (fun ht42 => ?_)
    ·
      skip
      refine a_seq ?_
      refine a_region ?_
      refine r_val (v := .bool _) (v_assign (.inl rfl) (noOwn_flat rfl)) rfl rfl (by decide) ?_
      refine r_nil ?_
      refine a_ret ?_
      refine ret1 Tryd.results3 (by decide) (by decide) (Weak.of_eq (bool_eq ?_)) rfl Leaves.nil
      exfalso; simp at ht42
    ·
      skip
      refine a_skip ?_
      refine a_seq ?_
      refine a_seq ?_
      refine a_region ?_
      refine r_val (v := .rsl _ _ _ _ _) (v_move (.inl rfl) (noOwn_flat rfl)) rfl rfl (by decide) ?_
      refine r_val (v := .sl _ _) (v_move (.inl rfl) (noOwn_flat rfl)) rfl rfl (by decide) ?_
      refine r_new (v := .osl _ _ _ _) (q_call (vs := [.sl _ _]) (args := [.sl _ _]) hb6 ⟨.inl rfl, trivial⟩ rfl (fun hA => toTermS_c _ (by omega)) (tc_noSh _) (tc_noRef _)) rfl rfl (by decide) ?_
      refine r_new (v := .bool _) (q_call (vs := [.rsl _ _ _ _ _, .rsl _ _ _ _ _]) (args := [.sl _ _, .sl _ _]) hb8 ⟨.inl rfl, .inl rfl, trivial⟩ (l2_eq (sl_sh (tc_pure _)) (sl_sh (tc_pure _))) (fun hA => eqTermS_c _ _ (by omega)) rfl rfl) rfl rfl (by decide) ?_
      refine r_val (v := .bool _) (v_not (.inl rfl)) rfl rfl (by decide) ?_
      refine r_nil ?_
      refine a_cond rfl (fun ht47 => ?_) (fun ht47 => ?_)
      ·
        skip
        refine a_seq ?_
        refine a_region ?_
        refine r_val (v := .bool _) (v_assign (.inl rfl) (noOwn_flat rfl)) rfl rfl (by decide) ?_
        refine r_nil ?_
        refine a_ret ?_
        refine ret1 Tryd.results3 (by decide) (by decide) (Weak.of_eq (bool_eq ?_)) rfl Leaves.nil
        exfalso; simp at ht47
      ·
        skip
        refine a_skip ?_
        refine a_seq ?_
        refine a_region ?_
        refine r_val (v := .bool _) (v_assign (.inl rfl) (noOwn_flat rfl)) rfl rfl (by decide) ?_
        refine r_nil ?_
        refine a_ret ?_
        refine ret1 Tryd.results3 (by decide) (by decide) (Weak.of_eq (bool_eq ?_)) rfl Leaves.nil
        rfl
end Go.Av
namespace Go.Av
open Go Go.ChangeShapes Go.WideShapes Go.ChangeAt Go.RowKit Go.Deep

theorem row_stepX {C : Checked} {os : Os} {f : FuncId} {fn : Func} {s : ChangeSpec} {tb : TypeId} {R : List AV → Prop} {H : Type} {enc : TypeId × Value → H} {X : World → Array Value → Prop}
    (hX : ∀ (w w' : World) (args : Array Value), w.heap = w'.heap → X w args → X w' args)
    (own : ownKnob C.prog.godebug = none) (started : os.Started) (noInit : C.prog.inits.idxOf? f = none) (hfn : C.prog.funcs[f]? = some fn)
    (witness : ∃ (w : World) (tape : Tape) (i : Input), w.os = os ∧ (w.forCall tape i).Shaped C.prog ∧ i.vars = [] ∧ Input.okWide C.prog (w.forCall tape i) .any w.heap.size f i ∧
      ((s.pre enc C.prog fn [] false (w.forCall tape i).memory i.args ∧ X (w.forCall tape i).memory i.args) ∧ sizedMet enc C.prog fn (OpenSpec.ofChange s) false (w.forCall tape i).memory i.args) ∧ ({} : Assume).holds C.prog (lone (Frame.enter C.prog f i.args .normal) [] (w.forCall tape i)))
    (hl : laidOutB C.prog = true) (hread : (fn.params.toList.all fun t => C.prog.readableRec t && decide (t < C.prog.types.size)) = true) (hv : s.vars = [])
    (hs : ∀ ds : List (DataW H), ds.length = fn.params.toList.length → s.fn H ds = { results := [.lit (.bool true)], args := ds, vars := [] })
    (hrt : fn.resultTypes = #[tb]) (htb : C.prog.underlying tb = some .bool) (ho : OpenArgs C.prog fn.params.toList R) (hc : ∀ avs, R avs → pureL avs = true ∧ ACall C.prog f avs [] (.bool true) []) :
    ReturnsInHanded {} C os f .any (fun w args => (s.pre enc C.prog fn [] false w args ∧ X w args) ∧ sizedMet enc C.prog fn (OpenSpec.ofChange s) false w args) (s.post enc C.prog fn false true false false) := by
  refine returnsInHanded_of_change_and (C := C) (X := X) hX own started noInit hfn witness ?_
  intro W base args ds gs before hval hW _ _ _ _
  have hW' := hW
  obtain ⟨p, q, hA, hV, rfl, hfz, hnd⟩ := hW
  rw [hv] at hV
  obtain ⟨rfl, rfl⟩ := trodVars_none hV
  obtain ⟨avs, hR, hlen, hdl, hrep⟩ := ho H enc W base args.toList ds p (fun j t v h h' => hval j t v (by simpa using h) (by simpa using h')) hA
  obtain ⟨hp, hcall⟩ := hc avs hR
  have hlt := hW'.lt
  rw [List.append_nil] at hW' hlt
  refine (acall_run hcall hp (vs := args.toList) hlen.symm (hrep _ _ _)).mono fun e W' ⟨v, he, ⟨β, F, hv'⟩, hg, hk⟩ => ?_
  simp only [Rep] at hv'
  subst hv' he
  have hsd : s.fn H (ds ++ []) = { results := [.lit (.bool true)], args := ds, vars := [] } := by rw [List.append_nil]; exact hs ds hdl
  refine ⟨_, rfl, post_of_grown (pa := p) (pv := []) hW' (fun _ _ _ => ?_) (fun sp hsp => ?_) (fun _ _ => ?_) (by simp) hg.1 hk ?_⟩
  · rw [hsd, hrt]; exact trodAll_cons_mk (shut_bool htb _) trodAll_mk0
  · rw [hsd]
    refine trodAll_stays hl hk (fun t ht => ?_) hA (fun p hp => by simpa using hlt p hp) (fun p hp => hsp p hp)
    have := List.all_eq_true.1 hread t ht
    simpa using this
  · rw [hsd, hv]; rfl
  · exact ok_one hrt rfl (okWide_bool_mk htb _)
end Go.Av
namespace Go.Av
open Go Go.Proofs Go.Proofs.YtflabfgegbccjaaDoor
set_option maxRecDepth 100000
theorem tcells_flat : ∀ (xs : List (Int × Int)), xs.flatMap (fun x => [AV.int .i64 x.1] ++ [AV.int .i64 x.2]) = tcells xs
  | [] => rfl
  | x :: xs => by rw [List.flatMap_cons, tcells_flat xs]; rfl
theorem len64 {n : Nat} (h : n ≤ maxLen) : (n : Int) ≤ 9223372036854775807 := by unfold maxLen at h; omega
theorem arg3 : OpensV Tryd.prog 3 (fun x : Int => AV.int .i64 x) (fun x => (Lit.int .i64 x).wf = true) :=
  opensV_one (ok_scalar (by rw [Tryd.underlying3])) (opens_int Tryd.underlying3) (fun _ => rfl)
theorem arg22 : OpensV Tryd.prog 22 (fun x : List ((Int) × (Int)) => AV.sl (x.flatMap fun y1 => ([AV.int .i64 y1.1] ++ [AV.int .i64 y1.2])) x.length) (fun x => (x.length ≤ maxLen ∧ ∀ y1 ∈ x, (((Lit.int .i64 y1.1).wf = true) ∧ ((Lit.int .i64 y1.2).wf = true)) ∧ (([AV.int .i64 y1.1] ++ [AV.int .i64 y1.2])).length = 2)) :=
  opensV_one (ok_scalar (by rw [Tryd.underlying22])) (opens_slice (k := 2) Tryd.underlying22 (by kernel_rfl) (by decide) (opens_struct Tryd.underlying37 (tot := (1 + 1)) (by kernel_rfl) (opensFs_cons rfl (by kernel_rfl) (opens_int Tryd.underlying3) (opensFs_one rfl (by kernel_rfl) (opens_int Tryd.underlying3)))) (fun _ => rfl)) (fun _ => rfl)
theorem rowOwn : ownKnob Tryd.prog.godebug = none := by kernel_rfl
theorem rowLaid : laidOutB Tryd.prog = true := by kernel_rfl
end Go.Av
