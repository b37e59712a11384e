/- Lemmas, part 3. -/
import Derived.Test.YtflabfgegbccjaaGreatB2
import Derived.OpenShut
import Derived.RangeFuncLeaves
import Derived.RangeFuncRecord
import Derived.RangeFuncSeq
import Derived.RangeFuncBound
set_option linter.unusedVariables false
set_option linter.unusedSimpArgs false
set_option maxRecDepth 10000
namespace Go.Av
open Go
def YldW (P : Program) (N : Nat) (ops : Array Oper) (o : Oper) (σ0 : Sig) (D : List Nat) (d : Nat) (x : AV) (pur : Bool) : Prop :=
  ∀ σ : Sig, (∀ i ∈ D, σ i = σ0 i) → ∀ (gv : Nat → Value) (e : Ctx) (a : Act) (w : World), All N gv e σ a w → ∀ (K : Act → World → Prop) (Q : Exit → Act → World → Prop),
    (∀ a' w', All N gv e (upd (fun i => if pur then purgeV d (σ i) else σ i) d x) a' w' → K a' w') → if Region.wanted o (yielded ops a.tmps) then o.wp P a w K Q else K (a.put o.dst undef) w
section mixing
def mixW (σ : Sig) : List (Nat × AV) → (Nat → Bool) → Sig
  | [], _ => σ
  | (d, x) :: st, L => mixW (if L 0 then upd σ d x else σ) st (fun k => L (k + 1))
theorem mixW_none : ∀ (st : List (Nat × AV)) (σ : Sig) (L : Nat → Bool), (∀ k, L k = false) → mixW σ st L = σ
  | [], _, _, _ => rfl
  | (d, x) :: st, σ, L, h => by
    simp only [mixW, h 0, Bool.false_eq_true, if_false]
    exact mixW_none st σ _ (fun k => h (k + 1))
theorem mixW_agree {i : Nat} : ∀ (st : List (Nat × AV)) (σ σ' : Sig) (L L' : Nat → Bool), σ i = σ' i → (∀ k d x, st[k]? = some (d, x) → d = i → L k = L' k) → mixW σ st L i = mixW σ' st L' i
  | [], _, _, _, _, h0, _ => h0
  | (d, x) :: st, σ, σ', L, L', h0, h => by
    simp only [mixW]
    refine mixW_agree st _ _ _ _ ?_ (fun k d' x' hk hd => h (k + 1) d' x' (by simpa using hk) hd)
    by_cases hi : i = d
    · have := h 0 d x rfl hi.symm
      rw [this]
      cases L' 0 <;> simp [upd, h0]
    · cases L 0 <;> cases L' 0 <;> simp [upd, hi, h0]
theorem mixW_upd {d : Nat} {x : AV} : ∀ (st : List (Nat × AV)) (σ : Sig) (L : Nat → Bool), (∀ k y, st[k]? = some (d, y) → L k = false) → mixW (upd σ d x) st L = upd (mixW σ st L) d x
  | [], _, _, _ => rfl
  | (d', x') :: st, σ, L, h => by
    simp only [mixW]
    rw [← mixW_upd st _ _ (fun k y hk => h (k + 1) y (by simpa using hk))]
    congr 1
    cases h0 : L 0 with
    | false => simp
    | true =>
      have hne : d' ≠ d := fun he => by
        have := h 0 x' (by simp [he])
        rw [h0] at this; cases this
      simp only [if_true]
      funext i
      simp only [upd]
      by_cases hi : i = d
      · subst hi; simp [Ne.symm hne]
      · simp [hi]
theorem mixW_set {d : Nat} {x : AV} : ∀ (st : List (Nat × AV)) (σ : Sig) (L : Nat → Bool) (j : Nat), st[j]? = some (d, x) → (∀ k y, j < k → st[k]? = some (d, y) → L k = false) →
    mixW σ st (fun k => k == j || L k) = upd (mixW σ st L) d x
  | [], _, _, _, h, _ => by simp at h
  | (d', x') :: st, σ, L, 0, h, hL => by
    simp at h; obtain ⟨rfl, rfl⟩ := h
    have : (fun k => (k + 1 == 0 || L (k + 1))) = fun k => L (k + 1) := by funext k; simp
    simp only [mixW, this]
    rw [← mixW_upd st _ _ (fun k y hk => hL (k + 1) y (by omega) (by simpa using hk))]
    congr 1
    cases L 0 <;> simp
    funext i; simp only [upd]; split <;> rfl
  | (d', x') :: st, σ, L, j + 1, h, hL => by
    simp only [List.getElem?_cons_succ] at h
    have : (fun k => (k + 1 == j + 1 || L (k + 1))) = fun k => (k == j || (fun k => L (k + 1)) k) := by funext k; simp
    simp only [mixW, this]
    rw [mixW_set st _ (fun k => L (k + 1)) j h (fun k y hk hy => hL (k + 1) y (by omega) (by simpa using hy))]
    have : ((0 : Nat) == j + 1) = false := by simp
    simp [this]
theorem mixW_cases {i : Nat} : ∀ (st : List (Nat × AV)) (σ : Sig) (L : Nat → Bool), mixW σ st L i = σ i ∨ ∃ k x, L k = true ∧ st[k]? = some (i, x) ∧ mixW σ st L i = x
  | [], _, _ => .inl rfl
  | (d, x) :: st, σ, L => by
    simp only [mixW]
    rcases mixW_cases st (if L 0 then upd σ d x else σ) (fun k => L (k + 1)) (i := i) with h | ⟨k, y, h1, h2, h3⟩
    · rw [h]
      cases h0 : L 0 with
      | false => simp
      | true =>
        by_cases hi : i = d
        · subst hi
          refine .inr ⟨0, x, h0, by simp, by simp [upd]⟩
        · left; simp [upd, hi]
    · exact .inr ⟨k + 1, y, h1, by simpa using h2, h3⟩
end mixing
abbrev Effs := List (Nat × Bool)
def effAt (efs : Effs) (k : Nat) : Nat × Bool := efs.getD k (0, false)
def effOk (l : List Oper) (efs : Effs) : Bool := (List.range l.length).all fun k => (List.range k).all fun j => !((effAt efs j).1 == (effAt efs k).1) || ((masks l []).getD k 0).testBit j
def readOk (l : List Oper) (efs : Effs) (j s : Nat) : Bool := (List.range l.length).all fun k => !((effAt efs k).1 == s) || k == j || ((masks l []).getD j 0).testBit k || ((masks l []).getD k 0).testBit j
def rootOk (l : List Oper) (efs : Effs) (j s : Nat) : Bool := (List.range l.length).all fun k => !((effAt efs k).1 == s && (effAt efs k).2) || ((masks l []).getD j 0).testBit k
def opOk (l : List Oper) (efs : Effs) (j : Nat) (D R : List Nat) : Bool := D.all (readOk l efs j) && R.all (rootOk l efs j)
def AQw (P : Program) (N : Nat) (l : List Oper) (efs : Effs) : List Oper → Nat → Sig → (Sig → Prop) → Prop
  | [], _, σ, K => K σ
  | o :: r, j, σ, K => ∃ d x D pur, effAt efs j = (d, pur) ∧ YldW P N l.toArray o σ D d x pur ∧ opOk l efs j D (roots x) = true ∧ AQw P N l efs r (j + 1) (upd σ d x) K
section
variable {P : Program} {N : Nat} {l : List Oper} {efs : Effs}
theorem AQw.steps {K : Sig → Prop} : ∀ (r : List Oper) (j : Nat) (σ : Sig), AQw P N l efs r j σ K →
    ∃ st : List (Nat × AV), st.length = r.length ∧ (∀ k o, r[k]? = some o → ∃ d x D pur, st[k]? = some (d, x) ∧ effAt efs (j + k) = (d, pur) ∧ YldW P N l.toArray o (mixW σ st (fun i => decide (i < k))) D d x pur ∧ opOk l efs (j + k) D (roots x) = true) ∧
      K (mixW σ st fun _ => true)
  | [], j, σ, h => ⟨[], rfl, fun k o h => by simp at h, h⟩
  | o :: r, j, σ, h => by
    obtain ⟨d, x, D, pur, he, hy, hok, h⟩ := h
    obtain ⟨st, hl, hst, hK⟩ := AQw.steps r (j + 1) (upd σ d x) h
    refine ⟨(d, x) :: st, by simp [hl], fun k o' ho' => ?_, by simpa [mixW] using hK⟩
    cases k with
    | zero =>
      simp at ho'; subst ho'
      refine ⟨d, x, D, pur, rfl, he, ?_, hok⟩
      rw [mixW_none _ _ _ (fun k => by simp)]; exact hy
    | succ k =>
      obtain ⟨d', x', D', pur', h1, h2, h3, h4⟩ := hst k o' (by simpa using ho')
      refine ⟨d', x', D', pur', by simpa using h1, by rw [show j + (k + 1) = j + 1 + k by omega]; exact h2, ?_, by rw [show j + (k + 1) = j + 1 + k by omega]; exact h4⟩
      have : mixW σ ((d, x) :: st) (fun i => decide (i < k + 1)) = mixW (upd σ d x) st (fun i => decide (i < k)) := by simp [mixW]
      rw [this]; exact h3
theorem effOk_spec (h : effOk l efs = true) {j k : Nat} (hk : k < l.length) (hj : j < k) (he : (effAt efs j).1 = (effAt efs k).1) : ((masks l []).getD k 0).testBit j = true := by
  unfold effOk at h
  rw [List.all_eq_true] at h
  have := h k (by simpa using hk)
  rw [List.all_eq_true] at this
  have := this j (by simpa using hj)
  simpa [he] using this
theorem readOk_spec {j s k : Nat} (h : readOk l efs j s = true) (hk : k < l.length) (he : (effAt efs k).1 = s) : k = j ∨ ((masks l []).getD j 0).testBit k = true ∨ ((masks l []).getD k 0).testBit j = true := by
  unfold readOk at h
  rw [List.all_eq_true] at h
  have := h k (by simpa using hk)
  simp only [he, beq_self_eq_true, Bool.not_true, Bool.false_or, Bool.or_eq_true, beq_iff_eq] at this
  rcases this with (h | h) | h
  · exact .inl h
  · exact .inr (.inl h)
  · exact .inr (.inr h)
theorem rootOk_spec {j s k : Nat} (h : rootOk l efs j s = true) (hk : k < l.length) (he : effAt efs k = (s, true)) : ((masks l []).getD j 0).testBit k = true := by
  unfold rootOk at h
  rw [List.all_eq_true] at h
  have := h k (by simpa using hk)
  simpa [he] using this
theorem any_coreW {gv : Nat → Value} {e : Ctx} {σ : Sig} {st : List (Nat × AV)} {Q : Exit → Act → World → Prop} (hB : backward l 0 = true) (hE : effOk l efs = true) (hlen : st.length = l.length)
    (hσ : ∀ i, ∀ q ∈ refs (σ i), ∀ k, k < l.length → effAt efs k ≠ (q.1, true))
    (hst : ∀ k o, l[k]? = some o → ∃ d x D pur, st[k]? = some (d, x) ∧ effAt efs k = (d, pur) ∧ YldW P N l.toArray o (mixW σ st (fun i => decide (i < k))) D d x pur ∧ opOk l efs k D (roots x) = true)
    (hQ : ∀ a w, All N gv e (mixW σ st fun _ => true) a w → Q .normal a w) :
    ∀ (fuel : Nat) (listed : Array Bool) (a : Act) (w : World), listed.size = l.length → listed.toList.count false = fuel → Closed l (fun k => listed.getD k false) →
      All N gv e (mixW σ st fun k => listed.getD k false) a w → wpAny P .any l.toArray Q fuel listed a w := by
  have hback := backward_spec hB
  have hlex : ∀ j, Closed l (fun i => decide (i < j)) := fun j i o ho hi k hk => by
    have := hback i o ho k hk
    simp only [decide_eq_true_eq] at hi ⊢
    omega
  have hlt_of : ∀ {k : Nat} {p : Nat × AV}, st[k]? = some p → k < l.length := fun {k p} hk => by
    rcases Nat.lt_or_ge k st.length with h | h
    · omega
    · rw [List.getElem?_eq_none h] at hk; cases hk
  intro fuel
  induction fuel with
  | zero =>
    intro listed a w hsz hc hcl ha
    have hall : ∀ k, k < listed.size → listed.getD k false = true := fun k hk => by
      have h0 : listed.toList.count false = 0 := hc
      rw [List.count_eq_zero] at h0
      cases hb : listed[k] with
      | true => simp [hk, hb]
      | false => exact absurd (by rw [← hb]; exact Array.getElem_mem_toList hk) h0
    refine ⟨?_, hQ _ _ ?_⟩
    · rw [List.eq_nil_iff_forall_not_mem]
      intro j hj
      obtain ⟨h0, o, ho, _⟩ := mem_ready.1 hj
      have hlt : j < listed.size := by
        have := (Array.getElem?_eq_some_iff.1 ho).1
        rw [hsz]; simpa using this
      have := hall j hlt
      simp [hlt] at h0 this
      rw [h0] at this; cases this
    · have : mixW σ st (fun k => listed.getD k false) = mixW σ st fun _ => true := by
        funext i
        exact mixW_agree st _ _ _ _ rfl fun k d x hk _ => hall k (by have := hlt_of hk; omega)
      rwa [this] at ha
  | succ fuel ih =>
    intro listed a w hsz hc hcl ha
    refine ⟨fun hr => ?_, fun j hj => ?_⟩
    · exfalso
      have hex : ∃ k, k < listed.size ∧ listed.getD k false = false := by
        have : false ∈ listed.toList := List.count_pos_iff.1 (by omega)
        obtain ⟨k, hk⟩ := List.getElem?_of_mem this
        have hlt : k < listed.size := by
          rcases Nat.lt_or_ge k listed.toList.length with h | h
          · simpa using h
          · rw [List.getElem?_eq_none h] at hk; cases hk
        refine ⟨k, hlt, ?_⟩
        simp at hk
        simp [hk]
      obtain ⟨k, hk⟩ := hex
      obtain ⟨m, ⟨hm1, hm2⟩, hmin⟩ := has_least (p := fun k => k < listed.size ∧ listed.getD k false = false) k hk
      have hml : m < l.length := by omega
      have : m ∈ Region.ready .any l.toArray listed := by
        refine mem_ready.2 ⟨by simp [hm1] at hm2 ⊢; exact hm2, l[m], by simp [hml], fun ed hed hb => ?_⟩
        have h1 := hback m l[m] (List.getElem?_eq_getElem hml) ed.on (mem_aftersOf.2 ⟨ed, hed, hb, rfl⟩)
        cases hv : listed.getD ed.on false with
        | true => rfl
        | false => have := hmin ed.on ⟨by omega, hv⟩; omega
      rw [hr] at this; cases this
    · obtain ⟨hjun, o, ho, hall⟩ := mem_ready.1 hj
      have ho' : l[j]? = some o := by simpa using ho
      have hjl : j < l.length := by
        rcases Nat.lt_or_ge j l.length with h | h
        · exact h
        · rw [List.getElem?_eq_none h] at ho'; cases ho'
      have hjs : j < listed.size := by omega
      have hjf : listed.getD j false = false := by simp [hjs] at hjun ⊢; exact hjun
      obtain ⟨d, x, D, pur, h1, h2, h4, h5⟩ := hst j o ho'
      have hal : ∀ k ∈ aftersOf o, listed.getD k false = true := fun k hk => by
        obtain ⟨ed, hed, hb, rfl⟩ := mem_aftersOf.1 hk
        exact hall ed hed hb
      have hal' : ∀ k ∈ aftersOf o, decide (k < j) = true := fun k hk => by have := hback j o ho' k hk; simp; omega
      simp only [opOk, Bool.and_eq_true, List.all_eq_true] at h5
      have behind : ∀ k, k < l.length → ((masks l []).getD k 0).testBit j = true → listed.getD k false = false ∧ j < k := fun k hk hb => by
        have hok : l[k]? = some l[k] := List.getElem?_eq_getElem hk
        refine ⟨?_, ?_⟩
        · cases hv : listed.getD k false with
          | false => rfl
          | true =>
            have := Yld.mask hcl hok (fun k' hk' => hcl k _ hok hv k' hk') hb
            rw [hjf] at this; cases this
        · have := Yld.mask (hlex k) hok (fun k' hk' => by have := hback k _ hok k' hk'; simp; omega) hb
          simpa using this
      have before : ∀ k, ((masks l []).getD j 0).testBit k = true → listed.getD k false = true ∧ decide (k < j) = true := fun k hb => ⟨Yld.mask hcl ho' hal hb, Yld.mask (hlex j) ho' hal' hb⟩
      have eff_of : ∀ {k : Nat} {s : Nat} {y : AV}, st[k]? = some (s, y) → (effAt efs k).1 = s := fun {k s y} hk => by
        have hkl := hlt_of hk
        obtain ⟨d', x', D', pur', g1, g2, _⟩ := hst k l[k] (List.getElem?_eq_getElem hkl)
        rw [hk] at g1; simp at g1; obtain ⟨rfl, rfl⟩ := g1
        rw [g2]
      have hdep : ∀ s ∈ D, ∀ k y, st[k]? = some (s, y) → listed.getD k false = decide (k < j) := fun s hs k y hk => by
        rcases readOk_spec (h5.1 s hs) (hlt_of hk) (eff_of hk) with h | h | h
        · subst h; rw [hjf]; simp
        · obtain ⟨e1, e2⟩ := before k h; rw [e1, e2]
        · obtain ⟨e1, e2⟩ := behind k (hlt_of hk) h
          rw [e1]; simp; omega
      have hpur : pur = true → ∀ i, i ≠ d → purgeV d (mixW σ st (fun k => listed.getD k false) i) = mixW σ st (fun k => listed.getD k false) i := fun hp i hi => by
        rw [purgeV_eq, if_neg]
        intro hany
        rw [List.any_eq_true] at hany
        obtain ⟨q, hq, hqd⟩ := hany
        simp only [beq_iff_eq] at hqd
        rcases mixW_cases st σ (fun k => listed.getD k false) (i := i) with hm | ⟨k, y, hk1, hk2, hk3⟩
        · rw [hm] at hq
          exact hσ i q hq j hjl (by rw [h2, hqd, hp])
        · rw [hk3] at hq
          have hkl := hlt_of hk2
          have hok : l[k]? = some l[k] := List.getElem?_eq_getElem hkl
          obtain ⟨d', x', D', pur', g1, g2, _, g5⟩ := hst k l[k] hok
          rw [hk2] at g1; simp at g1; obtain ⟨rfl, rfl⟩ := g1
          simp only [opOk, Bool.and_eq_true, List.all_eq_true] at g5
          have hb := rootOk_spec (g5.2 q.1 (List.mem_map.2 ⟨q, hq, rfl⟩)) hjl (by rw [h2, hqd, hp])
          have := Yld.mask hcl hok (fun k' hk' => hcl k _ hok hk1 k' hk') hb
          rw [hjf] at this; cases this
      have hstep := h4 (mixW σ st fun k => listed.getD k false) (fun s hs => mixW_agree st _ _ _ _ rfl fun k s' y hk hs' => by
        subst hs'
        exact hdep s' hs k y hk) gv e a w ha (wpAny P .any l.toArray Q fuel (listed.setIfInBounds j true)) Q (fun a' w' ha' => by
          refine ih _ a' w' (by simpa using hsz) ?_ ?_ ?_
          · have hj0 : listed.toList[j]? = some false := by
              simp [hjs] at hjun ⊢; exact hjun
            have : (listed.setIfInBounds j true).toList = listed.toList.set j true := by simp
            rw [this, List.count_set (by simpa using hjs)]
            have hv : listed.toList[j]'(by simpa using hjs) = false := by
              rw [List.getElem?_eq_getElem (by simpa using hjs)] at hj0
              exact Option.some.inj hj0
            simp [hv]
            simp at hc
            omega
          · intro i oi hoi hi k hk
            by_cases hij : j = i
            · subst hij
              rw [ho'] at hoi; cases hoi
              exact getD_set_true (hal k hk)
            · simp only [getD_set_ne false hij] at hi
              exact getD_set_true (hcl i oi hoi hi k hk)
          · have e1 : (fun k => (listed.setIfInBounds j true).getD k false) = fun k => (k == j || (fun k => listed.getD k false) k) := by
              funext k
              by_cases hk : j = k
              · subst hk; simp [hjs]
              · simp only [getD_set_ne false hk, beq_iff_eq]; have : ¬ k = j := fun h => hk h.symm
                have hb : (k == j) = false := by simp [this]
                rw [hb, Bool.false_or]
            rw [e1, mixW_set st _ _ j h1 (fun k y hjk hk => (behind k (hlt_of hk) (effOk_spec hE (hlt_of hk) hjk (by rw [eff_of hk, h2]))).1)]
            have e2 : upd (fun i => if pur then purgeV d (mixW σ st (fun k => listed.getD k false) i) else mixW σ st (fun k => listed.getD k false) i) d x = upd (mixW σ st fun k => listed.getD k false) d x := by
              funext i
              by_cases hi : i = d
              · subst hi; rw [upd_same, upd_same]
              · rw [upd_other _ _ hi, upd_other _ _ hi]
                cases hp : pur with
                | false => simp
                | true => rw [if_pos rfl, hpur hp i hi]
            rw [← e2]; exact ha')
      unfold wpOp
      rw [ho]
      dsimp only
      split
      · rename_i hw; rw [if_pos hw] at hstep; exact .inl hstep
      · rename_i hw; rw [if_neg hw] at hstep; exact hstep
def purgeds (efs : Effs) : List Nat := (efs.filter (·.2)).map (·.1)
theorem a_region_w {id : Nat} {σ : Sig} {Φ : Exit → Sig → Prop} (efs : Effs) (hm : P.follows .mixedOrders = true) (hB : (backward l 0 && effOk l efs && decide (efs.length = l.length)) = true)
    (h : AQw P N l efs l 0 (fun i => purgeD (purgeds efs) (σ i)) (fun s => Φ .normal s)) (hnd : noDefer l = true := by kernel_rfl) : ACode P N (.region id l.toArray true) σ Φ := fun gv e a w ha Q0 hQ0 => by
  refine sw_region_any (K := fun s => Φ .normal s) hm hnd (fun x a' w' σ' hx hΦ ha' => by rw [hx]; exact hQ0 _ _ _ _ hΦ ha') fun Q hQ => ?_
  simp only [Bool.and_eq_true, decide_eq_true_eq] at hB
  obtain ⟨⟨hB1, hB2⟩, hB3⟩ := hB
  obtain ⟨st, hl, hst, hK⟩ := AQw.steps l 0 _ h
  have ha' := (ent_purgeD (purgeds efs) σ).all ha
  obtain ⟨hdf, hsz, β, F, hi⟩ := ha'
  refine any_coreW hB1 hB2 hl (fun i q hq k hk he => ?_) (fun k o ho => by
    obtain ⟨d, x, D, pur, h1, h2, h3, h4⟩ := hst k o ho
    exact ⟨d, x, D, pur, h1, by simpa using h2, h3, by simpa using h4⟩) (fun a w ha => hQ () _ _ _ hK ha) _ _ a _ (by simp) ?_ ?_ ?_
  · simp only [purgeD_eq] at hq
    split at hq
    · simp [refs] at hq
    · rename_i hany
      simp only [List.any_eq_true, not_exists, not_and] at hany
      refine hany q hq ?_
      rw [List.contains_iff_mem]
      unfold purgeds
      refine List.mem_map.2 ⟨(q.1, true), List.mem_filter.2 ⟨?_, rfl⟩, rfl⟩
      unfold effAt at he
      rw [List.getD_eq_getElem?_getD, List.getElem?_eq_getElem (by omega), Option.getD_some] at he
      rw [← he]; exact List.getElem_mem _
  · simp
  · intro i o ho hi
    rcases Nat.lt_or_ge i l.length with h | h
    · simp [h] at hi
    · simp [h] at hi
  · rw [mixW_none _ _ _ (fun k => by
      rcases Nat.lt_or_ge k l.length with h | h
      · simp [h]
      · simp [h])]
    exact ⟨hdf, hsz, β, F, hi.same rfl rfl rfl⟩
end
section
variable {P : Program} {N : Nat} {A : Bool} {σ : Sig} {l rest : List Oper} {efs : Effs} {o : Oper} {K : Sig → Prop} {jj : Nat}
theorem w_nil (h : K σ) : AQw P N l efs [] jj σ K := h
theorem Yld.toW {ops : Array Oper} {D : List Nat} {d : Nat} {x : AV} (h : Yld P N ops o σ D d x) : YldW P N ops o σ D d x true := fun σ' hD gv e a w ha K Q hK => h σ' hD gv e a w ha K Q (fun a' w' ha' => hK a' w' (by simpa using ha'))
theorem w_new {d : Nat} {v : AV} {D : List Nat} (hv : QSem P N true o.op o.type σ D v) (hg : o.guard = none) (hd : o.dst = some d) (hN : d < N) (he : effAt efs jj = (d, true)) (hok : opOk l efs jj D (roots v) = true) (h : AQw P N l efs rest (jj + 1) (upd σ d v) K) :
    AQw P N l efs (o :: rest) jj σ K := ⟨d, v, D, true, he, (hv.yld hg hd hN).toW, hok, h⟩
theorem w_val {d : Nat} {v : AV} {D : List Nat} (hv : VSem P N true o.op o.type σ D v) (hg : o.guard = none) (hd : o.dst = some d) (hN : d < N) (he : effAt efs jj = (d, true)) (hok : opOk l efs jj D (roots v) = true) (h : AQw P N l efs rest (jj + 1) (upd σ d v) K) :
    AQw P N l efs (o :: rest) jj σ K := w_new hv.quiet hg hd hN he hok h
theorem RdTo.agree {σ' : Sig} {x : Operand} {v : AV} (h : RdTo N A σ x v) (hD : ∀ i ∈ slots x, σ' i = σ i) : RdTo N A σ' x v := by
  unfold RdTo at *
  rw [rd_agree hD]; exact h
theorem w_store {t off s : Nat} {g : Bool} {q : Place} {x y : Operand} {z v y' : AV} (ho : o.op = .store t x y) (hg : o.guard = none) (hd : o.dst = none) (ht : tyAgg P t = some (g, s)) (hx : RdTo N true σ x (.rp q off)) (hy : RdTo N true σ y v)
    (hz : node (σ q.1) q.2 = some z) (hzo : z.isOwn = true) (hb : boxable v = true) (hp : pureL (cellsOf v) = true) (hc : cellL (cellsOf v) = true) (hs : (cellsOf v).length = s) (hl : off + s ≤ (kids z).length) (h0 : 0 < s)
    (hr : refs (σ q.1) = []) (hres : setNode (σ q.1) q.2 (setKids z (setL (kids z) off (cellsOf v))) = y') (he : effAt efs jj = (q.1, false)) (hok : opOk l efs jj (slots x ++ slots y ++ [q.1]) (roots y') = true)
    (h : AQw P N l efs rest (jj + 1) (upd σ q.1 y') K) : AQw P N l efs (o :: rest) jj σ K := by
  refine ⟨q.1, y', slots x ++ slots y ++ [q.1], false, he, fun σ' hD gv e a w ha K' Q hK => ?_, hok, h⟩
  have hw : Region.wanted o (yielded l.toArray a.tmps) = true := by simp [Region.wanted, hg]
  rw [if_pos hw]
  have eq : σ' q.1 = σ q.1 := hD q.1 (by simp)
  have hst := o_store (P := P) (N := N) (σ := σ') (o := o) ho hd ht (hx.agree fun i hi => hD i (by simp [hi])) (hy.agree fun i hi => hD i (by simp [hi])) (by simpa only [eq] using hz) hzo hb hp hc hs hl h0 (by simpa only [eq] using hr) (by simpa only [eq] using hres)
  exact hst gv e a w ha K' Q fun a' w' ha' => hK a' w' ha'
end
end Go.Av
namespace Go.Av
open Go
section
variable {P : Program} {N : Nat} {fn : Func} {σ : Sig}
theorem retLO {rs : List ResultVar} {c : AV} (L0 : List (Nat × AV)) (hH : Has σ ((INH, c) :: L0)) (h0 : (L0.all fun p => decide (p.1 < INH)) = true) (hr : fn.results = rs.toArray) (hl : rs.length ≠ 1)
    (h : ResIs P N rs (look ((INH, c) :: L0)) (look ((INH, c) :: L0))) (hnd : (rs.map resSlot).Nodup)
    (hN : N < INH) {L : List AV} (hL : (rs.map resSlot).map (look ((INH, c) :: L0)) = L) (hrr : refsL L = []) (hc : refs c = []) : Returns P fn N σ (.tup L) [c] := fun gv e a w ha =>
  retCT hr hl h hnd hN hL hrr (Leaves.one (by simp only [look, upd_same]; exact Weak.rfl) hc) (fun j => by
    simp only [look, upd]
    split
    · exact purge_id (by rw [hc]; simp)
    · rw [look_big h0 j]; simp [purgeV_eq, refs]) gv e a w ((ent_look hH).all ha)
end
end Go.Av
namespace Go.Av
open Go
variable {P : Program} {N : Nat} {A : Bool} {σ : Sig} {l rest : List Oper} {efs : Effs} {o : Oper} {K : Sig → Prop} {jj : Nat}
theorem wv {d : Nat} {v : AV} {D : List Nat} (hv : VSem P N true o.op o.type σ D v) (h : AQw P N l efs rest (jj + 1) (upd σ d v) K) (hg : o.guard = none := by rfl) (hd : o.dst = some d := by rfl) (hN : d < N := by decide) (he : effAt efs jj = (d, true) := by rfl) (hok : opOk l efs jj D (roots v) = true := by kernel_rfl) : AQw P N l efs (o :: rest) jj σ K := w_val hv hg hd hN he hok h
end Go.Av
namespace Go.Av
open Go
section
variable {e : Ctx} {σ τ : Sig} {val : Nat → Value} {w : World} {β : Place → Option (Nat × Nat)} {F : Nat → Prop}
theorem Inv.rebeta (h : Inv e σ val w β F) {q : Place} {b s : Nat} (s' : Nat) (hb : β q = some (b, s)) (hno : ¬ OwnAt σ q) (hτ : ∀ i, τ i = σ i ∨ τ i = .undef) (hτq : ∀ i, ∀ p ∈ refs (τ i), p = q → ∃ off, τ i = .rp q off) :
    Inv e τ val w (fun p => if p = q then some (b, s') else β p) F := by
  have old : ∀ {p : Place}, OwnAt τ p → OwnAt σ p ∧ p ≠ q := by
    rintro ⟨i, r⟩ ⟨y, hy, ho⟩
    dsimp only at hy
    rcases hτ i with ht | ht
    · rw [ht] at hy
      have : OwnAt σ (i, r) := ⟨y, hy, ho⟩
      exact ⟨this, fun he => hno (by rw [← he]; exact this)⟩
    · rw [ht] at hy; exact (undef_node hy ho).elim
  refine ⟨fun i => ?_, fun p p' b1 s1 s2 hp hp' h1 h2 => ?_, fun p b1 s1 hp h1 => ?_, h.fr, h.kept, h.grow, h.tame⟩
  · rcases hτ i with ht | ht
    · by_cases hin : q ∈ refs (τ i)
      · obtain ⟨off, he⟩ := hτq i q hin rfl
        have hr := h.rep i
        rw [← ht, he] at hr
        rw [he]
        simp only [Rep] at hr ⊢
        obtain ⟨b1, s1, h1, h2⟩ := hr
        rw [hb] at h1
        cases h1
        exact ⟨b, s', by simp, h2⟩
      · rw [ht] at hin ⊢
        exact (h.rep i).tr _ (fun b hb => ⟨hb, rfl⟩) (fun r y hy ho => ⟨by
          have : ¬ ((i, r) = q) := fun he => hno (by rw [← he]; exact ⟨y, hy, ho⟩)
          simp only [List.nil_append, this, if_false], fun _ _ _ => rfl⟩) (fun p hp => by
          have : ¬ (p = q) := fun he => hin (by rw [← he]; exact hp)
          simp only [this, if_false])
    · rw [ht]; simp [Rep]
  · obtain ⟨o1, n1⟩ := old hp
    obtain ⟨o2, n2⟩ := old hp'
    simp only [n1, n2, if_false] at h1 h2
    exact h.disj p p' b1 s1 s2 o1 o2 h1 h2
  · obtain ⟨o1, n1⟩ := old hp
    simp only [n1, if_false] at h1
    exact h.sep p b1 s1 o1 h1
end
section
variable {P : Program} {e : Ctx} {σ τ : Sig} {val : Nat → Value} {w : World} {β : Place → Option (Nat × Nat)} {F : Nat → Prop}
theorem callIO_coreP {f : FuncId} {args vs' : List AV} {res x0 x1 : AV} {q : Place} {vs : List Value} {d : Nat} (hc : ACall P f args [x0] res [x1]) (hn : noSh res = true) (hr : noRef res = true) (hn1 : noSh x1 = true) (hr1 : noRef x1 = true)
    (h : Inv e σ val w β F) (hz : node (σ q.1) q.2 = some x0) (hr0 : refs x0 = []) (hfr : ∀ b arr t fz, (∃ r y s, node x0 r = some y ∧ y.isOwn = true ∧ β (q.1, q.2 ++ r) = some (b, s)) → w.heap[b]? = some (.cells arr t fz) → fz = (0, 0))
    (hl : vs.length = args.length) (ha : RepL (passB q β) (lent (hole σ q) β F) w args (0, []) 0 vs) (hai : ∀ c ∈ args, NoOwn c) (hlen : args.length < INH)
    (hds : d ≠ q.1) (hrs : ∀ p ∈ refs (σ q.1), p.1 ≠ q.1 ∧ p.1 ≠ d)
    (hτ : ∀ i, i ≠ q.1 → τ i = purgeV d (σ i) ∨ τ i = .undef)
    (hτr : ∀ i, i ≠ q.1 → ∀ p ∈ refs (τ i), p.1 = q.1 → p = q ∧ ∃ off, τ i = .rp q off) (hop0 : ∃ cs, x0 = .op cs) (hop1 : ∃ cs, x1 = .op cs) :
    Calls P f vs.toArray w fun en w' => ∃ v β', en = .returned v ∧ Inv e (upd (upd τ q.1 (setNode (σ q.1) q.2 x1)) d res) (upd val d v) w' β' F := by
  obtain ⟨u, hu, hput⟩ := (h.rep q.1).zoom hz
  simp only [List.nil_append] at hu
  have hh := h.hole hz
  let inh : Nat → Prop := fun b => ∃ r y s, node x0 r = some y ∧ y.isOwn = true ∧ β (q.1, q.2 ++ r) = some (b, s)
  let G : Nat → Prop := lent (hole σ q) β F
  have inh_own : ∀ {b}, inh b → ∃ p s, OwnAt σ p ∧ β p = some (b, s) ∧ (p.1 = q.1 ∧ q.2 <+: p.2) := fun {b} ⟨r, y, s, hy, ho, hb⟩ => ⟨(q.1, q.2 ++ r), s, ownAt_sub hz hy ho, hb, rfl, List.prefix_append _ _⟩
  have inh_not : ∀ {b}, inh b → ¬ F b ∧ (e.w0.heap.size ≤ b ∨ e.inh b) ∧ ∀ p s, OwnAt (hole σ q) p → β p ≠ some (b, s) := fun {b} hb => by
    obtain ⟨p, s, hp, hpb, hpq⟩ := inh_own hb
    refine ⟨(h.sep p b s hp hpb).1, (h.sep p b s hp hpb).2, fun p' s' hp' hb' => ?_⟩
    obtain ⟨h1, h2⟩ := ownAt_hole hz hp'
    have := h.disj p p' b s s' hp h1 hpb hb'
    subst this
    exact h2 hpq
  have hinv : Inv ⟨w, inh, G, []⟩ (argSig args [x0]) (fun i => if i = INH then u else vs.getD i undef) w (passB q β) G := by
    have own : ∀ {p}, OwnAt (argSig args [x0]) p → p.1 = INH ∧ ∃ y, node x0 p.2 = some y ∧ y.isOwn = true := by
      rintro ⟨i, r⟩ ⟨y, hy, ho⟩
      dsimp only at hy
      unfold argSig at hy
      split at hy
      · cases hx : args[i]? with
        | none => rw [hx] at hy; exact (undef_node hy ho).elim
        | some c =>
          rw [hx] at hy
          rw [hai c (List.mem_of_getElem? hx) r y hy] at ho; cases ho
      · rename_i hi
        cases hj : i - INH with
        | zero =>
          rw [hj] at hy
          exact ⟨by dsimp only; omega, y, by simpa using hy, ho⟩
        | succ k => rw [hj] at hy; simp at hy; exact (undef_node hy ho).elim
    refine ⟨fun i => ?_, fun p p' b s s' hp hp' hb hb' => ?_, fun p b s hp hb => ?_, fun b hb => ⟨?_, fun _ => hb⟩, fun _ _ _ => rfl, Nat.le_refl _, Tame.refl' w (fun b arr t fz hb hh => hfr b arr t fz hb hh)⟩
    · by_cases hi : i = INH
      · subst hi
        rw [argSig_inh']
        simp only [if_true]
        exact hu.tr _ (fun b hb => ⟨.inl hb, rfl⟩) (fun r y _ _ => ⟨by simp [passB], fun _ _ _ => rfl⟩) (fun p hp => by rw [hr0] at hp; cases hp)
      · simp only [hi, if_false]
        unfold argSig
        split
        · cases hx : args[i]? with
          | none => simp [Rep]
          | some c =>
            obtain ⟨u', hu', hru⟩ := RepL_iff.1 ha i c hx
            rw [List.getD_eq_getElem?_getD, hu']
            exact hru.tr _ (fun b hb => ⟨hb, rfl⟩) (fun r y hy ho => by rw [hai c (List.mem_of_getElem? hx) r y hy] at ho; cases ho) (fun _ _ => rfl)
        · have : ([x0] : List AV)[i - INH]? = none := List.getElem?_eq_none (by simp; omega)
          rw [this]; simp [Rep]
    · obtain ⟨h1, y, hy, ho⟩ := own hp
      obtain ⟨h1', y', hy', ho'⟩ := own hp'
      simp only [passB, h1, h1', if_true] at hb hb'
      have := h.disj _ _ b s s' (ownAt_sub hz hy ho) (ownAt_sub hz hy' ho') hb hb'
      simp only [Prod.mk.injEq, true_and] at this
      exact Prod.ext (h1.trans h1'.symm) (List.append_cancel_left this)
    · obtain ⟨h1, y, hy, ho⟩ := own hp
      simp only [passB, h1, if_true] at hb
      have hi : inh b := ⟨p.2, y, s, hy, ho, hb⟩
      refine ⟨fun hG => ?_, .inr hi⟩
      rcases hG with hF | ⟨p', s', hp', hb'⟩
      · exact (inh_not hi).1 hF
      · exact (inh_not hi).2.2 p' s' hp' hb'
    · rcases hb with hb | ⟨p, s, hp, hb⟩
      · exact (h.fr b hb).1
      · exact hh.own_lt hp hb
  refine (hc _ vs _ w _ _ hl (fun i hi => by
    have : i ≠ INH := by omega
    simp [this]) hinv).mono fun en w' ⟨v, β', F', he, hi⟩ => ⟨v, ?_⟩
  have hkept : ∀ b, b < w.heap.size → ¬ inh b → w'.heap[b]? = w.heap[b]? := fun b hb hnb => hi.kept b hb hnb
  have hgrow : w.heap.size ≤ w'.heap.size := hi.grow
  have oldnot : ∀ {p b s}, OwnAt (hole σ q) p → β p = some (b, s) → ¬ inh b := fun {p b s} hp hb hi => (inh_not hi).2.2 p s hp hb
  have hH : Inv e (hole σ q) val w' β F := hh.ext (fun b hb => hkept b (h.fr b hb).1 (fun hi => (inh_not hi).1 hb)) (fun p b s hp hb => hkept b (hh.own_lt hp hb) (oldnot hp hb))
    (fun b hb hni => hkept b (Nat.lt_of_lt_of_le hb h.grow) (fun hi => by
      rcases (inh_not hi).2.1 with h1 | h1
      · omega
      · exact hni h1)) hgrow (h.tame.trans' hi.tame hkept)
  have hres : argSig [res] [x1] 0 = res := argSig_zero _ _
  have hobj : argSig [res] [x1] INH = x1 := argSig_inh _ _
  have newb : ∀ {p b s}, OwnAt (argSig [res] [x1]) p → β' p = some (b, s) → ¬ F b ∧ (e.w0.heap.size ≤ b ∨ e.inh b) ∧ ∀ p' s', OwnAt (hole σ q) p' → β p' ≠ some (b, s') := fun {p b s} hp hb => by
    rcases (hi.sep p b s hp hb).2 with hge | hin
    · have hge : w.heap.size ≤ b := hge
      exact ⟨fun hF => by have := (h.fr b hF).1; omega, .inl (Nat.le_trans h.grow hge), fun p' s' hp' hb' => by have := hh.own_lt hp' hb'; omega⟩
    · exact inh_not hin
  have d0 : Det e (hole σ q) w' β F res v (fun r => β' (0, r)) := by
    refine ⟨?_, refs_of_noRef res hr, fun r r' y y' b s s' hy ho hy' ho' hb hb' => ?_, fun r y b s hy ho hb => newb (p := (0, r)) ⟨y, by rw [hres]; exact hy, ho⟩ hb⟩
    · have := hi.rep 0
      rw [hres, upd_same] at this
      exact (this.noSh (G := F) res hn).tr _ (fun b hb => ⟨hb, rfl⟩) (fun r y _ _ => ⟨by simp, fun _ _ _ => rfl⟩) (fun p hp => by rw [refs_of_noRef res hr] at hp; cases hp)
    · have := hi.disj (0, r) (0, r') b s s' ⟨y, by rw [hres]; exact hy, ho⟩ ⟨y', by rw [hres]; exact hy', ho'⟩ hb hb'
      simpa using this
  have I1 := hH.attach d d0
  have hINH0 : (INH : Nat) ≠ 0 := by decide
  have repX := hi.rep INH
  rw [hobj, upd_other _ _ hINH0] at repX
  simp only [if_true] at repX
  have d1 : Det e (upd (fun i => purgeV d (hole σ q i)) d res) w' (fun p => if p.1 = d then β' (0, p.2) else β p) F x1 u (fun r => β' (INH, r)) := by
    refine ⟨?_, refs_of_noRef x1 hr1, fun r r' y y' b s s' hy ho hy' ho' hb hb' => ?_, fun r y b s hy ho hb => ⟨(newb (p := (INH, r)) ⟨y, by rw [hobj]; exact hy, ho⟩ hb).1, (newb (p := (INH, r)) ⟨y, by rw [hobj]; exact hy, ho⟩ hb).2.1, fun p s' hp hb' => ?_⟩⟩
    · exact (repX.noSh (G := F) x1 hn1).tr _ (fun b hb => ⟨hb, rfl⟩) (fun r y _ _ => ⟨by simp, fun _ _ _ => rfl⟩) (fun p hp => by rw [refs_of_noRef x1 hr1] at hp; cases hp)
    · have := hi.disj (INH, r) (INH, r') b s s' ⟨y, by rw [hobj]; exact hy, ho⟩ ⟨y', by rw [hobj]; exact hy', ho'⟩ hb hb'
      simpa using this
    · by_cases hpd : p.1 = d
      · obtain ⟨y', hy', ho'⟩ := hp
        rw [hpd, upd_same] at hy'
        simp only [hpd, if_true] at hb'
        have := hi.disj (INH, r) (0, p.2) b s s' ⟨y, by rw [hobj]; exact hy, ho⟩ ⟨y', by rw [hres]; exact hy', ho'⟩ hb hb'
        simp [hINH0] at this
      · simp only [hpd, if_false] at hb'
        have hp' := (own_upd_other hpd).1 hp
        have : OwnAt (hole σ q) p := by
          obtain ⟨z, hz', hoz⟩ := hp'
          dsimp only at hz'
          rcases purgeV_or d (hole σ q p.1) with hp | hp
          · rw [hp] at hz'; exact ⟨z, hz', hoz⟩
          · rw [hp] at hz'; exact (undef_node hz' hoz).elim
        exact (newb (p := (INH, r)) ⟨y, by rw [hobj]; exact hy, ho⟩ hb).2.2 p s' this hb'
  have hs1 : upd (fun i => purgeV d (hole σ q i)) d res q.1 = setNode (σ q.1) q.2 .undef := by
    rw [upd_other _ _ (Ne.symm hds)]
    have : hole σ q q.1 = setNode (σ q.1) q.2 .undef := by simp [hole, upd]
    rw [this]
    exact purge_id fun p hp => (hrs p (refs_setNode (by simp [refs]) hz p hp)).2
  have hval : upd val d v q.1 = val q.1 := upd_other _ _ (Ne.symm hds)
  have hnz : node (upd (fun i => purgeV d (hole σ q i)) d res q.1) q.2 = some .undef := by rw [hs1]; exact node_set_self hz
  obtain ⟨b0, s0, hbq, hu0⟩ : ∃ b s, β q = some (b, s) ∧ u = .pointer (some ⟨b, 0, none⟩) := by
    obtain ⟨cs, rfl⟩ := hop0
    have hu' : Rep β F w (.op cs) q u := by simpa using hu
    simp only [Rep] at hu'
    obtain ⟨_, b, arr, t, h1, h2, _⟩ := hu'
    exact ⟨b, _, h1, h2⟩
  obtain ⟨s1, hbX⟩ : ∃ s, β' (INH, []) = some (b0, s) := by
    obtain ⟨cs, rfl⟩ := hop1
    have hx := repX
    simp only [Rep] at hx
    obtain ⟨_, b, arr, t, h1, h2, _⟩ := hx
    rw [hu0] at h2
    simp only [Value.pointer.injEq, Option.some.injEq, Addr.mk.injEq] at h2
    obtain ⟨rfl, _⟩ := h2
    exact ⟨_, h1⟩
  have hno1 : ¬ OwnAt (upd (fun i => purgeV d (hole σ q i)) d res) q := by
    rintro ⟨y, hy, ho⟩
    rw [hnz] at hy; cases hy; simp [AV.isOwn] at ho
  have hq1d : q.1 ≠ d := Ne.symm hds
  have I2 := I1.rebeta (q := q) (b := b0) (s := s0) s1 (by simp only [hq1d, if_false]; exact hbq) hno1 (τ := fun i => if i = q.1 then upd (fun i => purgeV d (hole σ q i)) d res q.1 else if i = d then res else τ i) (fun i => by
    by_cases h1 : i = q.1
    · subst h1; left; simp
    · simp only [h1, if_false]
      by_cases hid : i = d
      · subst hid; left; simp [upd_same]
      · simp only [hid, if_false]
        rw [upd_other _ _ hid]
        have : hole σ q i = σ i := by simp [hole, upd, h1]
        rw [this]
        exact hτ i h1) (fun i p hp hpq => by
    by_cases h1 : i = q.1
    · subst h1
      simp only [if_true] at hp
      rw [hs1] at hp
      exact absurd (by rw [hpq]) (hrs p (refs_setNode (by simp [refs]) hz p hp)).1
    · simp only [h1, if_false] at hp ⊢
      by_cases hid : i = d
      · simp only [hid, if_true] at hp
        rw [refs_of_noRef res hr] at hp; cases hp
      · simp only [hid, if_false] at hp ⊢
        exact (hτr i h1 p hp (by rw [hpq])).2)
  have own21 : ∀ p, OwnAt (fun i => if i = q.1 then upd (fun i => purgeV d (hole σ q i)) d res q.1 else if i = d then res else τ i) p → OwnAt (upd (fun i => purgeV d (hole σ q i)) d res) p := by
    rintro ⟨i, r⟩ ⟨y, hy, ho⟩
    dsimp only at hy
    by_cases h1 : i = q.1
    · subst h1; simp only [if_true] at hy; exact ⟨y, hy, ho⟩
    · simp only [h1, if_false] at hy
      by_cases hid : i = d
      · subst hid; simp only [if_true] at hy; exact ⟨y, by dsimp only; rw [upd_same]; exact hy, ho⟩
      · simp only [hid, if_false] at hy
        rcases hτ i h1 with ht | ht
        · refine ⟨y, ?_, ho⟩
          dsimp only
          rw [upd_other _ _ hid]
          have : hole σ q i = σ i := by simp [hole, upd, h1]
          rw [this, ← ht]; exact hy
        · rw [ht] at hy; exact (undef_node hy ho).elim
  have d2 : Det e (fun i => if i = q.1 then upd (fun i => purgeV d (hole σ q i)) d res q.1 else if i = d then res else τ i) w' (fun p => if p = q then some (b0, s1) else (if p.1 = d then β' (0, p.2) else β p)) F x1 u (fun r => β' (INH, r)) :=
    ⟨d1.rep, d1.nr, d1.inj, fun r y b s hy ho hb => ⟨(d1.sep r y b s hy ho hb).1, (d1.sep r y b s hy ho hb).2.1, fun p s' hp hb' => by
      have hp1 := own21 p hp
      have hne : p ≠ q := fun he => hno1 (by have h9 := hp1; rw [he] at h9; exact h9)
      simp only [hne, if_false] at hb'
      exact (d1.sep r y b s hy ho hb).2.2 p s' hp1 hb'⟩⟩
  have hs2 : (fun i => if i = q.1 then upd (fun i => purgeV d (hole σ q i)) d res q.1 else if i = d then res else τ i) q.1 = setNode (σ q.1) q.2 .undef := by simp only [if_true]; exact hs1
  have hnz2 : node ((fun i => if i = q.1 then upd (fun i => purgeV d (hole σ q i)) d res q.1 else if i = d then res else τ i) q.1) q.2 = some .undef := by rw [hs2]; exact node_set_self hz
  have fin := I2.put (τ := fun i => if i = d then res else τ i) hnz2 d2 (by
    rw [if_pos rfl, hs1, setNode_setNode hz, hval]
    refine hput hr1 ?_ (fun b hb => hkept b (h.fr b hb).1 (fun hi => (inh_not hi).1 hb)) (fun r' y' hy' ho hp => ?_) (fun p hp => ?_)
    · simp only [List.nil_append]
      exact (repX.noSh (G := F) x1 hn1).tr _ (fun b hb => ⟨hb, rfl⟩) (fun r y _ _ => ⟨by
        have := glueAt_in (β := fun p => if p = q then some (b0, s1) else (if p.1 = d then β' (0, p.2) else β p)) (t := q.1) (r := q.2) (s := r) (δ := fun r => β' (INH, r))
        simpa using this, fun _ _ _ => rfl⟩) (fun p hp => by rw [refs_of_noRef x1 hr1] at hp; cases hp)
    · simp only [List.nil_append]
      have hne : ¬ (q.2 <+: r') := hp
      have hneq : ¬ ((q.1, r') = q) := fun he => hne (by rw [← he]; exact List.prefix_rfl)
      refine ⟨by rw [glueAt_out (fun hh => hne hh.2)]; simp only [hneq, if_false, hq1d], fun b s hb => hkept b (h.own_lt (q := (q.1, r')) ⟨y', hy', ho⟩ hb) (fun hin => ?_)⟩
      obtain ⟨p, s', hp', hpb, hpq⟩ := inh_own hin
      have := h.disj p (q.1, r') b s' s hp' ⟨y', hy', ho⟩ hpb hb
      subst this
      exact hne hpq.2
    · rw [glueAt_out (fun hh => (hrs p hp).1 hh.1)]
      have hpq : p ≠ q := fun he => (hrs p hp).1 (by rw [he])
      simp only [hpq, if_false, (hrs p hp).2]) (fun i hiq => by
    simp only [hiq, if_false]
    left; trivial) (fun i hiq p hp => by
    by_cases hid : i = d
    · subst hid
      simp only [if_true] at hp
      rw [refs_of_noRef res hr] at hp; cases hp
    · simp only [hid, if_false] at hp
      by_cases hpq : p.1 = q.1
      · obtain ⟨hpe, _⟩ := hτr i hiq p hp hpq
        subst hpe
        have h1 := glueAt_in (β := fun r => if r = p then some (b0, s1) else (if r.1 = d then β' (0, r.2) else β r)) (t := p.1) (r := p.2) (s := []) (δ := fun r => β' (INH, r))
        rw [List.append_nil] at h1
        refine h1.trans ?_
        simp only [if_true]
        exact hbX
      · exact glueAt_out (fun hh => hpq hh.1))
  rw [if_pos rfl, hs1, setNode_setNode hz] at fin
  have e1 : upd (fun i => if i = d then res else τ i) q.1 (setNode (σ q.1) q.2 x1) = upd (upd τ q.1 (setNode (σ q.1) q.2 x1)) d res := by
    funext i
    by_cases h1 : i = q.1
    · subst h1; rw [upd_same, upd_other _ _ (Ne.symm hds), upd_same]
    · by_cases h2 : i = d
      · subst h2; rw [upd_other _ _ h1, upd_same]; simp
      · rw [upd_other _ _ h1, upd_other _ _ h2, upd_other _ _ h1]; simp [h2]
  rw [e1] at fin
  exact ⟨_, he, fin⟩
end
def keepP (q : Place) : AV → AV
  | .rp p off => if p.1 == q.1 && !(p.2 == q.2) then .undef else .rp p off
  | .rsl p sz off n cap => if p.1 == q.1 then .undef else .rsl p sz off n cap
  | .agg cs => if (refsL cs).any (fun p => p.1 == q.1) then .undef else .agg cs
  | .tup cs => if (refsL cs).any (fun p => p.1 == q.1) then .undef else .tup cs
  | .fn f us cs => if (refsL us ++ refsL cs).any (fun p => p.1 == q.1) then .undef else .fn f us cs
  | .when b x => if (refs x).any (fun p => p.1 == q.1) then .undef else .when b x
  | x => x
theorem ite_or {c : Prop} [Decidable c] {x y : AV} : (if c then y else x) = x ∨ (if c then y else x) = y := by
  by_cases h : c
  · right; rw [if_pos h]
  · left; rw [if_neg h]
theorem keepP_or (q : Place) (x : AV) : keepP q x = x ∨ keepP q x = .undef := by
  cases x <;> first | exact .inl rfl | exact ite_or
theorem any_no {l : List Place} {q p : Place} (h : ¬ (l.any (fun p => p.1 == q.1)) = true) (hp : p ∈ l) (hq : p.1 = q.1) : False :=
  h (List.any_eq_true.2 ⟨p, hp, by simp [hq]⟩)
theorem keepP_refs {q : Place} {x : AV} {p : Place} (hp : p ∈ refs (keepP q x)) (h : p.1 = q.1) : p = q ∧ ∃ off, keepP q x = .rp q off := by
  cases x <;> simp only [keepP] at hp ⊢ <;> try (simp [refs] at hp; done)
  case rp p' off =>
    split at hp
    · simp [refs] at hp
    · rename_i hc
      simp only [refs, List.mem_singleton] at hp
      subst hp
      rw [if_neg hc]
      simp only [Bool.and_eq_true, beq_iff_eq, Bool.not_eq_true', beq_eq_false_iff_ne, not_and, ne_eq, Classical.not_not] at hc
      have : p = q := Prod.ext h (hc h)
      subst this
      exact ⟨rfl, off, rfl⟩
  case rsl p' sz off n cap =>
    split at hp
    · simp [refs] at hp
    · rename_i hc
      simp only [refs, List.mem_singleton] at hp
      subst hp
      simp [h] at hc
  all_goals
    split at hp
    · simp [refs] at hp
    · rename_i hc
      exact (any_no hc (by simpa [refs] using hp) h).elim
section
variable {P : Program} {N : Nat} {σ τ : Sig} {o : Oper} {d : Nat}
theorem step_IOp {f : FuncId} {args vs : List AV} {res x0 x1 : AV} {q : Place} {us : Act → List Value} (hc : ACall P f args [x0] res [x1]) (hd : o.dst = some d) (hN : d < N)
    (hrun : ∀ a w gv e β F, All N gv e σ a w → Inv e σ (valOf N gv a) w β F → (execOp a.eval o).run P w = .ok (.enter f (us a).toArray) w ∧ RepL β F w vs (0, []) 0 (us a) ∧ (us a).length = vs.length ∧ ∀ c ∈ vs, NoOwn c)
    (hz : node (σ q.1) q.2 = some x0) (hs : passL q (hole σ q) vs = args) (hr0 : refs x0 = []) (hn : noSh res = true) (hr : noRef res = true) (hn1 : noSh x1 = true) (hr1 : noRef x1 = true)
    (hlen : args.length < INH) (hds : d ≠ q.1) (hrs : (refs (σ q.1)).all (fun p => p.1 != q.1 && p.1 != d) = true) (hop0 : ∃ cs, x0 = .op cs) (hop1 : ∃ cs, x1 = .op cs)
    (hτ : ∀ i, i ≠ q.1 → τ i = purgeV d (σ i) ∨ τ i = .undef)
    (hτr : ∀ i, i ≠ q.1 → ∀ p ∈ refs (τ i), p.1 = q.1 → p = q ∧ ∃ off, τ i = .rp q off) :
    OStep P N o σ (upd (upd τ q.1 (setNode (σ q.1) q.2 x1)) d res) := by
  intro gv e a w ha K Q hK
  have ha0 := ha
  obtain ⟨hdf, hsz, β, F, hi⟩ := ha
  obtain ⟨h1, h2, h3, hno⟩ := hrun a w gv e β F ha0 hi
  have hh := hi.hole hz
  have hpass := hh.passL q vs (p' := (0, [])) h2 (fun i c hc => hno c (List.mem_of_getElem? hc))
  rw [hs] at hpass
  have hl : (us a).length = args.length := by rw [h3, ← hs, passL_eq]; simp
  have hrs' : ∀ p ∈ refs (σ q.1), p.1 ≠ q.1 ∧ p.1 ≠ d := fun p hp => by
    have := List.all_eq_true.1 hrs p hp
    simpa using this
  obtain ⟨vz, hvz⟩ := (hi.rep q.1).sub hz
  simp only [List.nil_append] at hvz
  refine upon_enter' h1 ((callIO_coreP hc hn hr hn1 hr1 hi hz hr0 (fun b arr t fz ⟨r, y, s, hy, ho, hb⟩ hh => own_fz hvz hy ho hb hh) hl (hpass) (by rw [← hs]; exact noOwn_passL _ _ _ hno) hlen hds hrs' hτ hτr hop0 hop1 (vs' := vs)).mono fun en w' ⟨v, β', he, hi'⟩ => ⟨v, he, hK _ _ ⟨?_, ?_, β', F, ?_⟩⟩)
  · rw [hd]; exact hdf
  · rw [hd, size_put]; exact hsz
  · rw [hd, valOf_put hsz hN]; exact hi'
theorem o_callIOp {f : FuncId} {xs : List Operand} {tys : Array TypeId} {vs args : List AV} {res : AV} {cs0 cs1 : List AV} {q : Place} (ho : o.op = fnCall f xs tys) (hf : hasBody P f = true) (hd : o.dst = some d) (hN : d < N) (hx : RdL N true σ xs vs)
    (hz : node (σ q.1) q.2 = some (.op cs0)) (hs : passL q (hole σ q) vs = args) (hc : ACall P f args [.op cs0] res [.op cs1])
    (hr0 : refs (.op cs0) = []) (hn : noSh res = true) (hr : noRef res = true) (hn1 : noSh (.op cs1) = true) (hr1 : noRef (.op cs1) = true) (hlen : args.length < INH) (hds : d ≠ q.1) (hrs : (refs (σ q.1)).all (fun p => p.1 != q.1 && p.1 != d) = true) :
    OStep P N o σ (upd (upd (fun i => keepP q (purgeV d (σ i))) q.1 (setNode (σ q.1) q.2 (.op cs1))) d res) :=
  step_IOp (us := fun a => xs.map a.eval) hc hd hN (fun a w gv e β F _ hi => run_fnCall ho hf hx hi) hz hs hr0 hn hr hn1 hr1 hlen hds hrs ⟨_, rfl⟩ ⟨_, rfl⟩
    (fun i _ => by
      rcases keepP_or q (purgeV d (σ i)) with h | h
      · exact .inl h
      · exact .inr h) (fun i _ p hp hpq => keepP_refs hp hpq)
end
end Go.Av
namespace Go.Av
open Go
section
variable {P : Program} {N : Nat} {A : Bool} {ty : TypeId} {σ : Sig} {x y z : Operand} {xt yt : TypeId}
theorem v_subu {m n : Int} (hx : RdTo N A σ x (.int .u64 m)) (hy : RdTo N A σ y (.int .u64 n)) (hb : A = true → 0 ≤ m - n ∧ m - n ≤ 18446744073709551615) :
  VSem P N A (.binOp .sub xt x y yt) ty σ (slots x ++ slots y) (.int .u64 (m - n)) :=
 v_bin hx hy rfl rep_int fun hA w => by simp [binOp, Op.intArith, IntWalk.u64_in _ (hb hA)]
theorem v_shlu {k : IntKind} {m : Nat} {n : Int} (hx : RdTo N A σ x (.int .u64 ((m : Nat) : Int))) (hy : RdTo N A σ y (.int k n)) (hb : A = true → 0 ≤ n ∧ n ≤ 63) :
  VSem P N A (.binOp .shl xt x y yt) ty σ (slots x ++ slots y) (.int .u64 ((m * 2 ^ n.toNat % 18446744073709551616 : Nat) : Int)) :=
 v_bin hx hy rfl rep_int fun hA w => by
  obtain ⟨h1, h2⟩ := hb hA
  have h0 : ¬ n < 0 := by omega
  have h4 : min n.toNat IntKind.u64.bits = n.toNat := by simp [IntKind.bits]; omega
  have h5 : IntKind.u64.wrap ((m : Int) * 2 ^ n.toNat) = ((m * 2 ^ n.toNat % 18446744073709551616 : Nat) : Int) := by rw [IntKind.wrap_u64]; simp
  simp only [binOp, Op.shift, h0, h4, h5, if_false]; rfl
theorem bv_nat64 {m : Nat} (h : m < 18446744073709551616) : (BitVec.ofInt 64 (m : Int)).toNat = m := by
 rw [BitVec.ofInt_natCast]
 simp only [BitVec.toNat_ofNat]
 omega
theorem v_xoru {m n : Nat} (hx : RdTo N A σ x (.int .u64 ((m : Nat) : Int))) (hy : RdTo N A σ y (.int .u64 ((n : Nat) : Int))) (hb : A = true → m < 18446744073709551616 ∧ n < 18446744073709551616) :
  VSem P N A (.binOp .xor xt x y yt) ty σ (slots x ++ slots y) (.int .u64 ((m ^^^ n : Nat) : Int)) :=
 v_bin hx hy rfl rep_int fun hA w => by
  obtain ⟨h1, h2⟩ := hb hA
  have hlt : m ^^^ n < 2 ^ 64 := Nat.xor_lt_two_pow (by omega) (by omega)
  have e : IntKind.u64.wrap ((m ^^^ n : Nat) : Int) = ((m ^^^ n : Nat) : Int) := IntWalk.u64_in _ (by omega)
  have e1 : (BitVec.ofInt IntKind.u64.bits (m : Int) ^^^ BitVec.ofInt IntKind.u64.bits (n : Int)).toNat = m ^^^ n := by
   show (BitVec.ofInt 64 (m : Int) ^^^ BitVec.ofInt 64 (n : Int)).toNat = _
   rw [BitVec.toNat_xor, bv_nat64 h1, bv_nat64 h2]
  simp only [binOp, Op.intBits, e1, e]
  simp
end
end Go.Av
namespace Go.Av
open Go
section
variable {P : Program} {N : Nat} {A : Bool} {ty : TypeId} {σ : Sig} {x y z : Operand} {xt yt : TypeId}
theorem v_andn {m n : Nat} (hx : RdTo N A σ x (.int .u64 ((m : Nat) : Int))) (hy : RdTo N A σ y (.int .u64 ((n : Nat) : Int))) (hb : A = true → m < 18446744073709551616 ∧ n < 18446744073709551616) :
  VSem P N A (.binOp .and xt x y yt) ty σ (slots x ++ slots y) (.int .u64 ((m &&& n : Nat) : Int)) :=
 v_bin hx hy rfl rep_int fun hA w => by
  obtain ⟨h1, h2⟩ := hb hA
  have hle : m &&& n ≤ m := Nat.and_le_left
  have e : IntKind.u64.wrap ((m &&& n : Nat) : Int) = ((m &&& n : Nat) : Int) := IntWalk.u64_in _ (by omega)
  have e1 : (BitVec.ofInt IntKind.u64.bits (m : Int) &&& BitVec.ofInt IntKind.u64.bits (n : Int)).toNat = m &&& n := by
   show (BitVec.ofInt 64 (m : Int) &&& BitVec.ofInt 64 (n : Int)).toNat = _
   rw [BitVec.toNat_and, bv_nat64 h1, bv_nat64 h2]
  simp only [binOp, Op.intBits, e1, e]
  simp
end
end Go.Av
namespace Go.Av
open Go
section
variable {P : Program} {N : Nat} {σ : Sig} {Φ : Exit → Sig → Prop} {c c' : Code}
theorem a_join {X : Type} (lift : X → Sig) (G : X → Prop) (h : ACode P N c σ (fun x s => match x with | .normal => ∃ y, Ent s (lift y) ∧ G y | x => Φ x s))
    (h' : ∀ y, G y → ACode P N c' (lift y) Φ) : ACode P N (.seq c c') σ Φ := fun gv e a w ha Q hQ =>
  sw_seq (h gv e a w ha _ fun x a' w' s hx ha' => by
    cases x <;> simp only [Exit.then] <;> first | (obtain ⟨y, hy, hG⟩ := hx; exact h' y hG gv e a' w' (hy.all ha') Q hQ) | exact hQ _ _ _ _ hx ha')
theorem RepL.take {β : Place → Option (Nat × Nat)} {F : Nat → Prop} {w : World} : ∀ {cs ds : List AV} {p : Place} {j : Nat} {vs : List Value}, RepL β F w (cs ++ ds) p j vs → RepL β F w cs p j vs
  | [], _, _, _, _, _ => by simp [RepL]
  | c :: cs, ds, p, j, [], h => by simp [RepL] at h
  | c :: cs, ds, p, j, v :: vs, h => by
    simp only [List.cons_append, RepL] at h ⊢
    exact ⟨h.1, RepL.take h.2⟩
theorem noRefL_left {cs ds : List AV} (h : noRefL (cs ++ ds) = true) : noRefL cs = true := by
  induction cs with
  | nil => rfl
  | cons c cs ih =>
    simp only [List.cons_append, noRefL, Bool.and_eq_true] at h ⊢
    exact ⟨h.1, ih h.2⟩
theorem Weak.osl_take {sz n n' : Nat} {cap : Option Nat} {cs cs' ds : List AV} (h : cs = cs' ++ ds) (hn : n = n') : Weak (.osl sz cs n cap) (.osl sz cs' n' none) := by
  subst h hn
  refine ⟨fun β F w p v hv => ?_, fun r z hz ho => ?_⟩
  · simp only [Rep] at hv ⊢
    rcases hv with ⟨h1, h2, h3, h4, _⟩ | ⟨h1, b, capv, arr, t, h2, h3, h4, _, h5, h6, h7⟩
    · exact .inl ⟨h1, h2, (List.append_eq_nil_iff.1 h3).1, h4, fun c hc => by cases hc⟩
    · exact .inr ⟨noRefL_left h1, b, capv, arr, t, h2, h3, h4, (fun c hc => by cases hc), h5, h6, h7.take⟩
  · cases r with
    | nil => exact ⟨_, Eq.refl _, Eq.refl _⟩
    | cons i r =>
      simp only [node, kids] at hz ⊢
      cases hi : cs'[i]? with
      | none => rw [hi] at hz; cases hz
      | some y =>
        rw [hi] at hz
        have : (cs' ++ ds)[i]? = some y := by
          rw [List.getElem?_append_left (List.getElem?_eq_some_iff.1 hi).1, hi]
        rw [this]
        exact ⟨z, hz, ho⟩
end
end Go.Av
namespace Go.Av
open Go
section
variable {P : Program} {N : Nat} {A : Bool} {ty xt : TypeId} {σ : Sig} {x : Operand}
theorem v_negA {n : Int} (hx : RdTo N A σ x (.int .i64 n)) : VSem P N A (.unOp .neg xt x) ty σ (slots x) (.int .i64 (IntKind.i64.wrap (-n))) :=
  ⟨noOwn_scalar rfl, fun hA σ' hD gv e ac w β F hi p o' ho _ => by
    have ex := hx.rep hA hD hi p
    simp only [Rep] at ex
    exact ⟨.int .i64 (IntKind.i64.wrap (-n)), by simp [execOp, ho, ex, Op.unary, Op.intArith], by simp [Rep]⟩⟩
end
end Go.Av
namespace Go.Av
open Go Go.Sort
def dedN (d : Array Int) : Nat → List Int
  | 0 => []
  | i + 1 => if 0 < i ∧ d[i]! = d[i - 1]! then dedN d i else dedN d i ++ [d[i]!]
section
variable {d d' : Array Int} {n k i j : Nat}
theorem dedN_same (h0 : 0 < i) (h : d[i]! = d[i - 1]!) : dedN d (i + 1) = dedN d i := by rw [dedN, if_pos ⟨h0, h⟩]
theorem dedN_new (h : ¬ (0 < i ∧ d[i]! = d[i - 1]!)) : dedN d (i + 1) = dedN d i ++ [d[i]!] := by rw [dedN, if_neg h]
theorem take_snoc (h : i < d.size) : d.toList.take (i + 1) = d.toList.take i ++ [d[i]!] := by
  rw [List.take_succ_eq_append_getElem (by simpa using h), Array.getElem_toList, getElem!_pos d i h]
theorem ded_grow (h : i < d.size) (hi : dedN d i = d.toList.take i) (hd : ¬ (0 < i ∧ d[i]! = d[i - 1]!)) : dedN d (i + 1) = d.toList.take (i + 1) := by
  rw [dedN_new hd, take_snoc h, hi]
theorem ded_one (h : 0 < d.size) : dedN d 1 = d.toList.take 1 := by
  have := ded_grow (i := 0) h rfl (by simp)
  exact this
theorem ded_all (hd : d.size = n) (h : dedN d n = d.toList.take n) : icells (dedN d n) = acells d := by
  unfold acells; rw [h, List.take_of_length_le (by simp; omega)]
theorem ded_all_len (hd : d.size = n) (h : dedN d n = d.toList.take n) : (dedN d n).length = n := by
  rw [h, List.length_take]; simp; omega
theorem ded_few (hd : d.size = n) (h : n < 2) : dedN d n = d.toList.take n := by
  rcases Nat.eq_zero_or_pos n with h0 | h0
  · rw [h0]; rfl
  · rw [show n = 1 by omega]; exact ded_one (by omega)
def Cpt (d : Array Int) (n k0 k2 k : Nat) (d' : Array Int) : Prop :=
  1 ≤ k2 ∧ k0 + k2 ≤ n ∧ d'.size = n ∧ k < k0 + k2 ∧ d'.toList.take k = dedN d (k0 + k2) ∧ ∀ j, k0 + k2 ≤ j + 1 → d'[j]! = d[j]!
theorem Cpt.first (hd : d.size = n) (h0 : 0 < k) (hk : k < n) (h : dedN d k = d.toList.take k) (he : d[k]! = d[k - 1]!) : Cpt d n k 1 k d :=
  ⟨Nat.le_refl _, hk, hd, Nat.lt_succ_self _, by rw [dedN_same h0 he, h], fun _ _ => rfl⟩
theorem Cpt.same {k0 k2 : Nat} (h : Cpt d n k0 k2 k d') (hi : k0 + k2 < n) (he : d'[k0 + k2]! = d'[k0 + k2 - 1]!) : Cpt d n k0 (k2 + 1) k d' := by
  obtain ⟨h1, h2, h3, h4, h5, h6⟩ := h
  have e : k0 + (k2 + 1) = (k0 + k2) + 1 := rfl
  refine ⟨by omega, by omega, h3, by omega, ?_, fun j hj => h6 j (by omega)⟩
  rw [e, dedN_same (by omega) (by rw [← h6 (k0 + k2) (by omega), ← h6 (k0 + k2 - 1) (by omega)]; exact he), h5]
theorem set_get {i j : Nat} {v : Int} (hi : i < d.size) : (d.set! i v)[j]! = if i = j then v else d[j]! := by
  by_cases hj : j < d.size
  · rw [getElem!_pos _ j (by simpa using hj), getElem!_pos d j hj]
    simp only [Array.set!_eq_setIfInBounds]
    rw [Array.getElem_setIfInBounds (by simpa using hj)]
  · rw [getElem!_neg _ j (by simpa using hj), getElem!_neg d j hj, if_neg (by omega)]
theorem Cpt.new {k0 k2 : Nat} (h : Cpt d n k0 k2 k d') (hi : k0 + k2 < n) (he : ¬ d'[k0 + k2]! = d'[k0 + k2 - 1]!) : Cpt d n k0 (k2 + 1) (k + 1) (d'.set! k d'[k0 + k2]!) := by
  obtain ⟨h1, h2, h3, h4, h5, h6⟩ := h
  have e : k0 + (k2 + 1) = (k0 + k2) + 1 := rfl
  refine ⟨by omega, by omega, by simpa using h3, by omega, ?_, fun j hj => ?_⟩
  · rw [e, dedN_new (by rw [← h6 (k0 + k2) (by omega), ← h6 (k0 + k2 - 1) (by omega)]; exact fun h => he h.2), ← h5, take_snoc (by simp; omega), set_get (by omega), if_pos rfl, ← h6 (k0 + k2) (by omega)]
    congr 1
    simp only [Array.set!_eq_setIfInBounds, Array.toList_setIfInBounds]
    rw [List.take_set_of_le (Nat.le_refl _)]
  · rw [set_get (by omega), if_neg (by omega)]; exact h6 j (by omega)
theorem setL_rep {cs : List AV} {z : AV} : ∀ {m off : Nat}, off + m = cs.length → setL cs off (List.replicate m z) = cs.take off ++ List.replicate m z := by
  intro m off h
  apply List.ext_getElem?
  intro i
  rw [setL_get (by simp; omega), List.length_replicate]
  by_cases h1 : off ≤ i ∧ i < off + m
  · rw [if_pos h1, List.getElem?_append_right (by rw [List.length_take]; omega), List.length_take, show min off cs.length = off by omega]
  · rw [if_neg h1]
    by_cases h2 : i < off
    · rw [List.getElem?_append_left (by rw [List.length_take]; omega), List.getElem?_take_of_lt h2]
    · rw [List.getElem?_eq_none (by omega), List.getElem?_eq_none (by simp; omega)]
theorem Cpt.done {k0 k2 : Nat} (h : Cpt d n k0 k2 k d') (he : k0 + k2 = n) : setL (acells d') (0 + k * 1) (List.replicate (n - k) (.int .i64 0)) = icells (dedN d n) ++ List.replicate (n - k) (.int .i64 0) ∧ k = (dedN d n).length := by
  obtain ⟨h1, h2, h3, h4, h5, h6⟩ := h
  rw [he] at h5
  refine ⟨?_, ?_⟩
  · rw [Nat.zero_add, Nat.mul_one, setL_rep (by rw [acells_length]; omega), ← h5]
    congr 1
    unfold acells icells; rw [List.map_take]
  · rw [← h5, List.length_take]; simp; omega
theorem acells_set (d : Array Int) (i : Nat) (v : Int) : (acells d).set i (.int .i64 v) = acells (d.set! i v) := by
  unfold acells; rw [icells_set]; simp
end
end Go.Av
namespace Go.Av
open Go Go.Sort
def dsrt (l : List Int) : List Int := dedN (Go.Sort.sort (ltc cfLit) l.toArray) l.length
def oppB (c : List Int) (i : Nat) : Bool := decide (gd c i = IntKind.i64.wrap (-(gd c (i - 1))))
def clR (l : List Int) : Option (List Int) := if (List.range (dsrt l).length).any (fun i => decide (1 ≤ i) && oppB (dsrt l) i) then none else some (dsrt l)
theorem clR_none {l : List Int} {i : Nat} (hi : i < (dsrt l).length) (h1 : 1 ≤ i) (h : oppB (dsrt l) i = true) : clR l = none := by
  unfold clR; rw [if_pos]
  rw [List.any_eq_true]; exact ⟨i, by simpa using hi, by simp [h1, h]⟩
theorem clR_some {l : List Int} (h : ∀ i, 1 ≤ i → i < (dsrt l).length → oppB (dsrt l) i = false) : clR l = some (dsrt l) := by
  unfold clR; rw [if_neg]
  rw [Bool.not_eq_true, List.any_eq_false]; intro i hi
  simp only [List.mem_range] at hi
  simp only [Bool.and_eq_true, decide_eq_true_eq, not_and]
  intro h1; rw [h i h1 hi]; decide
theorem sort_size (l : List Int) : (Go.Sort.sort (ltc cfLit) l.toArray).size = l.length := by
  have := (pdq_rec (l := bitsLen l.toArray.size) (wb := true) (wp := true) cfLit_swo (a := 0) (b := l.toArray.size) (d := l.toArray) (Nat.zero_le _) (Nat.le_refl _) (Or.inl rfl)).1.1
  simpa [Go.Sort.sort] using this
theorem dedN_le (d : Array Int) : ∀ i, (dedN d i).length ≤ i
  | 0 => Nat.le_refl _
  | i + 1 => by
    rw [dedN]; split
    · have := dedN_le d i; omega
    · rw [List.length_append]; have := dedN_le d i; simp; omega
end Go.Av
namespace Go.Av
open Go
def SmI (c : List Int) : Prop := ∀ j, -4611686018427387904 ≤ gd c j ∧ gd c j ≤ 4611686018427387904
theorem gd_mem {c : List Int} {j : Nat} (h : j < c.length) : gd c j ∈ c := by
  unfold gd; rw [List.getElem?_eq_getElem h]; exact List.getElem_mem h
theorem gd_out {c : List Int} {j : Nat} (h : c.length ≤ j) : gd c j = 0 := by
  unfold gd; rw [List.getElem?_eq_none h]; rfl
theorem SmI.of {c : List Int} (h : ∀ x ∈ c, -4611686018427387904 ≤ x ∧ x ≤ 4611686018427387904) : SmI c := fun j => by
  rcases Nat.lt_or_ge j c.length with hj | hj
  · exact h _ (gd_mem hj)
  · rw [gd_out hj]; omega
theorem mem_gd {c : List Int} {x : Int} (h : x ∈ c) : ∃ j, j < c.length ∧ gd c j = x := by
  obtain ⟨j, hj, he⟩ := List.getElem_of_mem h
  exact ⟨j, hj, by unfold gd; rw [List.getElem?_eq_getElem hj]; exact he⟩
theorem SmI.mem {c : List Int} (h : SmI c) {x : Int} (hx : x ∈ c) : -4611686018427387904 ≤ x ∧ x ≤ 4611686018427387904 := by
  obtain ⟨j, _, rfl⟩ := mem_gd hx; exact h j
theorem icells_drop (c : List Int) (k : Nat) : (icells c).drop k = icells (c.drop k) := by simp [icells]
theorem icells_append (a b : List Int) : icells (a ++ b) = icells a ++ icells b := by simp [icells]
theorem icells_take (c : List Int) (k : Nat) : (icells c).take k = icells (c.take k) := by simp [icells]
def putL : List Int → Int → List Int
  | [], l => [l]
  | x :: c, l => if vr x < vr l then x :: putL c l else l :: x :: c
theorem putL_length : ∀ (c : List Int) (l : Int), (putL c l).length = c.length + 1
  | [], _ => rfl
  | x :: c, l => by
    rw [putL]; split
    · simp [putL_length c l]
    · rfl
theorem mem_putL {x l : Int} : ∀ {c : List Int}, x ∈ putL c l ↔ x = l ∨ x ∈ c
  | [] => by simp [putL]
  | y :: c => by
    rw [putL]; split
    · simp only [List.mem_cons, mem_putL (c := c)]
      constructor
      · rintro (h | h | h) <;> simp [h]
      · rintro (h | h | h) <;> simp [h]
    · simp only [List.mem_cons]
theorem SmI.put {c : List Int} {l : Int} (h : SmI c) (hl : -4611686018427387904 ≤ l ∧ l ≤ 4611686018427387904) : SmI (putL c l) := SmI.of fun x hx => by
  rcases mem_putL.1 hx with rfl | hx
  · exact hl
  · exact h.mem hx
theorem drop_gd {c : List Int} {i : Nat} (h : i < c.length) : c.drop i = gd c i :: c.drop (i + 1) := by
  rw [List.drop_eq_getElem_cons h]; unfold gd; rw [List.getElem?_eq_getElem h]; rfl
theorem take_gd {c : List Int} {i : Nat} (h : i < c.length) : c.take (i + 1) = c.take i ++ [gd c i] := by
  rw [List.take_succ_eq_append_getElem h]; unfold gd; rw [List.getElem?_eq_getElem h]; rfl
theorem put_more {c : List Int} {l : Int} {i : Nat} (h : i < c.length) (hv : vr (gd c i) < vr l) : c.take (i + 1) ++ putL (c.drop (i + 1)) l = c.take i ++ putL (c.drop i) l := by
  rw [drop_gd h, putL, if_pos hv, take_gd h, List.append_assoc]; rfl
theorem put_stop {c : List Int} {l : Int} {i : Nat} (h : i < c.length → ¬ vr (gd c i) < vr l) : putL (c.drop i) l = l :: c.drop i := by
  rcases Nat.lt_or_ge i c.length with hi | hi
  · rw [drop_gd hi, putL, if_neg (h hi)]
  · rw [List.drop_eq_nil_of_le hi]; rfl
def joinL : List Int → List Int → Option (List Int)
  | out, [] => some out
  | out, x :: b => if -x ∈ out then none else if x ∈ out then joinL out b else joinL (putL out x) b
end Go.Av
namespace Go.Av
open Go Go.Sort
def Strict (c : List Int) : Prop := c.Pairwise fun a b => vr a < vr b
theorem strict_eq : ∀ {c d : List Int}, Strict c → Strict d → (∀ x, x ∈ c ↔ x ∈ d) → c = d
  | [], [], _, _, _ => rfl
  | [], y :: d, _, _, h => by have := (h y).2 (by simp); simp at this
  | x :: c, [], _, _, h => by have := (h x).1 (by simp); simp at this
  | x :: c, y :: d, hc, hd, h => by
    simp only [Strict, List.pairwise_cons] at hc hd
    have hxy : x = y := by
      rcases List.mem_cons.1 ((h x).1 (by simp)) with h1 | h1
      · exact h1
      · rcases List.mem_cons.1 ((h y).2 (by simp)) with h2 | h2
        · exact h2.symm
        · have := hd.1 x h1; have := hc.1 y h2; omega
    subst hxy
    congr 1
    refine strict_eq hc.2 hd.2 fun z => ?_
    have hz := h z
    simp only [List.mem_cons] at hz
    constructor
    · intro hm
      rcases hz.1 (.inr hm) with rfl | h1
      · have := hc.1 z hm; omega
      · exact h1
    · intro hm
      rcases hz.2 (.inr hm) with rfl | h1
      · have := hd.1 z hm; omega
      · exact h1
theorem strict_opp {c : List Int} (h : Strict c) {x : Int} (h0 : x ≠ 0) (h1 : x ∈ c) (h2 : -x ∈ c) : False := by
  obtain ⟨i, hi, rfl⟩ := List.getElem_of_mem h1
  obtain ⟨j, hj, he⟩ := List.getElem_of_mem h2
  have hp := List.pairwise_iff_getElem.1 h
  have hv : vr (-c[i]) = vr c[i] := by unfold vr; split <;> split <;> omega
  rcases Nat.lt_trichotomy i j with hlt | rfl | hlt
  · have := hp i j hi hj hlt; rw [he, hv] at this; omega
  · omega
  · have := hp j i hj hi hlt; rw [he, hv] at this; omega
theorem vr_same {x y : Int} (h : vr x = vr y) : x = y ∨ x = -y := by unfold vr at h; split at h <;> split at h <;> omega
theorem strict_put {l : Int} : ∀ {c : List Int}, Strict c → (∀ y ∈ c, vr y ≠ vr l) → Strict (putL c l)
  | [], _, _ => by simp [putL, Strict]
  | y :: c, hc, h => by
    simp only [Strict, List.pairwise_cons] at hc
    rw [putL]; split
    · rename_i hlt
      simp only [Strict, List.pairwise_cons]
      refine ⟨fun z hz => ?_, strict_put hc.2 fun z hz => h z (by simp [hz])⟩
      rcases mem_putL.1 hz with rfl | hz
      · exact hlt
      · exact hc.1 z hz
    · rename_i hlt
      simp only [Strict, List.pairwise_cons]
      have := h y (by simp)
      refine ⟨fun z hz => ?_, hc⟩
      rcases List.mem_cons.1 hz with rfl | hz
      · omega
      · have := hc.1 z hz; omega
theorem join_some : ∀ {b out o : List Int}, Strict out → joinL out b = some o → Strict o ∧ ∀ x, x ∈ o ↔ x ∈ out ∨ x ∈ b
  | [], out, o, hs, h => by
    simp only [joinL, Option.some.injEq] at h; subst h; exact ⟨hs, by simp⟩
  | y :: b, out, o, hs, h => by
    simp only [joinL] at h
    split at h
    · cases h
    · rename_i h1
      split at h
      · rename_i h2
        obtain ⟨g1, g2⟩ := join_some hs h
        refine ⟨g1, fun x => ?_⟩
        rw [g2 x]; simp only [List.mem_cons]
        constructor
        · rintro (h | h) <;> simp [h]
        · rintro (h | rfl | h) <;> simp [*]
      · rename_i h2
        obtain ⟨g1, g2⟩ := join_some (strict_put hs fun z hz he => by
          rcases vr_same he with rfl | rfl
          · exact h2 hz
          · exact h1 hz) h
        refine ⟨g1, fun x => ?_⟩
        rw [g2 x, mem_putL]; simp only [List.mem_cons]
        constructor
        · rintro ((h | h) | h) <;> simp [h]
        · rintro (h | h | h) <;> simp [h]
theorem join_none : ∀ {b out : List Int}, joinL out b = none → ∃ x, x ∈ out ++ b ∧ -x ∈ out ++ b
  | [], out, h => by simp [joinL] at h
  | y :: b, out, h => by
    simp only [joinL] at h
    split at h
    · rename_i h1; exact ⟨y, by simp, by simp [h1]⟩
    · split at h
      · obtain ⟨x, hx, hx'⟩ := join_none h
        refine ⟨x, ?_, ?_⟩
        · rcases List.mem_append.1 hx with h | h <;> simp [h]
        · rcases List.mem_append.1 hx' with h | h <;> simp [h]
      · obtain ⟨x, hx, hx'⟩ := join_none h
        refine ⟨x, ?_, ?_⟩
        · rcases List.mem_append.1 hx with h | h
          · rcases mem_putL.1 h with h | h <;> simp [h]
          · simp [h]
        · rcases List.mem_append.1 hx' with h | h
          · rcases mem_putL.1 h with h | h <;> simp [h]
          · simp [h]
theorem sort_facts {lt : Int → Int → Bool} (hS : SWO lt) (L : List Int) : (∀ x, x ∈ (Go.Sort.sort lt L.toArray).toList ↔ x ∈ L) ∧ SortedIn lt 0 L.length (Go.Sort.sort lt L.toArray) ∧ (Go.Sort.sort lt L.toArray).size = L.length := by
  obtain ⟨⟨h1, _, h3⟩, h4⟩ := pdq_rec (l := bitsLen L.toArray.size) (wb := true) (wp := true) hS (a := 0) (b := L.toArray.size) (d := L.toArray) (Nat.zero_le _) (Nat.le_refl _) (Or.inl rfl)
  have hsz : (Go.Sort.sort lt L.toArray).size = L.length := by unfold Go.Sort.sort; rw [h1]; simp
  refine ⟨fun x => ?_, ?_, hsz⟩
  · have e1 : (Go.Sort.sort lt L.toArray).extract 0 L.toArray.size = Go.Sort.sort lt L.toArray := by
      rw [show L.toArray.size = (Go.Sort.sort lt L.toArray).size by rw [hsz]; simp]; simp
    have := h3.mem_iff (a := x)
    change x ∈ ((Go.Sort.sort lt L.toArray).extract 0 L.toArray.size).toList ↔ _ at this
    rw [e1] at this
    rw [this]; simp
  · simpa [Go.Sort.sort] using h4
theorem dedN_mem {d : Array Int} {x : Int} : ∀ {i : Nat}, x ∈ dedN d i ↔ ∃ j, j < i ∧ d[j]! = x
  | 0 => by simp [dedN]
  | i + 1 => by
    rw [dedN]; split
    · rename_i h
      rw [dedN_mem (i := i)]
      constructor
      · rintro ⟨j, h1, h2⟩; exact ⟨j, by omega, h2⟩
      · rintro ⟨j, h1, h2⟩
        by_cases hj : j = i
        · subst hj; exact ⟨j - 1, by omega, by rw [← h.2, h2]⟩
        · exact ⟨j, by omega, h2⟩
    · rw [List.mem_append, dedN_mem (i := i), List.mem_singleton]
      constructor
      · rintro (⟨j, h1, h2⟩ | h)
        · exact ⟨j, by omega, h2⟩
        · exact ⟨i, by omega, h.symm⟩
      · rintro ⟨j, h1, h2⟩
        by_cases hj : j = i
        · subst hj; exact .inr h2.symm
        · exact .inl ⟨j, by omega, h2⟩
theorem dedN_strict {lt : Int → Int → Bool} (hS : SWO lt) (ht : ∀ x y, lt x y = false → lt y x = false → x = y) {d : Array Int} {n : Nat} (hs : SortedIn lt 0 n d) : ∀ {i : Nat}, i ≤ n → (dedN d i).Pairwise fun a b => lt a b = true
  | 0, _ => by simp [dedN]
  | i + 1, hi => by
    rw [dedN]; split
    · exact dedN_strict hS ht hs (by omega)
    · rename_i h
      refine List.pairwise_append.2 ⟨dedN_strict hS ht hs (by omega), by simp, fun a ha b hb => ?_⟩
      rw [List.mem_singleton] at hb; subst hb
      obtain ⟨j, hj, rfl⟩ := dedN_mem.1 ha
      cases hc : lt d[j]! d[i]! with
      | true => rfl
      | false =>
        exfalso
        have e := ht _ _ hc (hs j i (by omega) hj (by omega))
        refine h ⟨by omega, ?_⟩
        by_cases hj1 : j = i - 1
        · rw [← hj1]; exact e.symm
        · refine ht _ _ (hs (i - 1) i (by omega) (by omega) (by omega)) ?_
          rw [← e]; exact hs j (i - 1) (by omega) (by omega) (by omega)
theorem cf2_total {f g : Int → Int} (hg : ∀ x y, g x = g y → x = y) {x y : Int} (h1 : ltc (cf2 f g) x y = false) (h2 : ltc (cf2 f g) y x = false) : x = y := by
  rw [cf2_lt, decide_eq_false_iff_not] at h1 h2
  exact hg _ _ (by omega)
theorem absA_of {x : Int} (h : -4611686018427387904 ≤ x ∧ x ≤ 4611686018427387904) : absA x = vr x := by
  unfold absA vr
  rw [IntWalk.i64_in _ (by omega)]; split <;> omega
theorem dsrt_mem {L : List Int} {x : Int} : x ∈ dsrt L ↔ x ∈ L := by
  obtain ⟨h1, _, h3⟩ := sort_facts cfLit_swo L
  rw [← h1 x]; unfold dsrt
  rw [dedN_mem]
  constructor
  · rintro ⟨j, hj, rfl⟩
    rw [getElem!_pos _ j (by omega)]; exact Array.getElem_mem_toList _
  · intro hx
    obtain ⟨j, hj, he⟩ := List.getElem_of_mem hx
    have hj' : j < (Go.Sort.sort (ltc cfLit) L.toArray).size := by simpa using hj
    exact ⟨j, by omega, by rw [getElem!_pos _ j hj']; simpa using he⟩
theorem dsrt_lt (L : List Int) : (dsrt L).Pairwise fun a b => ltc cfLit a b = true :=
  dedN_strict cfLit_swo (fun x y => cf2_total (fun a b h => by simp at h; omega)) (sort_facts cfLit_swo L).2.1 (Nat.le_refl _)
theorem dsrt_strict {L : List Int} (hs : SmI L) (h : ∀ i, 1 ≤ i → i < (dsrt L).length → oppB (dsrt L) i = false) : Strict (dsrt L) := by
  have hp := List.pairwise_iff_getElem.1 (dsrt_lt L)
  have hsm : ∀ x ∈ dsrt L, absA x = vr x := fun x hx => absA_of (hs.mem (dsrt_mem.1 hx))
  have step : ∀ i (h1 : i + 1 < (dsrt L).length), vr ((dsrt L)[i]'(by omega)) < vr (dsrt L)[i + 1] := fun i h1 => by
    have h2 := hp i (i + 1) (by omega) h1 (by omega)
    have ho := h (i + 1) (by omega) h1
    unfold cfLit at h2
    rw [cf2_lt, decide_eq_true_iff, hsm _ (List.getElem_mem _), hsm _ (List.getElem_mem _)] at h2
    rcases h2 with h2 | ⟨h2, h3⟩
    · exact h2
    · exfalso
      unfold oppB at ho
      rw [decide_eq_false_iff_not] at ho
      apply ho
      have e1 : gd (dsrt L) (i + 1) = (dsrt L)[i + 1] := by unfold gd; rw [List.getElem?_eq_getElem h1]; rfl
      have e2 : gd (dsrt L) (i + 1 - 1) = (dsrt L)[i]'(by omega) := by unfold gd; rw [show i + 1 - 1 = i by omega, List.getElem?_eq_getElem (by omega)]; rfl
      have hb := hs.mem (dsrt_mem.1 (List.getElem_mem (l := dsrt L) (n := i) (by omega)))
      rw [e1, e2, IntWalk.i64_in _ (by omega)]
      rcases vr_same h2 with h4 | h4 <;> omega
  refine List.pairwise_iff_getElem.2 fun i j hi hj hij => ?_
  obtain ⟨k, rfl⟩ : ∃ k, j = i + 1 + k := ⟨j - (i + 1), by omega⟩
  clear hij
  induction k with
  | zero => exact step i hj
  | succ k ih =>
    have h1 := ih (by omega)
    have h2 := step (i + 1 + k) hj
    have : i + 1 + (k + 1) = i + 1 + k + 1 := by omega
    simp only [this]
    omega
theorem clR_join {out b : List Int} (hs : SmI (out ++ b)) (h0 : ∀ x ∈ out ++ b, x ≠ 0) (ho : Strict out) : clR (out ++ b) = joinL out b := by
  by_cases hz : ∃ i, 1 ≤ i ∧ i < (dsrt (out ++ b)).length ∧ oppB (dsrt (out ++ b)) i = true
  · obtain ⟨i, h1, h2, h3⟩ := hz
    rw [clR_none h2 h1 h3]
    cases hj : joinL out b with
    | none => rfl
    | some o =>
      exfalso
      obtain ⟨g1, g2⟩ := join_some ho hj
      have m1 : gd (dsrt (out ++ b)) i ∈ out ++ b := dsrt_mem.1 (gd_mem h2)
      have m2 : gd (dsrt (out ++ b)) (i - 1) ∈ out ++ b := dsrt_mem.1 (gd_mem (by omega))
      unfold oppB at h3
      rw [decide_eq_true_iff] at h3
      have hb := hs.mem m2
      rw [IntWalk.i64_in _ (by omega)] at h3
      rw [h3] at m1
      exact strict_opp g1 (h0 _ m2) ((g2 _).2 (List.mem_append.1 m2)) ((g2 _).2 (List.mem_append.1 m1))
  · have hno : ∀ i, 1 ≤ i → i < (dsrt (out ++ b)).length → oppB (dsrt (out ++ b)) i = false := fun i h1 h2 => by
      cases hc : oppB (dsrt (out ++ b)) i with
      | false => rfl
      | true => exact absurd ⟨i, h1, h2, hc⟩ hz
    have hst := dsrt_strict hs hno
    rw [clR_some hno]
    cases hj : joinL out b with
    | none =>
      exfalso
      obtain ⟨x, hx, hx'⟩ := join_none hj
      exact strict_opp hst (h0 x hx) (dsrt_mem.2 hx) (dsrt_mem.2 hx')
    | some o =>
      obtain ⟨g1, g2⟩ := join_some ho hj
      congr 1
      exact strict_eq hst g1 fun x => by rw [dsrt_mem, g2 x, List.mem_append]
theorem clB_strict {vars : Int} {c : List Int} (h : clB vars c = true) : Strict c := by
  obtain ⟨_, h2⟩ := clB_spec h
  have step : ∀ i (h1 : i + 1 < c.length), vr (c[i]'(by omega)) < vr c[i + 1] := fun i h1 => by
    have := h2 (i + 1) h1
    simp only [okC, Bool.and_eq_true, Bool.or_eq_true, decide_eq_true_eq] at this
    have e1 : gd c (i + 1) = c[i + 1] := by unfold gd; rw [List.getElem?_eq_getElem h1]; rfl
    have e2 : gd c (i + 1 - 1) = c[i]'(by omega) := by unfold gd; rw [show i + 1 - 1 = i by omega, List.getElem?_eq_getElem (by omega)]; rfl
    rw [e1, e2] at this
    rcases this.2 with h | h
    · omega
    · exact h
  refine List.pairwise_iff_getElem.2 fun i j hi hj hij => ?_
  obtain ⟨k, rfl⟩ : ∃ k, j = i + 1 + k := ⟨j - (i + 1), by omega⟩
  clear hij
  induction k with
  | zero => exact step i hj
  | succ k ih =>
    have h1 := ih (by omega)
    have h2 := step (i + 1 + k) hj
    have : i + 1 + (k + 1) = i + 1 + k + 1 := by omega
    simp only [this]
    omega
theorem clB_mem {vars : Int} {c : List Int} (h : clB vars c = true) {x : Int} (hx : x ∈ c) : litB vars x = true ∧ -12 ≤ x ∧ x ≤ 12 ∧ x ≠ 0 := by
  obtain ⟨j, hj, rfl⟩ := mem_gd hx
  have h1 := clB_lit h hj
  have h2 := (clB_spec h).1
  have h3 := litB_spec.1 h1
  exact ⟨h1, by omega, by omega, h3.2⟩
theorem clB_sm {vars : Int} {c : List Int} (h : clB vars c = true) : SmI c := SmI.of fun x hx => by have := clB_mem h hx; omega
theorem clB_len {vars : Int} {c : List Int} (h : clB vars c = true) : c.length ≤ 12 := by
  have hs := clB_strict h
  have hp := List.pairwise_iff_getElem.1 hs
  have key : ∀ i (hi : i < c.length), (i : Int) + 1 ≤ vr c[i] := by
    intro i
    induction i with
    | zero => intro hi; have := (clB_mem h (List.getElem_mem hi)).2.2.2; unfold vr; split <;> omega
    | succ i ih => intro hi; have h1 := ih (by omega); have h2 := hp i (i + 1) (by omega) hi (by omega); omega
  rcases Nat.lt_or_ge 12 c.length with hlt | hge
  · have h1 := key 12 hlt
    have h2 := clB_mem h (List.getElem_mem hlt)
    unfold vr at h1; split at h1 <;> omega
  · exact hge
end Go.Av
namespace Go.Av
open Go
def updL (σ : Sig) : List (Nat × AV) → Sig
  | [] => σ
  | (d, x) :: us => updL (upd σ d x) us
abbrev slotsU (us : List (Nat × AV)) : List Nat := us.map (·.1)
theorem updL_not {i : Nat} : ∀ {us : List (Nat × AV)} {σ : Sig}, i ∉ slotsU us → updL σ us i = σ i
  | [], _, _ => rfl
  | (d, x) :: us, σ, h => by
    simp only [slotsU, List.map_cons, List.mem_cons, not_or] at h
    rw [updL, updL_not (us := us) h.2, upd_other _ _ h.1]
theorem updL_congr {i : Nat} : ∀ {us : List (Nat × AV)} {σ σ' : Sig}, σ i = σ' i → updL σ us i = updL σ' us i
  | [], _, _, h => h
  | (d, x) :: us, σ, σ', h => by
    simp only [updL]
    refine updL_congr ?_
    simp only [upd]; split
    · rfl
    · exact h
theorem updL_in {i : Nat} : ∀ {us : List (Nat × AV)} {σ σ' : Sig}, i ∈ slotsU us → updL σ us i = updL σ' us i
  | [], _, _, h => by simp at h
  | (d, x) :: us, σ, σ', h => by
    simp only [updL]
    by_cases hi : i = d
    · exact updL_congr (by simp [upd, hi])
    · exact updL_in (by simp only [slotsU, List.map_cons, List.mem_cons] at h; exact h.resolve_left hi)
theorem updL_cases {i : Nat} : ∀ {us : List (Nat × AV)} {σ : Sig}, updL σ us i = σ i ∨ ∃ x, (i, x) ∈ us ∧ updL σ us i = x
  | [], _ => .inl rfl
  | (d, x) :: us, σ => by
    simp only [updL]
    rcases updL_cases (i := i) (us := us) (σ := upd σ d x) with h | ⟨y, h1, h2⟩
    · by_cases hi : i = d
      · subst hi; exact .inr ⟨x, by simp, by rw [h, upd_same]⟩
      · exact .inl (by rw [h, upd_other _ _ hi])
    · exact .inr ⟨y, by simp [h1], h2⟩
def YldX (P : Program) (N : Nat) (ops : Array Oper) (o : Oper) (σ0 : Sig) (D : List Nat) (us : List (Nat × AV)) (ds : List Nat) : Prop :=
  ∀ σ : Sig, (∀ i ∈ D, σ i = σ0 i) → ∀ (gv : Nat → Value) (e : Ctx) (a : Act) (w : World), All N gv e σ a w → ∀ (K : Act → World → Prop) (Q : Exit → Act → World → Prop),
    (∀ a' w', All N gv e (updL (fun i => purgeD ds (σ i)) us) a' w' → K a' w') → if Region.wanted o (yielded ops a.tmps) then o.wp P a w K Q else K (a.put o.dst undef) w
section mixing
def mixX (σ : Sig) : List (List (Nat × AV)) → (Nat → Bool) → Sig
  | [], _ => σ
  | us :: st, L => mixX (if L 0 then updL σ us else σ) st (fun k => L (k + 1))
theorem mixX_none : ∀ (st : List (List (Nat × AV))) (σ : Sig) (L : Nat → Bool), (∀ k, L k = false) → mixX σ st L = σ
  | [], _, _, _ => rfl
  | us :: st, σ, L, h => by
    simp only [mixX, h 0, Bool.false_eq_true, if_false]
    exact mixX_none st σ _ (fun k => h (k + 1))
theorem mixX_agree {i : Nat} : ∀ (st : List (List (Nat × AV))) (σ σ' : Sig) (L L' : Nat → Bool), σ i = σ' i → (∀ k us, st[k]? = some us → i ∈ slotsU us → L k = L' k) → mixX σ st L i = mixX σ' st L' i
  | [], _, _, _, _, h0, _ => h0
  | us :: st, σ, σ', L, L', h0, h => by
    simp only [mixX]
    refine mixX_agree st _ _ _ _ ?_ (fun k vs hk hd => h (k + 1) vs (by simpa using hk) hd)
    by_cases hi : i ∈ slotsU us
    · have := h 0 us rfl hi
      rw [this]
      cases L' 0
      · simpa using h0
      · simpa using updL_in hi
    · cases L 0 <;> cases L' 0 <;> simp [updL_not hi, h0]
theorem mixX_last {i : Nat} {us : List (Nat × AV)} {τ : Sig} : ∀ (st : List (List (Nat × AV))) (σ : Sig) (L : Nat → Bool) (j : Nat), st[j]? = some us → L j = true → i ∈ slotsU us →
    (∀ k vs, j < k → st[k]? = some vs → i ∈ slotsU vs → L k = false) → mixX σ st L i = updL τ us i
  | [], _, _, _, h, _, _, _ => by simp at h
  | vs :: st, σ, L, 0, h, hj, hi, hL => by
    simp at h; subst h
    simp only [mixX, hj, if_true]
    rw [mixX_agree st _ (updL σ vs) _ (fun _ => false) rfl (fun k ws hk hm => hL (k + 1) ws (by omega) (by simpa using hk) hm), mixX_none _ _ _ (fun _ => rfl)]
    exact updL_in hi
  | vs :: st, σ, L, j + 1, h, hj, hi, hL => by
    simp only [List.getElem?_cons_succ] at h
    simp only [mixX]
    exact mixX_last st _ (fun k => L (k + 1)) j h hj hi (fun k ws hk hw hm => hL (k + 1) ws (by omega) (by simpa using hw) hm)
theorem mixX_set {us : List (Nat × AV)} (st : List (List (Nat × AV))) (σ : Sig) (L : Nat → Bool) (j : Nat) (h : st[j]? = some us) (hL : ∀ k vs, j < k → st[k]? = some vs → (∃ s, s ∈ slotsU us ∧ s ∈ slotsU vs) → L k = false) :
    mixX σ st (fun k => k == j || L k) = updL (mixX σ st L) us := by
  funext i
  by_cases hi : i ∈ slotsU us
  · refine mixX_last st σ _ j h (by simp) hi (fun k vs hk hv hm => ?_)
    rw [hL k vs hk hv ⟨i, hi, hm⟩]
    simp; omega
  · rw [updL_not hi]
    refine mixX_agree st _ _ _ _ rfl (fun k vs hk hm => ?_)
    have : ¬ k = j := fun he => by subst he; rw [h] at hk; cases hk; exact hi hm
    have hb : (k == j) = false := by simp [this]
    rw [hb, Bool.false_or]
theorem mixX_cases {i : Nat} : ∀ (st : List (List (Nat × AV))) (σ : Sig) (L : Nat → Bool), mixX σ st L i = σ i ∨ ∃ k us x, L k = true ∧ st[k]? = some us ∧ (i, x) ∈ us ∧ mixX σ st L i = x
  | [], _, _ => .inl rfl
  | us :: st, σ, L => by
    simp only [mixX]
    rcases mixX_cases st (if L 0 then updL σ us else σ) (fun k => L (k + 1)) (i := i) with h | ⟨k, vs, y, h1, h2, h3, h4⟩
    · rw [h]
      cases h0 : L 0 with
      | false => simp
      | true =>
        simp only [if_true]
        rcases updL_cases (i := i) (us := us) (σ := σ) with h5 | ⟨x, h5, h6⟩
        · exact .inl h5
        · exact .inr ⟨0, us, x, h0, by simp, h5, h6⟩
    · exact .inr ⟨k + 1, vs, y, h1, by simpa using h2, h3, h4⟩
end mixing
abbrev EffsX := List (List (Nat × Bool))
def effX (efs : EffsX) (k : Nat) : List (Nat × Bool) := efs.getD k []
def slotsX (efs : EffsX) (k : Nat) : List Nat := (effX efs k).map (·.1)
def pursX (efs : EffsX) (k : Nat) : List Nat := ((effX efs k).filter (·.2)).map (·.1)
def effOkX (l : List Oper) (efs : EffsX) : Bool := (List.range l.length).all fun k => (List.range k).all fun j => !((slotsX efs j).any fun s => (slotsX efs k).contains s) || ((masks l []).getD k 0).testBit j
def readOkX (l : List Oper) (efs : EffsX) (j s : Nat) : Bool := (List.range l.length).all fun k => !((slotsX efs k).contains s) || k == j || ((masks l []).getD j 0).testBit k || ((masks l []).getD k 0).testBit j
def rootOkX (l : List Oper) (efs : EffsX) (j s : Nat) : Bool := (List.range l.length).all fun k => !((pursX efs k).contains s) || ((masks l []).getD j 0).testBit k
def opOkX (l : List Oper) (efs : EffsX) (j : Nat) (D R : List Nat) : Bool := D.all (readOkX l efs j) && R.all (rootOkX l efs j)
def rootsU (us : List (Nat × AV)) : List Nat := us.flatMap fun p => roots p.2
def FreshV (n0 : Nat) (v : Value) : Prop := ∀ b o sp n c, v = .slice (some ⟨b, o, sp⟩) n c → c ≠ 0 → n0 ≤ b
theorem getD_set_self {a : Array Bool} {j : Nat} (h : j < a.size) : (a.setIfInBounds j true).getD j false = true := by simp [h]
def YldF (P : Program) (N t jf ja k : Nat) (ops : Array Oper) (o : Oper) (σ0 : Sig) (D : List Nat) (us : List (Nat × AV)) (ds : List Nat) : Prop :=
  ∀ σ : Sig, (∀ i ∈ D, σ i = σ0 i) → ∀ (gv : Nat → Value) (e : Ctx) (a : Act) (w : World), All N gv e σ a w → (k = ja → FreshV e.w0.heap.size (valOf N gv a t)) → ∀ (K : Act → World → Prop) (Q : Exit → Act → World → Prop),
    (∀ a' w', All N gv e (updL (fun i => purgeD ds (σ i)) us) a' w' → (k = jf → FreshV e.w0.heap.size (valOf N gv a' t)) → (k ≠ jf → k ≠ ja → valOf N gv a' t = valOf N gv a t) → K a' w') →
    if Region.wanted o (yielded ops a.tmps) then o.wp P a w K Q else K (a.put o.dst undef) w
def AQf (P : Program) (N t jf ja : Nat) (ops : Array Oper) (l : List Oper) (efs : EffsX) : List Oper → Nat → Sig → (Sig → Prop) → Prop
  | [], _, σ, K => K σ
  | o :: r, j, σ, K => ∃ us D, slotsU us = slotsX efs j ∧ YldF P N t jf ja j ops o σ D us (pursX efs j) ∧ opOkX l efs j D (rootsU us) = true ∧ AQf P N t jf ja ops l efs r (j + 1) (updL σ us) K
section
variable {P : Program} {N : Nat} {l : List Oper} {efs : EffsX}
theorem effOkX_spec (h : effOkX l efs = true) {j k s : Nat} (hk : k < l.length) (hj : j < k) (h1 : s ∈ slotsX efs j) (h2 : s ∈ slotsX efs k) : ((masks l []).getD k 0).testBit j = true := by
  unfold effOkX at h
  rw [List.all_eq_true] at h
  have := h k (by simpa using hk)
  rw [List.all_eq_true] at this
  have := this j (by simpa using hj)
  rw [Bool.or_eq_true] at this
  rcases this with h0 | h0
  · exfalso
    rw [Bool.not_eq_true', List.any_eq_false] at h0
    exact h0 s h1 (List.contains_iff_mem.2 h2)
  · exact h0
theorem readOkX_spec {j s k : Nat} (h : readOkX l efs j s = true) (hk : k < l.length) (he : s ∈ slotsX efs k) : k = j ∨ ((masks l []).getD j 0).testBit k = true ∨ ((masks l []).getD k 0).testBit j = true := by
  unfold readOkX at h
  rw [List.all_eq_true] at h
  have := h k (by simpa using hk)
  simp only [List.contains_iff_mem.2 he, Bool.not_true, Bool.false_or, Bool.or_eq_true, beq_iff_eq] at this
  rcases this with (h | h) | h
  · exact .inl h
  · exact .inr (.inl h)
  · exact .inr (.inr h)
theorem rootOkX_spec {j s k : Nat} (h : rootOkX l efs j s = true) (hk : k < l.length) (he : s ∈ pursX efs k) : ((masks l []).getD j 0).testBit k = true := by
  unfold rootOkX at h
  rw [List.all_eq_true] at h
  have := h k (by simpa using hk)
  simpa only [List.contains_iff_mem.2 he, Bool.not_true, Bool.false_or] using this
end
section
variable {P : Program} {N : Nat} {ops : Array Oper} {l l2 : List Oper} {efs : EffsX} {t jf ja : Nat}
theorem AQf.steps {K : Sig → Prop} : ∀ (r : List Oper) (j : Nat) (σ : Sig), AQf P N t jf ja ops l efs r j σ K →
    ∃ st : List (List (Nat × AV)), st.length = r.length ∧ (∀ k o, r[k]? = some o → ∃ us D, st[k]? = some us ∧ slotsU us = slotsX efs (j + k) ∧ YldF P N t jf ja (j + k) ops o (mixX σ st (fun i => decide (i < k))) D us (pursX efs (j + k)) ∧ opOkX l efs (j + k) D (rootsU us) = true) ∧
      K (mixX σ st fun _ => true)
  | [], j, σ, h => ⟨[], rfl, fun k o h => by simp at h, h⟩
  | o :: r, j, σ, h => by
    obtain ⟨us, D, he, hy, hok, h⟩ := h
    obtain ⟨st, hl, hst, hK⟩ := AQf.steps r (j + 1) (updL σ us) h
    refine ⟨us :: st, by simp [hl], fun k o' ho' => ?_, by simpa [mixX] using hK⟩
    cases k with
    | zero =>
      simp at ho'; subst ho'
      refine ⟨us, D, rfl, he, ?_, hok⟩
      rw [mixX_none _ _ _ (fun k => by simp)]; exact hy
    | succ k =>
      obtain ⟨us', D', h1, h2, h3, h4⟩ := hst k o' (by simpa using ho')
      refine ⟨us', D', by simpa using h1, by rw [show j + (k + 1) = j + 1 + k by omega]; exact h2, ?_, by rw [show j + (k + 1) = j + 1 + k by omega]; exact h4⟩
      have : mixX σ (us :: st) (fun i => decide (i < k + 1)) = mixX (updL σ us) st (fun i => decide (i < k)) := by simp [mixX]
      rw [this, show j + (k + 1) = j + 1 + k by omega]; exact h3
theorem any_coreF {gv : Nat → Value} {e : Ctx} {σ : Sig} {st : List (List (Nat × AV))} {Q : Exit → Act → World → Prop} (hB : backward (l ++ l2) 0 = true) (hT : tailOk (l ++ l2) l.length = true) (hE : effOkX l efs = true) (hja : ja < l.length → ((masks l []).getD ja 0).testBit jf = true) (hlen : st.length = l.length)
    (hσ : ∀ i, ∀ q ∈ refs (σ i), ∀ k, k < l.length → q.1 ∉ pursX efs k)
    (hst : ∀ k o, l[k]? = some o → ∃ us D, st[k]? = some us ∧ slotsU us = slotsX efs k ∧ YldF P N t jf ja k (l ++ l2).toArray o (mixX σ st (fun i => decide (i < k))) D us (pursX efs k) ∧ opOkX l efs k D (rootsU us) = true)
    (hQ : ∀ a w, All N gv e (mixX σ st fun _ => true) a w → wpList P (l ++ l2).toArray Q l2 a w) :
    ∀ (fuel : Nat) (listed : Array Bool) (a : Act) (w : World), listed.size = (l ++ l2).length → fuel + listed.toList.count true = (l ++ l2).length → Closed (l ++ l2) (fun k => listed.getD k false) → (∀ k, l.length ≤ k → listed.getD k false = false) →
      All N gv e (mixX σ st fun k => listed.getD k false) a w → (listed.getD jf false = true → listed.getD ja false = false → FreshV e.w0.heap.size (valOf N gv a t)) → wpAny P .any (l ++ l2).toArray Q fuel listed a w := by
  have hback := backward_spec hB
  have hgetl : ∀ {k : Nat} {o : Oper}, l[k]? = some o → (l ++ l2)[k]? = some o := fun {k o} hk => by
    have hlt : k < l.length := by
      rcases Nat.lt_or_ge k l.length with h | h
      · exact h
      · rw [List.getElem?_eq_none h] at hk; cases hk
    rw [List.getElem?_append_left hlt]; exact hk
  have hlex : ∀ j, Closed l (fun i => decide (i < j)) := fun j i o ho hi k hk => by
    have := hback i o (hgetl ho) k hk
    simp only [decide_eq_true_eq] at hi ⊢
    omega
  have hlt_of : ∀ {k : Nat} {p : List (Nat × AV)}, st[k]? = some p → k < l.length := fun {k p} hk => by
    rcases Nat.lt_or_ge k st.length with h | h
    · omega
    · rw [List.getElem?_eq_none h] at hk; cases hk
  intro fuel
  induction fuel with
  | zero =>
    intro listed a w hsz hc hcl hno ha hfr
    have hall : ∀ k, k < listed.size → listed.getD k false = true := fun k hk => by
      have h0 : listed.toList.count true = listed.toList.length := by simp at hc hsz ⊢; omega
      rw [List.count_eq_length] at h0
      have := h0 listed[k] (Array.getElem_mem_toList hk)
      simp [hk, ← this]
    have hl2 : l2 = [] := by
      cases hl2 : l2 with
      | nil => rfl
      | cons o r =>
        have h1 := hno l.length (Nat.le_refl _)
        rw [hall l.length (by rw [hsz, hl2]; simp)] at h1
        cases h1
    have hmix : mixX σ st (fun k => listed.getD k false) = mixX σ st fun _ => true := by
      funext i
      refine mixX_agree st _ _ _ _ rfl fun k us hk _ => hall k ?_
      rcases Nat.lt_or_ge k st.length with h | h
      · rw [hsz]; simp; omega
      · rw [List.getElem?_eq_none h] at hk; cases hk
    rw [hmix] at ha
    have := hQ _ _ ha
    rw [hl2] at this
    refine ⟨?_, this⟩
    rw [List.eq_nil_iff_forall_not_mem]
    intro j hj
    obtain ⟨h0, o, ho, _⟩ := mem_ready.1 hj
    have hlt : j < listed.size := by
      have := (Array.getElem?_eq_some_iff.1 ho).1
      rw [hsz]; simpa using this
    have := hall j hlt
    simp [hlt] at h0 this
    rw [h0] at this; cases this
  | succ fuel ih =>
    intro listed a w hsz hc hcl hno ha hfr
    by_cases hfull : ∀ k, k < l.length → listed.getD k false = true
    · -- the tail
      have hmix : mixX σ st (fun k => listed.getD k false) = mixX σ st fun _ => true := by
        funext i
        refine mixX_agree st _ _ _ _ rfl fun k us hk _ => hfull k ?_
        rcases Nat.lt_or_ge k st.length with h | h
        · omega
        · rw [List.getElem?_eq_none h] at hk; cases hk
      rw [hmix] at ha
      have hp : ∀ k, k < (l ++ l2).length → listed.getD k false = decide (k < l.length) := fun k _ => by
        by_cases hk : k < l.length
        · rw [hfull k hk]; simp [hk]
        · rw [hno k (by omega)]; simp [hk]
      have hcnt : listed.toList.count true = l.length := by
        have : listed.toList = List.replicate l.length true ++ List.replicate l2.length false := by
          refine List.ext_getElem? fun k => ?_
          by_cases hk : k < listed.size
          · have h1 := hp k (by omega)
            simp only [Array.getElem?_toList, Array.getElem?_eq_getElem hk]
            simp [hk] at h1
            rw [h1]
            by_cases hkl : k < l.length
            · rw [List.getElem?_append_left (by simpa using hkl)]; simp [hkl]
            · rw [List.getElem?_append_right (by simpa using hkl)]
              rw [hsz] at hk; simp at hk
              have h2 : k - l.length < l2.length := by omega
              simp [hkl, h2]
          · rw [List.getElem?_eq_none (by simpa using hk), List.getElem?_eq_none (by rw [hsz] at hk; simp at hk ⊢; omega)]
        rw [this]; simp [List.count_replicate]
      have := tail_run (P := P) (Q := Q) hB hT l2 l.length listed a w (Nat.le_refl _) (by simp) hsz hp (by simp) (hQ _ _ ha)
      rwa [show (l ++ l2).length - l.length = fuel + 1 by omega] at this
    have hex : ∃ k, k < l.length ∧ listed.getD k false = false := by
      simp only [Classical.not_forall] at hfull
      obtain ⟨k, hk, hb⟩ := hfull
      exact ⟨k, hk, by simpa using hb⟩
    refine ⟨fun hr => ?_, fun j hj => ?_⟩
    · exfalso
      obtain ⟨k, hk⟩ := hex
      obtain ⟨m, ⟨hm1, hm2⟩, hmin⟩ := has_least (p := fun k => k < l.length ∧ listed.getD k false = false) k hk
      have hms : m < listed.size := by rw [hsz]; simp; omega
      have hgm : (l ++ l2)[m]? = some l[m] := hgetl (List.getElem?_eq_getElem hm1)
      have : m ∈ Region.ready .any (l ++ l2).toArray listed := by
        refine mem_ready.2 ⟨by simp [hms] at hm2 ⊢; exact hm2, l[m], by rw [List.getElem?_toArray]; exact hgm, fun ed hed hb => ?_⟩
        have h1 := hback m l[m] hgm ed.on (mem_aftersOf.2 ⟨ed, hed, hb, rfl⟩)
        cases hv : listed.getD ed.on false with
        | true => rfl
        | false => have := hmin ed.on ⟨by omega, hv⟩; omega
      rw [hr] at this; cases this
    · obtain ⟨hjun, o, ho, hall⟩ := mem_ready.1 hj
      have ho'' : (l ++ l2)[j]? = some o := by simpa using ho
      have hjf : j < (l ++ l2).length := by
        rcases Nat.lt_or_ge j (l ++ l2).length with h | h
        · exact h
        · rw [List.getElem?_eq_none h] at ho''; cases ho''
      have hal : ∀ k ∈ aftersOf o, listed.getD k false = true := fun k hk => by
        obtain ⟨ed, hed, hb, rfl⟩ := mem_aftersOf.1 hk
        exact hall ed hed hb
      have hjl : j < l.length := by
        rcases Nat.lt_or_ge j l.length with h | h
        · exact h
        · obtain ⟨k, hk1, hk2⟩ := hex
          have := Yld.mask hcl ho'' hal (tailOk_spec hT h hjf (show k < j by omega))
          rw [hk2] at this; cases this
      have ho' : l[j]? = some o := by rw [List.getElem?_append_left hjl] at ho''; exact ho''
      obtain ⟨us, D, h1, h2, h4, h5⟩ := hst j o ho'
      have hal' : ∀ k ∈ aftersOf o, decide (k < j) = true := fun k hk => by have := hback j o ho'' k hk; simp; omega
      have hcll := closed_left hcl
      have hjs : j < listed.size := by omega
      have hjff : listed.getD j false = false := by simp [hjs] at hjun ⊢; exact hjun
      simp only [opOkX, Bool.and_eq_true, List.all_eq_true] at h5
      have behind : ∀ k, k < l.length → ((masks l []).getD k 0).testBit j = true → listed.getD k false = false ∧ j < k := fun k hk hb => by
        have hok : l[k]? = some l[k] := List.getElem?_eq_getElem hk
        refine ⟨?_, ?_⟩
        · cases hv : listed.getD k false with
          | false => rfl
          | true =>
            have := Yld.mask hcll hok (fun k' hk' => hcll k _ hok hv k' hk') hb
            rw [hjff] at this; cases this
        · have := Yld.mask (hlex k) hok (fun k' hk' => by have := hback k _ (hgetl hok) k' hk'; simp; omega) hb
          simpa using this
      have before : ∀ k, ((masks l []).getD j 0).testBit k = true → listed.getD k false = true ∧ decide (k < j) = true := fun k hb => ⟨Yld.mask hcll ho' hal hb, Yld.mask (hlex j) ho' hal' hb⟩
      have eff_of : ∀ {k : Nat} {vs : List (Nat × AV)}, st[k]? = some vs → slotsU vs = slotsX efs k := fun {k vs} hk => by
        have hkl := hlt_of hk
        obtain ⟨us', D', g1, g2, _⟩ := hst k l[k] (List.getElem?_eq_getElem hkl)
        rw [hk] at g1; cases g1
        exact g2
      have hdep : ∀ s ∈ D, ∀ k vs, st[k]? = some vs → s ∈ slotsU vs → listed.getD k false = decide (k < j) := fun s hs k vs hk hm => by
        rcases readOkX_spec (h5.1 s hs) (hlt_of hk) (by rw [← eff_of hk]; exact hm) with h | h | h
        · subst h; rw [hjff]; simp
        · obtain ⟨e1, e2⟩ := before k h; rw [e1, e2]
        · obtain ⟨e1, e2⟩ := behind k (hlt_of hk) h
          rw [e1]; simp; omega
      have hpur : ∀ i, purgeD (pursX efs j) (mixX σ st (fun k => listed.getD k false) i) = mixX σ st (fun k => listed.getD k false) i := fun i => by
        rw [purgeD_eq, if_neg]
        intro hany
        rw [List.any_eq_true] at hany
        obtain ⟨q, hq, hqd⟩ := hany
        rw [List.contains_iff_mem] at hqd
        rcases mixX_cases st σ (fun k => listed.getD k false) (i := i) with hm | ⟨k, vs, y, hk1, hk2, hk3, hk4⟩
        · rw [hm] at hq
          exact hσ i q hq j hjl hqd
        · rw [hk4] at hq
          have hkl := hlt_of hk2
          have hok : l[k]? = some l[k] := List.getElem?_eq_getElem hkl
          obtain ⟨us', D', g1, g2, _, g5⟩ := hst k l[k] hok
          rw [hk2] at g1; cases g1
          simp only [opOkX, Bool.and_eq_true, List.all_eq_true] at g5
          have hb := rootOkX_spec (g5.2 q.1 (List.mem_flatMap.2 ⟨_, hk3, List.mem_map.2 ⟨q, hq, rfl⟩⟩)) hjl hqd
          have := Yld.mask hcll hok (fun k' hk' => hcll k _ hok hk1 k' hk') hb
          rw [hjff] at this; cases this
      have hstep := h4 (mixX σ st fun k => listed.getD k false) (fun s hs => mixX_agree st _ _ _ _ rfl fun k vs hk hm => hdep s hs k vs hk hm) gv e a w ha (fun hk => by subst hk; exact hfr (before jf (hja hjl)).1 hjff) (wpAny P .any (l ++ l2).toArray Q fuel (listed.setIfInBounds j true)) Q (fun a' w' ha' hn1 hn2 => by
          refine ih _ a' w' (by simpa using hsz) ?_ ?_ ?_ ?_ ?_
          · have hj0 : listed.toList[j]? = some false := by
              simp [hjs] at hjun ⊢; exact hjun
            have : (listed.setIfInBounds j true).toList = listed.toList.set j true := by simp
            rw [this, List.count_set (by simpa using hjs)]
            have hv : listed.toList[j]'(by simpa using hjs) = false := by
              rw [List.getElem?_eq_getElem (by simpa using hjs)] at hj0
              exact Option.some.inj hj0
            simp [hv]
            simp at hc
            omega
          · intro i oi hoi hi k hk
            by_cases hij : j = i
            · subst hij
              rw [ho''] at hoi; cases hoi
              exact getD_set_true (hal k hk)
            · simp only [getD_set_ne false hij] at hi
              exact getD_set_true (hcl i oi hoi hi k hk)
          · intro k hk
            rw [getD_set_ne false (by omega)]
            exact hno k hk
          · have e1 : (fun k => (listed.setIfInBounds j true).getD k false) = fun k => (k == j || (fun k => listed.getD k false) k) := by
              funext k
              by_cases hk : j = k
              · subst hk; simp [hjs]
              · simp only [getD_set_ne false hk, beq_iff_eq]; have : ¬ k = j := fun h => hk h.symm
                have hb : (k == j) = false := by simp [this]
                rw [hb, Bool.false_or]
            rw [e1, mixX_set st _ _ j h1 (fun k vs hjk hk hs => by
              obtain ⟨s, hs1, hs2⟩ := hs
              exact (behind k (hlt_of hk) (effOkX_spec hE (hlt_of hk) hjk (by rw [← h2]; exact hs1) (by rw [← eff_of hk]; exact hs2))).1)]
            have e2 : (fun i => purgeD (pursX efs j) (mixX σ st (fun k => listed.getD k false) i)) = mixX σ st (fun k => listed.getD k false) := funext hpur
            rw [e2] at ha'; exact ha'
          · intro q1 q2
            by_cases hj1 : j = jf
            · exact hn1 hj1
            by_cases hj2 : j = ja
            · subst hj2
              rw [getD_set_self hjs] at q2; cases q2
            rw [hn2 hj1 hj2]
            rw [getD_set_ne false hj1] at q1
            rw [getD_set_ne false hj2] at q2
            exact hfr q1 q2)
      unfold wpOp
      rw [ho]
      dsimp only
      split
      · rename_i hw; rw [if_pos hw] at hstep; exact .inl hstep
      · rename_i hw; rw [if_neg hw] at hstep; exact hstep
def allPurs (efs : EffsX) : List Nat := efs.flatMap fun ef => (ef.filter (·.2)).map (·.1)
theorem a_region_zf {id n t jf ja : Nat} {full : List Oper} {σ : Sig} {Φ : Exit → Sig → Prop} (efs : EffsX) (hm : P.follows .mixedOrders = true) (hB : (backward full 0 && tailOk full n && decide (n ≤ full.length) && effOkX (full.take n) efs && decide (efs.length = n) && (!decide (ja < n) || ((masks (full.take n) []).getD ja 0).testBit jf)) = true)
    (h : AQf P N t jf ja full.toArray (full.take n) efs (full.take n) 0 (fun i => purgeD (allPurs efs) (σ i)) (fun s => ARun P N full.toArray (full.drop n) s (fun s => Φ .normal s))) (hnd : noDefer full = true := by kernel_rfl) : ACode P N (.region id full.toArray true) σ Φ := fun gv e a w ha Q0 hQ0 => by
  refine sw_region_any (K := fun s => Φ .normal s) hm hnd (fun x a' w' σ' hx hΦ ha' => by rw [hx]; exact hQ0 _ _ _ _ hΦ ha') fun Q hQ => ?_
  simp only [Bool.and_eq_true, Bool.or_eq_true, Bool.not_eq_true', decide_eq_true_eq, decide_eq_false_iff_not] at hB
  obtain ⟨⟨⟨⟨⟨hB1, hB2⟩, hB3⟩, hB4⟩, hB5⟩, hB6⟩ := hB
  generalize hl : full.take n = l at *
  generalize hl2 : full.drop n = l2 at *
  have hf : full = l ++ l2 := by rw [← hl, ← hl2, List.take_append_drop]
  have hn : n = l.length := by rw [← hl]; simp; omega
  subst hf hn
  obtain ⟨st, hl, hst, hK⟩ := AQf.steps l 0 _ h
  have ha' := (ent_purgeD (allPurs efs) σ).all ha
  obtain ⟨hdf, hsz, β, F, hi⟩ := ha'
  refine any_coreF (P := P) (Q := Q) hB1 hB2 hB4 (fun h => hB6.resolve_left fun h2 => h2 h) hl (fun i q hq k hk he => ?_) (fun k o ho => by
    obtain ⟨us, D, h1, h2, h3, h4⟩ := hst k o ho
    exact ⟨us, D, h1, by simpa using h2, by simpa using h3, by simpa using h4⟩) (fun a w ha => hK gv e a w ha Q fun a' w' σ' hΦ ha' => hQ () _ _ _ hΦ ha') (l ++ l2).toArray.size (Array.replicate (l ++ l2).toArray.size false) a { w with drawn := w.drawn + 1 } (by simp) ?_ ?_ ?_ ?_ ?_
  · simp only [purgeD_eq] at hq
    split at hq
    · simp [refs] at hq
    · rename_i hany
      simp only [List.any_eq_true, not_exists, not_and] at hany
      refine hany q hq ?_
      rw [List.contains_iff_mem]
      unfold allPurs
      unfold pursX effX at he
      rw [List.getD_eq_getElem?_getD, List.getElem?_eq_getElem (by omega), Option.getD_some] at he
      exact List.mem_flatMap.2 ⟨_, List.getElem_mem _, he⟩
  · simp [List.count_replicate]
  · intro i o ho hi
    rcases Nat.lt_or_ge i (l ++ l2).length with h | h
    · simp at h; simp [h] at hi
    · simp at h; simp [h] at hi
  · intro k _
    rcases Nat.lt_or_ge k (l ++ l2).length with h | h
    · simp at h; simp [h]
    · simp at h; simp [h]
  · rw [mixX_none _ _ _ (fun k => by
      rcases Nat.lt_or_ge k (l ++ l2).length with h | h
      · simp at h; simp [h]
      · simp at h; simp [h])]
    exact ⟨hdf, hsz, β, F, hi.same rfl rfl rfl⟩
  · intro h
    exfalso
    rcases Nat.lt_or_ge jf (l ++ l2).length with h0 | h0
    · simp at h0; simp [h0] at h
    · simp at h0; simp [h0] at h
end
def AQz (P : Program) (N : Nat) (ops : Array Oper) (l : List Oper) (efs : EffsX) : List Oper → Nat → Sig → (Sig → Prop) → Prop
  | [], _, σ, K => K σ
  | o :: r, j, σ, K => ∃ us D, slotsU us = slotsX efs j ∧ YldX P N ops o σ D us (pursX efs j) ∧ opOkX l efs j D (rootsU us) = true ∧ AQz P N ops l efs r (j + 1) (updL σ us) K
section
variable {P : Program} {N : Nat} {ops : Array Oper} {l l2 : List Oper} {efs : EffsX}
theorem YldX.toF {o : Oper} {σ0 : Sig} {D : List Nat} {us : List (Nat × AV)} {ds : List Nat} {k m : Nat} (hk : k ≠ m) (h : YldX P N ops o σ0 D us ds) : YldF P N N m m k ops o σ0 D us ds :=
  fun σ hD gv e a w ha _ K Q hK => h σ hD gv e a w ha K Q fun a' w' ha' => hK a' w' ha' (fun h => (hk h).elim) (fun _ _ => by simp [valOf])
theorem AQz.toF {K : Sig → Prop} {m : Nat} : ∀ {r : List Oper} {j : Nat} {σ : Sig}, j + r.length ≤ m → AQz P N ops l efs r j σ K → AQf P N N m m ops l efs r j σ K
  | [], _, _, _, h => h
  | o :: r, j, σ, hm, ⟨us, D, h1, h2, h3, h4⟩ => ⟨us, D, h1, h2.toF (by simp at hm; omega), h3, AQz.toF (by simp at hm; omega) h4⟩
theorem a_region_z {id n : Nat} {full : List Oper} {σ : Sig} {Φ : Exit → Sig → Prop} (efs : EffsX) (hm : P.follows .mixedOrders = true) (hB : (backward full 0 && tailOk full n && decide (n ≤ full.length) && effOkX (full.take n) efs && decide (efs.length = n)) = true)
    (h : AQz P N full.toArray (full.take n) efs (full.take n) 0 (fun i => purgeD (allPurs efs) (σ i)) (fun s => ARun P N full.toArray (full.drop n) s (fun s => Φ .normal s))) (hnd : noDefer full = true := by kernel_rfl) : ACode P N (.region id full.toArray true) σ Φ :=
  a_region_zf (t := N) (jf := n) (ja := n) efs hm (by rw [hB]; simp) (AQz.toF (by simp; omega) h) hnd
abbrev AQx (P : Program) (N : Nat) (l : List Oper) (efs : EffsX) : List Oper → Nat → Sig → (Sig → Prop) → Prop := AQz P N l.toArray l efs
theorem tailOk_all (l : List Oper) : tailOk l l.length = true := by
  simp only [tailOk, List.all_eq_true, List.mem_range, Bool.or_eq_true, decide_eq_true_eq]
  exact fun j hj => .inl hj
theorem a_region_x {id : Nat} {σ : Sig} {Φ : Exit → Sig → Prop} (efs : EffsX) (hm : P.follows .mixedOrders = true) (hB : (backward l 0 && effOkX l efs && decide (efs.length = l.length)) = true)
    (h : AQx P N l efs l 0 (fun i => purgeD (allPurs efs) (σ i)) (fun s => Φ .normal s)) (hnd : noDefer l = true := by kernel_rfl) : ACode P N (.region id l.toArray true) σ Φ := by
  simp only [Bool.and_eq_true] at hB
  refine a_region_z (n := l.length) efs hm (by rw [hB.1.1, tailOk_all, List.take_length, hB.1.2, hB.2]; simp) ?_ hnd
  rw [List.take_length, List.drop_length]
  have key : ∀ (r : List Oper) (j : Nat) (τ : Sig), AQx P N l efs r j τ (fun s => Φ .normal s) → AQz P N l.toArray l efs r j τ (fun s => ARun P N l.toArray [] s (fun s => Φ .normal s)) := by
    intro r
    induction r with
    | nil => exact fun j τ h => r_nil h
    | cons o r ih => exact fun j τ ⟨us, D, h1, h2, h3, h4⟩ => ⟨us, D, h1, h2, h3, ih _ _ h4⟩
  exact key l 0 _ h
end
theorem purge1 (d : Nat) (x : AV) : purgeD [d] x = purgeV d x := by
  rw [purgeD_eq, purgeV_eq]
  have : (fun q : Place => [d].contains q.1) = fun q => q.1 == d := by funext q; rw [Bool.eq_iff_iff]; simp
  rw [this]
theorem upd_purge2 {σ : Sig} {s d : Nat} {v : AV} (hsd : s ≠ d) : updL (fun i => purgeD [d] (σ i)) [(s, .undef), (d, v)] = upd (fun i => purgeV d (upd σ s .undef i)) d v := by
  funext i
  simp only [updL, upd, purge1]
  split
  · rfl
  · split
    · rfl
    · rfl
section
variable {P : Program} {N : Nat} {A : Bool} {σ : Sig} {ops : Array Oper} {l rest : List Oper} {efs : EffsX} {o : Oper} {K : Sig → Prop} {jj : Nat} {x : Operand}
theorem z_nil (h : K σ) : AQz P N ops l efs [] jj σ K := h
theorem z_yld {d : Nat} {v : AV} {D : List Nat} (hy : Yld P N ops o σ D d v) (he : effX efs jj = [(d, true)]) (hok : opOkX l efs jj D (roots v) = true) (h : AQz P N ops l efs rest (jj + 1) (upd σ d v) K) :
    AQz P N ops l efs (o :: rest) jj σ K :=
  ⟨[(d, v)], D, by simp [slotsX, he], fun σ' hD gv e a w ha K Q hK => hy σ' hD gv e a w ha K Q (fun a' w' ha' => hK a' w' (by
    have e1 : pursX efs jj = [d] := by simp [pursX, he]
    simp only [updL, e1, purge1]; exact ha')), by simpa [rootsU] using hok, h⟩
theorem z_new {d : Nat} {v : AV} {D : List Nat} (hv : QSem P N true o.op o.type σ D v) (hg : o.guard = none) (hd : o.dst = some d) (hN : d < N) (he : effX efs jj = [(d, true)]) (hok : opOkX l efs jj D (roots v) = true) (h : AQz P N ops l efs rest (jj + 1) (upd σ d v) K) :
    AQz P N ops l efs (o :: rest) jj σ K := z_yld (by have := hv.yld (l := ops.toList) hg hd hN; rwa [Array.toArray_toList] at this) he hok h
theorem z_val {d : Nat} {v : AV} {D : List Nat} (hv : VSem P N true o.op o.type σ D v) (hg : o.guard = none) (hd : o.dst = some d) (hN : d < N) (he : effX efs jj = [(d, true)]) (hok : opOkX l efs jj D (roots v) = true) (h : AQz P N ops l efs rest (jj + 1) (upd σ d v) K) :
    AQz P N ops l efs (o :: rest) jj σ K := z_new hv.quiet hg hd hN he hok h
theorem z_step {us : List (Nat × AV)} {D : List Nat} {ef : List (Nat × Bool)} (hg : o.guard = none) (hs : ∀ σ', (∀ i ∈ D, σ' i = σ i) → OStep P N o σ' (updL (fun i => purgeD ((ef.filter (·.2)).map (·.1)) (σ' i)) us)) (he : effX efs jj = ef)
    (hus : slotsU us = ef.map (·.1)) (hok : opOkX l efs jj D (rootsU us) = true) (h : AQz P N ops l efs rest (jj + 1) (updL σ us) K) : AQz P N ops l efs (o :: rest) jj σ K := by
  refine ⟨us, D, by rw [hus, ← he]; rfl, fun σ' hD gv e a w ha K' Q hK => ?_, hok, h⟩
  have hw : Region.wanted o (yielded ops a.tmps) = true := by simp [Region.wanted, hg]
  rw [if_pos hw]
  refine hs σ' hD gv e a w ha K' Q fun a' w' ha' => hK a' w' ?_
  unfold pursX; rw [he]; exact ha'
theorem z_append {s d t sz bytes n m : Nat} {cap : Option Nat} {cs ns : List AV} {D : List Nat} (hg : o.guard = none) (ho : o.op = appCall (.tmp s) x t) (ht : appTy P t = some (sz, bytes)) (hd : o.dst = some d) (hN : d < N) (hsN : s < N) (hsd : s ≠ d)
    (hs : σ s = .osl sz cs n cap) (hx : SrcIs N true (upd σ s .undef) x sz m ns D) (hc : cellL ns = true) (hcl : cs.length = n * sz)
    (hb : n + m ≤ 9223372036854775807 ∧ (n + m) * bytes ≤ 140737488355328) (he : effX efs jj = [(s, false), (d, true)]) (hok : opOkX l efs jj (s :: D) [] = true)
    (h : AQz P N ops l efs rest (jj + 1) (updL σ [(s, .undef), (d, .osl sz (cs ++ ns) (n + m) none)]) K) : AQz P N ops l efs (o :: rest) jj σ K := by
  refine z_step (D := s :: D) (us := [(s, .undef), (d, .osl sz (cs ++ ns) (n + m) none)]) hg (fun σ' hD => ?_) he rfl (by simpa [rootsU, roots, refs] using hok) h
  have hx' : SrcIs N true (upd σ' s .undef) x sz m ns D := ⟨hx.1, fun hA τ hτ => hx.2 hA τ (fun i hi => by
    rw [hτ i hi]; simp only [upd]; split
    · rfl
    · exact hD i (List.mem_cons_of_mem _ hi))⟩
  have := o_append ho ht hd hN hsN (by rw [hD s (by simp)]; exact hs) hx' hc hcl hb
  rw [← upd_purge2 hsd] at this
  exact this
end
end Go.Av
namespace Go.Av
open Go
def Dlt (p : Int → Bool) (xs : List Int) (j i : Nat) (ys : List Int) : Prop :=
  j ≤ xs.length ∧ ys.length = xs.length ∧ i < j ∧ ys.take i = (xs.take j).filter (fun x => !p x) ∧ ∀ k, j ≤ k → gd ys k = gd xs k
theorem Dlt.first {p : Int → Bool} {xs : List Int} {i : Nat} (hi : i < xs.length) (hn : ∀ j, j < i → p (gd xs j) = false) (hp : p (gd xs i) = true) : Dlt p xs (i + 1) i xs := by
  refine ⟨hi, rfl, Nat.lt_succ_self _, ?_, fun _ _ => rfl⟩
  rw [take_gd hi, List.filter_append]
  have : (xs.take i).filter (fun x => !p x) = xs.take i := by
    rw [List.filter_eq_self]
    intro x hx
    obtain ⟨j, hj, rfl⟩ := mem_gd hx
    have hj' : j < i := by rw [List.length_take] at hj; omega
    have e : gd (xs.take i) j = gd xs j := by unfold gd; rw [List.getElem?_take_of_lt hj']
    rw [e, hn j hj']; rfl
  rw [this]; simp [hp]
theorem gd_upd {ys : List Int} {i k : Nat} {v : Int} (hi : i < ys.length) : gd (ys.set i v) k = if i = k then v else gd ys k := by
  unfold gd; rw [List.getElem?_set]
  split
  · subst_vars; simp [hi]
  · rfl
theorem Dlt.keep {p : Int → Bool} {xs ys : List Int} {j i : Nat} (h : Dlt p xs j i ys) (hj : j < xs.length) (hp : p (gd xs j) = false) : Dlt p xs (j + 1) (i + 1) (ys.set i (gd xs j)) := by
  obtain ⟨h1, h2, h3, h4, h5⟩ := h
  refine ⟨hj, by simpa using h2, by omega, ?_, fun k hk => ?_⟩
  · rw [take_gd hj, List.filter_append, ← h4, take_gd (by simp; omega), gd_upd (by omega), if_pos rfl, List.take_set_of_le (Nat.le_refl _)]
    simp [hp]
  · rw [gd_upd (by omega), if_neg (by omega)]; exact h5 k (by omega)
theorem Dlt.drop {p : Int → Bool} {xs ys : List Int} {j i : Nat} (h : Dlt p xs j i ys) (hj : j < xs.length) (hp : p (gd xs j) = true) : Dlt p xs (j + 1) i ys := by
  obtain ⟨h1, h2, h3, h4, h5⟩ := h
  refine ⟨hj, h2, by omega, ?_, fun k hk => h5 k (by omega)⟩
  rw [take_gd hj, List.filter_append, ← h4]; simp [hp]
theorem Dlt.done {p : Int → Bool} {xs ys : List Int} {i n : Nat} (h : Dlt p xs xs.length i ys) (hn : xs.length = n) :
    setL (icells ys) (0 + i * 1) (List.replicate (n - i) (.int .i64 0)) = icells (xs.filter fun x => !p x) ++ List.replicate (n - i) (.int .i64 0) ∧ i = (xs.filter fun x => !p x).length := by
  obtain ⟨h1, h2, h3, h4, h5⟩ := h
  rw [List.take_length] at h4
  refine ⟨?_, ?_⟩
  · rw [Nat.zero_add, Nat.mul_one, setL_rep (by rw [icells_length]; omega), icells_take, h4]
  · rw [← h4, List.length_take]; omega
theorem gd_get2 {xs ys : List Int} {j : Nat} (h : ∀ k, j ≤ k → gd ys k = gd xs k) (hj : j < ys.length) : ys[j]? = some (gd xs j) := by
  rw [← h j (Nat.le_refl _)]; unfold gd; rw [List.getElem?_eq_getElem hj]; rfl
theorem dlt_none {p : Int → Bool} {xs : List Int} {n : Nat} (hn : xs.length = n) (h : fidx (fun i => p (gd xs i)) n = -1) : xs.filter (fun x => !p x) = xs := by
  rw [List.filter_eq_self]
  intro x hx
  obtain ⟨j, hj, rfl⟩ := mem_gd hx
  cases hc : p (gd xs j) with
  | false => rfl
  | true =>
    have := fidx_any (p := fun i => p (gd xs i)) (n := n)
    rw [h] at this
    simp only [show ¬ (0 : Int) ≤ -1 by decide, decide_false] at this
    have h2 := this.symm
    rw [List.any_eq_false] at h2
    exact absurd hc (h2 j (by simpa using (by omega : j < n)))
theorem fidx_spec {p : Nat → Bool} {n : Nat} (h : ¬ fidx p n = -1) : ∃ i, i < n ∧ fidx p n = (i : Int) ∧ p i = true ∧ ∀ j, j < i → p j = false := by
  by_cases hx : ∃ i, i < n ∧ p i = true
  · obtain ⟨i, ⟨hi, hp⟩, hm⟩ := has_least (p := fun i => i < n ∧ p i = true) _ hx.choose_spec
    have hn : ∀ j, j < i → p j = false := fun j hj => by
      cases hc : p j with
      | false => rfl
      | true => have := hm j ⟨by omega, hc⟩; omega
    exact ⟨i, hi, fidx_found hi hp hn, hp, hn⟩
  · exfalso; apply h
    exact fidx_none fun j hj => by
      cases hc : p j with
      | false => rfl
      | true => exact absurd ⟨j, hj, hc⟩ hx
def wov (c : List Int) (v : Int) : List Int := c.filter fun l => !decide (absA l = v)
def woS (c : List Int) (v : Int) : List Int := c.filter fun l => decide (vr l ≠ v)
theorem wov_eq {c : List Int} (hs : SmI c) (v : Int) : wov c v = woS c v := by
  unfold wov woS
  refine List.filter_congr fun x hx => ?_
  rw [absA_of (hs.mem hx)]
  by_cases h : vr x = v <;> simp [h]
theorem woS_more {c : List Int} {v : Int} {i : Nat} (hi : i < c.length) : woS (c.take (i + 1)) v = if vr (gd c i) ≠ v then woS (c.take i) v ++ [gd c i] else woS (c.take i) v := by
  unfold woS; rw [take_gd hi, List.filter_append]
  by_cases h : vr (gd c i) = v <;> simp [h]
theorem woS_mem {c : List Int} {v x : Int} (h : x ∈ woS c v) : x ∈ c ∧ vr x ≠ v := by
  unfold woS at h; simpa using h
theorem woS_strict {c : List Int} {v : Int} (h : Strict c) : Strict (woS c v) := List.Pairwise.filter _ h
theorem woS_len (c : List Int) (v : Int) : (woS c v).length ≤ c.length := List.length_filter_le _ _
theorem vr_neg (l : Int) : vr (-l) = vr l := by unfold vr; split <;> split <;> omega
def setLit (a : List Int) (l : Int) : List Int := putL (woS a (vr l)) l
theorem setLit_impl {vars : Int} {a : List Int} {l : Int} (hc : clB vars a = true) (hl : litB vars l = true) : (clR (woS a (vr l) ++ [l])).getD [] = setLit a l := by
  have h2 := (clB_spec hc).1
  have h3 := litB_spec.1 hl
  rw [clR_join (SmI.of fun x hx => ?_) (fun x hx => ?_) (woS_strict (clB_strict hc))]
  · rw [joinL, if_neg, if_neg]
    · rfl
    · intro h; exact (woS_mem h).2 rfl
    · intro h; exact (woS_mem h).2 (vr_neg l)
  · rcases List.mem_append.1 hx with h | h
    · have := clB_mem hc (woS_mem h).1; omega
    · rw [List.mem_singleton] at h; subst h; omega
  · rcases List.mem_append.1 hx with h | h
    · exact (clB_mem hc (woS_mem h).1).2.2.2
    · rw [List.mem_singleton] at h; subst h; exact h3.2
def gl (L : List (List Int)) (i : Nat) : List Int := (L[i]?).getD []
def sls (L : List (List Int)) : List AV := L.map fun c => .sl (icells c) c.length
theorem sls_length (L : List (List Int)) : (sls L).length = L.length := by simp [sls]
theorem sls_get {L : List (List Int)} {i : Nat} (h : i < L.length) : (sls L)[i]? = some (.sl (icells (gl L i)) (gl L i).length) := by
  unfold sls gl; rw [List.getElem?_map, List.getElem?_eq_getElem h]; rfl
theorem sls_ne {L : List (List Int)} {i : Nat} (h : i < L.length) : sls L ≠ [] := fun he => by
  have := congrArg List.length he; rw [sls_length] at this; simp at this; subst this; simp at h
theorem sls_pureL (L : List (List Int)) : pureL (sls L) = true := by
  rw [pureL_iff]; intro c hc
  obtain ⟨x, _, rfl⟩ := List.mem_map.1 hc; simp [pureV]
theorem sls_noNil : ∀ (L : List (List Int)), noNilL (sls L) = true
  | [] => rfl
  | c :: L => by
    have := sls_noNil L
    unfold sls at this ⊢
    simp [noNilL, noNil, this]
theorem sls_pure (L : List (List Int)) : pureL (sls L) = true ∧ noNilL (sls L) = true := ⟨sls_pureL L, sls_noNil L⟩
theorem gl_mem {L : List (List Int)} {i : Nat} (h : i < L.length) : gl L i ∈ L := by unfold gl; rw [List.getElem?_eq_getElem h]; exact List.getElem_mem h
def tot (L : List (List Int)) (i : Nat) : Nat := ((L.take i).map List.length).sum
theorem tot_zero (L : List (List Int)) : tot L 0 = 0 := rfl
theorem tot_more {L : List (List Int)} {i : Nat} (h : i < L.length) : tot L (i + 1) = tot L i + (gl L i).length := by
  unfold tot gl
  rw [List.take_succ_eq_append_getElem h, List.map_append, List.sum_append, List.getElem?_eq_getElem h]
  simp only [List.map_cons, List.map_nil, List.sum_cons, List.sum_nil, Option.getD_some, Nat.add_zero]
theorem tot_le (L : List (List Int)) : ∀ i, tot L i ≤ tot L L.length := by
  intro i
  have key : ∀ k, tot L i ≤ tot L (i + k) := by
    intro k
    induction k with
    | zero => exact Nat.le_refl _
    | succ k ih =>
      refine Nat.le_trans ih ?_
      by_cases h : i + k < L.length
      · rw [← Nat.add_assoc, tot_more h]; omega
      · unfold tot; rw [List.take_of_length_le (by omega), List.take_of_length_le (by omega)]; exact Nat.le_refl _
  rcases Nat.lt_or_ge i L.length with h | h
  · have := key (L.length - i); rwa [show i + (L.length - i) = L.length by omega] at this
  · unfold tot; rw [List.take_of_length_le h, List.take_of_length_le (Nat.le_refl _)]; exact Nat.le_refl _
end Go.Av
namespace Go.Av
open Go
def osls (L : List (List Int)) : List AV := L.map fun c => .osl 1 (icells c) c.length none
theorem osls_length (L : List (List Int)) : (osls L).length = L.length := by simp [osls]
theorem osls_append (L M : List (List Int)) : osls (L ++ M) = osls L ++ osls M := by simp [osls]
theorem shL_icells (c : List Int) : shL (icells c) = icells c := shL_id _ (ic_pure c).1 (ic_pure c).2
theorem shL_osls (L : List (List Int)) : shL (osls L) = sls L := by
  unfold osls sls
  rw [shL_eq, List.map_map]
  refine List.map_congr_left fun c _ => ?_
  simp [sh, shL_icells]
theorem sl_osls {L : List (List Int)} {n : Nat} : AV.sl (shL ((osls L).drop 0)) n = .sl (sls L) n := by rw [List.drop_zero, shL_osls]
theorem osls_noSh : ∀ (L : List (List Int)), noShL (osls L) = true
  | [] => rfl
  | c :: L => by
    have := osls_noSh L
    unfold osls at this ⊢
    simp [noShL, noSh, this, ic_noSh]
theorem osls_noRef : ∀ (L : List (List Int)), noRefL (osls L) = true
  | [] => rfl
  | c :: L => by
    have := osls_noRef L
    unfold osls at this ⊢
    simp [noRefL, noRef, this, ic_noRef]
def partO (L : List (List Int)) (i : Nat) : List AV := osls (L.take i) ++ List.replicate (L.length - i) .nils
theorem partO_zero (L : List (List Int)) : partO L 0 = rep L.length [.nils] := by
  unfold partO rep; simp [osls, List.flatMap_id', List.replicate]
theorem partO_length {L : List (List Int)} {i : Nat} (h : i ≤ L.length) : (partO L i).length = L.length := by
  unfold partO; rw [List.length_append, osls_length, List.length_take, List.length_replicate]; omega
theorem partO_set {L : List (List Int)} {i : Nat} (h : i < L.length) : (partO L i).set i (.osl 1 (icells (gl L i)) (gl L i).length none) = partO L (i + 1) := by
  unfold partO gl
  have h1 : (osls (L.take i)).length = i := by rw [osls_length, List.length_take]; omega
  rw [List.set_append_right _ _ (by omega), h1, Nat.sub_self, show L.length - i = (L.length - (i + 1)) + 1 by omega, List.replicate_succ, List.set_cons_zero,
    List.take_succ_eq_append_getElem h, osls_append, List.append_assoc, List.getElem?_eq_getElem h]
  rfl
theorem partO_full {L : List (List Int)} {i : Nat} (h : L.length ≤ i) : partO L i = osls L := by
  unfold partO; rw [List.take_of_length_le h, show L.length - i = 0 by omega]; simp
theorem gl_out {L : List (List Int)} {i : Nat} (h : L.length ≤ i) : gl L i = [] := by unfold gl; rw [List.getElem?_eq_none h]; rfl
def szR (left k : Int) : Int := if left - k < 0 then -1 else left - k
theorem len_tot {L : List (List Int)} {i : Nat} : (gl L i).length ≤ tot L L.length := by
  rcases Nat.lt_or_ge i L.length with h | h
  · have := tot_le L (i + 1); rw [tot_more h] at this; omega
  · rw [gl_out h]; simp
def cnfB (vars : Int) (L : List (List Int)) : Bool := inR vars 0 12 && decide (L.length ≤ 60) && (List.range L.length).all fun i => clB vars (gl L i)
def CnfOk (vars : Int) (L : List (List Int)) : Prop :=
  (-9223372036854775808 ≤ vars ∧ vars ≤ 9223372036854775807) ∧ L.length ≤ 1048576 ∧ tot L L.length ≤ 1048576 ∧ ∀ i j, -9223372036854775808 ≤ gd (gl L i) j ∧ gd (gl L i) j ≤ 9223372036854775807
theorem cnfB_no {vars : Int} {L : List (List Int)} {i : Nat} (hi : i < L.length) (h : clB vars (gl L i) = false) : cnfB vars L = false := by
  unfold cnfB
  rw [Bool.and_eq_false_iff]; right
  rw [List.all_eq_false]; exact ⟨i, by simpa using hi, by simp [h]⟩
theorem cnfB_yes {vars : Int} {L : List (List Int)} (h : ∀ j, j < L.length → clB vars (gl L j) = true) : cnfB vars L = (inR vars 0 12 && decide (L.length ≤ 60)) := by
  unfold cnfB
  rw [show (List.range L.length).all (fun i => clB vars (gl L i)) = true from List.all_eq_true.2 fun i hi => h i (by simpa using hi), Bool.and_true]
theorem cnfB_spec {vars : Int} {L : List (List Int)} (h : cnfB vars L = true) : (0 ≤ vars ∧ vars ≤ 12) ∧ L.length ≤ 60 ∧ ∀ j, j < L.length → clB vars (gl L j) = true := by
  simp only [cnfB, Bool.and_eq_true, inR_spec, decide_eq_true_eq, List.all_eq_true, List.mem_range] at h
  exact ⟨h.1.1, h.1.2, h.2⟩
def WeakL : List AV → List AV → Prop
  | [], [] => True
  | c :: cs, d :: ds => Weak c d ∧ WeakL cs ds
  | _, _ => False
theorem WeakL.repL {β : Place → Option (Nat × Nat)} {F : Nat → Prop} {w : World} : ∀ {cs ds : List AV}, WeakL cs ds → ∀ {p : Place} {j : Nat} {vs : List Value}, RepL β F w cs p j vs → RepL β F w ds p j vs
  | [], [], _, _, _, _, h => h
  | c :: cs, d :: ds, hw, p, j, [], h => by simp [RepL] at h
  | c :: cs, d :: ds, hw, p, j, v :: vs, h => by
    simp only [RepL] at h ⊢
    exact ⟨hw.1.1 _ _ _ _ _ h.1, WeakL.repL hw.2 h.2⟩
theorem WeakL.len : ∀ {cs ds : List AV}, WeakL cs ds → cs.length = ds.length
  | [], [], _ => rfl
  | c :: cs, d :: ds, h => by simp [WeakL.len h.2]
  | [], d :: ds, h => h.elim
  | c :: cs, [], h => h.elim
theorem WeakL.node : ∀ {cs ds : List AV}, WeakL cs ds → ∀ {i : Nat} {r : List Nat} {d z : AV}, ds[i]? = some d → Av.node d r = some z → z.isOwn = true → ∃ c z', cs[i]? = some c ∧ Av.node c r = some z' ∧ z'.isOwn = true
  | [], [], _, i, r, d, z, h, _, _ => by simp at h
  | c :: cs, d :: ds, hw, 0, r, d', z, h, hz, ho => by
    simp at h; subst h
    obtain ⟨z', h1, h2⟩ := hw.1.2 r z hz ho
    exact ⟨c, z', by simp, h1, h2⟩
  | c :: cs, d :: ds, hw, i + 1, r, d', z, h, hz, ho => by
    obtain ⟨c', z', h1, h2⟩ := WeakL.node hw.2 (i := i) (by simpa using h) hz ho
    exact ⟨c', z', by simpa using h1, h2⟩
theorem Weak.agg {cs ds : List AV} (h : WeakL cs ds) : Weak (.agg cs) (.agg ds) := by
  refine ⟨fun β F w p v hv => ?_, fun r z hz ho => ?_⟩
  · simp only [Rep] at hv ⊢
    obtain ⟨vs, h1, h2, h3⟩ := hv
    exact ⟨vs, h1, by rw [h2, h.len], h.repL h3⟩
  · cases r with
    | nil => simp [node] at hz; subst hz; simp [AV.isOwn] at ho
    | cons i r =>
      simp only [node, kids] at hz ⊢
      cases hi : ds[i]? with
      | none => rw [hi] at hz; cases hz
      | some d =>
        rw [hi] at hz
        obtain ⟨c, z', h1, h2, h3⟩ := h.node hi hz ho
        exact ⟨z', by rw [h1]; exact h2, h3⟩
end Go.Av
namespace Go.Av
theorem gl_take {L M : List (List Int)} {i : Nat} (hi : i < L.length) (hi2 : i < M.length) (h : L.take i = M.take i) (he : gl L i = gl M i) : L.take (i + 1) = M.take (i + 1) := by
  unfold gl at he
  rw [List.getElem?_eq_getElem hi, List.getElem?_eq_getElem hi2] at he
  rw [List.take_succ_eq_append_getElem hi, List.take_succ_eq_append_getElem hi2, h]
  simp only [Option.getD_some] at he
  rw [he]
end Go.Av
namespace Go.Av
open Go
section
variable {P : Program} {N : Nat} {A : Bool} {σ : Sig} {o : Oper} {d : Nat}
variable {e : Ctx} {val : Nat → Value} {w : World} {β : Place → Option (Nat × Nat)} {F : Nat → Prop}
theorem mid_get {α : Type} {fs bs : List α} {c x : α} {i : Nat} (h : (fs ++ c :: bs)[i]? = some x) : i = fs.length ∧ x = c ∨ i ≠ fs.length ∧ x ∈ fs ++ bs ∧ ∀ c', (fs ++ c' :: bs)[i]? = some x := by
  by_cases hi : i = fs.length
  · left; subst hi
    rw [List.getElem?_append_right (Nat.le_refl _), Nat.sub_self] at h
    simp at h; exact ⟨rfl, h.symm⟩
  · right
    refine ⟨hi, ?_, fun c' => ?_⟩
    · rcases Nat.lt_or_ge i fs.length with hl | hl
      · rw [List.getElem?_append_left hl] at h
        exact List.mem_append_left _ (List.mem_of_getElem? h)
      · rw [List.getElem?_append_right hl] at h
        obtain ⟨k, hk⟩ : ∃ k, i - fs.length = k + 1 := ⟨i - fs.length - 1, by omega⟩
        rw [hk, List.getElem?_cons_succ] at h
        exact List.mem_append_right _ (List.mem_of_getElem? h)
    · rcases Nat.lt_or_ge i fs.length with hl | hl
      · rw [List.getElem?_append_left hl] at h ⊢; exact h
      · rw [List.getElem?_append_right hl] at h ⊢
        obtain ⟨k, hk⟩ : ∃ k, i - fs.length = k + 1 := ⟨i - fs.length - 1, by omega⟩
        rw [hk, List.getElem?_cons_succ] at h ⊢; exact h
def refδ (β : Place → Option (Nat × Nat)) (g j : Nat) : List Nat → Option (Nat × Nat)
  | [] => none
  | i :: t => if i = j then β (g, t) else none
theorem o_box_ref {t x g sz n n' : Nat} {cap cap' : Option Nat} {fs bs cs : List AV} (ho : o.op = .box t (.tmp x)) (hd : o.dst = some d) (hN : d < N) (hxN : x < N) (hgN : N ≤ g) (hx : σ x = .agg (fs ++ .rsl (g, []) sz 0 n cap :: bs))
    (hg : σ g = .osl sz cs n' cap') (hpa : pureL fs = true) (hpb : pureL bs = true) :
    OStep P N o σ (upd (upd (fun i => purgeV d (upd σ g .undef i)) d (.op (fs ++ .osl sz cs n cap :: bs))) g (.rsl (d, [fs.length]) sz 0 n' cap')) := by
  intro gv e a w ⟨hdf, hsz, β, F, hi⟩ K Q hK
  have hdg : d ≠ g := by omega
  have hval : valOf N gv a x = a.eval (.tmp x) := by simp [valOf, hxN, Act.eval]
  have hrx := hi.rep x
  rw [hx, hval] at hrx
  simp only [Rep] at hrx
  obtain ⟨vs, ev, hlen, hrl⟩ := hrx
  have hpure : ∀ c ∈ fs ++ bs, pureV c = true := fun c hc => by
    rcases List.mem_append.1 hc with h | h
    · exact pureL_mem hpa h
    · exact pureL_mem hpb h
  obtain ⟨u, hu, hur⟩ := RepL_iff.1 hrl fs.length (.rsl (g, []) sz 0 n cap) (by rw [List.getElem?_append_right (Nat.le_refl _)]; simp)
  have hgn : node (σ ((g, []) : Place).1) ((g, []) : Place).2 = some (.osl sz cs n' cap') := by simp [node, hg]
  have hdet := hi.detach_sl (q := (g, [])) hgn hur
  have hh := hi.hole hgn
  have hhole : hole σ (g, []) = upd σ g .undef := by unfold hole; rfl
  rw [hhole] at hh hdet
  have hnr : noRefL cs = true := by
    have := hi.rep g
    rw [hg] at this
    simp only [Rep] at this
    rcases this with ⟨_, _, h, _⟩ | ⟨h, _⟩
    · subst h; rfl
    · exact h
  have hnode : ∀ {r : List Nat} {y : AV}, node (.agg (fs ++ .osl sz cs n cap :: bs)) r = some y → y.isOwn = true → ∃ t, r = fs.length :: t ∧ node (.osl sz cs n cap) t = some y := fun {r y} hy hoy => by
    cases r with
    | nil => simp [node] at hy; subst hy; simp [AV.isOwn] at hoy
    | cons i r =>
      simp only [node, kids] at hy
      cases hc : (fs ++ .osl sz cs n cap :: bs)[i]? with
      | none => rw [hc] at hy; cases hy
      | some c =>
        rw [hc] at hy
        rcases mid_get hc with ⟨rfl, rfl⟩ | ⟨_, hm, _⟩
        · exact ⟨r, rfl, hy⟩
        · rw [noOwn_pure (hpure c hm) hy] at hoy; cases hoy
  have hnrl : noRefL (fs ++ .osl sz cs n cap :: bs) = true := by
    rw [noRefL_iff]; intro c hc
    obtain ⟨i, hi'⟩ := List.getElem?_of_mem hc
    rcases mid_get hi' with ⟨_, rfl⟩ | ⟨_, hm, _⟩
    · simpa [noRef] using hnr
    · exact noRef_pure c (hpure c hm)
  have hD : Det e (upd σ g .undef) w β F (.agg (fs ++ .osl sz cs n cap :: bs)) (.agg vs.toArray) (refδ β g fs.length) := by
    refine ⟨?_, ?_, ?_, ?_⟩
    · simp only [Rep]
      refine ⟨vs, rfl, by rw [hlen]; simp, RepL_iff.2 fun i c hc => ?_⟩
      rcases mid_get hc with ⟨rfl, rfl⟩ | ⟨_, hm, hc'⟩
      · refine ⟨u, hu, hdet.rep.tr _ (fun b hb => ⟨hb, rfl⟩) (fun r y hy hoy => ⟨?_, fun _ _ _ => rfl⟩) (fun q hq => by simp [refs] at hq)⟩
        simp [refδ]
      · obtain ⟨u', hu', hr'⟩ := RepL_iff.1 hrl i c (hc' _)
        exact ⟨u', hu', hr'.pure_any (hpure c hm)⟩
    · simp only [refs]; exact refsL_of_noRef _ hnrl
    · intro r r' y y' b s s' hy hoy hy' hoy' hb hb'
      obtain ⟨t1, rfl, h1⟩ := hnode hy hoy
      obtain ⟨t2, rfl, h2⟩ := hnode hy' hoy'
      simp only [refδ, if_true] at hb hb'
      have := hdet.inj t1 t2 y y' b s s' h1 hoy h2 hoy' (by simpa using hb) (by simpa using hb')
      rw [this]
    · intro r y b s hy hoy hb
      obtain ⟨t1, rfl, h1⟩ := hnode hy hoy
      simp only [refδ, if_true] at hb
      exact hdet.sep t1 y b s h1 hoy (by simpa using hb)
  have hal := hh.alloc (.cells vs.toArray t) (fun _ _ _ h => by cases h; rfl)
  have hD' := hD.world (w' := w.alloc (.cells vs.toArray t)) (fun b hb => heap_alloc_lt (hh.fr b hb).1) (fun r y b s hy hoy hb => by
    obtain ⟨t1, rfl, h1⟩ := hnode hy hoy
    simp only [refδ, if_true] at hb
    exact heap_alloc_lt (hdet.lt h1 hoy (by simpa using hb)))
  have hop := hD'.op hnrl (heap_alloc_new w _) (fun j x hx => by simpa using hx) (fun hF => by have := (hh.fr _ hF).1; omega) (.inl hh.grow)
    (fun q s hq hb => by have := hh.own_lt hq hb; omega) (fun r y s hy hoy hb => by
      obtain ⟨t1, rfl, h1⟩ := hnode hy hoy
      simp only [refδ, if_true] at hb
      have := hdet.lt h1 hoy (by simpa using hb); omega)
  have hat := hal.attach d hop
  have hrg : Rep β F w (.osl sz cs n' cap') (g, []) (valOf N gv a g) := by have := hi.rep g; rwa [hg] at this
  have hfin := hat.set g (x := .rsl (d, [fs.length]) sz 0 n' cap') (v := valOf N gv a g) (by
    simp only [Rep] at hrg ⊢
    simp only [if_true, refδ, List.cons_ne_nil, if_false]
    rcases hrg with ⟨h1, h2, _, h4, h5⟩ | ⟨_, b, capv, arr, tt, h1, h2, h3, h4, _⟩
    · exact .inl ⟨h1, h2, h4, h5⟩
    · exact .inr ⟨b, capv, by rw [h1]; simp, h2, h3, h4⟩) (noOwn_scalar rfl)
  have hv : upd (upd (valOf N gv a) d (.pointer (some ⟨w.heap.size, 0, none⟩))) g (valOf N gv a g) = valOf N gv (a.put (some d) (.pointer (some ⟨w.heap.size, 0, none⟩))) := by
    rw [valOf_put hsz hN]
    funext i
    by_cases hig : i = g
    · subst hig; rw [upd_same, upd_other _ _ (Ne.symm hdg)]
    · rw [upd_other _ _ hig]
  rw [hv, ← hd] at hfin
  refine wp_value (v := .pointer (some ⟨w.heap.size, 0, none⟩)) (w' := w.alloc (.cells vs.toArray t)) ?_ (hK _ _ ⟨?_, ?_, _, F, hfin⟩)
  · simp [execOp, ho, Instr.box, newVar, newRow, ev]; rfl
  · rw [hd]; exact hdf
  · rw [hd, size_put]; exact hsz
end
end Go.Av
namespace Go.Av
open Go
def mkI (k : Int) (n : Nat) : List Int := (List.range n).map fun (i : Nat) => k + (i : Int)
theorem mkI_length (k : Int) (n : Nat) : (mkI k n).length = n := by simp [mkI]
theorem mkI_get {k : Int} {n i : Nat} (h : i < n) : gd (mkI k n) i = k + (i : Int) := by simp [mkI, gd, h]
def mkIPart (k : Int) (xs : List Int) (i : Nat) : List Int := mkI k i ++ xs.drop i
theorem mkIPart_length {k : Int} {xs : List Int} {i : Nat} (h : i ≤ xs.length) : (mkIPart k xs i).length = xs.length := by simp [mkIPart, mkI_length]; omega
theorem mkIPart_set {k : Int} {xs : List Int} {i : Nat} (h : i < xs.length) : (mkIPart k xs i).set i (k + (i : Int)) = mkIPart k xs (i + 1) := by
  unfold mkIPart
  have e : xs.drop i = xs[i] :: xs.drop (i + 1) := List.drop_eq_getElem_cons h
  rw [List.set_append_right _ _ (by rw [mkI_length]; exact Nat.le_refl _), mkI_length, Nat.sub_self, e, List.set_cons_zero]
  simp only [mkI, List.range_succ, List.map_append, List.map_cons, List.map_nil, List.append_assoc, List.cons_append, List.nil_append]
theorem mkIPart_full {k : Int} {xs : List Int} {i : Nat} (h : i = xs.length) : mkIPart k xs i = mkI k xs.length := by subst h; simp [mkIPart]
theorem mkIPart_zero (k : Int) (xs : List Int) : mkIPart k xs 0 = xs := by simp [mkIPart, mkI]
theorem gd_elem {xs : List Int} {i : Nat} (h : i < xs.length) : xs[i] = gd xs i := by simp [gd, h]
theorem gd_bd {xs : List Int} (h : ∀ x ∈ xs, -9223372036854775808 ≤ x ∧ x ≤ 9223372036854775807) (j : Nat) : -9223372036854775808 ≤ gd xs j ∧ gd xs j ≤ 9223372036854775807 := by
  rcases Nat.lt_or_ge j xs.length with hj | hj
  · exact h _ (List.mem_of_getElem? (gd_get hj))
  · have : gd xs j = 0 := by simp [gd, hj]
    omega
theorem Weak.rsl_emp {q : Place} {sz off : Nat} {cap : Option Nat} : Weak (.rsl q sz off 0 cap) (.sl [] 0) := by
  refine ⟨fun β F w p v hv => ?_, fun r z hz ho => ?_⟩
  · simp only [Rep] at hv ⊢
    rcases hv with ⟨_, ⟨a, rfl⟩, _⟩ | ⟨b, capv, _, rfl, _⟩
    · exact ⟨Eq.refl _, a, 0, Eq.refl _, Nat.le_refl _, fun h => absurd (Eq.refl _) h⟩
    · exact ⟨Eq.refl _, _, capv, Eq.refl _, Nat.zero_le _, fun h => absurd (Eq.refl _) h⟩
  · cases r with
    | nil => simp [node] at hz; subst hz; simp [AV.isOwn] at ho
    | cons j r => simp [node, kids] at hz
def mkSS (k : Int) (L : List (List Int)) : List (List Int) := (List.range L.length).map fun i => mkI (k + (tot L i : Nat)) (gl L i).length
theorem mkSS_length (k : Int) (L : List (List Int)) : (mkSS k L).length = L.length := by simp [mkSS]
theorem mkSS_get {k : Int} {L : List (List Int)} {i : Nat} (h : i < L.length) : gl (mkSS k L) i = mkI (k + (tot L i : Nat)) (gl L i).length := by
  unfold mkSS; rw [gl, List.getElem?_map, List.getElem?_range h]; rfl
def mkSSP (k : Int) (L : List (List Int)) (i : Nat) : List (List Int) := (mkSS k L).take i ++ L.drop i
theorem mkSSP_zero (k : Int) (L : List (List Int)) : mkSSP k L 0 = L := by simp [mkSSP]
theorem mkSSP_length {k : Int} {L : List (List Int)} {i : Nat} (h : i ≤ L.length) : (mkSSP k L i).length = L.length := by
  unfold mkSSP; rw [List.length_append, List.length_take, mkSS_length, List.length_drop]; omega
theorem mkSSP_full {k : Int} {L : List (List Int)} {i : Nat} (h : L.length ≤ i) : mkSSP k L i = mkSS k L := by
  unfold mkSSP; rw [List.take_of_length_le (by rw [mkSS_length]; exact h), List.drop_of_length_le h, List.append_nil]
theorem mkSSP_get {k : Int} {L : List (List Int)} {i : Nat} (h : i < L.length) : gl (mkSSP k L i) i = gl L i := by
  unfold mkSSP gl
  have h1 : ((mkSS k L).take i).length = i := by rw [List.length_take, mkSS_length]; omega
  rw [List.getElem?_append_right (by omega), h1, Nat.sub_self, List.getElem?_drop, Nat.add_zero]
theorem mkSSP_set {k : Int} {L : List (List Int)} {i : Nat} (h : i < L.length) : (mkSSP k L i).set i (mkI (k + (tot L i : Nat)) (gl L i).length) = mkSSP k L (i + 1) := by
  unfold mkSSP
  have h1 : ((mkSS k L).take i).length = i := by rw [List.length_take, mkSS_length]; omega
  rw [List.set_append_right _ _ (by omega), h1, Nat.sub_self, List.drop_eq_getElem_cons h, List.set_cons_zero]
  have h2 : i < (mkSS k L).length := by rw [mkSS_length]; exact h
  rw [List.take_succ_eq_append_getElem h2, List.append_assoc]
  congr 1
  have := mkSS_get (k := k) h
  unfold gl at this ⊢
  rw [List.getElem?_eq_getElem h2] at this
  simp only [Option.getD_some] at this
  rw [this]; rfl
theorem osls_get {L : List (List Int)} {i : Nat} (h : i < L.length) : (osls L)[i]? = some (.osl 1 (icells (gl L i)) (gl L i).length none) := by
  unfold osls gl; rw [List.getElem?_map, List.getElem?_eq_getElem h]; rfl
theorem osls_set (L : List (List Int)) (i : Nat) (c : List Int) : (osls L).set i (.osl 1 (icells c) c.length none) = osls (L.set i c) := by
  unfold osls; rw [List.map_set]
theorem mkI_len (k : Int) (n : Nat) : (mkI k n).length = n := mkI_length k n
end Go.Av
namespace Go.Av
open Go
section
variable {P : Program} {N : Nat} {A : Bool} {σ : Sig} {x : Operand} {ty : TypeId}
theorem v_slice_end {t sz off n l h : Nat} {q : Place} {cap : Option Nat} {lo hi : Option Operand} (ht : elemSize P t = some sz) (hx : RdTo N A σ x (.rsl q sz off n cap)) (hl : BdTo N A σ lo 0 l) (hh : BdTo N A σ hi n h)
    (hb : A = true → l = h ∧ h ≤ n) : VSem P N A (.slice t x lo hi none) ty σ (slots x ++ (slotsO lo ++ slotsO hi)) (.sl [] 0) :=
  ⟨noOwn_scalar rfl, fun hA σ' hD gv e ac w β F hi' p o' ho hty => by
    have ex := hx.rep hA (agree_l hD) hi' p
    have bl := hl.is hA (agree_l (agree_r hD)) hi'
    have bh := hh.is hA (agree_r (agree_r hD)) hi'
    obtain ⟨h1, h2⟩ := hb hA
    subst h1
    simp only [Rep] at ex
    rcases ex with ⟨hq, ⟨a, ex⟩, hn, hc⟩ | ⟨b, capv, hq, ex, hn, hc⟩
    · subst hn
      obtain rfl : l = 0 := by omega
      refine ⟨_, by simp [execOp, ho, ex, run_slice_val ht bl bh (Nat.le_refl _) (Nat.le_refl 0)]; rfl, ?_⟩
      simp only [Rep]
      exact ⟨rfl, _, _, rfl, Nat.le_refl _, fun h => absurd rfl h⟩
    · refine ⟨_, by simp [execOp, ho, ex, run_slice_val ht bl bh (Nat.le_refl _) (Nat.le_trans h2 hn)]; rfl, ?_⟩
      simp only [Rep]
      exact ⟨rfl, _, _, rfl, by omega, fun h => absurd rfl h⟩⟩
end
end Go.Av
namespace Go.Av
open Go
def cval (c a : List Int) : Int := if c.any (fun l => decide (l ∈ a)) then 1 else if c.all (fun l => decide (-l ∈ a)) then -1 else 0
def cvP (c a : List Int) (i : Nat) : Int := if (c.take i).all (fun l => decide (-l ∈ a)) then -1 else 0
theorem cvP_succ {c a : List Int} {i : Nat} (h : i < c.length) : cvP c a (i + 1) = if -(gd c i) ∈ a then cvP c a i else 0 := by
  unfold cvP
  rw [take_gd h, List.all_append]
  by_cases hx : -(gd c i) ∈ a <;> simp [hx]
theorem cval_one {c a : List Int} {i : Nat} (h : i < c.length) (hx : gd c i ∈ a) : cval c a = 1 := by
  unfold cval
  rw [if_pos]
  rw [List.any_eq_true]; exact ⟨gd c i, gd_mem h, by simpa using hx⟩
theorem cval_end {c a : List Int} {i : Nat} (hi : c.length ≤ i) (h : ∀ j, j < i → ¬ gd c j ∈ a) : cval c a = cvP c a i := by
  unfold cval cvP
  rw [if_neg, List.take_of_length_le hi]
  intro hc
  obtain ⟨x, hx, hxa⟩ := List.any_eq_true.1 hc
  obtain ⟨j, hj, rfl⟩ := mem_gd hx
  exact h j (by omega) (by simpa using hxa)
theorem clB_of {vars : Int} {c : List Int} (hv : 0 ≤ vars ∧ vars ≤ 12) (hs : Strict c) (hl : ∀ x ∈ c, litB vars x = true) : clB vars c = true := by
  refine clB_true (inR_spec.2 hv) fun j hj => ?_
  unfold okC
  rw [hl _ (gd_mem hj), Bool.true_and, Bool.or_eq_true, decide_eq_true_iff, decide_eq_true_iff]
  rcases Nat.eq_zero_or_pos j with h | h
  · exact .inl h
  · right
    have := List.pairwise_iff_getElem.1 hs (j - 1) j (by omega) hj (by omega)
    unfold gd
    rw [List.getElem?_eq_getElem hj, List.getElem?_eq_getElem (by omega)]
    simpa using this
theorem wo_new {a : List Int} {l : Int} (h1 : ¬ l ∈ a) (h2 : ¬ -l ∈ a) : woS a (vr l) = a := by
  unfold woS
  rw [List.filter_eq_self]
  intro x hx
  simp only [decide_eq_true_eq]
  intro e
  rcases vr_same e with rfl | rfl
  · exact h1 hx
  · exact h2 hx
theorem set_new {vars : Int} {a : List Int} {l : Int} (hc : clB vars a = true) (hl : litB vars l = true) (h1 : ¬ l ∈ a) (h2 : ¬ -l ∈ a) : clB vars (setLit a l) = true ∧ (setLit a l).length = a.length + 1 := by
  unfold setLit
  rw [wo_new h1 h2]
  refine ⟨clB_of (clB_spec hc).1 (strict_put (clB_strict hc) fun y hy e => ?_) fun x hx => ?_, putL_length _ _⟩
  · rcases vr_same e with rfl | rfl
    · exact h1 hy
    · exact h2 hy
  · rcases mem_putL.1 hx with rfl | hx
    · exact hl
    · exact (clB_mem hc hx).1
end Go.Av
namespace Go.Av
open Go
theorem sls_cell (L : List (List Int)) : cellL (sls L) = true := by
  unfold sls cellL; simp [cellV]
theorem sls_append (L M : List (List Int)) : sls (L ++ M) = sls L ++ sls M := by simp [sls]
theorem sls_drop (L : List (List Int)) (k : Nat) : (sls L).drop k = sls (L.drop k) := by simp [sls]
theorem sls_take (L : List (List Int)) (k : Nat) : (sls L).take k = sls (L.take k) := by simp [sls]
theorem sls_noRef (L : List (List Int)) : noRefL (sls L) = true := noRefL_pure _ (sls_pureL L)
end Go.Av
namespace Go.Av
open Go
section
variable {P : Program} {N : Nat} {A : Bool} {σ τ : Sig} {ty : TypeId}
variable {e : Ctx} {val : Nat → Value} {w : World} {β : Place → Option (Nat × Nat)} {F : Nat → Prop} {x : AV} {d : Nat}
theorem Inv.freeze (h : Inv e (upd τ d x) val w β F) (hf : ∀ r y b s, node x r = some y → y.isOwn = true → β (d, r) = some (b, s) → e.w0.heap.size ≤ b) :
    Inv e (upd τ d (sh x)) val w β (fun b => F b ∨ ∃ r y s, node x r = some y ∧ y.isOwn = true ∧ β (d, r) = some (b, s)) := by
  have own : ∀ q, OwnAt (upd τ d (sh x)) q → q.1 ≠ d ∧ OwnAt (upd τ d x) q := fun q hq => by
    by_cases hi : q.1 = d
    · obtain ⟨y, hy, ho⟩ := hq
      rw [hi, upd_same] at hy
      rw [pure_own (pure_sh x) hy] at ho; cases ho
    · exact ⟨hi, (own_upd_other hi).2 ((own_upd_other hi).1 hq)⟩
  have hx := h.rep d
  rw [upd_same] at hx
  have ownx : ∀ r y, node x r = some y → y.isOwn = true → OwnAt (upd τ d x) (d, r) := fun r y hy ho => ⟨y, by rw [upd_same]; exact hy, ho⟩
  refine ⟨fun i => ?_, fun q q' b s s' hq hq' => h.disj q q' b s s' (own q hq).2 (own q' hq').2, fun q b s hq hb => ⟨?_, (h.sep q b s (own q hq).2 hb).2⟩, fun b hb => ?_, h.kept, h.grow, h.tame⟩
  · by_cases hi : i = d
    · subst hi
      rw [upd_same]
      exact hx.sh x (fun b hb => .inl hb) (fun r y b s hy ho hb => .inr ⟨r, y, s, hy, ho, by simpa using hb⟩)
    · have := h.rep i
      rw [upd_other _ _ hi] at this ⊢
      exact this.tr _ (fun b hb => ⟨.inl hb, rfl⟩) (fun _ _ _ _ => ⟨rfl, fun _ _ _ => rfl⟩) (fun _ _ => rfl)
  · rintro (hF | ⟨r, y, s', hy, ho, hb'⟩)
    · exact (h.sep q b s (own q hq).2 hb).1 hF
    · have := h.disj q (d, r) b s s' (own q hq).2 (ownx r y hy ho) hb hb'
      exact (own q hq).1 (by rw [this])
  · rcases hb with hb | ⟨r, y, s, hy, ho, hb⟩
    · exact h.fr b hb
    · refine ⟨h.own_lt (ownx r y hy ho) hb, fun hlt => ?_⟩
      have := hf r y b s hy ho hb
      omega
theorem q_sliceLitZ {t n sz : Nat} {zs cs : List AV} {parts : List (Nat × Operand)} (h : litTy P t = some (sz, zs)) (hsm : Nat.ble (n * sz) 16777216 = true)
    (hf : fillA (fun i => some (i * sz, sz)) (rep n zs) (parts.map fun x => (x.1, rd N σ x.2)) = some cs) (hl : Nat.beq cs.length (n * sz) = true) (hp : pureL cs = true) :
    QSem P N A (sliceLit t n parts) ty σ (slotsL (parts.map (·.2))) (.sl (shL cs) n) := by
  intro hA σ' hD gv e a w β F hi d o ho hty K Q hK
  obtain ⟨el, arr0, harr, hrun⟩ := run_lit h (Nat.le_of_ble_eq_true hsm)
  obtain ⟨cells, he, hc1, hc2, hc3⟩ := fill_spec (β := β) (F := F) (w := w) (parts.map fun x => (x.1, rd N σ x.2)) (parts.map fun x => (x.1, a.eval x.2)) _ arr0 cs (harr β F w) (by simp)
      (fun j i v hj => by
        rw [List.getElem?_map] at hj
        cases hp : parts[j]? with
        | none => rw [hp] at hj; cases hj
        | some x =>
          rw [hp] at hj
          simp only [Option.map_some, Option.some.injEq, Prod.mk.injEq] at hj
          obtain ⟨rfl, rfl⟩ := hj
          refine ⟨noOwn_rd _, a.eval x.2, (0, []), by rw [List.getElem?_map, hp]; rfl, ?_⟩
          have := rd_rep hi x.2 (0, [])
          rwa [rd_agree (fun i hi' => hD i (List.mem_flatMap.2 ⟨x.2, List.mem_map.2 ⟨x, List.mem_of_getElem? hp, rfl⟩, hi'⟩))] at this) hf
  have hr := hrun (parts.map fun x => (x.1, a.eval x.2)).toArray cells w (by simpa using he)
  obtain ⟨β', h'⟩ := hi.new_osl (us := cells.toList) (by simpa using hc1) hc3 hp el d (arr := cells) (sz := sz) (n := n) (capv := n) (cap := some n) (fun j x hx => hx) (by rw [hc1]; exact Nat.eq_of_beq_eq_true hl) (Nat.le_refl _) (fun c hc => by cases hc; rfl)
  have hfz := h'.freeze (fun r y b s hy hyo hb => by
    cases r with
    | nil =>
      have hrep := h'.rep d
      rw [upd_same, upd_same] at hrep
      simp only [Rep] at hrep
      rcases hrep with ⟨h1, _⟩ | ⟨_, b', _, _, _, h1, h2, _⟩
      · rw [h1] at hb; cases hb
      · rw [h1] at hb; cases hb
        simp only [Value.slice.injEq, Option.some.injEq, Addr.mk.injEq] at h2
        have := hi.grow
        omega
    | cons j r =>
      simp only [node, kids] at hy
      cases hc : cs[j]? with
      | none => rw [hc] at hy; cases hy
      | some c =>
        rw [hc] at hy
        rw [pure_own (pureL_mem hp (List.mem_of_getElem? hc)) hy] at hyo; cases hyo)
  refine wp_value (v := .slice (some ⟨w.heap.size, 0, none⟩) n n) (w' := w.alloc (.cells cells el)) ?_ (hK _ _ ⟨β', _, hfz⟩)
  simp only [execOp, ho, sliceLit, List.map_toArray, hr, Sem.run_bind, Sem.run_pure, Result.andThen_ok]
theorem call_coreZ {f : FuncId} {args : List AV} {res : AV} (hc : ACall P f args [] res []) (hp : pureL args = true) (hn : noSh res = true) (hr : noRef res = true) (h : Inv e σ val w β F) {vs : List Value}
    (hl : vs.length = args.length) (ha : RepL (fun _ => none) (lent σ β F) w args (0, []) 0 vs) (d : Nat) :
    Calls P f vs.toArray w fun en w' => ∃ v β' F', en = .returned v ∧ Inv e (upd (fun i => purgeV d (σ i)) d (sh res)) (upd val d v) w' β' F' := by
  have hinv : Inv ⟨w, fun _ => False, lent σ β F, []⟩ (argSig args []) (fun i => vs.getD i undef) w (fun _ => none) (lent σ β F) := by
    refine ⟨fun i => ?_, fun q q' b s s' hq => (noOwn_argSig hp q hq).elim, fun q b s hq => (noOwn_argSig hp q hq).elim, fun b hb => ⟨?_, fun _ => hb⟩, fun _ _ _ => rfl, Nat.le_refl _, Tame.refl _⟩
    · unfold argSig
      split
      · cases hx : args[i]? with
        | none => simp [Rep]
        | some c =>
          obtain ⟨u, hu, hru⟩ := RepL_iff.1 ha i c hx
          rw [List.getD_eq_getElem?_getD, hu]
          exact hru.pure_any (pureL_mem hp (List.mem_of_getElem? hx))
      · simp [Rep]
    · rcases hb with hb | ⟨q, s, hq, hb⟩
      · exact (h.fr b hb).1
      · exact h.own_lt hq hb
  refine (hc _ vs _ w _ _ hl (fun _ _ => rfl) hinv).mono fun en w' ⟨v, β', F', he, hi⟩ => ⟨v, ?_⟩
  have hkept : ∀ b, b < w.heap.size → w'.heap[b]? = w.heap[b]? := fun b hb => hi.kept b hb (fun h => h)
  have hI := h.more hkept hi.grow (h.tame.trans hi.tame hkept)
  have h0 : argSig [res] [] 0 = res := by simp [argSig, INH]
  have hge : ∀ r y b s, node res r = some y → y.isOwn = true → β' (0, r) = some (b, s) → w.heap.size ≤ b := fun r y b s hy ho hb => by
    have hs := hi.sep (0, r) b s ⟨y, by rw [h0]; exact hy, ho⟩ hb
    rcases hs.2 with h | h; exact h; exact h.elim
  have hdet : Det e σ w' β F res v (fun r => β' (0, r)) := by
    refine ⟨?_, refs_of_noRef res hr, ?_, ?_⟩
    · have := hi.rep 0
      rw [h0, upd_same] at this
      exact (this.noSh (G := F) res hn).tr _ (fun b hb => ⟨hb, rfl⟩) (fun r y _ _ => ⟨by simp, fun _ _ _ => rfl⟩) (fun q hq => by rw [refs_of_noRef res hr] at hq; cases hq)
    · intro r r' y y' b s s' hy ho hy' ho' hb hb'
      have := hi.disj (0, r) (0, r') b s s' ⟨y, by rw [h0]; exact hy, ho⟩ ⟨y', by rw [h0]; exact hy', ho'⟩ hb hb'
      simpa using this
    · intro r y b s hy ho hb
      have hge := hge r y b s hy ho hb
      exact ⟨fun hF => by have := (h.fr b hF).1; omega, .inl (Nat.le_trans h.grow hge), fun q s' hq hb' => by have := h.own_lt hq hb'; omega⟩
  exact ⟨_, _, he, (hI.attach d hdet).freeze (fun r y b s hy ho hb => Nat.le_trans h.grow (hge r y b s hy ho (by simpa using hb)))⟩
theorem q_callZ {f : FuncId} {xs : List Operand} {tys : Array TypeId} {vs args : List AV} {res : AV} (hf : hasBody P f = true) (hx : RdL N A σ xs vs) (hs : snapL σ vs = args) (hc : A = true → ACall P f args [] res [])
    (hn : noSh res = true) (hr : noRef res = true) : QSem P N A (fnCall f xs tys) ty σ (slotsL xs ++ refRoots vs) (sh res) := by
  intro hA σ' hD gv e a w β F hi d o ho hty K Q hK
  have hp : pureL args = true := by rw [← hs]; exact pure_snapL σ _
  obtain ⟨hrep, hlen, hno⟩ := RdL.rep hA hi (0, []) (j := 0) hx (agree_l hD)
  have hsn := hi.snapL (β0 := fun _ => none) _ (p' := (0, [])) hrep (fun i c hc => hno c (List.mem_of_getElem? hc))
  have e2 : snapL σ' vs = args := by rw [← hs]; exact snapL_congr _ fun q hq => hD q.1 (List.mem_append_right _ (refRoots_mem hq))
  rw [e2] at hsn
  have hl : (xs.map a.eval).length = args.length := by rw [← e2, snapL_eq, hlen]; simp
  refine upon_enter' (f := f) (args := (xs.map a.eval).toArray) ?_ ((call_coreZ (hc hA) hp hn hr hi hl hsn d).mono fun en w' ⟨v, β', F', he, hi'⟩ => ⟨v, he, hK _ _ ⟨β', F', hi'⟩⟩)
  simp [execOp, ho, fnCall, resolve, Deferred.ofValue, Act.eval, invoke, run_callFunc_body hf]
end
end Go.Av
namespace Go.Av
open Go
theorem sl_shZ {cs : List AV} {n m : Nat} {c : Option Nat} (h : pureL cs = true ∧ noNilL cs = true) : sh (.osl m cs n c) = .sl cs n := by simp only [sh, shL_id cs h.1 h.2]
end Go.Av
namespace Go.Av
open Go
def shT : AV → AV
  | .tup cs => .tup (shL cs)
  | x => sh x
theorem shT_own {x : AV} {r : List Nat} {y : AV} (h : node (shT x) r = some y) : y.isOwn = false := by
  cases x
  case tup cs =>
    cases r with
    | nil => simp [shT, node] at h; subst h; rfl
    | cons j r =>
      simp only [shT, node, kids] at h
      cases hc : (shL cs)[j]? with
      | none => rw [hc] at h; cases h
      | some c =>
        rw [hc] at h
        exact pure_own (pureL_mem (pure_shL cs) (List.mem_of_getElem? hc)) h
  all_goals exact pure_own (pure_sh _) h
theorem Rep.shT {x : AV} {F G : Nat → Prop} {w : World} {β β0 : Place → Option (Nat × Nat)} {p p' : Place} {v : Value} (h : Rep β F w x p v) (hF : ∀ b, F b → G b)
    (hG : ∀ r y b s, node x r = some y → y.isOwn = true → β (p.1, p.2 ++ r) = some (b, s) → G b) : Rep β0 G w (Av.shT x) p' v := by
  cases x
  case tup cs =>
    simp only [Rep] at h
    obtain ⟨vs, rfl, hl, h⟩ := h
    simp only [Av.shT, Rep]
    exact ⟨vs, rfl, by simp [shL_eq, hl], RepL.sh cs h hF (fun i c r y b s hc hy ho hb => hG (i :: r) y b s (by simp [node, kids, hc, hy]) ho (by simpa using hb))⟩
  all_goals exact h.sh _ hF hG
section
variable {P : Program} {N : Nat} {A : Bool} {σ τ : Sig} {ty : TypeId}
variable {e : Ctx} {val : Nat → Value} {w : World} {β : Place → Option (Nat × Nat)} {F : Nat → Prop} {x : AV} {d : Nat}
theorem Inv.freezeT (h : Inv e (upd τ d x) val w β F) (hf : ∀ r y b s, node x r = some y → y.isOwn = true → β (d, r) = some (b, s) → e.w0.heap.size ≤ b) :
    Inv e (upd τ d (shT x)) val w β (fun b => F b ∨ ∃ r y s, node x r = some y ∧ y.isOwn = true ∧ β (d, r) = some (b, s)) := by
  have own : ∀ q, OwnAt (upd τ d (shT x)) q → q.1 ≠ d ∧ OwnAt (upd τ d x) q := fun q hq => by
    by_cases hi : q.1 = d
    · obtain ⟨y, hy, ho⟩ := hq
      rw [hi, upd_same] at hy
      rw [shT_own hy] at ho; cases ho
    · exact ⟨hi, (own_upd_other hi).2 ((own_upd_other hi).1 hq)⟩
  have hx := h.rep d
  rw [upd_same] at hx
  have ownx : ∀ r y, node x r = some y → y.isOwn = true → OwnAt (upd τ d x) (d, r) := fun r y hy ho => ⟨y, by rw [upd_same]; exact hy, ho⟩
  refine ⟨fun i => ?_, fun q q' b s s' hq hq' => h.disj q q' b s s' (own q hq).2 (own q' hq').2, fun q b s hq hb => ⟨?_, (h.sep q b s (own q hq).2 hb).2⟩, fun b hb => ?_, h.kept, h.grow, h.tame⟩
  · by_cases hi : i = d
    · subst hi
      rw [upd_same]
      exact hx.shT (fun b hb => .inl hb) (fun r y b s hy ho hb => .inr ⟨r, y, s, hy, ho, by simpa using hb⟩)
    · have := h.rep i
      rw [upd_other _ _ hi] at this ⊢
      exact this.tr _ (fun b hb => ⟨.inl hb, rfl⟩) (fun _ _ _ _ => ⟨rfl, fun _ _ _ => rfl⟩) (fun _ _ => rfl)
  · rintro (hF | ⟨r, y, s', hy, ho, hb'⟩)
    · exact (h.sep q b s (own q hq).2 hb).1 hF
    · have := h.disj q (d, r) b s s' (own q hq).2 (ownx r y hy ho) hb hb'
      exact (own q hq).1 (by rw [this])
  · rcases hb with hb | ⟨r, y, s, hy, ho, hb⟩
    · exact h.fr b hb
    · refine ⟨h.own_lt (ownx r y hy ho) hb, fun hlt => ?_⟩
      have := hf r y b s hy ho hb
      omega
theorem call_coreFZ {f : FuncId} {args : List AV} {res : AV} (hc : ACall P f args [] res []) (hp : pureL args = true) (hr : noRef res = true) (h : Inv e σ val w β F) {vs : List Value}
    (hl : vs.length = args.length) (ha : RepL (fun _ => none) F w args (0, []) 0 vs) (d : Nat) :
    Calls P f vs.toArray w fun en w' => ∃ v β' F', en = .returned v ∧ Inv e (upd (fun i => purgeV d (σ i)) d (shT res)) (upd val d v) w' β' F' := by
  have hinv : Inv ⟨w, fun _ => False, F, []⟩ (argSig args []) (fun i => vs.getD i undef) w (fun _ => none) F := by
    refine ⟨fun i => ?_, fun q q' b s s' hq => (noOwn_argSig hp q hq).elim, fun q b s hq => (noOwn_argSig hp q hq).elim, fun b hb => ⟨(h.fr b hb).1, fun _ => hb⟩, fun _ _ _ => rfl, Nat.le_refl _, Tame.refl _⟩
    unfold argSig
    split
    · cases hx : args[i]? with
      | none => simp [Rep]
      | some c =>
        obtain ⟨u, hu, hru⟩ := RepL_iff.1 ha i c hx
        rw [List.getD_eq_getElem?_getD, hu]
        exact hru.pure_any (pureL_mem hp (List.mem_of_getElem? hx))
    · simp [Rep]
  refine (hc _ vs _ w _ _ hl (fun _ _ => rfl) hinv).mono fun en w' ⟨v, β', F', he, hi⟩ => ⟨v, ?_⟩
  have hkept : ∀ b, b < w.heap.size → w'.heap[b]? = w.heap[b]? := fun b hb => hi.kept b hb (fun h => h)
  have hF' : ∀ b, F' b → F b ∨ w.heap.size ≤ b := fun b hb => by
    rcases Nat.lt_or_ge b w.heap.size with hlt | hge
    · exact .inl ((hi.fr b hb).2 hlt)
    · exact .inr hge
  have hI : Inv e σ val w' β (fun b => F b ∨ F' b) := (h.more hkept hi.grow (h.tame.trans hi.tame hkept)).moreF (fun b hb => .inl hb) (fun b hb => by
    rcases hb with hb | hb
    · exact ⟨Nat.lt_of_lt_of_le (h.fr b hb).1 hi.grow, (h.fr b hb).2⟩
    · refine ⟨(hi.fr b hb).1, fun hlt => ?_⟩
      rcases hF' b hb with hb | hge
      · exact (h.fr b hb).2 hlt
      · have := h.grow; omega) (fun q b s hq hb hF => by
    rcases hF with hF | hF
    · exact (h.sep q b s hq hb).1 hF
    · rcases hF' b hF with hF | hge
      · exact (h.sep q b s hq hb).1 hF
      · have := h.own_lt hq hb; omega)
  have h0 : argSig [res] [] 0 = res := by simp [argSig, INH]
  have hge : ∀ r y b s, node res r = some y → y.isOwn = true → β' (0, r) = some (b, s) → w.heap.size ≤ b := fun r y b s hy ho hb => by
    have hs := hi.sep (0, r) b s ⟨y, by rw [h0]; exact hy, ho⟩ hb
    rcases hs.2 with h | h; exact h; exact h.elim
  have hdet : Det e σ w' β (fun b => F b ∨ F' b) res v (fun r => β' (0, r)) := by
    refine ⟨?_, refs_of_noRef res hr, ?_, ?_⟩
    · have := hi.rep 0
      rw [h0, upd_same] at this
      exact this.tr _ (fun b hb => ⟨.inr hb, rfl⟩) (fun r y _ _ => ⟨by simp, fun _ _ _ => rfl⟩) (fun q hq => by rw [refs_of_noRef res hr] at hq; cases hq)
    · intro r r' y y' b s s' hy ho hy' ho' hb hb'
      have := hi.disj (0, r) (0, r') b s s' ⟨y, by rw [h0]; exact hy, ho⟩ ⟨y', by rw [h0]; exact hy', ho'⟩ hb hb'
      simpa using this
    · intro r y b s hy ho hb
      have hs := hi.sep (0, r) b s ⟨y, by rw [h0]; exact hy, ho⟩ hb
      have hge := hge r y b s hy ho hb
      refine ⟨fun hF => ?_, .inl (Nat.le_trans h.grow hge), fun q s' hq hb' => by have := h.own_lt hq hb'; omega⟩
      rcases hF with hF | hF
      · have := (h.fr b hF).1; omega
      · exact hs.1 hF
  exact ⟨_, _, he, (hI.attach d hdet).freezeT (fun r y b s hy ho hb => Nat.le_trans h.grow (hge r y b s hy ho (by simpa using hb)))⟩
theorem q_callFZ {f : FuncId} {xs : List Operand} {tys : Array TypeId} {vs args : List AV} {res : AV} (hf : hasBody P f = true) (hx : RdL N A σ xs vs) (hs : snapL σ vs = args) (hc : A = true → ACall P f args [] res [])
    (hnr : noRefL vs = true) (hr : noRef res = true) : QSem P N A (fnCall f xs tys) ty σ (slotsL xs ++ refRoots vs) (shT res) := by
  intro hA σ' hD gv e a w β F hi d o ho hty K Q hK
  have hp : pureL args = true := by rw [← hs]; exact pure_snapL σ _
  obtain ⟨hrep, hlen, hno⟩ := RdL.rep hA hi (0, []) (j := 0) hx (agree_l hD)
  have hi0 : Inv e (fun _ => .undef) (valOf N gv a) w β F := hi.weak (fun i => by simp [Rep]) (fun q ⟨y, hy, hoy⟩ => by
    cases hr : q.2 with
    | nil => rw [hr] at hy; simp [node] at hy; subst hy; simp [AV.isOwn] at hoy
    | cons j r => rw [hr] at hy; simp [node, kids] at hy)
  have hsn := hi0.snapL (β0 := fun _ => none) _ (p' := (0, [])) hrep (fun i c hc => hno c (List.mem_of_getElem? hc))
  have e2 : snapL (fun _ => .undef) vs = args := by
    rw [← hs]
    exact snapL_congr _ fun q hq => by rw [refsL_of_noRef _ hnr] at hq; cases hq
  rw [e2] at hsn
  have hl : (xs.map a.eval).length = args.length := by rw [← e2, snapL_eq, hlen]; simp
  have hlent : ∀ b, lent (fun _ => .undef) β F b → F b := fun b hb => by
    rcases hb with hb | ⟨q, s, ⟨y, hy, hoy⟩, _⟩
    · exact hb
    · cases hr : q.2 with
      | nil => rw [hr] at hy; simp [node] at hy; subst hy; simp [AV.isOwn] at hoy
      | cons j r => rw [hr] at hy; simp [node, kids] at hy
  have hsn' : RepL (fun _ => none) F w args (0, []) 0 (xs.map a.eval) := hsn.tr _ (fun b hb => ⟨hlent b hb, rfl⟩) (fun i c r y hc hy ho => by
    rw [noOwn_pure (pureL_mem hp (List.mem_of_getElem? hc)) hy] at ho; cases ho) (fun _ _ _ _ => rfl)
  refine upon_enter' (f := f) (args := (xs.map a.eval).toArray) ?_ ((call_coreFZ (hc hA) hp hr hi hl hsn' d).mono fun en w' ⟨v, β', F', he, hi'⟩ => ⟨v, he, hK _ _ ⟨β', F', hi'⟩⟩)
  simp [execOp, ho, fnCall, resolve, Deferred.ofValue, Act.eval, invoke, run_callFunc_body hf]
end
end Go.Av
namespace Go.Av
open Go
theorem WeakL.refl : ∀ {cs : List AV}, WeakL cs cs
  | [] => trivial
  | _ :: _ => ⟨Weak.rfl, WeakL.refl⟩
theorem Weak.oslL {sz n n' : Nat} {cap : Option Nat} {cs ds : List AV} (h : WeakL cs ds) (hd : noRefL ds = true) (hn : n = n') : Weak (.osl sz cs n cap) (.osl sz ds n' none) := by
  subst hn
  refine ⟨fun β F w p v hr => ?_, fun r z hz ho => ?_⟩
  · simp only [Rep] at hr ⊢
    rcases hr with ⟨h1, h2, h3, h4, _⟩ | ⟨h0, b, capv, arr, t, h1, h2, h3, _, h5, h6, h7⟩
    · subst h3
      cases ds with
      | nil => exact .inl ⟨h1, h2, _root_.rfl, h4, fun c hc => by cases hc⟩
      | cons d ds => exact h.elim
    · exact .inr ⟨hd, b, capv, arr, t, h1, h2, h3, (fun c hc => by cases hc), h5, h6, h.repL h7⟩
  · cases r with
    | nil => exact ⟨.osl sz cs n cap, _root_.rfl, _root_.rfl⟩
    | cons i r =>
      simp only [node, kids] at hz ⊢
      cases hi : ds[i]? with
      | none => rw [hi] at hz; cases hz
      | some d =>
        rw [hi] at hz
        obtain ⟨c, z', h1, h2, h3⟩ := h.node hi hz ho
        exact ⟨z', by rw [h1]; exact h2, h3⟩
end Go.Av
namespace Go.Av
open Go Go.Sort
abbrev TN := Int × Int × Int × Int
theorem set_put {a : List Int} {l : Int} (h1 : ¬ l ∈ a) (h2 : ¬ -l ∈ a) : setLit a l = putL a l := by unfold setLit; rw [wo_new h1 h2]
end Go.Av
namespace Go.Av
open Go
section
variable {P : Program} {N : Nat} {A : Bool} {σ : Sig} {x y : Operand} {ty : TypeId} {o : Oper}
theorem v_slice3 {t sz off n l h m : Nat} {q : Place} {cap : Option Nat} {kl kh km : IntKind} {lo hi mx : Operand} (ht : elemSize P t = some sz) (hx : RdTo N A σ x (.rsl q sz off n cap)) (hl : RdTo N A σ lo (.int kl l)) (hh : RdTo N A σ hi (.int kh h)) (hm : RdTo N A σ mx (.int km m))
    (hb : A = true → l ≤ h ∧ h ≤ m ∧ m ≤ n) : VSem P N A (.slice t x (some lo) (some hi) (some mx)) ty σ (slots x ++ (slots lo ++ (slots hi ++ slots mx))) .undef :=
  ⟨noOwn_scalar rfl, fun hA σ' hD gv e ac w β F hi' p o' ho hty => by
    have ex := hx.rep hA (agree_l hD) hi' p
    have el := hl.rep hA (agree_l (agree_r hD)) hi' p
    have eh := hh.rep hA (agree_l (agree_r (agree_r hD))) hi' p
    have em := hm.rep hA (agree_r (agree_r (agree_r hD))) hi' p
    obtain ⟨h1, h2, h3⟩ := hb hA
    simp only [Rep] at ex el eh em
    obtain ⟨a, capv, exv, hcap⟩ : ∃ a capv, ac.eval x = .slice a n capv ∧ n ≤ capv := by
      rcases ex with ⟨_, ⟨a, ex⟩, hn, _⟩ | ⟨b, capv, _, ex, hn, _⟩
      · exact ⟨a, 0, by rw [ex, hn], by omega⟩
      · exact ⟨_, capv, ex, hn⟩
    obtain ⟨el', i, he, hi2, hs⟩ := elemSize_spec ht
    have b1 : m ≤ capv := by omega
    refine ⟨_, by simp [execOp, ho, exv, el, eh, em, Instr.sliceAt, Instr.slice, Instr.sliceBounds, Instr.sliceBound, asIntOf, run_underlying he, sizeOf, typeInfo, hi2, b1, h1, h2]; rfl, by simp [Rep]⟩⟩
theorem v_slice_over {t sz n l h M : Nat} {q : Place} {cap cap' : Option Nat} {cs : List AV} {lo hi : Option Operand} (ht : elemSize P t = some sz) (hx : RdTo N A σ x (.rsl q sz 0 n cap)) (hl : BdTo N A σ lo 0 l) (hh : BdTo N A σ hi n h)
    (hz : node (σ q.1) q.2 = some (.osl sz cs M cap')) (hsz : 0 < sz) (hb : A = true → l < h ∧ h ≤ M) : VSem P N A (.slice t x lo hi none) ty σ ((slots x ++ (slotsO lo ++ slotsO hi)) ++ [q.1]) (.rsl q sz (0 + l * sz) (h - l) none) :=
  ⟨noOwn_scalar rfl, fun hA σ' hD gv e ac w β F hi' p o' ho hty => by
    have ex := hx.rep hA (agree_l (agree_l hD)) hi' p
    have bl := hl.is hA (agree_l (agree_r (agree_l hD))) hi'
    have bh := hh.is hA (agree_r (agree_r (agree_l hD))) hi'
    obtain ⟨h1, h2⟩ := hb hA
    have hq : σ' q.1 = σ q.1 := hD q.1 (by simp)
    obtain ⟨u, hu⟩ := (hi'.rep q.1).sub (by rw [hq]; exact hz)
    have e1 : ((q.1, ([] : List Nat) ++ q.2) : Place) = q := by simp
    rw [e1] at hu
    simp only [Rep] at ex hu
    rcases ex with ⟨hq0, _, hn, _⟩ | ⟨b, capv, hq1, ex, hn, _⟩
    · rcases hu with ⟨_, _, _, hM, _⟩ | ⟨_, b', capv', arr, tt, hu1, _⟩
      · omega
      · rw [hq0] at hu1; cases hu1
    · rcases hu with ⟨hu0, _⟩ | ⟨_, b', capv', arr, tt, hu1, _, hle, _⟩
      · rw [hu0] at hq1; cases hq1
      · rw [hu1] at hq1
        simp only [Option.some.injEq, Prod.mk.injEq, Nat.zero_add] at hq1
        obtain ⟨rfl, hc⟩ := hq1
        have hcc : capv' = capv := Nat.eq_of_mul_eq_mul_right hsz hc
        subst hcc
        refine ⟨_, by simp [execOp, ho, ex, run_slice_val ht bl bh (Nat.le_of_lt h1) (Nat.le_trans h2 hle)]; rfl, ?_⟩
        simp only [Rep]
        refine .inr ⟨b', capv' - l, by rw [hu1, Nat.zero_add, ← Nat.add_mul, Nat.add_sub_cancel' (by omega)], ?_, by omega, fun c hc' => by cases hc'⟩
        have : capv' ≠ l := by omega
        simp [this, add_none]⟩
def SelfIs (N : Nat) (σ : Sig) (y : Operand) (q : Place) (off m : Nat) : Prop := (∃ cap, RdTo N true σ y (.rsl q 1 off m cap) ∧ 0 < m) ∨ (RdTo N true σ y (.sl [] 0) ∧ m = 0)
theorem o_app_self {s d t bytes i off m M : Nat} {q : Place} {cap cap' : Option Nat} {cs : List AV} {y' : AV} (ho : o.op = appCall (.tmp s) y t) (ht : appTy P t = some (1, bytes)) (hd : o.dst = some d) (hN : d < N) (hsN : s < N) (hsq : s ≠ q.1) (hdq : d ≠ q.1) (hds : d ≠ s)
    (hs : σ s = .rsl q 1 0 i cap) (hy : SelfIs N σ y q off m) (hz : node (σ q.1) q.2 = some (.osl 1 cs M cap')) (hr : refs (σ q.1) = []) (hp : pureL cs = true) (hc : cellL cs = true)
    (hb : i + m ≤ M ∧ M ≤ cs.length ∧ off + m ≤ cs.length ∧ 0 < M) (hres : setNode (σ q.1) q.2 (.osl 1 (setL cs i ((cs.drop off).take m)) M cap') = y') :
    OStep P N o σ (upd (upd σ q.1 y') d (.rsl q 1 0 (i + m) none)) := by
  intro gv e a w ⟨hdf, hsz, β, F, hi⟩ K Q hK
  obtain ⟨el, h1, h2, h3⟩ := appTy_spec ht
  obtain ⟨b1, b2, b3, b4⟩ := hb
  have hq : blk σ q = some cs := by unfold blk; rw [hz]
  have hsv : valOf N gv a s = a.eval (.tmp s) := by simp [valOf, hsN, Act.eval]
  have hrs := hi.rep s
  rw [hs, hsv] at hrs
  obtain ⟨u, hu⟩ := (hi.rep q.1).sub hz
  have e1 : ((q.1, ([] : List Nat) ++ q.2) : Place) = q := by simp
  rw [e1] at hu
  simp only [Rep] at hrs hu
  rcases hi.block hq with ⟨hb2, hb3⟩ | ⟨b, s2, arr, tt, hb2, hh, hrc, hnr⟩
  · rw [hb3] at b2; simp at b2; omega
  rcases hu with ⟨hu0, _⟩ | ⟨_, bq, capq, arrq, ttq, hu1, _, hle, _, hhq, hszq, _⟩
  · rw [hu0] at hb2; cases hb2
  rw [hb2] at hu1
  simp only [Option.some.injEq, Prod.mk.injEq] at hu1
  obtain ⟨rfl, hs2⟩ := hu1
  rw [hh] at hhq
  simp only [Option.some.injEq, Obj.cells.injEq] at hhq
  obtain ⟨rfl, rfl, _⟩ := hhq
  rcases hrs with ⟨h0, _⟩ | ⟨bs, capv, hs1, hsl, hile, _⟩
  · rw [h0] at hb2; cases hb2
  rw [hb2] at hs1
  simp only [Option.some.injEq, Prod.mk.injEq] at hs1
  obtain ⟨rfl, hs3⟩ := hs1
  have hcq : capv = capq := by omega
  subst hcq
  have hal : cs.length ≤ arr.size := by have := hrc.len; simpa using this
  obtain ⟨ii, hii, hisz, _⟩ : ∃ ii : TypeInfo, P.info? el = some ii ∧ ii.size = 1 ∧ True := by
    cases hie : P.info? el with
    | none => rw [hie] at h2; simp at h2
    | some ii => rw [hie] at h2; simp at h2; exact ⟨ii, rfl, h2.1, trivial⟩
  have hnl : ((arr.toList.drop off).take m).length = m := by simp; omega
  have hrn : RepL β F w ((cs.drop off).take m) (0, []) 0 ((arr.toList.drop off).take m) := RepL_iff.2 fun j c hc' => by
    rw [List.getElem?_take] at hc'
    split at hc'
    · rename_i hj
      rw [List.getElem?_drop] at hc'
      obtain ⟨v, hv, hrv⟩ := RepL_iff.1 hrc _ c hc'
      exact ⟨v, by rw [List.getElem?_take_of_lt hj, List.getElem?_drop]; exact hv, hrv.pure_any (pureL_mem hp (List.mem_of_getElem? hc'))⟩
    · cases hc'
  have hcl : ((cs.drop off).take m).length = m := by simp; omega
  have hcc : cellL ((cs.drop off).take m) = true := by
    simp only [cellL, List.all_eq_true] at hc ⊢
    exact fun c hc' => hc c (List.mem_of_mem_drop (List.mem_of_mem_take hc'))
  have hone := ones_of hrn (by rw [hnl, hcl]) hcc
  obtain ⟨ax, c, hyv, hnews⟩ : ∃ ax c, a.eval y = .slice ax m c ∧ ((arr.toList.drop off).take m ≠ [] → ∃ b', ax = some b' ∧ ∀ j v, ((arr.toList.drop off).take m)[j]? = some v → w.cell? (b'.add j) = some v) := by
    rcases hy with ⟨cy, hy, hm⟩ | ⟨hy, hm⟩
    · have ey := hy.rep rfl (fun _ _ => rfl) hi (0, [])
      simp only [Rep] at ey
      rcases ey with ⟨_, _, hm0, _⟩ | ⟨by', cv, hy1, ey, _⟩
      · omega
      · rw [hb2] at hy1
        simp only [Option.some.injEq, Prod.mk.injEq] at hy1
        obtain ⟨rfl, _⟩ := hy1
        refine ⟨_, cv, ey, fun _ => ⟨_, rfl, fun j v hv => ?_⟩⟩
        rw [add_none, cell_of hh]
        have hjm : j < m := by
          have := (List.getElem?_eq_some_iff.1 hv).1; omega
        rw [List.getElem?_take_of_lt hjm, List.getElem?_drop] at hv
        simpa using hv
    · have ey := hy.rep rfl (fun _ _ => rfl) hi (0, [])
      simp only [Rep] at ey
      obtain ⟨_, ad, cv, ey, _⟩ := ey
      subst hm
      exact ⟨ad, cv, ey, fun h => absurd (by simp) h⟩
  have hrun := run_append_in (P := P) w t o.type el tt ii h1 hii b i capv arr hh ax m c ((arr.toList.drop off).take m) (by rw [hnl, hisz, Nat.mul_one]) hnews hone (by omega) (by rw [hnl, hisz]; omega)
  rw [hisz, Nat.mul_one] at hrun
  have hdet : Det e σ w β F (.agg ((cs.drop off).take m)) (.agg ((arr.toList.drop off).take m).toArray) (same q i β) := Det.pure (p := (0, [])) (by simp only [Rep]; exact ⟨_, rfl, by rw [hnl, hcl], hrn⟩) (by
    simp only [pureV]; exact pureL_sub hp _ _)
  obtain ⟨β', h⟩ := hi.store (z := .osl 1 cs M cap') (cs := cs) hz rfl rfl hb2 hh hr hdet (noRefL_pure _ (pureL_sub hp _ _)) hnr (by rw [hcl]; omega) (σ1 := σ) (fun i _ => .inr ⟨rfl, fun q' _ => under_same⟩)
  have h : Inv e (upd σ q.1 y') (valOf N gv a) (w.setRow b (spliceV arr.toList i ((arr.toList.drop off).take m)).toArray) β' F := by rw [← hres]; exact h
  have hsp : spliceV arr.toList i ((arr.toList.drop off).take m) = arr.toList.take i ++ (arr.toList.drop off).take m ++ arr.toList.drop (i + ((arr.toList.drop off).take m).length) := rfl
  rw [← hsp] at hrun
  have hs' := h.rep s
  rw [upd_other _ _ hsq, hs, hsv] at hs'
  simp only [Rep] at hs'
  have hset : Rep β' F (w.setRow b (spliceV arr.toList i ((arr.toList.drop off).take m)).toArray) (.rsl q 1 0 (i + m) none) (d, []) (.slice (some ⟨b, 0, none⟩) (i + m) capv) := by
    simp only [Rep]
    rw [hsl] at hs'
    rcases hs' with ⟨_, ⟨a0, ha0⟩, _⟩ | ⟨b9, capv9, hb9, hv9, hle9, _⟩
    · simp only [Value.slice.injEq] at ha0
      omega
    · simp only [Value.slice.injEq, Option.some.injEq, Addr.mk.injEq] at hv9
      obtain ⟨⟨rfl, _⟩, _, rfl⟩ := hv9
      exact .inr ⟨_, _, hb9, rfl, by omega, fun c hc' => by cases hc'⟩
  have hfin := h.set d hset (noOwn_scalar rfl)
  rw [← valOf_put hsz hN] at hfin
  exact wp_value (run_app ho (by rw [hsl, hyv]; exact hrun)) (hK _ _ ⟨by rw [hd]; exact hdf, by rw [hd, size_put]; exact hsz, β', F, by rw [hd]; exact hfin⟩)
end
end Go.Av
namespace Go.Av
open Go
theorem setL_app : ∀ (c z A B : List AV), z.length = c.length → setL (A ++ (z ++ B)) A.length c = A ++ (c ++ B)
  | [], z, A, B, h => by
    have : z = [] := List.eq_nil_of_length_eq_zero (by simpa using h)
    subst this; rfl
  | x :: c, [], A, B, h => by simp at h
  | x :: c, y :: z, A, B, h => by
    simp only [setL]
    rw [List.set_append_right _ _ (Nat.le_refl _), Nat.sub_self]
    have := setL_app c z (A ++ [x]) B (by simpa using h)
    simp only [List.length_append, List.length_singleton, List.append_assoc, List.singleton_append] at this
    simpa using this
end Go.Av
namespace Go.Av
open Go Go.Proofs
theorem es25 : elemSize Tryz.prog 25 = some 1 := by kernel_rfl
theorem sb3 : (Tryz.prog.info? 3).map (fun i => (i.size, i.bytes)) = some (1, 8) := by kernel_rfl
theorem us25 : Tryz.prog.underlying 25 = some (.slice 3) := by kernel_rfl
theorem zc3 : zeroCells Tryz.prog 3 = some [.int .i64 0] := by kernel_rfl
theorem sl25 : isSlice Tryz.prog 25 = true := by kernel_rfl
theorem ok_stepF {p : Nat → Bool} {i : Nat} (h : ∀ j, j < i → p j = false) (hi : p i = false) : ∀ j, j < i + 1 → p j = false := fun j hj => by
  rcases Nat.lt_or_ge j i with h' | h'
  · exact h j h'
  · obtain rfl : j = i := by omega
    exact hi
end Go.Av
namespace Go.Av
open Go
def one (n m : Nat) : List Int := (List.replicate n 0).set m 1
end Go.Av
namespace Go.Av
open Go Go.Proofs
theorem hb113 : hasBody Tryz.prog 113 = true := by kernel_rfl
theorem hb114 : hasBody Tryz.prog 114 = true := by kernel_rfl
theorem hb117 : hasBody Tryz.prog 117 = true := by kernel_rfl
theorem hb118 : hasBody Tryz.prog 118 = true := by kernel_rfl
theorem hb119 : hasBody Tryz.prog 119 = true := by kernel_rfl
theorem hb76 : hasBody Tryz.prog 76 = true := by kernel_rfl
theorem l2Vars_c (n : Int) : ACall Tryz.prog 113 [.int .i64 n] [] (.bool (inR n 0 12)) [] := by
 refine ACall.intro Tryz.func113 rfl (N := 5) rfl (by decide) (by simp) ?_
 refine aq ?_
 refine ra (.bool _) ?_
 refine r_nil ?_
 refine aq ?_
 refine rm (.int _ _) ?_
 refine rn (v := .bool _) (q_call (vs := [.int _ _, .int _ _, .int _ _]) (args := [.int .i64 _, .int .i64 _, .int .i64 _]) hb112 ⟨il, il, il, trivial⟩ rfl (fun hA => l1In_c _ _ _) rfl rfl) ?_
 refine ra (.bool _) ?_
 refine r_nil ?_
 refine a_ret ?_
 refine ret1 Tryz.results113 (by decide) (by decide) (Weak.of_eq (bool_eq ?_)) rfl Leaves.nil
 rfl
theorem varsOk_c (n : Int) : ACall Tryz.prog 117 [.int .i64 n] [] (.bool (inR n 0 12)) [] := by
 refine ACall.intro Tryz.func117 rfl (N := 5) rfl (by decide) (by simp) ?_
 refine aq ?_
 refine ra (.bool _) ?_
 refine r_nil ?_
 refine aq ?_
 refine rm (.int _ _) ?_
 refine rn (v := .bool _) (q_call (vs := [.int _ _, .int _ _, .int _ _]) (args := [.int .i64 _, .int .i64 _, .int .i64 _]) hb82 ⟨il, il, il, trivial⟩ rfl (fun hA => within_c _ _ _) rfl rfl) ?_
 refine ra (.bool _) ?_
 refine r_nil ?_
 refine a_ret ?_
 refine ret1 Tryz.results117 (by decide) (by decide) (Weak.of_eq (bool_eq ?_)) rfl Leaves.nil
 rfl
theorem l2Var_c (l : Int) (h : -9223372036854775807 ≤ l ∧ l ≤ 9223372036854775807) : ACall Tryz.prog 76 [.int .i64 l] [] (.int .i64 (vr l)) [] := by
 refine ACall.intro Tryz.func76 rfl (N := 8) rfl (by decide) (by simp) ?_
 refine aq ?_
 refine ra (.int _ _) ?_
 refine r_nil ?_
 refine a_seq ?_
 refine aq ?_
 refine rm (.int _ _) ?_
 refine rv (v := .bool _) (v_lss il il) ?_
 refine r_nil ?_
 refine a_cond rfl (fun ht4 => ?_) (fun ht4 => ?_)
 ·
  refine aq ?_
  refine rm (.int _ _) ?_
  refine rv (v := .int _ _) (v_neg il (fun _ => by omega)) ?_
  refine ra (.int _ _) ?_
  refine r_nil ?_
  refine a_ret ?_
  refine ret1 Tryz.results76 (by decide) (by decide) (Weak.of_eq (int_eq ?_)) rfl Leaves.nil
  unfold vr; simp at ht4; rw [if_pos ht4]
 ·
  refine a_skip ?_
  refine aq ?_
  refine rm (.int _ _) ?_
  refine ra (.int _ _) ?_
  refine r_nil ?_
  refine a_ret ?_
  refine ret1 Tryz.results76 (by decide) (by decide) (Weak.of_eq (int_eq ?_)) rfl Leaves.nil
  unfold vr; simp at ht4; rw [if_neg (by omega)]
theorem abs_c (l : Int) (hl : -9223372036854775808 ≤ l ∧ l ≤ 9223372036854775807) : ACall Tryz.prog 119 [.int .i64 l] [] (.int .i64 (absW l)) [] := by
 refine ACall.intro Tryz.func119 rfl (N := 7) rfl (by decide) (by simp) ?_
 refine aq ?_
 refine ra (.int _ _) ?_
 refine r_nil ?_
 refine aq ?_
 refine rm (.int _ _) ?_
 refine rm (.int _ _) ?_
 refine rv (v := .int _ _) (v_negw il (fun _ => by omega)) ?_
 refine rv (v := .int _ _) (v_max il il) ?_
 refine ra (.int _ _) ?_
 refine r_nil ?_
 refine a_ret ?_
 refine ret1 Tryz.results119 (by decide) (by decide) (Weak.of_eq (int_eq ?_)) rfl Leaves.nil
 rfl
theorem l2Lit_c (vars l : Int) (hv : -9223372036854775807 ≤ vars ∧ vars ≤ 9223372036854775807) : ACall Tryz.prog 114 [.int .i64 vars, .int .i64 l] [] (.bool (litB vars l)) [] := by
 refine ACall.intro Tryz.func114 rfl (N := 14) rfl (by decide) (by simp) ?_
 refine aq ?_
 refine ra (.bool _) ?_
 refine r_nil ?_
 refine aq ?_
 refine rm (.int _ _) ?_
 refine rm (.int _ _) ?_
 refine rv (v := .int _ _) (v_neg il (fun _ => by omega)) ?_
 refine rm (.int _ _) ?_
 refine rn (v := .bool _) (q_call (vs := [.int _ _, .int _ _, .int _ _]) (args := [.int .i64 _, .int .i64 _, .int .i64 _]) hb112 ⟨il, il, il, trivial⟩ rfl (fun hA => l1In_c _ _ _) rfl rfl) ?_
 refine rm (.bool _) ?_
 refine rg (v := .int _ _) (v_move il nf) ?_
 refine r_gval (v := .bool _) (v_neq (.inr ⟨_, rfl, fun h => h⟩) il) rfl rfl rfl (by decide) (.inl ⟨_, rfl, rfl⟩) rfl (by decide) ?_
 refine rv (v := .bool _) (v_pick (.inl rfl) (.inr ⟨_, rfl, fun h h2 => by simp_all⟩) (.inl rfl)) ?_
 refine ra (.bool _) ?_
 refine r_nil ?_
 refine a_ret ?_
 refine ret1 Tryz.results114 (by decide) (by decide) (Weak.of_eq (bool_eq ?_)) rfl Leaves.nil
 unfold litB; cases inR l (-vars) vars <;> simp
theorem isLit_c (vars l : Int) (hvars : -9223372036854775808 ≤ vars ∧ vars ≤ 9223372036854775807) : ACall Tryz.prog 118 [.int .i64 vars, .int .i64 l] [] (.bool (litW vars l)) [] := by
 refine ACall.intro Tryz.func118 rfl (N := 14) rfl (by decide) (by simp) ?_
 refine aq ?_
 refine ra (.bool _) ?_
 refine r_nil ?_
 refine aq ?_
 refine rm (.int _ _) ?_
 refine rv (v := .bool _) (v_neq il il) ?_
 refine rm (.bool _) ?_
 refine rg (v := .int _ _) (v_move il nf) ?_
 refine rg (v := .int _ _) (v_move il nf) ?_
 refine r_gval (v := .int _ _) (v_negw (.inr ⟨_, rfl, fun h => h⟩) (fun _ => by omega)) rfl rfl rfl (by decide) (.inl ⟨_, rfl, rfl⟩) rfl (by decide) ?_
 refine rg (v := .int _ _) (v_move il nf) ?_
 refine r_guard (v := .bool _) (q_call (vs := [.int _ _, .int _ _, .int _ _]) (args := [.int .i64 _, .int .i64 _, .int .i64 _]) hb82 ⟨.inr ⟨_, rfl, fun h => h⟩, .inr ⟨_, rfl, fun h => h⟩, .inr ⟨_, rfl, fun h => h⟩, trivial⟩ rfl (fun hA => within_c _ _ _) rfl rfl) rfl rfl rfl (by decide) (.inl ⟨_, rfl, rfl⟩) rfl (by decide) ?_
 refine rv (v := .bool _) (v_pick (.inl rfl) (.inr ⟨_, rfl, fun h h2 => by simp_all⟩) (.inl rfl)) ?_
 refine ra (.bool _) ?_
 refine r_nil ?_
 refine a_ret ?_
 refine ret1 Tryz.results118 (by decide) (by decide) (Weak.of_eq (bool_eq ?_)) rfl Leaves.nil
 unfold litW; cases h : decide (l ≠ 0) <;> simp_all
theorem l2Clause_c (vars : Int) (c : List Int) (hv : -9223372036854775808 ≤ vars ∧ vars ≤ 9223372036854775807) (hl : (c.length : Int) ≤ 9223372036854775807) (hb : ∀ j, -9223372036854775808 ≤ gd c j ∧ gd c j ≤ 9223372036854775807) : ACall Tryz.prog 71 [.int .i64 vars, .sl (icells c) c.length] [] (.bool (clB vars c)) [] := by
 refine ACall.intro Tryz.func71 rfl (N := 40) rfl (by decide) (by simp) ?_
 refine aq ?_
 refine ra (.bool _) ?_
 refine r_nil ?_
 refine a_seq ?_
 refine aq ?_
 refine rm (.int _ _) ?_
 refine rn (v := .bool _) (q_call (vs := [.int _ _]) (args := [.int .i64 _]) hb113 ⟨il, trivial⟩ rfl (fun hA => l2Vars_c _) rfl rfl) ?_
 refine rv (v := .bool _) (v_not il) ?_
 refine r_nil ?_
 refine a_cond rfl (fun ht8 => ?_) (fun ht8 => ?_)
 ·
  refine aq ?_
  refine ra (.bool _) ?_
  refine r_nil ?_
  refine a_ret ?_
  refine ret1 Tryz.results71 (by decide) (by decide) (Weak.of_eq (bool_eq ?_)) rfl Leaves.nil
  simp at ht8; unfold clB; rw [ht8]; rfl
 ·
  refine a_skip ?_
  refine a_seq ?_
  refine a_seq ?_
  have hv0 := inR_spec.1 (show inR vars 0 12 = true by simpa using ht8)
  refine a_region ?_
  refine ra (.int _ _) ?_
  refine r_nil ?_
  refine a_block ?_
  refine a_loop (X := Nat) (fun i => look [(0, .int .i64 vars), (1, .sl (icells c) c.length), (5, .int .i64 (i : Int))]) (fun i => i ≤ c.length ∧ ∀ j, j < i → okC vars c j = true) (fun i => c.length - i) 0 (ent_look ⟨wr, wr, wr, trivial⟩) ⟨Nat.zero_le _, fun j h => by omega⟩ (fun i hG => ?_)
  obtain ⟨h1, h2⟩ := hG
  refine a_seq ?_
  refine aq ?_
  refine rm (.int _ _) ?_
  refine rm (.sl _ _) ?_
  refine rv (v := .int _ _) (v_len_sl sl25 il) ?_
  refine rv (v := .bool _) (v_lss il il) ?_
  refine r_nil ?_
  refine a_cond rfl (fun ht12 => ?_) (fun ht12 => ?_)
  ·
   refine a_skip ?_
   refine a_seq ?_
   refine a_block ?_
   refine a_seq ?_
   have hi : i < c.length := (by simp at ht12; omega)
   have hbi := hb i
   have hpr : i ≠ 0 → litB vars (gd c (i - 1)) = true := fun h0 => by
     have := h2 (i - 1) (by omega)
     simp only [okC, Bool.and_eq_true] at this
     exact this.1
   refine a_region_any mixed (by kernel_rfl) ?_
   refine yv (v := .int _ _) (v_move il nf) ?_
   refine yv (v := .sl _ _) (v_move il nf) ?_
   refine yv (v := .int _ _) (v_move il nf) ?_
   refine yv (v := .pp _ _) (v_indexAddr_sl es25 il il (fun _ => ⟨by omega, by omega, icells_ne hi⟩)) ?_
   refine yv (v := .int .i64 (gd c i)) (v_load_pp ta3 il (fun _ => by rw [Nat.mul_one]; exact icells_get (gd_get hi)) rfl) ?_
   refine y_new (v := .bool _) (q_call (vs := [.int _ _, .int _ _]) (args := [.int .i64 _, .int .i64 _]) hb114 ⟨.inl rfl, .inl rfl, trivial⟩ rfl (fun hA => l2Lit_c _ _ (by omega)) rfl rfl) rfl rfl (by decide) (by kernel_rfl) ?_
   refine yv (v := .bool _) (v_not il) ?_
   refine yv (v := .bool _) (v_move il nf) ?_
   refine yh (v := .int _ _) (v_move il nf).quiet ?_
   refine yg (v := .bool _) (v_gtr (.inr ⟨_, rfl, fun h => h⟩) il).quiet rfl rfl rfl (by decide) (.inl ⟨_, rfl, rfl⟩) ?_
   refine yg (v := .bool _) (v_move (.inr ⟨_, rfl, fun h => h⟩) nf).quiet rfl rfl rfl (by decide) (.inl ⟨_, rfl, rfl⟩) ?_
   refine yg (v := .sl _ _) (v_move il nf).quiet rfl rfl rfl (by decide) (.inr ⟨_, _, rfl, rfl⟩) ?_
   refine yg (v := .int _ _) (v_move il nf).quiet rfl rfl rfl (by decide) (.inr ⟨_, _, rfl, rfl⟩) ?_
   refine yg (v := .int _ _) (v_sub (.inr ⟨_, rfl, fun h => h⟩) il (fun hA => by omega)).quiet rfl rfl rfl (by decide) (.inr ⟨_, _, rfl, rfl⟩) ?_
   refine yg (v := .pp _ _) (v_indexAddr_sl es25 (.inr ⟨_, rfl, fun h => h⟩) (.inr ⟨_, rfl, fun h => h⟩) (fun hA => ⟨by simp at hA; omega, by omega, icells_ne hi⟩)).quiet rfl rfl rfl (by decide) (.inr ⟨_, _, rfl, rfl⟩) ?_
   refine yg (v := .int .i64 (gd c (i - 1))) (v_load_pp ta3 (.inr ⟨_, rfl, fun h => h⟩) (fun hA => by simp at hA; rw [show ((i : Int) - 1).toNat = i - 1 by omega, Nat.mul_one]; exact icells_get (gd_get (by omega))) rfl).quiet rfl rfl rfl (by decide) (.inr ⟨_, _, rfl, rfl⟩) ?_
   refine yg (v := .int _ _) (q_call (vs := [.int _ _]) (args := [.int .i64 _]) hb76 ⟨.inr ⟨_, rfl, fun h => h⟩, trivial⟩ rfl (fun hA => l2Var_c _ (by simp at hA; have := litB_spec.1 (hpr (by omega)); omega)) rfl rfl) rfl rfl rfl (by decide) (.inr ⟨_, _, rfl, rfl⟩) ?_
   refine yg (v := .sl _ _) (v_move il nf).quiet rfl rfl rfl (by decide) (.inr ⟨_, _, rfl, rfl⟩) ?_
   refine yg (v := .int _ _) (v_move il nf).quiet rfl rfl rfl (by decide) (.inr ⟨_, _, rfl, rfl⟩) ?_
   refine yg (v := .pp _ _) (v_indexAddr_sl es25 (.inr ⟨_, rfl, fun h => h⟩) (.inr ⟨_, rfl, fun h => h⟩) (fun _ => ⟨by omega, by omega, icells_ne hi⟩)).quiet rfl rfl rfl (by decide) (.inr ⟨_, _, rfl, rfl⟩) ?_
   refine yg (v := .int .i64 (gd c i)) (v_load_pp ta3 (.inr ⟨_, rfl, fun h => h⟩) (fun _ => by rw [Nat.mul_one]; exact icells_get (gd_get hi)) rfl).quiet rfl rfl rfl (by decide) (.inr ⟨_, _, rfl, rfl⟩) ?_
   refine yg (v := .int _ _) (q_call (vs := [.int _ _]) (args := [.int .i64 _]) hb76 ⟨.inr ⟨_, rfl, fun h => h⟩, trivial⟩ rfl (fun hA => l2Var_c _ (by simp at hA; have := litB_spec.1 hA.1; omega)) rfl rfl) rfl rfl rfl (by decide) (.inr ⟨_, _, rfl, rfl⟩) ?_
   refine yg (v := .bool _) (v_geq (.inr ⟨_, rfl, fun h => h⟩) (.inr ⟨_, rfl, fun h => h⟩)).quiet rfl rfl rfl (by decide) (.inr ⟨_, _, rfl, rfl⟩) ?_
   refine yg (v := .bool _) (v_pick (.inr ⟨_, rfl, fun h => h⟩) (.inr ⟨_, rfl, fun h h2 => by simp_all⟩) (.inl rfl)).quiet rfl rfl rfl (by decide) (.inl ⟨_, rfl, rfl⟩) ?_
   refine yv (v := .bool _) (v_pick (.inl rfl) (.inl rfl) (.inr ⟨_, rfl, fun h h2 => by simp_all⟩)) ?_
   refine y_nil ?_
   refine a_cond rfl (fun ht39 => ?_) (fun ht39 => ?_)
   ·
    refine a_seq ?_
    refine a_pre (ent_look (L := [(0, .int _ _), (1, .sl _ _), (5, .int _ _)]) ⟨wr, wr, wr, trivial⟩) ?_
    refine a_region ?_
    refine ra (.bool _) ?_
    refine r_nil ?_
    refine a_ret ?_
    refine ret1 Tryz.results71 (by decide) (by decide) (Weak.of_eq (bool_eq ?_)) rfl Leaves.nil
    have hk : okC vars c i = false := by unfold okC; cases ha : litB vars (gd c i) <;> simp [ha] at ht39 ⊢ <;> omega
    rw [clB_false hi hk]
   ·
    refine a_skip ?_
    refine a_pre (ent_look (L := [(0, .int _ _), (1, .sl _ _), (5, .int _ _)]) ⟨wr, wr, wr, trivial⟩) ?_
    refine a_region ?_
    refine rm (.int _ _) ?_
    refine rv (v := .int _ _) (v_add il il (fun _ => by omega)) ?_
    refine ra (.int _ _) ?_
    refine r_nil ?_
    have hk : okC vars c i = true := by unfold okC; cases ha : litB vars (gd c i) <;> simp [ha] at ht39 ⊢ <;> omega
    refine ⟨i + 1, ent_look ⟨wr, wr, Weak.of_eq (int_eq (by omega)), trivial⟩, ⟨by omega, ok_step h2 hk⟩, by omega⟩
  ·
   refine a_exit ?_
   refine aq ?_
   refine ra (.bool _) ?_
   refine r_nil ?_
   refine a_ret ?_
   refine ret1 Tryz.results71 (by decide) (by decide) (Weak.of_eq (bool_eq ?_)) rfl Leaves.nil
   simp at ht12; rw [clB_true (inR_spec.2 hv0) (fun j hj => h2 j (by omega))]
theorem isClause_c (vars : Int) (c : List Int) (hv : -9223372036854775808 ≤ vars ∧ vars ≤ 9223372036854775807) (hl : (c.length : Int) ≤ 9223372036854775807) (hb : ∀ j, -9223372036854775808 ≤ gd c j ∧ gd c j ≤ 9223372036854775807) : ACall Tryz.prog 83 [.int .i64 vars, .sl (icells c) c.length] [] (.bool (clB vars c)) [] := by
 refine ACall.intro Tryz.func83 rfl (N := 36) rfl (by decide) (by simp) ?_
 refine aq ?_
 refine ra (.bool _) ?_
 refine r_nil ?_
 refine a_seq ?_
 refine aq ?_
 refine rm (.sl _ _) ?_
 refine rv (v := .int _ _) (v_len_sl sl25 il) ?_
 refine rm (.int _ _) ?_
 refine r_nil ?_
 refine a_block ?_
 refine a_loop (X := Nat) (fun i => look [(0, .int .i64 vars), (1, .sl (icells c) c.length), (7, .sl (icells c) c.length), (8, .int .i64 (c.length : Int)), (9, .int .i64 (i : Int))]) (fun i => i ≤ c.length ∧ ∀ j, j < i → okW vars c j = true) (fun i => c.length - i) 0 (ent_look ⟨wr, wr, wr, wr, wr, trivial⟩) ⟨Nat.zero_le _, fun j h => by omega⟩ (fun i hG => ?_)
 obtain ⟨h1, h2⟩ := hG
 refine aq ?_
 refine rv (v := .bool _) (v_lss il il) ?_
 refine r_nil ?_
 refine a_seq ?_
 refine a_cond rfl (fun ht10 => ?_) (fun ht10 => ?_)
 ·
  refine a_skip ?_
  refine a_seq ?_
  refine a_block ?_
  refine a_seq ?_
  have hi : i < c.length := (by simp at ht10; omega)
  have hbi := hb i
  have hbi2 := hb (i - 1)
  refine a_region ?_
  refine rm (.int _ _) ?_
  refine rv (v := .pp _ _) (v_indexAddr_sl es25 il il (fun _ => ⟨by omega, by omega, icells_ne hi⟩)) ?_
  refine rv (v := .int .i64 (gd c i)) (v_load_pp ta3 il (fun _ => by rw [Nat.mul_one]; exact icells_get (gd_get hi)) rfl) ?_
  refine ra (.int _ _) ?_
  refine ra (.int _ _) ?_
  refine r_nil ?_
  refine a_seq ?_
  refine a_region_any mixed (by kernel_rfl) ?_
  refine yv (v := .int _ _) (v_move il nf) ?_
  refine yv (v := .int _ _) (v_move il nf) ?_
  refine y_new (v := .bool _) (q_call (vs := [.int _ _, .int _ _]) (args := [.int .i64 _, .int .i64 _]) hb118 ⟨.inl rfl, .inl rfl, trivial⟩ rfl (fun hA => isLit_c _ _ (by omega)) rfl rfl) rfl rfl (by decide) (by kernel_rfl) ?_
  refine yv (v := .bool _) (v_not il) ?_
  refine yv (v := .bool _) (v_move il nf) ?_
  refine yh (v := .int _ _) (v_move il nf).quiet ?_
  refine yg (v := .bool _) (v_gtr (.inr ⟨_, rfl, fun h => h⟩) il).quiet rfl rfl rfl (by decide) (.inl ⟨_, rfl, rfl⟩) ?_
  refine yg (v := .bool _) (v_move (.inr ⟨_, rfl, fun h => h⟩) nf).quiet rfl rfl rfl (by decide) (.inl ⟨_, rfl, rfl⟩) ?_
  refine yg (v := .int _ _) (v_move il nf).quiet rfl rfl rfl (by decide) (.inr ⟨_, _, rfl, rfl⟩) ?_
  refine yg (v := .int _ _) (q_call (vs := [.int _ _]) (args := [.int .i64 _]) hb119 ⟨.inr ⟨_, rfl, fun h => h⟩, trivial⟩ rfl (fun hA => abs_c _ (by omega)) rfl rfl) rfl rfl rfl (by decide) (.inr ⟨_, _, rfl, rfl⟩) ?_
  refine yg (v := .sl _ _) (v_move il nf).quiet rfl rfl rfl (by decide) (.inr ⟨_, _, rfl, rfl⟩) ?_
  refine yg (v := .int _ _) (v_move il nf).quiet rfl rfl rfl (by decide) (.inr ⟨_, _, rfl, rfl⟩) ?_
  refine yg (v := .int _ _) (v_sub (.inr ⟨_, rfl, fun h => h⟩) il (fun hA => by omega)).quiet rfl rfl rfl (by decide) (.inr ⟨_, _, rfl, rfl⟩) ?_
  refine yg (v := .pp _ _) (v_indexAddr_sl es25 (.inr ⟨_, rfl, fun h => h⟩) (.inr ⟨_, rfl, fun h => h⟩) (fun hA => ⟨by simp at hA; omega, by omega, icells_ne hi⟩)).quiet rfl rfl rfl (by decide) (.inr ⟨_, _, rfl, rfl⟩) ?_
  refine yg (v := .int .i64 (gd c (i - 1))) (v_load_pp ta3 (.inr ⟨_, rfl, fun h => h⟩) (fun hA => by simp at hA; rw [show ((i : Int) - 1).toNat = i - 1 by omega, Nat.mul_one]; exact icells_get (gd_get (by omega))) rfl).quiet rfl rfl rfl (by decide) (.inr ⟨_, _, rfl, rfl⟩) ?_
  refine yg (v := .int _ _) (q_call (vs := [.int _ _]) (args := [.int .i64 _]) hb119 ⟨.inr ⟨_, rfl, fun h => h⟩, trivial⟩ rfl (fun hA => abs_c _ (by omega)) rfl rfl) rfl rfl rfl (by decide) (.inr ⟨_, _, rfl, rfl⟩) ?_
  refine yg (v := .bool _) (v_leq (.inr ⟨_, rfl, fun h => h⟩) (.inr ⟨_, rfl, fun h => h⟩)).quiet rfl rfl rfl (by decide) (.inr ⟨_, _, rfl, rfl⟩) ?_
  refine yg (v := .bool _) (v_pick (.inr ⟨_, rfl, fun h => h⟩) (.inr ⟨_, rfl, fun h h2 => by simp_all⟩) (.inl rfl)).quiet rfl rfl rfl (by decide) (.inl ⟨_, rfl, rfl⟩) ?_
  refine yv (v := .bool _) (v_pick (.inl rfl) (.inl rfl) (.inr ⟨_, rfl, fun h h2 => by simp_all⟩)) ?_
  refine y_nil ?_
  refine a_cond rfl (fun ht32 => ?_) (fun ht32 => ?_)
  ·
   refine a_seq ?_
   refine a_pre (ent_look (L := [(0, .int _ _), (1, .sl _ _), (7, .sl _ _), (8, .int _ _), (9, .int _ _)]) ⟨wr, wr, wr, wr, wr, trivial⟩) ?_
   refine a_region ?_
   refine ra (.bool _) ?_
   refine r_nil ?_
   refine a_ret ?_
   refine ret1 Tryz.results83 (by decide) (by decide) (Weak.of_eq (bool_eq ?_)) rfl Leaves.nil
   have hk : okW vars c i = false := by unfold okW; cases ha : litW vars (gd c i) <;> simp [ha] at ht32 ⊢ <;> omega
   rw [clB_bad hi h2 hk]
  ·
   refine a_skip ?_
   refine a_pre (ent_look (L := [(0, .int _ _), (1, .sl _ _), (7, .sl _ _), (8, .int _ _), (9, .int _ _)]) ⟨wr, wr, wr, wr, wr, trivial⟩) ?_
   refine a_region ?_
   refine rv (v := .int _ _) (v_add il il (fun _ => by omega)) ?_
   refine rm (.int _ _) ?_
   refine r_nil ?_
   have hk : okW vars c i = true := by unfold okW; cases ha : litW vars (gd c i) <;> simp [ha] at ht32 ⊢ <;> omega
   refine ⟨i + 1, ent_look ⟨wr, wr, wr, wr, Weak.of_eq (int_eq (by omega)), trivial⟩, ⟨by omega, ok_step h2 hk⟩, by omega⟩
 ·
  refine a_exit ?_
  refine aq ?_
  refine rm (.int _ _) ?_
  refine rn (v := .bool _) (q_call (vs := [.int _ _]) (args := [.int .i64 _]) hb117 ⟨il, trivial⟩ rfl (fun hA => varsOk_c _) rfl rfl) ?_
  refine ra (.bool _) ?_
  refine r_nil ?_
  refine a_ret ?_
  refine ret1 Tryz.results83 (by decide) (by decide) (Weak.of_eq (bool_eq ?_)) rfl Leaves.nil
  simp at ht10; rw [clB_end (fun j hj => h2 j (by omega))]
theorem toIntS_c (xs : List Int) (hl : (xs.length : Int) ≤ 8388608) : ACall Tryz.prog 8 [.sl (icells xs) xs.length] [] (.osl 1 (icells xs) xs.length none) [] := by
  refine ACall.intro Tryz.func8 rfl (N := 22) rfl (by decide) (by simp) ?_
  refine aq ?_
  refine ra .nils ?_
  refine r_nil ?_
  refine aq ?_
  refine rm (.sl _ _) ?_
  refine rv (v := .int _ _) (v_len_sl sl25 il) ?_
  refine rn (v := .osl _ _ _ _) (q_makeSlice us25 sb3 zc3 rfl (by decide) il il (fun _ => by omega)) ?_
  refine ra (.rsl _ _ _ _ _) ?_
  refine r_pre (ent_reloc_sl (t := 3) rfl rfl) ?_
  refine r_nil ?_
  refine a_seq ?_
  refine aq ?_
  refine ra (.int _ _) ?_
  refine r_nil ?_
  refine a_block ?_
  refine a_loop (X := Nat) (fun i => look [(0, .sl (icells xs) xs.length), (3, .osl 1 (icells (part 0 xs i)) xs.length (some xs.length)), (4, .int .i64 (i : Int))]) (fun i => i ≤ xs.length) (fun i => xs.length - i) 0 (ent_look ⟨wr, Weak.of_eq (osl_eq (by rw [part_zero, ← icells_rep])), wr, trivial⟩) (Nat.zero_le _) (fun i hG => ?_)
  refine a_seq ?_
  refine aq ?_
  refine rm (.int _ _) ?_
  refine rm (.sl _ _) ?_
  refine rv (v := .int _ _) (v_len_sl sl25 il) ?_
  refine rv (v := .bool _) (v_lss il il) ?_
  refine r_nil ?_
  refine a_cond rfl (fun ht11 => ?_) (fun ht11 => ?_)
  ·
    refine a_skip ?_
    refine a_seq ?_
    refine a_block ?_
    refine a_region ?_
    have hi : i < xs.length := (by simp at ht11; omega)
    have hpl : i * 1 + 1 ≤ (icells (part 0 xs i)).length := (by rw [icells_length, part_length _ _ (by omega)]; omega)
    have hset : (icells (part 0 xs i)).set (i * 1) (.int .i64 (gd xs i)) = icells (part 0 xs (i + 1)) := (by rw [Nat.mul_one, icells_set, part_set 0 xs (gd_get hi)])
    refine rm (.rsl _ _ _ _ _) ?_
    refine rm (.int _ _) ?_
    refine rm (.sl _ _) ?_
    refine rm (.int _ _) ?_
    refine rv (v := .pp _ _) (v_indexAddr_sl es25 il il (fun _ => ⟨by omega, by omega, icells_ne hi⟩)) ?_
    refine rv (v := .int .i64 (gd xs i)) (v_load_pp ta3 il (fun _ => by rw [Nat.mul_one]; exact icells_get (gd_get hi)) rfl) ?_
    refine rv (v := .rp _ _) (v_indexAddr_rsl0 es25 il il (fun _ => by omega)) ?_
    refine r_step rfl (o_store (v := .int _ _) (y' := .osl _ _ _ _) rfl rfl ta3 il il rfl rfl rfl rfl rfl rfl hpl (by decide) rfl (congrArg (fun c => AV.osl 1 c xs.length (some xs.length)) hset)) ?_
    refine r_nil ?_
    refine a_region ?_
    refine rm (.int _ _) ?_
    refine rv (v := .int _ _) (v_add il il (fun _ => by omega)) ?_
    refine ra (.int _ _) ?_
    refine r_nil ?_
    refine ⟨i + 1, ent_look ⟨wr, wr, Weak.of_eq (int_eq (by omega)), trivial⟩, by omega, by omega⟩
  ·
    refine a_exit ?_
    refine aq ?_
    refine rm (.rsl _ _ _ _ _) ?_
    refine ra (.rsl _ _ _ _ _) ?_
    refine r_pre (ent_reloc_sl (t := 2) rfl rfl) ?_
    refine r_nil ?_
    refine a_ret ?_
    refine ret1 Tryz.results8 (by decide) (by decide) (Weak.osl ?_ ?_) rfl Leaves.nil
    · simp at ht11; rw [part_full _ _ (by omega)]
    · rfl
theorem eqIntS_c (xs ys : List Int) (hl : (xs.length : Int) ≤ 9223372036854775807) : ACall Tryz.prog 12 [.sl (icells xs) xs.length, .sl (icells ys) ys.length] [] (.bool (decide (xs = ys))) [] := by
  refine ACall.intro Tryz.func12 rfl (N := 26) rfl (by decide) (by simp) ?_
  refine aq ?_
  refine ra (.bool _) ?_
  refine r_nil ?_
  refine a_seq ?_
  refine aq ?_
  refine rm (.sl _ _) ?_
  refine rv (v := .int _ _) (v_len_sl sl25 il) ?_
  refine rm (.sl _ _) ?_
  refine rv (v := .int _ _) (v_len_sl sl25 il) ?_
  refine rv (v := .bool _) (v_neq il il) ?_
  refine r_nil ?_
  refine a_cond rfl (fun ht10 => ?_) (fun ht10 => ?_)
  ·
    refine aq ?_
    refine ra (.bool _) ?_
    refine r_nil ?_
    refine a_ret ?_
    refine ret1 Tryz.results12 (by decide) (by decide) (Weak.of_eq (bool_eq ?_)) rfl Leaves.nil
    simp at ht10; exact (decide_eq_false (fun h => ht10 (by rw [h]))).symm
  ·
    refine a_skip ?_
    refine a_seq ?_
    refine aq ?_
    refine ra (.int _ _) ?_
    refine r_nil ?_
    refine a_block ?_
    refine a_loop (X := Nat) (fun i => look [(0, .sl (icells xs) xs.length), (1, .sl (icells ys) ys.length), (5, .int .i64 (i : Int))]) (fun i => i ≤ xs.length ∧ xs.length = ys.length ∧ xs.take i = ys.take i) (fun i => xs.length - i) 0 (ent_look ⟨wr, wr, wr, trivial⟩) ⟨Nat.zero_le _, by simp at ht10; omega, rfl⟩ (fun i hG => ?_)
    obtain ⟨h1, h2, h3⟩ := hG
    refine a_seq ?_
    refine aq ?_
    refine rm (.int _ _) ?_
    refine rm (.sl _ _) ?_
    refine rv (v := .int _ _) (v_len_sl sl25 il) ?_
    refine rv (v := .bool _) (v_lss il il) ?_
    refine r_nil ?_
    refine a_cond rfl (fun ht14 => ?_) (fun ht14 => ?_)
    ·
      refine a_skip ?_
      refine a_seq ?_
      refine a_block ?_
      refine a_seq ?_
      refine a_region_any mixed (by kernel_rfl) ?_
      have hi : i < xs.length := (by simp at ht14; omega)
      have hi2 : i < ys.length := (by omega)
      refine yv (v := .sl _ _) (v_move il nf) ?_
      refine yv (v := .int _ _) (v_move il nf) ?_
      refine yv (v := .pp _ _) (v_indexAddr_sl es25 il il (fun _ => ⟨by omega, by omega, icells_ne hi⟩)) ?_
      refine yv (v := .int .i64 (gd xs i)) (v_load_pp ta3 il (fun _ => by rw [Nat.mul_one]; exact icells_get (gd_get hi)) rfl) ?_
      refine yv (v := .sl _ _) (v_move il nf) ?_
      refine yv (v := .int _ _) (v_move il nf) ?_
      refine yv (v := .pp _ _) (v_indexAddr_sl es25 il il (fun _ => ⟨by omega, by omega, icells_ne hi2⟩)) ?_
      refine yv (v := .int .i64 (gd ys i)) (v_load_pp ta3 il (fun _ => by rw [Nat.mul_one]; exact icells_get (gd_get hi2)) rfl) ?_
      refine yv (v := .bool _) (v_neq il il) ?_
      refine y_nil ?_
      refine a_cond rfl (fun ht25 => ?_) (fun ht25 => ?_)
      ·
        refine aq ?_
        refine ra (.bool _) ?_
        refine r_nil ?_
        refine a_ret ?_
        refine ret1 Tryz.results12 (by decide) (by decide) (Weak.of_eq (bool_eq ?_)) rfl Leaves.nil
        simp at ht25; refine (decide_eq_false (fun h => ?_)).symm
        subst h
        simp at ht25
      ·
        refine a_skip ?_
        refine a_region ?_
        refine rm (.int _ _) ?_
        refine rv (v := .int _ _) (v_add il il (fun _ => by omega)) ?_
        refine ra (.int _ _) ?_
        refine r_nil ?_
        refine ⟨i + 1, ent_look ⟨wr, wr, Weak.of_eq (int_eq (by omega)), trivial⟩, ⟨by omega, h2, take_step hi (by omega) h3 (by rw [gd_elem hi, gd_elem (by omega)]; simpa using ht25)⟩, by omega⟩
    ·
      refine a_exit ?_
      refine aq ?_
      refine ra (.bool _) ?_
      refine r_nil ?_
      refine a_ret ?_
      refine ret1 Tryz.results12 (by decide) (by decide) (Weak.of_eq (bool_eq ?_)) rfl Leaves.nil
      simp at ht14; refine (decide_eq_true ?_).symm
      rw [List.take_of_length_le (by omega), List.take_of_length_le (by omega)] at h3; exact h3
theorem markIntS_c (xs : List Int) (k : Int) (h : -9000000000000000000 ≤ k ∧ k + xs.length ≤ 9223372036854775807 ∧ (xs.length : Int) ≤ 9223372036854775807) : ACall Tryz.prog 14 [.rsl (INH, []) 1 0 xs.length none, .int .i64 k] [.osl 1 (icells xs) xs.length none] (.int .i64 (k + xs.length)) [.osl 1 (icells (mkI k xs.length)) xs.length none] := by
  refine ACall.intro Tryz.func14 rfl (N := 19) rfl (by decide) (by simp) ?_
  refine aq ?_
  refine ra (.int _ _) ?_
  refine r_nil ?_
  refine a_seq ?_
  refine aq ?_
  refine ra (.int _ _) ?_
  refine r_nil ?_
  refine a_block ?_
  refine a_loop (X := Nat) (fun i => look [(0, .rsl (INH, []) 1 0 xs.length none), (1, .int .i64 (k + (i : Nat))), (5, .int .i64 (i : Int)), (INH, .osl 1 (icells (mkIPart k xs i)) xs.length none)]) (fun i => i ≤ xs.length) (fun i => xs.length - i) 0 (ent_look ⟨wr, Weak.of_eq (int_eq (by omega)), wr, Weak.of_eq (osl_eq (by rw [mkIPart_zero])), trivial⟩) (Nat.zero_le _) (fun i hG => ?_)
  refine a_seq ?_
  refine aq ?_
  refine rm (.int _ _) ?_
  refine rm (.rsl _ _ _ _ _) ?_
  refine rv (v := .int _ _) (v_len_rsl sl25 il) ?_
  refine rv (v := .bool _) (v_lss il il) ?_
  refine r_nil ?_
  refine a_cond rfl (fun ht9 => ?_) (fun ht9 => ?_)
  ·
    refine a_skip ?_
    refine a_seq ?_
    refine a_block ?_
    refine aq ?_
    have hi : i < xs.length := (by simp at ht9; omega)
    have hpl : i * 1 + 1 ≤ (icells (mkIPart k xs i)).length := (by rw [icells_length, mkIPart_length (by omega)]; omega)
    have hset : (icells (mkIPart k xs i)).set (i * 1) (.int .i64 (k + (i : Nat))) = icells (mkIPart k xs (i + 1)) := (by rw [Nat.mul_one, icells_set, ← mkIPart_set hi])
    refine rm (.rsl _ _ _ _ _) ?_
    refine rm (.int _ _) ?_
    refine rm (.int _ _) ?_
    refine rv (v := .rp _ _) (v_indexAddr_rsl0 es25 il il (fun _ => by omega)) ?_
    refine r_step rfl (o_store (v := .int _ _) (y' := .osl _ _ _ _) rfl rfl ta3 il il rfl rfl rfl rfl rfl rfl hpl (by decide) rfl (congrArg (fun c => AV.osl 1 c xs.length none) hset)) ?_
    refine r_nil ?_
    refine a_region ?_
    refine rm (.int _ _) ?_
    refine rv (v := .int _ _) (v_add il il (fun _ => by omega)) ?_
    refine ra (.int _ _) ?_
    refine r_nil ?_
    refine a_region ?_
    refine rm (.int _ _) ?_
    refine rv (v := .int _ _) (v_add il il (fun _ => by omega)) ?_
    refine ra (.int _ _) ?_
    refine r_nil ?_
    refine ⟨i + 1, ent_look ⟨wr, Weak.of_eq (int_eq (by omega)), Weak.of_eq (int_eq (by omega)), wr, trivial⟩, by omega, by omega⟩
  ·
    refine a_exit ?_
    refine aq ?_
    refine rm (.int _ _) ?_
    refine ra (.int _ _) ?_
    refine r_nil ?_
    refine a_ret ?_
    refine ret1 Tryz.results14 (by decide) (by decide) (Weak.of_eq (int_eq ?_)) rfl (Leaves.one (Weak.of_eq (osl_eq (by simp at ht9; rw [mkIPart_full (by omega)]))) rfl)
    simp at ht9; omega
theorem heldIntS_c (n : Nat) (k : Int) (h : -9000000000000000000 ≤ k ∧ k + n ≤ 9223372036854775807 ∧ (n : Int) ≤ 9223372036854775807) : ACall Tryz.prog 46 [.sl (icells (mkI k n)) n, .int .i64 k] [] (.int .i64 (k + n)) [] := by
  refine ACall.intro Tryz.func46 rfl (N := 21) rfl (by decide) (by simp) ?_
  refine aq ?_
  refine ra (.int _ _) ?_
  refine r_nil ?_
  refine a_seq ?_
  refine aq ?_
  refine ra (.int _ _) ?_
  refine r_nil ?_
  refine a_block ?_
  refine a_loop (X := Nat) (fun i => look [(0, .sl (icells (mkI k n)) n), (1, .int .i64 (k + (i : Nat))), (5, .int .i64 (i : Int))]) (fun i => i ≤ n) (fun i => n - i) 0 (ent_look ⟨wr, Weak.of_eq (int_eq (by omega)), wr, trivial⟩) (Nat.zero_le _) (fun i hG => ?_)
  refine a_seq ?_
  refine aq ?_
  refine rm (.int _ _) ?_
  refine rm (.sl _ _) ?_
  refine rv (v := .int _ _) (v_len_sl sl25 il) ?_
  refine rv (v := .bool _) (v_lss il il) ?_
  refine r_nil ?_
  refine a_cond rfl (fun ht9 => ?_) (fun ht9 => ?_)
  ·
    refine a_skip ?_
    refine a_seq ?_
    refine a_block ?_
    refine a_seq ?_
    refine aq ?_
    have hi : i < n := (by simp at ht9; omega)
    refine rm (.sl _ _) ?_
    refine rm (.int _ _) ?_
    refine rv (v := .pp _ _) (v_indexAddr_sl es25 il il (fun _ => ⟨by omega, by omega, icells_ne (i := i) (by rw [mkI_length]; exact hi)⟩)) ?_
    refine rv (v := .int .i64 (k + (i : Nat))) (v_load_pp ta3 il (fun _ => by rw [Nat.mul_one, ← mkI_get hi]; exact icells_get (gd_get (by rw [mkI_length]; exact hi))) rfl) ?_
    refine rm (.int _ _) ?_
    refine rv (v := .bool _) (v_neq il il) ?_
    refine r_nil ?_
    refine a_cond rfl (fun ht17 => ?_) (fun ht17 => ?_)
    ·
      refine aq ?_
      refine ra (.int _ _) ?_
      refine r_nil ?_
      refine a_ret ?_
      refine ret1 Tryz.results46 (by decide) (by decide) (Weak.of_eq (int_eq ?_)) rfl Leaves.nil
      exfalso; simp at ht17
    ·
      refine a_skip ?_
      refine a_region ?_
      refine rm (.int _ _) ?_
      refine rv (v := .int _ _) (v_add il il (fun _ => by omega)) ?_
      refine ra (.int _ _) ?_
      refine r_nil ?_
      refine a_region ?_
      refine rm (.int _ _) ?_
      refine rv (v := .int _ _) (v_add il il (fun _ => by omega)) ?_
      refine ra (.int _ _) ?_
      refine r_nil ?_
      refine ⟨i + 1, ent_look ⟨wr, Weak.of_eq (int_eq (by omega)), Weak.of_eq (int_eq (by omega)), trivial⟩, by omega, by omega⟩
  ·
    refine a_exit ?_
    refine aq ?_
    refine rm (.int _ _) ?_
    refine ra (.int _ _) ?_
    refine r_nil ?_
    refine a_ret ?_
    refine ret1 Tryz.results46 (by decide) (by decide) (Weak.of_eq (int_eq ?_)) rfl Leaves.nil
    simp at ht9; omega
theorem ap25 : appTy Tryz.prog 25 = some (1, 8) := by kernel_rfl
theorem lt25 : litTy Tryz.prog 25 = some (1, [.int .i64 0]) := by kernel_rfl
theorem idxI_c (f : Nat) (caps : List AV) (hb : hasBody Tryz.prog f = true) (hcap : capOk caps = true) (xs : List Int) (p : Nat → Bool) (hl : (xs.length : Int) ≤ 9223372036854775807) (hc : ∀ i, i < xs.length → ACall Tryz.prog f (.int .i64 (gd xs i) :: caps) [] (.bool (p i)) []) : ACall Tryz.prog 147 [.sl (icells xs) xs.length, .fn f [] caps] [] (.int .i64 (fidx p xs.length)) [] := by
  refine ACall.intro Tryz.func147 rfl (N := 19) rfl (by decide) (by simp) ?_
  refine aq ?_
  refine ra (.int _ _) ?_
  refine r_nil ?_
  refine a_seq ?_
  refine aq ?_
  refine rm (.sl _ _) ?_
  refine rv (v := .int _ _) (v_len_sl sl25 il) ?_
  refine rm (.int _ _) ?_
  refine r_nil ?_
  refine a_block ?_
  refine a_loop (X := Nat) (fun i => look [(0, .sl (icells xs) xs.length), (1, .fn f [] caps), (7, .int .i64 (xs.length : Int)), (8, .int .i64 (i : Int))]) (fun i => i ≤ xs.length ∧ ∀ j, j < i → p j = false) (fun i => xs.length - i) 0 (ent_look ⟨wr, wr, wr, wr, trivial⟩) ⟨Nat.zero_le _, fun j h => by omega⟩ (fun i hG => ?_)
  obtain ⟨h1, h2⟩ := hG
  refine aq ?_
  refine rv (v := .bool _) (v_lss il il) ?_
  refine r_nil ?_
  refine a_seq ?_
  refine a_cond rfl (fun ht9 => ?_) (fun ht9 => ?_)
  ·
    refine a_skip ?_
    refine a_seq ?_
    refine a_block ?_
    refine aq ?_
    have hi : i < xs.length := (by simp at ht9; omega)
    refine rm (.int _ _) ?_
    refine ra (.int _ _) ?_
    refine r_nil ?_
    refine aq ?_
    refine rv (v := .fn _ _ _) (v_mv rfl) ?_
    refine rm (.sl _ _) ?_
    refine rm (.int _ _) ?_
    refine rv (v := .pp _ _) (v_indexAddr_sl es25 il il (fun _ => ⟨by omega, by omega, icells_ne hi⟩)) ?_
    refine rv (v := .int .i64 (gd xs i)) (v_load_pp ta3 il (fun _ => by rw [Nat.mul_one]; exact icells_get (gd_get hi)) rfl) ?_
    refine rn (v := .bool _) (q_clo (vs := [.int _ _]) (args := (.int _ _ :: caps)) hb il ⟨il, trivial⟩ (snap_clo1 hcap rfl) (fun hA => hc i hi) rfl rfl) ?_
    refine r_nil ?_
    refine a_cond rfl (fun ht16 => ?_) (fun ht16 => ?_)
    ·
      refine aq ?_
      refine rm (.int _ _) ?_
      refine ra (.int _ _) ?_
      refine r_nil ?_
      refine a_ret ?_
      refine ret1 Tryz.results147 (by decide) (by decide) (Weak.of_eq (int_eq ?_)) rfl Leaves.nil
      exact (fidx_found hi ht16 h2).symm
    ·
      refine a_skip ?_
      refine a_region ?_
      refine rv (v := .int _ _) (v_add il il (fun _ => by omega)) ?_
      refine rm (.int _ _) ?_
      refine r_nil ?_
      refine ⟨i + 1, ent_look ⟨wr, (Weak.of_eq (purge_fn hcap)), wr, Weak.of_eq (int_eq (by omega)), trivial⟩, ⟨by omega, ok_stepF h2 ht16⟩, by omega⟩
  ·
    refine a_exit ?_
    refine aq ?_
    refine ra (.int _ _) ?_
    refine r_nil ?_
    refine a_ret ?_
    refine ret1 Tryz.results147 (by decide) (by decide) (Weak.of_eq (int_eq ?_)) rfl Leaves.nil
    simp at ht9; exact (fidx_none (fun j hj => h2 j (by omega))).symm
theorem cloneI_c (xs : List Int) (n : Nat) (h : xs.length = n ∧ n ≤ 1048576) : ACall Tryz.prog 43 [.sl (icells xs) n] [] (.osl 1 (icells xs) n none) [] := by
  refine ACall.intro Tryz.func43 rfl (N := 8) rfl (by decide) (by simp) ?_
  refine aq ?_
  refine ra .nils ?_
  refine r_nil ?_
  refine a_seq ?_
  refine aq ?_
  refine rm (.sl _ _) ?_
  refine r_nileq rfl rfl us25 (.inl rfl) rfl (by decide) (fun b4 hb4 => ?_)
  refine r_nil ?_
  refine a_cond rfl (fun ht4 => ?_) (fun ht4 => ?_)
  ·
    refine aq ?_
    refine ra .nils ?_
    refine r_nil ?_
    refine a_pre (ent_nil (t := 2) (sz := 1) (cap := none) (.inl rfl) (fun _ h => by cases h)) ?_
    refine a_ret ?_
    refine ret1 Tryz.results43 (by decide) (by decide) (Weak.osl ?_ ?_) rfl Leaves.nil
    all_goals (have he := hb4 ht4)
    · exact he.symm
    · have := icells_length xs; rw [he] at this; simp at this; omega
  ·
    refine a_skip ?_
    refine aq ?_
    refine rn (v := .osl _ _ _ _) (q_sliceLit (n := 0) (parts := []) lt25 rfl rfl rfl rfl) ?_
    refine rm (.sl _ _) ?_
    refine r_step rfl (o_append rfl ap25 rfl (by decide) (by decide) rfl (src_sl (.inl rfl) (fun _ => by rw [icells_length]; omega) (ic_pureL _)) (ic_cell _) rfl (by omega)) ?_
    refine ra (.rsl _ _ _ _ _) ?_
    refine r_pre (ent_reloc_sl (t := 2) rfl rfl) ?_
    refine r_nil ?_
    refine a_ret ?_
    refine ret1 Tryz.results43 (by decide) (by decide) (Weak.osl ?_ ?_) rfl Leaves.nil
    · rfl
    · omega
theorem l1Own_c (xs : List Int) (n : Nat) (h : xs.length = n ∧ n ≤ 1048576) : ACall Tryz.prog 32 [.sl (icells xs) n] [] (.osl 1 (icells xs) n none) [] := by
  refine ACall.intro Tryz.func32 rfl (N := 6) rfl (by decide) (by simp) ?_
  refine aq ?_
  refine ra .nils ?_
  refine r_nil ?_
  refine aq ?_
  refine rn (v := .osl _ _ _ _) (q_sliceLit (n := 0) (parts := []) lt25 rfl rfl rfl rfl) ?_
  refine rm (.sl _ _) ?_
  refine r_step rfl (o_append rfl ap25 rfl (by decide) (by decide) rfl (src_sl (.inl rfl) (fun _ => by rw [icells_length]; omega) (ic_pureL _)) (ic_cell _) rfl (by omega)) ?_
  refine ra (.rsl _ _ _ _ _) ?_
  refine r_pre (ent_reloc_sl (t := 2) rfl rfl) ?_
  refine r_nil ?_
  refine a_ret ?_
  refine ret1 Tryz.results32 (by decide) (by decide) (Weak.osl ?_ ?_) rfl Leaves.nil
  · rfl
  · omega
end Go.Av
namespace Go.Av
open Go
abbrev PcT := Int × List (Int × Int) × Int × Int × Int × Int
end Go.Av
namespace Go.Av
open Go Go.Sort
def blcells (B : List Bool) : List AV := B.map .bool
theorem bl_len (B : List Bool) : (blcells B).length = B.length := by simp [blcells]
theorem bl_rep (n : Nat) : blcells (List.replicate n false) = rep n [.bool false] := by
 unfold blcells rep
 induction n with
 | zero => rfl
 | succ n ih => rw [List.replicate_succ, List.map_cons, ih, List.replicate_succ, List.flatten_cons]; rfl
theorem bl_set (B : List Bool) (i : Nat) (b : Bool) : (blcells B).set i (.bool b) = blcells (B.set i b) := by simp [blcells, List.map_set]
theorem bl_get {B : List Bool} {i : Nat} {b : Bool} (h : B[i]? = some b) : (blcells B)[i]? = some (.bool b) := by simp [blcells, h]
theorem bl_ne {B : List Bool} {i : Nat} (h : i < B.length) : blcells B ≠ [] := fun he => by
 have := bl_len B; rw [he] at this; simp at this; omega
theorem bl_noRef (B : List Bool) : noRefL (blcells B) = true := by
 induction B with
 | nil => rfl
 | cons b B ih => simpa [blcells, noRefL, noRef] using ih
end Go.Av
namespace Go.Av
open Go
section
variable {P : Program} {N : Nat} {o : Oper} {σ : Sig}
theorem o_store_keep {t off s y t8 off8 : Nat} {cs0 cs' : List AV} {g : Bool} {q : Place} {x : Operand} {z v y' : AV} (ho : o.op = .store t x (.tmp y)) (hd : o.dst = none) (ht : tyAgg P t = some (g, s)) (hx : RdTo N true σ x (.rp q off)) (hyN : y < N) (hy : σ y = v)
    (hyq : Nat.beq y q.1 = false) (hv : bigV v = true) (hn : noRefL (cellsOf v) = true) (hrv : refs v = [])
    (hz : node (σ q.1) q.2 = some z) (hzo : z.isOwn = true) (hc : cellL (cellsOf v) = true) (hs : (cellsOf v).length = s) (hl : off + s ≤ (kids z).length)
    (hr : refs (σ q.1) = []) (hres : setNode (σ q.1) q.2 (setKids z (setL (kids z) off (cellsOf v))) = y')
    (hk : σ t8 = .rp (q.1, []) off8) (h0 : σ q.1 = .op cs0) (h1 : y' = .op cs') : OStep P N o σ (upd (upd (fun i => purgeV q.1 (upd σ y .undef i)) q.1 y') t8 (.rp (q.1, []) off8)) := by
  intro gv e a w ⟨hdf, hsz, β, F, hi⟩ K Q hK
  have hyq' : y ≠ q.1 := fun h => by subst h; simp at hyq
  have ex := hx.rep rfl (fun _ _ => rfl) hi (0, [])
  obtain ⟨hi1, hd1⟩ := hi.detach_slot (t := y) (by rw [hy]; exact hrv)
  rw [hy] at hd1
  have hval : valOf N gv a y = a.eval (.tmp y) := by simp [valOf, hyN, Act.eval]
  rw [hval] at hd1
  obtain ⟨δ', hd2⟩ := hd1.cellsOf hv hn
  have hul := hd2.repL.1
  have hur := hd2.repL.2
  have hz1 : node (upd σ y .undef q.1) q.2 = some z := by rw [upd_other _ _ (Ne.symm hyq')]; exact hz
  have hr1 : refs (upd σ y .undef q.1) = [] := by rw [upd_other _ _ (Ne.symm hyq')]; exact hr
  have hq : blk (upd σ y .undef) q = some (kids z) := by
    unfold blk; rw [hz1]
    cases z <;> simp [AV.isOwn] at hzo <;> rfl
  simp only [Rep] at ex
  obtain ⟨b, s1, hb1, ex⟩ := ex
  rcases hi1.block hq with ⟨hb2, _⟩ | ⟨b2, s2, arr, tt, hb2, hh, hrc, hnr⟩
  · rw [hb1] at hb2; cases hb2
  · rw [hb1] at hb2
    simp only [Option.some.injEq, Prod.mk.injEq] at hb2
    obtain ⟨rfl, rfl⟩ := hb2
    have hcl := hrc.len
    simp only [Array.length_toList] at hcl
    have hrun := run_storeAt (b := b) (off := off) ht (v := a.eval (.tmp y)) (hul.trans hs) hh (by omega) (ones_of hur hul hc)
    obtain ⟨β', h⟩ := hi1.store (ns := cellsOf v) (off := off) (cs := kids z) hz1 hzo rfl hb1 hh hr1 hd2 hn hnr (by rw [← hul]; omega) (σ1 := fun i => purgeV q.1 (upd σ y .undef i)) (fun i _ => by
      rcases purgeV_or q.1 (upd σ y .undef i) with hp | hp
      · right
        refine ⟨hp, fun q' hq' => under_off fun hh => ?_⟩
        rw [← hp] at hq'
        exact refs_purge q' hq' hh.1
      · exact .inl hp)
    rw [upd_other _ _ (Ne.symm hyq'), hres] at h
    have r8 := hi.rep t8
    rw [hk] at r8
    simp only [Rep] at r8
    obtain ⟨b8, s8, hb8, hv8⟩ := r8
    have r0 := hi.rep q.1
    rw [h0] at r0
    simp only [Rep] at r0
    obtain ⟨_, b0, arr0, _, hb0, hv0, _⟩ := r0
    have r1 := h.rep q.1
    rw [upd_same, h1] at r1
    simp only [Rep] at r1
    obtain ⟨_, b9, arr9, _, hb9, hv9, _⟩ := r1
    rw [hb8] at hb0
    simp only [Option.some.injEq, Prod.mk.injEq] at hb0
    rw [hv0] at hv9
    have he : b9 = b8 := by
      have h3 := hb0.1
      simp at hv9
      omega
    have h9 := h.set t8 (x := .rp (q.1, []) off8) (v := valOf N gv a t8) (by simp only [Rep]; exact ⟨b9, arr9.size, hb9, by rw [hv8, he]⟩) (fun r y hy => by
      cases r with
      | nil => simp [node] at hy; subst hy; rfl
      | cons j r => simp [node, kids] at hy)
    rw [upd_self] at h9
    refine wp_unit (w' := w.setRow b (spliceV arr.toList off (a.eval (.tmp y)).cells.toList).toArray) ?_ (hK _ _ ⟨?_, ?_, β', F, ?_⟩)
    · simp only [execOp, ho, ex, hrun, Sem.run_bind, Sem.run_pure, Result.andThen_ok]
    · rw [hd]; exact hdf
    · rw [hd]; exact hsz
    · rw [hd]; exact h9
end
end Go.Av
namespace Go.Av
open Go
section
variable {e : Ctx} {σ σ' : Sig} {val val' : Nat → Value} {w w' : World} {β β' : Place → Option (Nat × Nat)} {F F' : Nat → Prop} {ds : List Deferred}
theorem Inv.own_cells (h : Inv e σ val w β F) {q : Place} {b s : Nat} (ho : OwnAt σ q) (hb : β q = some (b, s)) : ∃ arr t fz, w.heap[b]? = some (.cells arr t fz) := by
  obtain ⟨x, hx, ho⟩ := ho
  obtain ⟨u, hu⟩ := (h.rep q.1).sub hx
  have hb' : β (q.1, [] ++ q.2) = some (b, s) := by simpa using hb
  cases x <;> simp [AV.isOwn] at ho <;> simp only [Rep] at hu
  · rcases hu with ⟨h0, _⟩ | ⟨_, b', _, _, _, h0, _, _, _, hh, _⟩
    · rw [h0] at hb'; cases hb'
    · rw [h0] at hb'; cases hb'; exact ⟨_, _, _, hh⟩
  · obtain ⟨_, b', _, _, h0, _, hh, _⟩ := hu
    rw [h0] at hb'; cases hb'; exact ⟨_, _, _, hh⟩
def nonCells : Obj → Prop
  | .cells .. => False
  | _ => True
theorem Inv.putObj (h : Inv e σ val w β F) {l : Nat} {o o' : Obj} (hl : w.heap[l]? = some o) (hc : nonCells o) (_ : nonCells o') (hF : ¬ F l) (hk : e.w0.heap.size ≤ l) : Inv e σ val (w.putObj l o') β F := by
  have hlt : l < w.heap.size := (Array.getElem?_eq_some_iff.1 hl).1
  refine h.ext (fun b hb => World.putObj_heap_other (fun e => by subst e; exact hF hb)) (fun q b s hq hb => World.putObj_heap_other fun e => ?_) (fun b hb _ => World.putObj_heap_other (by omega)) (by simp) ?_
  · subst e
    obtain ⟨arr, t, fz, hh⟩ := h.own_cells hq hb
    rw [hl] at hh; cases hh; exact hc
  · exact h.tame
end
def LND : Nat := 2000000
section
variable {N : Nat} {e : Ctx} {σ σ' : Sig} {w w' : World} {β β' : Place → Option (Nat × Nat)} {F F' : Nat → Prop} {gv : Nat → Value} {a a' : Act}
def BaseOk (N : Nat) (τ : Sig) : List (Nat × AV) → Prop
  | [] => True
  | (i, v) :: L => (i < N ∧ (pureV v = true ∨ v = refd (LND + i, []) (τ (LND + i)))) ∧ BaseOk N τ L
def keysFrom (N : Nat) : List (Nat × AV) → Bool
  | [] => true
  | (i, _) :: L => decide (N ≤ i) && keysFrom N L
end
end Go.Av
namespace Go.Av
open Go
def MkOk (e : Ctx) (ds : List Deferred) (w : World) (F : Nat → Prop) : Prop :=
  ds = [] ∨ ∃ D, ds = [{ target := .collected D, args := #[] }] ∧ w.heap[D]? = some (.deferred (some [])) ∧ e.w0.heap.size ≤ D ∧ ¬ F D
structure AllM (N : Nat) (gv : Nat → Value) (e : Ctx) (σ : Sig) (a : Act) (w : World) : Prop where
  size : a.tmps.size = N
  inv : ∃ β F, MkOk e a.defers w F ∧ Inv e σ (valOf N gv a) w β F
def BCode (P : Program) (N : Nat) (m : Bool) (c : Code) (σ : Sig) (Φ : Exit → Sig → Prop) : Prop :=
  ∀ (gv : Nat → Value) (e : Ctx) (a : Act) (w : World), (m = false → a.defers = []) → AllM N gv e σ a w → ∀ Q : Exit → Act → World → Prop, (∀ x a' w' σ', Φ x σ' → AllM N gv e σ' a' w' → Q x a' w') → c.wp P Q a w
section
variable {P : Program} {N : Nat} {m : Bool} {σ σ' : Sig} {Φ : Exit → Sig → Prop} {c c' : Code}
theorem BCall.intro {f : FuncId} {fn : Func} {args objs objs2 : List AV} {res : AV} (hf : P.funcs[f]? = some fn) (hb : fn.body = some c) (hN : fn.ntmps = N) (hNI : N < INH) (ha : args.length ≤ N)
    (h : BCode P N false c (argSig args objs) (fun x s => match x with | .normal => Returns P fn N s res objs2 | .ret => Returns P fn N s res objs2 | _ => False)) : ACall P f args objs res objs2 := by
  intro e vs val w β F hl hval hi
  refine (callsIn_wide (n := 1)).1 (callsIn_of_wp_marks hf hb trivial (wpIn_wide.2 ?_))
  have hsz : (vs.toArray ++ Array.replicate (fn.ntmps - vs.toArray.size) undef).size = N := by simp [hN]; omega
  refine h (fun i => val i) e _ w (fun _ => rfl) ⟨hsz, β, F, .inl rfl, ?_⟩ _ fun x a' w' s hx ha' => ?_
  · refine ⟨fun i => ?_, hi.disj, hi.sep, hi.fr, hi.kept, hi.grow, hi.tame⟩
    by_cases hlt : i < vs.length
    · have := hi.rep i
      rw [hval i hlt] at this
      have e1 : valOf N (fun i => val i) { tmps := vs.toArray ++ Array.replicate (fn.ntmps - vs.toArray.size) undef, defers := [] } i = vs.getD i undef := by
        have : i < N := by omega
        simp only [valOf, this, if_true]
        rw [Array.getD_eq_getD_getElem?, Array.getElem?_append_left (by simpa using hlt)]
        simp
      rw [e1]; exact this
    · by_cases hN' : i < N
      · have : argSig args objs i = .undef := by
          have h1 : i < INH := by omega
          have h2 : args[i]? = none := List.getElem?_eq_none (by omega)
          simp [argSig, h1, h2]
        rw [this]; simp [Rep]
      · have := hi.rep i
        simpa [valOf, hN'] using this
  · have key : ∀ (_ : Returns P fn N s res objs2), LeavesInM Fence.wide 1 P fn a'.tmps (fun en w' => ∃ v β' F', en = .returned v ∧ Inv e (argSig [res] objs2) (upd val 0 v) w' β' F') a'.defers .returning w' := by
      intro hret
      obtain ⟨hsz', β', F', hk, hi'⟩ := ha'
      rcases hk with hk | ⟨D, h1, h2, h3, h4⟩
      · obtain ⟨v, hr, β'', F'', hi''⟩ := hret (fun i => val i) { e with ds := [] } a' w' ⟨hk, hsz', β', F', ⟨hi'.rep, hi'.disj, hi'.sep, hi'.fr, hi'.kept, hi'.grow, hi'.tame⟩⟩
        rw [hk]
        exact ⟨v, hr, v, β'', F'', rfl, ⟨hi''.rep, hi''.disj, hi''.sep, hi''.fr, hi''.kept, hi''.grow, hi''.tame⟩⟩
      · rw [h1]
        have hi2 : Inv e s (valOf N (fun i => val i) a') (w'.putObj D (.deferred none)) β' F' := hi'.putObj h2 trivial trivial h4 h3
        obtain ⟨v, hr, β'', F'', hi''⟩ := hret (fun i => val i) { e with ds := a'.defers } a' _ ⟨rfl, hsz', β', F', ⟨hi2.rep, hi2.disj, hi2.sep, hi2.fr, hi2.kept, hi2.grow, hi2.tame⟩⟩
        refine ⟨by simp, .inl ⟨D, _, rfl, run_takeDeferred h2, ?_⟩⟩
        exact ⟨v, hr, v, β'', F'', rfl, ⟨hi''.rep, hi''.disj, hi''.sep, hi''.fr, hi''.kept, hi''.grow, hi''.tame⟩⟩
    cases x <;> simp only at hx
    · exact key hx
    · exact key hx
end
end Go.Av
namespace Go.Av
open Go
def NrAll (τ : Sig) : List Nat → Prop
 | [] => True
 | s :: S => noRef (τ (LND + s)) = true ∧ NrAll τ S
structure LpOk (N : Nat) (S : List Nat) (LB LP : List (Nat × AV)) : Prop where
 keys : keysFrom N LP = true
 base : BaseOk N (look LP) LB
 nr : NrAll (look LP) S
end Go.Av
namespace Go.Av
open Go
section
variable {P : Program} {N : Nat} {A : Bool} {σ : Sig} {ty : TypeId} {x : Operand}
theorem q_boxZ {t : Nat} {v : AV} (hx : RdTo N A σ x v) (hb : boxable v = true) (hp : pureL (cellsOf v) = true) : QSem P N A (.box t x) ty σ (slots x) (.pp (shL (cellsOf v)) 0) := by
 intro hA σ' hD gv e a w β F hi d o ho hty K Q hK
 have ex := hx.rep hA hD hi (0, [])
 obtain ⟨hl, hr⟩ := cells_of ex hb hp
 obtain ⟨β', h'⟩ := hi.new_op hl hr hp t d
 have hfz := h'.freeze (fun r y b s hy hyo hb => by
  cases r with
  | nil =>
   have hrep := h'.rep d
   rw [upd_same, upd_same] at hrep
   simp only [Rep] at hrep
   obtain ⟨_, b', _, _, h1, h2, _⟩ := hrep
   rw [h1] at hb; cases hb
   simp only [Value.pointer.injEq, Option.some.injEq, Addr.mk.injEq] at h2
   have := hi.grow
   omega
  | cons j r =>
   simp only [node, kids] at hy
   cases hc : (cellsOf v)[j]? with
   | none => rw [hc] at hy; cases hy
   | some c =>
    rw [hc] at hy
    rw [pure_own (pureL_mem hp (List.mem_of_getElem? hc)) hy] at hyo; cases hyo)
 refine wp_value (v := .pointer (some ⟨w.heap.size, 0, none⟩)) (w' := w.alloc (.cells (a.eval x).cells t)) ?_ (hK _ _ ⟨β', _, by simpa [sh] using hfz⟩)
 simp [execOp, ho, Instr.box, newVar, newRow]
end
end Go.Av
namespace Go.Av
open Go
def opB (a : List Int) (v : Int) : Bool := !decide (v ∈ a) && !decide (-v ∈ a)
theorem opB_spec {a : List Int} {v : Int} : opB a v = true ↔ ¬ v ∈ a ∧ ¬ -v ∈ a := by simp [opB]
def fopen (vs a : List Int) : Int := (vs.find? fun v => opB a v).getD 0
theorem fopen_found {vs a : List Int} {i : Nat} (hi : i < vs.length) (h : opB a (gd vs i) = true) (hn : ∀ j, j < i → opB a (gd vs j) = false) : fopen vs a = gd vs i := by
  unfold fopen
  have : vs.find? (fun v => opB a v) = some (gd vs i) := by
    rw [List.find?_eq_some_iff_getElem]
    refine ⟨h, i, hi, ?_, fun j hj => ?_⟩
    · have := gd_get hi; rw [List.getElem?_eq_getElem hi] at this; exact Option.some.inj this
    · have h2 := hn j hj
      have hjl : j < vs.length := by omega
      have := gd_get hjl; rw [List.getElem?_eq_getElem hjl] at this
      rw [Option.some.inj this, h2]; rfl
  rw [this]; rfl
theorem fopen_none {vs a : List Int} (hn : ∀ j, j < vs.length → opB a (gd vs j) = false) : fopen vs a = 0 := by
  unfold fopen
  have : vs.find? (fun v => opB a v) = none := by
    rw [List.find?_eq_none]
    intro x hx
    obtain ⟨j, hj, rfl⟩ := mem_gd hx
    rw [hn j hj]; simp
  rw [this]; rfl
def upL (n : Int) : List Int := (List.range n.toNat).map fun i : Nat => (i : Int) + 1
def upP (k : Nat) : List Int := (List.range k).map fun i : Nat => (i : Int) + 1
theorem upP_len (k : Nat) : (upP k).length = k := by simp [upP]
theorem upP_succ (k : Nat) : upP (k + 1) = upP k ++ [(k : Int) + 1] := by unfold upP; rw [List.range_succ, List.map_append]; rfl
theorem upL_eq {n : Int} {k : Nat} (h : (k : Int) = n ∨ (n ≤ 0 ∧ k = 0)) : upP k = upL n := by
  unfold upL upP
  rcases h with h | ⟨h, rfl⟩
  · rw [show n.toNat = k by omega]
  · rw [show n.toNat = 0 by omega]
theorem mem_upL {n v : Int} : v ∈ upL n ↔ 1 ≤ v ∧ v ≤ n := by
  unfold upL
  rw [List.mem_map]
  constructor
  · rintro ⟨i, hi, rfl⟩; have := List.mem_range.1 hi; omega
  · rintro ⟨h1, h2⟩; exact ⟨(v - 1).toNat, List.mem_range.2 (by omega), by omega⟩
theorem upL_len {n : Int} (h : 0 ≤ n ∧ n ≤ 12) : (upL n).length ≤ 12 := by simp [upL]; omega
def dg (l : Int) : Nat := if l > 0 then 2 else 1
def codeA : List Int → Nat
  | [] => 0
  | l :: a => dg l * 3 ^ (vr l - 1).toNat + codeA a
theorem codeA_append : ∀ (a b : List Int), codeA (a ++ b) = codeA a + codeA b
  | [], b => by simp [codeA]
  | l :: a, b => by rw [List.cons_append, codeA, codeA, codeA_append a b]; omega
theorem codeA_dvd {k : Nat} : ∀ {a : List Int}, (∀ l ∈ a, (k : Int) < vr l) → 3 ^ k ∣ codeA a
  | [], _ => ⟨0, by simp [codeA]⟩
  | l :: a, h => by
    rw [codeA]
    refine Nat.dvd_add ?_ (codeA_dvd fun x hx => h x (List.mem_cons_of_mem _ hx))
    have h1 := h l List.mem_cons_self
    exact Nat.dvd_trans (Nat.pow_dvd_pow 3 (by omega)) (Nat.dvd_mul_left _ _)
theorem vr_pos {l : Int} (h : l ≠ 0) : 1 ≤ vr l := by unfold vr; split <;> omega
theorem dg_bd (l : Int) : 1 ≤ dg l ∧ dg l ≤ 2 := by unfold dg; split <;> omega
theorem same_dg {l m : Int} (h : vr l = vr m) (hd : dg l = dg m) (hl : l ≠ 0) : l = m := by
  unfold vr at h; unfold dg at hd
  split at hd <;> split at hd <;> split at h <;> split at h <;> omega
theorem code_head {l : Int} {a : List Int} (hs : Strict (l :: a)) (h0 : l ≠ 0) : ∃ q, codeA (l :: a) = 3 ^ (vr l - 1).toNat * (dg l + 3 * q) := by
  have h1 : 3 ^ (vr l).toNat ∣ codeA a := codeA_dvd fun x hx => by
    unfold Strict at hs
    have := (List.pairwise_cons.1 hs).1 x hx
    have := vr_pos h0
    omega
  obtain ⟨q, hq⟩ := h1
  have hv := vr_pos h0
  refine ⟨q, ?_⟩
  rw [codeA, hq, show (vr l).toNat = (vr l - 1).toNat + 1 by omega, Nat.pow_succ, Nat.mul_add, Nat.mul_comm (dg l), Nat.mul_assoc]
theorem pow3_cmp {k m p q d e : Nat} (hd : 1 ≤ d ∧ d ≤ 2) (he : 1 ≤ e) (h : 3 ^ k * (d + 3 * p) = 3 ^ m * (e + 3 * q)) : ¬ k < m := fun hlt => by
  obtain ⟨j, rfl⟩ : ∃ j, m = k + (j + 1) := ⟨m - k - 1, by omega⟩
  rw [Nat.pow_add, Nat.mul_assoc] at h
  have h2 := Nat.eq_of_mul_eq_mul_left (Nat.pos_of_ne_zero (by simp)) h
  rw [Nat.pow_succ] at h2
  have h3 : d + 3 * p = 3 * (3 ^ j * (e + 3 * q)) := by rw [h2, Nat.mul_comm (3 ^ j) 3, Nat.mul_assoc]
  omega
theorem codeA_inj : ∀ {a b : List Int}, Strict a → Strict b → (∀ l ∈ a, l ≠ 0) → (∀ l ∈ b, l ≠ 0) → codeA a = codeA b → a = b
  | [], [], _, _, _, _, _ => rfl
  | [], m :: b, _, hb, _, h0, h => by
    obtain ⟨q, hq⟩ := code_head hb (h0 m List.mem_cons_self)
    rw [hq] at h
    have h1 := (dg_bd m).1
    have h2 : 0 < 3 ^ (vr m - 1).toNat * (dg m + 3 * q) := Nat.mul_pos (Nat.pos_of_ne_zero (by simp)) (by omega)
    rw [show codeA ([] : List Int) = 0 from rfl] at h; omega
  | l :: a, [], ha, _, h0, _, h => by
    obtain ⟨q, hq⟩ := code_head ha (h0 l List.mem_cons_self)
    rw [hq] at h
    have h1 := (dg_bd l).1
    have h2 : 0 < 3 ^ (vr l - 1).toNat * (dg l + 3 * q) := Nat.mul_pos (Nat.pos_of_ne_zero (by simp)) (by omega)
    rw [show codeA ([] : List Int) = 0 from rfl] at h; omega
  | l :: a, m :: b, ha, hb, h0, h1, h => by
    have hl := h0 l List.mem_cons_self
    have hm := h1 m List.mem_cons_self
    obtain ⟨p, hp⟩ := code_head ha hl
    obtain ⟨q, hq⟩ := code_head hb hm
    have hh := h
    rw [hp, hq] at hh
    have e1 := pow3_cmp (dg_bd l) (dg_bd m).1 hh
    have e2 := pow3_cmp (dg_bd m) (dg_bd l).1 hh.symm
    have v1 := vr_pos hl
    have v2 := vr_pos hm
    have ev : vr l = vr m := by omega
    rw [ev] at hh
    have e3 := Nat.eq_of_mul_eq_mul_left (Nat.pos_of_ne_zero (by simp)) hh
    have d1 := dg_bd l
    have d2 := dg_bd m
    have ed : dg l = dg m := by omega
    obtain rfl : l = m := same_dg ev ed hl
    rw [codeA, codeA] at h
    unfold Strict at ha hb
    rw [codeA_inj (a := a) (b := b) (List.pairwise_cons.1 ha).2 (List.pairwise_cons.1 hb).2 (fun x hx => h0 x (List.mem_cons_of_mem _ hx)) (fun x hx => h1 x (List.mem_cons_of_mem _ hx)) (by omega)]
theorem codeA_lt {n : Nat} : ∀ {a : List Int}, Strict a → (∀ l ∈ a, l ≠ 0 ∧ vr l ≤ n) → codeA a < 3 ^ n := by
  induction n with
  | zero =>
    intro a _ h
    cases a with
    | nil => simp [codeA]
    | cons l a => have := h l List.mem_cons_self; have := vr_pos this.1; omega
  | succ n ih =>
    intro a hs h
    by_cases hl : ∃ l ∈ a, vr l = (n + 1 : Nat)
    · obtain ⟨l, hl, hv⟩ := hl
      obtain ⟨u, w, rfl⟩ := List.append_of_mem hl
      unfold Strict at hs
      have h2 := List.pairwise_append.1 hs
      have hw : w = [] := by
        cases w with
        | nil => rfl
        | cons x w =>
          have h3 := (List.pairwise_cons.1 h2.2.1).1 x List.mem_cons_self
          have h4 := (h x (by simp)).2
          omega
      subst hw
      have h5 := ih (a := u) h2.1 fun x hx => ⟨(h x (by simp [hx])).1, by have := h2.2.2 x hx l List.mem_cons_self; omega⟩
      rw [codeA_append, codeA, codeA, hv, show ((n + 1 : Nat) : Int) - 1 = n by omega, Int.toNat_natCast, Nat.pow_succ]
      have h6 := (dg_bd l).2
      have h7 : dg l * 3 ^ n ≤ 2 * 3 ^ n := Nat.mul_le_mul_right _ h6
      omega
    · have := ih (a := a) hs fun x hx => ⟨(h x hx).1, by
        have h1 := (h x hx).2
        have h2 : vr x ≠ (n + 1 : Nat) := fun e => hl ⟨x, hx, e⟩
        omega⟩
      rw [Nat.pow_succ]; omega
theorem codeA_put : ∀ (a : List Int) (l : Int), codeA (putL a l) = codeA a + dg l * 3 ^ (vr l - 1).toNat
  | [], l => by simp [putL, codeA]
  | x :: a, l => by
    rw [putL]; split
    · rw [codeA, codeA_put a l, codeA]; omega
    · rw [codeA, codeA]; omega
theorem codeA_take {a : List Int} {i : Nat} (h : i < a.length) : codeA (a.take (i + 1)) = codeA (a.take i) + dg (gd a i) * 3 ^ (vr (gd a i) - 1).toNat := by
  rw [take_gd h, codeA_append, codeA, codeA]; rfl
theorem codeA_cl {vars : Int} {a : List Int} (h : clB vars a = true) : codeA a < 3 ^ vars.toNat := by
  have hv := (clB_spec h).1
  refine codeA_lt (clB_strict h) fun l hl => ?_
  have := litB_spec.1 (clB_mem h hl).1
  refine ⟨this.2, ?_⟩
  unfold vr; split <;> omega
theorem strict_take {a : List Int} (h : Strict a) (i : Nat) : Strict (a.take i) := List.Pairwise.sublist (List.take_sublist i a) h
theorem codeA_tk {vars : Int} {a : List Int} (h : clB vars a = true) (i : Nat) : codeA (a.take i) ≤ 531441 := by
  have hv := (clB_spec h).1
  have : codeA (a.take i) < 3 ^ vars.toNat := codeA_lt (strict_take (clB_strict h) i) fun l hl => by
    have := litB_spec.1 (clB_mem h (List.mem_of_mem_take hl)).1
    refine ⟨this.2, ?_⟩
    unfold vr; split <;> omega
  have h2 : 3 ^ vars.toNat ≤ 3 ^ 12 := Nat.pow_le_pow_right (by decide) (by omega)
  omega
theorem pow3_bd {k : Nat} (h : k ≤ 12) : 1 ≤ 3 ^ k ∧ 3 ^ k ≤ 531441 := ⟨Nat.one_le_pow _ _ (by decide), Nat.le_trans (Nat.pow_le_pow_right (by decide) h) (by decide)⟩
theorem dg_pos {l : Int} (h : l > 0) : dg l = 2 ∧ vr l = l := by unfold dg vr; rw [if_pos h, if_neg (by omega)]; exact ⟨rfl, rfl⟩
theorem dg_neg {l : Int} (h : ¬ l > 0) (h0 : l ≠ 0) : dg l = 1 ∧ vr l = -l := by unfold dg vr; rw [if_neg h, if_pos (by omega)]; exact ⟨rfl, rfl⟩
def nwB (vars : Int) (L : List (List Int)) (w : Int) : Bool := (cnfB vars L && decide (vars ≤ 6)) && inR w 0 6
def alC (c : List Int) (w : Int) (a : List Int) : Bool := decide ((c.length : Int) ≤ w) && decide (cval c a < 0)
def alB (L : List (List Int)) (w : Int) (a : List Int) : Bool := decide ((a.length : Int) ≤ w + 1) && !(List.range L.length).any fun i => alC (gl L i) w a
theorem ext_gdA {a b : List Int} (hl : a.length = b.length) (h : ∀ j, j < a.length → gd a j = gd b j) : a = b := by
  apply List.ext_getElem? 
  intro j
  by_cases hj : j < a.length
  · rw [gd_get hj, gd_get (show j < b.length by omega), h j hj]
  · rw [List.getElem?_eq_none (by omega), List.getElem?_eq_none (by omega)]
def keyL (l : Int) : Int := if l < 0 then -2 * l + 1 else 2 * l
def mkB (n : Nat) (M : List (List Int)) : Nat → List Bool
  | 0 => List.replicate (3 ^ n) false
  | i + 1 => (mkB n M i).set (codeA (gl M i)) true
theorem mkB_len (n : Nat) (M : List (List Int)) : ∀ i, (mkB n M i).length = 3 ^ n
  | 0 => by simp [mkB]
  | i + 1 => by rw [mkB, List.length_set, mkB_len n M i]
def opensL (n : Int) (a : List Int) : List Int := (upL n).filter fun v => !(!opB a v)
theorem sm_one {v : Int} (h : 1 ≤ v ∧ v ≤ 12) : SmI [v] := fun i => by
  cases i with
  | zero => show _ ≤ v ∧ v ≤ _; omega
  | succ i => show _ ≤ (0 : Int) ∧ (0 : Int) ≤ _; omega
theorem fopen_one {v : Int} {a : List Int} (h : 1 ≤ v ∧ v ≤ 12) : decide (fopen [v] a = 0) = !opB a v := by
  unfold fopen
  cases ho : opB a v with
  | true => rw [List.find?_cons_of_pos (by simpa using ho)]; rw [Option.getD_some, decide_eq_false (by omega)]; rfl
  | false => rw [List.find?_cons_of_neg (by simp [ho])]; rfl
theorem upL_gd {n : Int} (h : 0 ≤ n ∧ n ≤ 12) {i : Nat} (hi : i < (upL n).length) : 1 ≤ gd (upL n) i ∧ gd (upL n) i ≤ 12 := by
  have := mem_upL.1 (gd_mem hi); omega
theorem erase_wo : ∀ {c : List Int} {i : Nat}, Strict c → i < c.length → c.eraseIdx i = woS c (vr (gd c i))
  | [], i, _, h => by simp at h
  | x :: c, 0, hs, _ => by
    unfold Strict at hs
    rw [List.pairwise_cons] at hs
    have hg : gd (x :: c) 0 = x := rfl
    rw [hg]
    unfold woS
    rw [List.eraseIdx_cons_zero, List.filter_cons_of_neg (by simp), List.filter_eq_self.2]
    intro y hy
    have := hs.1 y hy
    simp; omega
  | x :: c, i + 1, hs, h => by
    have hs' := hs
    unfold Strict at hs
    rw [List.pairwise_cons] at hs
    have hg : gd (x :: c) (i + 1) = gd c i := rfl
    rw [hg, List.eraseIdx_cons_succ, erase_wo hs.2 (by simpa using h)]
    unfold woS
    have hlt := hs.1 _ (gd_mem (c := c) (j := i) (by simpa using h))
    rw [List.filter_cons_of_pos (by simp; omega)]
theorem erase_take (c : List Int) (i : Nat) : c.eraseIdx i = c.take i ++ c.drop (i + 1) := by rw [List.eraseIdx_eq_take_drop_succ]
theorem setL_move {c : List Int} {i : Nat} (h : i < c.length) : setL (icells c) i (((icells c).drop (i + 1)).take (c.length - (i + 1))) = icells (c.eraseIdx i ++ [gd c (c.length - 1)]) := by
  have hl : ((icells c).drop (i + 1)).take (c.length - (i + 1)) = icells (c.drop (i + 1)) := by
    rw [icells_drop, List.take_of_length_le (by rw [icells_length, List.length_drop]; exact Nat.le_refl _)]
  rw [hl]
  refine List.ext_getElem? fun j => ?_
  rw [setL_get (by rw [icells_length, icells_length, List.length_drop]; omega), icells_length, List.length_drop]
  rw [erase_take]
  by_cases h1 : i ≤ j ∧ j < i + (c.length - (i + 1))
  · rw [if_pos h1]
    unfold icells
    rw [List.getElem?_map, List.getElem?_map, List.getElem?_append_left (by simp; omega), List.getElem?_append_right (by simp; omega)]
    simp only [List.length_take]
    congr 2; omega
  · rw [if_neg h1]
    unfold icells
    rw [List.getElem?_map, List.getElem?_map]
    congr 1
    by_cases h2 : j < i
    · rw [List.getElem?_append_left (by simp; omega), List.getElem?_append_left (by simp; omega), List.getElem?_take_of_lt h2]
    · by_cases h3 : j = c.length - 1
      · subst h3
        rw [List.getElem?_append_right (by simp; omega)]
        simp only [List.length_append, List.length_take, List.length_drop]
        rw [show c.length - 1 - (min i c.length + (c.length - (i + 1))) = 0 by omega, gd_get (by omega)]; rfl
      · rw [List.getElem?_eq_none (by omega), List.getElem?_eq_none (by simp; omega)]
theorem clear_last (a : List Int) (x : Int) (n : Nat) (h : a.length = n) : setL (icells (a ++ [x])) n (List.replicate 1 (.int .i64 0)) = icells a ++ [.int .i64 0] := by
  subst h
  have := setL_app [.int .i64 0] [.int .i64 x] (icells a) [] rfl
  rw [icells_length, List.append_nil, List.append_nil] at this
  rw [icells_append]; exact this
theorem wo_cl {vars : Int} {c : List Int} (h : clB vars c = true) (v : Int) : clB vars (woS c v) = true :=
  clB_of (clB_spec h).1 (woS_strict (clB_strict h)) fun x hx => (clB_mem h (woS_mem hx).1).1
end Go.Av
