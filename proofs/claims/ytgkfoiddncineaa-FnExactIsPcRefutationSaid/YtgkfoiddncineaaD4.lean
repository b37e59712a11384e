/- Lemmas, part 4. -/
import Derived.Test.YtgkfoiddncineaaD3
set_option linter.unusedVariables false
set_option linter.unusedSimpArgs false
namespace Go.Av
open Go
section
variable {P : Program} {N : Nat} {A : Bool} {σ τ : Sig} {ty : TypeId}
variable {e : Ctx} {val : Nat → Value} {w : World} {β : Place → Option (Nat × Nat)} {F : Nat → Prop} {x : AV} {d : Nat}

/-- A slot's owned memory is frozen, where it is new. -/
theorem Inv.freeze (h : Inv e (upd τ d x) val w β F) (hf : ∀ r y b s, node x r = some y → y.isOwn = true → β (d, r) = some (b, s) → e.w0.heap.size ≤ b) :
    Inv e (upd τ d (sh x)) val w β (fun b => F b ∨ ∃ r y s, node x r = some y ∧ y.isOwn = true ∧ β (d, r) = some (b, s)) := by
  have own : ∀ q, OwnAt (upd τ d (sh x)) q → q.1 ≠ d ∧ OwnAt (upd τ d x) q := fun q hq => by
    by_cases hi : q.1 = d
    · obtain ⟨y, hy, ho⟩ := hq
      rw [hi, upd_same] at hy
      rw [pure_own (pure_sh x) hy] at ho; cases ho
    · exact ⟨hi, (own_upd_other hi).2 ((own_upd_other hi).1 hq)⟩
  have hx := h.rep d
  rw [upd_same] at hx
  have ownx : ∀ r y, node x r = some y → y.isOwn = true → OwnAt (upd τ d x) (d, r) := fun r y hy ho => ⟨y, by rw [upd_same]; exact hy, ho⟩
  refine ⟨fun i => ?_, fun q q' b s s' hq hq' => h.disj q q' b s s' (own q hq).2 (own q' hq').2, fun q b s hq hb => ⟨?_, (h.sep q b s (own q hq).2 hb).2⟩, fun b hb => ?_, h.kept, h.grow, h.tame⟩
  · by_cases hi : i = d
    · subst hi
      rw [upd_same]
      exact hx.sh x (fun b hb => .inl hb) (fun r y b s hy ho hb => .inr ⟨r, y, s, hy, ho, by simpa using hb⟩)
    · have := h.rep i
      rw [upd_other _ _ hi] at this ⊢
      exact this.tr _ (fun b hb => ⟨.inl hb, rfl⟩) (fun _ _ _ _ => ⟨rfl, fun _ _ _ => rfl⟩) (fun _ _ => rfl)
  · rintro (hF | ⟨r, y, s', hy, ho, hb'⟩)
    · exact (h.sep q b s (own q hq).2 hb).1 hF
    · have := h.disj q (d, r) b s s' (own q hq).2 (ownx r y hy ho) hb hb'
      exact (own q hq).1 (by rw [this])
  · rcases hb with hb | ⟨r, y, s, hy, ho, hb⟩
    · exact h.fr b hb
    · refine ⟨h.own_lt (ownx r y hy ho) hb, fun hlt => ?_⟩
      have := hf r y b s hy ho hb
      omega

/-- A call whose arguments are only lent; its result is new and frozen from now on. -/
theorem call_coreZ {f : FuncId} {args : List AV} {res : AV} (hc : ACall P f args [] res []) (hp : pureL args = true) (hn : noSh res = true) (hr : noRef res = true) (h : Inv e σ val w β F) {vs : List Value}
    (hl : vs.length = args.length) (ha : RepL (fun _ => none) (lent σ β F) w args (0, []) 0 vs) (d : Nat) :
    Calls P f vs.toArray w fun en w' => ∃ v β' F', en = .returned v ∧ Inv e (upd (fun i => purgeV d (σ i)) d (sh res)) (upd val d v) w' β' F' := by
  have hinv : Inv ⟨w, fun _ => False, lent σ β F⟩ (argSig args []) (fun i => vs.getD i undef) w (fun _ => none) (lent σ β F) := by
    refine ⟨fun i => ?_, fun q q' b s s' hq => (noOwn_argSig hp q hq).elim, fun q b s hq => (noOwn_argSig hp q hq).elim, fun b hb => ⟨?_, fun _ => hb⟩, fun _ _ _ => rfl, Nat.le_refl _, Tame.refl _⟩
    · unfold argSig
      split
      · cases hx : args[i]? with
        | none => simp [Rep]
        | some c =>
          obtain ⟨u, hu, hru⟩ := RepL_iff.1 ha i c hx
          rw [List.getD_eq_getElem?_getD, hu]
          exact hru.pure_any (pureL_mem hp (List.mem_of_getElem? hx))
      · simp [Rep]
    · rcases hb with hb | ⟨q, s, hq, hb⟩
      · exact (h.fr b hb).1
      · exact h.own_lt hq hb
  refine (hc _ vs _ w _ _ hl (fun _ _ => rfl) hinv).mono fun en w' ⟨v, β', F', he, hi⟩ => ⟨v, ?_⟩
  have hkept : ∀ b, b < w.heap.size → w'.heap[b]? = w.heap[b]? := fun b hb => hi.kept b hb (fun h => h)
  have hI := h.more hkept hi.grow (h.tame.trans hi.tame hkept)
  have h0 : argSig [res] [] 0 = res := by simp [argSig, INH]
  have hge : ∀ r y b s, node res r = some y → y.isOwn = true → β' (0, r) = some (b, s) → w.heap.size ≤ b := fun r y b s hy ho hb => by
    have hs := hi.sep (0, r) b s ⟨y, by rw [h0]; exact hy, ho⟩ hb
    rcases hs.2 with h | h; exact h; exact h.elim
  have hdet : Det e σ w' β F res v (fun r => β' (0, r)) := by
    refine ⟨?_, refs_of_noRef res hr, ?_, ?_⟩
    · have := hi.rep 0
      rw [h0, upd_same] at this
      exact (this.noSh (G := F) res hn).tr _ (fun b hb => ⟨hb, rfl⟩) (fun r y _ _ => ⟨by simp, fun _ _ _ => rfl⟩) (fun q hq => by rw [refs_of_noRef res hr] at hq; cases hq)
    · intro r r' y y' b s s' hy ho hy' ho' hb hb'
      have := hi.disj (0, r) (0, r') b s s' ⟨y, by rw [h0]; exact hy, ho⟩ ⟨y', by rw [h0]; exact hy', ho'⟩ hb hb'
      simpa using this
    · intro r y b s hy ho hb
      have hge := hge r y b s hy ho hb
      exact ⟨fun hF => by have := (h.fr b hF).1; omega, .inl (Nat.le_trans h.grow hge), fun q s' hq hb' => by have := h.own_lt hq hb'; omega⟩
  exact ⟨_, _, he, (hI.attach d hdet).freeze (fun r y b s hy ho hb => Nat.le_trans h.grow (hge r y b s hy ho (by simpa using hb)))⟩
theorem q_callZ {f : FuncId} {xs : List Operand} {tys : Array TypeId} {vs args : List AV} {res : AV} (hf : hasBody P f = true) (hx : RdL N A σ xs vs) (hs : snapL σ vs = args) (hc : A = true → ACall P f args [] res [])
    (hn : noSh res = true) (hr : noRef res = true) : QSem P N A (fnCall f xs tys) ty σ (slotsL xs ++ refRoots vs) (sh res) := by
  intro hA σ' hD gv e a w β F hi d o ho hty K Q hK
  have hp : pureL args = true := by rw [← hs]; exact pure_snapL σ _
  obtain ⟨hrep, hlen, hno⟩ := RdL.rep hA hi (0, []) (j := 0) hx (agree_l hD)
  have hsn := hi.snapL (β0 := fun _ => none) _ (p' := (0, [])) hrep (fun i c hc => hno c (List.mem_of_getElem? hc))
  have e2 : snapL σ' vs = args := by rw [← hs]; exact snapL_congr _ fun q hq => hD q.1 (List.mem_append_right _ (refRoots_mem hq))
  rw [e2] at hsn
  have hl : (xs.map a.eval).length = args.length := by rw [← e2, snapL_eq, hlen]; simp
  refine upon_enter' (f := f) (args := (xs.map a.eval).toArray) ?_ ((call_coreZ (hc hA) hp hn hr hi hl hsn d).mono fun en w' ⟨v, β', F', he, hi'⟩ => ⟨v, he, hK _ _ ⟨β', F', hi'⟩⟩)
  simp [execOp, ho, fnCall, resolve, Deferred.ofValue, Act.eval, invoke, run_callFunc_body hf]
end
end Go.Av
namespace Go.Av
open Go
theorem sl_shZ {cs : List AV} {n m : Nat} {c : Option Nat} (h : pureL cs = true ∧ noNilL cs = true) : sh (.osl m cs n c) = .sl cs n := by simp only [sh, shL_id cs h.1 h.2]
end Go.Av
namespace Go.Av
open Go
/-- Frozen, a tuple's parts too. -/
def shT : AV → AV
  | .tup cs => .tup (shL cs)
  | x => sh x
theorem shT_own {x : AV} {r : List Nat} {y : AV} (h : node (shT x) r = some y) : y.isOwn = false := by
  cases x
  case tup cs =>
    cases r with
    | nil => simp [shT, node] at h; subst h; rfl
    | cons j r =>
      simp only [shT, node, kids] at h
      cases hc : (shL cs)[j]? with
      | none => rw [hc] at h; cases h
      | some c =>
        rw [hc] at h
        exact pure_own (pureL_mem (pure_shL cs) (List.mem_of_getElem? hc)) h
  all_goals exact pure_own (pure_sh _) h
theorem Rep.shT {x : AV} {F G : Nat → Prop} {w : World} {β β0 : Place → Option (Nat × Nat)} {p p' : Place} {v : Value} (h : Rep β F w x p v) (hF : ∀ b, F b → G b)
    (hG : ∀ r y b s, node x r = some y → y.isOwn = true → β (p.1, p.2 ++ r) = some (b, s) → G b) : Rep β0 G w (Av.shT x) p' v := by
  cases x
  case tup cs =>
    simp only [Rep] at h
    obtain ⟨vs, rfl, hl, h⟩ := h
    simp only [Av.shT, Rep]
    exact ⟨vs, rfl, by simp [shL_eq, hl], RepL.sh cs h hF (fun i c r y b s hc hy ho hb => hG (i :: r) y b s (by simp [node, kids, hc, hy]) ho (by simpa using hb))⟩
  all_goals exact h.sh _ hF hG
section
variable {P : Program} {N : Nat} {A : Bool} {σ τ : Sig} {ty : TypeId}
variable {e : Ctx} {val : Nat → Value} {w : World} {β : Place → Option (Nat × Nat)} {F : Nat → Prop} {x : AV} {d : Nat}
theorem Inv.freezeT (h : Inv e (upd τ d x) val w β F) (hf : ∀ r y b s, node x r = some y → y.isOwn = true → β (d, r) = some (b, s) → e.w0.heap.size ≤ b) :
    Inv e (upd τ d (shT x)) val w β (fun b => F b ∨ ∃ r y s, node x r = some y ∧ y.isOwn = true ∧ β (d, r) = some (b, s)) := by
  have own : ∀ q, OwnAt (upd τ d (shT x)) q → q.1 ≠ d ∧ OwnAt (upd τ d x) q := fun q hq => by
    by_cases hi : q.1 = d
    · obtain ⟨y, hy, ho⟩ := hq
      rw [hi, upd_same] at hy
      rw [shT_own hy] at ho; cases ho
    · exact ⟨hi, (own_upd_other hi).2 ((own_upd_other hi).1 hq)⟩
  have hx := h.rep d
  rw [upd_same] at hx
  have ownx : ∀ r y, node x r = some y → y.isOwn = true → OwnAt (upd τ d x) (d, r) := fun r y hy ho => ⟨y, by rw [upd_same]; exact hy, ho⟩
  refine ⟨fun i => ?_, fun q q' b s s' hq hq' => h.disj q q' b s s' (own q hq).2 (own q' hq').2, fun q b s hq hb => ⟨?_, (h.sep q b s (own q hq).2 hb).2⟩, fun b hb => ?_, h.kept, h.grow, h.tame⟩
  · by_cases hi : i = d
    · subst hi
      rw [upd_same]
      exact hx.shT (fun b hb => .inl hb) (fun r y b s hy ho hb => .inr ⟨r, y, s, hy, ho, by simpa using hb⟩)
    · have := h.rep i
      rw [upd_other _ _ hi] at this ⊢
      exact this.tr _ (fun b hb => ⟨.inl hb, rfl⟩) (fun _ _ _ _ => ⟨rfl, fun _ _ _ => rfl⟩) (fun _ _ => rfl)
  · rintro (hF | ⟨r, y, s', hy, ho, hb'⟩)
    · exact (h.sep q b s (own q hq).2 hb).1 hF
    · have := h.disj q (d, r) b s s' (own q hq).2 (ownx r y hy ho) hb hb'
      exact (own q hq).1 (by rw [this])
  · rcases hb with hb | ⟨r, y, s, hy, ho, hb⟩
    · exact h.fr b hb
    · refine ⟨h.own_lt (ownx r y hy ho) hb, fun hlt => ?_⟩
      have := hf r y b s hy ho hb
      omega
/-- A call of which no argument refers to owned memory; what it makes is frozen from now on. -/
theorem call_coreFZ {f : FuncId} {args : List AV} {res : AV} (hc : ACall P f args [] res []) (hp : pureL args = true) (hr : noRef res = true) (h : Inv e σ val w β F) {vs : List Value}
    (hl : vs.length = args.length) (ha : RepL (fun _ => none) F w args (0, []) 0 vs) (d : Nat) :
    Calls P f vs.toArray w fun en w' => ∃ v β' F', en = .returned v ∧ Inv e (upd (fun i => purgeV d (σ i)) d (shT res)) (upd val d v) w' β' F' := by
  have hinv : Inv ⟨w, fun _ => False, F⟩ (argSig args []) (fun i => vs.getD i undef) w (fun _ => none) F := by
    refine ⟨fun i => ?_, fun q q' b s s' hq => (noOwn_argSig hp q hq).elim, fun q b s hq => (noOwn_argSig hp q hq).elim, fun b hb => ⟨(h.fr b hb).1, fun _ => hb⟩, fun _ _ _ => rfl, Nat.le_refl _, Tame.refl _⟩
    unfold argSig
    split
    · cases hx : args[i]? with
      | none => simp [Rep]
      | some c =>
        obtain ⟨u, hu, hru⟩ := RepL_iff.1 ha i c hx
        rw [List.getD_eq_getElem?_getD, hu]
        exact hru.pure_any (pureL_mem hp (List.mem_of_getElem? hx))
    · simp [Rep]
  refine (hc _ vs _ w _ _ hl (fun _ _ => rfl) hinv).mono fun en w' ⟨v, β', F', he, hi⟩ => ⟨v, ?_⟩
  have hkept : ∀ b, b < w.heap.size → w'.heap[b]? = w.heap[b]? := fun b hb => hi.kept b hb (fun h => h)
  have hF' : ∀ b, F' b → F b ∨ w.heap.size ≤ b := fun b hb => by
    rcases Nat.lt_or_ge b w.heap.size with hlt | hge
    · exact .inl ((hi.fr b hb).2 hlt)
    · exact .inr hge
  have hI : Inv e σ val w' β (fun b => F b ∨ F' b) := (h.more hkept hi.grow (h.tame.trans hi.tame hkept)).moreF (fun b hb => .inl hb) (fun b hb => by
    rcases hb with hb | hb
    · exact ⟨Nat.lt_of_lt_of_le (h.fr b hb).1 hi.grow, (h.fr b hb).2⟩
    · refine ⟨(hi.fr b hb).1, fun hlt => ?_⟩
      rcases hF' b hb with hb | hge
      · exact (h.fr b hb).2 hlt
      · have := h.grow; omega) (fun q b s hq hb hF => by
    rcases hF with hF | hF
    · exact (h.sep q b s hq hb).1 hF
    · rcases hF' b hF with hF | hge
      · exact (h.sep q b s hq hb).1 hF
      · have := h.own_lt hq hb; omega)
  have h0 : argSig [res] [] 0 = res := by simp [argSig, INH]
  have hge : ∀ r y b s, node res r = some y → y.isOwn = true → β' (0, r) = some (b, s) → w.heap.size ≤ b := fun r y b s hy ho hb => by
    have hs := hi.sep (0, r) b s ⟨y, by rw [h0]; exact hy, ho⟩ hb
    rcases hs.2 with h | h; exact h; exact h.elim
  have hdet : Det e σ w' β (fun b => F b ∨ F' b) res v (fun r => β' (0, r)) := by
    refine ⟨?_, refs_of_noRef res hr, ?_, ?_⟩
    · have := hi.rep 0
      rw [h0, upd_same] at this
      exact this.tr _ (fun b hb => ⟨.inr hb, rfl⟩) (fun r y _ _ => ⟨by simp, fun _ _ _ => rfl⟩) (fun q hq => by rw [refs_of_noRef res hr] at hq; cases hq)
    · intro r r' y y' b s s' hy ho hy' ho' hb hb'
      have := hi.disj (0, r) (0, r') b s s' ⟨y, by rw [h0]; exact hy, ho⟩ ⟨y', by rw [h0]; exact hy', ho'⟩ hb hb'
      simpa using this
    · intro r y b s hy ho hb
      have hs := hi.sep (0, r) b s ⟨y, by rw [h0]; exact hy, ho⟩ hb
      have hge := hge r y b s hy ho hb
      refine ⟨fun hF => ?_, .inl (Nat.le_trans h.grow hge), fun q s' hq hb' => by have := h.own_lt hq hb'; omega⟩
      rcases hF with hF | hF
      · have := (h.fr b hF).1; omega
      · exact hs.1 hF
  exact ⟨_, _, he, (hI.attach d hdet).freezeT (fun r y b s hy ho hb => Nat.le_trans h.grow (hge r y b s hy ho (by simpa using hb)))⟩
theorem q_callFZ {f : FuncId} {xs : List Operand} {tys : Array TypeId} {vs args : List AV} {res : AV} (hf : hasBody P f = true) (hx : RdL N A σ xs vs) (hs : snapL σ vs = args) (hc : A = true → ACall P f args [] res [])
    (hnr : noRefL vs = true) (hr : noRef res = true) : QSem P N A (fnCall f xs tys) ty σ (slotsL xs ++ refRoots vs) (shT res) := by
  intro hA σ' hD gv e a w β F hi d o ho hty K Q hK
  have hp : pureL args = true := by rw [← hs]; exact pure_snapL σ _
  obtain ⟨hrep, hlen, hno⟩ := RdL.rep hA hi (0, []) (j := 0) hx (agree_l hD)
  have hi0 : Inv e (fun _ => .undef) (valOf N gv a) w β F := hi.weak (fun i => by simp [Rep]) (fun q ⟨y, hy, hoy⟩ => by
    cases hr : q.2 with
    | nil => rw [hr] at hy; simp [node] at hy; subst hy; simp [AV.isOwn] at hoy
    | cons j r => rw [hr] at hy; simp [node, kids] at hy)
  have hsn := hi0.snapL (β0 := fun _ => none) _ (p' := (0, [])) hrep (fun i c hc => hno c (List.mem_of_getElem? hc))
  have e2 : snapL (fun _ => .undef) vs = args := by
    rw [← hs]
    exact snapL_congr _ fun q hq => by rw [refsL_of_noRef _ hnr] at hq; cases hq
  rw [e2] at hsn
  have hl : (xs.map a.eval).length = args.length := by rw [← e2, snapL_eq, hlen]; simp
  have hlent : ∀ b, lent (fun _ => .undef) β F b → F b := fun b hb => by
    rcases hb with hb | ⟨q, s, ⟨y, hy, hoy⟩, _⟩
    · exact hb
    · cases hr : q.2 with
      | nil => rw [hr] at hy; simp [node] at hy; subst hy; simp [AV.isOwn] at hoy
      | cons j r => rw [hr] at hy; simp [node, kids] at hy
  have hsn' : RepL (fun _ => none) F w args (0, []) 0 (xs.map a.eval) := hsn.tr _ (fun b hb => ⟨hlent b hb, rfl⟩) (fun i c r y hc hy ho => by
    rw [noOwn_pure (pureL_mem hp (List.mem_of_getElem? hc)) hy] at ho; cases ho) (fun _ _ _ _ => rfl)
  refine upon_enter' (f := f) (args := (xs.map a.eval).toArray) ?_ ((call_coreFZ (hc hA) hp hr hi hl hsn' d).mono fun en w' ⟨v, β', F', he, hi'⟩ => ⟨v, he, hK _ _ ⟨β', F', hi'⟩⟩)
  simp [execOp, ho, fnCall, resolve, Deferred.ofValue, Act.eval, invoke, run_callFunc_body hf]
/-- A nil slice is an empty one. -/
theorem Weak.nils_sl : Weak .nils (.sl [] 0) := by
  refine ⟨fun β F w p v hv => ?_, fun r z hz ho => ?_⟩
  · simp only [Rep] at hv ⊢
    exact ⟨Eq.refl _, none, 0, hv, Nat.le_refl _, fun h => absurd (Eq.refl _) h⟩
  · cases r with
    | nil => simp [node] at hz; subst hz; simp [AV.isOwn] at ho
    | cons j r => simp [node, kids] at hz
end
end Go.Av
namespace Go.Av
open Go
theorem setL_app : ∀ (c z A B : List AV), z.length = c.length → setL (A ++ (z ++ B)) A.length c = A ++ (c ++ B)
  | [], z, A, B, h => by
    have : z = [] := List.eq_nil_of_length_eq_zero (by simpa using h)
    subst this; rfl
  | x :: c, [], A, B, h => by simp at h
  | x :: c, y :: z, A, B, h => by
    simp only [setL]
    rw [List.set_append_right _ _ (Nat.le_refl _), Nat.sub_self]
    have := setL_app c z (A ++ [x]) B (by simpa using h)
    simp only [List.length_append, List.length_singleton, List.append_assoc, List.singleton_append] at this
    simpa using this
end Go.Av
namespace Go.Av
open Go
/-- Kind, polynomial, two steps, two numbers. -/
abbrev PcT := Int × List (Int × Int) × Int × Int × Int × Int
def scell (s : PcT) : List AV := [.int .i64 s.1, .sl (tcells s.2.1) s.2.1.length, .int .i64 s.2.2.1, .int .i64 s.2.2.2.1, .int .i64 s.2.2.2.2.1, .int .i64 s.2.2.2.2.2]
def ocell (s : PcT) : List AV := [.int .i64 s.1, .osl 2 (tcells s.2.1) s.2.1.length none, .int .i64 s.2.2.1, .int .i64 s.2.2.2.1, .int .i64 s.2.2.2.2.1, .int .i64 s.2.2.2.2.2]
def zcell : List AV := [.int .i64 0, .nils, .int .i64 0, .int .i64 0, .int .i64 0, .int .i64 0]
def stc (S : List PcT) : List AV := S.flatMap scell
def ostc (S : List PcT) : List AV := S.flatMap ocell
def gs (S : List PcT) (i : Nat) : PcT := (S[i]?).getD (0, [], 0, 0, 0, 0)
theorem gs_get {S : List PcT} {i : Nat} (h : i < S.length) : S[i]? = some (gs S i) := by simp [gs, List.getElem?_eq_getElem h]
theorem gs_out {S : List PcT} {i : Nat} (h : S.length ≤ i) : gs S i = (0, [], 0, 0, 0, 0) := by unfold gs; rw [List.getElem?_eq_none h]; rfl
theorem gs_mem {S : List PcT} {i : Nat} (h : i < S.length) : gs S i ∈ S := List.mem_of_getElem? (gs_get h)
theorem stc_length : ∀ (S : List PcT), (stc S).length = S.length * 6
  | [] => rfl
  | s :: S => by have := stc_length S; unfold stc at this ⊢; simp [List.flatMap_cons, scell, this]; omega
theorem ostc_length : ∀ (S : List PcT), (ostc S).length = S.length * 6
  | [] => rfl
  | s :: S => by have := ostc_length S; unfold ostc at this ⊢; simp [List.flatMap_cons, ocell, this]; omega
theorem stc_ne {S : List PcT} {i : Nat} (h : i < S.length) : stc S ≠ [] := fun he => by
  have := stc_length S; rw [he] at this; simp at this; omega
theorem flat6 {f : PcT → List AV} (hf : ∀ s, (f s).length = 6) : ∀ {S : List PcT} {i : Nat} {s : PcT}, S[i]? = some s → ((S.flatMap f).drop (i * 6)).take 6 = f s
  | [], i, s, h => by simp at h
  | s0 :: S, 0, s, h => by
    simp at h; subst h
    rw [List.flatMap_cons, Nat.zero_mul, List.drop_zero, List.take_append_of_le_length (by rw [hf]; exact Nat.le_refl _), List.take_of_length_le (by rw [hf]; exact Nat.le_refl _)]
  | s0 :: S, i + 1, s, h => by
    rw [List.flatMap_cons, show (i + 1) * 6 = (f s0).length + i * 6 by rw [hf]; omega, ← List.drop_drop, List.drop_left]
    exact flat6 hf (by simpa using h)
theorem stc_six {S : List PcT} {i : Nat} (h : i < S.length) : ((stc S).drop (i * 6)).take 6 = scell (gs S i) := flat6 (fun _ => rfl) (gs_get h)
theorem stc_at {S : List PcT} {i j : Nat} (h : i < S.length) (hj : j < 6) : (stc S)[i * 6 + j]? = (scell (gs S i))[j]? := by
  rw [← stc_six h, List.getElem?_take_of_lt hj, List.getElem?_drop]
theorem stc_pureL : ∀ (S : List PcT), pureL (stc S) = true
  | [] => rfl
  | s :: S => by
    have := stc_pureL S
    unfold stc at this ⊢
    simp [List.flatMap_cons, scell, pureL, pureV, this]
theorem shL_tcells (xs : List (Int × Int)) : shL (tcells xs) = tcells xs := shL_id _ (tc_pure xs).1 (tc_pure xs).2
theorem shL_ostc : ∀ (S : List PcT), shL (ostc S) = stc S
  | [] => rfl
  | s :: S => by
    have := shL_ostc S
    unfold ostc stc at this ⊢
    simp only [List.flatMap_cons]
    rw [shL_eq, List.map_append, ← shL_eq, ← shL_eq, this]
    simp [ocell, scell, shL, sh, shL_tcells]
theorem sl_ostc {S : List PcT} {n : Nat} : AV.sl (shL ((ostc S).drop 0)) n = .sl (stc S) n := by rw [List.drop_zero, shL_ostc]
theorem ostc_noSh : ∀ (S : List PcT), noShL (ostc S) = true
  | [] => rfl
  | s :: S => by
    have := ostc_noSh S
    unfold ostc at this ⊢
    simp [List.flatMap_cons, ocell, noShL, noSh, tc_noSh, this]
theorem ostc_noRef : ∀ (S : List PcT), noRefL (ostc S) = true
  | [] => rfl
  | s :: S => by
    have := ostc_noRef S
    unfold ostc at this ⊢
    simp [List.flatMap_cons, ocell, noRefL, noRef, tc_noRef, this]
def partS (S : List PcT) (i : Nat) : List AV := ostc (S.take i) ++ (List.replicate (S.length - i) zcell).flatten
theorem partS_zero (S : List PcT) : partS S 0 = rep S.length zcell := by
  unfold partS rep
  simp [ostc]
theorem rep6 (n : Nat) : (List.replicate n zcell).flatten.length = n * 6 := by
  rw [List.length_flatten, List.map_replicate, List.sum_replicate_nat]; rfl
theorem partS_length {S : List PcT} {i : Nat} (h : i ≤ S.length) : (partS S i).length = S.length * 6 := by
  unfold partS; rw [List.length_append, ostc_length, rep6, List.length_take]
  have : min i S.length = i := by omega
  rw [this, ← Nat.add_mul]; congr 1; omega
theorem partS_set {S : List PcT} {i : Nat} (h : i < S.length) : setL (partS S i) (i * 6) (ocell (gs S i)) = partS S (i + 1) := by
  unfold partS
  rw [show S.length - i = (S.length - (i + 1)) + 1 by omega, List.replicate_succ, List.flatten_cons]
  have hl : (ostc (S.take i)).length = i * 6 := by rw [ostc_length, List.length_take]; congr 1; omega
  have := setL_app (ocell (gs S i)) zcell (ostc (S.take i)) (List.replicate (S.length - (i + 1)) zcell).flatten rfl
  rw [hl] at this
  rw [this, List.take_succ_eq_append_getElem h]
  have hg : S[i] = gs S i := by have := gs_get h; rw [List.getElem?_eq_getElem h] at this; exact Option.some.inj this
  rw [hg]
  simp [ostc, List.flatMap_append]
theorem partS_full {S : List PcT} {i : Nat} (h : S.length ≤ i) : partS S i = ostc S := by
  unfold partS; rw [List.take_of_length_le h, show S.length - i = 0 by omega]; simp
def totP (S : List PcT) (i : Nat) : Nat := ((S.take i).map fun s => s.2.1.length).sum
theorem totP_zero (S : List PcT) : totP S 0 = 0 := rfl
theorem totP_more {S : List PcT} {i : Nat} (h : i < S.length) : totP S (i + 1) = totP S i + (gs S i).2.1.length := by
  unfold totP
  rw [List.take_succ_eq_append_getElem h, List.map_append, List.sum_append_nat]
  have hg : S[i] = gs S i := by have := gs_get h; rw [List.getElem?_eq_getElem h] at this; exact Option.some.inj this
  rw [hg]; simp
theorem totP_le (S : List PcT) : ∀ i, totP S i ≤ totP S S.length := by
  have key : ∀ k i, totP S i ≤ totP S (i + k) := by
    intro k
    induction k with
    | zero => intro i; exact Nat.le_refl _
    | succ k ih =>
      intro i
      refine Nat.le_trans (ih i) ?_
      rcases Nat.lt_or_ge (i + k) S.length with h | h
      · rw [← Nat.add_assoc, totP_more h]; omega
      · unfold totP; rw [List.take_of_length_le h, List.take_of_length_le (by omega)]; exact Nat.le_refl _
  intro i
  rcases Nat.lt_or_ge i S.length with h | h
  · have := key (S.length - i) i; rwa [show i + (S.length - i) = S.length by omega] at this
  · unfold totP; rw [List.take_of_length_le h, List.take_of_length_le (Nat.le_refl _)]; exact Nat.le_refl _
theorem lenP (S : List PcT) (i : Nat) : (gs S i).2.1.length ≤ totP S S.length := by
  rcases Nat.lt_or_ge i S.length with h | h
  · have := totP_le S (i + 1); rw [totP_more h] at this; omega
  · rw [gs_out h]; simp
theorem gs_take {S T : List PcT} {i : Nat} (hi : i < S.length) (hi2 : i < T.length) (h : S.take i = T.take i) (he : gs S i = gs T i) : S.take (i + 1) = T.take (i + 1) := by
  have e1 := gs_get hi
  have e2 := gs_get hi2
  rw [List.getElem?_eq_getElem hi] at e1
  rw [List.getElem?_eq_getElem hi2] at e2
  rw [List.take_succ_eq_append_getElem hi, List.take_succ_eq_append_getElem hi2, h, Option.some.inj e1, Option.some.inj e2, he]
/-- A formula and a prime that fit. -/
def aOk (p vars : Int) (L : List (List Int)) : Bool := prime p vars && cnfB vars L
theorem aOk_spec {p vars : Int} {L : List (List Int)} (h : aOk p vars L = true) : prime p vars = true ∧ cnfB vars L = true := by
  unfold aOk at h; simpa using h
/-- The polynomial of a clause, with all coefficients. -/
def clD (p vars : Int) (c : List Int) : List Int := clP p (dn vars) c c.length
theorem clD_len (p vars : Int) (c : List Int) : (clD p vars c).length = dn vars := clP_length _
theorem clD_bd {p vars : Int} (hp : 2 ≤ p) (c : List Int) : Bd p (clD p vars c) := clP_bd hp _
def qL (p vars : Int) (L : List (List Int)) : List (List Int) := L.map (clD p vars)
theorem qL_len (p vars : Int) (L : List (List Int)) : (qL p vars L).length = L.length := by simp [qL]
theorem qL_get {p vars : Int} {L : List (List Int)} {i : Nat} (h : i < L.length) : gl (qL p vars L) i = clD p vars (gl L i) := by
  unfold qL gl; rw [List.getElem?_map, List.getElem?_eq_getElem h]; rfl
/-- The polynomial of an earlier step. -/
def befB (p vars : Int) (S : List PcT) (k : Nat) (i : Int) : Bool := inR i 0 ((k : Int) - 1) && goodL p vars (gs S i.toNat).2.1
def dPol (p vars : Int) (S : List PcT) (i : Int) : List Int := accp p (dn vars) (gs S i.toNat).2.1
/-- The polynomial that a step must have. -/
def dueO (p vars : Int) (L : List (List Int)) (S : List PcT) (k : Nat) : Option (List Int) :=
  let s := gs S k
  if s.1 = 1 ∧ (0 ≤ s.2.2.1 ∧ s.2.2.1 ≤ (L.length : Int) - 1) ∧ s.2.2.2.1 = 0 ∧ s.2.2.2.2.1 = 0 ∧ s.2.2.2.2.2 = 0 then some (clD p vars (gl L s.2.2.1.toNat))
  else if s.1 = 2 ∧ befB p vars S k s.2.2.1 = true ∧ befB p vars S k s.2.2.2.1 = true ∧ (0 ≤ s.2.2.2.2.1 ∧ s.2.2.2.2.1 ≤ p - 1) ∧ (0 ≤ s.2.2.2.2.2 ∧ s.2.2.2.2.2 ≤ p - 1) then
    some (modp p (linz s.2.2.2.2.2 (modp p (linz s.2.2.2.2.1 (List.replicate (dn vars) 0) (dPol p vars S s.2.2.1))) (dPol p vars S s.2.2.2.1)))
  else if s.1 = 3 ∧ befB p vars S k s.2.2.1 = true ∧ s.2.2.2.1 = 0 ∧ (1 ≤ s.2.2.2.2.1 ∧ s.2.2.2.2.1 ≤ vars) ∧ s.2.2.2.2.2 = 0 then
    some (mulp p (dn vars) (dPol p vars S s.2.2.1) (litP p (dn vars) s.2.2.2.2.1))
  else none
def stepB (p vars : Int) (L : List (List Int)) (S : List PcT) (k : Nat) : Bool :=
  goodL p vars (gs S k).2.1 && (match dueO p vars L S k with
    | some D => decide (D = accp p (dn vars) (gs S k).2.1)
    | none => false)
def wrongI (p vars : Int) (L : List (List Int)) (S : List PcT) : Int := fidx (fun k => !stepB p vars L S k) S.length
/-- The same polynomial: by its terms, by all coefficients. -/
theorem same_iff {p vars : Int} {xs : List (Int × Int)} {D : List Int} (hv : 0 ≤ vars) (hg : goodL p vars xs = true) (hB : Bd p D) (hl : D.length = dn vars) : (decide (xs = trm D)) = decide (D = accp p (dn vars) xs) := by
  rw [Bool.eq_iff_iff, decide_eq_true_iff, decide_eq_true_iff]
  constructor
  · intro h; rw [h, accp_trm hB hl]
  · intro h; rw [h, good_trm hv hg]
theorem due_bd {p vars : Int} {L : List (List Int)} {S : List PcT} {k : Nat} {D : List Int} (hp : 2 ≤ p) (h : dueO p vars L S k = some D) : Bd p D ∧ D.length = dn vars := by
  unfold dueO at h
  dsimp only at h
  split at h
  · cases h; exact ⟨clD_bd hp _, clD_len _ _ _⟩
  · split at h
    · cases h; exact ⟨modp_bd (by omega) _, by rw [modp_length, linz_length, modp_length, linz_length]; simp⟩
    · split at h
      · cases h; exact ⟨mulp_bd (by omega), mulp_length⟩
      · cases h
theorem osls_more {p vars : Int} {L : List (List Int)} {i : Nat} {k : Nat} (h : i < L.length) (hk : k = dn vars) : osls (qL p vars (L.take i)) ++ [.osl 1 (icells (clD p vars (gl L i))) k none] = osls (qL p vars (L.take (i + 1))) := by
  have hg : L[i] = gl L i := by unfold gl; rw [List.getElem?_eq_getElem h]; rfl
  rw [List.take_succ_eq_append_getElem h, hg]
  unfold qL osls
  rw [List.map_append, List.map_append]
  simp [clD_len, hk]
theorem alg_shT (p vars : Int) (L : List (List Int)) : shT (.tup [.op [.int .i64 p, .int .i64 vars, .int .i64 vars, .sl (sls L) L.length, .osl 1 (osls (qL p vars L)) L.length none], .bool true])
    = .tup [.pp [.int .i64 p, .int .i64 vars, .int .i64 vars, .sl (sls L) L.length, .sl (sls (qL p vars L)) L.length] 0, .bool true] := by
  simp [shT, sh, shL, shL_osls, shL_id _ (sls_pure L).1 (sls_pure L).2]
end Go.Av
namespace Go.Av
open Go
section
variable {p vars : Int} {L : List (List Int)} {S : List PcT} {k : Nat} {i : Int}
def befD (p vars : Int) (S : List PcT) (k : Nat) (i : Int) : List Int := if befB p vars S k i then dPol p vars S i else []
theorem befD_yes (h : befB p vars S k i = true) : befD p vars S k i = dPol p vars S i := if_pos h
theorem befD_no (h : befB p vars S k i = false) : befD p vars S k i = [] := if_neg (by simp [h])
theorem befB_spec (h : befB p vars S k i = true) : (0 ≤ i ∧ i ≤ (k : Int) - 1) ∧ goodL p vars (gs S i.toNat).2.1 = true := by
  unfold befB at h; simpa [inR] using h
theorem dPol_len : (dPol p vars S i).length = dn vars := accp_length _ _ _
theorem dPol_bd (hp : 1 ≤ p) : Bd p (dPol p vars S i) := accp_Bd hp _ _
theorem befD_len (h : befB p vars S k i = true) : (befD p vars S k i).length = dn vars := by rw [befD_yes h, dPol_len]
theorem due1 (h : (gs S k).1 = 1 ∧ (0 ≤ (gs S k).2.2.1 ∧ (gs S k).2.2.1 ≤ (L.length : Int) - 1) ∧ (gs S k).2.2.2.1 = 0 ∧ (gs S k).2.2.2.2.1 = 0 ∧ (gs S k).2.2.2.2.2 = 0) :
    dueO p vars L S k = some (clD p vars (gl L (gs S k).2.2.1.toNat)) := by
  unfold dueO; dsimp only; rw [if_pos h]
theorem due2 (h : (gs S k).1 = 2 ∧ befB p vars S k (gs S k).2.2.1 = true ∧ befB p vars S k (gs S k).2.2.2.1 = true ∧ (0 ≤ (gs S k).2.2.2.2.1 ∧ (gs S k).2.2.2.2.1 ≤ p - 1) ∧ (0 ≤ (gs S k).2.2.2.2.2 ∧ (gs S k).2.2.2.2.2 ≤ p - 1)) :
    dueO p vars L S k = some (modp p (linz (gs S k).2.2.2.2.2 (modp p (linz (gs S k).2.2.2.2.1 (List.replicate (dn vars) 0) (dPol p vars S (gs S k).2.2.1))) (dPol p vars S (gs S k).2.2.2.1))) := by
  unfold dueO; dsimp only; rw [if_neg (by intro h1; omega), if_pos h]
theorem due3 (h : (gs S k).1 = 3 ∧ befB p vars S k (gs S k).2.2.1 = true ∧ (gs S k).2.2.2.1 = 0 ∧ (1 ≤ (gs S k).2.2.2.2.1 ∧ (gs S k).2.2.2.2.1 ≤ vars) ∧ (gs S k).2.2.2.2.2 = 0) :
    dueO p vars L S k = some (mulp p (dn vars) (dPol p vars S (gs S k).2.2.1) (litP p (dn vars) (gs S k).2.2.2.2.1)) := by
  unfold dueO; dsimp only; rw [if_neg (by intro h1; omega), if_neg (by intro h1; omega), if_pos h]
theorem due_none (h1 : ¬((gs S k).1 = 1 ∧ (0 ≤ (gs S k).2.2.1 ∧ (gs S k).2.2.1 ≤ (L.length : Int) - 1) ∧ (gs S k).2.2.2.1 = 0 ∧ (gs S k).2.2.2.2.1 = 0 ∧ (gs S k).2.2.2.2.2 = 0))
    (h2 : ¬((gs S k).1 = 2 ∧ befB p vars S k (gs S k).2.2.1 = true ∧ befB p vars S k (gs S k).2.2.2.1 = true ∧ (0 ≤ (gs S k).2.2.2.2.1 ∧ (gs S k).2.2.2.2.1 ≤ p - 1) ∧ (0 ≤ (gs S k).2.2.2.2.2 ∧ (gs S k).2.2.2.2.2 ≤ p - 1)))
    (h3 : ¬((gs S k).1 = 3 ∧ befB p vars S k (gs S k).2.2.1 = true ∧ (gs S k).2.2.2.1 = 0 ∧ (1 ≤ (gs S k).2.2.2.2.1 ∧ (gs S k).2.2.2.2.1 ≤ vars) ∧ (gs S k).2.2.2.2.2 = 0)) : dueO p vars L S k = none := by
  unfold dueO; dsimp only; rw [if_neg h1, if_neg h2, if_neg h3]
theorem step_no (h : goodL p vars (gs S k).2.1 = false) : stepB p vars L S k = false := by unfold stepB; rw [h]; rfl
theorem step_none (h : dueO p vars L S k = none) : stepB p vars L S k = false := by unfold stepB; rw [h]; simp
theorem step_some {D : List Int} (hp : prime p vars = true) (hg : goodL p vars (gs S k).2.1 = true) (h : dueO p vars L S k = some D) : stepB p vars L S k = decide ((gs S k).2.1 = trm D) := by
  have hpp := prime_spec hp
  have hb := due_bd (by omega) h
  rw [same_iff (by omega) hg hb.1 hb.2]
  unfold stepB; rw [h, hg]; rfl
theorem step_eq : (((dueO p vars L S k).isSome && goodL p vars (gs S k).2.1) && decide ((dueO p vars L S k).getD [] = accp p (dn vars) (gs S k).2.1)) = stepB p vars L S k := by
  unfold stepB
  cases dueO p vars L S k <;> simp
theorem step_1 (hp : prime p vars = true) (hg : goodL p vars (gs S k).2.1 = true) (h : (gs S k).1 = 1) :
    ((((decide ((gs S k).2.2.2.1 = 0) && decide ((gs S k).2.2.2.2.1 = 0)) && decide ((gs S k).2.2.2.2.2 = 0)) && inR (gs S k).2.2.1 0 ((L.length : Int) - 1)) && decide ((gs S k).2.1 = trm (clD p vars (gl L (gs S k).2.2.1.toNat)))) = stepB p vars L S k := by
  by_cases hq : (gs S k).1 = 1 ∧ (0 ≤ (gs S k).2.2.1 ∧ (gs S k).2.2.1 ≤ (L.length : Int) - 1) ∧ (gs S k).2.2.2.1 = 0 ∧ (gs S k).2.2.2.2.1 = 0 ∧ (gs S k).2.2.2.2.2 = 0
  · rw [step_some hp hg (due1 hq)]
    obtain ⟨h1, ⟨h2, h3⟩, h4, h5, h6⟩ := hq
    rw [h4, h5, h6, show inR (gs S k).2.2.1 0 ((L.length : Int) - 1) = true from inR_spec.2 ⟨h2, h3⟩]
    simp
  · rw [step_none (due_none hq (by intro h2; omega) (by intro h2; omega)), Bool.eq_false_iff]
    intro hl
    simp only [Bool.and_eq_true, decide_eq_true_eq, inR_spec] at hl
    exact hq ⟨h, hl.1.2, hl.1.1.1.1, hl.1.1.1.2, hl.1.1.2⟩
theorem step_x (h1 : (gs S k).1 ≠ 1) (h : ((gs S k).1 ≠ 2 ∧ (gs S k).1 ≠ 3) ∨ befB p vars S k (gs S k).2.2.1 = false) : stepB p vars L S k = false := by
  refine step_none (due_none (fun h2 => h1 h2.1) (fun h2 => ?_) (fun h2 => ?_))
  · rcases h with h | h
    · exact h.1 h2.1
    · rw [h2.2.1] at h; cases h
  · rcases h with h | h
    · exact h.2 h2.1
    · rw [h2.2.1] at h; cases h
theorem step_3 (hp : prime p vars = true) (hg : goodL p vars (gs S k).2.1 = true) (h : (gs S k).1 = 3) (hb : befB p vars S k (gs S k).2.2.1 = true) :
    (((decide ((gs S k).2.2.2.1 = 0) && decide ((gs S k).2.2.2.2.2 = 0)) && inR (gs S k).2.2.2.2.1 1 vars) && decide ((gs S k).2.1 = trm (mulp p (dn vars) (dPol p vars S (gs S k).2.2.1) (litP p (dn vars) (gs S k).2.2.2.2.1)))) = stepB p vars L S k := by
  by_cases hq : (gs S k).1 = 3 ∧ befB p vars S k (gs S k).2.2.1 = true ∧ (gs S k).2.2.2.1 = 0 ∧ (1 ≤ (gs S k).2.2.2.2.1 ∧ (gs S k).2.2.2.2.1 ≤ vars) ∧ (gs S k).2.2.2.2.2 = 0
  · rw [step_some hp hg (due3 hq)]
    obtain ⟨h1, h2, h3, h4, h5⟩ := hq
    rw [h3, h5, show inR (gs S k).2.2.2.2.1 1 vars = true from inR_spec.2 h4]
    simp
  · rw [step_none (due_none (by intro h2; omega) (by intro h2; omega) hq), Bool.eq_false_iff]
    intro hl
    simp only [Bool.and_eq_true, decide_eq_true_eq, inR_spec] at hl
    exact hq ⟨h, hb, hl.1.1.1, hl.1.2, hl.1.1.2⟩
theorem step_2n (h : (gs S k).1 = 2) (hn : ¬(befB p vars S k (gs S k).2.2.2.1 = true ∧ (0 ≤ (gs S k).2.2.2.2.1 ∧ (gs S k).2.2.2.2.1 ≤ p - 1) ∧ (0 ≤ (gs S k).2.2.2.2.2 ∧ (gs S k).2.2.2.2.2 ≤ p - 1))) : stepB p vars L S k = false :=
  step_none (due_none (by intro h2; omega) (fun h2 => hn ⟨h2.2.2.1, h2.2.2.2⟩) (by intro h2; omega))
theorem step_2 (hp : prime p vars = true) (hg : goodL p vars (gs S k).2.1 = true) (h : (gs S k).1 = 2) (hb : befB p vars S k (gs S k).2.2.1 = true) (hb2 : befB p vars S k (gs S k).2.2.2.1 = true)
    (hC : 0 ≤ (gs S k).2.2.2.2.1 ∧ (gs S k).2.2.2.2.1 ≤ p - 1) (hD : 0 ≤ (gs S k).2.2.2.2.2 ∧ (gs S k).2.2.2.2.2 ≤ p - 1) :
    decide ((gs S k).2.1 = trm (modp p (linz (gs S k).2.2.2.2.2 (modp p (linz (gs S k).2.2.2.2.1 (List.replicate (dn vars) 0) (dPol p vars S (gs S k).2.2.1))) (dPol p vars S (gs S k).2.2.2.1)))) = stepB p vars L S k :=
  (step_some hp hg (due2 ⟨h, hb, hb2, hC, hD⟩)).symm
/-- A variable times a polynomial. -/
theorem times_eq {xs : List (Int × Int)} {v : Int} (hp : prime p vars = true) (hg : goodL p vars xs = true) (hv : 1 ≤ v ∧ v ≤ vars) :
    goodL p vars [(2 ^ (v - 1).toNat, 1)] = true ∧ sOut p (dn vars) xs [(2 ^ (v - 1).toNat, 1)] = mulp p (dn vars) (accp p (dn vars) xs) (litP p (dn vars) v) := by
  have hpp := prime_spec hp
  have hlb : litB vars (-v) = true := litB_spec.2 ⟨by omega, by omega⟩
  have hf : fT p (-v) = [(2 ^ (v - 1).toNat, 1)] := by
    unfold fT vr
    rw [if_pos (by omega), if_pos (by omega)]
    simp
  have hgf := fT_good (p := p) (by omega) hlb
  have hac := accp_fT (p := p) (by omega) hlb
  rw [hf] at hgf hac
  refine ⟨hgf, ?_⟩
  have := sOut_mul hp (accp_Bd (p := p) (by omega) (dn vars) xs) (accp_length _ _ _) hgf
  rw [good_trm (by omega) hg, hac, Int.neg_neg] at this
  exact this
def sumP (p vars x y : Int) (xs ys : List (Int × Int)) : List Int := modp p (linz y (modp p (linz x (List.replicate (dn vars) 0) (accp p (dn vars) xs))) (accp p (dn vars) ys))
def sumM (p vars x : Int) (xs : List (Int × Int)) : List Int := modp p (linz x (List.replicate (dn vars) 0) (accp p (dn vars) xs))
theorem sumM_len {x : Int} {xs : List (Int × Int)} : (sumM p vars x xs).length = dn vars := by unfold sumM; rw [modp_length, linz_length]; simp
theorem sumM_bd {x : Int} {xs : List (Int × Int)} (hp : 1 ≤ p) : Bd p (sumM p vars x xs) := modp_bd hp _
theorem sumP_eq {x y : Int} {xs ys : List (Int × Int)} (hp : 1 ≤ p) : modp p (linz y (accp p (dn vars) (trm (sumM p vars x xs))) (accp p (dn vars) ys)) = sumP p vars x y xs ys := by
  rw [accp_trm (sumM_bd hp) sumM_len]; rfl
theorem wrong_found (hk : k < S.length) (h : stepB p vars L S k = false) (hn : ∀ j, j < k → stepB p vars L S j = true) : wrongI p vars L S = k := fidx_found (p := fun k => !stepB p vars L S k) hk (by simp [h]) (fun j hj => by simp [hn j hj])
theorem wrong_none (hn : ∀ j, j < S.length → stepB p vars L S j = true) : wrongI p vars L S = -1 := fidx_none (p := fun k => !stepB p vars L S k) (fun j hj => by simp [hn j hj])
def derB (p vars : Int) (L : List (List Int)) (S : List PcT) : Bool := decide ((S.length : Int) ≤ 300) && decide (wrongI p vars L S < 0)
theorem der_good (h : wrongI p vars L S < 0) (hk : k < S.length) : goodL p vars (gs S k).2.1 = true := by
  by_cases hw : wrongI p vars L S = -1
  · have hs : stepB p vars L S k = true := by
      have := fidx_any (p := fun k => !stepB p vars L S k) (n := S.length)
      have h0 : decide (0 ≤ wrongI p vars L S) = false := by rw [hw]; rfl
      unfold wrongI at h0
      rw [h0] at this
      have h1 := this.symm
      rw [List.any_eq_false] at h1
      have h2 := h1 k (List.mem_range.2 hk)
      simpa using h2
    unfold stepB at hs
    rw [Bool.and_eq_true] at hs
    exact hs.1
  · obtain ⟨i, _, hi, _⟩ := fidx_spec (p := fun k => !stepB p vars L S k) (n := S.length) hw
    unfold wrongI at h; omega
def lastX (S : List PcT) : List (Int × Int) := (gs S (S.length - 1)).2.1
def refB (p vars : Int) (L : List (List Int)) (S : List PcT) : Bool := (derB p vars L S && decide ((S.length : Int) > 0)) && decide (lastX S = [(0, 1)])
theorem ref_eq (hp : prime p vars = true) : ((decide ((S.length : Int) > 0) && derB p vars L S) && decide (accp p (dn vars) (lastX S) = one (dn vars) 0)) = refB p vars L S := by
  unfold refB
  rw [Bool.and_comm (decide ((S.length : Int) > 0))]
  cases h1 : derB p vars L S && decide ((S.length : Int) > 0)
  · rfl
  · simp only [Bool.and_eq_true, decide_eq_true_eq] at h1
    have hw : wrongI p vars L S < 0 := by have := h1.1; unfold derB at this; simp only [Bool.and_eq_true, decide_eq_true_eq] at this; exact this.2
    have hpp := prime_spec hp
    have hs := same_iff (p := p) (vars := vars) (by omega) (der_good hw (k := S.length - 1) (by omega)) (one_bd (p := p) (by omega) (dn vars) 0) (one_length _ _)
    rw [trm_one (p := p) (by omega) (by omega)] at hs
    unfold lastX
    rw [hs, Bool.true_and, Bool.true_and]
    exact decide_eq_decide.2 ⟨Eq.symm, Eq.symm⟩
end
theorem sls_noRef : ∀ (L : List (List Int)), noRefL (sls L) = true := fun L => by
  induction L with
  | nil => rfl
  | cons c L ih => unfold sls at ih ⊢; simp [noRefL, noRef, ic_noRef, ih]
theorem tup_sh (p vars : Int) (S : List PcT) (k : Nat) (i : Int) : shT (.tup [.osl 1 (icells (befD p vars S k i)) (befD p vars S k i).length none, .bool (befB p vars S k i)])
    = .tup [.sl (icells (befD p vars S k i)) (befD p vars S k i).length, .bool (befB p vars S k i)] := by
  simp [shT, sh, shL, shL_id _ (ic_pure (befD p vars S k i)).1 (ic_pure (befD p vars S k i)).2]
theorem tm_ext {xs ys : List (Int × Int)} (hl : xs.length = ys.length) (h : ∀ j, j < xs.length → tm xs j = tm ys j) : xs = ys :=
  List.ext_getElem hl (fun i h1 h2 => by have := h i h1; simpa [tm, h1, h2] using this)
def StOk (S : List PcT) : Prop := S.length ≤ 1048576 ∧ totP S S.length ≤ 1048576
theorem st_len {S : List PcT} (h : StOk S) (i : Nat) : ((gs S i).2.1.length : Int) ≤ 9223372036854775807 := by have := lenP S i; have := h.2; omega
end Go.Av
namespace Go.Av
open Go
section
variable {P : Program} {N : Nat} {A : Bool} {σ : Sig} {x y : Operand} {ty xt yt : TypeId}
theorem run_part_int (w : World) {t : TypeId} {k : IntKind} (u : P.underlying t = some (.int k)) (cs : Array Value) (i : Nat) (v : Value) (h : cs[i]? = some v) : (Go.part t cs i).run P w = .ok v w := by
  simp [Go.part, isAgg, run_underlying u, h]
theorem run_equal_int (w : World) {t : TypeId} {k : IntKind} (u : P.underlying t = some (.int k)) (d : Nat) (a b : Int) : (Op.equalIn (d + 1) t (.int .i64 a) (.int .i64 b)).run P w = .ok (a == b) w := by
  rw [Op.equalIn]
  simp [run_underlying u]
theorem run_equal_two (w : World) {t : TypeId} {f1 f2 : Field} {k1 k2 : IntKind} (hu : P.underlying t = some (.struct #[f1, f2])) (hs : P.stoodInHeld t = false) (h1 : (f1.name != "_") = true) (h2 : (f2.name != "_") = true)
    (o1 : f1.offset = 0) (o2 : f2.offset = 1) (u1 : P.underlying f1.type = some (.int k1)) (u2 : P.underlying f2.type = some (.int k2)) (a b c d : Int) :
    (Op.equal t (.agg #[.int .i64 a, .int .i64 b]) (.agg #[.int .i64 c, .int .i64 d])).run P w = .ok (a == c && b == d) w := by
  unfold Op.equal
  rw [show Op.maxDepth = 9998 + 1 + 1 from rfl]
  rw [Op.equalIn]
  have p1 := fun (x y : Int) => run_part_int (P := P) w u1 #[.int .i64 x, .int .i64 y] 0 _ rfl
  have p2 := fun (x y : Int) => run_part_int (P := P) w u2 #[.int .i64 x, .int .i64 y] 1 _ rfl
  have e1 := run_equal_int (P := P) w u1 9998 a c
  have e2 := run_equal_int (P := P) w u2 9998 b d
  have n1 : ¬ f1.name = "_" := by simpa using h1
  have n2 : ¬ f2.name = "_" := by simpa using h2
  simp only [Sem.run_bind, run_underlying hu, Result.andThen_ok]
  simp [hs, n1, n2, o1, o2, p1, p2, e1]
  by_cases hac : a = c
  · subst hac
    simp [n2, o2, p2, e2]
    by_cases hbd : b = d <;> simp [hbd]
  · simp [hac]
/-- '!=' on structs of two ints. -/
theorem v_neqT {f1 f2 : Field} {k1 k2 : IntKind} {a b c d : Int} (hu : P.underlying xt = some (.struct #[f1, f2])) (hs : P.stoodInHeld xt = false) (hg : P.eqGuardType P.depth xt = false) (h1 : (f1.name != "_") = true) (h2 : (f2.name != "_") = true)
    (o1 : f1.offset = 0) (o2 : f2.offset = 1) (u1 : P.underlying f1.type = some (.int k1)) (u2 : P.underlying f2.type = some (.int k2)) (hx : RdTo N A σ x (.agg [.int .i64 a, .int .i64 b])) (hy : RdTo N A σ y (.agg [.int .i64 c, .int .i64 d])) :
    VSem P N A (.binOp .neq xt x y yt) ty σ (slots x ++ slots y) (.bool (!(decide (a = c) && decide (b = d)))) :=
  ⟨noOwn_scalar rfl, fun hA σ' hD gv e ac w β F hi p o' ho _ => by
    have ex := hx.rep hA (agree_l hD) hi p
    have ey := hy.rep hA (agree_r hD) hi p
    have two : ∀ {v : Value} {m n : Int}, Rep β F w (.agg [.int .i64 m, .int .i64 n]) p v → v = .agg #[.int .i64 m, .int .i64 n] := fun {v m n} h => by
      simp only [Rep] at h
      obtain ⟨vs, rfl, hl, h⟩ := h
      match vs, hl, h with
      | [v1, v2], _, h => simp only [RepL, Rep] at h; rw [h.1, h.2.1]
    have ex := two ex
    have ey := two ey
    have he := run_equal_two (P := P) w hu hs h1 h2 o1 o2 u1 u2 a b c d
    refine ⟨.bool (!(decide (a = c) && decide (b = d))), ?_, by simp [Rep]⟩
    have hb : ∀ m n : Int, (m == n) = decide (m = n) := fun m n => by rw [Bool.eq_iff_iff]; simp
    simp [execOp, ho, ex, ey, eqGuard, hg, binOp, he, hb]⟩
end
end Go.Av
namespace Go.Av
open Go
section
variable {P : Program} {N : Nat} {A : Bool} {σ : Sig} {x : Operand} {ty : TypeId}
/-- A field of a struct that is there only behind a guard. -/
theorem v_fieldG {s f o : Nat} {cs : List AV} {c : AV} (hf : fieldPart P s f = some (false, o, 1)) (hx : RdTo N A σ x (.agg cs)) (hc : cs[o]? = some c) (hn : flat c = true) : VSem P N A (.field s x f) ty σ (slots x) c :=
  ⟨noOwn_flat hn, fun hA σ' hD gv e ac w β F hi p o' ho _ => by
    have ex := hx.rep hA hD hi p
    simp only [Rep] at ex
    obtain ⟨vs, ex, _, hr⟩ := ex
    obtain ⟨u, hu, hru⟩ := RepL_iff.1 hr o c hc
    refine ⟨u, ?_, hru.tr _ (fun b hb => ⟨hb, rfl⟩) (fun r y hy ho => ?_) (fun _ _ => rfl)⟩
    · obtain ⟨fs, d, h1, h2, h3, h4⟩ := fieldPart_spec hf
      subst h3
      have h2' : fs[f]? = some d := h2
      simp [execOp, ho, ex, Instr.field, run_underlying h1, h2', Go.part, (tyAgg_spec h4 w).1, hu, asAgg]
    · have := noOwn_flat hn r y hy
      rw [this] at ho; cases ho⟩
end
section
variable {P : Program} {N : Nat} {o : Oper} {σ : Sig}
theorem o_store_keep {t off s y t8 off8 : Nat} {cs0 cs' : List AV} {g : Bool} {q : Place} {x : Operand} {z v y' : AV} (ho : o.op = .store t x (.tmp y)) (hd : o.dst = none) (ht : tyAgg P t = some (g, s)) (hx : RdTo N true σ x (.rp q off)) (hyN : y < N) (hy : σ y = v)
    (hyq : Nat.beq y q.1 = false) (hv : bigV v = true) (hn : noRefL (cellsOf v) = true) (hrv : refs v = [])
    (hz : node (σ q.1) q.2 = some z) (hzo : z.isOwn = true) (hc : cellL (cellsOf v) = true) (hs : (cellsOf v).length = s) (hl : off + s ≤ (kids z).length)
    (hr : refs (σ q.1) = []) (hres : setNode (σ q.1) q.2 (setKids z (setL (kids z) off (cellsOf v))) = y')
    (hk : σ t8 = .rp (q.1, []) off8) (h0 : σ q.1 = .op cs0) (h1 : y' = .op cs') : OStep P N o σ (upd (upd (fun i => purgeV q.1 (upd σ y .undef i)) q.1 y') t8 (.rp (q.1, []) off8)) := by
  intro gv e a w ⟨hdf, hsz, β, F, hi⟩ K Q hK
  have hyq' : y ≠ q.1 := fun h => by subst h; simp at hyq
  have ex := hx.rep rfl (fun _ _ => rfl) hi (0, [])
  obtain ⟨hi1, hd1⟩ := hi.detach_slot (t := y) (by rw [hy]; exact hrv)
  rw [hy] at hd1
  have hval : valOf N gv a y = a.eval (.tmp y) := by simp [valOf, hyN, Act.eval]
  rw [hval] at hd1
  obtain ⟨δ', hd2⟩ := hd1.cellsOf hv hn
  have hul := hd2.repL.1
  have hur := hd2.repL.2
  have hz1 : node (upd σ y .undef q.1) q.2 = some z := by rw [upd_other _ _ (Ne.symm hyq')]; exact hz
  have hr1 : refs (upd σ y .undef q.1) = [] := by rw [upd_other _ _ (Ne.symm hyq')]; exact hr
  have hq : blk (upd σ y .undef) q = some (kids z) := by
    unfold blk; rw [hz1]
    cases z <;> simp [AV.isOwn] at hzo <;> rfl
  simp only [Rep] at ex
  obtain ⟨b, s1, hb1, ex⟩ := ex
  rcases hi1.block hq with ⟨hb2, _⟩ | ⟨b2, s2, arr, tt, hb2, hh, hrc, hnr⟩
  · rw [hb1] at hb2; cases hb2
  · rw [hb1] at hb2
    simp only [Option.some.injEq, Prod.mk.injEq] at hb2
    obtain ⟨rfl, rfl⟩ := hb2
    have hcl := hrc.len
    simp only [Array.length_toList] at hcl
    have hrun := run_storeAt (b := b) (off := off) ht (v := a.eval (.tmp y)) (hul.trans hs) hh (by omega) (ones_of hur hul hc)
    obtain ⟨β', h⟩ := hi1.store (ns := cellsOf v) (off := off) (cs := kids z) hz1 hzo rfl hb1 hh hr1 hd2 hn hnr (by rw [← hul]; omega) (σ1 := fun i => purgeV q.1 (upd σ y .undef i)) (fun i _ => by
      rcases purgeV_or q.1 (upd σ y .undef i) with hp | hp
      · right
        refine ⟨hp, fun q' hq' => under_off fun hh => ?_⟩
        rw [← hp] at hq'
        exact refs_purge q' hq' hh.1
      · exact .inl hp)
    rw [upd_other _ _ (Ne.symm hyq'), hres] at h
    have r8 := hi.rep t8
    rw [hk] at r8
    simp only [Rep] at r8
    obtain ⟨b8, s8, hb8, hv8⟩ := r8
    have r0 := hi.rep q.1
    rw [h0] at r0
    simp only [Rep] at r0
    obtain ⟨_, b0, arr0, _, hb0, hv0, _⟩ := r0
    have r1 := h.rep q.1
    rw [upd_same, h1] at r1
    simp only [Rep] at r1
    obtain ⟨_, b9, arr9, _, hb9, hv9, _⟩ := r1
    rw [hb8] at hb0
    simp only [Option.some.injEq, Prod.mk.injEq] at hb0
    rw [hv0] at hv9
    have he : b9 = b8 := by
      have h3 := hb0.1
      simp at hv9
      omega
    have h9 := h.set t8 (x := .rp (q.1, []) off8) (v := valOf N gv a t8) (by simp only [Rep]; exact ⟨b9, arr9.size, hb9, by rw [hv8, he]⟩) (fun r y hy => by
      cases r with
      | nil => simp [node] at hy; subst hy; rfl
      | cons j r => simp [node, kids] at hy)
    rw [upd_self] at h9
    refine wp_unit (w' := w.setRow b (spliceV arr.toList off (a.eval (.tmp y)).cells.toList).toArray) ?_ (hK _ _ ⟨?_, ?_, β', F, ?_⟩)
    · simp only [execOp, ho, ex, hrun, Sem.run_bind, Sem.run_pure, Result.andThen_ok]
    · rw [hd]; exact hdf
    · rw [hd]; exact hsz
    · rw [hd]; exact h9
end
end Go.Av
namespace Go.Av
open Go Go.Proofs Go.Sort
set_option maxRecDepth 10000
theorem fo88_2 : fieldOff Try.prog 88 2 = some 4 := by kernel_rfl
theorem hb104 : hasBody Try.prog 104 = true := by kernel_rfl
theorem hb105 : hasBody Try.prog 105 = true := by kernel_rfl
theorem sp88 : structPl Try.prog 88 = some ([.int .i64 0, .int .i64 0, .int .i64 0, .nils, .nils], [(0, 2), (2, 2), (4, 1)]) := by kernel_rfl
theorem ta86 : tyAgg Try.prog 86 = some (false, 1) := by kernel_rfl

theorem algOk_c (p vars : Int) (L : List (List Int)) (hk : CnfOk vars L) (ha : aOk p vars L = true) : ACall Try.prog 55 [.int .i64 p, .agg [.int .i64 vars, .sl (sls L) L.length]] [] (.tup [.op [.int .i64 p, .int .i64 vars, .int .i64 vars, .sl (sls L) L.length, .osl 1 (osls (qL p vars L)) L.length none], .bool true]) [] := by
  obtain ⟨hp, hc⟩ := aOk_spec ha
  have hpp := prime_spec hp
  have hcs := cnfB_spec hc
  have hd := dn_le hpp.2
  refine ACall.intro Try.func55 rfl (N := 50) rfl (by decide) (by simp) ?_
  refine a_seq ?_
  refine a_region ?_
  refine r_new (v := .op [.int _ _, .sl _ _]) (q_box (.inl rfl) rfl rfl) rfl rfl (by decide) ?_
  refine r_val (v := .nilp) (v_assign (.inl rfl) (noOwn_flat rfl)) rfl rfl (by decide) ?_
  refine r_val (v := .bool _) (v_assign (.inl rfl) (noOwn_flat rfl)) rfl rfl (by decide) ?_
  refine r_nil ?_
  refine a_seq ?_
  refine a_region ?_
  refine r_val (v := .int _ _) (v_move (.inl rfl) (noOwn_flat rfl)) rfl rfl (by decide) ?_
  refine r_val (v := .rp _ _) (v_fieldAddr_rp fo31_0 (.inl rfl)) rfl rfl (by decide) ?_
  refine r_val (v := .int _ _) (v_load_rp1 ta3 (.inl rfl) rfl (fun _ => rfl) rfl) rfl rfl (by decide) ?_
  refine r_new (v := .tup [.agg [.int _ _, .int _ _], .bool _]) (q_call (vs := [.int _ _, .int _ _]) (args := [.int .i64 _, .int .i64 _]) hb103 ⟨.inl rfl, .inl rfl, trivial⟩ rfl (fun hA => ringOf_c p vars) rfl rfl) rfl rfl (by decide) ?_
  refine r_val (v := .tup [.agg [.int _ _, .int _ _], .bool _]) (v_mv rfl) rfl rfl (by decide) ?_
  refine r_val (v := .agg [.int _ _, .int _ _]) (v_extract rfl rfl) rfl rfl (by decide) ?_
  refine r_val (v := .bool _) (v_extract rfl rfl) rfl rfl (by decide) ?_
  refine r_new (v := .op [.int _ _, .int _ _]) (q_alloc zc85) rfl rfl (by decide) ?_
  refine r_step rfl (o_store (v := .agg [.int _ _, .int _ _]) (y' := .op [.int _ _, .int _ _]) rfl rfl ta85 (.inl rfl) (.inl rfl) rfl rfl rfl rfl rfl rfl (Nat.le_of_ble_eq_true rfl) (by decide) rfl rfl) ?_
  refine r_val (v := .bool _) (v_assign (.inl rfl) (noOwn_flat rfl)) rfl rfl (by decide) ?_
  refine r_nil ?_
  refine a_seq ?_
  refine a_seq ?_
  refine a_region ?_
  refine r_val (v := .bool _) (v_move (.inl rfl) (noOwn_flat rfl)) rfl rfl (by decide) ?_
  refine r_val (v := .bool _) (v_not (.inl rfl)) rfl rfl (by decide) ?_
  refine r_val (v := .bool _) (v_move (.inl rfl) (noOwn_flat rfl)) rfl rfl (by decide) ?_
  refine r_gval (v := .agg [.int _ _, .sl _ _]) (v_load_rpa1 ta31 (.inl rfl) rfl rfl (fun _ => rfl) rfl) rfl rfl rfl (by decide) (.inl ⟨_, rfl, rfl⟩) rfl (by decide) ?_
  refine r_guard (v := .bool _) (q_call (vs := [.agg [.int _ _, .sl _ _]]) (args := [.agg [.int .i64 _, .sl _ _]]) hb104 ⟨.inr ⟨_, rfl, fun h => h⟩, trivial⟩ rfl (fun hA => isCnf_c vars L hk) rfl rfl) rfl rfl rfl (by decide) (.inl ⟨_, rfl, rfl⟩) rfl (by decide) ?_
  refine r_gval (v := .bool _) (v_not (.inr ⟨_, rfl, fun h => h⟩)) rfl rfl rfl (by decide) (.inl ⟨_, rfl, rfl⟩) rfl (by decide) ?_
  refine r_val (v := .bool _) (v_pick (.inl rfl) (.inl rfl) (.inr ⟨_, rfl, fun h h2 => by simp_all⟩)) rfl rfl (by decide) ?_
  refine r_nil ?_
  refine a_cond rfl (fun ht24 => ?_) (fun ht24 => ?_)
  ·
    skip
    exfalso
    simp [hp, hc] at ht24
  ·
    skip
    refine a_skip ?_
    refine a_seq ?_
    refine a_region ?_
    refine r_val (v := .agg [.int _ _, .int _ _]) (v_load_rpa1 ta85 (.inl rfl) rfl rfl (fun _ => rfl) rfl) rfl rfl (by decide) ?_
    refine r_val (v := .agg [.int _ _, .sl _ _]) (v_load_rpa1 ta31 (.inl rfl) rfl rfl (fun _ => rfl) rfl) rfl rfl (by decide) ?_
    refine r_val (v := .agg [.int _ _, .int _ _, .int _ _, .sl _ _, .nils]) (v_build sp88 rfl rfl) rfl rfl (by decide) ?_
    refine r_new (v := .op [.int _ _, .int _ _, .int _ _, .sl _ _, .nils]) (q_box (.inl rfl) rfl rfl) rfl rfl (by decide) ?_
    refine r_pre (ent_nil_at (t := 28) (r := [4]) (sz := 1) rfl (.inl rfl) rfl rfl) ?_
    refine r_val (v := .rp _ _) (v_assign (.inl rfl) (noOwn_flat rfl)) rfl rfl (by decide) ?_
    refine r_nil ?_
    refine a_seq ?_
    refine a_seq ?_
    refine a_region ?_
    refine r_val (v := .rp _ _) (v_fieldAddr_rp fo31_1 (.inl rfl)) rfl rfl (by decide) ?_
    refine r_val (v := .sl _ _) (v_load_rp1 ta22 (.inl rfl) rfl (fun _ => rfl) rfl) rfl rfl (by decide) ?_
    refine r_val (v := .int _ _) (v_len_sl sl22 (.inl rfl)) rfl rfl (by decide) ?_
    refine r_val (v := .int _ _) (v_move (.inl rfl) (noOwn_flat rfl)) rfl rfl (by decide) ?_
    refine r_nil ?_
    refine a_block ?_
    refine a_loop (X := Nat) (fun i => look [(6, .op [.int .i64 p, .int .i64 vars]), (8, .rp (28, []) 0), (28, .op [.int .i64 p, .int .i64 vars, .int .i64 vars, .sl (sls L) L.length, .osl 1 (osls (qL p vars (L.take i))) i none]), (30, .sl (sls L) L.length), (31, .int .i64 (L.length : Int)), (32, .int .i64 ((i : Nat) : Int))]) (fun i => i ≤ L.length) (fun i => L.length - i) 0 (ent_look ⟨Weak.of_eq rfl, Weak.of_eq rfl, Weak.of_eq rfl, Weak.of_eq rfl, Weak.of_eq rfl, Weak.of_eq rfl, trivial⟩) (Nat.zero_le _) (fun i hG => ?_)
    refine a_seq ?_
    refine a_region ?_
    refine r_val (v := .bool _) (v_lss (.inl rfl) (.inl rfl)) rfl rfl (by decide) ?_
    refine r_nil ?_
    refine a_seq ?_
    refine a_cond rfl (fun ht33 => ?_) (fun ht33 => ?_)
    ·
      skip
      refine a_skip ?_
      refine a_seq ?_
      refine a_block ?_
      refine a_seq ?_
      have hi : i < L.length := (by simp at ht33; omega)
      have hcc := hcs.2.2 i hi
      have hll := len_tot (L := L) (i := i)
      have hk3 := hk.2.2.1
      refine a_region ?_
      refine r_val (v := .pp _ _) (v_indexAddr_sl es22 (.inl rfl) (.inl rfl) (fun _ => ⟨by omega, by omega, sls_ne hi⟩)) rfl rfl (by decide) ?_
      refine r_val (v := .sl (icells (gl L i)) (gl L i).length) (v_load_pp ta25 (.inl rfl) (fun _ => by rw [Nat.mul_one]; exact sls_get hi) rfl) rfl rfl (by decide) ?_
      refine r_val (v := .sl _ _) (v_assign (.inl rfl) (noOwn_flat rfl)) rfl rfl (by decide) ?_
      refine r_nil ?_
      refine a_region_z (n := 10) [[(36, true)], [(37, true)], [(38, true)], [(39, true)], [(40, true)], [(41, true)], [(42, true)], [(43, true)], [(43, false), (44, true)], [(28, false), (40, true), (44, false), (45, true)]] mixed (by kernel_rfl) ?_
      refine z_val (v := .rp _ _) (v_move (.inl rfl) (noOwn_flat rfl)) rfl rfl (by decide) rfl (by kernel_rfl) ?_
      refine z_val (v := .rp _ _) (v_move (.inl rfl) (noOwn_flat rfl)) rfl rfl (by decide) rfl (by kernel_rfl) ?_
      refine z_val (v := .rp _ _) (v_nilCheck (.inl rfl) rfl) rfl rfl (by decide) rfl (by kernel_rfl) ?_
      refine z_val (v := .rp _ _) (v_fieldAddr_rp fo88_2 (.inl rfl)) rfl rfl (by decide) rfl (by kernel_rfl) ?_
      refine z_val (v := .rsl _ _ _ _ _) (v_load_rp (c := .osl _ _ _ _) ta86 (.inl rfl) rfl (fun _ => rfl)) rfl rfl (by decide) rfl (by kernel_rfl) ?_
      refine z_val (v := .agg [.int _ _, .int _ _]) (v_load_rpa1 ta85 (.inl rfl) rfl rfl (fun _ => rfl) rfl) rfl rfl (by decide) rfl (by kernel_rfl) ?_
      refine z_val (v := .sl _ _) (v_move (.inl rfl) (noOwn_flat rfl)) rfl rfl (by decide) rfl (by kernel_rfl) ?_
      refine z_new (v := .osl _ _ _ _) (q_call (vs := [.agg [.int _ _, .int _ _], .sl _ _]) (args := [.agg [.int .i64 _, .int .i64 _], .sl _ _]) hb105 ⟨.inl rfl, .inl rfl, trivial⟩ rfl (fun hA => rclause_c p vars (gl L i) hp hcc (by omega)) (ic_noSh _) (ic_noRef _)) rfl rfl (by decide) rfl (by kernel_rfl) ?_
      refine z_sliceLit1 (v := .osl _ _ _ _) rfl rfl lt86 rfl rfl (by decide) (by decide) (by decide) rfl rfl (by simp [cellsOf, noRefL, noRef, ic_noRef]) rfl rfl rfl (by kernel_rfl) ?_
      refine z_append_own_ref rfl rfl ap86 rfl (by decide) (by decide) (by decide) (by decide) (by decide) (by decide) (by decide) (by decide) (by decide) rfl rfl rfl rfl rfl rfl (by rw [osls_length, qL_len, List.length_take]; omega) rfl (by omega) rfl (by kernel_rfl) ?_
      refine z_nil ?_
      refine r_val (v := .rp _ _) (v_nilCheck (.inl rfl) rfl) rfl rfl (by decide) ?_
      refine r_val (v := .rp _ _) (v_fieldAddr_rp fo88_2 (.inl rfl)) rfl rfl (by decide) ?_
      refine r_pre (ent_eq (t := 45) (v' := .osl 1 (osls (qL p vars (L.take (i + 1)))) (i + 1) none) (Weak.osl (osls_more hi rfl) rfl)) ?_
      refine r_step rfl (o_store_keep (t8 := 8) (v := .osl _ _ _ _) (y' := .op [.int _ _, .int _ _, .int _ _, .sl _ _, .osl _ _ _ _]) rfl rfl ta86 (.inl rfl) (by decide) rfl (by decide) rfl (by simp [cellsOf, noRefL, noRef, osls_noRef, sls_noRef]) rfl rfl rfl rfl rfl (Nat.le_of_ble_eq_true rfl) rfl rfl rfl rfl rfl) ?_
      refine r_nil ?_
      refine a_region ?_
      refine r_val (v := .int _ _) (v_add (.inl rfl) (.inl rfl) (fun _ => by omega)) rfl rfl (by decide) ?_
      refine r_val (v := .int _ _) (v_move (.inl rfl) (noOwn_flat rfl)) rfl rfl (by decide) ?_
      refine r_nil ?_
      refine ⟨i + 1, ent_look ⟨Weak.of_eq rfl, Weak.of_eq rfl, Weak.of_eq rfl, Weak.of_eq rfl, Weak.of_eq rfl, Weak.of_eq (int_eq (by omega)), trivial⟩, by omega, by omega⟩
    ·
      skip
      refine a_exit ?_
      refine a_seq ?_
      refine a_region ?_
      refine r_val (v := .rp _ _) (v_move (.inl rfl) (noOwn_flat rfl)) rfl rfl (by decide) ?_
      refine r_val (v := .rp _ _) (v_assign (.inl rfl) (noOwn_flat rfl)) rfl rfl (by decide) ?_
      refine r_pre (ent_reloc_op (t := 4) rfl rfl) ?_
      refine r_val (v := .bool _) (v_assign (.inl rfl) (noOwn_flat rfl)) rfl rfl (by decide) ?_
      refine r_nil ?_
      refine a_ret ?_
      refine retL (rs := [.tmp 4, .tmp 5]) [(4, _), (5, _)] ⟨Weak.rfl, Weak.rfl, trivial⟩ rfl Try.results55 (by decide) ⟨by decide, by decide, rfl⟩ (by decide) (by decide) (l2_eq ?_ (bool_eq ?_)) rfl
      all_goals (have hie : i = L.length := (by simp at ht33; omega); subst hie; first | rfl | (rw [List.take_of_length_le (Nat.le_refl _)]; rfl))

theorem algNo_c (p vars : Int) (L : List (List Int)) (hk : CnfOk vars L) (hno : aOk p vars L = false) : ACall Try.prog 55 [.int .i64 p, .agg [.int .i64 vars, .sl (sls L) L.length]] [] (.tup [.nilp, .bool false]) [] := by
  refine ACall.intro Try.func55 rfl (N := 50) rfl (by decide) (by simp) ?_
  refine a_seq ?_
  refine a_region ?_
  refine r_new (v := .op [.int _ _, .sl _ _]) (q_box (.inl rfl) rfl rfl) rfl rfl (by decide) ?_
  refine r_val (v := .nilp) (v_assign (.inl rfl) (noOwn_flat rfl)) rfl rfl (by decide) ?_
  refine r_val (v := .bool _) (v_assign (.inl rfl) (noOwn_flat rfl)) rfl rfl (by decide) ?_
  refine r_nil ?_
  refine a_seq ?_
  refine a_region ?_
  refine r_val (v := .int _ _) (v_move (.inl rfl) (noOwn_flat rfl)) rfl rfl (by decide) ?_
  refine r_val (v := .rp _ _) (v_fieldAddr_rp fo31_0 (.inl rfl)) rfl rfl (by decide) ?_
  refine r_val (v := .int _ _) (v_load_rp1 ta3 (.inl rfl) rfl (fun _ => rfl) rfl) rfl rfl (by decide) ?_
  refine r_new (v := .tup [.agg [.int _ _, .int _ _], .bool _]) (q_call (vs := [.int _ _, .int _ _]) (args := [.int .i64 _, .int .i64 _]) hb103 ⟨.inl rfl, .inl rfl, trivial⟩ rfl (fun hA => ringOf_c p vars) rfl rfl) rfl rfl (by decide) ?_
  refine r_val (v := .tup [.agg [.int _ _, .int _ _], .bool _]) (v_mv rfl) rfl rfl (by decide) ?_
  refine r_val (v := .agg [.int _ _, .int _ _]) (v_extract rfl rfl) rfl rfl (by decide) ?_
  refine r_val (v := .bool _) (v_extract rfl rfl) rfl rfl (by decide) ?_
  refine r_new (v := .op [.int _ _, .int _ _]) (q_alloc zc85) rfl rfl (by decide) ?_
  refine r_step rfl (o_store (v := .agg [.int _ _, .int _ _]) (y' := .op [.int _ _, .int _ _]) rfl rfl ta85 (.inl rfl) (.inl rfl) rfl rfl rfl rfl rfl rfl (Nat.le_of_ble_eq_true rfl) (by decide) rfl rfl) ?_
  refine r_val (v := .bool _) (v_assign (.inl rfl) (noOwn_flat rfl)) rfl rfl (by decide) ?_
  refine r_nil ?_
  refine a_seq ?_
  refine a_seq ?_
  refine a_region ?_
  refine r_val (v := .bool _) (v_move (.inl rfl) (noOwn_flat rfl)) rfl rfl (by decide) ?_
  refine r_val (v := .bool _) (v_not (.inl rfl)) rfl rfl (by decide) ?_
  refine r_val (v := .bool _) (v_move (.inl rfl) (noOwn_flat rfl)) rfl rfl (by decide) ?_
  refine r_gval (v := .agg [.int _ _, .sl _ _]) (v_load_rpa1 ta31 (.inl rfl) rfl rfl (fun _ => rfl) rfl) rfl rfl rfl (by decide) (.inl ⟨_, rfl, rfl⟩) rfl (by decide) ?_
  refine r_guard (v := .bool _) (q_call (vs := [.agg [.int _ _, .sl _ _]]) (args := [.agg [.int .i64 _, .sl _ _]]) hb104 ⟨.inr ⟨_, rfl, fun h => h⟩, trivial⟩ rfl (fun hA => isCnf_c vars L hk) rfl rfl) rfl rfl rfl (by decide) (.inl ⟨_, rfl, rfl⟩) rfl (by decide) ?_
  refine r_gval (v := .bool _) (v_not (.inr ⟨_, rfl, fun h => h⟩)) rfl rfl rfl (by decide) (.inl ⟨_, rfl, rfl⟩) rfl (by decide) ?_
  refine r_val (v := .bool _) (v_pick (.inl rfl) (.inl rfl) (.inr ⟨_, rfl, fun h h2 => by simp_all⟩)) rfl rfl (by decide) ?_
  refine r_nil ?_
  refine a_cond rfl (fun ht24 => ?_) (fun ht24 => ?_)
  ·
    skip
    refine a_seq ?_
    refine a_region ?_
    refine r_val (v := .nilp) (v_assign (.inl rfl) (noOwn_flat rfl)) rfl rfl (by decide) ?_
    refine r_val (v := .bool _) (v_assign (.inl rfl) (noOwn_flat rfl)) rfl rfl (by decide) ?_
    refine r_nil ?_
    refine a_ret ?_
    refine retL (rs := [.tmp 4, .tmp 5]) [(4, _), (5, _)] ⟨Weak.rfl, Weak.rfl, trivial⟩ rfl Try.results55 (by decide) ⟨by decide, by decide, rfl⟩ (by decide) (by decide) (l2_eq ?_ (bool_eq ?_)) rfl
    all_goals rfl
  ·
    skip
    refine a_skip ?_
    refine a_seq ?_
    exfalso
    unfold aOk at hno; cases h1 : prime p vars <;> cases h2 : cnfB vars L <;> simp_all
end Go.Av
namespace Go.Av
open Go Go.Proofs Go.Sort
set_option maxRecDepth 10000
theorem es55 : elemSize Try.prog 55 = some 6 := by kernel_rfl
theorem es86 : elemSize Try.prog 86 = some 1 := by kernel_rfl
theorem fo119_0 : fieldOff Try.prog 119 0 = some 0 := by kernel_rfl
theorem fo119_1 : fieldOff Try.prog 119 1 = some 1 := by kernel_rfl
theorem fo119_2 : fieldOff Try.prog 119 2 = some 2 := by kernel_rfl
theorem fo119_3 : fieldOff Try.prog 119 3 = some 3 := by kernel_rfl
theorem fo119_4 : fieldOff Try.prog 119 4 = some 4 := by kernel_rfl
theorem fo119_5 : fieldOff Try.prog 119 5 = some 5 := by kernel_rfl
theorem fo88_0 : fieldOff Try.prog 88 0 = some 0 := by kernel_rfl
theorem hb114 : hasBody Try.prog 114 = true := by kernel_rfl
theorem hb126 : hasBody Try.prog 126 = true := by kernel_rfl
theorem hb151 : hasBody Try.prog 151 = true := by kernel_rfl
theorem hb152 : hasBody Try.prog 152 = true := by kernel_rfl
theorem hb81 : hasBody Try.prog 81 = true := by kernel_rfl
theorem hb84 : hasBody Try.prog 84 = true := by kernel_rfl
theorem sl55 : isSlice Try.prog 55 = true := by kernel_rfl
theorem sl86 : isSlice Try.prog 86 = true := by kernel_rfl
theorem ta119 : tyAgg Try.prog 119 = some (true, 6) := by kernel_rfl
theorem ta91 : tyAgg Try.prog 91 = some (false, 1) := by kernel_rfl
theorem zc119 : zeroCells Try.prog 119 = some [.int .i64 0, .nils, .int .i64 0, .int .i64 0, .int .i64 0, .int .i64 0] := by kernel_rfl

theorem pbef_c (p vars : Int) (L : List (List Int)) (S : List PcT) (k : Nat) (i : Int) (hp : prime p vars = true) (hS : StOk S) (hk : k < S.length) : ACall Try.prog 151 [.pp [.int .i64 p, .int .i64 vars, .int .i64 vars, .sl (sls L) L.length, .sl (sls (qL p vars L)) L.length] 0, .sl (stc S) S.length, .int .i64 ((k : Nat) : Int), .int .i64 i] [] (.tup [.osl 1 (icells (befD p vars S k i)) (befD p vars S k i).length none, .bool (befB p vars S k i)]) [] := by
  have hpp := prime_spec hp
  have hd := dn_le hpp.2
  have hS1 := hS.1
  refine ACall.intro Try.func151 rfl (N := 38) rfl (by decide) (by simp) ?_
  refine a_seq ?_
  refine a_region ?_
  refine r_val (v := .nils) (v_assign (.inl rfl) (noOwn_flat rfl)) rfl rfl (by decide) ?_
  refine r_val (v := .bool _) (v_assign (.inl rfl) (noOwn_flat rfl)) rfl rfl (by decide) ?_
  refine r_nil ?_
  refine a_seq ?_
  refine a_seq ?_
  refine a_region_any mixed (by kernel_rfl) ?_
  refine y_val (v := .int _ _) (v_move (.inl rfl) (noOwn_flat rfl)) rfl rfl (by decide) (by kernel_rfl) ?_
  refine y_val (v := .int _ _) (v_move (.inl rfl) (noOwn_flat rfl)) rfl rfl (by decide) (by kernel_rfl) ?_
  refine y_val (v := .int _ _) (v_sub (.inl rfl) (.inl rfl) (fun _ => by omega)) rfl rfl (by decide) (by kernel_rfl) ?_
  refine y_new (v := .bool _) (q_call (vs := [.int _ _, .int _ _, .int _ _]) (args := [.int .i64 _, .int .i64 _, .int .i64 _]) hb80 ⟨.inl rfl, .inl rfl, .inl rfl, trivial⟩ rfl (fun hA => within_c i 0 ((k : Int) - 1)) rfl rfl) rfl rfl (by decide) (by kernel_rfl) ?_
  refine y_val (v := .bool _) (v_not (.inl rfl)) rfl rfl (by decide) (by kernel_rfl) ?_
  refine y_val (v := .bool _) (v_move (.inl rfl) (noOwn_flat rfl)) rfl rfl (by decide) (by kernel_rfl) ?_
  refine y_guard (v := .pp _ _) (v_move (.inl rfl) (noOwn_flat rfl)).quiet rfl rfl rfl (by decide) (.inl ⟨_, rfl, rfl⟩) rfl (by decide) (by kernel_rfl) ?_
  refine y_guard (v := .pp _ _) (v_nilCheck (.inr ⟨_, rfl, fun h => h⟩) rfl).quiet rfl rfl rfl (by decide) (.inl ⟨_, rfl, rfl⟩) rfl (by decide) (by kernel_rfl) ?_
  refine y_guard (v := .pp _ _) (v_fieldAddr_pp fo88_0 (.inr ⟨_, rfl, fun h => h⟩)).quiet rfl rfl rfl (by decide) (.inl ⟨_, rfl, rfl⟩) rfl (by decide) (by kernel_rfl) ?_
  refine y_guard (v := .agg [.int _ _, .int _ _]) (VSem.quiet (v_load_ppa1 ta85 (.inr ⟨_, rfl, fun h => h⟩) rfl (fun _ => rfl) rfl)) rfl rfl rfl (by decide) (.inl ⟨_, rfl, rfl⟩) rfl (by decide) (by kernel_rfl) ?_
  refine y_guard (v := .sl _ _) (v_move (.inl rfl) (noOwn_flat rfl)).quiet rfl rfl rfl (by decide) (.inl ⟨_, rfl, rfl⟩) rfl (by decide) (by kernel_rfl) ?_
  refine y_guard (v := .int _ _) (v_move (.inl rfl) (noOwn_flat rfl)).quiet rfl rfl rfl (by decide) (.inl ⟨_, rfl, rfl⟩) rfl (by decide) (by kernel_rfl) ?_
  refine y_guard (v := .pp _ _) (v_indexAddr_sl es55 (.inr ⟨_, rfl, fun h => h⟩) (.inr ⟨_, rfl, fun h => h⟩) (fun hA => by simp [inR] at hA; exact ⟨by omega, by omega, stc_ne (i := i.toNat) (by omega)⟩)).quiet rfl rfl rfl (by decide) (.inl ⟨_, rfl, rfl⟩) rfl (by decide) (by kernel_rfl) ?_
  refine y_guard (v := .pp _ _) (v_fieldAddr_pp fo119_1 (.inr ⟨_, rfl, fun h => h⟩)).quiet rfl rfl rfl (by decide) (.inl ⟨_, rfl, rfl⟩) rfl (by decide) (by kernel_rfl) ?_
  refine y_guard (v := .sl (tcells (gs S i.toNat).2.1) (gs S i.toNat).2.1.length) (v_load_pp ta34 (.inr ⟨_, rfl, fun h => h⟩) (fun hA => by simp [inR] at hA; exact (stc_at (i := i.toNat) (j := 1) (by omega) (by decide)).trans rfl) rfl).quiet rfl rfl rfl (by decide) (.inl ⟨_, rfl, rfl⟩) rfl (by decide) (by kernel_rfl) ?_
  refine y_guard (v := .bool _) (q_call (vs := [.agg [.int _ _, .int _ _], .sl _ _]) (args := [.agg [.int .i64 _, .int .i64 _], .sl _ _]) hb57 ⟨.inr ⟨_, rfl, fun h => h⟩, .inr ⟨_, rfl, fun h => h⟩, trivial⟩ rfl (fun hA => ringIs_c p vars _ (st_len hS i.toNat) hp) rfl rfl) rfl rfl rfl (by decide) (.inl ⟨_, rfl, rfl⟩) rfl (by decide) (by kernel_rfl) ?_
  refine y_guard (v := .bool _) (v_not (.inr ⟨_, rfl, fun h => h⟩)).quiet rfl rfl rfl (by decide) (.inl ⟨_, rfl, rfl⟩) rfl (by decide) (by kernel_rfl) ?_
  refine y_val (v := .bool _) (v_pick (.inl rfl) (.inl rfl) (.inr ⟨_, rfl, fun h h2 => by simp_all⟩)) rfl rfl (by decide) (by kernel_rfl) ?_
  refine y_nil ?_
  refine a_cond rfl (fun ht27 => ?_) (fun ht27 => ?_)
  ·
    skip
    refine a_seq ?_
    have hb : befB p vars S k i = false := (by unfold befB; cases h1 : inR i 0 ((k : Int) - 1) <;> cases h2 : goodL p vars (gs S i.toNat).2.1 <;> simp_all)
    refine a_region ?_
    refine r_val (v := .nils) (v_assign (.inl rfl) (noOwn_flat rfl)) rfl rfl (by decide) ?_
    refine r_val (v := .bool _) (v_assign (.inl rfl) (noOwn_flat rfl)) rfl rfl (by decide) ?_
    refine r_nil ?_
    refine a_pre (ent_nil (t := 8) (sz := 1) (cap := none) (.inl rfl) (fun _ h => by cases h)) ?_
    refine a_ret ?_
    refine retL (rs := [.tmp 8, .tmp 9]) [(8, .osl _ _ _ none), (9, _)] ⟨Weak.osl rfl rfl, Weak.rfl, trivial⟩ rfl Try.results151 (by decide) ⟨by decide, by decide, rfl⟩ (by decide) (by decide) (l2_eq (osl_eq2 ?_ ?_) (bool_eq ?_)) rfl
    all_goals (first | (rw [befD_no hb]; rfl) | rw [hb])
  ·
    skip
    refine a_skip ?_
    refine a_seq ?_
    have hb : befB p vars S k i = true := (by unfold befB; cases h1 : inR i 0 ((k : Int) - 1) <;> cases h2 : goodL p vars (gs S i.toNat).2.1 <;> simp_all)
    obtain ⟨hbi, hbg⟩ := befB_spec hb
    have hxl := st_len hS i.toNat
    refine a_region_any mixed (by kernel_rfl) ?_
    refine y_val (v := .pp _ _) (v_move (.inl rfl) (noOwn_flat rfl)) rfl rfl (by decide) (by kernel_rfl) ?_
    refine y_val (v := .pp _ _) (v_nilCheck (.inl rfl) rfl) rfl rfl (by decide) (by kernel_rfl) ?_
    refine y_val (v := .pp _ _) (v_fieldAddr_pp fo88_0 (.inl rfl)) rfl rfl (by decide) (by kernel_rfl) ?_
    refine y_val (v := .agg [.int _ _, .int _ _]) (v_load_ppa1 ta85 (.inl rfl) rfl (fun _ => rfl) rfl) rfl rfl (by decide) (by kernel_rfl) ?_
    refine y_val (v := .sl _ _) (v_move (.inl rfl) (noOwn_flat rfl)) rfl rfl (by decide) (by kernel_rfl) ?_
    refine y_val (v := .int _ _) (v_move (.inl rfl) (noOwn_flat rfl)) rfl rfl (by decide) (by kernel_rfl) ?_
    refine y_val (v := .pp _ _) (v_indexAddr_sl es55 (.inl rfl) (.inl rfl) (fun _ => ⟨by omega, by omega, stc_ne (i := i.toNat) (by omega)⟩)) rfl rfl (by decide) (by kernel_rfl) ?_
    refine y_val (v := .pp _ _) (v_fieldAddr_pp fo119_1 (.inl rfl)) rfl rfl (by decide) (by kernel_rfl) ?_
    refine y_val (v := .sl (tcells (gs S i.toNat).2.1) (gs S i.toNat).2.1.length) (v_load_pp ta34 (.inl rfl) (fun _ => (stc_at (i := i.toNat) (j := 1) (by omega) (by decide)).trans rfl) rfl) rfl rfl (by decide) (by kernel_rfl) ?_
    refine y_new (v := .osl _ _ _ _) (q_call (vs := [.agg [.int _ _, .int _ _], .sl _ _]) (args := [.agg [.int .i64 _, .int .i64 _], .sl _ _]) hb59 ⟨.inl rfl, .inl rfl, trivial⟩ rfl (fun hA => dense_c p vars _ hp hxl (good_range hbg)) (ic_noSh _) (ic_noRef _)) rfl rfl (by decide) (by kernel_rfl) ?_
    refine y_val (v := .rsl _ _ _ _ _) (v_assign (.inl rfl) (noOwn_flat rfl)) rfl rfl (by decide) (by kernel_rfl) ?_
    refine y_val (v := .bool _) (v_assign (.inl rfl) (noOwn_flat rfl)) rfl rfl (by decide) (by kernel_rfl) ?_
    refine y_nil ?_
    refine a_pre (ent_reloc_sl (t := 8) rfl rfl) ?_
    refine a_ret ?_
    refine retL (rs := [.tmp 8, .tmp 9]) [(8, .osl _ _ _ none), (9, _)] ⟨Weak.osl rfl rfl, Weak.rfl, trivial⟩ rfl Try.results151 (by decide) ⟨by decide, by decide, rfl⟩ (by decide) (by decide) (l2_eq (osl_eq2 ?_ ?_) (bool_eq ?_)) rfl
    all_goals (first | (rw [befD_yes hb]; rfl) | (rw [befD_len hb]) | rw [hb])

theorem equalD_c (xs ys : List Int) (m n : Nat) (hx : xs.length = m) (hy : ys.length = n) (hl : m ≤ 1048576) : ACall Try.prog 114 [.sl (icells xs) m, .sl (icells ys) n] [] (.bool (decide (xs = ys))) [] := by
  refine ACall.intro Try.func114 rfl (N := 26) rfl (by decide) (by simp) ?_
  refine a_seq ?_
  refine a_region ?_
  refine r_val (v := .bool _) (v_assign (.inl rfl) (noOwn_flat rfl)) rfl rfl (by decide) ?_
  refine r_nil ?_
  refine a_seq ?_
  refine a_seq ?_
  refine a_region ?_
  refine r_val (v := .sl _ _) (v_move (.inl rfl) (noOwn_flat rfl)) rfl rfl (by decide) ?_
  refine r_val (v := .int _ _) (v_len_sl sl91 (.inl rfl)) rfl rfl (by decide) ?_
  refine r_val (v := .sl _ _) (v_move (.inl rfl) (noOwn_flat rfl)) rfl rfl (by decide) ?_
  refine r_val (v := .int _ _) (v_len_sl sl91 (.inl rfl)) rfl rfl (by decide) ?_
  refine r_val (v := .bool _) (v_neq (.inl rfl) (.inl rfl)) rfl rfl (by decide) ?_
  refine r_nil ?_
  refine a_cond rfl (fun ht10 => ?_) (fun ht10 => ?_)
  ·
    skip
    refine a_seq ?_
    refine a_region ?_
    refine r_val (v := .bool _) (v_assign (.inl rfl) (noOwn_flat rfl)) rfl rfl (by decide) ?_
    refine r_nil ?_
    refine a_ret ?_
    refine ret1 Try.results114 (by decide) (by decide) (Weak.of_eq (bool_eq ?_)) rfl Leaves.nil
    simp at ht10; exact (decide_eq_false (fun h => ht10 (by subst h; omega))).symm
  ·
    skip
    refine a_skip ?_
    refine a_seq ?_
    refine a_seq ?_
    refine a_region ?_
    refine r_val (v := .sl _ _) (v_move (.inl rfl) (noOwn_flat rfl)) rfl rfl (by decide) ?_
    refine r_val (v := .int _ _) (v_len_sl sl91 (.inl rfl)) rfl rfl (by decide) ?_
    refine r_val (v := .int _ _) (v_move (.inl rfl) (noOwn_flat rfl)) rfl rfl (by decide) ?_
    refine r_nil ?_
    refine a_block ?_
    refine a_loop (X := Nat) (fun i => look [(0, .sl (icells xs) m), (1, .sl (icells ys) n), (11, .sl (icells xs) m), (12, .int .i64 (m : Int)), (13, .int .i64 ((i : Nat) : Int))]) (fun i => i ≤ m ∧ m = n ∧ ∀ j, j < i → gd xs j = gd ys j) (fun i => m - i) 0 (ent_look ⟨Weak.of_eq rfl, Weak.of_eq rfl, Weak.of_eq rfl, Weak.of_eq rfl, Weak.of_eq rfl, trivial⟩) ⟨Nat.zero_le _, by simp at ht10; omega, fun j h => by omega⟩ (fun i hG => ?_)
    obtain ⟨g1, g2, g3⟩ := hG
    refine a_seq ?_
    refine a_region ?_
    refine r_val (v := .bool _) (v_lss (.inl rfl) (.inl rfl)) rfl rfl (by decide) ?_
    refine r_nil ?_
    refine a_seq ?_
    refine a_cond rfl (fun ht14 => ?_) (fun ht14 => ?_)
    ·
      skip
      refine a_skip ?_
      refine a_seq ?_
      refine a_block ?_
      refine a_seq ?_
      have hi : i < m := (by simp at ht14; omega)
      refine a_region ?_
      refine r_val (v := .int _ _) (v_move (.inl rfl) (noOwn_flat rfl)) rfl rfl (by decide) ?_
      refine r_val (v := .int _ _) (v_assign (.inl rfl) (noOwn_flat rfl)) rfl rfl (by decide) ?_
      refine r_nil ?_
      refine a_seq ?_
      refine a_region_any mixed (by kernel_rfl) ?_
      refine y_val (v := .sl _ _) (v_move (.inl rfl) (noOwn_flat rfl)) rfl rfl (by decide) (by kernel_rfl) ?_
      refine y_val (v := .int _ _) (v_move (.inl rfl) (noOwn_flat rfl)) rfl rfl (by decide) (by kernel_rfl) ?_
      refine y_val (v := .pp _ _) (v_indexAddr_sl es91 (.inl rfl) (.inl rfl) (fun _ => ⟨by omega, by omega, icells_ne (xs := xs) (i := i) (by omega)⟩)) rfl rfl (by decide) (by kernel_rfl) ?_
      refine y_val (v := .int .i64 (gd xs i)) (v_load_pp ta3 (.inl rfl) (fun _ => by rw [Nat.mul_one]; exact icells_get (gd_get (by omega : i < xs.length))) rfl) rfl rfl (by decide) (by kernel_rfl) ?_
      refine y_val (v := .sl _ _) (v_move (.inl rfl) (noOwn_flat rfl)) rfl rfl (by decide) (by kernel_rfl) ?_
      refine y_val (v := .int _ _) (v_move (.inl rfl) (noOwn_flat rfl)) rfl rfl (by decide) (by kernel_rfl) ?_
      refine y_val (v := .pp _ _) (v_indexAddr_sl es91 (.inl rfl) (.inl rfl) (fun _ => ⟨by omega, by omega, icells_ne (xs := ys) (i := i) (by omega)⟩)) rfl rfl (by decide) (by kernel_rfl) ?_
      refine y_val (v := .int .i64 (gd ys i)) (v_load_pp ta3 (.inl rfl) (fun _ => by rw [Nat.mul_one]; exact icells_get (gd_get (by omega : i < ys.length))) rfl) rfl rfl (by decide) (by kernel_rfl) ?_
      refine y_val (v := .bool _) (v_neq (.inl rfl) (.inl rfl)) rfl rfl (by decide) (by kernel_rfl) ?_
      refine y_nil ?_
      refine a_cond rfl (fun ht24 => ?_) (fun ht24 => ?_)
      ·
        skip
        refine a_seq ?_
        refine a_region ?_
        refine r_val (v := .bool _) (v_assign (.inl rfl) (noOwn_flat rfl)) rfl rfl (by decide) ?_
        refine r_nil ?_
        refine a_ret ?_
        refine ret1 Try.results114 (by decide) (by decide) (Weak.of_eq (bool_eq ?_)) rfl Leaves.nil
        simp at ht24; exact (decide_eq_false (fun h => ht24 (by rw [h]))).symm
      ·
        skip
        refine a_skip ?_
        refine a_region ?_
        refine r_val (v := .int _ _) (v_add (.inl rfl) (.inl rfl) (fun _ => by omega)) rfl rfl (by decide) ?_
        refine r_val (v := .int _ _) (v_move (.inl rfl) (noOwn_flat rfl)) rfl rfl (by decide) ?_
        refine r_nil ?_
        refine ⟨i + 1, ent_look ⟨Weak.of_eq rfl, Weak.of_eq rfl, Weak.of_eq rfl, Weak.of_eq rfl, Weak.of_eq (int_eq (by omega)), trivial⟩, ⟨by omega, g2, fun j h1 => by rcases Nat.lt_or_ge j i with h | h; exact g3 j h; (obtain rfl : j = i := by omega); simpa using ht24⟩, by omega⟩
    ·
      skip
      refine a_exit ?_
      refine a_seq ?_
      refine a_region ?_
      refine r_val (v := .bool _) (v_assign (.inl rfl) (noOwn_flat rfl)) rfl rfl (by decide) ?_
      refine r_nil ?_
      refine a_ret ?_
      refine ret1 Try.results114 (by decide) (by decide) (Weak.of_eq (bool_eq ?_)) rfl Leaves.nil
      simp at ht14; exact (decide_eq_true (gd_ext (by omega) (fun j hj => g3 j (by omega)))).symm

theorem isVar_c (vars v : Int) : ACall Try.prog 152 [.int .i64 vars, .int .i64 v] [] (.bool (inR v 1 vars)) [] := by
  refine ACall.intro Try.func152 rfl (N := 8) rfl (by decide) (by simp) ?_
  refine a_seq ?_
  refine a_region ?_
  refine r_val (v := .bool _) (v_assign (.inl rfl) (noOwn_flat rfl)) rfl rfl (by decide) ?_
  refine r_nil ?_
  refine a_seq ?_
  refine a_region ?_
  refine r_val (v := .int _ _) (v_move (.inl rfl) (noOwn_flat rfl)) rfl rfl (by decide) ?_
  refine r_val (v := .int _ _) (v_move (.inl rfl) (noOwn_flat rfl)) rfl rfl (by decide) ?_
  refine r_new (v := .bool _) (q_call (vs := [.int _ _, .int _ _, .int _ _]) (args := [.int .i64 _, .int .i64 _, .int .i64 _]) hb80 ⟨.inl rfl, .inl rfl, .inl rfl, trivial⟩ rfl (fun hA => within_c v 1 vars) rfl rfl) rfl rfl (by decide) ?_
  refine r_val (v := .bool _) (v_assign (.inl rfl) (noOwn_flat rfl)) rfl rfl (by decide) ?_
  refine r_nil ?_
  refine a_ret ?_
  refine ret1 Try.results152 (by decide) (by decide) (Weak.of_eq (bool_eq ?_)) rfl Leaves.nil
  rfl

theorem pcDue_c (p vars : Int) (L : List (List Int)) (S : List PcT) (k : Nat) (ha : aOk p vars L = true) (hS : StOk S) (hk : k < S.length) : ACall Try.prog 126 [.pp [.int .i64 p, .int .i64 vars, .int .i64 vars, .sl (sls L) L.length, .sl (sls (qL p vars L)) L.length] 0, .sl (stc S) S.length, .int .i64 ((k : Nat) : Int)] [] (.tup [.sl (icells ((dueO p vars L S k).getD [])) ((dueO p vars L S k).getD []).length, .bool (dueO p vars L S k).isSome]) [] := by
  obtain ⟨hp, hc⟩ := aOk_spec ha
  have hpp := prime_spec hp
  have hcs := cnfB_spec hc
  have hd := dn_le hpp.2
  have hS1 := hS.1
  have hqlen := qL_len p vars L
  refine ACall.intro Try.func126 rfl (N := 166) rfl (by decide) (by simp) ?_
  refine a_seq ?_
  refine a_region ?_
  refine r_val (v := .nils) (v_assign (.inl rfl) (noOwn_flat rfl)) rfl rfl (by decide) ?_
  refine r_val (v := .bool _) (v_assign (.inl rfl) (noOwn_flat rfl)) rfl rfl (by decide) ?_
  refine r_nil ?_
  refine a_seq ?_
  refine a_region ?_
  refine r_val (v := .sl _ _) (v_move (.inl rfl) (noOwn_flat rfl)) rfl rfl (by decide) ?_
  refine r_val (v := .int _ _) (v_move (.inl rfl) (noOwn_flat rfl)) rfl rfl (by decide) ?_
  refine r_val (v := .pp _ _) (v_indexAddr_sl es55 (.inl rfl) (.inl rfl) (fun _ => ⟨by omega, by omega, stc_ne hk⟩)) rfl rfl (by decide) ?_
  refine r_val (v := .agg [.int .i64 (gs S k).1, .sl (tcells (gs S k).2.1) (gs S k).2.1.length, .int .i64 (gs S k).2.2.1, .int .i64 (gs S k).2.2.2.1, .int .i64 (gs S k).2.2.2.2.1, .int .i64 (gs S k).2.2.2.2.2]) (v_load_ppa1 ta119 (.inl rfl) rfl (fun _ => stc_six hk) rfl) rfl rfl (by decide) ?_
  refine r_new (v := .op [.int _ _, .nils, .int _ _, .int _ _, .int _ _, .int _ _]) (q_alloc zc119) rfl rfl (by decide) ?_
  refine r_step rfl (o_store (v := .agg [.int _ _, .sl _ _, .int _ _, .int _ _, .int _ _, .int _ _]) (y' := .op [.int _ _, .sl _ _, .int _ _, .int _ _, .int _ _, .int _ _]) rfl rfl ta119 (.inl rfl) (.inl rfl) rfl rfl rfl rfl rfl rfl (Nat.le_of_ble_eq_true rfl) (by decide) rfl rfl) ?_
  refine r_nil ?_
  refine a_seq ?_
  refine a_region ?_
  refine r_val (v := .pp _ _) (v_move (.inl rfl) (noOwn_flat rfl)) rfl rfl (by decide) ?_
  refine r_val (v := .sl _ _) (v_move (.inl rfl) (noOwn_flat rfl)) rfl rfl (by decide) ?_
  refine r_val (v := .int _ _) (v_move (.inl rfl) (noOwn_flat rfl)) rfl rfl (by decide) ?_
  refine r_val (v := .rp _ _) (v_fieldAddr_rp fo119_2 (.inl rfl)) rfl rfl (by decide) ?_
  refine r_val (v := .int _ _) (v_load_rp1 ta3 (.inl rfl) rfl (fun _ => rfl) rfl) rfl rfl (by decide) ?_
  refine r_new (v := .tup [.sl _ _, .bool _]) (QSem.cast (q_callFZ (vs := [.pp _ _, .sl _ _, .int _ _, .int _ _]) (args := [.pp _ _, .sl _ _, .int .i64 _, .int .i64 _]) hb151 ⟨.inl rfl, .inl rfl, .inl rfl, .inl rfl, trivial⟩ rfl (fun hA => pbef_c p vars L S k (gs S k).2.2.1 hp hS hk) rfl (by simp [noRef, noRefL, ic_noRef])) (tup_sh p vars S k _)) rfl rfl (by decide) ?_
  refine r_val (v := .tup [.sl _ _, .bool _]) (v_mv rfl) rfl rfl (by decide) ?_
  refine r_val (v := .sl _ _) (v_extract rfl rfl) rfl rfl (by decide) ?_
  refine r_val (v := .bool _) (v_extract rfl rfl) rfl rfl (by decide) ?_
  refine r_val (v := .sl _ _) (v_assign (.inl rfl) (noOwn_flat rfl)) rfl rfl (by decide) ?_
  refine r_val (v := .bool _) (v_assign (.inl rfl) (noOwn_flat rfl)) rfl rfl (by decide) ?_
  refine r_nil ?_
  refine a_seq ?_
  refine a_region ?_
  refine r_val (v := .pp _ _) (v_move (.inl rfl) (noOwn_flat rfl)) rfl rfl (by decide) ?_
  refine r_val (v := .sl _ _) (v_move (.inl rfl) (noOwn_flat rfl)) rfl rfl (by decide) ?_
  refine r_val (v := .int _ _) (v_move (.inl rfl) (noOwn_flat rfl)) rfl rfl (by decide) ?_
  refine r_val (v := .rp _ _) (v_fieldAddr_rp fo119_3 (.inl rfl)) rfl rfl (by decide) ?_
  refine r_val (v := .int _ _) (v_load_rp1 ta3 (.inl rfl) rfl (fun _ => rfl) rfl) rfl rfl (by decide) ?_
  refine r_new (v := .tup [.sl _ _, .bool _]) (QSem.cast (q_callFZ (vs := [.pp _ _, .sl _ _, .int _ _, .int _ _]) (args := [.pp _ _, .sl _ _, .int .i64 _, .int .i64 _]) hb151 ⟨.inl rfl, .inl rfl, .inl rfl, .inl rfl, trivial⟩ rfl (fun hA => pbef_c p vars L S k (gs S k).2.2.2.1 hp hS hk) rfl (by simp [noRef, noRefL, ic_noRef])) (tup_sh p vars S k _)) rfl rfl (by decide) ?_
  refine r_val (v := .tup [.sl _ _, .bool _]) (v_mv rfl) rfl rfl (by decide) ?_
  refine r_val (v := .sl _ _) (v_extract rfl rfl) rfl rfl (by decide) ?_
  refine r_val (v := .bool _) (v_extract rfl rfl) rfl rfl (by decide) ?_
  refine r_val (v := .sl _ _) (v_assign (.inl rfl) (noOwn_flat rfl)) rfl rfl (by decide) ?_
  refine r_val (v := .bool _) (v_assign (.inl rfl) (noOwn_flat rfl)) rfl rfl (by decide) ?_
  refine r_nil ?_
  refine a_seq ?_
  refine a_block ?_
  refine a_seq ?_
  refine a_pre (ent_look (L := [(0, .pp _ _), (6, .nils), (7, .bool _), (8, .op [.int _ _, .sl _ _, .int _ _, .int _ _, .int _ _, .int _ _]), (9, .sl _ _), (10, .bool _), (11, .sl _ _), (12, .bool _)]) ⟨Weak.rfl, Weak.rfl, Weak.rfl, Weak.rfl, Weak.rfl, Weak.rfl, Weak.rfl, Weak.rfl, trivial⟩) ?_
  refine a_region_any mixed (by kernel_rfl) ?_
  refine y_val (v := .rp _ _) (v_fieldAddr_rp fo119_0 (.inl rfl)) rfl rfl (by decide) (by kernel_rfl) ?_
  refine y_val (v := .int _ _) (v_load_rp1 ta3 (.inl rfl) rfl (fun _ => rfl) rfl) rfl rfl (by decide) (by kernel_rfl) ?_
  refine y_val (v := .bool _) (v_eql (.inl rfl) (.inl rfl)) rfl rfl (by decide) (by kernel_rfl) ?_
  refine y_val (v := .bool _) (v_move (.inl rfl) (noOwn_flat rfl)) rfl rfl (by decide) (by kernel_rfl) ?_
  refine y_guard (v := .rp _ _) (v_fieldAddr_rp fo119_2 (.inl rfl)).quiet rfl rfl rfl (by decide) (.inl ⟨_, rfl, rfl⟩) rfl (by decide) (by kernel_rfl) ?_
  refine y_guard (v := .int _ _) (v_load_rp1 ta3 (.inr ⟨_, rfl, fun h => h⟩) rfl (fun _ => rfl) rfl).quiet rfl rfl rfl (by decide) (.inl ⟨_, rfl, rfl⟩) rfl (by decide) (by kernel_rfl) ?_
  refine y_guard (v := .pp _ _) (v_move (.inl rfl) (noOwn_flat rfl)).quiet rfl rfl rfl (by decide) (.inl ⟨_, rfl, rfl⟩) rfl (by decide) (by kernel_rfl) ?_
  refine y_guard (v := .pp _ _) (v_nilCheck (.inr ⟨_, rfl, fun h => h⟩) rfl).quiet rfl rfl rfl (by decide) (.inl ⟨_, rfl, rfl⟩) rfl (by decide) (by kernel_rfl) ?_
  refine y_guard (v := .pp _ _) (v_fieldAddr_pp fo88_2 (.inr ⟨_, rfl, fun h => h⟩)).quiet rfl rfl rfl (by decide) (.inl ⟨_, rfl, rfl⟩) rfl (by decide) (by kernel_rfl) ?_
  refine y_guard (v := .sl _ _) (v_load_pp ta86 (.inr ⟨_, rfl, fun h => h⟩) (fun _ => rfl) rfl).quiet rfl rfl rfl (by decide) (.inl ⟨_, rfl, rfl⟩) rfl (by decide) (by kernel_rfl) ?_
  refine y_guard (v := .int _ _) (v_len_sl sl86 (.inr ⟨_, rfl, fun h => h⟩)).quiet rfl rfl rfl (by decide) (.inl ⟨_, rfl, rfl⟩) rfl (by decide) (by kernel_rfl) ?_
  refine y_guard (v := .int _ _) (v_sub (.inr ⟨_, rfl, fun h => h⟩) (.inl rfl) (fun _ => by omega)).quiet rfl rfl rfl (by decide) (.inl ⟨_, rfl, rfl⟩) rfl (by decide) (by kernel_rfl) ?_
  refine y_guard (v := .bool _) (q_call (vs := [.int _ _, .int _ _, .int _ _]) (args := [.int .i64 _, .int .i64 _, .int .i64 _]) hb80 ⟨.inr ⟨_, rfl, fun h => h⟩, .inl rfl, .inr ⟨_, rfl, fun h => h⟩, trivial⟩ rfl (fun hA => within_c _ _ _) rfl rfl) rfl rfl rfl (by decide) (.inl ⟨_, rfl, rfl⟩) rfl (by decide) (by kernel_rfl) ?_
  refine y_val (v := .bool _) (v_pick (.inl rfl) (.inr ⟨_, rfl, fun h h2 => by simp_all⟩) (.inl rfl)) rfl rfl (by decide) (by kernel_rfl) ?_
  refine y_val (v := .bool _) (v_move (.inl rfl) (noOwn_flat rfl)) rfl rfl (by decide) (by kernel_rfl) ?_
  refine y_guard (v := .rp _ _) (v_fieldAddr_rp fo119_3 (.inl rfl)).quiet rfl rfl rfl (by decide) (.inl ⟨_, rfl, rfl⟩) rfl (by decide) (by kernel_rfl) ?_
  refine y_guard (v := .int _ _) (v_load_rp1 ta3 (.inr ⟨_, rfl, fun h => h⟩) rfl (fun _ => rfl) rfl).quiet rfl rfl rfl (by decide) (.inl ⟨_, rfl, rfl⟩) rfl (by decide) (by kernel_rfl) ?_
  refine y_guard (v := .bool _) (v_eql (.inr ⟨_, rfl, fun h => h⟩) (.inl rfl)).quiet rfl rfl rfl (by decide) (.inl ⟨_, rfl, rfl⟩) rfl (by decide) (by kernel_rfl) ?_
  refine y_val (v := .bool _) (v_pick (.inl rfl) (.inr ⟨_, rfl, fun h h2 => by simp_all⟩) (.inl rfl)) rfl rfl (by decide) (by kernel_rfl) ?_
  refine y_val (v := .bool _) (v_move (.inl rfl) (noOwn_flat rfl)) rfl rfl (by decide) (by kernel_rfl) ?_
  refine y_guard (v := .rp _ _) (v_fieldAddr_rp fo119_4 (.inl rfl)).quiet rfl rfl rfl (by decide) (.inl ⟨_, rfl, rfl⟩) rfl (by decide) (by kernel_rfl) ?_
  refine y_guard (v := .int _ _) (v_load_rp1 ta3 (.inr ⟨_, rfl, fun h => h⟩) rfl (fun _ => rfl) rfl).quiet rfl rfl rfl (by decide) (.inl ⟨_, rfl, rfl⟩) rfl (by decide) (by kernel_rfl) ?_
  refine y_guard (v := .bool _) (v_eql (.inr ⟨_, rfl, fun h => h⟩) (.inl rfl)).quiet rfl rfl rfl (by decide) (.inl ⟨_, rfl, rfl⟩) rfl (by decide) (by kernel_rfl) ?_
  refine y_val (v := .bool _) (v_pick (.inl rfl) (.inr ⟨_, rfl, fun h h2 => by simp_all⟩) (.inl rfl)) rfl rfl (by decide) (by kernel_rfl) ?_
  refine y_val (v := .bool _) (v_move (.inl rfl) (noOwn_flat rfl)) rfl rfl (by decide) (by kernel_rfl) ?_
  refine y_guard (v := .rp _ _) (v_fieldAddr_rp fo119_5 (.inl rfl)).quiet rfl rfl rfl (by decide) (.inl ⟨_, rfl, rfl⟩) rfl (by decide) (by kernel_rfl) ?_
  refine y_guard (v := .int _ _) (v_load_rp1 ta3 (.inr ⟨_, rfl, fun h => h⟩) rfl (fun _ => rfl) rfl).quiet rfl rfl rfl (by decide) (.inl ⟨_, rfl, rfl⟩) rfl (by decide) (by kernel_rfl) ?_
  refine y_guard (v := .bool _) (v_eql (.inr ⟨_, rfl, fun h => h⟩) (.inl rfl)).quiet rfl rfl rfl (by decide) (.inl ⟨_, rfl, rfl⟩) rfl (by decide) (by kernel_rfl) ?_
  refine y_val (v := .bool _) (v_pick (.inl rfl) (.inr ⟨_, rfl, fun h h2 => by simp_all⟩) (.inl rfl)) rfl rfl (by decide) (by kernel_rfl) ?_
  refine y_val (v := .bool _) (v_assign (.inl rfl) (noOwn_flat rfl)) rfl rfl (by decide) (by kernel_rfl) ?_
  refine y_nil ?_
  refine a_cond rfl (fun ht35 => ?_) (fun ht35 => ?_)
  ·
    skip
    refine a_seq ?_
    refine a_pre (ent_look (L := [(0, .pp _ _), (6, .nils), (7, .bool _), (8, .op [.int _ _, .sl _ _, .int _ _, .int _ _, .int _ _, .int _ _]), (9, .sl _ _), (10, .bool _), (11, .sl _ _), (12, .bool _)]) ⟨Weak.rfl, Weak.rfl, Weak.rfl, Weak.rfl, Weak.rfl, Weak.rfl, Weak.rfl, Weak.rfl, trivial⟩) ?_
    have hq := due1 (p := p) (vars := vars) (L := L) (S := S) (k := k) (by simpa only [inR, Bool.cond_false_right, Bool.cond_true_left, Bool.and_eq_true, decide_eq_true_eq, ← Bool.not_eq_true, qL_len, and_assoc] using ht35)
    have hA1 : 0 ≤ (gs S k).2.2.1 ∧ (gs S k).2.2.1 ≤ (L.length : Int) - 1 := (by simp [inR, hqlen] at ht35; omega)
    refine a_region_any mixed (by kernel_rfl) ?_
    refine y_val (v := .pp _ _) (v_move (.inl rfl) (noOwn_flat rfl)) rfl rfl (by decide) (by kernel_rfl) ?_
    refine y_val (v := .pp _ _) (v_nilCheck (.inl rfl) rfl) rfl rfl (by decide) (by kernel_rfl) ?_
    refine y_val (v := .pp _ _) (v_fieldAddr_pp fo88_2 (.inl rfl)) rfl rfl (by decide) (by kernel_rfl) ?_
    refine y_val (v := .sl _ _) (v_load_pp ta86 (.inl rfl) (fun _ => rfl) rfl) rfl rfl (by decide) (by kernel_rfl) ?_
    refine y_val (v := .rp _ _) (v_fieldAddr_rp fo119_2 (.inl rfl)) rfl rfl (by decide) (by kernel_rfl) ?_
    refine y_val (v := .int _ _) (v_load_rp1 ta3 (.inl rfl) rfl (fun _ => rfl) rfl) rfl rfl (by decide) (by kernel_rfl) ?_
    refine y_val (v := .pp _ _) (v_indexAddr_sl es86 (.inl rfl) (.inl rfl) (fun _ => ⟨by omega, by omega, sls_ne (i := (gs S k).2.2.1.toNat) (by omega)⟩)) rfl rfl (by decide) (by kernel_rfl) ?_
    refine y_val (v := .sl (icells (gl (qL p vars L) (gs S k).2.2.1.toNat)) (gl (qL p vars L) (gs S k).2.2.1.toNat).length) (v_load_pp ta91 (.inl rfl) (fun _ => by rw [Nat.mul_one]; exact sls_get (by omega)) rfl) rfl rfl (by decide) (by kernel_rfl) ?_
    refine y_val (v := .sl _ _) (v_assign (.inl rfl) (noOwn_flat rfl)) rfl rfl (by decide) (by kernel_rfl) ?_
    refine y_val (v := .bool _) (v_assign (.inl rfl) (noOwn_flat rfl)) rfl rfl (by decide) (by kernel_rfl) ?_
    refine y_nil ?_
    refine a_ret ?_
    refine retL (rs := [.tmp 6, .tmp 7]) [(6, _), (7, _)] ⟨Weak.rfl, Weak.rfl, trivial⟩ rfl Try.results126 (by decide) ⟨by decide, by decide, rfl⟩ (by decide) (by decide) (l2_eq (sl_eq2 ?_ ?_) (bool_eq ?_)) rfl
    all_goals (rw [hq] <;> first | rfl | (rw [qL_get (by omega)]; rfl))
  ·
    skip
    refine a_seq ?_
    refine a_pre (ent_look (L := [(0, .pp _ _), (6, .nils), (7, .bool _), (8, .op [.int _ _, .sl _ _, .int _ _, .int _ _, .int _ _, .int _ _]), (9, .sl _ _), (10, .bool _), (11, .sl _ _), (12, .bool _)]) ⟨Weak.rfl, Weak.rfl, Weak.rfl, Weak.rfl, Weak.rfl, Weak.rfl, Weak.rfl, Weak.rfl, trivial⟩) ?_
    refine a_region_any mixed (by kernel_rfl) ?_
    refine y_val (v := .rp _ _) (v_fieldAddr_rp fo119_0 (.inl rfl)) rfl rfl (by decide) (by kernel_rfl) ?_
    refine y_val (v := .int _ _) (v_load_rp1 ta3 (.inl rfl) rfl (fun _ => rfl) rfl) rfl rfl (by decide) (by kernel_rfl) ?_
    refine y_val (v := .bool _) (v_eql (.inl rfl) (.inl rfl)) rfl rfl (by decide) (by kernel_rfl) ?_
    refine y_val (v := .bool _) (v_move (.inl rfl) (noOwn_flat rfl)) rfl rfl (by decide) (by kernel_rfl) ?_
    refine y_guard (v := .bool _) (v_move (.inl rfl) (noOwn_flat rfl)).quiet rfl rfl rfl (by decide) (.inl ⟨_, rfl, rfl⟩) rfl (by decide) (by kernel_rfl) ?_
    refine y_val (v := .bool _) (v_pick (.inl rfl) (.inr ⟨_, rfl, fun h h2 => by simp_all⟩) (.inl rfl)) rfl rfl (by decide) (by kernel_rfl) ?_
    refine y_val (v := .bool _) (v_move (.inl rfl) (noOwn_flat rfl)) rfl rfl (by decide) (by kernel_rfl) ?_
    refine y_guard (v := .bool _) (v_move (.inl rfl) (noOwn_flat rfl)).quiet rfl rfl rfl (by decide) (.inl ⟨_, rfl, rfl⟩) rfl (by decide) (by kernel_rfl) ?_
    refine y_val (v := .bool _) (v_pick (.inl rfl) (.inr ⟨_, rfl, fun h h2 => by simp_all⟩) (.inl rfl)) rfl rfl (by decide) (by kernel_rfl) ?_
    refine y_val (v := .bool _) (v_move (.inl rfl) (noOwn_flat rfl)) rfl rfl (by decide) (by kernel_rfl) ?_
    refine y_guard (v := .rp _ _) (v_fieldAddr_rp fo119_4 (.inl rfl)).quiet rfl rfl rfl (by decide) (.inl ⟨_, rfl, rfl⟩) rfl (by decide) (by kernel_rfl) ?_
    refine y_guard (v := .int _ _) (v_load_rp1 ta3 (.inr ⟨_, rfl, fun h => h⟩) rfl (fun _ => rfl) rfl).quiet rfl rfl rfl (by decide) (.inl ⟨_, rfl, rfl⟩) rfl (by decide) (by kernel_rfl) ?_
    refine y_guard (v := .pp _ _) (v_move (.inl rfl) (noOwn_flat rfl)).quiet rfl rfl rfl (by decide) (.inl ⟨_, rfl, rfl⟩) rfl (by decide) (by kernel_rfl) ?_
    refine y_guard (v := .pp _ _) (v_nilCheck (.inr ⟨_, rfl, fun h => h⟩) rfl).quiet rfl rfl rfl (by decide) (.inl ⟨_, rfl, rfl⟩) rfl (by decide) (by kernel_rfl) ?_
    refine y_guard (v := .pp _ _) (v_fieldAddr_pp fo88_0 (.inr ⟨_, rfl, fun h => h⟩)).quiet rfl rfl rfl (by decide) (.inl ⟨_, rfl, rfl⟩) rfl (by decide) (by kernel_rfl) ?_
    refine y_guard (v := .pp _ _) (v_fieldAddr_pp fo85_0 (.inr ⟨_, rfl, fun h => h⟩)).quiet rfl rfl rfl (by decide) (.inl ⟨_, rfl, rfl⟩) rfl (by decide) (by kernel_rfl) ?_
    refine y_guard (v := .int _ _) (v_load_pp ta3 (.inr ⟨_, rfl, fun h => h⟩) (fun _ => rfl) rfl).quiet rfl rfl rfl (by decide) (.inl ⟨_, rfl, rfl⟩) rfl (by decide) (by kernel_rfl) ?_
    refine y_guard (v := .int _ _) (v_sub (.inr ⟨_, rfl, fun h => h⟩) (.inl rfl) (fun _ => by omega)).quiet rfl rfl rfl (by decide) (.inl ⟨_, rfl, rfl⟩) rfl (by decide) (by kernel_rfl) ?_
    refine y_guard (v := .bool _) (q_call (vs := [.int _ _, .int _ _, .int _ _]) (args := [.int .i64 _, .int .i64 _, .int .i64 _]) hb80 ⟨.inr ⟨_, rfl, fun h => h⟩, .inl rfl, .inr ⟨_, rfl, fun h => h⟩, trivial⟩ rfl (fun hA => within_c _ _ _) rfl rfl) rfl rfl rfl (by decide) (.inl ⟨_, rfl, rfl⟩) rfl (by decide) (by kernel_rfl) ?_
    refine y_val (v := .bool _) (v_pick (.inl rfl) (.inr ⟨_, rfl, fun h h2 => by simp_all⟩) (.inl rfl)) rfl rfl (by decide) (by kernel_rfl) ?_
    refine y_val (v := .bool _) (v_move (.inl rfl) (noOwn_flat rfl)) rfl rfl (by decide) (by kernel_rfl) ?_
    refine y_guard (v := .rp _ _) (v_fieldAddr_rp fo119_5 (.inl rfl)).quiet rfl rfl rfl (by decide) (.inl ⟨_, rfl, rfl⟩) rfl (by decide) (by kernel_rfl) ?_
    refine y_guard (v := .int _ _) (v_load_rp1 ta3 (.inr ⟨_, rfl, fun h => h⟩) rfl (fun _ => rfl) rfl).quiet rfl rfl rfl (by decide) (.inl ⟨_, rfl, rfl⟩) rfl (by decide) (by kernel_rfl) ?_
    refine y_guard (v := .pp _ _) (v_move (.inl rfl) (noOwn_flat rfl)).quiet rfl rfl rfl (by decide) (.inl ⟨_, rfl, rfl⟩) rfl (by decide) (by kernel_rfl) ?_
    refine y_guard (v := .pp _ _) (v_nilCheck (.inr ⟨_, rfl, fun h => h⟩) rfl).quiet rfl rfl rfl (by decide) (.inl ⟨_, rfl, rfl⟩) rfl (by decide) (by kernel_rfl) ?_
    refine y_guard (v := .pp _ _) (v_fieldAddr_pp fo88_0 (.inr ⟨_, rfl, fun h => h⟩)).quiet rfl rfl rfl (by decide) (.inl ⟨_, rfl, rfl⟩) rfl (by decide) (by kernel_rfl) ?_
    refine y_guard (v := .pp _ _) (v_fieldAddr_pp fo85_0 (.inr ⟨_, rfl, fun h => h⟩)).quiet rfl rfl rfl (by decide) (.inl ⟨_, rfl, rfl⟩) rfl (by decide) (by kernel_rfl) ?_
    refine y_guard (v := .int _ _) (v_load_pp ta3 (.inr ⟨_, rfl, fun h => h⟩) (fun _ => rfl) rfl).quiet rfl rfl rfl (by decide) (.inl ⟨_, rfl, rfl⟩) rfl (by decide) (by kernel_rfl) ?_
    refine y_guard (v := .int _ _) (v_sub (.inr ⟨_, rfl, fun h => h⟩) (.inl rfl) (fun _ => by omega)).quiet rfl rfl rfl (by decide) (.inl ⟨_, rfl, rfl⟩) rfl (by decide) (by kernel_rfl) ?_
    refine y_guard (v := .bool _) (q_call (vs := [.int _ _, .int _ _, .int _ _]) (args := [.int .i64 _, .int .i64 _, .int .i64 _]) hb80 ⟨.inr ⟨_, rfl, fun h => h⟩, .inl rfl, .inr ⟨_, rfl, fun h => h⟩, trivial⟩ rfl (fun hA => within_c _ _ _) rfl rfl) rfl rfl rfl (by decide) (.inl ⟨_, rfl, rfl⟩) rfl (by decide) (by kernel_rfl) ?_
    refine y_val (v := .bool _) (v_pick (.inl rfl) (.inr ⟨_, rfl, fun h h2 => by simp_all⟩) (.inl rfl)) rfl rfl (by decide) (by kernel_rfl) ?_
    refine y_val (v := .bool _) (v_assign (.inl rfl) (noOwn_flat rfl)) rfl rfl (by decide) (by kernel_rfl) ?_
    refine y_nil ?_
    refine a_cond rfl (fun ht73 => ?_) (fun ht73 => ?_)
    ·
      skip
      refine a_seq ?_
      refine a_pre (ent_look (L := [(0, .pp _ _), (6, .nils), (7, .bool _), (8, .op [.int _ _, .sl _ _, .int _ _, .int _ _, .int _ _, .int _ _]), (9, .sl _ _), (10, .bool _), (11, .sl _ _)]) ⟨Weak.rfl, Weak.rfl, Weak.rfl, Weak.rfl, Weak.rfl, Weak.rfl, Weak.rfl, trivial⟩) ?_
      have hq := due2 (p := p) (vars := vars) (L := L) (S := S) (k := k) (by simpa only [inR, Bool.cond_false_right, Bool.cond_true_left, Bool.and_eq_true, decide_eq_true_eq, ← Bool.not_eq_true, qL_len, and_assoc] using ht73)
      obtain ⟨hbA9, hbA11, hC2, hD2⟩ : befB p vars S k (gs S k).2.2.1 = true ∧ befB p vars S k (gs S k).2.2.2.1 = true ∧ (0 ≤ (gs S k).2.2.2.2.1 ∧ (gs S k).2.2.2.2.1 ≤ p - 1) ∧ (0 ≤ (gs S k).2.2.2.2.2 ∧ (gs S k).2.2.2.2.2 ≤ p - 1) := (by simp only [inR, Bool.cond_false_right, Bool.and_eq_true, decide_eq_true_eq] at ht73; exact ⟨ht73.1.1.1.2, ht73.1.1.2, ht73.1.2, ht73.2⟩)
      refine a_pre (ent_eq (t := 9) (v' := .sl (icells (dPol p vars S (gs S k).2.2.1)) (dn vars)) (Weak.of_eq (sl_eq2 (by rw [befD_yes hbA9]) (befD_len hbA9)))) ?_
      refine a_pre (ent_eq (t := 11) (v' := .sl (icells (dPol p vars S (gs S k).2.2.2.1)) (dn vars)) (Weak.of_eq (sl_eq2 (by rw [befD_yes hbA11]) (befD_len hbA11)))) ?_
      refine a_region_any mixed (by kernel_rfl) ?_
      refine y_val (v := .pp _ _) (v_move (.inl rfl) (noOwn_flat rfl)) rfl rfl (by decide) (by kernel_rfl) ?_
      refine y_val (v := .pp _ _) (v_nilCheck (.inl rfl) rfl) rfl rfl (by decide) (by kernel_rfl) ?_
      refine y_val (v := .pp _ _) (v_fieldAddr_pp fo88_0 (.inl rfl)) rfl rfl (by decide) (by kernel_rfl) ?_
      refine y_val (v := .agg [.int _ _, .int _ _]) (v_load_ppa1 ta85 (.inl rfl) rfl (fun _ => rfl) rfl) rfl rfl (by decide) (by kernel_rfl) ?_
      refine y_val (v := .pp _ _) (v_move (.inl rfl) (noOwn_flat rfl)) rfl rfl (by decide) (by kernel_rfl) ?_
      refine y_val (v := .pp _ _) (v_nilCheck (.inl rfl) rfl) rfl rfl (by decide) (by kernel_rfl) ?_
      refine y_val (v := .pp _ _) (v_fieldAddr_pp fo88_0 (.inl rfl)) rfl rfl (by decide) (by kernel_rfl) ?_
      refine y_val (v := .agg [.int _ _, .int _ _]) (v_load_ppa1 ta85 (.inl rfl) rfl (fun _ => rfl) rfl) rfl rfl (by decide) (by kernel_rfl) ?_
      refine y_val (v := .pp _ _) (v_move (.inl rfl) (noOwn_flat rfl)) rfl rfl (by decide) (by kernel_rfl) ?_
      refine y_val (v := .pp _ _) (v_nilCheck (.inl rfl) rfl) rfl rfl (by decide) (by kernel_rfl) ?_
      refine y_val (v := .pp _ _) (v_fieldAddr_pp fo88_0 (.inl rfl)) rfl rfl (by decide) (by kernel_rfl) ?_
      refine y_val (v := .agg [.int _ _, .int _ _]) (v_load_ppa1 ta85 (.inl rfl) rfl (fun _ => rfl) rfl) rfl rfl (by decide) (by kernel_rfl) ?_
      refine y_new (v := .osl _ _ _ _) (q_call (vs := [.agg [.int _ _, .int _ _]]) (args := [.agg [.int .i64 _, .int .i64 _]]) hb109 ⟨.inl rfl, trivial⟩ rfl (fun hA => zero_c _ _ hpp.2) (ic_noSh _) (ic_noRef _)) rfl rfl (by decide) (by kernel_rfl) ?_
      refine y_val (v := .sl _ _) (v_move (.inl rfl) (noOwn_flat rfl)) rfl rfl (by decide) (by kernel_rfl) ?_
      refine y_val (v := .rp _ _) (v_fieldAddr_rp fo119_4 (.inl rfl)) rfl rfl (by decide) (by kernel_rfl) ?_
      refine y_val (v := .int _ _) (v_load_rp1 ta3 (.inl rfl) rfl (fun _ => rfl) rfl) rfl rfl (by decide) (by kernel_rfl) ?_
      refine y_new (v := .osl _ _ _ _) (q_call (vs := [.agg [.int _ _, .int _ _], .rsl _ _ _ _ _, .sl _ _, .int _ _]) (args := [.agg [.int .i64 _, .int .i64 _], .sl _ _, .sl _ _, .int .i64 _]) hb116 ⟨.inl rfl, .inl rfl, .inl rfl, .inl rfl, trivial⟩ (l4_eq rfl (sl_sh (ic_pure _)) rfl rfl) (fun hA => plus_c _ _ _ _ _ _ hpp.1 ⟨List.length_replicate, dPol_len, by omega⟩ (rep_bd (by omega) _) (dPol_bd (by omega)) ⟨by omega, by omega⟩) (ic_noSh _) (ic_noRef _)) rfl rfl (by decide) (by kernel_rfl) ?_
      refine y_val (v := .sl _ _) (v_move (.inl rfl) (noOwn_flat rfl)) rfl rfl (by decide) (by kernel_rfl) ?_
      refine y_val (v := .rp _ _) (v_fieldAddr_rp fo119_5 (.inl rfl)) rfl rfl (by decide) (by kernel_rfl) ?_
      refine y_val (v := .int _ _) (v_load_rp1 ta3 (.inl rfl) rfl (fun _ => rfl) rfl) rfl rfl (by decide) (by kernel_rfl) ?_
      refine y_new (v := .sl _ _) (QSem.cast (q_callZ (vs := [.agg [.int _ _, .int _ _], .rsl _ _ _ _ _, .sl _ _, .int _ _]) (args := [.agg [.int .i64 _, .int .i64 _], .sl _ _, .sl _ _, .int .i64 _]) hb116 ⟨.inl rfl, .inl rfl, .inl rfl, .inl rfl, trivial⟩ (l4_eq rfl (sl_sh (ic_pure _)) rfl rfl) (fun hA => plus_c _ _ _ _ _ _ hpp.1 ⟨by rw [modp_length, linz_length]; simp, dPol_len, by omega⟩ (modp_bd (by omega) _) (dPol_bd (by omega)) ⟨by omega, by omega⟩) (ic_noSh _) (ic_noRef _)) (sl_shZ (ic_pure _))) rfl rfl (by decide) (by kernel_rfl) ?_
      refine y_val (v := .sl _ _) (v_assign (.inl rfl) (noOwn_flat rfl)) rfl rfl (by decide) (by kernel_rfl) ?_
      refine y_val (v := .bool _) (v_assign (.inl rfl) (noOwn_flat rfl)) rfl rfl (by decide) (by kernel_rfl) ?_
      refine y_nil ?_
      refine a_ret ?_
      refine retL (rs := [.tmp 6, .tmp 7]) [(6, _), (7, _)] ⟨Weak.rfl, Weak.rfl, trivial⟩ rfl Try.results126 (by decide) ⟨by decide, by decide, rfl⟩ (by decide) (by decide) (l2_eq (sl_eq2 ?_ ?_) (bool_eq ?_)) rfl
      all_goals (rw [hq] <;> first | rfl | (simp [modp_length, linz_length]; done))
    ·
      skip
      refine a_seq ?_
      refine a_pre (ent_look (L := [(0, .pp _ _), (6, .nils), (7, .bool _), (8, .op [.int _ _, .sl _ _, .int _ _, .int _ _, .int _ _, .int _ _]), (9, .sl _ _), (10, .bool _)]) ⟨Weak.rfl, Weak.rfl, Weak.rfl, Weak.rfl, Weak.rfl, Weak.rfl, trivial⟩) ?_
      refine a_region_any mixed (by kernel_rfl) ?_
      refine y_val (v := .rp _ _) (v_fieldAddr_rp fo119_0 (.inl rfl)) rfl rfl (by decide) (by kernel_rfl) ?_
      refine y_val (v := .int _ _) (v_load_rp1 ta3 (.inl rfl) rfl (fun _ => rfl) rfl) rfl rfl (by decide) (by kernel_rfl) ?_
      refine y_val (v := .bool _) (v_eql (.inl rfl) (.inl rfl)) rfl rfl (by decide) (by kernel_rfl) ?_
      refine y_val (v := .bool _) (v_move (.inl rfl) (noOwn_flat rfl)) rfl rfl (by decide) (by kernel_rfl) ?_
      refine y_guard (v := .bool _) (v_move (.inl rfl) (noOwn_flat rfl)).quiet rfl rfl rfl (by decide) (.inl ⟨_, rfl, rfl⟩) rfl (by decide) (by kernel_rfl) ?_
      refine y_val (v := .bool _) (v_pick (.inl rfl) (.inr ⟨_, rfl, fun h h2 => by simp_all⟩) (.inl rfl)) rfl rfl (by decide) (by kernel_rfl) ?_
      refine y_val (v := .bool _) (v_move (.inl rfl) (noOwn_flat rfl)) rfl rfl (by decide) (by kernel_rfl) ?_
      refine y_guard (v := .rp _ _) (v_fieldAddr_rp fo119_3 (.inl rfl)).quiet rfl rfl rfl (by decide) (.inl ⟨_, rfl, rfl⟩) rfl (by decide) (by kernel_rfl) ?_
      refine y_guard (v := .int _ _) (v_load_rp1 ta3 (.inr ⟨_, rfl, fun h => h⟩) rfl (fun _ => rfl) rfl).quiet rfl rfl rfl (by decide) (.inl ⟨_, rfl, rfl⟩) rfl (by decide) (by kernel_rfl) ?_
      refine y_guard (v := .bool _) (v_eql (.inr ⟨_, rfl, fun h => h⟩) (.inl rfl)).quiet rfl rfl rfl (by decide) (.inl ⟨_, rfl, rfl⟩) rfl (by decide) (by kernel_rfl) ?_
      refine y_val (v := .bool _) (v_pick (.inl rfl) (.inr ⟨_, rfl, fun h h2 => by simp_all⟩) (.inl rfl)) rfl rfl (by decide) (by kernel_rfl) ?_
      refine y_val (v := .bool _) (v_move (.inl rfl) (noOwn_flat rfl)) rfl rfl (by decide) (by kernel_rfl) ?_
      refine y_guard (v := .pp _ _) (v_move (.inl rfl) (noOwn_flat rfl)).quiet rfl rfl rfl (by decide) (.inl ⟨_, rfl, rfl⟩) rfl (by decide) (by kernel_rfl) ?_
      refine y_guard (v := .pp _ _) (v_nilCheck (.inr ⟨_, rfl, fun h => h⟩) rfl).quiet rfl rfl rfl (by decide) (.inl ⟨_, rfl, rfl⟩) rfl (by decide) (by kernel_rfl) ?_
      refine y_guard (v := .pp _ _) (v_fieldAddr_pp fo88_0 (.inr ⟨_, rfl, fun h => h⟩)).quiet rfl rfl rfl (by decide) (.inl ⟨_, rfl, rfl⟩) rfl (by decide) (by kernel_rfl) ?_
      refine y_guard (v := .pp _ _) (v_fieldAddr_pp fo85_1 (.inr ⟨_, rfl, fun h => h⟩)).quiet rfl rfl rfl (by decide) (.inl ⟨_, rfl, rfl⟩) rfl (by decide) (by kernel_rfl) ?_
      refine y_guard (v := .int _ _) (v_load_pp ta3 (.inr ⟨_, rfl, fun h => h⟩) (fun _ => rfl) rfl).quiet rfl rfl rfl (by decide) (.inl ⟨_, rfl, rfl⟩) rfl (by decide) (by kernel_rfl) ?_
      refine y_guard (v := .rp _ _) (v_fieldAddr_rp fo119_4 (.inl rfl)).quiet rfl rfl rfl (by decide) (.inl ⟨_, rfl, rfl⟩) rfl (by decide) (by kernel_rfl) ?_
      refine y_guard (v := .int _ _) (v_load_rp1 ta3 (.inr ⟨_, rfl, fun h => h⟩) rfl (fun _ => rfl) rfl).quiet rfl rfl rfl (by decide) (.inl ⟨_, rfl, rfl⟩) rfl (by decide) (by kernel_rfl) ?_
      refine y_guard (v := .bool _) (q_call (vs := [.int _ _, .int _ _]) (args := [.int .i64 _, .int .i64 _]) hb152 ⟨.inr ⟨_, rfl, fun h => h⟩, .inr ⟨_, rfl, fun h => h⟩, trivial⟩ rfl (fun hA => isVar_c _ _) rfl rfl) rfl rfl rfl (by decide) (.inl ⟨_, rfl, rfl⟩) rfl (by decide) (by kernel_rfl) ?_
      refine y_val (v := .bool _) (v_pick (.inl rfl) (.inr ⟨_, rfl, fun h h2 => by simp_all⟩) (.inl rfl)) rfl rfl (by decide) (by kernel_rfl) ?_
      refine y_val (v := .bool _) (v_move (.inl rfl) (noOwn_flat rfl)) rfl rfl (by decide) (by kernel_rfl) ?_
      refine y_guard (v := .rp _ _) (v_fieldAddr_rp fo119_5 (.inl rfl)).quiet rfl rfl rfl (by decide) (.inl ⟨_, rfl, rfl⟩) rfl (by decide) (by kernel_rfl) ?_
      refine y_guard (v := .int _ _) (v_load_rp1 ta3 (.inr ⟨_, rfl, fun h => h⟩) rfl (fun _ => rfl) rfl).quiet rfl rfl rfl (by decide) (.inl ⟨_, rfl, rfl⟩) rfl (by decide) (by kernel_rfl) ?_
      refine y_guard (v := .bool _) (v_eql (.inr ⟨_, rfl, fun h => h⟩) (.inl rfl)).quiet rfl rfl rfl (by decide) (.inl ⟨_, rfl, rfl⟩) rfl (by decide) (by kernel_rfl) ?_
      refine y_val (v := .bool _) (v_pick (.inl rfl) (.inr ⟨_, rfl, fun h h2 => by simp_all⟩) (.inl rfl)) rfl rfl (by decide) (by kernel_rfl) ?_
      refine y_val (v := .bool _) (v_assign (.inl rfl) (noOwn_flat rfl)) rfl rfl (by decide) (by kernel_rfl) ?_
      refine y_nil ?_
      refine a_cond rfl (fun ht126 => ?_) (fun ht126 => ?_)
      ·
        skip
        refine a_seq ?_
        refine a_pre (ent_look (L := [(0, .pp _ _), (6, .nils), (7, .bool _), (8, .op [.int _ _, .sl _ _, .int _ _, .int _ _, .int _ _, .int _ _]), (9, .sl _ _)]) ⟨Weak.rfl, Weak.rfl, Weak.rfl, Weak.rfl, Weak.rfl, trivial⟩) ?_
        have hq := due3 (p := p) (vars := vars) (L := L) (S := S) (k := k) (by simpa only [inR, Bool.cond_false_right, Bool.cond_true_left, Bool.and_eq_true, decide_eq_true_eq, ← Bool.not_eq_true, qL_len, and_assoc] using ht126)
        obtain ⟨hbA9, hC3⟩ : befB p vars S k (gs S k).2.2.1 = true ∧ (1 ≤ (gs S k).2.2.2.2.1 ∧ (gs S k).2.2.2.2.1 ≤ vars) := (by simp only [inR, Bool.cond_false_right, Bool.and_eq_true, decide_eq_true_eq] at ht126; exact ⟨ht126.1.1.1.2, ht126.1.2⟩)
        refine a_pre (ent_eq (t := 9) (v' := .sl (icells (dPol p vars S (gs S k).2.2.1)) (dn vars)) (Weak.of_eq (sl_eq2 (by rw [befD_yes hbA9]) (befD_len hbA9)))) ?_
        refine a_region_any mixed (by kernel_rfl) ?_
        refine y_val (v := .pp _ _) (v_move (.inl rfl) (noOwn_flat rfl)) rfl rfl (by decide) (by kernel_rfl) ?_
        refine y_val (v := .pp _ _) (v_nilCheck (.inl rfl) rfl) rfl rfl (by decide) (by kernel_rfl) ?_
        refine y_val (v := .pp _ _) (v_fieldAddr_pp fo88_0 (.inl rfl)) rfl rfl (by decide) (by kernel_rfl) ?_
        refine y_val (v := .agg [.int _ _, .int _ _]) (v_load_ppa1 ta85 (.inl rfl) rfl (fun _ => rfl) rfl) rfl rfl (by decide) (by kernel_rfl) ?_
        refine y_val (v := .sl _ _) (v_move (.inl rfl) (noOwn_flat rfl)) rfl rfl (by decide) (by kernel_rfl) ?_
        refine y_val (v := .pp _ _) (v_move (.inl rfl) (noOwn_flat rfl)) rfl rfl (by decide) (by kernel_rfl) ?_
        refine y_val (v := .pp _ _) (v_nilCheck (.inl rfl) rfl) rfl rfl (by decide) (by kernel_rfl) ?_
        refine y_val (v := .pp _ _) (v_fieldAddr_pp fo88_0 (.inl rfl)) rfl rfl (by decide) (by kernel_rfl) ?_
        refine y_val (v := .agg [.int _ _, .int _ _]) (v_load_ppa1 ta85 (.inl rfl) rfl (fun _ => rfl) rfl) rfl rfl (by decide) (by kernel_rfl) ?_
        refine y_val (v := .rp _ _) (v_fieldAddr_rp fo119_4 (.inl rfl)) rfl rfl (by decide) (by kernel_rfl) ?_
        refine y_val (v := .int _ _) (v_load_rp1 ta3 (.inl rfl) rfl (fun _ => rfl) rfl) rfl rfl (by decide) (by kernel_rfl) ?_
        refine y_new (v := .osl _ _ _ _) (q_call (vs := [.agg [.int _ _, .int _ _], .int _ _]) (args := [.agg [.int .i64 _, .int .i64 _], .int .i64 _]) hb143 ⟨.inl rfl, .inl rfl, trivial⟩ rfl (fun hA => literal_c _ _ _ hp (litB_spec.2 ⟨by omega, by omega⟩)) (ic_noSh _) (ic_noRef _)) rfl rfl (by decide) (by kernel_rfl) ?_
        refine y_new (v := .sl _ _) (QSem.cast (q_callZ (vs := [.agg [.int _ _, .int _ _], .sl _ _, .rsl _ _ _ _ _]) (args := [.agg [.int .i64 _, .int .i64 _], .sl _ _, .sl _ _]) hb117 ⟨.inl rfl, .inl rfl, .inl rfl, trivial⟩ (l3_eq rfl rfl (sl_sh (ic_pure _))) (fun hA => times_c _ _ _ _ _ hp ⟨dPol_len, litP_length _ _ _, rfl⟩ (dPol_bd (by omega)) (litP_bd (by omega) _ _)) (ic_noSh _) (ic_noRef _)) (sl_shZ (ic_pure _))) rfl rfl (by decide) (by kernel_rfl) ?_
        refine y_val (v := .sl _ _) (v_assign (.inl rfl) (noOwn_flat rfl)) rfl rfl (by decide) (by kernel_rfl) ?_
        refine y_val (v := .bool _) (v_assign (.inl rfl) (noOwn_flat rfl)) rfl rfl (by decide) (by kernel_rfl) ?_
        refine y_nil ?_
        refine a_ret ?_
        refine retL (rs := [.tmp 6, .tmp 7]) [(6, _), (7, _)] ⟨Weak.rfl, Weak.rfl, trivial⟩ rfl Try.results126 (by decide) ⟨by decide, by decide, rfl⟩ (by decide) (by decide) (l2_eq (sl_eq2 ?_ ?_) (bool_eq ?_)) rfl
        all_goals (rw [hq] <;> first | rfl | (simp [mulp_length]; done))
      ·
        skip
        refine a_skip ?_
        refine a_seq ?_
        refine a_pre (ent_look (L := [(6, .nils), (7, .bool _)]) ⟨Weak.rfl, Weak.rfl, trivial⟩) ?_
        have hq := due_none (p := p) (vars := vars) (L := L) (S := S) (k := k) (by simpa only [inR, Bool.cond_false_right, Bool.cond_true_left, Bool.and_eq_true, decide_eq_true_eq, ← Bool.not_eq_true, qL_len, and_assoc] using ht35) (by simpa only [inR, Bool.cond_false_right, Bool.cond_true_left, Bool.and_eq_true, decide_eq_true_eq, ← Bool.not_eq_true, qL_len, and_assoc] using ht73) (by simpa only [inR, Bool.cond_false_right, Bool.cond_true_left, Bool.and_eq_true, decide_eq_true_eq, ← Bool.not_eq_true, qL_len, and_assoc] using ht126)
        refine a_region ?_
        refine r_val (v := .nils) (v_assign (.inl rfl) (noOwn_flat rfl)) rfl rfl (by decide) ?_
        refine r_val (v := .bool _) (v_assign (.inl rfl) (noOwn_flat rfl)) rfl rfl (by decide) ?_
        refine r_nil ?_
        refine a_pre (ent_eq (t := 6) (v' := .sl [] 0) Weak.nils_sl) ?_
        refine a_ret ?_
        refine retL (rs := [.tmp 6, .tmp 7]) [(6, _), (7, _)] ⟨Weak.rfl, Weak.rfl, trivial⟩ rfl Try.results126 (by decide) ⟨by decide, by decide, rfl⟩ (by decide) (by decide) (l2_eq (sl_eq2 ?_ ?_) (bool_eq ?_)) rfl
        all_goals (rw [hq] <;> rfl)

theorem pcCor_c (p vars : Int) (L : List (List Int)) (S : List PcT) (k : Nat) (ha : aOk p vars L = true) (hS : StOk S) (hk : k < S.length) : ACall Try.prog 81 [.pp [.int .i64 p, .int .i64 vars, .int .i64 vars, .sl (sls L) L.length, .sl (sls (qL p vars L)) L.length] 0, .sl (stc S) S.length, .int .i64 ((k : Nat) : Int)] [] (.bool (stepB p vars L S k)) [] := by
  obtain ⟨hp, hc⟩ := aOk_spec ha
  have hpp := prime_spec hp
  have hcs := cnfB_spec hc
  have hd := dn_le hpp.2
  have hS1 := hS.1
  have hxl := st_len hS k
  refine ACall.intro Try.func81 rfl (N := 43) rfl (by decide) (by simp) ?_
  refine a_seq ?_
  refine a_region ?_
  refine r_val (v := .bool _) (v_assign (.inl rfl) (noOwn_flat rfl)) rfl rfl (by decide) ?_
  refine r_nil ?_
  refine a_seq ?_
  refine a_region ?_
  refine r_val (v := .pp _ _) (v_move (.inl rfl) (noOwn_flat rfl)) rfl rfl (by decide) ?_
  refine r_val (v := .sl _ _) (v_move (.inl rfl) (noOwn_flat rfl)) rfl rfl (by decide) ?_
  refine r_val (v := .int _ _) (v_move (.inl rfl) (noOwn_flat rfl)) rfl rfl (by decide) ?_
  refine r_new (v := .tup [.sl _ _, .bool _]) (q_callF (vs := [.pp _ _, .sl _ _, .int _ _]) (args := [.pp _ _, .sl _ _, .int .i64 _]) hb126 ⟨.inl rfl, .inl rfl, .inl rfl, trivial⟩ rfl (fun hA => pcDue_c p vars L S k ha hS hk) rfl (by simp [noRef, noRefL, ic_noRef])) rfl rfl (by decide) ?_
  refine r_val (v := .tup [.sl _ _, .bool _]) (v_mv rfl) rfl rfl (by decide) ?_
  refine r_val (v := .sl _ _) (v_extract rfl rfl) rfl rfl (by decide) ?_
  refine r_val (v := .bool _) (v_extract rfl rfl) rfl rfl (by decide) ?_
  refine r_val (v := .sl _ _) (v_assign (.inl rfl) (noOwn_flat rfl)) rfl rfl (by decide) ?_
  refine r_val (v := .bool _) (v_assign (.inl rfl) (noOwn_flat rfl)) rfl rfl (by decide) ?_
  refine r_nil ?_
  refine a_seq ?_
  refine a_region_any mixed (by kernel_rfl) ?_
  refine y_val (v := .bool _) (v_move (.inl rfl) (noOwn_flat rfl)) rfl rfl (by decide) (by kernel_rfl) ?_
  refine y_val (v := .bool _) (v_move (.inl rfl) (noOwn_flat rfl)) rfl rfl (by decide) (by kernel_rfl) ?_
  refine y_guard (v := .pp _ _) (v_move (.inl rfl) (noOwn_flat rfl)).quiet rfl rfl rfl (by decide) (.inl ⟨_, rfl, rfl⟩) rfl (by decide) (by kernel_rfl) ?_
  refine y_guard (v := .pp _ _) (v_nilCheck (.inr ⟨_, rfl, fun h => h⟩) rfl).quiet rfl rfl rfl (by decide) (.inl ⟨_, rfl, rfl⟩) rfl (by decide) (by kernel_rfl) ?_
  refine y_guard (v := .pp _ _) (v_fieldAddr_pp fo88_0 (.inr ⟨_, rfl, fun h => h⟩)).quiet rfl rfl rfl (by decide) (.inl ⟨_, rfl, rfl⟩) rfl (by decide) (by kernel_rfl) ?_
  refine y_guard (v := .agg [.int _ _, .int _ _]) (VSem.quiet (v_load_ppa1 ta85 (.inr ⟨_, rfl, fun h => h⟩) rfl (fun _ => rfl) rfl)) rfl rfl rfl (by decide) (.inl ⟨_, rfl, rfl⟩) rfl (by decide) (by kernel_rfl) ?_
  refine y_guard (v := .sl _ _) (v_move (.inl rfl) (noOwn_flat rfl)).quiet rfl rfl rfl (by decide) (.inl ⟨_, rfl, rfl⟩) rfl (by decide) (by kernel_rfl) ?_
  refine y_guard (v := .int _ _) (v_move (.inl rfl) (noOwn_flat rfl)).quiet rfl rfl rfl (by decide) (.inl ⟨_, rfl, rfl⟩) rfl (by decide) (by kernel_rfl) ?_
  refine y_guard (v := .pp _ _) (v_indexAddr_sl es55 (.inr ⟨_, rfl, fun h => h⟩) (.inr ⟨_, rfl, fun h => h⟩) (fun _ => ⟨by omega, by omega, stc_ne hk⟩)).quiet rfl rfl rfl (by decide) (.inl ⟨_, rfl, rfl⟩) rfl (by decide) (by kernel_rfl) ?_
  refine y_guard (v := .pp _ _) (v_fieldAddr_pp fo119_1 (.inr ⟨_, rfl, fun h => h⟩)).quiet rfl rfl rfl (by decide) (.inl ⟨_, rfl, rfl⟩) rfl (by decide) (by kernel_rfl) ?_
  refine y_guard (v := .sl (tcells (gs S k).2.1) (gs S k).2.1.length) (v_load_pp ta34 (.inr ⟨_, rfl, fun h => h⟩) (fun _ => (stc_at (i := k) (j := 1) hk (by decide)).trans rfl) rfl).quiet rfl rfl rfl (by decide) (.inl ⟨_, rfl, rfl⟩) rfl (by decide) (by kernel_rfl) ?_
  refine y_guard (v := .bool _) (q_call (vs := [.agg [.int _ _, .int _ _], .sl _ _]) (args := [.agg [.int .i64 _, .int .i64 _], .sl _ _]) hb57 ⟨.inr ⟨_, rfl, fun h => h⟩, .inr ⟨_, rfl, fun h => h⟩, trivial⟩ rfl (fun hA => ringIs_c p vars _ hxl hp) rfl rfl) rfl rfl rfl (by decide) (.inl ⟨_, rfl, rfl⟩) rfl (by decide) (by kernel_rfl) ?_
  refine y_val (v := .bool _) (v_pick (.inl rfl) (.inr ⟨_, rfl, fun h h2 => by simp_all⟩) (.inl rfl)) rfl rfl (by decide) (by kernel_rfl) ?_
  refine y_val (v := .bool _) (v_move (.inl rfl) (noOwn_flat rfl)) rfl rfl (by decide) (by kernel_rfl) ?_
  refine y_guard (v := .sl _ _) (v_move (.inl rfl) (noOwn_flat rfl)).quiet rfl rfl rfl (by decide) (.inl ⟨_, rfl, rfl⟩) rfl (by decide) (by kernel_rfl) ?_
  refine y_guard (v := .pp _ _) (v_move (.inl rfl) (noOwn_flat rfl)).quiet rfl rfl rfl (by decide) (.inl ⟨_, rfl, rfl⟩) rfl (by decide) (by kernel_rfl) ?_
  refine y_guard (v := .pp _ _) (v_nilCheck (.inr ⟨_, rfl, fun h => h⟩) rfl).quiet rfl rfl rfl (by decide) (.inl ⟨_, rfl, rfl⟩) rfl (by decide) (by kernel_rfl) ?_
  refine y_guard (v := .pp _ _) (v_fieldAddr_pp fo88_0 (.inr ⟨_, rfl, fun h => h⟩)).quiet rfl rfl rfl (by decide) (.inl ⟨_, rfl, rfl⟩) rfl (by decide) (by kernel_rfl) ?_
  refine y_guard (v := .agg [.int _ _, .int _ _]) (VSem.quiet (v_load_ppa1 ta85 (.inr ⟨_, rfl, fun h => h⟩) rfl (fun _ => rfl) rfl)) rfl rfl rfl (by decide) (.inl ⟨_, rfl, rfl⟩) rfl (by decide) (by kernel_rfl) ?_
  refine y_guard (v := .sl _ _) (v_move (.inl rfl) (noOwn_flat rfl)).quiet rfl rfl rfl (by decide) (.inl ⟨_, rfl, rfl⟩) rfl (by decide) (by kernel_rfl) ?_
  refine y_guard (v := .int _ _) (v_move (.inl rfl) (noOwn_flat rfl)).quiet rfl rfl rfl (by decide) (.inl ⟨_, rfl, rfl⟩) rfl (by decide) (by kernel_rfl) ?_
  refine y_guard (v := .pp _ _) (v_indexAddr_sl es55 (.inr ⟨_, rfl, fun h => h⟩) (.inr ⟨_, rfl, fun h => h⟩) (fun _ => ⟨by omega, by omega, stc_ne hk⟩)).quiet rfl rfl rfl (by decide) (.inl ⟨_, rfl, rfl⟩) rfl (by decide) (by kernel_rfl) ?_
  refine y_guard (v := .pp _ _) (v_fieldAddr_pp fo119_1 (.inr ⟨_, rfl, fun h => h⟩)).quiet rfl rfl rfl (by decide) (.inl ⟨_, rfl, rfl⟩) rfl (by decide) (by kernel_rfl) ?_
  refine y_guard (v := .sl (tcells (gs S k).2.1) (gs S k).2.1.length) (v_load_pp ta34 (.inr ⟨_, rfl, fun h => h⟩) (fun _ => (stc_at (i := k) (j := 1) hk (by decide)).trans rfl) rfl).quiet rfl rfl rfl (by decide) (.inl ⟨_, rfl, rfl⟩) rfl (by decide) (by kernel_rfl) ?_
  refine y_guard (v := .sl _ _) (QSem.cast (q_callZ (vs := [.agg [.int _ _, .int _ _], .sl _ _]) (args := [.agg [.int .i64 _, .int .i64 _], .sl _ _]) hb59 ⟨.inr ⟨_, rfl, fun h => h⟩, .inr ⟨_, rfl, fun h => h⟩, trivial⟩ rfl (fun hA => dense_c p vars _ hp hxl (good_range (by simp at hA; exact hA.2))) (ic_noSh _) (ic_noRef _)) (sl_shZ (ic_pure _))) rfl rfl rfl (by decide) (.inl ⟨_, rfl, rfl⟩) rfl (by decide) (by kernel_rfl) ?_
  refine y_guard (v := .bool _) (q_call (vs := [.sl _ _, .sl _ _]) (args := [.sl _ _, .sl _ _]) hb114 ⟨.inr ⟨_, rfl, fun h => h⟩, .inr ⟨_, rfl, fun h => h⟩, trivial⟩ rfl (fun hA => equalD_c ((dueO p vars L S k).getD []) _ _ (dn vars) rfl (accp_length _ _ _) (by simp at hA; obtain ⟨D, hD⟩ := Option.isSome_iff_exists.1 hA.1; have h9 := (due_bd (by omega) hD).2; rw [hD, Option.getD_some, h9]; omega)) rfl rfl) rfl rfl rfl (by decide) (.inl ⟨_, rfl, rfl⟩) rfl (by decide) (by kernel_rfl) ?_
  refine y_val (v := .bool _) (v_pick (.inl rfl) (.inr ⟨_, rfl, fun h h2 => by simp_all⟩) (.inl rfl)) rfl rfl (by decide) (by kernel_rfl) ?_
  refine y_val (v := .bool _) (v_assign (.inl rfl) (noOwn_flat rfl)) rfl rfl (by decide) (by kernel_rfl) ?_
  refine y_nil ?_
  refine a_ret ?_
  refine ret1 Try.results81 (by decide) (by decide) (Weak.of_eq (bool_eq ?_)) rfl Leaves.nil
  rw [Bool.cond_false_right, Bool.cond_false_right]; exact step_eq

theorem iWrong_c (p vars : Int) (L : List (List Int)) (S : List PcT) (ha : aOk p vars L = true) (hS : StOk S) : ACall Try.prog 84 [.pp [.int .i64 p, .int .i64 vars, .int .i64 vars, .sl (sls L) L.length, .sl (sls (qL p vars L)) L.length] 0, .sl (stc S) S.length] [] (.int .i64 (wrongI p vars L S)) [] := by
  have hS1 := hS.1
  refine ACall.intro Try.func84 rfl (N := 18) rfl (by decide) (by simp) ?_
  refine a_seq ?_
  refine a_region ?_
  refine r_val (v := .int _ _) (v_assign (.inl rfl) (noOwn_flat rfl)) rfl rfl (by decide) ?_
  refine r_nil ?_
  refine a_seq ?_
  refine a_seq ?_
  refine a_region ?_
  refine r_val (v := .sl _ _) (v_move (.inl rfl) (noOwn_flat rfl)) rfl rfl (by decide) ?_
  refine r_val (v := .int _ _) (v_len_sl sl55 (.inl rfl)) rfl rfl (by decide) ?_
  refine r_val (v := .int _ _) (v_move (.inl rfl) (noOwn_flat rfl)) rfl rfl (by decide) ?_
  refine r_nil ?_
  refine a_block ?_
  refine a_loop (X := Nat) (fun k => look [(0, .pp [.int .i64 p, .int .i64 vars, .int .i64 vars, .sl (sls L) L.length, .sl (sls (qL p vars L)) L.length] 0), (1, .sl (stc S) S.length), (6, .sl (stc S) S.length), (7, .int .i64 (S.length : Int)), (8, .int .i64 ((k : Nat) : Int))]) (fun k => k ≤ S.length ∧ ∀ j, j < k → stepB p vars L S j = true) (fun k => S.length - k) 0 (ent_look ⟨Weak.of_eq rfl, Weak.of_eq rfl, Weak.of_eq rfl, Weak.of_eq rfl, Weak.of_eq rfl, trivial⟩) ⟨Nat.zero_le _, fun j h => by omega⟩ (fun k hG => ?_)
  obtain ⟨g1, g2⟩ := hG
  refine a_seq ?_
  refine a_region ?_
  refine r_val (v := .bool _) (v_lss (.inl rfl) (.inl rfl)) rfl rfl (by decide) ?_
  refine r_nil ?_
  refine a_seq ?_
  refine a_cond rfl (fun ht9 => ?_) (fun ht9 => ?_)
  ·
    skip
    refine a_skip ?_
    refine a_seq ?_
    refine a_block ?_
    refine a_seq ?_
    have hk : k < S.length := (by simp at ht9; omega)
    refine a_region ?_
    refine r_val (v := .int _ _) (v_move (.inl rfl) (noOwn_flat rfl)) rfl rfl (by decide) ?_
    refine r_val (v := .int _ _) (v_assign (.inl rfl) (noOwn_flat rfl)) rfl rfl (by decide) ?_
    refine r_nil ?_
    refine a_seq ?_
    refine a_region ?_
    refine r_val (v := .pp _ _) (v_move (.inl rfl) (noOwn_flat rfl)) rfl rfl (by decide) ?_
    refine r_val (v := .sl _ _) (v_move (.inl rfl) (noOwn_flat rfl)) rfl rfl (by decide) ?_
    refine r_val (v := .int _ _) (v_move (.inl rfl) (noOwn_flat rfl)) rfl rfl (by decide) ?_
    refine r_new (v := .bool _) (q_call (vs := [.pp _ _, .sl _ _, .int _ _]) (args := [.pp _ _, .sl _ _, .int .i64 _]) hb81 ⟨.inl rfl, .inl rfl, .inl rfl, trivial⟩ rfl (fun hA => pcCor_c p vars L S k ha hS hk) rfl rfl) rfl rfl (by decide) ?_
    refine r_val (v := .bool _) (v_not (.inl rfl)) rfl rfl (by decide) ?_
    refine r_nil ?_
    refine a_cond rfl (fun ht15 => ?_) (fun ht15 => ?_)
    ·
      skip
      refine a_seq ?_
      refine a_region ?_
      refine r_val (v := .int _ _) (v_move (.inl rfl) (noOwn_flat rfl)) rfl rfl (by decide) ?_
      refine r_val (v := .int _ _) (v_assign (.inl rfl) (noOwn_flat rfl)) rfl rfl (by decide) ?_
      refine r_nil ?_
      refine a_ret ?_
      refine ret1 Try.results84 (by decide) (by decide) (Weak.of_eq (int_eq ?_)) rfl Leaves.nil
      exact (wrong_found hk (by simpa using ht15) g2).symm
    ·
      skip
      refine a_skip ?_
      refine a_region ?_
      refine r_val (v := .int _ _) (v_add (.inl rfl) (.inl rfl) (fun _ => by omega)) rfl rfl (by decide) ?_
      refine r_val (v := .int _ _) (v_move (.inl rfl) (noOwn_flat rfl)) rfl rfl (by decide) ?_
      refine r_nil ?_
      refine ⟨k + 1, ent_look ⟨Weak.of_eq rfl, Weak.of_eq rfl, Weak.of_eq rfl, Weak.of_eq rfl, Weak.of_eq (int_eq (by omega)), trivial⟩, ⟨by omega, fun j h1 => by rcases Nat.lt_or_ge j k with h | h; exact g2 j h; (obtain rfl : j = k := by omega); simpa using ht15⟩, by omega⟩
  ·
    skip
    refine a_exit ?_
    refine a_seq ?_
    refine a_region ?_
    refine r_val (v := .int _ _) (v_assign (.inl rfl) (noOwn_flat rfl)) rfl rfl (by decide) ?_
    refine r_nil ?_
    refine a_ret ?_
    refine ret1 Try.results84 (by decide) (by decide) (Weak.of_eq (int_eq ?_)) rfl Leaves.nil
    exact (wrong_none (fun j hj => g2 j (by simp at ht9; omega))).symm

theorem iDer_c (p vars : Int) (L : List (List Int)) (S : List PcT) (ha : aOk p vars L = true) (hS : StOk S) : ACall Try.prog 86 [.pp [.int .i64 p, .int .i64 vars, .int .i64 vars, .sl (sls L) L.length, .sl (sls (qL p vars L)) L.length] 0, .sl (stc S) S.length] [] (.bool (derB p vars L S)) [] := by
  refine ACall.intro Try.func86 rfl (N := 14) rfl (by decide) (by simp) ?_
  refine a_seq ?_
  refine a_region ?_
  refine r_val (v := .bool _) (v_assign (.inl rfl) (noOwn_flat rfl)) rfl rfl (by decide) ?_
  refine r_nil ?_
  refine a_seq ?_
  refine a_region ?_
  refine r_val (v := .sl _ _) (v_move (.inl rfl) (noOwn_flat rfl)) rfl rfl (by decide) ?_
  refine r_val (v := .int _ _) (v_len_sl sl55 (.inl rfl)) rfl rfl (by decide) ?_
  refine r_val (v := .bool _) (v_leq (.inl rfl) (.inl rfl)) rfl rfl (by decide) ?_
  refine r_val (v := .bool _) (v_move (.inl rfl) (noOwn_flat rfl)) rfl rfl (by decide) ?_
  refine r_gval (v := .pp _ _) (v_move (.inl rfl) (noOwn_flat rfl)) rfl rfl rfl (by decide) (.inl ⟨_, rfl, rfl⟩) rfl (by decide) ?_
  refine r_gval (v := .sl _ _) (v_move (.inl rfl) (noOwn_flat rfl)) rfl rfl rfl (by decide) (.inl ⟨_, rfl, rfl⟩) rfl (by decide) ?_
  refine r_guard (v := .int _ _) (q_call (vs := [.pp _ _, .sl _ _]) (args := [.pp _ _, .sl _ _]) hb84 ⟨.inr ⟨_, rfl, fun h => h⟩, .inr ⟨_, rfl, fun h => h⟩, trivial⟩ rfl (fun hA => iWrong_c p vars L S ha hS) rfl rfl) rfl rfl rfl (by decide) (.inl ⟨_, rfl, rfl⟩) rfl (by decide) ?_
  refine r_gval (v := .bool _) (v_lss (.inr ⟨_, rfl, fun h => h⟩) (.inl rfl)) rfl rfl rfl (by decide) (.inl ⟨_, rfl, rfl⟩) rfl (by decide) ?_
  refine r_val (v := .bool _) (v_pick (.inl rfl) (.inr ⟨_, rfl, fun h h2 => by simp_all⟩) (.inl rfl)) rfl rfl (by decide) ?_
  refine r_val (v := .bool _) (v_assign (.inl rfl) (noOwn_flat rfl)) rfl rfl (by decide) ?_
  refine r_nil ?_
  refine a_ret ?_
  refine ret1 Try.results86 (by decide) (by decide) (Weak.of_eq (bool_eq ?_)) rfl Leaves.nil
  unfold derB; rw [Bool.cond_false_right]

theorem isOne_c (p vars : Int) (L : List (List Int)) (D : List Int) (n : Nat) (hp : prime p vars = true) (hn : D.length = n ∧ n ≤ 64) : ACall Try.prog 66 [.pp [.int .i64 p, .int .i64 vars, .int .i64 vars, .sl (sls L) L.length, .sl (sls (qL p vars L)) L.length] 0, .sl (icells D) n] [] (.bool (decide (D = one (dn vars) 0))) [] := by
  have hpp := prime_spec hp
  have hd := dn_le hpp.2
  refine ACall.intro Try.func66 rfl (N := 12) rfl (by decide) (by simp) ?_
  refine a_seq ?_
  refine a_region ?_
  refine r_val (v := .bool _) (v_assign (.inl rfl) (noOwn_flat rfl)) rfl rfl (by decide) ?_
  refine r_nil ?_
  refine a_seq ?_
  refine a_region ?_
  refine r_val (v := .sl _ _) (v_move (.inl rfl) (noOwn_flat rfl)) rfl rfl (by decide) ?_
  refine r_val (v := .pp _ _) (v_move (.inl rfl) (noOwn_flat rfl)) rfl rfl (by decide) ?_
  refine r_val (v := .pp _ _) (v_nilCheck (.inl rfl) rfl) rfl rfl (by decide) ?_
  refine r_val (v := .pp _ _) (v_fieldAddr_pp fo88_0 (.inl rfl)) rfl rfl (by decide) ?_
  refine r_val (v := .agg [.int _ _, .int _ _]) (v_load_ppa1 ta85 (.inl rfl) rfl (fun _ => rfl) rfl) rfl rfl (by decide) ?_
  refine r_new (v := .osl _ _ _ _) (q_call (vs := [.agg [.int _ _, .int _ _], .int _ _]) (args := [.agg [.int .i64 _, .int .i64 _], .int .i64 ((0 : Nat) : Int)]) hb115 ⟨.inl rfl, .inl rfl, trivial⟩ rfl (fun hA => mono_c _ _ 0 hpp.2 (by omega)) (ic_noSh _) (ic_noRef _)) rfl rfl (by decide) ?_
  refine r_new (v := .bool _) (q_call (vs := [.sl _ _, .rsl _ _ _ _ _]) (args := [.sl _ _, .sl _ _]) hb114 ⟨.inl rfl, .inl rfl, trivial⟩ (l2_eq rfl (sl_sh (ic_pure _))) (fun hA => equalD_c D _ n (dn vars) hn.1 (one_length _ _) (by omega)) rfl rfl) rfl rfl (by decide) ?_
  refine r_val (v := .bool _) (v_assign (.inl rfl) (noOwn_flat rfl)) rfl rfl (by decide) ?_
  refine r_nil ?_
  refine a_ret ?_
  refine ret1 Try.results66 (by decide) (by decide) (Weak.of_eq (bool_eq ?_)) rfl Leaves.nil
  rfl
end Go.Av
namespace Go.Av
open Go Go.Proofs Go.Sort
set_option maxRecDepth 10000
theorem hb110 : hasBody Try.prog 110 = true := by kernel_rfl
theorem hb112 : hasBody Try.prog 112 = true := by kernel_rfl
theorem hb121 : hasBody Try.prog 121 = true := by kernel_rfl
theorem hb122 : hasBody Try.prog 122 = true := by kernel_rfl
theorem hb123 : hasBody Try.prog 123 = true := by kernel_rfl
theorem hb124 : hasBody Try.prog 124 = true := by kernel_rfl
theorem hb125 : hasBody Try.prog 125 = true := by kernel_rfl
theorem hb127 : hasBody Try.prog 127 = true := by kernel_rfl
theorem hb50 : hasBody Try.prog 50 = true := by kernel_rfl
theorem hb76 : hasBody Try.prog 76 = true := by kernel_rfl
theorem hb78 : hasBody Try.prog 78 = true := by kernel_rfl
theorem hb83 : hasBody Try.prog 83 = true := by kernel_rfl
theorem hb85 : hasBody Try.prog 85 = true := by kernel_rfl

theorem asked20_c (p vars : Int) (L : List (List Int)) (hk : CnfOk vars L) : ACall Try.prog 76 [.int .i64 p, .agg [.int .i64 vars, .sl (sls L) L.length]] [] (.bool (aOk p vars L)) [] := by
  refine ACall.intro Try.func76 rfl (N := 13) rfl (by decide) (by simp) ?_
  refine a_seq ?_
  refine a_region ?_
  refine r_new (v := .op [.int _ _, .sl _ _]) (q_box (.inl rfl) rfl rfl) rfl rfl (by decide) ?_
  refine r_val (v := .bool _) (v_assign (.inl rfl) (noOwn_flat rfl)) rfl rfl (by decide) ?_
  refine r_nil ?_
  refine a_seq ?_
  refine a_region ?_
  refine r_val (v := .int _ _) (v_move (.inl rfl) (noOwn_flat rfl)) rfl rfl (by decide) ?_
  refine r_val (v := .rp _ _) (v_fieldAddr_rp fo31_0 (.inl rfl)) rfl rfl (by decide) ?_
  refine r_val (v := .int _ _) (v_load_rp1 ta3 (.inl rfl) rfl (fun _ => rfl) rfl) rfl rfl (by decide) ?_
  refine r_new (v := .bool _) (q_call (vs := [.int _ _, .int _ _]) (args := [.int .i64 _, .int .i64 _]) hb102 ⟨.inl rfl, .inl rfl, trivial⟩ rfl (fun hA => l18Prime_c _ _) rfl rfl) rfl rfl (by decide) ?_
  refine r_val (v := .bool _) (v_move (.inl rfl) (noOwn_flat rfl)) rfl rfl (by decide) ?_
  refine r_gval (v := .agg [.int _ _, .sl _ _]) (v_load_rpa1 ta31 (.inl rfl) rfl rfl (fun _ => rfl) rfl) rfl rfl rfl (by decide) (.inl ⟨_, rfl, rfl⟩) rfl (by decide) ?_
  refine r_guard (v := .bool _) (q_call (vs := [.agg [.int _ _, .sl _ _]]) (args := [.agg [.int .i64 _, .sl _ _]]) hb121 ⟨.inr ⟨_, rfl, fun h => h⟩, trivial⟩ rfl (fun hA => l2Good_c vars L hk) rfl rfl) rfl rfl rfl (by decide) (.inl ⟨_, rfl, rfl⟩) rfl (by decide) ?_
  refine r_val (v := .bool _) (v_pick (.inl rfl) (.inr ⟨_, rfl, fun h h2 => by simp_all⟩) (.inl rfl)) rfl rfl (by decide) ?_
  refine r_val (v := .bool _) (v_assign (.inl rfl) (noOwn_flat rfl)) rfl rfl (by decide) ?_
  refine r_nil ?_
  refine a_ret ?_
  refine ret1 Try.results76 (by decide) (by decide) (Weak.of_eq (bool_eq ?_)) rfl Leaves.nil
  unfold aOk; rw [Bool.cond_false_right]

theorem same20_c (xs ys : List (Int × Int)) (m n : Nat) (hx : xs.length = m) (hy : ys.length = n) (hl : (m : Int) ≤ 9223372036854775807) : ACall Try.prog 122 [.sl (tcells xs) m, .sl (tcells ys) n] [] (.bool (decide (xs = ys))) [] := by
  refine ACall.intro Try.func122 rfl (N := 26) rfl (by decide) (by simp) ?_
  refine a_seq ?_
  refine a_region ?_
  refine r_val (v := .bool _) (v_assign (.inl rfl) (noOwn_flat rfl)) rfl rfl (by decide) ?_
  refine r_nil ?_
  refine a_seq ?_
  refine a_seq ?_
  refine a_region ?_
  refine r_val (v := .sl _ _) (v_move (.inl rfl) (noOwn_flat rfl)) rfl rfl (by decide) ?_
  refine r_val (v := .int _ _) (v_len_sl sl34 (.inl rfl)) rfl rfl (by decide) ?_
  refine r_val (v := .sl _ _) (v_move (.inl rfl) (noOwn_flat rfl)) rfl rfl (by decide) ?_
  refine r_val (v := .int _ _) (v_len_sl sl34 (.inl rfl)) rfl rfl (by decide) ?_
  refine r_val (v := .bool _) (v_neq (.inl rfl) (.inl rfl)) rfl rfl (by decide) ?_
  refine r_nil ?_
  refine a_cond rfl (fun ht10 => ?_) (fun ht10 => ?_)
  ·
    skip
    refine a_seq ?_
    refine a_region ?_
    refine r_val (v := .bool _) (v_assign (.inl rfl) (noOwn_flat rfl)) rfl rfl (by decide) ?_
    refine r_nil ?_
    refine a_ret ?_
    refine ret1 Try.results122 (by decide) (by decide) (Weak.of_eq (bool_eq ?_)) rfl Leaves.nil
    simp at ht10; exact (decide_eq_false (fun h => ht10 (by subst h; omega))).symm
  ·
    skip
    refine a_skip ?_
    refine a_seq ?_
    refine a_seq ?_
    refine a_region ?_
    refine r_val (v := .int _ _) (v_assign (.inl rfl) (noOwn_flat rfl)) rfl rfl (by decide) ?_
    refine r_nil ?_
    refine a_block ?_
    refine a_loop (X := Nat) (fun i => look [(0, .sl (tcells xs) m), (1, .sl (tcells ys) n), (5, .int .i64 ((i : Nat) : Int))]) (fun i => i ≤ m ∧ m = n ∧ ∀ j, j < i → tm xs j = tm ys j) (fun i => m - i) 0 (ent_look ⟨Weak.of_eq rfl, Weak.of_eq rfl, Weak.of_eq rfl, trivial⟩) ⟨Nat.zero_le _, by simp at ht10; omega, fun j h => by omega⟩ (fun i hG => ?_)
    obtain ⟨g1, g2, g3⟩ := hG
    refine a_seq ?_
    refine a_seq ?_
    refine a_region ?_
    refine r_val (v := .int _ _) (v_move (.inl rfl) (noOwn_flat rfl)) rfl rfl (by decide) ?_
    refine r_val (v := .sl _ _) (v_move (.inl rfl) (noOwn_flat rfl)) rfl rfl (by decide) ?_
    refine r_val (v := .int _ _) (v_len_sl sl34 (.inl rfl)) rfl rfl (by decide) ?_
    refine r_val (v := .bool _) (v_lss (.inl rfl) (.inl rfl)) rfl rfl (by decide) ?_
    refine r_nil ?_
    refine a_cond rfl (fun ht14 => ?_) (fun ht14 => ?_)
    ·
      skip
      refine a_skip ?_
      refine a_seq ?_
      refine a_block ?_
      refine a_seq ?_
      have hi : i < m := (by simp at ht14; omega)
      refine a_region_any mixed (by kernel_rfl) ?_
      refine y_val (v := .sl _ _) (v_move (.inl rfl) (noOwn_flat rfl)) rfl rfl (by decide) (by kernel_rfl) ?_
      refine y_val (v := .int _ _) (v_move (.inl rfl) (noOwn_flat rfl)) rfl rfl (by decide) (by kernel_rfl) ?_
      refine y_val (v := .pp _ _) (v_indexAddr_sl es34 (.inl rfl) (.inl rfl) (fun _ => ⟨by omega, by omega, tcells_ne (xs := xs) (i := i) (by omega)⟩)) rfl rfl (by decide) (by kernel_rfl) ?_
      refine y_val (v := .agg [.int .i64 (tm xs i).1, .int .i64 (tm xs i).2]) (v_load_ppa1 ta77 (.inl rfl) rfl (fun _ => tcells_two (i := i) (tm_get (by omega))) rfl) rfl rfl (by decide) (by kernel_rfl) ?_
      refine y_val (v := .sl _ _) (v_move (.inl rfl) (noOwn_flat rfl)) rfl rfl (by decide) (by kernel_rfl) ?_
      refine y_val (v := .int _ _) (v_move (.inl rfl) (noOwn_flat rfl)) rfl rfl (by decide) (by kernel_rfl) ?_
      refine y_val (v := .pp _ _) (v_indexAddr_sl es34 (.inl rfl) (.inl rfl) (fun _ => ⟨by omega, by omega, tcells_ne (xs := ys) (i := i) (by omega)⟩)) rfl rfl (by decide) (by kernel_rfl) ?_
      refine y_val (v := .agg [.int .i64 (tm ys i).1, .int .i64 (tm ys i).2]) (v_load_ppa1 ta77 (.inl rfl) rfl (fun _ => tcells_two (i := i) (tm_get (by omega))) rfl) rfl rfl (by decide) (by kernel_rfl) ?_
      refine y_val (v := .bool _) (v_neqT Try.underlying77 (by kernel_rfl) (by kernel_rfl) (by decide) (by decide) rfl rfl Try.underlying3 Try.underlying3 (.inl rfl) (.inl rfl)) rfl rfl (by decide) (by kernel_rfl) ?_
      refine y_nil ?_
      refine a_cond rfl (fun ht25 => ?_) (fun ht25 => ?_)
      ·
        skip
        refine a_seq ?_
        refine a_region ?_
        refine r_val (v := .bool _) (v_assign (.inl rfl) (noOwn_flat rfl)) rfl rfl (by decide) ?_
        refine r_nil ?_
        refine a_ret ?_
        refine ret1 Try.results122 (by decide) (by decide) (Weak.of_eq (bool_eq ?_)) rfl Leaves.nil
        refine (decide_eq_false (fun h => ?_)).symm
        subst h
        simp at ht25
      ·
        skip
        refine a_skip ?_
        refine a_region ?_
        refine r_val (v := .int _ _) (v_move (.inl rfl) (noOwn_flat rfl)) rfl rfl (by decide) ?_
        refine r_val (v := .int _ _) (v_add (.inl rfl) (.inl rfl) (fun _ => by omega)) rfl rfl (by decide) ?_
        refine r_val (v := .int _ _) (v_assign (.inl rfl) (noOwn_flat rfl)) rfl rfl (by decide) ?_
        refine r_nil ?_
        refine ⟨i + 1, ent_look ⟨Weak.of_eq rfl, Weak.of_eq rfl, Weak.of_eq (int_eq (by omega)), trivial⟩, ⟨by omega, g2, fun j h1 => by rcases Nat.lt_or_ge j i with h | h; exact g3 j h; (obtain rfl : j = i := by omega); exact Prod.ext (by simp at ht25; exact ht25.1) (by simp at ht25; exact ht25.2)⟩, by omega⟩
    ·
      skip
      refine a_exit ?_
      refine a_seq ?_
      refine a_region ?_
      refine r_val (v := .bool _) (v_assign (.inl rfl) (noOwn_flat rfl)) rfl rfl (by decide) ?_
      refine r_nil ?_
      refine a_ret ?_
      refine ret1 Try.results122 (by decide) (by decide) (Weak.of_eq (bool_eq ?_)) rfl Leaves.nil
      simp at ht14; exact (decide_eq_true (tm_ext (by omega) (fun j hj => g3 j (by omega)))).symm

theorem earl20_c (p vars : Int) (L : List (List Int)) (S : List PcT) (k : Nat) (i : Int) (hp : prime p vars = true) (hS : StOk S) (hk : k < S.length) : ACall Try.prog 123 [.int .i64 p, .agg [.int .i64 vars, .sl (sls L) L.length], .sl (stc S) S.length, .int .i64 ((k : Nat) : Int), .int .i64 i] [] (.bool (befB p vars S k i)) [] := by
  have hpp := prime_spec hp
  have hd := dn_le hpp.2
  have hS1 := hS.1
  refine ACall.intro Try.func123 rfl (N := 26) rfl (by decide) (by simp) ?_
  refine a_seq ?_
  refine a_region ?_
  refine r_new (v := .op [.int _ _, .sl _ _]) (q_box (.inl rfl) rfl rfl) rfl rfl (by decide) ?_
  refine r_val (v := .bool _) (v_assign (.inl rfl) (noOwn_flat rfl)) rfl rfl (by decide) ?_
  refine r_nil ?_
  refine a_seq ?_
  refine a_region_any mixed (by kernel_rfl) ?_
  refine y_val (v := .int _ _) (v_move (.inl rfl) (noOwn_flat rfl)) rfl rfl (by decide) (by kernel_rfl) ?_
  refine y_val (v := .int _ _) (v_move (.inl rfl) (noOwn_flat rfl)) rfl rfl (by decide) (by kernel_rfl) ?_
  refine y_val (v := .int _ _) (v_sub (.inl rfl) (.inl rfl) (fun _ => by omega)) rfl rfl (by decide) (by kernel_rfl) ?_
  refine y_new (v := .bool _) (q_call (vs := [.int _ _, .int _ _, .int _ _]) (args := [.int .i64 _, .int .i64 _, .int .i64 _]) hb77 ⟨.inl rfl, .inl rfl, .inl rfl, trivial⟩ rfl (fun hA => l1In_c i 0 ((k : Int) - 1)) rfl rfl) rfl rfl (by decide) (by kernel_rfl) ?_
  refine y_val (v := .bool _) (v_move (.inl rfl) (noOwn_flat rfl)) rfl rfl (by decide) (by kernel_rfl) ?_
  refine y_guard (v := .int _ _) (v_move (.inl rfl) (noOwn_flat rfl)).quiet rfl rfl rfl (by decide) (.inl ⟨_, rfl, rfl⟩) rfl (by decide) (by kernel_rfl) ?_
  refine y_guard (v := .rp _ _) (v_fieldAddr_rp fo31_0 (.inl rfl)).quiet rfl rfl rfl (by decide) (.inl ⟨_, rfl, rfl⟩) rfl (by decide) (by kernel_rfl) ?_
  refine y_guard (v := .int _ _) (v_load_rp1 ta3 (.inr ⟨_, rfl, fun h => h⟩) rfl (fun _ => rfl) rfl).quiet rfl rfl rfl (by decide) (.inl ⟨_, rfl, rfl⟩) rfl (by decide) (by kernel_rfl) ?_
  refine y_guard (v := .sl _ _) (v_move (.inl rfl) (noOwn_flat rfl)).quiet rfl rfl rfl (by decide) (.inl ⟨_, rfl, rfl⟩) rfl (by decide) (by kernel_rfl) ?_
  refine y_guard (v := .int _ _) (v_move (.inl rfl) (noOwn_flat rfl)).quiet rfl rfl rfl (by decide) (.inl ⟨_, rfl, rfl⟩) rfl (by decide) (by kernel_rfl) ?_
  refine y_guard (v := .pp _ _) (v_indexAddr_sl es55 (.inr ⟨_, rfl, fun h => h⟩) (.inr ⟨_, rfl, fun h => h⟩) (fun hA => by simp [inR] at hA; exact ⟨by omega, by omega, stc_ne (i := i.toNat) (by omega)⟩)).quiet rfl rfl rfl (by decide) (.inl ⟨_, rfl, rfl⟩) rfl (by decide) (by kernel_rfl) ?_
  refine y_guard (v := .pp _ _) (v_fieldAddr_pp fo119_1 (.inr ⟨_, rfl, fun h => h⟩)).quiet rfl rfl rfl (by decide) (.inl ⟨_, rfl, rfl⟩) rfl (by decide) (by kernel_rfl) ?_
  refine y_guard (v := .sl (tcells (gs S i.toNat).2.1) (gs S i.toNat).2.1.length) (v_load_pp ta34 (.inr ⟨_, rfl, fun h => h⟩) (fun hA => by simp [inR] at hA; exact (stc_at (i := i.toNat) (j := 1) (by omega) (by decide)).trans rfl) rfl).quiet rfl rfl rfl (by decide) (.inl ⟨_, rfl, rfl⟩) rfl (by decide) (by kernel_rfl) ?_
  refine y_guard (v := .bool _) (q_call (vs := [.int _ _, .int _ _, .sl _ _]) (args := [.int .i64 _, .int .i64 _, .sl _ _]) hb50 ⟨.inr ⟨_, rfl, fun h => h⟩, .inr ⟨_, rfl, fun h => h⟩, .inr ⟨_, rfl, fun h => h⟩, trivial⟩ rfl (fun hA => l18Good_c p vars _ (st_len hS i.toNat)) rfl rfl) rfl rfl rfl (by decide) (.inl ⟨_, rfl, rfl⟩) rfl (by decide) (by kernel_rfl) ?_
  refine y_val (v := .bool _) (v_pick (.inl rfl) (.inr ⟨_, rfl, fun h h2 => by simp_all⟩) (.inl rfl)) rfl rfl (by decide) (by kernel_rfl) ?_
  refine y_val (v := .bool _) (v_assign (.inl rfl) (noOwn_flat rfl)) rfl rfl (by decide) (by kernel_rfl) ?_
  refine y_nil ?_
  refine a_ret ?_
  refine ret1 Try.results123 (by decide) (by decide) (Weak.of_eq (bool_eq ?_)) rfl Leaves.nil
  unfold befB; rw [Bool.cond_false_right, hp, Bool.true_and]

theorem times20_c (p vars : Int) (xs : List (Int × Int)) (v : Int) (hp : prime p vars = true) (hg : goodL p vars xs = true) (hl : (xs.length : Int) ≤ 9223372036854775807) (hv : 1 ≤ v ∧ v ≤ vars) : ACall Try.prog 124 [.int .i64 p, .int .i64 vars, .sl (tcells xs) xs.length, .int .i64 v] [] (.osl 2 (tcells (trm (mulp p (dn vars) (accp p (dn vars) xs) (litP p (dn vars) v)))) (trm (mulp p (dn vars) (accp p (dn vars) xs) (litP p (dn vars) v))).length none) [] := by
  have hpp := prime_spec hp
  have hd := dn_le hpp.2
  have hw := pow6 hpp.2
  obtain ⟨hgf, he⟩ := times_eq hp hg hv
  have hlit := lit_pow (vars := vars) (l := v) (litB_spec.2 ⟨by omega, by omega⟩)
  rw [show vr v = v from if_neg (by omega)] at hlit
  refine ACall.intro Try.func124 rfl (N := 18) rfl (by decide) (by simp) ?_
  refine a_seq ?_
  refine a_region ?_
  refine r_val (v := .nils) (v_assign (.inl rfl) (noOwn_flat rfl)) rfl rfl (by decide) ?_
  refine r_nil ?_
  refine a_seq ?_
  refine a_region ?_
  refine r_val (v := .int _ _) (v_move (.inl rfl) (noOwn_flat rfl)) rfl rfl (by decide) ?_
  refine r_val (v := .int _ _) (v_move (.inl rfl) (noOwn_flat rfl)) rfl rfl (by decide) ?_
  refine r_val (v := .sl _ _) (v_move (.inl rfl) (noOwn_flat rfl)) rfl rfl (by decide) ?_
  refine r_val (v := .int _ _) (v_move (.inl rfl) (noOwn_flat rfl)) rfl rfl (by decide) ?_
  refine r_val (v := .int _ _) (v_sub (.inl rfl) (.inl rfl) (fun _ => by omega)) rfl rfl (by decide) ?_
  refine r_val (v := .int .i64 (2 ^ (v - 1).toNat)) ((v_shl (.inl rfl) (.inl rfl) (fun _ => by omega)).cast (int_eq (Int.one_mul _))) rfl rfl (by decide) ?_
  refine r_val (v := .agg [.int _ _, .int _ _]) (v_build sp77 rfl rfl) rfl rfl (by decide) ?_
  refine r_new (v := .osl _ _ _ _) (q_sliceLit (n := 1) (parts := [(0, .tmp 15)]) lt34 rfl rfl rfl rfl) rfl rfl (by decide) ?_
  refine r_new (v := .osl _ _ _ _) (q_call (vs := [.int _ _, .int _ _, .sl _ _, .rsl _ _ _ _ _]) (args := [.int .i64 _, .int .i64 _, .sl _ _, .sl _ _]) hb111 ⟨.inl rfl, .inl rfl, .inl rfl, .inl rfl, trivial⟩ (l4_eq rfl rfl rfl (sl_sh (tc_pure [(2 ^ (v - 1).toNat, 1)]))) (fun hA => l18Mul_c p vars xs [(2 ^ (v - 1).toNat, 1)] hp hg hgf hl (by simp)) (tc_noSh _) (tc_noRef _)) rfl rfl (by decide) ?_
  refine r_val (v := .rsl _ _ _ _ _) (v_assign (.inl rfl) (noOwn_flat rfl)) rfl rfl (by decide) ?_
  refine r_pre (ent_reloc_sl (t := 8) rfl rfl) ?_
  refine r_nil ?_
  refine a_ret ?_
  refine ret1 Try.results124 (by decide) (by decide) (Weak.osl ?_ ?_) rfl Leaves.nil
  · rw [he]
  · rw [he]

theorem sum20_c (p vars : Int) (xs ys : List (Int × Int)) (x y : Int) (hp : prime p vars = true) (hg : goodL p vars xs = true) (hg2 : goodL p vars ys = true) (hl : (xs.length : Int) ≤ 9223372036854775807) (hl2 : (ys.length : Int) ≤ 9223372036854775807) (hx : 0 ≤ x ∧ x < p) (hy : 0 ≤ y ∧ y < p) : ACall Try.prog 125 [.int .i64 p, .int .i64 vars, .sl (tcells xs) xs.length, .int .i64 x, .sl (tcells ys) ys.length, .int .i64 y] [] (.osl 2 (tcells (trm (sumP p vars x y xs ys))) (trm (sumP p vars x y xs ys)).length none) [] := by
  have hpp := prime_spec hp
  have hd := dn_le hpp.2
  have hsl := trm_len (sumM p vars x xs)
  rw [sumM_len] at hsl
  refine ACall.intro Try.func125 rfl (N := 24) rfl (by decide) (by simp) ?_
  refine a_seq ?_
  refine a_region ?_
  refine r_val (v := .nils) (v_assign (.inl rfl) (noOwn_flat rfl)) rfl rfl (by decide) ?_
  refine r_nil ?_
  refine a_seq ?_
  refine a_region ?_
  refine r_val (v := .int _ _) (v_move (.inl rfl) (noOwn_flat rfl)) rfl rfl (by decide) ?_
  refine r_val (v := .int _ _) (v_move (.inl rfl) (noOwn_flat rfl)) rfl rfl (by decide) ?_
  refine r_val (v := .int _ _) (v_move (.inl rfl) (noOwn_flat rfl)) rfl rfl (by decide) ?_
  refine r_val (v := .int _ _) (v_move (.inl rfl) (noOwn_flat rfl)) rfl rfl (by decide) ?_
  refine r_new (v := .osl _ _ _ _) (q_sliceLit (n := 0) (parts := []) lt34 rfl rfl rfl rfl) rfl rfl (by decide) ?_
  refine r_val (v := .sl _ _) (v_move (.inl rfl) (noOwn_flat rfl)) rfl rfl (by decide) ?_
  refine r_val (v := .int _ _) (v_move (.inl rfl) (noOwn_flat rfl)) rfl rfl (by decide) ?_
  refine r_new (v := .osl _ _ _ _) (q_call (vs := [.int _ _, .int _ _, .rsl _ _ _ _ _, .sl _ _, .int _ _]) (args := [.int .i64 _, .int .i64 _, .sl _ _, .sl _ _, .int .i64 _]) hb110 ⟨.inl rfl, .inl rfl, .inl rfl, .inl rfl, .inl rfl, trivial⟩ rfl (fun hA => l18Add_c p vars [] xs x hx hp rfl hg (by simp) hl) (tc_noSh _) (tc_noRef _)) rfl rfl (by decide) ?_
  refine r_val (v := .sl _ _) (v_move (.inl rfl) (noOwn_flat rfl)) rfl rfl (by decide) ?_
  refine r_val (v := .int _ _) (v_move (.inl rfl) (noOwn_flat rfl)) rfl rfl (by decide) ?_
  refine r_new (v := .osl _ _ _ _) (q_call (vs := [.int _ _, .int _ _, .rsl _ _ _ _ _, .sl _ _, .int _ _]) (args := [.int .i64 _, .int .i64 _, .sl _ _, .sl _ _, .int .i64 _]) hb110 ⟨.inl rfl, .inl rfl, .inl rfl, .inl rfl, .inl rfl, trivial⟩ (l5_eq rfl rfl (sl_sh (tc_pure _)) rfl rfl) (fun hA => l18Add_c p vars (trm (sumM p vars x xs)) ys y hy hp (trm_good (sumM_bd (by omega)) sumM_len) hg2 (by omega) hl2) (tc_noSh _) (tc_noRef _)) rfl rfl (by decide) ?_
  refine r_val (v := .rsl _ _ _ _ _) (v_assign (.inl rfl) (noOwn_flat rfl)) rfl rfl (by decide) ?_
  refine r_pre (ent_reloc_sl (t := 12) rfl rfl) ?_
  refine r_nil ?_
  refine a_ret ?_
  refine ret1 Try.results125 (by decide) (by decide) (Weak.osl ?_ ?_) rfl Leaves.nil
  · rw [sumP_eq (by omega)]
  · rw [sumP_eq (by omega)]

theorem one20_c  : ACall Try.prog 127 [] [] (.osl 2 (tcells [(0, 1)]) 1 none) [] := by
  refine ACall.intro Try.func127 rfl (N := 3) rfl (by decide) (by simp) ?_
  refine a_seq ?_
  refine a_region ?_
  refine r_val (v := .nils) (v_assign (.inl rfl) (noOwn_flat rfl)) rfl rfl (by decide) ?_
  refine r_nil ?_
  refine a_seq ?_
  refine a_region ?_
  refine r_val (v := .agg [.int _ _, .int _ _]) (v_build sp77 rfl rfl) rfl rfl (by decide) ?_
  refine r_new (v := .osl _ _ _ _) (q_sliceLit (n := 1) (parts := [(0, .tmp 1)]) lt34 rfl rfl rfl rfl) rfl rfl (by decide) ?_
  refine r_val (v := .rsl _ _ _ _ _) (v_assign (.inl rfl) (noOwn_flat rfl)) rfl rfl (by decide) ?_
  refine r_pre (ent_reloc_sl (t := 0) rfl rfl) ?_
  refine r_nil ?_
  refine a_ret ?_
  refine ret1 Try.results127 (by decide) (by decide) (Weak.osl ?_ ?_) rfl Leaves.nil
  · rfl
  · rfl

theorem cor20_c (p vars : Int) (L : List (List Int)) (S : List PcT) (k : Nat) (hk0 : CnfOk vars L) (ha : aOk p vars L = true) (hS : StOk S) (hk : k < S.length) : ACall Try.prog 78 [.int .i64 p, .agg [.int .i64 vars, .sl (sls L) L.length], .sl (stc S) S.length, .int .i64 ((k : Nat) : Int)] [] (.bool (stepB p vars L S k)) [] := by
  obtain ⟨hp, hc⟩ := aOk_spec ha
  have hpp := prime_spec hp
  have hcs := cnfB_spec hc
  have hd := dn_le hpp.2
  have hS1 := hS.1
  have hxl := st_len hS k
  have hxA := st_len hS (gs S k).2.2.1.toNat
  have hxB := st_len hS (gs S k).2.2.2.1.toNat
  refine ACall.intro Try.func78 rfl (N := 161) rfl (by decide) (by simp) ?_
  refine a_seq ?_
  refine a_region ?_
  refine r_new (v := .op [.int _ _, .sl _ _]) (q_box (.inl rfl) rfl rfl) rfl rfl (by decide) ?_
  refine r_val (v := .bool _) (v_assign (.inl rfl) (noOwn_flat rfl)) rfl rfl (by decide) ?_
  refine r_nil ?_
  refine a_seq ?_
  refine a_region ?_
  refine r_val (v := .sl _ _) (v_move (.inl rfl) (noOwn_flat rfl)) rfl rfl (by decide) ?_
  refine r_val (v := .int _ _) (v_move (.inl rfl) (noOwn_flat rfl)) rfl rfl (by decide) ?_
  refine r_val (v := .pp _ _) (v_indexAddr_sl es55 (.inl rfl) (.inl rfl) (fun _ => ⟨by omega, by omega, stc_ne hk⟩)) rfl rfl (by decide) ?_
  refine r_val (v := .agg [.int .i64 (gs S k).1, .sl (tcells (gs S k).2.1) (gs S k).2.1.length, .int .i64 (gs S k).2.2.1, .int .i64 (gs S k).2.2.2.1, .int .i64 (gs S k).2.2.2.2.1, .int .i64 (gs S k).2.2.2.2.2]) (v_load_ppa1 ta119 (.inl rfl) rfl (fun _ => stc_six hk) rfl) rfl rfl (by decide) ?_
  refine r_new (v := .op [.int _ _, .nils, .int _ _, .int _ _, .int _ _, .int _ _]) (q_alloc zc119) rfl rfl (by decide) ?_
  refine r_step rfl (o_store (v := .agg [.int _ _, .sl _ _, .int _ _, .int _ _, .int _ _, .int _ _]) (y' := .op [.int _ _, .sl _ _, .int _ _, .int _ _, .int _ _, .int _ _]) rfl rfl ta119 (.inl rfl) (.inl rfl) rfl rfl rfl rfl rfl rfl (Nat.le_of_ble_eq_true rfl) (by decide) rfl rfl) ?_
  refine r_nil ?_
  refine a_seq ?_
  refine a_seq ?_
  refine a_region ?_
  refine r_val (v := .int _ _) (v_move (.inl rfl) (noOwn_flat rfl)) rfl rfl (by decide) ?_
  refine r_val (v := .rp _ _) (v_fieldAddr_rp fo31_0 (.inl rfl)) rfl rfl (by decide) ?_
  refine r_val (v := .int _ _) (v_load_rp1 ta3 (.inl rfl) rfl (fun _ => rfl) rfl) rfl rfl (by decide) ?_
  refine r_val (v := .rp _ _) (v_fieldAddr_rp fo119_1 (.inl rfl)) rfl rfl (by decide) ?_
  refine r_val (v := .sl _ _) (v_load_rp1 ta34 (.inl rfl) rfl (fun _ => rfl) rfl) rfl rfl (by decide) ?_
  refine r_new (v := .bool _) (q_call (vs := [.int _ _, .int _ _, .sl _ _]) (args := [.int .i64 _, .int .i64 _, .sl _ _]) hb50 ⟨.inl rfl, .inl rfl, .inl rfl, trivial⟩ rfl (fun hA => l18Good_c p vars _ hxl) rfl rfl) rfl rfl (by decide) ?_
  refine r_val (v := .bool _) (v_not (.inl rfl)) rfl rfl (by decide) ?_
  refine r_nil ?_
  refine a_cond rfl (fun ht20 => ?_) (fun ht20 => ?_)
  ·
    skip
    refine a_seq ?_
    have hg : goodL p vars (gs S k).2.1 = false := (by simpa [hp] using ht20)
    refine a_region ?_
    refine r_val (v := .bool _) (v_assign (.inl rfl) (noOwn_flat rfl)) rfl rfl (by decide) ?_
    refine r_nil ?_
    refine a_ret ?_
    refine ret1 Try.results78 (by decide) (by decide) (Weak.of_eq (bool_eq ?_)) rfl Leaves.nil
    exact (step_no hg).symm
  ·
    skip
    refine a_skip ?_
    refine a_seq ?_
    refine a_seq ?_
    have hg : goodL p vars (gs S k).2.1 = true := (by simpa [hp] using ht20)
    refine a_region ?_
    refine r_val (v := .rp _ _) (v_fieldAddr_rp fo119_0 (.inl rfl)) rfl rfl (by decide) ?_
    refine r_val (v := .int _ _) (v_load_rp1 ta3 (.inl rfl) rfl (fun _ => rfl) rfl) rfl rfl (by decide) ?_
    refine r_val (v := .bool _) (v_eql (.inl rfl) (.inl rfl)) rfl rfl (by decide) ?_
    refine r_nil ?_
    refine a_cond rfl (fun ht23 => ?_) (fun ht23 => ?_)
    ·
      skip
      refine a_seq ?_
      have h1 : (gs S k).1 = 1 := (by simpa using ht23)
      have hrl := len_tot (L := L) (i := (gs S k).2.2.1.toNat)
      have hk3 := hk0.2.2.1
      refine a_region_any mixed (by kernel_rfl) ?_
      refine y_val (v := .rp _ _) (v_fieldAddr_rp fo119_3 (.inl rfl)) rfl rfl (by decide) (by kernel_rfl) ?_
      refine y_val (v := .int _ _) (v_load_rp1 ta3 (.inl rfl) rfl (fun _ => rfl) rfl) rfl rfl (by decide) (by kernel_rfl) ?_
      refine y_val (v := .bool _) (v_eql (.inl rfl) (.inl rfl)) rfl rfl (by decide) (by kernel_rfl) ?_
      refine y_val (v := .bool _) (v_move (.inl rfl) (noOwn_flat rfl)) rfl rfl (by decide) (by kernel_rfl) ?_
      refine y_guard (v := .rp _ _) (v_fieldAddr_rp fo119_4 (.inl rfl)).quiet rfl rfl rfl (by decide) (.inl ⟨_, rfl, rfl⟩) rfl (by decide) (by kernel_rfl) ?_
      refine y_guard (v := .int _ _) (v_load_rp1 ta3 (.inr ⟨_, rfl, fun h => h⟩) rfl (fun _ => rfl) rfl).quiet rfl rfl rfl (by decide) (.inl ⟨_, rfl, rfl⟩) rfl (by decide) (by kernel_rfl) ?_
      refine y_guard (v := .bool _) (v_eql (.inr ⟨_, rfl, fun h => h⟩) (.inl rfl)).quiet rfl rfl rfl (by decide) (.inl ⟨_, rfl, rfl⟩) rfl (by decide) (by kernel_rfl) ?_
      refine y_val (v := .bool _) (v_pick (.inl rfl) (.inr ⟨_, rfl, fun h h2 => by simp_all⟩) (.inl rfl)) rfl rfl (by decide) (by kernel_rfl) ?_
      refine y_val (v := .bool _) (v_move (.inl rfl) (noOwn_flat rfl)) rfl rfl (by decide) (by kernel_rfl) ?_
      refine y_guard (v := .rp _ _) (v_fieldAddr_rp fo119_5 (.inl rfl)).quiet rfl rfl rfl (by decide) (.inl ⟨_, rfl, rfl⟩) rfl (by decide) (by kernel_rfl) ?_
      refine y_guard (v := .int _ _) (v_load_rp1 ta3 (.inr ⟨_, rfl, fun h => h⟩) rfl (fun _ => rfl) rfl).quiet rfl rfl rfl (by decide) (.inl ⟨_, rfl, rfl⟩) rfl (by decide) (by kernel_rfl) ?_
      refine y_guard (v := .bool _) (v_eql (.inr ⟨_, rfl, fun h => h⟩) (.inl rfl)).quiet rfl rfl rfl (by decide) (.inl ⟨_, rfl, rfl⟩) rfl (by decide) (by kernel_rfl) ?_
      refine y_val (v := .bool _) (v_pick (.inl rfl) (.inr ⟨_, rfl, fun h h2 => by simp_all⟩) (.inl rfl)) rfl rfl (by decide) (by kernel_rfl) ?_
      refine y_val (v := .bool _) (v_move (.inl rfl) (noOwn_flat rfl)) rfl rfl (by decide) (by kernel_rfl) ?_
      refine y_guard (v := .rp _ _) (v_fieldAddr_rp fo119_2 (.inl rfl)).quiet rfl rfl rfl (by decide) (.inl ⟨_, rfl, rfl⟩) rfl (by decide) (by kernel_rfl) ?_
      refine y_guard (v := .int _ _) (v_load_rp1 ta3 (.inr ⟨_, rfl, fun h => h⟩) rfl (fun _ => rfl) rfl).quiet rfl rfl rfl (by decide) (.inl ⟨_, rfl, rfl⟩) rfl (by decide) (by kernel_rfl) ?_
      refine y_guard (v := .rp _ _) (v_fieldAddr_rp fo31_1 (.inl rfl)).quiet rfl rfl rfl (by decide) (.inl ⟨_, rfl, rfl⟩) rfl (by decide) (by kernel_rfl) ?_
      refine y_guard (v := .sl _ _) (v_load_rp1 ta22 (.inr ⟨_, rfl, fun h => h⟩) rfl (fun _ => rfl) rfl).quiet rfl rfl rfl (by decide) (.inl ⟨_, rfl, rfl⟩) rfl (by decide) (by kernel_rfl) ?_
      refine y_guard (v := .int _ _) (v_len_sl sl22 (.inr ⟨_, rfl, fun h => h⟩)).quiet rfl rfl rfl (by decide) (.inl ⟨_, rfl, rfl⟩) rfl (by decide) (by kernel_rfl) ?_
      refine y_guard (v := .int _ _) (v_sub (.inr ⟨_, rfl, fun h => h⟩) (.inl rfl) (fun _ => by omega)).quiet rfl rfl rfl (by decide) (.inl ⟨_, rfl, rfl⟩) rfl (by decide) (by kernel_rfl) ?_
      refine y_guard (v := .bool _) (q_call (vs := [.int _ _, .int _ _, .int _ _]) (args := [.int .i64 _, .int .i64 _, .int .i64 _]) hb77 ⟨.inr ⟨_, rfl, fun h => h⟩, .inl rfl, .inr ⟨_, rfl, fun h => h⟩, trivial⟩ rfl (fun hA => l1In_c _ _ _) rfl rfl) rfl rfl rfl (by decide) (.inl ⟨_, rfl, rfl⟩) rfl (by decide) (by kernel_rfl) ?_
      refine y_val (v := .bool _) (v_pick (.inl rfl) (.inr ⟨_, rfl, fun h h2 => by simp_all⟩) (.inl rfl)) rfl rfl (by decide) (by kernel_rfl) ?_
      refine y_val (v := .bool _) (v_move (.inl rfl) (noOwn_flat rfl)) rfl rfl (by decide) (by kernel_rfl) ?_
      refine y_guard (v := .rp _ _) (v_fieldAddr_rp fo119_1 (.inl rfl)).quiet rfl rfl rfl (by decide) (.inl ⟨_, rfl, rfl⟩) rfl (by decide) (by kernel_rfl) ?_
      refine y_guard (v := .sl _ _) (v_load_rp1 ta34 (.inr ⟨_, rfl, fun h => h⟩) rfl (fun _ => rfl) rfl).quiet rfl rfl rfl (by decide) (.inl ⟨_, rfl, rfl⟩) rfl (by decide) (by kernel_rfl) ?_
      refine y_guard (v := .int _ _) (v_move (.inl rfl) (noOwn_flat rfl)).quiet rfl rfl rfl (by decide) (.inl ⟨_, rfl, rfl⟩) rfl (by decide) (by kernel_rfl) ?_
      refine y_guard (v := .rp _ _) (v_fieldAddr_rp fo31_0 (.inl rfl)).quiet rfl rfl rfl (by decide) (.inl ⟨_, rfl, rfl⟩) rfl (by decide) (by kernel_rfl) ?_
      refine y_guard (v := .int _ _) (v_load_rp1 ta3 (.inr ⟨_, rfl, fun h => h⟩) rfl (fun _ => rfl) rfl).quiet rfl rfl rfl (by decide) (.inl ⟨_, rfl, rfl⟩) rfl (by decide) (by kernel_rfl) ?_
      refine y_guard (v := .rp _ _) (v_fieldAddr_rp fo31_1 (.inl rfl)).quiet rfl rfl rfl (by decide) (.inl ⟨_, rfl, rfl⟩) rfl (by decide) (by kernel_rfl) ?_
      refine y_guard (v := .sl _ _) (v_load_rp1 ta22 (.inr ⟨_, rfl, fun h => h⟩) rfl (fun _ => rfl) rfl).quiet rfl rfl rfl (by decide) (.inl ⟨_, rfl, rfl⟩) rfl (by decide) (by kernel_rfl) ?_
      refine y_guard (v := .rp _ _) (v_fieldAddr_rp fo119_2 (.inl rfl)).quiet rfl rfl rfl (by decide) (.inl ⟨_, rfl, rfl⟩) rfl (by decide) (by kernel_rfl) ?_
      refine y_guard (v := .int _ _) (v_load_rp1 ta3 (.inr ⟨_, rfl, fun h => h⟩) rfl (fun _ => rfl) rfl).quiet rfl rfl rfl (by decide) (.inl ⟨_, rfl, rfl⟩) rfl (by decide) (by kernel_rfl) ?_
      refine y_guard (v := .pp _ _) (v_indexAddr_sl es22 (.inr ⟨_, rfl, fun h => h⟩) (.inr ⟨_, rfl, fun h => h⟩) (fun hA => by simp [inR] at hA; exact ⟨by omega, by omega, sls_ne (i := (gs S k).2.2.1.toNat) (by omega)⟩)).quiet rfl rfl rfl (by decide) (.inl ⟨_, rfl, rfl⟩) rfl (by decide) (by kernel_rfl) ?_
      refine y_guard (v := .sl (icells (gl L (gs S k).2.2.1.toNat)) (gl L (gs S k).2.2.1.toNat).length) (v_load_pp ta25 (.inr ⟨_, rfl, fun h => h⟩) (fun hA => by simp [inR] at hA; rw [Nat.mul_one]; exact sls_get (by omega)) rfl).quiet rfl rfl rfl (by decide) (.inl ⟨_, rfl, rfl⟩) rfl (by decide) (by kernel_rfl) ?_
      refine y_guard (v := .sl _ _) (QSem.cast (q_callZ (vs := [.int _ _, .int _ _, .sl _ _]) (args := [.int .i64 _, .int .i64 _, .sl _ _]) hb112 ⟨.inr ⟨_, rfl, fun h => h⟩, .inr ⟨_, rfl, fun h => h⟩, .inr ⟨_, rfl, fun h => h⟩, trivial⟩ rfl (fun hA => l18Clause_c p vars (gl L (gs S k).2.2.1.toNat) hp (hcs.2.2 _ (by simp [inR] at hA; omega)) (by omega)) (tc_noSh _) (tc_noRef _)) (sl_shZ (tc_pure _))) rfl rfl rfl (by decide) (.inl ⟨_, rfl, rfl⟩) rfl (by decide) (by kernel_rfl) ?_
      refine y_guard (v := .bool _) (q_call (vs := [.sl _ _, .sl _ _]) (args := [.sl _ _, .sl _ _]) hb122 ⟨.inr ⟨_, rfl, fun h => h⟩, .inr ⟨_, rfl, fun h => h⟩, trivial⟩ rfl (fun hA => same20_c _ _ _ _ rfl rfl hxl) rfl rfl) rfl rfl rfl (by decide) (.inl ⟨_, rfl, rfl⟩) rfl (by decide) (by kernel_rfl) ?_
      refine y_val (v := .bool _) (v_pick (.inl rfl) (.inr ⟨_, rfl, fun h h2 => by simp_all⟩) (.inl rfl)) rfl rfl (by decide) (by kernel_rfl) ?_
      refine y_val (v := .bool _) (v_assign (.inl rfl) (noOwn_flat rfl)) rfl rfl (by decide) (by kernel_rfl) ?_
      refine y_nil ?_
      refine a_ret ?_
      refine ret1 Try.results78 (by decide) (by decide) (Weak.of_eq (bool_eq ?_)) rfl Leaves.nil
      simp only [Bool.cond_false_right]; exact step_1 hp hg h1
    ·
      skip
      refine a_skip ?_
      refine a_seq ?_
      refine a_seq ?_
      have h1 : ¬ (gs S k).1 = 1 := (by simpa using ht23)
      refine a_region ?_
      refine r_val (v := .rp _ _) (v_fieldAddr_rp fo119_0 (.inl rfl)) rfl rfl (by decide) ?_
      refine r_val (v := .int _ _) (v_load_rp1 ta3 (.inl rfl) rfl (fun _ => rfl) rfl) rfl rfl (by decide) ?_
      refine r_val (v := .bool _) (v_neq (.inl rfl) (.inl rfl)) rfl rfl (by decide) ?_
      refine r_val (v := .bool _) (v_move (.inl rfl) (noOwn_flat rfl)) rfl rfl (by decide) ?_
      refine r_gval (v := .rp _ _) (v_fieldAddr_rp fo119_0 (.inl rfl)) rfl rfl rfl (by decide) (.inl ⟨_, rfl, rfl⟩) rfl (by decide) ?_
      refine r_gval (v := .int _ _) (v_load_rp1 ta3 (.inr ⟨_, rfl, fun h => h⟩) rfl (fun _ => rfl) rfl) rfl rfl rfl (by decide) (.inl ⟨_, rfl, rfl⟩) rfl (by decide) ?_
      refine r_gval (v := .bool _) (v_neq (.inr ⟨_, rfl, fun h => h⟩) (.inl rfl)) rfl rfl rfl (by decide) (.inl ⟨_, rfl, rfl⟩) rfl (by decide) ?_
      refine r_val (v := .bool _) (v_pick (.inl rfl) (.inr ⟨_, rfl, fun h h2 => by simp_all⟩) (.inl rfl)) rfl rfl (by decide) ?_
      refine r_val (v := .bool _) (v_move (.inl rfl) (noOwn_flat rfl)) rfl rfl (by decide) ?_
      refine r_gval (v := .int _ _) (v_move (.inl rfl) (noOwn_flat rfl)) rfl rfl rfl (by decide) (.inl ⟨_, rfl, rfl⟩) rfl (by decide) ?_
      refine r_gval (v := .agg [.int _ _, .sl _ _]) (v_load_rpa1 ta31 (.inl rfl) rfl rfl (fun _ => rfl) rfl) rfl rfl rfl (by decide) (.inl ⟨_, rfl, rfl⟩) rfl (by decide) ?_
      refine r_gval (v := .sl _ _) (v_move (.inl rfl) (noOwn_flat rfl)) rfl rfl rfl (by decide) (.inl ⟨_, rfl, rfl⟩) rfl (by decide) ?_
      refine r_gval (v := .int _ _) (v_move (.inl rfl) (noOwn_flat rfl)) rfl rfl rfl (by decide) (.inl ⟨_, rfl, rfl⟩) rfl (by decide) ?_
      refine r_gval (v := .rp _ _) (v_fieldAddr_rp fo119_2 (.inl rfl)) rfl rfl rfl (by decide) (.inl ⟨_, rfl, rfl⟩) rfl (by decide) ?_
      refine r_gval (v := .int _ _) (v_load_rp1 ta3 (.inr ⟨_, rfl, fun h => h⟩) rfl (fun _ => rfl) rfl) rfl rfl rfl (by decide) (.inl ⟨_, rfl, rfl⟩) rfl (by decide) ?_
      refine r_guard (v := .bool _) (q_call (vs := [.int _ _, .agg [.int _ _, .sl _ _], .sl _ _, .int _ _, .int _ _]) (args := [.int .i64 _, .agg [.int .i64 _, .sl _ _], .sl _ _, .int .i64 _, .int .i64 _]) hb123 ⟨.inr ⟨_, rfl, fun h => h⟩, .inr ⟨_, rfl, fun h => h⟩, .inr ⟨_, rfl, fun h => h⟩, .inr ⟨_, rfl, fun h => h⟩, .inr ⟨_, rfl, fun h => h⟩, trivial⟩ rfl (fun hA => earl20_c p vars L S k (gs S k).2.2.1 hp hS hk) rfl rfl) rfl rfl rfl (by decide) (.inl ⟨_, rfl, rfl⟩) rfl (by decide) ?_
      refine r_gval (v := .bool _) (v_not (.inr ⟨_, rfl, fun h => h⟩)) rfl rfl rfl (by decide) (.inl ⟨_, rfl, rfl⟩) rfl (by decide) ?_
      refine r_val (v := .bool _) (v_pick (.inl rfl) (.inl rfl) (.inr ⟨_, rfl, fun h h2 => by simp_all⟩)) rfl rfl (by decide) ?_
      refine r_nil ?_
      refine a_cond rfl (fun ht78 => ?_) (fun ht78 => ?_)
      ·
        skip
        refine a_seq ?_
        refine a_pre (ent_look (L := [(0, .int _ _), (2, .sl _ _), (3, .int _ _), (5, .op [.int _ _, .sl _ _]), (8, .bool _), (9, .op [.int _ _, .sl _ _, .int _ _, .int _ _, .int _ _, .int _ _])]) ⟨Weak.rfl, Weak.rfl, Weak.rfl, Weak.rfl, Weak.rfl, Weak.rfl, trivial⟩) ?_
        have hx : ((gs S k).1 ≠ 2 ∧ (gs S k).1 ≠ 3) ∨ befB p vars S k (gs S k).2.2.1 = false := (by cases hb : befB p vars S k (gs S k).2.2.1 <;> by_cases h2 : (gs S k).1 = 2 <;> by_cases h3 : (gs S k).1 = 3 <;> simp_all)
        refine a_region ?_
        refine r_val (v := .bool _) (v_assign (.inl rfl) (noOwn_flat rfl)) rfl rfl (by decide) ?_
        refine r_nil ?_
        refine a_ret ?_
        refine ret1 Try.results78 (by decide) (by decide) (Weak.of_eq (bool_eq ?_)) rfl Leaves.nil
        exact (step_x h1 hx).symm
      ·
        skip
        refine a_skip ?_
        refine a_seq ?_
        refine a_seq ?_
        refine a_pre (ent_look (L := [(0, .int _ _), (2, .sl _ _), (3, .int _ _), (5, .op [.int _ _, .sl _ _]), (8, .bool _), (9, .op [.int _ _, .sl _ _, .int _ _, .int _ _, .int _ _, .int _ _])]) ⟨Weak.rfl, Weak.rfl, Weak.rfl, Weak.rfl, Weak.rfl, Weak.rfl, trivial⟩) ?_
        have h23 : ((gs S k).1 = 2 ∨ (gs S k).1 = 3) ∧ befB p vars S k (gs S k).2.2.1 = true := (by cases hb : befB p vars S k (gs S k).2.2.1 <;> by_cases h2 : (gs S k).1 = 2 <;> by_cases h3 : (gs S k).1 = 3 <;> simp_all)
        obtain ⟨hbi, hbg⟩ := befB_spec h23.2
        refine a_region ?_
        refine r_val (v := .rp _ _) (v_fieldAddr_rp fo119_0 (.inl rfl)) rfl rfl (by decide) ?_
        refine r_val (v := .int _ _) (v_load_rp1 ta3 (.inl rfl) rfl (fun _ => rfl) rfl) rfl rfl (by decide) ?_
        refine r_val (v := .bool _) (v_eql (.inl rfl) (.inl rfl)) rfl rfl (by decide) ?_
        refine r_nil ?_
        refine a_cond rfl (fun ht81 => ?_) (fun ht81 => ?_)
        ·
          skip
          refine a_seq ?_
          have h3 : (gs S k).1 = 3 := (by simpa using ht81)
          refine a_region_any mixed (by kernel_rfl) ?_
          refine y_val (v := .rp _ _) (v_fieldAddr_rp fo119_3 (.inl rfl)) rfl rfl (by decide) (by kernel_rfl) ?_
          refine y_val (v := .int _ _) (v_load_rp1 ta3 (.inl rfl) rfl (fun _ => rfl) rfl) rfl rfl (by decide) (by kernel_rfl) ?_
          refine y_val (v := .bool _) (v_eql (.inl rfl) (.inl rfl)) rfl rfl (by decide) (by kernel_rfl) ?_
          refine y_val (v := .bool _) (v_move (.inl rfl) (noOwn_flat rfl)) rfl rfl (by decide) (by kernel_rfl) ?_
          refine y_guard (v := .rp _ _) (v_fieldAddr_rp fo119_5 (.inl rfl)).quiet rfl rfl rfl (by decide) (.inl ⟨_, rfl, rfl⟩) rfl (by decide) (by kernel_rfl) ?_
          refine y_guard (v := .int _ _) (v_load_rp1 ta3 (.inr ⟨_, rfl, fun h => h⟩) rfl (fun _ => rfl) rfl).quiet rfl rfl rfl (by decide) (.inl ⟨_, rfl, rfl⟩) rfl (by decide) (by kernel_rfl) ?_
          refine y_guard (v := .bool _) (v_eql (.inr ⟨_, rfl, fun h => h⟩) (.inl rfl)).quiet rfl rfl rfl (by decide) (.inl ⟨_, rfl, rfl⟩) rfl (by decide) (by kernel_rfl) ?_
          refine y_val (v := .bool _) (v_pick (.inl rfl) (.inr ⟨_, rfl, fun h h2 => by simp_all⟩) (.inl rfl)) rfl rfl (by decide) (by kernel_rfl) ?_
          refine y_val (v := .bool _) (v_move (.inl rfl) (noOwn_flat rfl)) rfl rfl (by decide) (by kernel_rfl) ?_
          refine y_guard (v := .rp _ _) (v_fieldAddr_rp fo119_4 (.inl rfl)).quiet rfl rfl rfl (by decide) (.inl ⟨_, rfl, rfl⟩) rfl (by decide) (by kernel_rfl) ?_
          refine y_guard (v := .int _ _) (v_load_rp1 ta3 (.inr ⟨_, rfl, fun h => h⟩) rfl (fun _ => rfl) rfl).quiet rfl rfl rfl (by decide) (.inl ⟨_, rfl, rfl⟩) rfl (by decide) (by kernel_rfl) ?_
          refine y_guard (v := .rp _ _) (v_fieldAddr_rp fo31_0 (.inl rfl)).quiet rfl rfl rfl (by decide) (.inl ⟨_, rfl, rfl⟩) rfl (by decide) (by kernel_rfl) ?_
          refine y_guard (v := .int _ _) (v_load_rp1 ta3 (.inr ⟨_, rfl, fun h => h⟩) rfl (fun _ => rfl) rfl).quiet rfl rfl rfl (by decide) (.inl ⟨_, rfl, rfl⟩) rfl (by decide) (by kernel_rfl) ?_
          refine y_guard (v := .bool _) (q_call (vs := [.int _ _, .int _ _, .int _ _]) (args := [.int .i64 _, .int .i64 _, .int .i64 _]) hb77 ⟨.inr ⟨_, rfl, fun h => h⟩, .inl rfl, .inr ⟨_, rfl, fun h => h⟩, trivial⟩ rfl (fun hA => l1In_c _ _ _) rfl rfl) rfl rfl rfl (by decide) (.inl ⟨_, rfl, rfl⟩) rfl (by decide) (by kernel_rfl) ?_
          refine y_val (v := .bool _) (v_pick (.inl rfl) (.inr ⟨_, rfl, fun h h2 => by simp_all⟩) (.inl rfl)) rfl rfl (by decide) (by kernel_rfl) ?_
          refine y_val (v := .bool _) (v_move (.inl rfl) (noOwn_flat rfl)) rfl rfl (by decide) (by kernel_rfl) ?_
          refine y_guard (v := .rp _ _) (v_fieldAddr_rp fo119_1 (.inl rfl)).quiet rfl rfl rfl (by decide) (.inl ⟨_, rfl, rfl⟩) rfl (by decide) (by kernel_rfl) ?_
          refine y_guard (v := .sl _ _) (v_load_rp1 ta34 (.inr ⟨_, rfl, fun h => h⟩) rfl (fun _ => rfl) rfl).quiet rfl rfl rfl (by decide) (.inl ⟨_, rfl, rfl⟩) rfl (by decide) (by kernel_rfl) ?_
          refine y_guard (v := .int _ _) (v_move (.inl rfl) (noOwn_flat rfl)).quiet rfl rfl rfl (by decide) (.inl ⟨_, rfl, rfl⟩) rfl (by decide) (by kernel_rfl) ?_
          refine y_guard (v := .rp _ _) (v_fieldAddr_rp fo31_0 (.inl rfl)).quiet rfl rfl rfl (by decide) (.inl ⟨_, rfl, rfl⟩) rfl (by decide) (by kernel_rfl) ?_
          refine y_guard (v := .int _ _) (v_load_rp1 ta3 (.inr ⟨_, rfl, fun h => h⟩) rfl (fun _ => rfl) rfl).quiet rfl rfl rfl (by decide) (.inl ⟨_, rfl, rfl⟩) rfl (by decide) (by kernel_rfl) ?_
          refine y_guard (v := .sl _ _) (v_move (.inl rfl) (noOwn_flat rfl)).quiet rfl rfl rfl (by decide) (.inl ⟨_, rfl, rfl⟩) rfl (by decide) (by kernel_rfl) ?_
          refine y_guard (v := .rp _ _) (v_fieldAddr_rp fo119_2 (.inl rfl)).quiet rfl rfl rfl (by decide) (.inl ⟨_, rfl, rfl⟩) rfl (by decide) (by kernel_rfl) ?_
          refine y_guard (v := .int _ _) (v_load_rp1 ta3 (.inr ⟨_, rfl, fun h => h⟩) rfl (fun _ => rfl) rfl).quiet rfl rfl rfl (by decide) (.inl ⟨_, rfl, rfl⟩) rfl (by decide) (by kernel_rfl) ?_
          refine y_guard (v := .pp _ _) (v_indexAddr_sl es55 (.inr ⟨_, rfl, fun h => h⟩) (.inr ⟨_, rfl, fun h => h⟩) (fun _ => ⟨by omega, by omega, stc_ne (i := (gs S k).2.2.1.toNat) (by omega)⟩)).quiet rfl rfl rfl (by decide) (.inl ⟨_, rfl, rfl⟩) rfl (by decide) (by kernel_rfl) ?_
          refine y_guard (v := .pp _ _) (v_fieldAddr_pp fo119_1 (.inr ⟨_, rfl, fun h => h⟩)).quiet rfl rfl rfl (by decide) (.inl ⟨_, rfl, rfl⟩) rfl (by decide) (by kernel_rfl) ?_
          refine y_guard (v := .sl (tcells (gs S (gs S k).2.2.1.toNat).2.1) (gs S (gs S k).2.2.1.toNat).2.1.length) (v_load_pp ta34 (.inr ⟨_, rfl, fun h => h⟩) (fun _ => (stc_at (i := (gs S k).2.2.1.toNat) (j := 1) (by omega) (by decide)).trans rfl) rfl).quiet rfl rfl rfl (by decide) (.inl ⟨_, rfl, rfl⟩) rfl (by decide) (by kernel_rfl) ?_
          refine y_guard (v := .rp _ _) (v_fieldAddr_rp fo119_4 (.inl rfl)).quiet rfl rfl rfl (by decide) (.inl ⟨_, rfl, rfl⟩) rfl (by decide) (by kernel_rfl) ?_
          refine y_guard (v := .int _ _) (v_load_rp1 ta3 (.inr ⟨_, rfl, fun h => h⟩) rfl (fun _ => rfl) rfl).quiet rfl rfl rfl (by decide) (.inl ⟨_, rfl, rfl⟩) rfl (by decide) (by kernel_rfl) ?_
          refine y_guard (v := .sl _ _) (QSem.cast (q_callZ (vs := [.int _ _, .int _ _, .sl _ _, .int _ _]) (args := [.int .i64 _, .int .i64 _, .sl _ _, .int .i64 _]) hb124 ⟨.inr ⟨_, rfl, fun h => h⟩, .inr ⟨_, rfl, fun h => h⟩, .inr ⟨_, rfl, fun h => h⟩, .inr ⟨_, rfl, fun h => h⟩, trivial⟩ rfl (fun hA => times20_c p vars _ (gs S k).2.2.2.2.1 hp hbg hxA (by simp [inR] at hA; omega)) (tc_noSh _) (tc_noRef _)) (sl_shZ (tc_pure _))) rfl rfl rfl (by decide) (.inl ⟨_, rfl, rfl⟩) rfl (by decide) (by kernel_rfl) ?_
          refine y_guard (v := .bool _) (q_call (vs := [.sl _ _, .sl _ _]) (args := [.sl _ _, .sl _ _]) hb122 ⟨.inr ⟨_, rfl, fun h => h⟩, .inr ⟨_, rfl, fun h => h⟩, trivial⟩ rfl (fun hA => same20_c _ _ _ _ rfl rfl hxl) rfl rfl) rfl rfl rfl (by decide) (.inl ⟨_, rfl, rfl⟩) rfl (by decide) (by kernel_rfl) ?_
          refine y_val (v := .bool _) (v_pick (.inl rfl) (.inr ⟨_, rfl, fun h h2 => by simp_all⟩) (.inl rfl)) rfl rfl (by decide) (by kernel_rfl) ?_
          refine y_val (v := .bool _) (v_assign (.inl rfl) (noOwn_flat rfl)) rfl rfl (by decide) (by kernel_rfl) ?_
          refine y_nil ?_
          refine a_ret ?_
          refine ret1 Try.results78 (by decide) (by decide) (Weak.of_eq (bool_eq ?_)) rfl Leaves.nil
          simp only [Bool.cond_false_right]; exact step_3 hp hg h3 h23.2
        ·
          skip
          refine a_skip ?_
          refine a_seq ?_
          refine a_seq ?_
          have h2 : (gs S k).1 = 2 := (by have h9 : ¬ (gs S k).1 = 3 := (by simpa using ht81); omega)
          refine a_region ?_
          refine r_val (v := .int _ _) (v_move (.inl rfl) (noOwn_flat rfl)) rfl rfl (by decide) ?_
          refine r_val (v := .agg [.int _ _, .sl _ _]) (v_load_rpa1 ta31 (.inl rfl) rfl rfl (fun _ => rfl) rfl) rfl rfl (by decide) ?_
          refine r_val (v := .sl _ _) (v_move (.inl rfl) (noOwn_flat rfl)) rfl rfl (by decide) ?_
          refine r_val (v := .int _ _) (v_move (.inl rfl) (noOwn_flat rfl)) rfl rfl (by decide) ?_
          refine r_val (v := .rp _ _) (v_fieldAddr_rp fo119_3 (.inl rfl)) rfl rfl (by decide) ?_
          refine r_val (v := .int _ _) (v_load_rp1 ta3 (.inl rfl) rfl (fun _ => rfl) rfl) rfl rfl (by decide) ?_
          refine r_new (v := .bool _) (q_call (vs := [.int _ _, .agg [.int _ _, .sl _ _], .sl _ _, .int _ _, .int _ _]) (args := [.int .i64 _, .agg [.int .i64 _, .sl _ _], .sl _ _, .int .i64 _, .int .i64 _]) hb123 ⟨.inl rfl, .inl rfl, .inl rfl, .inl rfl, .inl rfl, trivial⟩ rfl (fun hA => earl20_c p vars L S k (gs S k).2.2.2.1 hp hS hk) rfl rfl) rfl rfl (by decide) ?_
          refine r_val (v := .bool _) (v_not (.inl rfl)) rfl rfl (by decide) ?_
          refine r_val (v := .bool _) (v_move (.inl rfl) (noOwn_flat rfl)) rfl rfl (by decide) ?_
          refine r_gval (v := .rp _ _) (v_fieldAddr_rp fo119_4 (.inl rfl)) rfl rfl rfl (by decide) (.inl ⟨_, rfl, rfl⟩) rfl (by decide) ?_
          refine r_gval (v := .int _ _) (v_load_rp1 ta3 (.inr ⟨_, rfl, fun h => h⟩) rfl (fun _ => rfl) rfl) rfl rfl rfl (by decide) (.inl ⟨_, rfl, rfl⟩) rfl (by decide) ?_
          refine r_gval (v := .int _ _) (v_move (.inl rfl) (noOwn_flat rfl)) rfl rfl rfl (by decide) (.inl ⟨_, rfl, rfl⟩) rfl (by decide) ?_
          refine r_gval (v := .int _ _) (v_sub (.inr ⟨_, rfl, fun h => h⟩) (.inl rfl) (fun _ => by omega)) rfl rfl rfl (by decide) (.inl ⟨_, rfl, rfl⟩) rfl (by decide) ?_
          refine r_guard (v := .bool _) (q_call (vs := [.int _ _, .int _ _, .int _ _]) (args := [.int .i64 _, .int .i64 _, .int .i64 _]) hb77 ⟨.inr ⟨_, rfl, fun h => h⟩, .inl rfl, .inr ⟨_, rfl, fun h => h⟩, trivial⟩ rfl (fun hA => l1In_c _ _ _) rfl rfl) rfl rfl rfl (by decide) (.inl ⟨_, rfl, rfl⟩) rfl (by decide) ?_
          refine r_gval (v := .bool _) (v_not (.inr ⟨_, rfl, fun h => h⟩)) rfl rfl rfl (by decide) (.inl ⟨_, rfl, rfl⟩) rfl (by decide) ?_
          refine r_val (v := .bool _) (v_pick (.inl rfl) (.inl rfl) (.inr ⟨_, rfl, fun h h2 => by simp_all⟩)) rfl rfl (by decide) ?_
          refine r_val (v := .bool _) (v_move (.inl rfl) (noOwn_flat rfl)) rfl rfl (by decide) ?_
          refine r_gval (v := .rp _ _) (v_fieldAddr_rp fo119_5 (.inl rfl)) rfl rfl rfl (by decide) (.inl ⟨_, rfl, rfl⟩) rfl (by decide) ?_
          refine r_gval (v := .int _ _) (v_load_rp1 ta3 (.inr ⟨_, rfl, fun h => h⟩) rfl (fun _ => rfl) rfl) rfl rfl rfl (by decide) (.inl ⟨_, rfl, rfl⟩) rfl (by decide) ?_
          refine r_gval (v := .int _ _) (v_move (.inl rfl) (noOwn_flat rfl)) rfl rfl rfl (by decide) (.inl ⟨_, rfl, rfl⟩) rfl (by decide) ?_
          refine r_gval (v := .int _ _) (v_sub (.inr ⟨_, rfl, fun h => h⟩) (.inl rfl) (fun _ => by omega)) rfl rfl rfl (by decide) (.inl ⟨_, rfl, rfl⟩) rfl (by decide) ?_
          refine r_guard (v := .bool _) (q_call (vs := [.int _ _, .int _ _, .int _ _]) (args := [.int .i64 _, .int .i64 _, .int .i64 _]) hb77 ⟨.inr ⟨_, rfl, fun h => h⟩, .inl rfl, .inr ⟨_, rfl, fun h => h⟩, trivial⟩ rfl (fun hA => l1In_c _ _ _) rfl rfl) rfl rfl rfl (by decide) (.inl ⟨_, rfl, rfl⟩) rfl (by decide) ?_
          refine r_gval (v := .bool _) (v_not (.inr ⟨_, rfl, fun h => h⟩)) rfl rfl rfl (by decide) (.inl ⟨_, rfl, rfl⟩) rfl (by decide) ?_
          refine r_val (v := .bool _) (v_pick (.inl rfl) (.inl rfl) (.inr ⟨_, rfl, fun h h2 => by simp_all⟩)) rfl rfl (by decide) ?_
          refine r_nil ?_
          refine a_cond rfl (fun ht137 => ?_) (fun ht137 => ?_)
          ·
            skip
            refine a_seq ?_
            refine a_pre (ent_look (L := [(0, .int _ _), (2, .sl _ _), (5, .op [.int _ _, .sl _ _]), (8, .bool _), (9, .op [.int _ _, .sl _ _, .int _ _, .int _ _, .int _ _, .int _ _])]) ⟨Weak.rfl, Weak.rfl, Weak.rfl, Weak.rfl, Weak.rfl, trivial⟩) ?_
            have hn2 : ¬(befB p vars S k (gs S k).2.2.2.1 = true ∧ (0 ≤ (gs S k).2.2.2.2.1 ∧ (gs S k).2.2.2.2.1 ≤ p - 1) ∧ (0 ≤ (gs S k).2.2.2.2.2 ∧ (gs S k).2.2.2.2.2 ≤ p - 1)) := (by rw [← inR_spec, ← inR_spec]; cases hb : befB p vars S k (gs S k).2.2.2.1 <;> cases hc2 : inR (gs S k).2.2.2.2.1 0 (p - 1) <;> cases hc3 : inR (gs S k).2.2.2.2.2 0 (p - 1) <;> simp_all)
            refine a_region ?_
            refine r_val (v := .bool _) (v_assign (.inl rfl) (noOwn_flat rfl)) rfl rfl (by decide) ?_
            refine r_nil ?_
            refine a_ret ?_
            refine ret1 Try.results78 (by decide) (by decide) (Weak.of_eq (bool_eq ?_)) rfl Leaves.nil
            exact (step_2n h2 hn2).symm
          ·
            skip
            refine a_skip ?_
            refine a_seq ?_
            refine a_pre (ent_look (L := [(0, .int _ _), (2, .sl _ _), (5, .op [.int _ _, .sl _ _]), (8, .bool _), (9, .op [.int _ _, .sl _ _, .int _ _, .int _ _, .int _ _, .int _ _])]) ⟨Weak.rfl, Weak.rfl, Weak.rfl, Weak.rfl, Weak.rfl, trivial⟩) ?_
            obtain ⟨hb2, hC, hD⟩ : befB p vars S k (gs S k).2.2.2.1 = true ∧ (0 ≤ (gs S k).2.2.2.2.1 ∧ (gs S k).2.2.2.2.1 ≤ p - 1) ∧ (0 ≤ (gs S k).2.2.2.2.2 ∧ (gs S k).2.2.2.2.2 ≤ p - 1) := (by rw [← inR_spec, ← inR_spec]; cases hb : befB p vars S k (gs S k).2.2.2.1 <;> cases hc2 : inR (gs S k).2.2.2.2.1 0 (p - 1) <;> cases hc3 : inR (gs S k).2.2.2.2.2 0 (p - 1) <;> simp_all)
            obtain ⟨hbi2, hbg2⟩ := befB_spec hb2
            have hsl := trm_len (sumP p vars (gs S k).2.2.2.2.1 (gs S k).2.2.2.2.2 (gs S (gs S k).2.2.1.toNat).2.1 (gs S (gs S k).2.2.2.1.toNat).2.1)
            refine a_region_any mixed (by kernel_rfl) ?_
            refine y_val (v := .rp _ _) (v_fieldAddr_rp fo119_1 (.inl rfl)) rfl rfl (by decide) (by kernel_rfl) ?_
            refine y_val (v := .sl _ _) (v_load_rp1 ta34 (.inl rfl) rfl (fun _ => rfl) rfl) rfl rfl (by decide) (by kernel_rfl) ?_
            refine y_val (v := .int _ _) (v_move (.inl rfl) (noOwn_flat rfl)) rfl rfl (by decide) (by kernel_rfl) ?_
            refine y_val (v := .rp _ _) (v_fieldAddr_rp fo31_0 (.inl rfl)) rfl rfl (by decide) (by kernel_rfl) ?_
            refine y_val (v := .int _ _) (v_load_rp1 ta3 (.inl rfl) rfl (fun _ => rfl) rfl) rfl rfl (by decide) (by kernel_rfl) ?_
            refine y_val (v := .sl _ _) (v_move (.inl rfl) (noOwn_flat rfl)) rfl rfl (by decide) (by kernel_rfl) ?_
            refine y_val (v := .rp _ _) (v_fieldAddr_rp fo119_2 (.inl rfl)) rfl rfl (by decide) (by kernel_rfl) ?_
            refine y_val (v := .int _ _) (v_load_rp1 ta3 (.inl rfl) rfl (fun _ => rfl) rfl) rfl rfl (by decide) (by kernel_rfl) ?_
            refine y_val (v := .pp _ _) (v_indexAddr_sl es55 (.inl rfl) (.inl rfl) (fun _ => ⟨by omega, by omega, stc_ne (i := (gs S k).2.2.1.toNat) (by omega)⟩)) rfl rfl (by decide) (by kernel_rfl) ?_
            refine y_val (v := .pp _ _) (v_fieldAddr_pp fo119_1 (.inl rfl)) rfl rfl (by decide) (by kernel_rfl) ?_
            refine y_val (v := .sl (tcells (gs S (gs S k).2.2.1.toNat).2.1) (gs S (gs S k).2.2.1.toNat).2.1.length) (v_load_pp ta34 (.inl rfl) (fun _ => (stc_at (i := (gs S k).2.2.1.toNat) (j := 1) (by omega) (by decide)).trans rfl) rfl) rfl rfl (by decide) (by kernel_rfl) ?_
            refine y_val (v := .rp _ _) (v_fieldAddr_rp fo119_4 (.inl rfl)) rfl rfl (by decide) (by kernel_rfl) ?_
            refine y_val (v := .int _ _) (v_load_rp1 ta3 (.inl rfl) rfl (fun _ => rfl) rfl) rfl rfl (by decide) (by kernel_rfl) ?_
            refine y_val (v := .sl _ _) (v_move (.inl rfl) (noOwn_flat rfl)) rfl rfl (by decide) (by kernel_rfl) ?_
            refine y_val (v := .rp _ _) (v_fieldAddr_rp fo119_3 (.inl rfl)) rfl rfl (by decide) (by kernel_rfl) ?_
            refine y_val (v := .int _ _) (v_load_rp1 ta3 (.inl rfl) rfl (fun _ => rfl) rfl) rfl rfl (by decide) (by kernel_rfl) ?_
            refine y_val (v := .pp _ _) (v_indexAddr_sl es55 (.inl rfl) (.inl rfl) (fun _ => ⟨by omega, by omega, stc_ne (i := (gs S k).2.2.2.1.toNat) (by omega)⟩)) rfl rfl (by decide) (by kernel_rfl) ?_
            refine y_val (v := .pp _ _) (v_fieldAddr_pp fo119_1 (.inl rfl)) rfl rfl (by decide) (by kernel_rfl) ?_
            refine y_val (v := .sl (tcells (gs S (gs S k).2.2.2.1.toNat).2.1) (gs S (gs S k).2.2.2.1.toNat).2.1.length) (v_load_pp ta34 (.inl rfl) (fun _ => (stc_at (i := (gs S k).2.2.2.1.toNat) (j := 1) (by omega) (by decide)).trans rfl) rfl) rfl rfl (by decide) (by kernel_rfl) ?_
            refine y_val (v := .rp _ _) (v_fieldAddr_rp fo119_5 (.inl rfl)) rfl rfl (by decide) (by kernel_rfl) ?_
            refine y_val (v := .int _ _) (v_load_rp1 ta3 (.inl rfl) rfl (fun _ => rfl) rfl) rfl rfl (by decide) (by kernel_rfl) ?_
            refine y_new (v := .osl _ _ _ _) (q_call (vs := [.int _ _, .int _ _, .sl _ _, .int _ _, .sl _ _, .int _ _]) (args := [.int .i64 _, .int .i64 _, .sl _ _, .int .i64 _, .sl _ _, .int .i64 _]) hb125 ⟨.inl rfl, .inl rfl, .inl rfl, .inl rfl, .inl rfl, .inl rfl, trivial⟩ rfl (fun hA => sum20_c p vars _ _ (gs S k).2.2.2.2.1 (gs S k).2.2.2.2.2 hp hbg hbg2 hxA hxB ⟨by omega, by omega⟩ ⟨by omega, by omega⟩) (tc_noSh _) (tc_noRef _)) rfl rfl (by decide) (by kernel_rfl) ?_
            refine y_new (v := .bool _) (q_call (vs := [.sl _ _, .rsl _ _ _ _ _]) (args := [.sl _ _, .sl _ _]) hb122 ⟨.inl rfl, .inl rfl, trivial⟩ (l2_eq rfl (sl_sh (tc_pure _))) (fun hA => same20_c _ _ _ _ rfl rfl hxl) rfl rfl) rfl rfl (by decide) (by kernel_rfl) ?_
            refine y_val (v := .bool _) (v_assign (.inl rfl) (noOwn_flat rfl)) rfl rfl (by decide) (by kernel_rfl) ?_
            refine y_nil ?_
            refine a_ret ?_
            refine ret1 Try.results78 (by decide) (by decide) (Weak.of_eq (bool_eq ?_)) rfl Leaves.nil
            exact step_2 hp hg h2 h23.2 hb2 hC hD

theorem sWrong_c (p vars : Int) (L : List (List Int)) (S : List PcT) (hk0 : CnfOk vars L) (ha : aOk p vars L = true) (hS : StOk S) : ACall Try.prog 83 [.int .i64 p, .agg [.int .i64 vars, .sl (sls L) L.length], .sl (stc S) S.length] [] (.int .i64 (wrongI p vars L S)) [] := by
  have hS1 := hS.1
  refine ACall.intro Try.func83 rfl (N := 21) rfl (by decide) (by simp) ?_
  refine a_seq ?_
  refine a_region ?_
  refine r_new (v := .op [.int _ _, .sl _ _]) (q_box (.inl rfl) rfl rfl) rfl rfl (by decide) ?_
  refine r_val (v := .int _ _) (v_assign (.inl rfl) (noOwn_flat rfl)) rfl rfl (by decide) ?_
  refine r_nil ?_
  refine a_seq ?_
  refine a_seq ?_
  refine a_region ?_
  refine r_val (v := .int _ _) (v_assign (.inl rfl) (noOwn_flat rfl)) rfl rfl (by decide) ?_
  refine r_nil ?_
  refine a_block ?_
  refine a_loop (X := Nat) (fun k => look [(0, .int .i64 p), (2, .sl (stc S) S.length), (4, .op [.int .i64 vars, .sl (sls L) L.length]), (7, .int .i64 ((k : Nat) : Int))]) (fun k => k ≤ S.length ∧ ∀ j, j < k → stepB p vars L S j = true) (fun k => S.length - k) 0 (ent_look ⟨Weak.of_eq rfl, Weak.of_eq rfl, Weak.of_eq rfl, Weak.of_eq rfl, trivial⟩) ⟨Nat.zero_le _, fun j h => by omega⟩ (fun k hG => ?_)
  obtain ⟨g1, g2⟩ := hG
  refine a_seq ?_
  refine a_seq ?_
  refine a_region ?_
  refine r_val (v := .int _ _) (v_move (.inl rfl) (noOwn_flat rfl)) rfl rfl (by decide) ?_
  refine r_val (v := .sl _ _) (v_move (.inl rfl) (noOwn_flat rfl)) rfl rfl (by decide) ?_
  refine r_val (v := .int _ _) (v_len_sl sl55 (.inl rfl)) rfl rfl (by decide) ?_
  refine r_val (v := .bool _) (v_lss (.inl rfl) (.inl rfl)) rfl rfl (by decide) ?_
  refine r_nil ?_
  refine a_cond rfl (fun ht11 => ?_) (fun ht11 => ?_)
  ·
    skip
    refine a_skip ?_
    refine a_seq ?_
    refine a_block ?_
    refine a_seq ?_
    have hk : k < S.length := (by simp at ht11; omega)
    refine a_region ?_
    refine r_val (v := .int _ _) (v_move (.inl rfl) (noOwn_flat rfl)) rfl rfl (by decide) ?_
    refine r_val (v := .agg [.int _ _, .sl _ _]) (v_load_rpa1 ta31 (.inl rfl) rfl rfl (fun _ => rfl) rfl) rfl rfl (by decide) ?_
    refine r_val (v := .sl _ _) (v_move (.inl rfl) (noOwn_flat rfl)) rfl rfl (by decide) ?_
    refine r_val (v := .int _ _) (v_move (.inl rfl) (noOwn_flat rfl)) rfl rfl (by decide) ?_
    refine r_new (v := .bool _) (q_call (vs := [.int _ _, .agg [.int _ _, .sl _ _], .sl _ _, .int _ _]) (args := [.int .i64 _, .agg [.int .i64 _, .sl _ _], .sl _ _, .int .i64 _]) hb78 ⟨.inl rfl, .inl rfl, .inl rfl, .inl rfl, trivial⟩ rfl (fun hA => cor20_c p vars L S k hk0 ha hS hk) rfl rfl) rfl rfl (by decide) ?_
    refine r_val (v := .bool _) (v_not (.inl rfl)) rfl rfl (by decide) ?_
    refine r_nil ?_
    refine a_cond rfl (fun ht19 => ?_) (fun ht19 => ?_)
    ·
      skip
      refine a_seq ?_
      refine a_region ?_
      refine r_val (v := .int _ _) (v_move (.inl rfl) (noOwn_flat rfl)) rfl rfl (by decide) ?_
      refine r_val (v := .int _ _) (v_assign (.inl rfl) (noOwn_flat rfl)) rfl rfl (by decide) ?_
      refine r_nil ?_
      refine a_ret ?_
      refine ret1 Try.results83 (by decide) (by decide) (Weak.of_eq (int_eq ?_)) rfl Leaves.nil
      exact (wrong_found hk (by simpa using ht19) g2).symm
    ·
      skip
      refine a_skip ?_
      refine a_region ?_
      refine r_val (v := .int _ _) (v_move (.inl rfl) (noOwn_flat rfl)) rfl rfl (by decide) ?_
      refine r_val (v := .int _ _) (v_add (.inl rfl) (.inl rfl) (fun _ => by omega)) rfl rfl (by decide) ?_
      refine r_val (v := .int _ _) (v_assign (.inl rfl) (noOwn_flat rfl)) rfl rfl (by decide) ?_
      refine r_nil ?_
      refine ⟨k + 1, ent_look ⟨Weak.of_eq rfl, Weak.of_eq rfl, Weak.of_eq rfl, Weak.of_eq (int_eq (by omega)), trivial⟩, ⟨by omega, fun j h1 => by rcases Nat.lt_or_ge j k with h | h; exact g2 j h; (obtain rfl : j = k := by omega); simpa using ht19⟩, by omega⟩
  ·
    skip
    refine a_exit ?_
    refine a_seq ?_
    refine a_region ?_
    refine r_val (v := .int _ _) (v_assign (.inl rfl) (noOwn_flat rfl)) rfl rfl (by decide) ?_
    refine r_nil ?_
    refine a_ret ?_
    refine ret1 Try.results83 (by decide) (by decide) (Weak.of_eq (int_eq ?_)) rfl Leaves.nil
    exact (wrong_none (fun j hj => g2 j (by simp at ht11; omega))).symm

theorem good20_c (p vars : Int) (L : List (List Int)) (S : List PcT) (hk : CnfOk vars L) (hS : StOk S) : ACall Try.prog 85 [.int .i64 p, .agg [.int .i64 vars, .sl (sls L) L.length], .sl (stc S) S.length] [] (.bool (aOk p vars L && derB p vars L S)) [] := by
  have hS1 := hS.1
  refine ACall.intro Try.func85 rfl (N := 22) rfl (by decide) (by simp) ?_
  refine a_seq ?_
  refine a_region ?_
  refine r_new (v := .op [.int _ _, .sl _ _]) (q_box (.inl rfl) rfl rfl) rfl rfl (by decide) ?_
  refine r_val (v := .bool _) (v_assign (.inl rfl) (noOwn_flat rfl)) rfl rfl (by decide) ?_
  refine r_nil ?_
  refine a_seq ?_
  refine a_region ?_
  refine r_val (v := .int _ _) (v_move (.inl rfl) (noOwn_flat rfl)) rfl rfl (by decide) ?_
  refine r_val (v := .agg [.int _ _, .sl _ _]) (v_load_rpa1 ta31 (.inl rfl) rfl rfl (fun _ => rfl) rfl) rfl rfl (by decide) ?_
  refine r_new (v := .bool _) (q_call (vs := [.int _ _, .agg [.int _ _, .sl _ _]]) (args := [.int .i64 _, .agg [.int .i64 _, .sl _ _]]) hb76 ⟨.inl rfl, .inl rfl, trivial⟩ rfl (fun hA => asked20_c p vars L hk) rfl rfl) rfl rfl (by decide) ?_
  refine r_val (v := .bool _) (v_move (.inl rfl) (noOwn_flat rfl)) rfl rfl (by decide) ?_
  refine r_gval (v := .sl _ _) (v_move (.inl rfl) (noOwn_flat rfl)) rfl rfl rfl (by decide) (.inl ⟨_, rfl, rfl⟩) rfl (by decide) ?_
  refine r_gval (v := .int _ _) (v_len_sl sl55 (.inr ⟨_, rfl, fun h => h⟩)) rfl rfl rfl (by decide) (.inl ⟨_, rfl, rfl⟩) rfl (by decide) ?_
  refine r_gval (v := .bool _) (v_leq (.inr ⟨_, rfl, fun h => h⟩) (.inl rfl)) rfl rfl rfl (by decide) (.inl ⟨_, rfl, rfl⟩) rfl (by decide) ?_
  refine r_val (v := .bool _) (v_pick (.inl rfl) (.inr ⟨_, rfl, fun h h2 => by simp_all⟩) (.inl rfl)) rfl rfl (by decide) ?_
  refine r_val (v := .bool _) (v_move (.inl rfl) (noOwn_flat rfl)) rfl rfl (by decide) ?_
  refine r_gval (v := .int _ _) (v_move (.inl rfl) (noOwn_flat rfl)) rfl rfl rfl (by decide) (.inl ⟨_, rfl, rfl⟩) rfl (by decide) ?_
  refine r_gval (v := .agg [.int _ _, .sl _ _]) (v_load_rpa1 ta31 (.inl rfl) rfl rfl (fun _ => rfl) rfl) rfl rfl rfl (by decide) (.inl ⟨_, rfl, rfl⟩) rfl (by decide) ?_
  refine r_gval (v := .sl _ _) (v_move (.inl rfl) (noOwn_flat rfl)) rfl rfl rfl (by decide) (.inl ⟨_, rfl, rfl⟩) rfl (by decide) ?_
  refine r_guard (v := .int _ _) (q_call (vs := [.int _ _, .agg [.int _ _, .sl _ _], .sl _ _]) (args := [.int .i64 _, .agg [.int .i64 _, .sl _ _], .sl _ _]) hb83 ⟨.inr ⟨_, rfl, fun h => h⟩, .inr ⟨_, rfl, fun h => h⟩, .inr ⟨_, rfl, fun h => h⟩, trivial⟩ rfl (fun hA => sWrong_c p vars L S hk (by simp at hA; exact hA.1) hS) rfl rfl) rfl rfl rfl (by decide) (.inl ⟨_, rfl, rfl⟩) rfl (by decide) ?_
  refine r_gval (v := .bool _) (v_lss (.inr ⟨_, rfl, fun h => h⟩) (.inl rfl)) rfl rfl rfl (by decide) (.inl ⟨_, rfl, rfl⟩) rfl (by decide) ?_
  refine r_val (v := .bool _) (v_pick (.inl rfl) (.inr ⟨_, rfl, fun h h2 => by simp_all⟩) (.inl rfl)) rfl rfl (by decide) ?_
  refine r_val (v := .bool _) (v_assign (.inl rfl) (noOwn_flat rfl)) rfl rfl (by decide) ?_
  refine r_nil ?_
  refine a_ret ?_
  refine ret1 Try.results85 (by decide) (by decide) (Weak.of_eq (bool_eq ?_)) rfl Leaves.nil
  unfold derB; simp only [Bool.cond_false_right, Bool.and_assoc]

theorem ref20_c (p vars : Int) (L : List (List Int)) (S : List PcT) (hk : CnfOk vars L) (hS : StOk S) : ACall Try.prog 87 [.int .i64 p, .agg [.int .i64 vars, .sl (sls L) L.length], .sl (stc S) S.length] [] (.bool (aOk p vars L && refB p vars L S)) [] := by
  have hS1 := hS.1
  have hxl := st_len hS (S.length - 1)
  refine ACall.intro Try.func87 rfl (N := 27) rfl (by decide) (by simp) ?_
  refine a_seq ?_
  refine a_region ?_
  refine r_new (v := .op [.int _ _, .sl _ _]) (q_box (.inl rfl) rfl rfl) rfl rfl (by decide) ?_
  refine r_val (v := .bool _) (v_assign (.inl rfl) (noOwn_flat rfl)) rfl rfl (by decide) ?_
  refine r_nil ?_
  refine a_seq ?_
  refine a_region_any mixed (by kernel_rfl) ?_
  refine y_val (v := .int _ _) (v_move (.inl rfl) (noOwn_flat rfl)) rfl rfl (by decide) (by kernel_rfl) ?_
  refine y_val (v := .agg [.int _ _, .sl _ _]) (v_load_rpa1 ta31 (.inl rfl) rfl rfl (fun _ => rfl) rfl) rfl rfl (by decide) (by kernel_rfl) ?_
  refine y_val (v := .sl _ _) (v_move (.inl rfl) (noOwn_flat rfl)) rfl rfl (by decide) (by kernel_rfl) ?_
  refine y_new (v := .bool _) (q_call (vs := [.int _ _, .agg [.int _ _, .sl _ _], .sl _ _]) (args := [.int .i64 _, .agg [.int .i64 _, .sl _ _], .sl _ _]) hb85 ⟨.inl rfl, .inl rfl, .inl rfl, trivial⟩ rfl (fun hA => good20_c p vars L S hk hS) rfl rfl) rfl rfl (by decide) (by kernel_rfl) ?_
  refine y_val (v := .bool _) (v_move (.inl rfl) (noOwn_flat rfl)) rfl rfl (by decide) (by kernel_rfl) ?_
  refine y_guard (v := .sl _ _) (v_move (.inl rfl) (noOwn_flat rfl)).quiet rfl rfl rfl (by decide) (.inl ⟨_, rfl, rfl⟩) rfl (by decide) (by kernel_rfl) ?_
  refine y_guard (v := .int _ _) (v_len_sl sl55 (.inr ⟨_, rfl, fun h => h⟩)).quiet rfl rfl rfl (by decide) (.inl ⟨_, rfl, rfl⟩) rfl (by decide) (by kernel_rfl) ?_
  refine y_guard (v := .bool _) (v_gtr (.inr ⟨_, rfl, fun h => h⟩) (.inl rfl)).quiet rfl rfl rfl (by decide) (.inl ⟨_, rfl, rfl⟩) rfl (by decide) (by kernel_rfl) ?_
  refine y_val (v := .bool _) (v_pick (.inl rfl) (.inr ⟨_, rfl, fun h h2 => by simp_all⟩) (.inl rfl)) rfl rfl (by decide) (by kernel_rfl) ?_
  refine y_val (v := .bool _) (v_move (.inl rfl) (noOwn_flat rfl)) rfl rfl (by decide) (by kernel_rfl) ?_
  refine y_guard (v := .sl _ _) (v_move (.inl rfl) (noOwn_flat rfl)).quiet rfl rfl rfl (by decide) (.inl ⟨_, rfl, rfl⟩) rfl (by decide) (by kernel_rfl) ?_
  refine y_guard (v := .sl _ _) (v_move (.inl rfl) (noOwn_flat rfl)).quiet rfl rfl rfl (by decide) (.inl ⟨_, rfl, rfl⟩) rfl (by decide) (by kernel_rfl) ?_
  refine y_guard (v := .int _ _) (v_len_sl sl55 (.inr ⟨_, rfl, fun h => h⟩)).quiet rfl rfl rfl (by decide) (.inl ⟨_, rfl, rfl⟩) rfl (by decide) (by kernel_rfl) ?_
  refine y_guard (v := .int _ _) (v_sub (.inr ⟨_, rfl, fun h => h⟩) (.inl rfl) (fun _ => by omega)).quiet rfl rfl rfl (by decide) (.inl ⟨_, rfl, rfl⟩) rfl (by decide) (by kernel_rfl) ?_
  refine y_guard (v := .pp _ _) (v_indexAddr_sl es55 (.inr ⟨_, rfl, fun h => h⟩) (.inr ⟨_, rfl, fun h => h⟩) (fun hA => by simp at hA; exact ⟨by omega, by omega, stc_ne (i := S.length - 1) (by omega)⟩)).quiet rfl rfl rfl (by decide) (.inl ⟨_, rfl, rfl⟩) rfl (by decide) (by kernel_rfl) ?_
  refine y_guard (v := .pp _ _) (v_fieldAddr_pp fo119_1 (.inr ⟨_, rfl, fun h => h⟩)).quiet rfl rfl rfl (by decide) (.inl ⟨_, rfl, rfl⟩) rfl (by decide) (by kernel_rfl) ?_
  refine y_guard (v := .sl (tcells (lastX S)) (lastX S).length) (v_load_pp ta34 (.inr ⟨_, rfl, fun h => h⟩) (fun hA => by simp at hA; rw [show ((S.length : Int) - 1).toNat = S.length - 1 by omega]; exact (stc_at (i := S.length - 1) (j := 1) (by omega) (by decide)).trans rfl) rfl).quiet rfl rfl rfl (by decide) (.inl ⟨_, rfl, rfl⟩) rfl (by decide) (by kernel_rfl) ?_
  refine y_guard (v := .sl _ _) (QSem.cast (q_callZ (vs := []) (args := []) hb127 trivial rfl (fun hA => one20_c) (tc_noSh _) (tc_noRef _)) (sl_shZ (tc_pure _))) rfl rfl rfl (by decide) (.inl ⟨_, rfl, rfl⟩) rfl (by decide) (by kernel_rfl) ?_
  refine y_guard (v := .bool _) (q_call (vs := [.sl _ _, .sl _ _]) (args := [.sl _ _, .sl _ _]) hb122 ⟨.inr ⟨_, rfl, fun h => h⟩, .inr ⟨_, rfl, fun h => h⟩, trivial⟩ rfl (fun hA => same20_c (lastX S) [(0, 1)] _ 1 rfl rfl hxl) rfl rfl) rfl rfl rfl (by decide) (.inl ⟨_, rfl, rfl⟩) rfl (by decide) (by kernel_rfl) ?_
  refine y_val (v := .bool _) (v_pick (.inl rfl) (.inr ⟨_, rfl, fun h h2 => by simp_all⟩) (.inl rfl)) rfl rfl (by decide) (by kernel_rfl) ?_
  refine y_val (v := .bool _) (v_assign (.inl rfl) (noOwn_flat rfl)) rfl rfl (by decide) (by kernel_rfl) ?_
  refine y_nil ?_
  refine a_ret ?_
  refine ret1 Try.results87 (by decide) (by decide) (Weak.of_eq (bool_eq ?_)) rfl Leaves.nil
  unfold refB; simp only [Bool.cond_false_right, Bool.and_assoc]
end Go.Av
namespace Go.Av
open Go Go.Proofs Go.Sort
set_option maxRecDepth 10000
theorem fp119_1 : fieldPart Try.prog 119 1 = some (false, 1, 1) := by kernel_rfl
theorem hb55 : hasBody Try.prog 55 = true := by kernel_rfl
theorem hb66 : hasBody Try.prog 66 = true := by kernel_rfl
theorem hb86 : hasBody Try.prog 86 = true := by kernel_rfl
theorem hb87 : hasBody Try.prog 87 = true := by kernel_rfl
theorem hb88 : hasBody Try.prog 88 = true := by kernel_rfl

theorem sRf_c (p vars : Int) (L : List (List Int)) (S : List PcT) (hk : CnfOk vars L) (hS : StOk S) : ACall Try.prog 40 [.int .i64 p, .agg [.int .i64 vars, .sl (sls L) L.length], .sl (stc S) S.length] [] (.tup [.bool (aOk p vars L && refB p vars L S), .bool (aOk p vars L)]) [] := by
  have hS1 := hS.1
  refine ACall.intro Try.func40 rfl (N := 16) rfl (by decide) (by simp) ?_
  refine a_seq ?_
  refine a_region ?_
  refine r_new (v := .op [.int _ _, .sl _ _]) (q_box (.inl rfl) rfl rfl) rfl rfl (by decide) ?_
  refine r_val (v := .bool _) (v_assign (.inl rfl) (noOwn_flat rfl)) rfl rfl (by decide) ?_
  refine r_val (v := .bool _) (v_assign (.inl rfl) (noOwn_flat rfl)) rfl rfl (by decide) ?_
  refine r_nil ?_
  refine a_seq ?_
  refine a_seq ?_
  refine a_region ?_
  refine r_val (v := .int _ _) (v_move (.inl rfl) (noOwn_flat rfl)) rfl rfl (by decide) ?_
  refine r_val (v := .agg [.int _ _, .sl _ _]) (v_load_rpa1 ta31 (.inl rfl) rfl rfl (fun _ => rfl) rfl) rfl rfl (by decide) ?_
  refine r_new (v := .bool _) (q_call (vs := [.int _ _, .agg [.int _ _, .sl _ _]]) (args := [.int .i64 _, .agg [.int .i64 _, .sl _ _]]) hb76 ⟨.inl rfl, .inl rfl, trivial⟩ rfl (fun hA => asked20_c p vars L hk) rfl rfl) rfl rfl (by decide) ?_
  refine r_val (v := .bool _) (v_not (.inl rfl)) rfl rfl (by decide) ?_
  refine r_nil ?_
  refine a_cond rfl (fun ht11 => ?_) (fun ht11 => ?_)
  ·
    skip
    refine a_seq ?_
    refine a_region ?_
    refine r_val (v := .bool _) (v_assign (.inl rfl) (noOwn_flat rfl)) rfl rfl (by decide) ?_
    refine r_val (v := .bool _) (v_assign (.inl rfl) (noOwn_flat rfl)) rfl rfl (by decide) ?_
    refine r_nil ?_
    refine a_ret ?_
    refine retL (rs := [.tmp 6, .tmp 7]) [(6, _), (7, _)] ⟨Weak.rfl, Weak.rfl, trivial⟩ rfl Try.results40 (by decide) ⟨by decide, by decide, rfl⟩ (by decide) (by decide) (l2_eq (bool_eq ?_) (bool_eq ?_)) rfl
    all_goals (have h9 : aOk p vars L = false := (by simpa using ht11); rw [h9] <;> rfl)
  ·
    skip
    refine a_skip ?_
    refine a_seq ?_
    refine a_region ?_
    refine r_val (v := .int _ _) (v_move (.inl rfl) (noOwn_flat rfl)) rfl rfl (by decide) ?_
    refine r_val (v := .agg [.int _ _, .sl _ _]) (v_load_rpa1 ta31 (.inl rfl) rfl rfl (fun _ => rfl) rfl) rfl rfl (by decide) ?_
    refine r_val (v := .sl _ _) (v_move (.inl rfl) (noOwn_flat rfl)) rfl rfl (by decide) ?_
    refine r_new (v := .bool _) (q_call (vs := [.int _ _, .agg [.int _ _, .sl _ _], .sl _ _]) (args := [.int .i64 _, .agg [.int .i64 _, .sl _ _], .sl _ _]) hb87 ⟨.inl rfl, .inl rfl, .inl rfl, trivial⟩ rfl (fun hA => ref20_c p vars L S hk hS) rfl rfl) rfl rfl (by decide) ?_
    refine r_val (v := .bool _) (v_assign (.inl rfl) (noOwn_flat rfl)) rfl rfl (by decide) ?_
    refine r_val (v := .bool _) (v_assign (.inl rfl) (noOwn_flat rfl)) rfl rfl (by decide) ?_
    refine r_nil ?_
    refine a_ret ?_
    refine retL (rs := [.tmp 6, .tmp 7]) [(6, _), (7, _)] ⟨Weak.rfl, Weak.rfl, trivial⟩ rfl Try.results40 (by decide) ⟨by decide, by decide, rfl⟩ (by decide) (by decide) (l2_eq (bool_eq ?_) (bool_eq ?_)) rfl
    all_goals (have h9 : aOk p vars L = true := (by simpa using ht11); rw [h9] <;> simp)

theorem lastP_c (S : List PcT) (hn : 0 < S.length) (h : S.length ≤ 1048576) : ACall Try.prog 88 [.sl (stc S) S.length] [] (.agg [.int .i64 (gs S (S.length - 1)).1, .sl (tcells (gs S (S.length - 1)).2.1) (gs S (S.length - 1)).2.1.length, .int .i64 (gs S (S.length - 1)).2.2.1, .int .i64 (gs S (S.length - 1)).2.2.2.1, .int .i64 (gs S (S.length - 1)).2.2.2.2.1, .int .i64 (gs S (S.length - 1)).2.2.2.2.2]) [] := by
  refine ACall.intro Try.func88 rfl (N := 9) rfl (by decide) (by simp) ?_
  refine a_seq ?_
  refine a_region ?_
  refine r_new (v := .op [.int _ _, .nils, .int _ _, .int _ _, .int _ _, .int _ _]) (q_alloc zc119) rfl rfl (by decide) ?_
  refine r_nil ?_
  refine a_seq ?_
  refine a_region ?_
  refine r_val (v := .sl _ _) (v_move (.inl rfl) (noOwn_flat rfl)) rfl rfl (by decide) ?_
  refine r_val (v := .sl _ _) (v_move (.inl rfl) (noOwn_flat rfl)) rfl rfl (by decide) ?_
  refine r_val (v := .int _ _) (v_len_sl sl55 (.inl rfl)) rfl rfl (by decide) ?_
  refine r_val (v := .int _ _) (v_sub (.inl rfl) (.inl rfl) (fun _ => by omega)) rfl rfl (by decide) ?_
  refine r_val (v := .pp _ _) (v_indexAddr_sl es55 (.inl rfl) (.inl rfl) (fun _ => ⟨by omega, by omega, stc_ne (i := S.length - 1) (by omega)⟩)) rfl rfl (by decide) ?_
  refine r_val (v := .agg [.int .i64 (gs S (S.length - 1)).1, .sl (tcells (gs S (S.length - 1)).2.1) (gs S (S.length - 1)).2.1.length, .int .i64 (gs S (S.length - 1)).2.2.1, .int .i64 (gs S (S.length - 1)).2.2.2.1, .int .i64 (gs S (S.length - 1)).2.2.2.2.1, .int .i64 (gs S (S.length - 1)).2.2.2.2.2]) (v_load_ppa1 ta119 (.inl rfl) rfl (fun _ => by rw [show ((S.length : Int) - 1).toNat = S.length - 1 by omega]; exact stc_six (by omega)) rfl) rfl rfl (by decide) ?_
  refine r_step rfl (o_store (v := .agg [.int _ _, .sl _ _, .int _ _, .int _ _, .int _ _, .int _ _]) (y' := .op [.int _ _, .sl _ _, .int _ _, .int _ _, .int _ _, .int _ _]) rfl rfl ta119 (.inl rfl) (.inl rfl) rfl rfl rfl rfl rfl rfl (Nat.le_of_ble_eq_true rfl) (by decide) rfl rfl) ?_
  refine r_nil ?_
  refine a_ret ?_
  refine retC1 (r := .cell 2 119) Try.results88 ⟨by decide, _, cell_agg rfl ta119, rfl⟩ (by decide) (Weak.of_eq (agg_eq (l6_eq (int_eq ?_) (sl_eq2 ?_ ?_) (int_eq ?_) (int_eq ?_) (int_eq ?_) (int_eq ?_)))) rfl Leaves.nil
  all_goals rfl

theorem iRf_c (p vars : Int) (L : List (List Int)) (S : List PcT) (hk : CnfOk vars L) (hS : StOk S) : ACall Try.prog 41 [.int .i64 p, .agg [.int .i64 vars, .sl (sls L) L.length], .sl (stc S) S.length] [] (.tup [.bool (aOk p vars L && refB p vars L S), .bool (aOk p vars L)]) [] := by
  have hS1 := hS.1
  have hxl := st_len hS (S.length - 1)
  refine ACall.intro Try.func41 rfl (N := 38) rfl (by decide) (by simp) ?_
  refine a_seq ?_
  refine a_region ?_
  refine r_new (v := .op [.int _ _, .sl _ _]) (q_box (.inl rfl) rfl rfl) rfl rfl (by decide) ?_
  refine r_val (v := .bool _) (v_assign (.inl rfl) (noOwn_flat rfl)) rfl rfl (by decide) ?_
  refine r_val (v := .bool _) (v_assign (.inl rfl) (noOwn_flat rfl)) rfl rfl (by decide) ?_
  refine r_nil ?_
  refine a_seq ?_
  cases ha : aOk p vars L
  ·
    skip
    refine a_region ?_
    refine r_val (v := .int _ _) (v_move (.inl rfl) (noOwn_flat rfl)) rfl rfl (by decide) ?_
    refine r_val (v := .agg [.int _ _, .sl _ _]) (v_load_rpa1 ta31 (.inl rfl) rfl rfl (fun _ => rfl) rfl) rfl rfl (by decide) ?_
    refine r_new (v := .tup [.nilp, .bool _]) (q_call (vs := [.int _ _, .agg [.int _ _, .sl _ _]]) (args := [.int .i64 _, .agg [.int .i64 _, .sl _ _]]) hb55 ⟨.inl rfl, .inl rfl, trivial⟩ rfl (fun hA => algNo_c p vars L hk ha) rfl rfl) rfl rfl (by decide) ?_
    refine r_val (v := .tup [.nilp, .bool _]) (v_mv rfl) rfl rfl (by decide) ?_
    refine r_val (v := .nilp) (v_extract rfl rfl) rfl rfl (by decide) ?_
    refine r_val (v := .bool _) (v_extract rfl rfl) rfl rfl (by decide) ?_
    refine r_val (v := .nilp) (v_assign (.inl rfl) (noOwn_flat rfl)) rfl rfl (by decide) ?_
    refine r_val (v := .bool _) (v_assign (.inl rfl) (noOwn_flat rfl)) rfl rfl (by decide) ?_
    refine r_nil ?_
    refine a_seq ?_
    refine a_seq ?_
    refine a_region ?_
    refine r_val (v := .bool _) (v_move (.inl rfl) (noOwn_flat rfl)) rfl rfl (by decide) ?_
    refine r_val (v := .bool _) (v_not (.inl rfl)) rfl rfl (by decide) ?_
    refine r_nil ?_
    refine a_cond rfl (fun ht17 => ?_) (fun ht17 => ?_)
    ·
      skip
      refine a_seq ?_
      refine a_region ?_
      refine r_val (v := .bool _) (v_assign (.inl rfl) (noOwn_flat rfl)) rfl rfl (by decide) ?_
      refine r_val (v := .bool _) (v_assign (.inl rfl) (noOwn_flat rfl)) rfl rfl (by decide) ?_
      refine r_nil ?_
      refine a_ret ?_
      refine retL (rs := [.tmp 6, .tmp 7]) [(6, _), (7, _)] ⟨Weak.rfl, Weak.rfl, trivial⟩ rfl Try.results41 (by decide) ⟨by decide, by decide, rfl⟩ (by decide) (by decide) (l2_eq (bool_eq ?_) (bool_eq ?_)) rfl
      all_goals rfl
    ·
      skip
      refine a_skip ?_
      refine a_seq ?_
      exfalso
      simp at ht17
  ·
    skip
    refine a_region ?_
    refine r_val (v := .int _ _) (v_move (.inl rfl) (noOwn_flat rfl)) rfl rfl (by decide) ?_
    refine r_val (v := .agg [.int _ _, .sl _ _]) (v_load_rpa1 ta31 (.inl rfl) rfl rfl (fun _ => rfl) rfl) rfl rfl (by decide) ?_
    refine r_new (v := .tup [.pp _ _, .bool _]) (QSem.cast (q_callFZ (vs := [.int _ _, .agg [.int _ _, .sl _ _]]) (args := [.int .i64 _, .agg [.int .i64 _, .sl _ _]]) hb55 ⟨.inl rfl, .inl rfl, trivial⟩ rfl (fun hA => algOk_c p vars L hk ha) rfl (by simp [noRef, noRefL, osls_noRef, sls_noRef])) (alg_shT p vars L)) rfl rfl (by decide) ?_
    refine r_val (v := .tup [.pp _ _, .bool _]) (v_mv rfl) rfl rfl (by decide) ?_
    refine r_val (v := .pp _ _) (v_extract rfl rfl) rfl rfl (by decide) ?_
    refine r_val (v := .bool _) (v_extract rfl rfl) rfl rfl (by decide) ?_
    refine r_val (v := .pp _ _) (v_assign (.inl rfl) (noOwn_flat rfl)) rfl rfl (by decide) ?_
    refine r_val (v := .bool _) (v_assign (.inl rfl) (noOwn_flat rfl)) rfl rfl (by decide) ?_
    refine r_nil ?_
    refine a_seq ?_
    refine a_seq ?_
    refine a_region ?_
    refine r_val (v := .bool _) (v_move (.inl rfl) (noOwn_flat rfl)) rfl rfl (by decide) ?_
    refine r_val (v := .bool _) (v_not (.inl rfl)) rfl rfl (by decide) ?_
    refine r_nil ?_
    refine a_cond rfl (fun ht17 => ?_) (fun ht17 => ?_)
    ·
      skip
      refine a_seq ?_
      refine a_region ?_
      refine r_val (v := .bool _) (v_assign (.inl rfl) (noOwn_flat rfl)) rfl rfl (by decide) ?_
      refine r_val (v := .bool _) (v_assign (.inl rfl) (noOwn_flat rfl)) rfl rfl (by decide) ?_
      refine r_nil ?_
      refine a_ret ?_
      refine retL (rs := [.tmp 6, .tmp 7]) [(6, _), (7, _)] ⟨Weak.rfl, Weak.rfl, trivial⟩ rfl Try.results41 (by decide) ⟨by decide, by decide, rfl⟩ (by decide) (by decide) (l2_eq (bool_eq ?_) (bool_eq ?_)) rfl
      all_goals (simp at ht17)
    ·
      skip
      refine a_skip ?_
      refine a_seq ?_
      obtain ⟨hp, hc⟩ := aOk_spec ha
      have hpp := prime_spec hp
      have hd := dn_le hpp.2
      refine a_region_any mixed (by kernel_rfl) ?_
      refine y_val (v := .sl _ _) (v_move (.inl rfl) (noOwn_flat rfl)) rfl rfl (by decide) (by kernel_rfl) ?_
      refine y_val (v := .int _ _) (v_len_sl sl55 (.inl rfl)) rfl rfl (by decide) (by kernel_rfl) ?_
      refine y_val (v := .bool _) (v_gtr (.inl rfl) (.inl rfl)) rfl rfl (by decide) (by kernel_rfl) ?_
      refine y_val (v := .bool _) (v_move (.inl rfl) (noOwn_flat rfl)) rfl rfl (by decide) (by kernel_rfl) ?_
      refine y_guard (v := .pp _ _) (v_move (.inl rfl) (noOwn_flat rfl)).quiet rfl rfl rfl (by decide) (.inl ⟨_, rfl, rfl⟩) rfl (by decide) (by kernel_rfl) ?_
      refine y_guard (v := .sl _ _) (v_move (.inl rfl) (noOwn_flat rfl)).quiet rfl rfl rfl (by decide) (.inl ⟨_, rfl, rfl⟩) rfl (by decide) (by kernel_rfl) ?_
      refine y_guard (v := .bool _) (q_call (vs := [.pp _ _, .sl _ _]) (args := [.pp _ _, .sl _ _]) hb86 ⟨.inr ⟨_, rfl, fun h => h⟩, .inr ⟨_, rfl, fun h => h⟩, trivial⟩ rfl (fun hA => iDer_c p vars L S ha hS) rfl rfl) rfl rfl rfl (by decide) (.inl ⟨_, rfl, rfl⟩) rfl (by decide) (by kernel_rfl) ?_
      refine y_val (v := .bool _) (v_pick (.inl rfl) (.inr ⟨_, rfl, fun h h2 => by simp_all⟩) (.inl rfl)) rfl rfl (by decide) (by kernel_rfl) ?_
      refine y_val (v := .bool _) (v_move (.inl rfl) (noOwn_flat rfl)) rfl rfl (by decide) (by kernel_rfl) ?_
      refine y_guard (v := .pp _ _) (v_move (.inl rfl) (noOwn_flat rfl)).quiet rfl rfl rfl (by decide) (.inl ⟨_, rfl, rfl⟩) rfl (by decide) (by kernel_rfl) ?_
      refine y_guard (v := .pp _ _) (v_move (.inl rfl) (noOwn_flat rfl)).quiet rfl rfl rfl (by decide) (.inl ⟨_, rfl, rfl⟩) rfl (by decide) (by kernel_rfl) ?_
      refine y_guard (v := .pp _ _) (v_nilCheck (.inr ⟨_, rfl, fun h => h⟩) rfl).quiet rfl rfl rfl (by decide) (.inl ⟨_, rfl, rfl⟩) rfl (by decide) (by kernel_rfl) ?_
      refine y_guard (v := .pp _ _) (v_fieldAddr_pp fo88_0 (.inr ⟨_, rfl, fun h => h⟩)).quiet rfl rfl rfl (by decide) (.inl ⟨_, rfl, rfl⟩) rfl (by decide) (by kernel_rfl) ?_
      refine y_guard (v := .agg [.int _ _, .int _ _]) (VSem.quiet (v_load_ppa1 ta85 (.inr ⟨_, rfl, fun h => h⟩) rfl (fun _ => rfl) rfl)) rfl rfl rfl (by decide) (.inl ⟨_, rfl, rfl⟩) rfl (by decide) (by kernel_rfl) ?_
      refine y_guard (v := .sl _ _) (v_move (.inl rfl) (noOwn_flat rfl)).quiet rfl rfl rfl (by decide) (.inl ⟨_, rfl, rfl⟩) rfl (by decide) (by kernel_rfl) ?_
      refine y_guard (v := .agg [.int _ _, .sl _ _, .int _ _, .int _ _, .int _ _, .int _ _]) (q_callF (vs := [.sl _ _]) (args := [.sl _ _]) hb88 ⟨.inr ⟨_, rfl, fun h => h⟩, trivial⟩ rfl (fun hA => lastP_c S (by simp at hA; omega) hS1) rfl rfl) rfl rfl rfl (by decide) (.inl ⟨_, rfl, rfl⟩) rfl (by decide) (by kernel_rfl) ?_
      refine y_guard (v := .sl _ _) (VSem.quiet (v_fieldG (cs := [.int _ _, .sl _ _, .int _ _, .int _ _, .int _ _, .int _ _]) fp119_1 (.inr ⟨_, rfl, fun h => h⟩) rfl rfl)) rfl rfl rfl (by decide) (.inl ⟨_, rfl, rfl⟩) rfl (by decide) (by kernel_rfl) ?_
      refine y_guard (v := .sl _ _) (QSem.cast (q_callZ (vs := [.agg [.int _ _, .int _ _], .sl _ _]) (args := [.agg [.int .i64 _, .int .i64 _], .sl _ _]) hb59 ⟨.inr ⟨_, rfl, fun h => h⟩, .inr ⟨_, rfl, fun h => h⟩, trivial⟩ rfl (fun hA => dense_c p vars (gs S (S.length - 1)).2.1 hp hxl (good_range (der_good (p := p) (vars := vars) (L := L) (S := S) (by simp [derB] at hA; omega) (by simp at hA; omega)))) (ic_noSh _) (ic_noRef _)) (sl_shZ (ic_pure _))) rfl rfl rfl (by decide) (.inl ⟨_, rfl, rfl⟩) rfl (by decide) (by kernel_rfl) ?_
      refine y_guard (v := .bool _) (q_call (vs := [.pp _ _, .sl _ _]) (args := [.pp _ _, .sl _ _]) hb66 ⟨.inr ⟨_, rfl, fun h => h⟩, .inr ⟨_, rfl, fun h => h⟩, trivial⟩ rfl (fun hA => isOne_c p vars L (accp p (dn vars) (gs S (S.length - 1)).2.1) (dn vars) hp ⟨accp_length _ _ _, by omega⟩) rfl rfl) rfl rfl rfl (by decide) (.inl ⟨_, rfl, rfl⟩) rfl (by decide) (by kernel_rfl) ?_
      refine y_val (v := .bool _) (v_pick (.inl rfl) (.inr ⟨_, rfl, fun h h2 => by simp_all⟩) (.inl rfl)) rfl rfl (by decide) (by kernel_rfl) ?_
      refine y_val (v := .bool _) (v_assign (.inl rfl) (noOwn_flat rfl)) rfl rfl (by decide) (by kernel_rfl) ?_
      refine y_val (v := .bool _) (v_assign (.inl rfl) (noOwn_flat rfl)) rfl rfl (by decide) (by kernel_rfl) ?_
      refine y_nil ?_
      refine a_ret ?_
      refine retL (rs := [.tmp 6, .tmp 7]) [(6, _), (7, _)] ⟨Weak.rfl, Weak.rfl, trivial⟩ rfl Try.results41 (by decide) ⟨by decide, by decide, rfl⟩ (by decide) (by decide) (l2_eq (bool_eq ?_) (bool_eq ?_)) rfl
      all_goals (first | rfl | (simp only [Bool.cond_false_right, Bool.true_and]; exact ref_eq hp))
end Go.Av
