/- Lemmas, part 1. -/
import Derived.WalkKit
import Derived.KernelRfl
import Derived.OrdersIn
import Derived.TacticsIn
set_option linter.unusedVariables false
set_option linter.unusedSimpArgs false
set_option maxRecDepth 10000
namespace Go.Av
open Go
abbrev Place := Nat × List Nat
inductive AV where
  | undef
  | int (k : IntKind) (n : Int)
  | bool (b : Bool)
  | str (s : ByteArray)
  | that (f : FuncId) (us : List Value)
  | nilp
  | nils
  | emp
  | agg (cs : List AV)
  | tup (cs : List AV)
  | fn (f : FuncId) (first caps : List AV)
  | sl (cs : List AV) (n : Nat)
  | pp (cs : List AV) (off : Nat)
  | osl (sz : Nat) (cs : List AV) (n : Nat) (cap : Option Nat)
  | op (cs : List AV)
  | rsl (p : Place) (sz off n : Nat) (cap : Option Nat)
  | rp (p : Place) (off : Nat)
  | when (b : Bool) (v : AV)
  deriving Inhabited
abbrev Sig := Nat → AV
def kids : AV → List AV
  | .agg cs => cs
  | .tup cs => cs
  | .osl _ cs _ _ => cs
  | .op cs => cs
  | _ => []
def node : AV → List Nat → Option AV
  | x, [] => some x
  | x, j :: r => match (kids x)[j]? with
    | some y => node y r
    | none => none
def AV.isOwn : AV → Bool
  | .osl .. => true
  | .op .. => true
  | _ => false
def OwnAt (σ : Sig) (q : Place) : Prop := ∃ x, node (σ q.1) q.2 = some x ∧ x.isOwn = true
def scalar : AV → Bool
  | .int .. => true
  | .bool .. => true
  | .str .. => true
  | .that .. => true
  | .nilp => true
  | .nils => true
  | .emp => true
  | .sl .. => true
  | .pp .. => true
  | .rsl .. => true
  | .rp .. => true
  | .undef => true
  | _ => false
mutual
def refs : AV → List Place
  | .rsl q _ _ _ _ => [q]
  | .rp q _ => [q]
  | .agg cs => refsL cs
  | .tup cs => refsL cs
  | .fn _ us cs => refsL us ++ refsL cs
  | .when _ x => refs x
  | _ => []
def refsL : List AV → List Place
  | [] => []
  | c :: cs => refs c ++ refsL cs
end
mutual
def noRef : AV → Bool
  | .rsl .. => false
  | .rp .. => false
  | .agg cs => noRefL cs
  | .tup cs => noRefL cs
  | .fn _ us cs => noRefL us && noRefL cs
  | .when _ x => noRef x
  | .osl _ cs _ _ => noRefL cs
  | .op cs => noRefL cs
  | _ => true
def noRefL : List AV → Bool
  | [] => true
  | c :: cs => noRef c && noRefL cs
end
def scalarL (cs : List AV) : Bool := cs.all scalar
mutual
def pureV : AV → Bool
  | .rsl .. => false
  | .rp .. => false
  | .tup _ => false
  | .osl .. => false
  | .op _ => false
  | .when .. => false
  | .agg cs => pureL cs
  | .fn _ us cs => pureL us && pureL cs
  | _ => true
def pureL : List AV → Bool
  | [] => true
  | c :: cs => pureV c && pureL cs
end
def flat (x : AV) : Bool := scalar x || pureV x || (match x with | .fn .. => true | _ => false)
mutual
def Rep (β : Place → Option (Nat × Nat)) (F : Nat → Prop) (w : World) : AV → Place → Value → Prop
  | .undef, _, _ => True
  | .int k n, _, v => v = .int k n
  | .bool b, _, v => v = .bool b
  | .str s, _, v => v = .string s
  | .that f us, _, v => v = .func (.func f) #[] us.toArray
  | .nilp, _, v => v = .pointer none
  | .nils, _, v => v = .slice none 0 0
  | .emp, _, v => ∃ a, v = .slice a 0 0
  | .agg cs, p, v => ∃ vs : List Value, v = .agg vs.toArray ∧ vs.length = cs.length ∧ RepL β F w cs p 0 vs
  | .tup cs, p, v => ∃ vs : List Value, v = .tuple vs.toArray ∧ vs.length = cs.length ∧ RepL β F w cs p 0 vs
  | .fn f first caps, p, v => ∃ us vs : List Value, v = .func (.func f) us.toArray vs.toArray ∧ us.length = first.length ∧ vs.length = caps.length ∧
      scalarL first = true ∧ scalarL caps = true ∧ RepL β F w first p 0 us ∧ RepL β F w caps p 0 vs
  | .sl cs n, p, v => pureL cs = true ∧ ∃ a cap, v = .slice a n cap ∧ n ≤ cap ∧
      (cs ≠ [] → ∃ b off arr t fz, a = some ⟨b, off, none⟩ ∧ F b ∧ w.heap[b]? = some (.cells arr t fz) ∧ RepL (fun _ => none) F w cs p 0 (arr.toList.drop off))
  | .pp cs off, p, v => pureL cs = true ∧ ∃ b o arr t fz, v = .pointer (some ⟨b, o + off, none⟩) ∧ F b ∧ w.heap[b]? = some (.cells arr t fz) ∧
      RepL (fun _ => none) F w cs p 0 (arr.toList.drop o)
  | .osl sz cs n cap, p, v =>
      (β p = none ∧ (∃ a, v = .slice a 0 0) ∧ cs = [] ∧ n = 0 ∧ ∀ c, cap = some c → c = 0) ∨
      (noRefL cs = true ∧ ∃ b capv arr t, β p = some (b, capv * sz) ∧ v = .slice (some ⟨b, 0, none⟩) n capv ∧ n ≤ capv ∧ (∀ c, cap = some c → capv = c) ∧
        w.heap[b]? = some (.cells arr t (0, 0)) ∧ arr.size = capv * sz ∧ RepL β F w cs p 0 arr.toList)
  | .op cs, p, v => noRefL cs = true ∧ ∃ b arr t, β p = some (b, arr.size) ∧ v = .pointer (some ⟨b, 0, none⟩) ∧ w.heap[b]? = some (.cells arr t (0, 0)) ∧ RepL β F w cs p 0 arr.toList
  | .rsl q sz off n cap, _, v =>
      (β q = none ∧ (∃ a, v = .slice a 0 0) ∧ n = 0 ∧ ∀ c, cap = some c → c = 0) ∨
      (∃ b capv, β q = some (b, off + capv * sz) ∧ v = .slice (some ⟨b, off, none⟩) n capv ∧ n ≤ capv ∧ ∀ c, cap = some c → capv = c)
  | .rp q off, _, v => ∃ b s, β q = some (b, s) ∧ v = .pointer (some ⟨b, off, none⟩)
  | .when g x, p, v => (g = true → flat x = true ∧ Rep β F w x p v) ∧ (g = false → v = .tuple #[])
def RepL (β : Place → Option (Nat × Nat)) (F : Nat → Prop) (w : World) : List AV → Place → Nat → List Value → Prop
  | [], _, _, _ => True
  | _ :: _, _, _, [] => False
  | c :: cs, p, j, v :: vs => Rep β F w c (p.1, p.2 ++ [j]) v ∧ RepL β F w cs p (j + 1) vs
end
theorem refsL_mem {cs : List AV} {q : Place} : q ∈ refsL cs ↔ ∃ c ∈ cs, q ∈ refs c := by
  induction cs with
  | nil => simp [refsL]
  | cons c cs ih => simp [refsL, ih]
mutual
theorem refs_of_noRef : ∀ (x : AV), noRef x = true → refs x = []
  | .undef, _ | .int .., _ | .bool _, _ | .str _, _ | .that .., _ | .nilp, _ | .nils, _ | .emp, _ | .sl .., _ | .pp .., _ | .osl .., _ | .op _, _ => rfl
  | .rsl .., h | .rp .., h => by simp [noRef] at h
  | .agg cs, h => by simp only [noRef] at h; simp only [refs]; exact refsL_of_noRef cs h
  | .tup cs, h => by simp only [noRef] at h; simp only [refs]; exact refsL_of_noRef cs h
  | .fn _ us cs, h => by
    simp only [noRef, Bool.and_eq_true] at h
    simp only [refs, refsL_of_noRef us h.1, refsL_of_noRef cs h.2, List.append_nil]
  | .when _ x, h => by simp only [noRef] at h; simp only [refs]; exact refs_of_noRef x h
theorem refsL_of_noRef : ∀ (cs : List AV), noRefL cs = true → refsL cs = []
  | [], _ => rfl
  | c :: cs, h => by
    simp only [noRefL, Bool.and_eq_true] at h
    simp only [refsL, refs_of_noRef c h.1, refsL_of_noRef cs h.2, List.append_nil]
end
theorem noRefL_mem {cs : List AV} (h : noRefL cs = true) {c : AV} (hc : c ∈ cs) : noRef c = true := by
  induction cs with
  | nil => cases hc
  | cons d cs ih =>
    simp only [noRefL, Bool.and_eq_true] at h
    rcases List.mem_cons.1 hc with rfl | hc
    · exact h.1
    · exact ih h.2 hc
theorem scalarL_mem {cs : List AV} (h : scalarL cs = true) {c : AV} (hc : c ∈ cs) : scalar c = true := by
  simp only [scalarL, List.all_eq_true] at h
  exact h c hc
theorem pureL_mem {cs : List AV} (h : pureL cs = true) {c : AV} (hc : c ∈ cs) : pureV c = true := by
  induction cs with
  | nil => cases hc
  | cons d cs ih =>
    simp only [pureL, Bool.and_eq_true] at h
    rcases List.mem_cons.1 hc with rfl | hc
    · exact h.1
    · exact ih h.2 hc
theorem pureL_iff {cs : List AV} : pureL cs = true ↔ ∀ c ∈ cs, pureV c = true := by
  constructor
  · intro h c hc; exact pureL_mem h hc
  · intro h
    induction cs with
    | nil => rfl
    | cons d cs ih => simp only [pureL, Bool.and_eq_true]; exact ⟨h d (by simp), ih fun c hc => h c (by simp [hc])⟩
mutual
theorem noRef_pure : ∀ (x : AV), pureV x = true → noRef x = true
  | .undef, _ | .int .., _ | .bool _, _ | .str _, _ | .that .., _ | .nilp, _ | .nils, _ | .emp, _ | .sl .., _ | .pp .., _ => rfl
  | .rsl .., h | .rp .., h | .tup _, h | .osl .., h | .op _, h | .when .., h => by simp [pureV] at h
  | .agg cs, h => by simp only [pureV] at h; simp only [noRef]; exact noRefL_pure cs h
  | .fn _ us cs, h => by
    simp only [pureV, Bool.and_eq_true] at h
    simp only [noRef, noRefL_pure us h.1, noRefL_pure cs h.2, Bool.and_true]
theorem noRefL_pure : ∀ (cs : List AV), pureL cs = true → noRefL cs = true
  | [], _ => rfl
  | c :: cs, h => by
    simp only [pureL, Bool.and_eq_true] at h
    simp only [noRefL, noRef_pure c h.1, noRefL_pure cs h.2, Bool.and_true]
end
theorem node_scalar {x : AV} (h : scalar x = true) {r : List Nat} {y : AV} (hy : node x r = some y) : y = x := by
  cases r with
  | nil => simpa [node] using hy.symm
  | cons j r => cases x <;> simp [scalar, node, kids] at h hy
theorem own_scalar {x : AV} (h : scalar x = true) : x.isOwn = false := by cases x <;> simp [scalar, AV.isOwn] at *
theorem pure_own : ∀ {r : List Nat} {x y : AV}, pureV x = true → node x r = some y → y.isOwn = false := by
  intro r
  induction r with
  | nil => intro x y hx hy; simp [node] at hy; subst hy; cases x <;> simp [pureV, AV.isOwn] at *
  | cons j r ih =>
    intro x y hx hy
    simp only [node] at hy
    cases hc : (kids x)[j]? with
    | none => rw [hc] at hy; cases hy
    | some c =>
      rw [hc] at hy
      refine ih ?_ hy
      cases x <;> simp only [kids, List.getElem?_nil, reduceCtorEq] at hc
      · simp only [pureV] at hx; exact pureL_mem hx (List.mem_of_getElem? hc)
      all_goals simp [pureV] at hx
theorem flat_own {x : AV} (h : flat x = true) {r : List Nat} {y : AV} (hy : node x r = some y) : y.isOwn = false := by
  simp only [flat, Bool.or_eq_true] at h
  rcases h with (h | h) | h
  · rw [node_scalar h hy]; exact own_scalar h
  · exact pure_own h hy
  · cases x <;> simp at h
    cases r with
    | nil => simp [node] at hy; subst hy; rfl
    | cons j r => simp [node, kids] at hy
section
variable {β β' : Place → Option (Nat × Nat)} {F F' : Nat → Prop} {w w' : World}
mutual
theorem Rep.tr : ∀ (x : AV) {β β' : Place → Option (Nat × Nat)} {p p' : Place} {v : Value}, Rep β F w x p v → (∀ b, F b → F' b ∧ w'.heap[b]? = w.heap[b]?) →
    (∀ r y, node x r = some y → y.isOwn = true → β' (p'.1, p'.2 ++ r) = β (p.1, p.2 ++ r) ∧ ∀ b s, β (p.1, p.2 ++ r) = some (b, s) → w'.heap[b]? = w.heap[b]?) →
    (∀ q ∈ refs x, β' q = β q) → Rep β' F' w' x p' v
  | .undef, _, _, _, _, _, _, _, _, _ => by simp [Rep]
  | .int .., _, _, _, _, _, h, _, _, _ => by simpa [Rep] using h
  | .bool _, _, _, _, _, _, h, _, _, _ => by simpa [Rep] using h
  | .str _, _, _, _, _, _, h, _, _, _ => by simpa [Rep] using h
  | .that .., _, _, _, _, _, h, _, _, _ => by simpa [Rep] using h
  | .nilp, _, _, _, _, _, h, _, _, _ => by simpa [Rep] using h
  | .nils, _, _, _, _, _, h, _, _, _ => by simpa [Rep] using h
  | .emp, _, _, _, _, _, h, _, _, _ => by simpa [Rep] using h
  | .agg cs, β, β', p, p', v, h, hF, hO, hR => by
    simp only [Rep] at h ⊢
    obtain ⟨vs, rfl, hl, h⟩ := h
    refine ⟨vs, rfl, hl, RepL.tr cs h hF (fun i c r y hc hy ho => ?_) (fun c hc q hq => hR q (by simp only [refs]; exact refsL_mem.2 ⟨c, hc, hq⟩))⟩
    simpa using hO (i :: r) y (by simp [node, kids, hc, hy]) ho
  | .tup cs, β, β', p, p', v, h, hF, hO, hR => by
    simp only [Rep] at h ⊢
    obtain ⟨vs, rfl, hl, h⟩ := h
    refine ⟨vs, rfl, hl, RepL.tr cs h hF (fun i c r y hc hy ho => ?_) (fun c hc q hq => hR q (by simp only [refs]; exact refsL_mem.2 ⟨c, hc, hq⟩))⟩
    simpa using hO (i :: r) y (by simp [node, kids, hc, hy]) ho
  | .fn f us cs, β, β', p, p', v, h, hF, hO, hR => by
    simp only [Rep] at h ⊢
    obtain ⟨vs, ws, rfl, hl, hl', hs, hs', h, h'⟩ := h
    refine ⟨vs, ws, rfl, hl, hl', hs, hs', RepL.tr us h hF (fun i c r y hc hy ho => ?_) (fun c hc q hq => hR q ?_), RepL.tr cs h' hF (fun i c r y hc hy ho => ?_) (fun c hc q hq => hR q ?_)⟩
    · have := scalarL_mem hs (List.mem_of_getElem? hc)
      rw [node_scalar this hy, own_scalar this] at ho
      cases ho
    · simp only [refs]; exact List.mem_append_left _ (refsL_mem.2 ⟨c, hc, hq⟩)
    · have := scalarL_mem hs' (List.mem_of_getElem? hc)
      rw [node_scalar this hy, own_scalar this] at ho
      cases ho
    · simp only [refs]; exact List.mem_append_right _ (refsL_mem.2 ⟨c, hc, hq⟩)
  | .sl cs n, β, β', p, p', v, h, hF, hO, hR => by
    simp only [Rep] at h ⊢
    obtain ⟨hpu, a, cap, rfl, hn, h⟩ := h
    refine ⟨hpu, a, cap, rfl, hn, fun hc => ?_⟩
    obtain ⟨b, off, arr, t, fz, rfl, hb, hh, h⟩ := h hc
    exact ⟨b, off, arr, t, fz, rfl, (hF b hb).1, (hF b hb).2.trans hh, RepL.tr cs h hF (fun _ _ _ _ _ _ _ => ⟨rfl, fun b s hb => by cases hb⟩) (fun _ _ _ _ => rfl)⟩
  | .pp cs off, β, β', p, p', v, h, hF, hO, hR => by
    simp only [Rep] at h ⊢
    obtain ⟨hpu, b, o, arr, t, fz, rfl, hb, hh, h⟩ := h
    exact ⟨hpu, b, o, arr, t, fz, rfl, (hF b hb).1, (hF b hb).2.trans hh, RepL.tr cs h hF (fun _ _ _ _ _ _ _ => ⟨rfl, fun b s hb => by cases hb⟩) (fun _ _ _ _ => rfl)⟩
  | .osl sz cs n cap, β, β', p, p', v, h, hF, hO, hR => by
    have h0 := hO [] _ rfl rfl
    simp only [List.append_nil] at h0
    simp only [Rep] at h ⊢
    rcases h with ⟨hp, h⟩ | ⟨hnr, b, capv, arr, t, hp, rfl, hn, hc, hh, hs, h⟩
    · exact .inl ⟨h0.1.trans hp, h⟩
    · refine .inr ⟨hnr, b, capv, arr, t, h0.1.trans hp, rfl, hn, hc, (h0.2 b _ hp).trans hh, hs, RepL.tr cs h hF (fun i c r y hc hy ho => ?_) (fun c hc q hq => ?_)⟩
      · simpa using hO (i :: r) y (by simp [node, kids, hc, hy]) ho
      · rw [refs_of_noRef c (noRefL_mem hnr hc)] at hq; cases hq
  | .op cs, β, β', p, p', v, h, hF, hO, hR => by
    have h0 := hO [] _ rfl rfl
    simp only [List.append_nil] at h0
    simp only [Rep] at h ⊢
    obtain ⟨hnr, b, arr, t, hp, rfl, hh, h⟩ := h
    refine ⟨hnr, b, arr, t, h0.1.trans hp, rfl, (h0.2 b _ hp).trans hh, RepL.tr cs h hF (fun i c r y hc hy ho => ?_) (fun c hc q hq => ?_)⟩
    · simpa using hO (i :: r) y (by simp [node, kids, hc, hy]) ho
    · rw [refs_of_noRef c (noRefL_mem hnr hc)] at hq; cases hq
  | .rsl q sz off n cap, β, β', p, p', v, h, hF, hO, hR => by
    have := hR q (by simp [refs])
    simp only [Rep] at h ⊢
    rw [this]; exact h
  | .rp q off, β, β', p, p', v, h, hF, hO, hR => by
    have := hR q (by simp [refs])
    simp only [Rep] at h ⊢
    rw [this]; exact h
  | .when g x, β, β', p, p', v, h, hF, hO, hR => by
    simp only [Rep] at h ⊢
    obtain ⟨h, hun⟩ := h
    refine ⟨fun hg => ?_, hun⟩
    obtain ⟨hs, h⟩ := h hg
    refine ⟨hs, Rep.tr x h hF (fun r y hy ho => ?_) (fun q hq => hR q (by simpa [refs] using hq))⟩
    rw [flat_own hs hy] at ho
    cases ho
theorem RepL.tr : ∀ (cs : List AV) {β β' : Place → Option (Nat × Nat)} {p p' : Place} {j : Nat} {vs : List Value}, RepL β F w cs p j vs → (∀ b, F b → F' b ∧ w'.heap[b]? = w.heap[b]?) →
    (∀ i c r y, cs[i]? = some c → node c r = some y → y.isOwn = true →
      β' (p'.1, p'.2 ++ (j + i) :: r) = β (p.1, p.2 ++ (j + i) :: r) ∧ ∀ b s, β (p.1, p.2 ++ (j + i) :: r) = some (b, s) → w'.heap[b]? = w.heap[b]?) →
    (∀ c ∈ cs, ∀ q ∈ refs c, β' q = β q) → RepL β' F' w' cs p' j vs
  | [], _, _, _, _, _, _, _, _, _, _ => by simp [RepL]
  | c :: cs, β, β', p, p', j, [], h, _, _, _ => by simp [RepL] at h
  | c :: cs, β, β', p, p', j, v :: vs, h, hF, hO, hR => by
    simp only [RepL] at h ⊢
    refine ⟨Rep.tr c h.1 hF (fun r y hy ho => ?_) (fun q hq => hR c (by simp) q hq), RepL.tr cs h.2 hF (fun i d r y hd hy ho => ?_) (fun d hd => hR d (by simp [hd]))⟩
    · simpa using hO 0 c r y (by simp) hy ho
    · have := hO (i + 1) d r y (by simpa using hd) hy ho
      rw [show j + (i + 1) = j + 1 + i by omega] at this
      exact this
end
end
end Go.Av
namespace Go.Av
open Go
section
variable {β β' : Place → Option (Nat × Nat)} {F F' : Nat → Prop} {w w' : World}
theorem RepL_iff : ∀ {cs : List AV} {p : Place} {j : Nat} {vs : List Value}, RepL β F w cs p j vs ↔
    ∀ i c, cs[i]? = some c → ∃ u, vs[i]? = some u ∧ Rep β F w c (p.1, p.2 ++ [j + i]) u
  | [], _, _, _ => by simp [RepL]
  | c :: cs, p, j, [] => by
    simp only [RepL, false_iff]
    intro h
    obtain ⟨u, hu, _⟩ := h 0 c rfl
    simp at hu
  | c :: cs, p, j, v :: vs => by
    simp only [RepL]
    rw [RepL_iff]
    constructor
    · rintro ⟨h0, h⟩ i d hd
      cases i with
      | zero => simp at hd; subst hd; exact ⟨v, rfl, h0⟩
      | succ i =>
        obtain ⟨u, hu, hr⟩ := h i d (by simpa using hd)
        exact ⟨u, by simpa using hu, by rw [show j + (i + 1) = j + 1 + i by omega]; exact hr⟩
    · intro h
      refine ⟨?_, fun i d hd => ?_⟩
      · obtain ⟨u, hu, hr⟩ := h 0 c rfl
        simp at hu; subst hu; exact hr
      · obtain ⟨u, hu, hr⟩ := h (i + 1) d (by simpa using hd)
        exact ⟨u, by simpa using hu, by rw [show j + 1 + i = j + (i + 1) by omega]; exact hr⟩
theorem RepL.len {cs : List AV} {p : Place} {j : Nat} {vs : List Value} (h : RepL β F w cs p j vs) : cs.length ≤ vs.length := by
  rw [RepL_iff] at h
  rcases Nat.lt_or_ge vs.length cs.length with hl | hl
  · obtain ⟨u, hu, _⟩ := h vs.length cs[vs.length] (List.getElem?_eq_getElem hl)
    simp at hu
  · exact hl
theorem Rep.sub {x y : AV} {p : Place} {v : Value} : ∀ {r : List Nat}, Rep β F w x p v → node x r = some y → ∃ u, Rep β F w y (p.1, p.2 ++ r) u := by
  intro r
  induction r generalizing x p v with
  | nil => intro h hy; simp [node] at hy; subst hy; exact ⟨v, by simpa using h⟩
  | cons j r ih =>
    intro h hy
    simp only [node] at hy
    cases hc : (kids x)[j]? with
    | none => rw [hc] at hy; cases hy
    | some c =>
      rw [hc] at hy
      have key : ∃ u, Rep β F w c (p.1, p.2 ++ [j]) u := by
        cases x <;> simp only [kids, List.getElem?_nil, reduceCtorEq] at hc <;> simp only [Rep] at h
        · obtain ⟨vs, _, _, h⟩ := h
          obtain ⟨u, _, hr⟩ := RepL_iff.1 h j c hc
          exact ⟨u, by simpa using hr⟩
        · obtain ⟨vs, _, _, h⟩ := h
          obtain ⟨u, _, hr⟩ := RepL_iff.1 h j c hc
          exact ⟨u, by simpa using hr⟩
        · rcases h with ⟨_, _, h, _⟩ | ⟨_, b, capv, arr, t, _, _, _, _, _, _, h⟩
          · subst h; simp at hc
          · obtain ⟨u, _, hr⟩ := RepL_iff.1 h j c hc
            exact ⟨u, by simpa using hr⟩
        · obtain ⟨_, b, arr, t, _, _, _, h⟩ := h
          obtain ⟨u, _, hr⟩ := RepL_iff.1 h j c hc
          exact ⟨u, by simpa using hr⟩
      obtain ⟨u, hu⟩ := key
      obtain ⟨u', hu'⟩ := ih hu hy
      exact ⟨u', by simpa using hu'⟩
theorem Rep.own_lt {x : AV} {p : Place} {v : Value} {b s : Nat} (h : Rep β F w x p v) (ho : x.isOwn = true) (hb : β p = some (b, s)) : b < w.heap.size := by
  have : ∃ o, w.heap[b]? = some o := by
    cases x <;> simp [AV.isOwn] at ho <;> simp only [Rep] at h
    · rcases h with ⟨h0, _⟩ | ⟨_, b', _, _, _, h0, _, _, _, hh, _⟩
      · rw [h0] at hb; cases hb
      · rw [h0] at hb; cases hb; exact ⟨_, hh⟩
    · obtain ⟨_, b', _, _, h0, _, hh, _⟩ := h
      rw [h0] at hb; cases hb; exact ⟨_, hh⟩
  obtain ⟨o, ho'⟩ := this
  rcases Nat.lt_or_ge b w.heap.size with hl | hl
  · exact hl
  · rw [Array.getElem?_eq_none hl] at ho'; cases ho'
end
def upd {α : Type} (f : Nat → α) (d : Nat) (x : α) : Nat → α := fun i => if i = d then x else f i
theorem upd_same {α : Type} (f : Nat → α) (d : Nat) (x : α) : upd f d x d = x := by simp [upd]
theorem upd_other {α : Type} (f : Nat → α) {d i : Nat} (x : α) (h : i ≠ d) : upd f d x i = f i := by simp [upd, h]
def purgeV (d : Nat) : AV → AV
  | .rsl q sz off n cap => if q.1 == d then .undef else .rsl q sz off n cap
  | .rp q off => if q.1 == d then .undef else .rp q off
  | .agg cs => if (refsL cs).any (fun q => q.1 == d) then .undef else .agg cs
  | .tup cs => if (refsL cs).any (fun q => q.1 == d) then .undef else .tup cs
  | .fn f us cs => if (refsL us ++ refsL cs).any (fun q => q.1 == d) then .undef else .fn f us cs
  | .when b x => if (refs x).any (fun q => q.1 == d) then .undef else .when b x
  | x => x
theorem purgeV_eq (d : Nat) (x : AV) : purgeV d x = if (refs x).any (fun q => q.1 == d) then .undef else x := by
  cases x <;> first | rfl | simp [purgeV, refs]
structure Ctx where
  w0 : World
  inh : Nat → Prop
  F0 : Nat → Prop
  ds : List Deferred
def Tame (w0 : World) (_ : Nat → Prop) (w : World) : Prop := w.os = w0.os ∧ w.output = w0.output ∧ w.tape = w0.tape ∧ w0.drawn ≤ w.drawn
theorem Tame.refl' (w : World) {inh : Nat → Prop} (_ : ∀ b arr t fz, inh b → w.heap[b]? = some (.cells arr t fz) → fz = (0, 0)) : Tame w inh w := ⟨rfl, rfl, rfl, Nat.le_refl _⟩
theorem Tame.refl (w : World) : Tame w (fun _ => False) w := Tame.refl' w (fun _ _ _ _ h => h.elim)
theorem Tame.trans' {w0 w w' : World} {inh inh' : Nat → Prop} (h : Tame w0 inh w) (h' : Tame w inh' w') (_ : ∀ b, b < w.heap.size → ¬ inh' b → w'.heap[b]? = w.heap[b]?) : Tame w0 inh w' :=
  ⟨h'.1.trans h.1, h'.2.1.trans h.2.1, h'.2.2.1.trans h.2.2.1, Nat.le_trans h.2.2.2 h'.2.2.2⟩
theorem Tame.trans {w0 w w' : World} {inh inh' : Nat → Prop} (h : Tame w0 inh w) (h' : Tame w inh' w') (hk : ∀ b, b < w.heap.size → w'.heap[b]? = w.heap[b]?) : Tame w0 inh w' := h.trans' h' (fun b hb _ => hk b hb)
structure Inv (e : Ctx) (σ : Sig) (val : Nat → Value) (w : World) (β : Place → Option (Nat × Nat)) (F : Nat → Prop) : Prop where
  rep : ∀ i, Rep β F w (σ i) (i, []) (val i)
  disj : ∀ q q' b s s', OwnAt σ q → OwnAt σ q' → β q = some (b, s) → β q' = some (b, s') → q = q'
  sep : ∀ q b s, OwnAt σ q → β q = some (b, s) → ¬ F b ∧ (e.w0.heap.size ≤ b ∨ e.inh b)
  fr : ∀ b, F b → b < w.heap.size ∧ (b < e.w0.heap.size → e.F0 b)
  kept : ∀ b, b < e.w0.heap.size → ¬ e.inh b → w.heap[b]? = e.w0.heap[b]?
  grow : e.w0.heap.size ≤ w.heap.size
  tame : Tame e.w0 e.inh w
section
variable {e : Ctx} {σ σ' : Sig} {val val' : Nat → Value} {w w' : World} {β β' : Place → Option (Nat × Nat)} {F F' : Nat → Prop}
theorem Inv.own_lt (h : Inv e σ val w β F) {q : Place} {b s : Nat} (ho : OwnAt σ q) (hb : β q = some (b, s)) : b < w.heap.size := by
  obtain ⟨x, hx, ho⟩ := ho
  obtain ⟨u, hu⟩ := (h.rep q.1).sub hx
  exact hu.own_lt ho (by simpa using hb)
theorem Inv.ext (h : Inv e σ val w β F) (hF : ∀ b, F b → w'.heap[b]? = w.heap[b]?) (hO : ∀ q b s, OwnAt σ q → β q = some (b, s) → w'.heap[b]? = w.heap[b]?)
    (hk : ∀ b, b < e.w0.heap.size → ¬ e.inh b → w'.heap[b]? = w.heap[b]?) (hs : w.heap.size ≤ w'.heap.size) (ht : Tame e.w0 e.inh w') : Inv e σ val w' β F where
  rep i := (h.rep i).tr _ (fun b hb => ⟨hb, hF b hb⟩) (fun r y hy ho => ⟨rfl, fun b s hb => hO (i, r) b s ⟨y, hy, ho⟩ (by simpa using hb)⟩) (fun _ _ => rfl)
  disj := h.disj
  sep := h.sep
  fr b hb := ⟨Nat.lt_of_lt_of_le (h.fr b hb).1 hs, (h.fr b hb).2⟩
  kept b hb hi := (hk b hb hi).trans (h.kept b hb hi)
  grow := Nat.le_trans h.grow hs
  tame := ht
theorem Inv.same (h : Inv e σ val w β F) (hh : w'.heap = w.heap) (ho : w'.os = w.os) (hu : w'.output = w.output) (ht : w'.tape = w.tape := by rfl) (hd : w.drawn ≤ w'.drawn := by exact Nat.le_succ _) : Inv e σ val w' β F :=
  h.ext (fun _ _ => by rw [hh]) (fun _ _ _ _ _ => by rw [hh]) (fun _ _ _ => by rw [hh]) (by rw [hh]; exact Nat.le_refl _) ⟨ho.trans h.tame.1, hu.trans h.tame.2.1, ht.trans h.tame.2.2.1, Nat.le_trans h.tame.2.2.2 hd⟩
theorem Inv.more (h : Inv e σ val w β F) (hh : ∀ b, b < w.heap.size → w'.heap[b]? = w.heap[b]?) (hs : w.heap.size ≤ w'.heap.size) (ht : Tame e.w0 e.inh w') : Inv e σ val w' β F :=
  h.ext (fun b hb => hh b (h.fr b hb).1) (fun _ b s ho hb => hh b (h.own_lt ho hb)) (fun b hb _ => hh b (Nat.lt_of_lt_of_le hb h.grow)) hs ht
theorem Inv.moreF (h : Inv e σ val w β F) (hF : ∀ b, F b → F' b) (h' : ∀ b, F' b → b < w.heap.size ∧ (b < e.w0.heap.size → e.F0 b)) (ho : ∀ q b s, OwnAt σ q → β q = some (b, s) → ¬ F' b) :
    Inv e σ val w β F' where
  rep i := (h.rep i).tr _ (fun b hb => ⟨hF b hb, rfl⟩) (fun _ _ _ _ => ⟨rfl, fun _ _ _ => rfl⟩) (fun _ _ => rfl)
  disj := h.disj
  sep q b s hq hb := ⟨ho q b s hq hb, (h.sep q b s hq hb).2⟩
  fr := h'
  kept := h.kept
  grow := h.grow
  tame := h.tame
theorem Inv.weak (h : Inv e σ val w β F) (hr : ∀ i, Rep β F w (σ' i) (i, []) (val i)) (ho : ∀ q, OwnAt σ' q → OwnAt σ q) : Inv e σ' val w β F where
  rep := hr
  disj q q' b s s' hq hq' := h.disj q q' b s s' (ho q hq) (ho q' hq')
  sep q b s hq := h.sep q b s (ho q hq)
  fr := h.fr
  kept := h.kept
  grow := h.grow
  tame := h.tame
theorem own_upd_other {d : Nat} {x : AV} {q : Place} (h : q.1 ≠ d) : OwnAt (upd σ d x) q ↔ OwnAt σ q := by simp [OwnAt, upd, h]
theorem Inv.forget (h : Inv e σ val w β F) (d : Nat) : Inv e (upd σ d .undef) val w β F := by
  refine h.weak (fun i => ?_) (fun q hq => ?_)
  · by_cases hi : i = d
    · subst hi; simp [upd, Rep]
    · simp [upd, hi]; exact h.rep i
  · by_cases hi : q.1 = d
    · obtain ⟨x, hx, ho⟩ := hq
      rw [hi, upd_same] at hx
      cases hr : q.2 with
      | nil => rw [hr] at hx; simp [node] at hx; subst hx; simp [AV.isOwn] at ho
      | cons j r => rw [hr] at hx; simp [node, kids] at hx
    · exact (own_upd_other hi).1 hq
theorem Inv.purge (h : Inv e σ val w β F) (d : Nat) : Inv e (fun i => purgeV d (σ i)) val w β F := by
  refine h.weak (fun i => ?_) (fun q hq => ?_)
  · simp only [purgeV_eq]; split
    · simp [Rep]
    · exact h.rep i
  · obtain ⟨x, hx, ho⟩ := hq
    simp only [purgeV_eq] at hx
    split at hx
    · cases hr : q.2 with
      | nil => rw [hr] at hx; simp [node] at hx; subst hx; simp [AV.isOwn] at ho
      | cons j r => rw [hr] at hx; simp [node, kids] at hx
    · exact ⟨x, hx, ho⟩
def NoOwn (x : AV) : Prop := ∀ r y, node x r = some y → y.isOwn = false
theorem noOwn_scalar {x : AV} (h : scalar x = true) : NoOwn x := fun r y hy => by rw [node_scalar h hy]; exact own_scalar h
theorem noOwn_flat {x : AV} (h : flat x = true) : NoOwn x := fun r y hy => flat_own h hy
theorem Inv.set (h : Inv e σ val w β F) (d : Nat) {x : AV} {v : Value} (hx : Rep β F w x (d, []) v) (hn : NoOwn x) : Inv e (upd σ d x) (upd val d v) w β F where
  rep i := by
    by_cases hi : i = d
    · subst hi; rw [upd_same, upd_same]; exact hx
    · rw [upd_other _ _ hi, upd_other _ _ hi]; exact h.rep i
  disj q q' b s s' hq hq' := by
    have key : ∀ q, OwnAt (upd σ d x) q → OwnAt σ q := fun q hq => by
      by_cases hi : q.1 = d
      · obtain ⟨y, hy, ho⟩ := hq
        rw [hi, upd_same] at hy
        rw [hn _ _ hy] at ho; cases ho
      · exact (own_upd_other hi).1 hq
    exact h.disj q q' b s s' (key q hq) (key q' hq')
  sep q b s hq := by
    by_cases hi : q.1 = d
    · obtain ⟨y, hy, ho⟩ := hq
      rw [hi, upd_same] at hy
      rw [hn _ _ hy] at ho; cases ho
    · exact h.sep q b s ((own_upd_other hi).1 hq)
  fr := h.fr
  kept := h.kept
  grow := h.grow
  tame := h.tame
theorem refs_purge {d : Nat} {x : AV} : ∀ q ∈ refs (purgeV d x), q.1 ≠ d := by
  intro q hq
  rw [purgeV_eq] at hq
  split at hq
  · simp [refs] at hq
  · rename_i h
    simp only [List.any_eq_true, beq_iff_eq, not_exists, not_and] at h
    exact h q hq
theorem Inv.install (h : Inv e σ val w β F) (d : Nat) {x : AV} {v : Value} {β1 : Place → Option (Nat × Nat)} (hx : Rep β1 F w x (d, []) v) (hr : refs x = [])
    (hd : ∀ r r' y y' b s s', node x r = some y → y.isOwn = true → node x r' = some y' → y'.isOwn = true → β1 (d, r) = some (b, s) → β1 (d, r') = some (b, s') → r = r')
    (hs : ∀ r y b s, node x r = some y → y.isOwn = true → β1 (d, r) = some (b, s) → ¬ F b ∧ (e.w0.heap.size ≤ b ∨ e.inh b) ∧ ∀ q s', OwnAt σ q → q.1 ≠ d → β q ≠ some (b, s')) :
    Inv e (upd (fun i => purgeV d (σ i)) d x) (upd val d v) w (fun q => if q.1 = d then β1 q else β q) F where
  rep i := by
    have hp := h.purge d
    by_cases hi : i = d
    · subst hi
      rw [upd_same, upd_same]
      refine hx.tr _ (fun b hb => ⟨hb, rfl⟩) (fun r y _ _ => ⟨by simp, fun _ _ _ => rfl⟩) (fun q hq => by rw [hr] at hq; cases hq)
    · rw [upd_other _ _ hi, upd_other _ _ hi]
      exact (hp.rep i).tr _ (fun b hb => ⟨hb, rfl⟩) (fun r y _ _ => ⟨by simp [hi], fun _ _ _ => rfl⟩) (fun q hq => by simp [refs_purge q hq])
  disj q q' b s s' hq hq' hb hb' := by
    have hp := h.purge d
    by_cases hi : q.1 = d <;> by_cases hi' : q'.1 = d
    · obtain ⟨y, hy, ho⟩ := hq
      obtain ⟨y', hy', ho'⟩ := hq'
      rw [hi, upd_same] at hy
      rw [hi', upd_same] at hy'
      simp only [hi, hi', if_true] at hb hb'
      have : q.2 = q'.2 := hd q.2 q'.2 y y' b s s' hy ho hy' ho' (by rw [← hi]; exact hb) (by rw [← hi']; exact hb')
      exact Prod.ext (hi.trans hi'.symm) this
    · obtain ⟨y, hy, ho⟩ := hq
      rw [hi, upd_same] at hy
      simp only [hi, hi', if_true, if_false] at hb hb'
      have ho' := (own_upd_other hi').1 hq'
      have : OwnAt σ q' := (by
        obtain ⟨z, hz, hoz⟩ := ho'
        simp only [purgeV_eq] at hz
        split at hz
        · cases hr' : q'.2 with
          | nil => rw [hr'] at hz; simp [node] at hz; subst hz; simp [AV.isOwn] at hoz
          | cons j r => rw [hr'] at hz; simp [node, kids] at hz
        · exact ⟨z, hz, hoz⟩)
      exact absurd hb' ((hs q.2 y b s hy ho (by rw [← hi]; exact hb)).2.2 q' s' this hi')
    · obtain ⟨y, hy, ho⟩ := hq'
      rw [hi', upd_same] at hy
      simp only [hi, hi', if_true, if_false] at hb hb'
      have ho' := (own_upd_other hi).1 hq
      have : OwnAt σ q := (by
        obtain ⟨z, hz, hoz⟩ := ho'
        simp only [purgeV_eq] at hz
        split at hz
        · cases hr' : q.2 with
          | nil => rw [hr'] at hz; simp [node] at hz; subst hz; simp [AV.isOwn] at hoz
          | cons j r => rw [hr'] at hz; simp [node, kids] at hz
        · exact ⟨z, hz, hoz⟩)
      exact absurd hb ((hs q'.2 y b s' hy ho (by rw [← hi']; exact hb')).2.2 q s this hi)
    · simp only [hi, hi', if_false] at hb hb'
      exact hp.disj q q' b s s' ((own_upd_other hi).1 hq) ((own_upd_other hi').1 hq') hb hb'
  sep q b s hq hb := by
    have hp := h.purge d
    by_cases hi : q.1 = d
    · obtain ⟨y, hy, ho⟩ := hq
      rw [hi, upd_same] at hy
      simp only [hi, if_true] at hb
      have := hs q.2 y b s hy ho (by rw [← hi]; exact hb)
      exact ⟨this.1, this.2.1⟩
    · simp only [hi, if_false] at hb
      exact hp.sep q b s ((own_upd_other hi).1 hq) hb
  fr := h.fr
  kept := h.kept
  grow := h.grow
  tame := h.tame
end
end Go.Av
namespace Go.Av
open Go
def valOf (N : Nat) (gv : Nat → Value) (a : Act) : Nat → Value := fun i => if i < N then a.tmps.getD i undef else gv i
structure All (N : Nat) (gv : Nat → Value) (e : Ctx) (σ : Sig) (a : Act) (w : World) : Prop where
  defers : a.defers = e.ds
  size : a.tmps.size = N
  inv : ∃ β F, Inv e σ (valOf N gv a) w β F
theorem size_put {a : Act} {d : Nat} {v : Value} : (a.put (some d) v).tmps.size = a.tmps.size := by simp [Act.put]
theorem valOf_put {N d : Nat} {gv : Nat → Value} {a : Act} {v : Value} (hs : a.tmps.size = N) (hd : d < N) : valOf N gv (a.put (some d) v) = upd (valOf N gv a) d v := by
  funext i
  by_cases hi : i = d
  · subst hi; simp [valOf, upd, Act.put, hd, hs]
  · by_cases hN : i < N
    · simp [valOf, upd, Act.put, hi, hN, Ne.symm hi, Array.getElem?_setIfInBounds_ne]
    · simp [valOf, upd, hi, hN]
theorem noOwn_pure : ∀ {r : List Nat} {x y : AV}, pureV x = true → node x r = some y → y.isOwn = false := by
  intro r
  induction r with
  | nil => intro x y hx hy; simp [node] at hy; subst hy; cases x <;> simp [pureV, AV.isOwn] at *
  | cons j r ih =>
    intro x y hx hy
    simp only [node] at hy
    cases hc : (kids x)[j]? with
    | none => rw [hc] at hy; cases hy
    | some c =>
      rw [hc] at hy
      refine ih ?_ hy
      cases x <;> simp only [kids, List.getElem?_nil, reduceCtorEq] at hc
      · simp only [pureV] at hx; exact pureL_mem hx (List.mem_of_getElem? hc)
      all_goals simp [pureV] at hx
theorem refs_pure {x : AV} (h : pureV x = true) : refs x = [] := refs_of_noRef x (noRef_pure x h)
mutual
def refd : Place → AV → AV
  | p, .osl sz _ n cap => .rsl p sz 0 n cap
  | p, .op _ => .rp p 0
  | p, .agg cs => .agg (refdL p 0 cs)
  | p, .tup cs => .tup (refdL p 0 cs)
  | _, .when g x => .when g x
  | _, x => x
def refdL : Place → Nat → List AV → List AV
  | _, _, [] => []
  | p, j, c :: cs => refd (p.1, p.2 ++ [j]) c :: refdL p (j + 1) cs
end
theorem refdL_length : ∀ {cs : List AV} {p : Place} {j : Nat}, (refdL p j cs).length = cs.length
  | [], _, _ => rfl
  | c :: cs, p, j => by simp [refdL, refdL_length]
theorem refdL_get : ∀ {cs : List AV} {p : Place} {j i : Nat}, (refdL p j cs)[i]? = (cs[i]?).map (refd (p.1, p.2 ++ [j + i]))
  | [], _, _, _ => by simp [refdL]
  | c :: cs, p, j, 0 => by simp [refdL]
  | c :: cs, p, j, i + 1 => by
    simp only [refdL, List.getElem?_cons_succ]
    rw [refdL_get, show j + 1 + i = j + (i + 1) by omega]
section
variable {β : Place → Option (Nat × Nat)} {F : Nat → Prop} {w : World}
mutual
theorem Rep.refd : ∀ (x : AV) {p p' : Place} {v : Value}, Rep β F w x p v → Rep β F w (refd p x) p' v
  | .undef, _, _, _, _ => by simp [Av.refd, Rep]
  | .int .., _, _, _, h => by simpa [Av.refd, Rep] using h
  | .bool _, _, _, _, h => by simpa [Av.refd, Rep] using h
  | .str _, _, _, _, h => by simpa [Av.refd, Rep] using h
  | .that .., _, _, _, h => by simpa [Av.refd, Rep] using h
  | .nilp, _, _, _, h => by simpa [Av.refd, Rep] using h
  | .nils, _, _, _, h => by simpa [Av.refd, Rep] using h
  | .emp, _, _, _, h => by simpa [Av.refd, Rep] using h
  | .agg cs, p, p', v, h => by
    simp only [Av.refd, Rep] at h ⊢
    obtain ⟨vs, rfl, hl, h⟩ := h
    exact ⟨vs, rfl, by rw [refdL_length]; exact hl, RepL.refd cs h⟩
  | .tup cs, p, p', v, h => by
    simp only [Av.refd, Rep] at h ⊢
    obtain ⟨vs, rfl, hl, h⟩ := h
    exact ⟨vs, rfl, by rw [refdL_length]; exact hl, RepL.refd cs h⟩
  | .fn f us cs, p, p', v, h => by
    have h0 := h
    simp only [Av.refd]
    refine h.tr _ (fun b hb => ⟨hb, rfl⟩) (fun r y hy ho => ?_) (fun _ _ => rfl)
    cases r with
    | nil => simp [node] at hy; subst hy; simp [AV.isOwn] at ho
    | cons j r => simp [node, kids] at hy
  | .sl cs n, p, p', v, h => by
    simp only [Av.refd]
    refine h.tr _ (fun b hb => ⟨hb, rfl⟩) (fun r y hy ho => ?_) (fun _ _ => rfl)
    rw [node_scalar rfl hy] at ho; cases ho
  | .pp cs off, p, p', v, h => by
    simp only [Av.refd]
    refine h.tr _ (fun b hb => ⟨hb, rfl⟩) (fun r y hy ho => ?_) (fun _ _ => rfl)
    rw [node_scalar rfl hy] at ho; cases ho
  | .osl sz cs n cap, p, p', v, h => by
    simp only [Av.refd, Rep] at h ⊢
    rcases h with ⟨h1, h2, _, h3, h4⟩ | ⟨_, b, capv, arr, t, h1, h2, h3, h4, _⟩
    · exact .inl ⟨h1, h2, h3, h4⟩
    · exact .inr ⟨b, capv, by rw [Nat.zero_add]; exact h1, h2, h3, h4⟩
  | .op cs, p, p', v, h => by
    simp only [Av.refd, Rep] at h ⊢
    obtain ⟨_, b, arr, t, h1, h2, _⟩ := h
    exact ⟨b, arr.size, h1, h2⟩
  | .rsl q sz off n cap, p, p', v, h => by simpa [Av.refd, Rep] using h
  | .rp q off, p, p', v, h => by simpa [Av.refd, Rep] using h
  | .when g x, p, p', v, h => by
    simp only [Av.refd, Rep] at h ⊢
    obtain ⟨h, hun⟩ := h
    refine ⟨fun hg => ?_, hun⟩
    obtain ⟨hs, h⟩ := h hg
    refine ⟨hs, h.tr _ (fun b hb => ⟨hb, rfl⟩) (fun r y hy ho => ?_) (fun _ _ => rfl)⟩
    rw [flat_own hs hy] at ho; cases ho
theorem RepL.refd : ∀ (cs : List AV) {p p' : Place} {j : Nat} {vs : List Value}, RepL β F w cs p j vs → RepL β F w (refdL p j cs) p' j vs
  | [], _, _, _, _, _ => by simp [refdL, RepL]
  | c :: cs, _, _, _, [], h => by simp [RepL] at h
  | c :: cs, p, p', j, v :: vs, h => by
    simp only [RepL, refdL] at h ⊢
    exact ⟨Rep.refd c h.1, RepL.refd cs h.2⟩
end
end
mutual
theorem noOwn_refd : ∀ (x : AV) (p : Place), NoOwn (refd p x)
  | .undef, _ | .int .., _ | .bool _, _ | .str _, _ | .that .., _ | .nilp, _ | .nils, _ | .emp, _ | .sl .., _ | .pp .., _ | .rsl .., _ | .rp .., _ => noOwn_scalar rfl
  | .osl .., _ | .op _, _ => noOwn_scalar rfl
  | .fn f us cs, p => fun r y hy => by
    cases r with
    | nil => simp [node, refd] at hy; subst hy; rfl
    | cons j r => simp [node, kids, refd] at hy
  | .when g x, p => fun r y hy => by
    cases r with
    | nil => simp [node, refd] at hy; subst hy; rfl
    | cons j r => simp [node, kids, refd] at hy
  | .agg cs, p => fun r y hy => by
    cases r with
    | nil => simp [node, refd] at hy; subst hy; rfl
    | cons j r =>
      simp only [node, kids, refd] at hy
      cases hc : (refdL p 0 cs)[j]? with
      | none => rw [hc] at hy; cases hy
      | some c => rw [hc] at hy; exact noOwn_refdL cs p 0 c (List.mem_of_getElem? hc) r y hy
  | .tup cs, p => fun r y hy => by
    cases r with
    | nil => simp [node, refd] at hy; subst hy; rfl
    | cons j r =>
      simp only [node, kids, refd] at hy
      cases hc : (refdL p 0 cs)[j]? with
      | none => rw [hc] at hy; cases hy
      | some c => rw [hc] at hy; exact noOwn_refdL cs p 0 c (List.mem_of_getElem? hc) r y hy
theorem noOwn_refdL : ∀ (cs : List AV) (p : Place) (j : Nat), ∀ c ∈ refdL p j cs, NoOwn c
  | [], _, _, _, h => by simp [refdL] at h
  | d :: cs, p, j, c, h => by
    simp only [refdL, List.mem_cons] at h
    rcases h with rfl | h
    · exact noOwn_refd d _
    · exact noOwn_refdL cs p (j + 1) c h
end
def cstS : Value → AV
  | .int k n => .int k n
  | .bool b => .bool b
  | .string s => .str s
  | .pointer none => .nilp
  | .slice none 0 0 => .nils
  | _ => .undef
def cst : Value → AV
  | .agg cs => .agg (cs.toList.map cstS)
  | v => cstS v
def rd (N : Nat) (σ : Sig) : Operand → AV
  | .tmp t => if t < N then refd (t, []) (σ t) else .undef
  | .const v => cst v
  | .func f => .fn f [] []
  | .global _ => .undef
section
variable {β : Place → Option (Nat × Nat)} {F : Nat → Prop} {w : World} {N : Nat} {gv : Nat → Value} {e : Ctx} {σ : Sig} {a : Act}
theorem rep_cstS (v : Value) (p : Place) : Rep β F w (cstS v) p v := by
  unfold cstS
  split <;> simp [Rep]
theorem scalar_cstS (v : Value) : scalar (cstS v) = true := by unfold cstS; split <;> rfl
theorem rep_cst (v : Value) (p : Place) : Rep β F w (cst v) p v := by
  unfold cst
  split
  · rename_i cs
    simp only [Rep]
    refine ⟨cs.toList, by simp, by simp, RepL_iff.2 fun i c hc => ?_⟩
    rw [List.getElem?_map] at hc
    cases hv : cs.toList[i]? with
    | none => rw [hv] at hc; cases hc
    | some v => rw [hv] at hc; simp at hc; subst hc; exact ⟨v, rfl, rep_cstS v _⟩
  · exact rep_cstS v p
theorem noOwn_cst (v : Value) : NoOwn (cst v) := by
  unfold cst
  split
  · rename_i cs
    intro r y hy
    cases r with
    | nil => simp [node] at hy; subst hy; rfl
    | cons j r =>
      simp only [node, kids, List.getElem?_map] at hy
      cases hv : cs.toList[j]? with
      | none => rw [hv] at hy; cases hy
      | some v => rw [hv] at hy; exact noOwn_scalar (scalar_cstS v) r y hy
  · exact noOwn_scalar (scalar_cstS v)
theorem noOwn_rd (x : Operand) : NoOwn (rd N σ x) := by
  cases x with
  | tmp t => simp only [rd]; split
             · exact noOwn_refd _ _
             · exact noOwn_scalar rfl
  | const v => exact noOwn_cst v
  | func f => intro r y hy; cases r with
    | nil => simp [node, rd] at hy; subst hy; rfl
    | cons j r => simp [node, kids, rd] at hy
  | global g => exact noOwn_scalar rfl
theorem rd_rep (h : Inv e σ (valOf N gv a) w β F) (x : Operand) (p : Place) : Rep β F w (rd N σ x) p (a.eval x) := by
  cases x with
  | tmp t =>
    simp only [rd]; split
    · rename_i ht
      have := (h.rep t).refd (p' := p)
      simpa [valOf, ht, Act.eval] using this
    · simp [Rep]
  | const v => exact rep_cst v p
  | func f => simp [rd, Rep, Act.eval, RepL, scalarL]
  | global g => simp [rd, Rep]
end
def VSem (P : Program) (N : Nat) (A : Bool) (o : Op) (ty : TypeId) (σ0 : Sig) (D : List Nat) (x : AV) : Prop :=
  NoOwn x ∧ (A = true → ∀ σ : Sig, (∀ i ∈ D, σ i = σ0 i) → ∀ (gv : Nat → Value) (e : Ctx) (a : Act) (w : World) (β : Place → Option (Nat × Nat)) (F : Nat → Prop), Inv e σ (valOf N gv a) w β F →
    ∀ (p : Place) (o' : Oper), o'.op = o → o'.type = ty → ∃ v, (execOp a.eval o').run P w = .ok (.value v) w ∧ Rep β F w x p v)
def slots : Operand → List Nat
  | .tmp t => [t]
  | _ => []
theorem rd_agree {N : Nat} {σ σ0 : Sig} {x : Operand} (h : ∀ i ∈ slots x, σ i = σ0 i) : rd N σ x = rd N σ0 x := by
  cases x with
  | tmp t => simp only [rd, h t (by simp [slots])]
  | _ => rfl
def RdTo (N : Nat) (A : Bool) (σ : Sig) (x : Operand) (v : AV) : Prop := rd N σ x = v ∨ ∃ g, rd N σ x = .when g v ∧ (A = true → g = true)
theorem RdTo.rep {N : Nat} {A : Bool} {σ σ0 : Sig} {x : Operand} {y : AV} (h : RdTo N A σ0 x y) (hA : A = true) (hD : ∀ i ∈ slots x, σ i = σ0 i)
    {gv : Nat → Value} {e : Ctx} {a : Act} {w : World} {β : Place → Option (Nat × Nat)} {F : Nat → Prop} (hi : Inv e σ (valOf N gv a) w β F) (p : Place) : Rep β F w y p (a.eval x) := by
  have hr := rd_rep hi x p
  rw [rd_agree hD] at hr
  rcases h with rfl | ⟨g, h, hg⟩
  · exact hr
  · rw [h] at hr
    simp only [Rep] at hr
    exact (hr.1 (hg hA)).2
section ops
variable {P : Program} {N : Nat} {A : Bool} {ty : TypeId} {σ : Sig} {x y z : Operand}
theorem v_move {v : AV} (h : RdTo N A σ x v) (hn : NoOwn v) : VSem P N A (.move x) ty σ (slots x) v :=
  ⟨hn, fun hA σ' hD gv e a w β F hi p o' ho _ => ⟨a.eval x, by simp [execOp, ho], h.rep hA hD hi p⟩⟩
theorem v_assign {v : AV} (h : RdTo N A σ x v) (hn : NoOwn v) : VSem P N A (.assign x) ty σ (slots x) v :=
  ⟨hn, fun hA σ' hD gv e a w β F hi p o' ho _ => ⟨a.eval x, by simp [execOp, ho], h.rep hA hD hi p⟩⟩
theorem agree_l {α : Type} {σ σ0 : Nat → α} {D D' : List Nat} (h : ∀ i ∈ D ++ D', σ i = σ0 i) : ∀ i ∈ D, σ i = σ0 i := fun i hi => h i (List.mem_append_left _ hi)
theorem agree_r {α : Type} {σ σ0 : Nat → α} {D D' : List Nat} (h : ∀ i ∈ D ++ D', σ i = σ0 i) : ∀ i ∈ D', σ i = σ0 i := fun i hi => h i (List.mem_append_right _ hi)
theorem v_bin {b : BinOp} {xt yt : TypeId} {kx ky : IntKind} {m n : Int} {v : Value} {av : AV} (hx : RdTo N A σ x (.int kx m)) (hy : RdTo N A σ y (.int ky n))
    (hs : scalar av = true) (hv : ∀ β F w p, Rep β F w av p v) (hrun : A = true → ∀ w, (binOp b xt (.int kx m) (.int ky n)).run P w = .ok v w) :
    VSem P N A (.binOp b xt x y yt) ty σ (slots x ++ slots y) av :=
  ⟨noOwn_scalar hs, fun hA σ' hD gv e a w β F hi p o' ho _ => by
    have ex := hx.rep hA (agree_l hD) hi p
    have ey := hy.rep hA (agree_r hD) hi p
    simp only [Rep] at ex ey
    refine ⟨v, ?_, hv β F w p⟩
    have he : ∀ w, (eqGuard b xt x y (.int kx m) (.int ky n)).run P w = .ok () w := fun w => by
      cases b <;> simp [eqGuard]
    simp only [execOp, ho, ex, ey, Sem.run_bind, he, Result.andThen_ok, hrun hA w]
    rfl⟩
end ops
end Go.Av
namespace Go.Av
open Go
section
variable {P : Program} {N : Nat} {A : Bool} {ty : TypeId} {σ : Sig} {x y z : Operand} {xt yt : TypeId}
theorem rep_int {k : IntKind} {n : Int} (β : Place → Option (Nat × Nat)) (F : Nat → Prop) (w : World) (p : Place) : Rep β F w (.int k n) p (.int k n) := by simp [Rep]
theorem rep_bool {b : Bool} (β : Place → Option (Nat × Nat)) (F : Nat → Prop) (w : World) (p : Place) : Rep β F w (.bool b) p (.bool b) := by simp [Rep]
theorem v_add {m n : Int} (hx : RdTo N A σ x (.int .i64 m)) (hy : RdTo N A σ y (.int .i64 n)) (hb : A = true → -9223372036854775808 ≤ m + n ∧ m + n ≤ 9223372036854775807) :
    VSem P N A (.binOp .add xt x y yt) ty σ (slots x ++ slots y) (.int .i64 (m + n)) :=
  v_bin hx hy rfl rep_int fun hA w => by simp [binOp, Op.intArith, IntWalk.i64_in _ (hb hA)]
theorem v_sub {m n : Int} (hx : RdTo N A σ x (.int .i64 m)) (hy : RdTo N A σ y (.int .i64 n)) (hb : A = true → -9223372036854775808 ≤ m - n ∧ m - n ≤ 9223372036854775807) :
    VSem P N A (.binOp .sub xt x y yt) ty σ (slots x ++ slots y) (.int .i64 (m - n)) :=
  v_bin hx hy rfl rep_int fun hA w => by simp [binOp, Op.intArith, IntWalk.i64_in _ (hb hA)]
theorem v_mul {m n : Int} (hx : RdTo N A σ x (.int .i64 m)) (hy : RdTo N A σ y (.int .i64 n)) (hb : A = true → -9223372036854775808 ≤ m * n ∧ m * n ≤ 9223372036854775807) :
    VSem P N A (.binOp .mul xt x y yt) ty σ (slots x ++ slots y) (.int .i64 (m * n)) :=
  v_bin hx hy rfl rep_int fun hA w => by simp [binOp, Op.intArith, IntWalk.i64_in _ (hb hA)]
theorem v_quo {m n : Int} (hx : RdTo N A σ x (.int .i64 m)) (hy : RdTo N A σ y (.int .i64 n)) (hb : A = true → 0 ≤ m ∧ m ≤ 9223372036854775807 ∧ 1 ≤ n) :
    VSem P N A (.binOp .quo xt x y yt) ty σ (slots x ++ slots y) (.int .i64 (m / n)) :=
  v_bin hx hy rfl rep_int fun hA w => by
    have h0 : n ≠ 0 := by have := hb hA; omega
    simp [binOp, Op.intDiv, h0, IntWalk.i64_quo m n (hb hA)]
theorem v_lss {m n : Int} {k : IntKind} (hx : RdTo N A σ x (.int k m)) (hy : RdTo N A σ y (.int k n)) :
    VSem P N A (.binOp .lss xt x y yt) ty σ (slots x ++ slots y) (.bool (decide (m < n))) := v_bin hx hy rfl rep_bool fun _ w => by simp [binOp, Op.intCmp]
theorem v_leq {m n : Int} {k : IntKind} (hx : RdTo N A σ x (.int k m)) (hy : RdTo N A σ y (.int k n)) :
    VSem P N A (.binOp .leq xt x y yt) ty σ (slots x ++ slots y) (.bool (decide (m ≤ n))) := v_bin hx hy rfl rep_bool fun _ w => by simp [binOp, Op.intCmp]
theorem v_gtr {m n : Int} {k : IntKind} (hx : RdTo N A σ x (.int k m)) (hy : RdTo N A σ y (.int k n)) :
    VSem P N A (.binOp .gtr xt x y yt) ty σ (slots x ++ slots y) (.bool (decide (n < m))) := v_bin hx hy rfl rep_bool fun _ w => by simp [binOp, Op.intCmp]
theorem v_geq {m n : Int} {k : IntKind} (hx : RdTo N A σ x (.int k m)) (hy : RdTo N A σ y (.int k n)) :
    VSem P N A (.binOp .geq xt x y yt) ty σ (slots x ++ slots y) (.bool (decide (n ≤ m))) := v_bin hx hy rfl rep_bool fun _ w => by simp [binOp, Op.intCmp]
theorem v_eql {m n : Int} {k : IntKind} (hx : RdTo N A σ x (.int k m)) (hy : RdTo N A σ y (.int k n)) :
    VSem P N A (.binOp .eql xt x y yt) ty σ (slots x ++ slots y) (.bool (decide (m = n))) := v_bin hx hy rfl rep_bool fun _ w => by
  simp [binOp, Op.intCmp]; rfl
theorem v_neq {m n : Int} {k : IntKind} (hx : RdTo N A σ x (.int k m)) (hy : RdTo N A σ y (.int k n)) :
    VSem P N A (.binOp .neq xt x y yt) ty σ (slots x ++ slots y) (.bool (decide (m ≠ n))) := v_bin hx hy rfl rep_bool fun _ w => by
  simp [binOp, Op.intCmp, bne]; by_cases h : m = n <;> simp [h]
theorem v_bne {a b : Bool} (ht : P.underlying xt = some .bool) (hx : RdTo N A σ x (.bool a)) (hy : RdTo N A σ y (.bool b)) :
    VSem P N A (.binOp .neq xt x y yt) ty σ (slots x ++ slots y) (.bool (a != b)) :=
  ⟨noOwn_scalar rfl, fun hA σ' hD gv e ac w β F hi p o' ho _ => by
    have ex := hx.rep hA (agree_l hD) hi p
    have ey := hy.rep hA (agree_r hD) hi p
    simp only [Rep] at ex ey
    refine ⟨.bool (a != b), ?_, by simp [Rep]⟩
    simp [execOp, ho, ex, ey, eqGuard, run_neq_bool w xt a b ht, bne]⟩
theorem v_not {b : Bool} (hx : RdTo N A σ x (.bool b)) : VSem P N A (.unOp .not xt x) ty σ (slots x) (.bool (!b)) :=
  ⟨noOwn_scalar rfl, fun hA σ' hD gv e ac w β F hi p o' ho _ => by
    have ex := hx.rep hA hD hi p
    simp only [Rep] at ex
    exact ⟨.bool (!b), by simp [execOp, ho, ex, Op.unary], by simp [Rep]⟩⟩
theorem v_neg {n : Int} (hx : RdTo N A σ x (.int .i64 n)) (hb : A = true → -9223372036854775807 ≤ n ∧ n ≤ 9223372036854775807) : VSem P N A (.unOp .neg xt x) ty σ (slots x) (.int .i64 (-n)) :=
  ⟨noOwn_scalar rfl, fun hA σ' hD gv e ac w β F hi p o' ho _ => by
    have ex := hx.rep hA hD hi p
    simp only [Rep] at ex
    have h1 : IntKind.i64.wrap (0 - n) = -n := by rw [IntWalk.i64_in _ (by have := hb hA; omega)]; omega
    have h2 : IntKind.i64.wrap (-n) = -n := IntWalk.i64_in _ (by have := hb hA; omega)
    exact ⟨.int .i64 (-n), by simp [execOp, ho, ex, Op.unary, Op.intArith, h2], by simp [Rep]⟩⟩
def BoolTo (N : Nat) (A : Bool) (σ : Sig) (x : Operand) (c : Bool) (b : Bool) : Prop := rd N σ x = .bool b ∨ ∃ g, rd N σ x = .when g (.bool b) ∧ (A = true → c = true → g = true)
theorem v_pick {t a b : Bool} (hx : RdTo N A σ x (.bool t)) (hy : BoolTo N A σ y t a) (hz : BoolTo N A σ z (!t) b) :
    VSem P N A (.pick x y z) ty σ (slots x ++ (slots y ++ slots z)) (.bool (bif t then a else b)) :=
  ⟨noOwn_scalar rfl, fun hA σ' hD gv e ac w β F hi p o' ho _ => by
    have ex := hx.rep hA (agree_l hD) hi p
    simp only [Rep] at ex
    cases t with
    | true =>
      have ey : ac.eval y = .bool a := by
        have hr := rd_rep hi y p
        rw [rd_agree (agree_l (agree_r hD))] at hr
        rcases hy with h | ⟨g, h, hg⟩
        · rw [h] at hr; simpa [Rep] using hr
        · rw [h] at hr; simp only [Rep] at hr; exact (hr.1 (hg hA rfl)).2
      exact ⟨.bool a, by simp [execOp, ho, ex, ey, asBool], by simp [Rep]⟩
    | false =>
      have ez : ac.eval z = .bool b := by
        have hr := rd_rep hi z p
        rw [rd_agree (agree_r (agree_r hD))] at hr
        rcases hz with h | ⟨g, h, hg⟩
        · rw [h] at hr; simpa [Rep] using hr
        · rw [h] at hr; simp only [Rep] at hr; exact (hr.1 (hg hA rfl)).2
      exact ⟨.bool b, by simp [execOp, ho, ex, ez, asBool], by simp [Rep]⟩⟩
def fieldOff (P : Program) (s f : Nat) : Option Nat :=
  match P.underlying s with
  | some (.struct fs) => match fs[f]? with
    | some d => match P.info? d.type with
      | some i => if i.size = 0 then none else some d.offset
      | none => none
    | none => none
  | _ => none
theorem add_none (b o n : Nat) : (⟨b, o, none⟩ : Addr).add n = ⟨b, o + n, none⟩ := by
  unfold Addr.add; split
  · rename_i h; subst h; rfl
  · rfl
theorem run_fieldAt {s f off b o : Nat} (h : fieldOff P s f = some off) (w : World) : (Instr.fieldAt s (.pointer (some ⟨b, o, none⟩)) f).run P w = .ok (.pointer (some ⟨b, o + off, none⟩)) w := by
  unfold fieldOff at h
  split at h
  · rename_i fs hs
    split at h
    · rename_i d hd
      split at h
      · rename_i i hi
        split at h
        · cases h
        · rename_i hz
          cases h
          have hd' : fs[f]? = some d := hd
          simp [Instr.fieldAt, run_underlying hs, hd', Instr.sureAddr, fieldPlace, sizeOf, typeInfo, hi, hz, add_none]
      · cases h
    · cases h
  · cases h
theorem v_fieldAddr_pp {s f off o : Nat} {cs : List AV} (hf : fieldOff P s f = some off) (hx : RdTo N A σ x (.pp cs o)) : VSem P N A (.fieldAddr s x f) ty σ (slots x) (.pp cs (o + off)) :=
  ⟨noOwn_scalar rfl, fun hA σ' hD gv e ac w β F hi p o' ho _ => by
    have ex := hx.rep hA hD hi p
    simp only [Rep] at ex
    obtain ⟨hp, b, o1, arr, t, fz, ex, hF, hh, hr⟩ := ex
    exact ⟨.pointer (some ⟨b, o1 + (o + off), none⟩), by simp [execOp, ho, ex, run_fieldAt hf, Nat.add_assoc], by simp only [Rep]; exact ⟨hp, b, o1, arr, t, fz, rfl, hF, hh, hr⟩⟩⟩
theorem v_fieldAddr_rp {s f off o : Nat} {q : Place} (hf : fieldOff P s f = some off) (hx : RdTo N A σ x (.rp q o)) : VSem P N A (.fieldAddr s x f) ty σ (slots x) (.rp q (o + off)) :=
  ⟨noOwn_scalar rfl, fun hA σ' hD gv e ac w β F hi p o' ho _ => by
    have ex := hx.rep hA hD hi p
    simp only [Rep] at ex
    obtain ⟨b, s0, hb, ex⟩ := ex
    exact ⟨.pointer (some ⟨b, o + off, none⟩), by simp [execOp, ho, ex, run_fieldAt hf], by simp only [Rep]; exact ⟨b, s0, hb, rfl⟩⟩⟩
def elemSize (P : Program) (t : Nat) : Option Nat :=
  match P.underlying t with
  | some (.slice e) => (P.info? e).map (·.size)
  | _ => none
theorem elemSize_spec {t sz : Nat} (h : elemSize P t = some sz) : ∃ e i, P.underlying t = some (.slice e) ∧ P.info? e = some i ∧ i.size = sz := by
  unfold elemSize at h
  split at h
  · rename_i e he
    cases hi : P.info? e with
    | none => rw [hi] at h; cases h
    | some i => rw [hi] at h; simp at h; exact ⟨e, i, he, hi, h⟩
  · cases h
theorem run_indexAt {t sz b o n cap : Nat} {k : IntKind} {i : Int} (h : elemSize P t = some sz) (h0 : 0 ≤ i) (h1 : i < n) (w : World) :
    (Instr.indexAt t (.slice (some ⟨b, o, none⟩) n cap) (.int k i)).run P w = .ok (.pointer (some ⟨b, o + i.toNat * sz, none⟩)) w := by
  obtain ⟨e, inf, he, hi, hs⟩ := elemSize_spec h
  simp [Instr.indexAt, asIntOf, run_underlying he, h0, h1, sizeOf, typeInfo, hi, hs, add_none]
theorem v_indexAddr_sl {t sz n : Nat} {k : IntKind} {i : Int} {cs : List AV} (ht : elemSize P t = some sz) (hx : RdTo N A σ x (.sl cs n)) (hy : RdTo N A σ y (.int k i))
    (hb : A = true → 0 ≤ i ∧ i < n ∧ cs ≠ []) : VSem P N A (.indexAddr t x y) ty σ (slots x ++ slots y) (.pp cs (i.toNat * sz)) :=
  ⟨noOwn_scalar rfl, fun hA σ' hD gv e ac w β F hi p o' ho _ => by
    have ex := hx.rep hA (agree_l hD) hi p
    have ey := hy.rep hA (agree_r hD) hi p
    simp only [Rep] at ex ey
    obtain ⟨h0, h1, h2⟩ := hb hA
    obtain ⟨hp, a, cap, ex, _, h⟩ := ex
    obtain ⟨b, off, arr, tt, fz, rfl, hF, hh, hr⟩ := h h2
    refine ⟨.pointer (some ⟨b, off + i.toNat * sz, none⟩), by simp [execOp, ho, ex, ey, run_indexAt ht h0 h1], ?_⟩
    simp only [Rep]
    exact ⟨hp, b, off, arr, tt, fz, rfl, hF, hh, hr⟩⟩
theorem v_indexAddr_rsl {t sz sz' off n : Nat} {cap : Option Nat} {k : IntKind} {i : Int} {q : Place} (ht : elemSize P t = some sz) (hx : RdTo N A σ x (.rsl q sz' off n cap)) (hy : RdTo N A σ y (.int k i))
    (hb : A = true → 0 ≤ i ∧ i < n) : VSem P N A (.indexAddr t x y) ty σ (slots x ++ slots y) (.rp q (off + i.toNat * sz)) :=
  ⟨noOwn_scalar rfl, fun hA σ' hD gv e ac w β F hi p o' ho _ => by
    have ex := hx.rep hA (agree_l hD) hi p
    have ey := hy.rep hA (agree_r hD) hi p
    simp only [Rep] at ex ey
    obtain ⟨h0, h1⟩ := hb hA
    rcases ex with ⟨_, _, hn, _⟩ | ⟨b, capv, hb, ex, _⟩
    · omega
    · refine ⟨.pointer (some ⟨b, off + i.toNat * sz, none⟩), by simp [execOp, ho, ex, ey, run_indexAt ht h0 h1], ?_⟩
      simp only [Rep]
      exact ⟨b, _, hb, rfl⟩⟩
def tyAgg (P : Program) (t : Nat) : Option (Bool × Nat) :=
  match P.underlying t, P.info? t with
  | some d, some i => some ((match d with | .struct _ => true | .array _ _ => true | _ => false), i.size)
  | _, _ => none
theorem tyAgg_spec {t s : Nat} {g : Bool} (h : tyAgg P t = some (g, s)) (w : World) : (isAgg t).run P w = .ok g w ∧ (sizeOf t).run P w = .ok s w := by
  unfold tyAgg at h
  split at h
  · rename_i d i hd hi
    simp at h
    obtain ⟨h, rfl⟩ := h
    refine ⟨?_, by simp [sizeOf, typeInfo, hi]⟩
    subst h
    simp only [isAgg, Sem.run_bind, run_underlying hd, Result.andThen_ok]
    cases d <;> rfl
  · cases h
theorem cell_of {w : World} {b : Nat} {arr : Array Value} {t : TypeId} {fz : Nat × Nat} (h : w.heap[b]? = some (.cells arr t fz)) (i : Nat) : w.cell? ⟨b, i, none⟩ = arr[i]? := by
  simp [World.cell?, h]
theorem run_loadVar_one {t b o : Nat} (h : tyAgg P t = some (false, 1)) {w : World} {v : Value} (hc : w.cell? ⟨b, o, none⟩ = some v) :
    (Instr.loadAt t (.pointer (some ⟨b, o, none⟩))).run P w = .ok v w := by
  simp [Instr.loadAt, Instr.sureAddr, loadVar, (tyAgg_spec h w).1, hc]
theorem run_loadVar_agg {t b o s : Nat} (h : tyAgg P t = some (true, s)) {w : World} {vs : List Value} (hl : vs.length = s) (hc : ∀ j v, vs[j]? = some v → w.cell? ⟨b, o + j, none⟩ = some v) :
    (Instr.loadAt t (.pointer (some ⟨b, o, none⟩))).run P w = .ok (.agg vs.toArray) w := by
  have := run_loadCells_list (P := P) (w := w) ⟨b, o, none⟩ vs (fun j v hv => by rw [add_none]; exact hc j v hv)
  rw [hl] at this
  simp [Instr.loadAt, Instr.sureAddr, loadVar, (tyAgg_spec h w).1, (tyAgg_spec h w).2, this]
theorem Rep.pure_any {β β' : Place → Option (Nat × Nat)} {F : Nat → Prop} {w : World} {c : AV} {p p' : Place} {v : Value} (hc : pureV c = true) (h : Rep β F w c p v) : Rep β' F w c p' v :=
  h.tr _ (fun b hb => ⟨hb, rfl⟩) (fun r y hy ho => by rw [noOwn_pure hc hy] at ho; cases ho) (fun q hq => by rw [refs_pure hc] at hq; cases hq)
theorem v_load_pp {t o : Nat} {cs : List AV} {c : AV} (ht : tyAgg P t = some (false, 1)) (hx : RdTo N A σ x (.pp cs o)) (hc : A = true → cs[o]? = some c) (hn : pureV c = true) :
    VSem P N A (.load t x) ty σ (slots x) c :=
  ⟨fun r y hy => noOwn_pure hn hy, fun hA σ' hD gv e ac w β F hi p o' ho _ => by
    have ex := hx.rep hA hD hi p
    simp only [Rep] at ex
    obtain ⟨hp, b, o1, arr, tt, fz, ex, hF, hh, hr⟩ := ex
    obtain ⟨u, hu, hru⟩ := RepL_iff.1 hr o c (hc hA)
    refine ⟨u, ?_, hru.pure_any hn⟩
    have : w.cell? ⟨b, o1 + o, none⟩ = some u := by rw [cell_of hh]; simpa using hu
    simp [execOp, ho, ex, run_loadVar_one ht this]⟩
theorem v_load_ppa {t o s : Nat} {cs xs : List AV} (ht : tyAgg P t = some (true, s)) (hx : RdTo N A σ x (.pp cs o)) (hl : xs.length = s)
    (hc : A = true → ∀ j, j < s → cs[o + j]? = xs[j]?) (hn : pureL xs = true) : VSem P N A (.load t x) ty σ (slots x) (.agg xs) :=
  ⟨fun r y hy => noOwn_pure (x := .agg xs) (by simpa [pureV] using hn) hy, fun hA σ' hD gv e ac w β F hi p o' ho _ => by
    have ex := hx.rep hA hD hi p
    simp only [Rep] at ex
    obtain ⟨hp, b, o1, arr, tt, fz, ex, hF, hh, hr⟩ := ex
    have key : ∀ j, j < s → ∃ c u, xs[j]? = some c ∧ arr.toList[o1 + o + j]? = some u ∧ Rep (fun _ => none) F w c p u := fun j hj => by
      have e1 : xs[j]? = some xs[j] := List.getElem?_eq_getElem (by omega)
      obtain ⟨u, hu, hru⟩ := RepL_iff.1 hr (o + j) xs[j] ((hc hA j hj).trans e1)
      exact ⟨_, u, e1, by simpa [Nat.add_assoc] using hu, hru.pure_any (pureL_mem hn (List.getElem_mem (by omega)))⟩
    refine ⟨.agg (((arr.toList.drop (o1 + o)).take s).toArray), ?_, ?_⟩
    · have hlen : ((arr.toList.drop (o1 + o)).take s).length = s := by
        rcases Nat.eq_zero_or_pos s with h0 | h0
        · subst h0; simp
        · obtain ⟨_, u, _, hu, _⟩ := key (s - 1) (by omega)
          have : o1 + o + (s - 1) < arr.toList.length := by
            rcases Nat.lt_or_ge (o1 + o + (s - 1)) arr.toList.length with h | h
            · exact h
            · rw [List.getElem?_eq_none h] at hu; cases hu
          simp at this ⊢; omega
      have := run_loadVar_agg (P := P) (b := b) (o := o1 + o) ht (w := w) hlen (fun j v hv => by
        rw [cell_of hh]
        rw [List.getElem?_take] at hv
        split at hv
        · simpa using hv
        · cases hv)
      simp [execOp, ho, ex, this]
    · simp only [Rep]
      refine ⟨_, rfl, ?_, RepL_iff.2 fun j c hj => ?_⟩
      · rcases Nat.eq_zero_or_pos s with h0 | h0
        · subst h0; simp; omega
        · obtain ⟨_, u, _, hu, _⟩ := key (s - 1) (by omega)
          have : o1 + o + (s - 1) < arr.toList.length := by
            rcases Nat.lt_or_ge (o1 + o + (s - 1)) arr.toList.length with h | h
            · exact h
            · rw [List.getElem?_eq_none h] at hu; cases hu
          simp at this ⊢; omega
      · have hj' : j < s := by
          rcases Nat.lt_or_ge j s with h | h
          · exact h
          · rw [List.getElem?_eq_none (by omega)] at hj; cases hj
        obtain ⟨c', u, hc', hu, hru⟩ := key j hj'
        rw [hj] at hc'; cases hc'
        refine ⟨u, ?_, hru.pure_any (pureL_mem hn (List.mem_of_getElem? hj))⟩
        rw [List.getElem?_take, if_pos hj']
        simpa using hu⟩
end
end Go.Av
namespace Go.Av
open Go
def blk (σ : Sig) (q : Place) : Option (List AV) :=
  match node (σ q.1) q.2 with
  | some (.osl _ cs _ _) => some cs
  | some (.op cs) => some cs
  | _ => none
theorem blk_agree {σ σ0 : Sig} {q : Place} (h : σ q.1 = σ0 q.1) : blk σ q = blk σ0 q := by simp [blk, h]
theorem blk_spec {σ : Sig} {q : Place} {cs : List AV} (h : blk σ q = some cs) : ∃ z, node (σ q.1) q.2 = some z ∧ z.isOwn = true ∧ kids z = cs := by
  unfold blk at h
  split at h
  · rename_i sz cs' n cap hz; cases h; exact ⟨_, hz, rfl, rfl⟩
  · rename_i cs' hz; cases h; exact ⟨_, hz, rfl, rfl⟩
  · cases h
section
variable {e : Ctx} {σ : Sig} {val : Nat → Value} {w : World} {β : Place → Option (Nat × Nat)} {F : Nat → Prop}
theorem Inv.block (h : Inv e σ val w β F) {q : Place} {cs : List AV} (hq : blk σ q = some cs) :
    (β q = none ∧ cs = []) ∨ ∃ b s arr t, β q = some (b, s) ∧ w.heap[b]? = some (.cells arr t (0, 0)) ∧ RepL β F w cs q 0 arr.toList ∧ noRefL cs = true := by
  obtain ⟨z, hz, ho, hk⟩ := blk_spec hq
  obtain ⟨u, hu⟩ := (h.rep q.1).sub hz
  have e1 : ((q.1, ([] : List Nat) ++ q.2) : Place) = q := by simp
  dsimp only at hu
  rw [e1] at hu
  cases z <;> simp [AV.isOwn] at ho <;> simp only [kids] at hk <;> subst hk <;> simp only [Rep] at hu
  · rcases hu with ⟨h1, _, h2, _⟩ | ⟨hn, b, capv, arr, t, h1, _, _, _, h2, _, h3⟩
    · exact .inl ⟨h1, h2⟩
    · exact .inr ⟨b, _, arr, t, h1, h2, h3, hn⟩
  · obtain ⟨hn, b, arr, t, h1, _, h2, h3⟩ := hu
    exact .inr ⟨b, _, arr, t, h1, h2, h3, hn⟩
end
section
variable {P : Program} {N : Nat} {A : Bool} {ty : TypeId} {σ : Sig} {x y z : Operand} {xt yt : TypeId}
theorem agree_one {α : Type} {σ σ0 : Nat → α} {D : List Nat} {i : Nat} (h : ∀ j ∈ D ++ [i], σ j = σ0 j) : σ i = σ0 i := h i (by simp)
theorem v_load_rp {t o : Nat} {q : Place} {cs : List AV} {c : AV} (ht : tyAgg P t = some (false, 1)) (hx : RdTo N A σ x (.rp q o)) (hq : blk σ q = some cs) (hc : A = true → cs[o]? = some c) :
    VSem P N A (.load t x) ty σ (slots x ++ [q.1]) (refd (q.1, q.2 ++ [o]) c) :=
  ⟨noOwn_refd _ _, fun hA σ' hD gv e ac w β F hi p o' ho _ => by
    have ex := hx.rep hA (agree_l hD) hi p
    simp only [Rep] at ex
    obtain ⟨b, s0, hb, ex⟩ := ex
    rcases hi.block ((blk_agree (agree_one hD)).trans hq) with ⟨h1, _⟩ | ⟨b', s1, arr, tt, h1, hh, hr, _⟩
    · rw [h1] at hb; cases hb
    · rw [h1] at hb; cases hb
      obtain ⟨u, hu, hru⟩ := RepL_iff.1 hr o c (hc hA)
      refine ⟨u, ?_, Rep.refd c (by simpa using hru)⟩
      have : w.cell? ⟨b, o, none⟩ = some u := by rw [cell_of hh]; simpa using hu
      simp [execOp, ho, ex, run_loadVar_one ht this]⟩
theorem v_load_rpa {t o s : Nat} {q : Place} {cs xs : List AV} (ht : tyAgg P t = some (true, s)) (hx : RdTo N A σ x (.rp q o)) (hq : blk σ q = some cs) (hl : xs.length = s)
    (hc : A = true → ∀ j, j < s → cs[o + j]? = xs[j]?) : VSem P N A (.load t x) ty σ (slots x ++ [q.1]) (.agg (refdL q o xs)) :=
  ⟨fun r y hy => by
    cases r with
    | nil => simp [node] at hy; subst hy; rfl
    | cons j r =>
      simp only [node, kids] at hy
      cases hc' : (refdL q o xs)[j]? with
      | none => rw [hc'] at hy; cases hy
      | some c => rw [hc'] at hy; exact noOwn_refdL xs q o c (List.mem_of_getElem? hc') r y hy,
   fun hA σ' hD gv e ac w β F hi p o' ho _ => by
    have ex := hx.rep hA (agree_l hD) hi p
    simp only [Rep] at ex
    obtain ⟨b, s0, hb, ex⟩ := ex
    rcases hi.block ((blk_agree (agree_one hD)).trans hq) with ⟨h1, _⟩ | ⟨b', s1, arr, tt, h1, hh, hr, _⟩
    · rw [h1] at hb; cases hb
    · rw [h1] at hb; cases hb
      have key : ∀ j (hj : j < s), ∃ u, arr.toList[o + j]? = some u ∧ Rep β F w (xs[j]'(by omega)) (q.1, q.2 ++ [o + j]) u := fun j hj => by
        have e1 : xs[j]? = some (xs[j]'(by omega)) := List.getElem?_eq_getElem (by omega)
        obtain ⟨u, hu, hru⟩ := RepL_iff.1 hr (o + j) _ ((hc hA j hj).trans e1)
        exact ⟨u, hu, by simpa using hru⟩
      have hlen : ((arr.toList.drop o).take s).length = s := by
        rcases Nat.eq_zero_or_pos s with h0 | h0
        · subst h0; simp
        · obtain ⟨u, hu, _⟩ := key (s - 1) (by omega)
          have : o + (s - 1) < arr.toList.length := by
            rcases Nat.lt_or_ge (o + (s - 1)) arr.toList.length with h | h
            · exact h
            · rw [List.getElem?_eq_none h] at hu; cases hu
          simp at this ⊢; omega
      refine ⟨.agg (((arr.toList.drop o).take s).toArray), ?_, ?_⟩
      · have := run_loadVar_agg (P := P) (b := b) (o := o) ht (w := w) hlen (fun j v hv => by
          rw [cell_of hh]
          rw [List.getElem?_take] at hv
          split at hv
          · simpa using hv
          · cases hv)
        simp [execOp, ho, ex, this]
      · simp only [Rep]
        refine ⟨_, rfl, by rw [hlen, refdL_length, hl], RepL_iff.2 fun j c hj => ?_⟩
        rw [refdL_get] at hj
        cases hx' : xs[j]? with
        | none => rw [hx'] at hj; cases hj
        | some c' =>
          rw [hx'] at hj
          simp at hj
          have hj' : j < s := by
            rcases Nat.lt_or_ge j s with h | h
            · exact h
            · rw [List.getElem?_eq_none (by omega)] at hx'; cases hx'
          obtain ⟨u, hu, hru⟩ := key j hj'
          have : xs[j]'(by omega) = c' := by rw [List.getElem?_eq_getElem (by omega)] at hx'; simpa using hx'
          rw [this] at hru
          refine ⟨u, ?_, ?_⟩
          · rw [List.getElem?_take, if_pos hj']; simpa using hu
          · rw [← hj]; exact Rep.refd c' hru⟩
theorem noOwn_kid {x c : AV} {i : Nat} (h : NoOwn x) (hc : (kids x)[i]? = some c) : NoOwn c := fun r y hy => h (i :: r) y (by simp [node, hc, hy])
theorem v_extract {i : Nat} {cs : List AV} {c : AV} (hx : rd N σ x = .tup cs) (hc : cs[i]? = some c) : VSem P N A (.extract x i) ty σ (slots x) c :=
  ⟨noOwn_kid (x := .tup cs) (by rw [← hx]; exact noOwn_rd x) (i := i) hc, fun hA σ' hD gv e ac w β F hi p o' ho _ => by
    have ex := rd_rep hi x p
    rw [rd_agree hD, hx] at ex
    simp only [Rep] at ex
    obtain ⟨vs, ex, _, hr⟩ := ex
    obtain ⟨u, hu, hru⟩ := RepL_iff.1 hr i c hc
    refine ⟨u, ?_, hru.tr _ (fun b hb => ⟨hb, rfl⟩) (fun r y hy ho => ?_) (fun _ _ => rfl)⟩
    · simp [execOp, ho, ex, Instr.extract, hu]
    · have := noOwn_kid (x := .tup cs) (by rw [← hx]; exact noOwn_rd x) (i := i) hc r y hy
      rw [this] at ho; cases ho⟩
def lenCall (x : Operand) (t : TypeId) : Op := .call { callee := .builtin .len, args := #[x], argTypes := #[t] }
def isSlice (P : Program) (t : Nat) : Bool := match P.underlying t with | some (.slice _) => true | _ => false
theorem run_len_any {t : Nat} (h : isSlice P t = true) (a : Option Addr) (n c : Nat) (ty : TypeId) (w : World) : (Builtin.len_ #[t] ty #[.slice a n c]).run P w = .ok (.int .i64 n) w := by
  unfold isSlice at h
  split at h
  · rename_i e he; simp [Builtin.len_, run_underlying he, goInt]
  · cases h
theorem v_len_of {t : Nat} {v : AV} {n : Nat} (ht : isSlice P t = true) (hx : RdTo N A σ x v) (hv : ∀ β F w p u, Rep β F w v p u → ∃ a c, u = .slice a n c) :
    VSem P N A (lenCall x t) ty σ (slots x) (.int .i64 n) :=
  ⟨noOwn_scalar rfl, fun hA σ' hD gv e ac w β F hi p o' ho hty => by
    obtain ⟨a, c, ex⟩ := hv _ _ _ _ _ (hx.rep hA hD hi p)
    refine ⟨.int .i64 n, ?_, by simp [Rep]⟩
    simp [execOp, ho, lenCall, resolve, invoke, builtin, ex, run_len_any ht]⟩
theorem v_len_sl {t n : Nat} {cs : List AV} (ht : isSlice P t = true) (hx : RdTo N A σ x (.sl cs n)) : VSem P N A (lenCall x t) ty σ (slots x) (.int .i64 n) :=
  v_len_of ht hx fun β F w p u h => by simp only [Rep] at h; obtain ⟨_, a, c, h, _⟩ := h; exact ⟨a, c, h⟩
theorem v_len_rsl {t sz off n : Nat} {q : Place} {cap : Option Nat} (ht : isSlice P t = true) (hx : RdTo N A σ x (.rsl q sz off n cap)) : VSem P N A (lenCall x t) ty σ (slots x) (.int .i64 n) :=
  v_len_of ht hx fun β F w p u h => by
    simp only [Rep] at h
    rcases h with ⟨_, ⟨a, h⟩, h', _⟩ | ⟨b, c, _, h, _⟩
    · subst h'; exact ⟨a, 0, h⟩
    · exact ⟨_, c, h⟩
theorem v_nilCheck {v : AV} (hx : RdTo N A σ x v) (hv : (match v with | .rp .. => true | .pp .. => true | _ => false) = true) : VSem P N A (.nilCheck x) ty σ (slots x) v :=
  ⟨by cases v <;> simp at hv <;> exact noOwn_scalar rfl, fun hA σ' hD gv e ac w β F hi p o' ho hty => by
    have ex := hx.rep hA hD hi p
    refine ⟨ac.eval x, ?_, ex⟩
    cases v <;> simp at hv <;> simp only [Rep] at ex
    · obtain ⟨_, b, o1, _, _, _, ex, _⟩ := ex; simp [execOp, ho, ex]
    · obtain ⟨b, _, _, ex⟩ := ex; simp [execOp, ho, ex]⟩
theorem repL_of_forall {β : Place → Option (Nat × Nat)} {F : Nat → Prop} {w : World} {cs : List AV} {p : Place} {vs : List Value} (hl : vs.length = cs.length)
    (h : ∀ i c v, cs[i]? = some c → vs[i]? = some v → Rep β F w c (p.1, p.2 ++ [i]) v) : RepL β F w cs p 0 vs :=
  RepL_iff.2 fun i c hc => by
    have hi : i < vs.length := by
      rcases Nat.lt_or_ge i cs.length with h | h
      · omega
      · rw [List.getElem?_eq_none h] at hc; cases hc
    exact ⟨vs[i], List.getElem?_eq_getElem hi, by simpa using h i c vs[i] hc (List.getElem?_eq_getElem hi)⟩
def slotsL (xs : List Operand) : List Nat := xs.flatMap slots
theorem rep_map {β : Place → Option (Nat × Nat)} {F : Nat → Prop} {w : World} {gv : Nat → Value} {e : Ctx} {a : Act} {σ0 : Sig} (hi : Inv e σ (valOf N gv a) w β F) (p : Place) (xs : List Operand) (hD : ∀ i ∈ slotsL xs, σ i = σ0 i) :
    RepL β F w (xs.map (rd N σ0)) p 0 (xs.map a.eval) :=
  repL_of_forall (by simp) fun i c v hc hv => by
    rw [List.getElem?_map] at hc hv
    cases hx : xs[i]? with
    | none => rw [hx] at hc; cases hc
    | some x =>
      rw [hx] at hc hv
      simp at hc hv
      subst hc hv
      rw [← rd_agree (N := N) (σ := σ) (fun i hi' => hD i (List.mem_flatMap.2 ⟨x, List.mem_of_getElem? hx, hi'⟩))]
      exact rd_rep hi x _
theorem v_makeFunc {f : FuncId} {first caps : List Operand} (h1 : scalarL (first.map (rd N σ)) = true) (h2 : scalarL (caps.map (rd N σ)) = true) :
    VSem P N A (.makeFunc (.func f) first.toArray caps.toArray) ty σ (slotsL first ++ slotsL caps) (.fn f (first.map (rd N σ)) (caps.map (rd N σ))) :=
  ⟨fun r y hy => by
    cases r with
    | nil => simp [node] at hy; subst hy; rfl
    | cons j r => simp [node, kids] at hy,
   fun hA σ' hD gv e ac w β F hi p o' ho hty => by
    refine ⟨.func (.func f) (first.map ac.eval).toArray (caps.map ac.eval).toArray, by simp [execOp, ho, Instr.makeFunc], ?_⟩
    simp only [Rep]
    exact ⟨_, _, rfl, by simp, by simp, h1, h2, rep_map hi p first (agree_l hD), rep_map hi p caps (agree_r hD)⟩⟩
def maxCall (x y : Operand) (t : TypeId) : Op := .call { callee := .builtin .max, args := #[x, y], argTypes := #[t, t] }
theorem v_max {t : Nat} {k : IntKind} {m n : Int} (hx : RdTo N A σ x (.int k m)) (hy : RdTo N A σ y (.int k n)) : VSem P N A (maxCall x y t) ty σ (slots x ++ slots y) (.int k (max m n)) :=
  ⟨noOwn_scalar rfl, fun hA σ' hD gv e ac w β F hi p o' ho hty => by
    have ex := hx.rep hA (agree_l hD) hi p
    have ey := hy.rep hA (agree_r hD) hi p
    simp only [Rep] at ex ey
    have e1 : (if m < n then n else m) = max m n := by split <;> omega
    refine ⟨.int k (max m n), ?_, by simp [Rep]⟩
    simp [execOp, ho, maxCall, resolve, invoke, builtin, ex, ey, run_max_int2, e1]⟩
theorem v_conv {s d : Nat} {k k' : IntKind} {n : Int} (hs : (P.underlying s).isSome = true) (hd : P.underlying d = some (.int k')) (hx : RdTo N A σ x (.int k n)) (hb : A = true → k'.wrap n = n) :
    VSem P N A (.convert s d x) ty σ (slots x) (.int k' n) :=
  ⟨noOwn_scalar rfl, fun hA σ' hD gv e ac w β F hi p o' ho hty => by
    have ex := hx.rep hA hD hi p
    simp only [Rep] at ex
    refine ⟨.int k' n, ?_, by simp [Rep]⟩
    obtain ⟨u, hu⟩ := Option.isSome_iff_exists.1 hs
    simp [execOp, ho, convert, run_underlying hu, run_underlying hd, ex, Conv.intToInt, hb hA]⟩
theorem v_index_str {t : Nat} {s : ByteArray} {k : IntKind} {i : Int} (ht : P.underlying t = some .string) (hx : RdTo N A σ x (.str s)) (hy : RdTo N A σ y (.int k i)) (hb : A = true → 0 ≤ i ∧ i < s.size) :
    VSem P N A (.index t x y) ty σ (slots x ++ slots y) (.int .u8 (s.data.toList.getD i.toNat 0).toNat) :=
  ⟨noOwn_scalar rfl, fun hA σ' hD gv e ac w β F hi p o' ho hty => by
    have ex := hx.rep hA (agree_l hD) hi p
    have ey := hy.rep hA (agree_r hD) hi p
    simp only [Rep] at ex ey
    obtain ⟨h0, h1⟩ := hb hA
    have hlt : i.toNat < s.size := by omega
    refine ⟨_, ?_, by simp only [Rep]; rfl⟩
    simp [execOp, ho, ex, ey, Instr.index, asIntOf, run_underlying ht, h0, hlt]; rfl⟩
end
end Go.Av
namespace Go.Av
open Go
section
variable {P : Program} {N : Nat} {A : Bool} {ty : TypeId} {σ : Sig} {x y z : Operand} {xt yt : TypeId}
theorem repL_sub {F : Nat → Prop} {w : World} {cs : List AV} {p p' : Place} {vs : List Value} (hp : pureL cs = true) (h : RepL (fun _ => none) F w cs p 0 vs) (k m : Nat) :
    RepL (fun _ => none) F w ((cs.drop k).take m) p' 0 (vs.drop k) :=
  RepL_iff.2 fun i c hc => by
    rw [List.getElem?_take] at hc
    split at hc
    · rw [List.getElem?_drop] at hc
      obtain ⟨u, hu, hr⟩ := RepL_iff.1 h _ c hc
      exact ⟨u, by rw [List.getElem?_drop]; exact hu, hr.pure_any (pureL_mem hp (List.mem_of_getElem? hc))⟩
    · cases hc
theorem pureL_sub {cs : List AV} (h : pureL cs = true) (k m : Nat) : pureL ((cs.drop k).take m) = true :=
  pureL_iff.2 fun _ hc => pureL_mem h (List.mem_of_mem_drop (List.mem_of_mem_take hc))
def boundIs (o : Option Value) (d n : Nat) : Prop := (o = none ∧ n = d) ∨ ∃ k, o = some (.int k n)
theorem run_bound {o : Option Value} {d n y : Nat} {code : BoundsCode} (h : boundIs o d n) (hn : n ≤ y) (w : World) :
    (match o with | some v => Instr.sliceBound v y code | none => pure d : Sem Nat).run P w = .ok n w := by
  rcases h with ⟨rfl, rfl⟩ | ⟨k, rfl⟩
  · rfl
  · have : (n : Int) ≤ (y : Int) := by omega
    simp [Instr.sliceBound, asIntOf, this]
theorem run_slice_val {t sz n cap l h : Nat} {a : Option Addr} {lo hi : Option Value} (ht : elemSize P t = some sz) (hl : boundIs lo 0 l) (hh : boundIs hi n h) (h1 : l ≤ h) (h2 : h ≤ cap) (w : World) :
    (Instr.sliceAt t (.slice a n cap) lo hi none).run P w = .ok (.slice (if cap = l then a else a.map (·.add (l * sz))) (h - l) (cap - l)) w := by
  obtain ⟨e, i, he, hi', hs⟩ := elemSize_spec ht
  have e1 : (Instr.sliceBounds true n cap lo hi none).run P w = .ok (l, h, cap) w := by
    have b1 := fun code => run_bound (P := P) (code := code) hh h2 w
    have b2 := fun code => run_bound (P := P) (code := code) hl h1 w
    rcases hh with ⟨rfl, rfl⟩ | ⟨k, rfl⟩ <;> rcases hl with ⟨rfl, rfl⟩ | ⟨k', rfl⟩ <;> simp [Instr.sliceBounds] at b1 b2 ⊢ <;> simp [b1, b2]
  simp [Instr.sliceAt, Instr.slice, run_underlying he, e1, sizeOf, typeInfo, hi', hs]
def BdTo (N : Nat) (A : Bool) (σ : Sig) (o : Option Operand) (d n : Nat) : Prop := (o = none ∧ n = d) ∨ ∃ x k, o = some x ∧ RdTo N A σ x (.int k n)
def slotsO : Option Operand → List Nat
  | some x => slots x
  | none => []
theorem BdTo.is {o : Option Operand} {d n : Nat} {σ' : Sig} (h : BdTo N A σ o d n) (hA : A = true) (hD : ∀ i ∈ slotsO o, σ' i = σ i)
    {gv : Nat → Value} {e : Ctx} {a : Act} {w : World} {β : Place → Option (Nat × Nat)} {F : Nat → Prop} (hi : Inv e σ' (valOf N gv a) w β F) : boundIs (o.map a.eval) d n := by
  rcases h with ⟨rfl, rfl⟩ | ⟨x, k, rfl, h⟩
  · exact .inl ⟨rfl, rfl⟩
  · have := h.rep hA hD hi (0, [])
    simp only [Rep] at this
    exact .inr ⟨k, by simp [this]⟩
theorem v_slice_sl {t sz n l h : Nat} {cs : List AV} {lo hi : Option Operand} (ht : elemSize P t = some sz) (hx : RdTo N A σ x (.sl cs n)) (hl : BdTo N A σ lo 0 l) (hh : BdTo N A σ hi n h)
    (hb : A = true → l ≤ h ∧ h ≤ n) : VSem P N A (.slice t x lo hi none) ty σ (slots x ++ (slotsO lo ++ slotsO hi)) (.sl ((cs.drop (l * sz)).take ((h - l) * sz)) (h - l)) :=
  ⟨noOwn_scalar rfl, fun hA σ' hD gv e ac w β F hi' p o' ho hty => by
    have ex := hx.rep hA (agree_l hD) hi' p
    have bl := hl.is hA (agree_l (agree_r hD)) hi'
    have bh := hh.is hA (agree_r (agree_r hD)) hi'
    obtain ⟨h1, h2⟩ := hb hA
    simp only [Rep] at ex
    obtain ⟨hp, a, cap, ex, hn, hr⟩ := ex
    refine ⟨_, by simp [execOp, ho, ex, run_slice_val ht bl bh h1 (Nat.le_trans h2 hn)]; rfl, ?_⟩
    simp only [Rep]
    refine ⟨pureL_sub hp _ _, _, _, rfl, by omega, fun hne => ?_⟩
    have hcs : cs ≠ [] := fun h => by subst h; simp at hne
    obtain ⟨b, off, arr, tt, fz, rfl, hF, hh', hrep⟩ := hr hcs
    have hcl : cap ≠ l := fun hc => hne (by rw [show h - l = 0 by omega]; simp)
    refine ⟨b, off + l * sz, arr, tt, fz, by simp [hcl, add_none], hF, hh', ?_⟩
    have := repL_sub (p' := p) hp hrep (l * sz) ((h - l) * sz)
    rw [List.drop_drop] at this
    exact this⟩
theorem v_slice_rsl {t sz off n l h : Nat} {q : Place} {cap : Option Nat} {lo hi : Option Operand} (ht : elemSize P t = some sz) (hx : RdTo N A σ x (.rsl q sz off n cap)) (hl : BdTo N A σ lo 0 l) (hh : BdTo N A σ hi n h)
    (hb : A = true → l ≤ h ∧ h ≤ n ∧ (l = 0 ∨ l < h)) : VSem P N A (.slice t x lo hi none) ty σ (slots x ++ (slotsO lo ++ slotsO hi)) (.rsl q sz (off + l * sz) (h - l) (cap.map (· - l))) :=
  ⟨noOwn_scalar rfl, fun hA σ' hD gv e ac w β F hi' p o' ho hty => by
    have ex := hx.rep hA (agree_l hD) hi' p
    have bl := hl.is hA (agree_l (agree_r hD)) hi'
    have bh := hh.is hA (agree_r (agree_r hD)) hi'
    obtain ⟨h1, h2, h3⟩ := hb hA
    simp only [Rep] at ex
    rcases ex with ⟨hq, ⟨a, ex⟩, hn, hc⟩ | ⟨b, capv, hq, ex, hn, hc⟩
    · subst hn
      obtain rfl : h = 0 := by omega
      obtain rfl : l = 0 := by omega
      refine ⟨_, by simp [execOp, ho, ex, run_slice_val ht bl bh h1 (Nat.le_refl 0)]; rfl, ?_⟩
      simp only [Rep]
      exact .inl ⟨hq, ⟨a, rfl⟩, by simp, fun c hc' => by cases cap <;> simp at hc'; rename_i c0; have := hc c0 rfl; omega⟩
    · refine ⟨_, by simp [execOp, ho, ex, run_slice_val ht bl bh h1 (Nat.le_trans h2 hn)]; rfl, ?_⟩
      simp only [Rep]
      refine .inr ⟨b, capv - l, by rw [hq, Nat.add_assoc, ← Nat.add_mul, Nat.add_sub_cancel' (by omega)], ?_, by omega, fun c hc' => ?_⟩
      · rcases h3 with rfl | h3
        · simp [add_none]
        · have : capv ≠ l := by omega
          simp [this, add_none]
      · cases cap with
        | none => cases hc'
        | some c0 => simp at hc'; have := hc c0 rfl; omega⟩
end
end Go.Av
namespace Go.Av
open Go
def setKids : AV → List AV → AV
  | .agg _, cs => .agg cs
  | .tup _, cs => .tup cs
  | .osl sz _ n cap, cs => .osl sz cs n cap
  | .op _, cs => .op cs
  | x, _ => x
def setNode : AV → List Nat → AV → AV
  | _, [], y => y
  | x, j :: r, y => match (kids x)[j]? with
    | some c => setKids x ((kids x).set j (setNode c r y))
    | none => x
theorem kids_setKids {x : AV} {cs : List AV} (h : kids x ≠ []) : kids (setKids x cs) = cs := by cases x <;> simp [kids, setKids] at *
theorem own_setKids {x : AV} {cs : List AV} : (setKids x cs).isOwn = x.isOwn := by cases x <;> rfl
theorem noRefL_set {cs : List AV} {i : Nat} {c : AV} (h : noRefL cs = true) (hc : noRef c = true) : noRefL (cs.set i c) = true := by
  induction cs generalizing i with
  | nil => simpa using h
  | cons d cs ih =>
    simp only [noRefL, Bool.and_eq_true] at h
    cases i with
    | zero => simp [noRefL, hc, h.2]
    | succ i => simp [noRefL, h.1, ih h.2]
theorem noRefL_iff {cs : List AV} : noRefL cs = true ↔ ∀ c ∈ cs, noRef c = true := by
  constructor
  · intro h c hc; exact noRefL_mem h hc
  · intro h
    induction cs with
    | nil => rfl
    | cons d cs ih => simp only [noRefL, Bool.and_eq_true]; exact ⟨h d (by simp), ih fun c hc => h c (by simp [hc])⟩
theorem node_setNode : ∀ {r : List Nat} {x y z : AV} {r' : List Nat} {z' : AV}, node x r = some z → node (setNode x r y) r' = some z' →
    (∃ t, r' = r ++ t ∧ node y t = some z') ∨ (¬ r <+: r' ∧ ∃ z0, node x r' = some z0 ∧ z0.isOwn = z'.isOwn) := by
  intro r
  induction r with
  | nil => intro x y z r' z' _ h; exact .inl ⟨r', rfl, h⟩
  | cons j r ih =>
    intro x y z r' z' hz h
    simp only [node] at hz
    cases hc : (kids x)[j]? with
    | none => rw [hc] at hz; cases hz
    | some c =>
      rw [hc] at hz
      simp only [setNode, hc] at h
      have hk : kids x ≠ [] := fun h => by rw [h] at hc; cases hc
      cases r' with
      | nil =>
        right
        simp only [node, Option.some.injEq] at h
        subst h
        exact ⟨by simp, x, rfl, own_setKids.symm⟩
      | cons j' r' =>
        simp only [node, kids_setKids hk, List.getElem?_set] at h
        by_cases hj : j = j'
        · subst hj
          have hlt : j < (kids x).length := by
            rcases Nat.lt_or_ge j (kids x).length with h | h
            · exact h
            · rw [List.getElem?_eq_none h] at hc; cases hc
          rw [if_pos rfl, if_pos hlt] at h
          dsimp only at h
          rcases ih hz h with ⟨t, rfl, ht⟩ | ⟨hn, z0, h0, ho⟩
          · exact .inl ⟨t, rfl, ht⟩
          · exact .inr ⟨fun hp => hn (by simpa using hp), z0, by simp [node, hc, h0], ho⟩
        · rw [if_neg hj] at h
          right
          cases hc' : (kids x)[j']? with
          | none => rw [hc'] at h; cases h
          | some c' =>
            rw [hc'] at h
            exact ⟨fun hp => hj (by have := List.cons_prefix_cons.1 hp; exact this.1), z', by simp [node, hc', h], rfl⟩
section
variable {β β' : Place → Option (Nat × Nat)} {F F' : Nat → Prop} {w w' : World}
theorem repL_set {cs : List AV} {p : Place} {vs : List Value} {j : Nat} {c : AV} (h : RepL β F w cs p 0 vs) (hc : ∀ u, vs[j]? = some u → Rep β F w c (p.1, p.2 ++ [j]) u) : RepL β F w (cs.set j c) p 0 vs :=
  RepL_iff.2 fun i d hd => by
    rw [List.getElem?_set] at hd
    by_cases hij : j = i
    · subst hij
      rw [if_pos rfl] at hd
      split at hd
      · rename_i hlt
        cases hd
        obtain ⟨u, hu, _⟩ := RepL_iff.1 h j _ (List.getElem?_eq_getElem hlt)
        exact ⟨u, hu, by simpa using hc u hu⟩
      · cases hd
    · rw [if_neg hij] at hd
      exact RepL_iff.1 h i d hd
theorem Rep.setNode {y z : AV} (hn : noRef y = true) : ∀ {r : List Nat} {x : AV} {p : Place} {v : Value}, Rep β F w x p v → node x r = some z →
    (∀ u, Rep β F w z (p.1, p.2 ++ r) u → Rep β F w y (p.1, p.2 ++ r) u) → Rep β F w (setNode x r y) p v := by
  intro r
  induction r with
  | nil => intro x p v h hz hy; simp only [node, Option.some.injEq] at hz; subst hz; simpa [Av.setNode] using hy v (by simpa using h)
  | cons j r ih =>
    intro x p v h hz hy
    simp only [node] at hz
    cases hc : (kids x)[j]? with
    | none => rw [hc] at hz; cases hz
    | some c =>
      rw [hc] at hz
      simp only [Av.setNode, hc]
      have hchild : ∀ u, Rep β F w c (p.1, p.2 ++ [j]) u → Rep β F w (Av.setNode c r y) (p.1, p.2 ++ [j]) u := fun u hu =>
        ih hu hz (fun u' hu' => by simpa using hy u' (by simpa using hu'))
      have hnr : noRef c = true → noRef (Av.setNode c r y) = true := by
        clear ih hy hchild hc h
        induction r generalizing c with
        | nil => intro _; simpa [Av.setNode] using hn
        | cons i r ih =>
          intro hcr
          simp only [node] at hz
          cases hd : (kids c)[i]? with
          | none => rw [hd] at hz; cases hz
          | some d =>
            rw [hd] at hz
            simp only [Av.setNode, hd]
            have hm := List.mem_of_getElem? hd
            cases c <;> simp only [kids, List.not_mem_nil] at hm <;> simp only [noRef] at hcr <;> simp only [setKids, noRef, kids] <;> exact noRefL_set hcr (ih d hz (noRefL_mem hcr hm))
      have hmem := List.mem_of_getElem? hc
      cases x <;> simp only [kids, List.getElem?_nil, reduceCtorEq] at hc <;> simp only [Rep] at h <;> simp only [setKids, kids, Rep]
      · obtain ⟨vs, rfl, hl, h⟩ := h
        refine ⟨vs, rfl, by simpa using hl, repL_set h fun u hu => hchild u ?_⟩
        obtain ⟨u', hu', hr⟩ := RepL_iff.1 h j c hc
        rw [hu] at hu'; cases hu'; simpa using hr
      · obtain ⟨vs, rfl, hl, h⟩ := h
        refine ⟨vs, rfl, by simpa using hl, repL_set h fun u hu => hchild u ?_⟩
        obtain ⟨u', hu', hr⟩ := RepL_iff.1 h j c hc
        rw [hu] at hu'; cases hu'; simpa using hr
      · rcases h with ⟨_, _, h, _⟩ | ⟨hnl, b, capv, arr, t, h1, h2, h3, h4, h5, h6, h⟩
        · subst h; simp at hc
        · refine .inr ⟨noRefL_set hnl (hnr (noRefL_mem hnl (List.mem_of_getElem? hc))), b, capv, arr, t, h1, h2, h3, h4, h5, h6, repL_set h fun u hu => hchild u ?_⟩
          obtain ⟨u', hu', hr⟩ := RepL_iff.1 h j c hc
          rw [hu] at hu'; cases hu'; simpa using hr
      · obtain ⟨hnl, b, arr, t, h1, h2, h3, h⟩ := h
        refine ⟨noRefL_set hnl (hnr (noRefL_mem hnl (List.mem_of_getElem? hc))), b, arr, t, h1, h2, h3, repL_set h fun u hu => hchild u ?_⟩
        obtain ⟨u', hu', hr⟩ := RepL_iff.1 h j c hc
        rw [hu] at hu'; cases hu'; simpa using hr
end
structure Det (e : Ctx) (σ : Sig) (w : World) (β : Place → Option (Nat × Nat)) (F : Nat → Prop) (c : AV) (u : Value) (δ : List Nat → Option (Nat × Nat)) : Prop where
  rep : Rep (fun q => δ q.2) F w c (0, []) u
  nr : refs c = []
  inj : ∀ r r' y y' b s s', node c r = some y → y.isOwn = true → node c r' = some y' → y'.isOwn = true → δ r = some (b, s) → δ r' = some (b, s') → r = r'
  sep : ∀ r y b s, node c r = some y → y.isOwn = true → δ r = some (b, s) → ¬ F b ∧ (e.w0.heap.size ≤ b ∨ e.inh b) ∧ ∀ q s', OwnAt σ q → β q ≠ some (b, s')
section
variable {e : Ctx} {σ : Sig} {val : Nat → Value} {w w' : World} {β : Place → Option (Nat × Nat)} {F : Nat → Prop}
theorem Inv.attach (h : Inv e σ val w β F) (d : Nat) {c : AV} {u : Value} {δ : List Nat → Option (Nat × Nat)} (hd : Det e σ w β F c u δ) :
    Inv e (upd (fun i => purgeV d (σ i)) d c) (upd val d u) w (fun q => if q.1 = d then δ q.2 else β q) F :=
  h.install d (β1 := fun q => δ q.2) (hd.rep.tr _ (fun b hb => ⟨hb, rfl⟩) (fun r y _ _ => ⟨by simp, fun _ _ _ => rfl⟩) (fun _ _ => rfl)) hd.nr
    (fun r r' y y' b s s' => hd.inj r r' y y' b s s') (fun r y b s hy ho hb => ⟨(hd.sep r y b s hy ho hb).1, (hd.sep r y b s hy ho hb).2.1, fun q s' hq _ => (hd.sep r y b s hy ho hb).2.2 q s' hq⟩)
def hole (σ : Sig) (q : Place) : Sig := upd σ q.1 (setNode (σ q.1) q.2 .undef)
theorem ownAt_hole {q q' : Place} {z : AV} (hz : node (σ q.1) q.2 = some z) (h : OwnAt (hole σ q) q') : OwnAt σ q' ∧ ¬ (q'.1 = q.1 ∧ q.2 <+: q'.2) := by
  by_cases hi : q'.1 = q.1
  · obtain ⟨y, hy, ho⟩ := h
    unfold hole at hy
    rw [hi, upd_same] at hy
    rcases node_setNode hz hy with ⟨t, ht, hy'⟩ | ⟨hn, z0, h0, ho'⟩
    · cases t with
      | nil => simp [node] at hy'; subst hy'; simp [AV.isOwn] at ho
      | cons j t => simp [node, kids] at hy'
    · exact ⟨⟨z0, by rw [hi]; exact h0, ho'.trans ho⟩, fun hp => hn hp.2⟩
  · exact ⟨(own_upd_other hi).1 h, fun hp => hi hp.1⟩
theorem Inv.hole (h : Inv e σ val w β F) {q : Place} {z : AV} (hz : node (σ q.1) q.2 = some z) : Inv e (hole σ q) val w β F :=
  h.weak (fun i => by
    by_cases hi : i = q.1
    · subst hi
      simp only [Av.hole, upd_same]
      exact (h.rep q.1).setNode (y := .undef) rfl hz (fun _ _ => by simp [Rep])
    · simp only [Av.hole, upd_other _ _ hi]
      exact h.rep i) (fun q' hq' => (ownAt_hole hz hq').1)
theorem node_append : ∀ {s : List Nat} {x z y : AV} {r : List Nat}, node x s = some z → node z r = some y → node x (s ++ r) = some y := by
  intro s
  induction s with
  | nil => intro x z y r hz hy; simp only [node, Option.some.injEq] at hz; subst hz; simpa using hy
  | cons j s ih =>
    intro x z y r hz hy
    simp only [node] at hz
    cases hc : (kids x)[j]? with
    | none => rw [hc] at hz; cases hz
    | some c => rw [hc] at hz; simp only [List.cons_append, node, hc]; exact ih hz hy
theorem ownAt_sub {q : Place} {z y : AV} {r : List Nat} (hz : node (σ q.1) q.2 = some z) (hy : node z r = some y) (ho : y.isOwn = true) : OwnAt σ (q.1, q.2 ++ r) :=
  ⟨y, node_append hz hy, ho⟩
theorem Inv.detach_sl (h : Inv e σ val w β F) {q : Place} {sz n n' : Nat} {cap cap' : Option Nat} {cs : List AV} (hz : node (σ q.1) q.2 = some (.osl sz cs n' cap')) {p : Place} {u : Value}
    (hu : Rep β F w (.rsl q sz 0 n cap) p u) : Det e (Av.hole σ q) w β F (.osl sz cs n cap) u (fun r => β (q.1, q.2 ++ r)) where
  rep := by
    obtain ⟨v, hv⟩ := (h.rep q.1).sub hz
    simp only [List.nil_append] at hv
    simp only [Rep] at hv hu ⊢
    simp only [List.append_nil]
    rcases hv with ⟨h1, _, h3, _⟩ | ⟨hn, b, capv, arr, t, h1, _, _, _, h5, h6, h7⟩
    · rcases hu with ⟨_, ⟨a, rfl⟩, rfl, hc⟩ | ⟨b', _, h2, _⟩
      · exact .inl ⟨h1, ⟨a, rfl⟩, h3, rfl, hc⟩
      · rw [h1] at h2; cases h2
    · rcases hu with ⟨h2, _⟩ | ⟨b', capv', h2, hu, h3, h4⟩
      · rw [h1] at h2; cases h2
      · rw [h1] at h2
        simp only [Option.some.injEq, Prod.mk.injEq, Nat.zero_add] at h2
        obtain ⟨rfl, hs⟩ := h2
        refine .inr ⟨hn, b, capv', arr, t, by rw [h1, hs], hu, h3, h4, h5, h6.trans hs, h7.tr _ (fun b hb => ⟨hb, rfl⟩) (fun i c r y hc hy ho => ⟨by simp, fun _ _ _ => rfl⟩) (fun c hc q' hq' => ?_)⟩
        rw [refs_of_noRef c (noRefL_mem hn hc)] at hq'; cases hq'
  nr := rfl
  inj r r' y y' b s s' hy ho hy' ho' hb hb' := by
    have key : ∀ {r : List Nat} {y : AV}, node (.osl sz cs n cap) r = some y → y.isOwn = true → ∃ y', node (.osl sz cs n' cap') r = some y' ∧ y'.isOwn = true := fun {r y} hy ho => by
      cases r with
      | nil => exact ⟨_, rfl, rfl⟩
      | cons j r => exact ⟨y, by simpa [node, kids] using hy, ho⟩
    obtain ⟨z, hz1, ho1⟩ := key hy ho
    obtain ⟨z', hz2, ho2⟩ := key hy' ho'
    have := h.disj _ _ b s s' (ownAt_sub hz hz1 ho1) (ownAt_sub hz hz2 ho2) hb hb'
    simpa using this
  sep r y b s hy ho hb := by
    have key : ∃ y', node (.osl sz cs n' cap') r = some y' ∧ y'.isOwn = true := by
      cases r with
      | nil => exact ⟨_, rfl, rfl⟩
      | cons j r => exact ⟨y, by simpa [node, kids] using hy, ho⟩
    obtain ⟨z, hz1, ho1⟩ := key
    have hq := ownAt_sub hz hz1 ho1
    refine ⟨(h.sep _ b s hq hb).1, (h.sep _ b s hq hb).2, fun q' s' hq' hb' => ?_⟩
    have ⟨h1, h2⟩ := ownAt_hole hz hq'
    have := h.disj _ _ b s s' hq h1 hb hb'
    exact h2 (by rw [← this]; exact ⟨rfl, List.prefix_append _ _⟩)
theorem Inv.detach_op (h : Inv e σ val w β F) {q : Place} {cs : List AV} (hz : node (σ q.1) q.2 = some (.op cs)) {p : Place} {u : Value}
    (hu : Rep β F w (.rp q 0) p u) : Det e (Av.hole σ q) w β F (.op cs) u (fun r => β (q.1, q.2 ++ r)) where
  rep := by
    obtain ⟨v, hv⟩ := (h.rep q.1).sub hz
    simp only [List.nil_append] at hv
    simp only [Rep] at hv hu ⊢
    simp only [List.append_nil]
    obtain ⟨hn, b, arr, t, h1, _, h3, h4⟩ := hv
    obtain ⟨b', s', h2, hu⟩ := hu
    rw [h1] at h2
    simp only [Option.some.injEq, Prod.mk.injEq] at h2
    obtain ⟨rfl, _⟩ := h2
    refine ⟨hn, b, arr, t, h1, hu, h3, h4.tr _ (fun b hb => ⟨hb, rfl⟩) (fun i c r y hc hy ho => ⟨by simp, fun _ _ _ => rfl⟩) (fun c hc q' hq' => ?_)⟩
    rw [refs_of_noRef c (noRefL_mem hn hc)] at hq'; cases hq'
  nr := rfl
  inj r r' y y' b s s' hy ho hy' ho' hb hb' := by
    have := h.disj _ _ b s s' (ownAt_sub hz hy ho) (ownAt_sub hz hy' ho') hb hb'
    simpa using this
  sep r y b s hy ho hb := by
    have hq := ownAt_sub hz hy ho
    refine ⟨(h.sep _ b s hq hb).1, (h.sep _ b s hq hb).2, fun q' s' hq' hb' => ?_⟩
    have ⟨h1, h2⟩ := ownAt_hole hz hq'
    have := h.disj _ _ b s s' hq h1 hb hb'
    exact h2 (by rw [← this]; exact ⟨rfl, List.prefix_append _ _⟩)
end
end Go.Av
namespace Go.Av
open Go
section
variable {e : Ctx} {σ σ' : Sig} {val : Nat → Value} {w w' : World} {β : Place → Option (Nat × Nat)} {F : Nat → Prop} {c : AV} {u : Value} {δ δ' : List Nat → Option (Nat × Nat)}
theorem Det.world (h : Det e σ w β F c u δ) (hF : ∀ b, F b → w'.heap[b]? = w.heap[b]?) (hO : ∀ r y b s, node c r = some y → y.isOwn = true → δ r = some (b, s) → w'.heap[b]? = w.heap[b]?) : Det e σ w' β F c u δ where
  rep := h.rep.tr _ (fun b hb => ⟨hb, hF b hb⟩) (fun r y hy ho => ⟨rfl, fun b s hb => hO r y b s hy ho (by simpa using hb)⟩) (fun _ _ => rfl)
  nr := h.nr
  inj := h.inj
  sep := h.sep
theorem Det.fewer (h : Det e σ w β F c u δ) (ho : ∀ q, OwnAt σ' q → OwnAt σ q) : Det e σ' w β F c u δ where
  rep := h.rep
  nr := h.nr
  inj := h.inj
  sep r y b s hy hyo hb := ⟨(h.sep r y b s hy hyo hb).1, (h.sep r y b s hy hyo hb).2.1, fun q s' hq => (h.sep r y b s hy hyo hb).2.2 q s' (ho q hq)⟩
theorem Det.pure {p : Place} (h : Rep β F w c p u) (hp : pureV c = true) : Det e σ w β F c u δ where
  rep := h.pure_any hp
  nr := refs_pure hp
  inj r r' y y' b s s' hy ho := by rw [noOwn_pure hp hy] at ho; cases ho
  sep r y b s hy ho := by rw [noOwn_pure hp hy] at ho; cases ho
theorem own_agg {cs : List AV} {r : List Nat} {y : AV} (hy : node (.agg cs) r = some y) (ho : y.isOwn = true) : ∃ j t x, r = j :: t ∧ cs[j]? = some x ∧ node x t = some y := by
  cases r with
  | nil => simp [node] at hy; subst hy; simp [AV.isOwn] at ho
  | cons j t =>
    simp only [node, kids] at hy
    cases hc : cs[j]? with
    | none => rw [hc] at hy; cases hy
    | some x => rw [hc] at hy; exact ⟨j, t, x, rfl, hc, hy⟩
theorem Det.repL {cs : List AV} {us : List Value} (h : Det e σ w β F (.agg cs) (.agg us.toArray) δ) : us.length = cs.length ∧ RepL (fun q => δ q.2) F w cs (0, []) 0 us := by
  have := h.rep
  simp only [Rep, Value.agg.injEq] at this
  obtain ⟨vs, h1, h2, h3⟩ := this
  have : us = vs := by simpa using h1
  subst this
  exact ⟨h2, h3⟩
theorem Det.op {cs : List AV} {us : List Value} {b : Nat} {arr : Array Value} {t : TypeId} (h : Det e σ w β F (.agg cs) (.agg us.toArray) δ) (hn : noRefL cs = true)
    (hb : w.heap[b]? = some (.cells arr t (0, 0))) (hu : ∀ (j : Nat) (x : Value), us[j]? = some x → arr.toList[j]? = some x) (hF : ¬ F b) (hbase : e.w0.heap.size ≤ b ∨ e.inh b)
    (hO : ∀ q s, OwnAt σ q → β q ≠ some (b, s)) (hne : ∀ r y s, node (.agg cs) r = some y → y.isOwn = true → δ r ≠ some (b, s)) :
    Det e σ w β F (.op cs) (.pointer (some ⟨b, 0, none⟩)) (fun r => if r = [] then some (b, arr.size) else δ r) where
  rep := by
    simp only [Rep, if_true]
    refine ⟨hn, b, arr, t, rfl, rfl, hb, RepL_iff.2 fun i c hc => ?_⟩
    obtain ⟨x, hx, hr⟩ := RepL_iff.1 h.repL.2 i c hc
    refine ⟨x, hu i x hx, hr.tr _ (fun b hb => ⟨hb, rfl⟩) (fun r y _ _ => ⟨by simp, fun _ _ _ => rfl⟩) (fun q hq => ?_)⟩
    rw [refs_of_noRef c (noRefL_mem hn (List.mem_of_getElem? hc))] at hq; cases hq
  nr := rfl
  inj r r' y y' b' s s' hy ho hy' ho' hb hb' := by
    cases r with
    | nil =>
      cases r' with
      | nil => rfl
      | cons j' t' =>
        rw [if_pos rfl] at hb; rw [if_neg (by simp)] at hb'
        cases hb
        exact absurd hb' (hne (j' :: t') y' s' (by simpa [node, kids] using hy') ho')
    | cons j t1 =>
      cases r' with
      | nil =>
        rw [if_neg (by simp)] at hb; rw [if_pos rfl] at hb'
        cases hb'
        exact absurd hb (hne (j :: t1) y s (by simpa [node, kids] using hy) ho)
      | cons j' t' =>
        rw [if_neg (by simp)] at hb hb'
        exact h.inj _ _ y y' b' s s' (by simpa [node, kids] using hy) ho (by simpa [node, kids] using hy') ho' hb hb'
  sep r y b' s hy ho hb' := by
    cases r with
    | nil => rw [if_pos rfl] at hb'; cases hb'; exact ⟨hF, hbase, hO⟩
    | cons j t1 => rw [if_neg (by simp)] at hb'; exact h.sep (j :: t1) y b' s (by simpa [node, kids] using hy) ho hb'
theorem Det.osl {cs : List AV} {us : List Value} {b sz n capv : Nat} {cap : Option Nat} {arr : Array Value} {t : TypeId} (h : Det e σ w β F (.agg cs) (.agg us.toArray) δ) (hn : noRefL cs = true)
    (hb : w.heap[b]? = some (.cells arr t (0, 0))) (hu : ∀ (j : Nat) (x : Value), us[j]? = some x → arr.toList[j]? = some x) (hF : ¬ F b) (hbase : e.w0.heap.size ≤ b ∨ e.inh b)
    (hO : ∀ q s, OwnAt σ q → β q ≠ some (b, s)) (hne : ∀ r y s, node (.agg cs) r = some y → y.isOwn = true → δ r ≠ some (b, s))
    (hs : arr.size = capv * sz) (hnc : n ≤ capv) (hc : ∀ c, cap = some c → capv = c) :
    Det e σ w β F (.osl sz cs n cap) (.slice (some ⟨b, 0, none⟩) n capv) (fun r => if r = [] then some (b, capv * sz) else δ r) where
  rep := by
    simp only [Rep, if_true]
    refine .inr ⟨hn, b, capv, arr, t, rfl, rfl, hnc, hc, hb, hs, RepL_iff.2 fun i c hc => ?_⟩
    obtain ⟨x, hx, hr⟩ := RepL_iff.1 h.repL.2 i c hc
    refine ⟨x, hu i x hx, hr.tr _ (fun b hb => ⟨hb, rfl⟩) (fun r y _ _ => ⟨by simp, fun _ _ _ => rfl⟩) (fun q hq => ?_)⟩
    rw [refs_of_noRef c (noRefL_mem hn (List.mem_of_getElem? hc))] at hq; cases hq
  nr := rfl
  inj r r' y y' b' s s' hy ho hy' ho' hb hb' := by
    cases r with
    | nil =>
      cases r' with
      | nil => rfl
      | cons j' t' =>
        rw [if_pos rfl] at hb; rw [if_neg (by simp)] at hb'
        cases hb
        exact absurd hb' (hne (j' :: t') y' s' (by simpa [node, kids] using hy') ho')
    | cons j t1 =>
      cases r' with
      | nil =>
        rw [if_neg (by simp)] at hb; rw [if_pos rfl] at hb'
        cases hb'
        exact absurd hb (hne (j :: t1) y s (by simpa [node, kids] using hy) ho)
      | cons j' t' =>
        rw [if_neg (by simp)] at hb hb'
        exact h.inj _ _ y y' b' s s' (by simpa [node, kids] using hy) ho (by simpa [node, kids] using hy') ho' hb hb'
  sep r y b' s hy ho hb' := by
    cases r with
    | nil => rw [if_pos rfl] at hb'; cases hb'; exact ⟨hF, hbase, hO⟩
    | cons j t1 => rw [if_neg (by simp)] at hb'; exact h.sep (j :: t1) y b' s (by simpa [node, kids] using hy) ho hb'
theorem Det.virt {sz : Nat} {cap : Option Nat} {a : Option Addr} (hc : ∀ c, cap = some c → c = 0) : Det e σ w β F (.osl sz [] 0 cap) (.slice a 0 0) (fun _ => none) where
  rep := by unfold Rep; exact .inl ⟨rfl, ⟨a, rfl⟩, rfl, rfl, hc⟩
  nr := rfl
  inj _ _ _ _ _ _ _ _ _ _ _ hb := by cases hb
  sep _ _ _ _ _ _ hb := by cases hb
theorem Det.cells {sz n capv : Nat} {cap : Option Nat} {cs : List AV} {a : Addr} (h : Det e σ w β F (.osl sz cs n cap) (.slice (some a) n capv) δ) :
    (cs = [] ∧ n = 0 ∧ capv = 0) ∨ ∃ b arr t, a = ⟨b, 0, none⟩ ∧ δ [] = some (b, capv * sz) ∧ w.heap[b]? = some (.cells arr t (0, 0)) ∧ arr.size = capv * sz ∧ n ≤ capv ∧ noRefL cs = true ∧
      Det e σ w β F (.agg cs) (.agg (arr.toList.take cs.length).toArray) δ := by
  have := h.rep
  simp only [Rep] at this
  rcases this with ⟨_, ⟨a', h1⟩, h2, h3, _⟩ | ⟨hn, b, capv', arr, t, h1, h2, h3, h4, h5, h6, h7⟩
  · cases h1; exact .inl ⟨h2, h3, rfl⟩
  · cases h2
    refine .inr ⟨b, arr, t, rfl, h1, h5, h6, h3, hn, ?_, ?_, ?_, ?_⟩
    · simp only [Rep]
      have := h7.len
      refine ⟨_, rfl, by rw [List.length_take]; omega, RepL_iff.2 fun i c hc => ?_⟩
      obtain ⟨x, hx, hr⟩ := RepL_iff.1 h7 i c hc
      refine ⟨x, ?_, by simpa using hr⟩
      rw [List.getElem?_take, if_pos]
      · exact hx
      · rcases Nat.lt_or_ge i cs.length with h | h
        · exact h
        · rw [List.getElem?_eq_none h] at hc; cases hc
    · simp only [refs]; exact refsL_of_noRef cs hn
    · intro r r' y y' b s s' hy ho hy' ho' hb hb'
      obtain ⟨j, t, x, rfl, hx, hxy⟩ := own_agg hy ho
      obtain ⟨j', t', x', rfl, hx', hxy'⟩ := own_agg hy' ho'
      exact h.inj _ _ y y' b s s' (by simpa [node, kids] using hy) ho (by simpa [node, kids] using hy') ho' hb hb'
    · intro r y b s hy ho hb
      obtain ⟨j, t, x, rfl, hx, hxy⟩ := own_agg hy ho
      exact h.sep _ y b s (by simpa [node, kids] using hy) ho hb
def glue (k : Nat) (δ δ' : List Nat → Option (Nat × Nat)) : List Nat → Option (Nat × Nat)
  | [] => none
  | j :: t => if j < k then δ (j :: t) else δ' ((j - k) :: t)
theorem Det.both {cs ds : List AV} {us vs : List Value} (h : Det e σ w β F (.agg cs) (.agg us.toArray) δ) (h' : Det e σ w β F (.agg ds) (.agg vs.toArray) δ')
    (ha : ∀ r r' y y' b s s', node (.agg cs) r = some y → y.isOwn = true → node (.agg ds) r' = some y' → y'.isOwn = true → δ r = some (b, s) → δ' r' ≠ some (b, s')) :
    Det e σ w β F (.agg (cs ++ ds)) (.agg (us ++ vs).toArray) (glue cs.length δ δ') where
  rep := by
    simp only [Rep]
    have h1 := h.repL
    have h2 := h'.repL
    refine ⟨us ++ vs, rfl, by simp [h1.1, h2.1], RepL_iff.2 fun i c hc => ?_⟩
    by_cases hi : i < cs.length
    · rw [List.getElem?_append_left hi] at hc
      obtain ⟨x, hx, hr⟩ := RepL_iff.1 h1.2 i c hc
      refine ⟨x, by rw [List.getElem?_append_left (by omega)]; exact hx, hr.tr _ (fun b hb => ⟨hb, rfl⟩) (fun r y _ _ => ⟨by simp [glue, hi], fun _ _ _ => rfl⟩) (fun q hq => ?_)⟩
      have := h.nr
      simp only [refs] at this
      have hm : q ∈ refsL cs := refsL_mem.2 ⟨c, List.mem_of_getElem? hc, hq⟩
      rw [this] at hm; cases hm
    · rw [List.getElem?_append_right (by omega)] at hc
      obtain ⟨x, hx, hr⟩ := RepL_iff.1 h2.2 (i - cs.length) c hc
      refine ⟨x, by rw [List.getElem?_append_right (by omega), h1.1]; exact hx, hr.tr _ (fun b hb => ⟨hb, rfl⟩) (fun r y _ _ => ⟨by simp [glue, hi], fun _ _ _ => rfl⟩) (fun q hq => ?_)⟩
      have := h'.nr
      simp only [refs] at this
      have hm : q ∈ refsL ds := refsL_mem.2 ⟨c, List.mem_of_getElem? hc, hq⟩
      rw [this] at hm; cases hm
  nr := by
    have h1 := h.nr
    have h2 := h'.nr
    simp only [refs] at h1 h2 ⊢
    rw [List.eq_nil_iff_forall_not_mem] at *
    intro q hq
    obtain ⟨c, hc, hq⟩ := refsL_mem.1 hq
    rcases List.mem_append.1 hc with hc | hc
    · exact h1 q (refsL_mem.2 ⟨c, hc, hq⟩)
    · exact h2 q (refsL_mem.2 ⟨c, hc, hq⟩)
  inj r r' y y' b s s' hy ho hy' ho' hb hb' := by
    obtain ⟨j, t, x, rfl, hx, hxy⟩ := own_agg hy ho
    obtain ⟨j', t', x', rfl, hx', hxy'⟩ := own_agg hy' ho'
    simp only [glue] at hb hb'
    by_cases hj : j < cs.length <;> by_cases hj' : j' < cs.length
    · rw [if_pos hj] at hb; rw [if_pos hj'] at hb'
      rw [List.getElem?_append_left hj] at hx; rw [List.getElem?_append_left hj'] at hx'
      exact h.inj _ _ y y' b s s' (by simp [node, kids, hx, hxy]) ho (by simp [node, kids, hx', hxy']) ho' hb hb'
    · rw [if_pos hj] at hb; rw [if_neg hj'] at hb'
      rw [List.getElem?_append_left hj] at hx; rw [List.getElem?_append_right (by omega)] at hx'
      exact absurd hb' (ha _ _ y y' b s s' (by simp [node, kids, hx, hxy]) ho (by simp [node, kids, hx', hxy']) ho' hb)
    · rw [if_neg hj] at hb; rw [if_pos hj'] at hb'
      rw [List.getElem?_append_right (by omega)] at hx; rw [List.getElem?_append_left hj'] at hx'
      exact absurd hb (ha _ _ y' y b s' s (by simp [node, kids, hx', hxy']) ho' (by simp [node, kids, hx, hxy]) ho hb')
    · rw [if_neg hj] at hb; rw [if_neg hj'] at hb'
      rw [List.getElem?_append_right (by omega)] at hx hx'
      have := h'.inj _ _ y y' b s s' (by simp [node, kids, hx, hxy]) ho (by simp [node, kids, hx', hxy']) ho' hb hb'
      simp only [List.cons.injEq] at this ⊢
      exact ⟨by omega, this.2⟩
  sep r y b s hy ho hb := by
    obtain ⟨j, t, x, rfl, hx, hxy⟩ := own_agg hy ho
    simp only [glue] at hb
    by_cases hj : j < cs.length
    · rw [if_pos hj] at hb
      rw [List.getElem?_append_left hj] at hx
      exact h.sep _ y b s (by simp [node, kids, hx, hxy]) ho hb
    · rw [if_neg hj] at hb
      rw [List.getElem?_append_right (by omega)] at hx
      exact h'.sep _ y b s (by simp [node, kids, hx, hxy]) ho hb
end
end Go.Av
namespace Go.Av
open Go
def OStep (P : Program) (N : Nat) (o : Oper) (σ σ' : Sig) : Prop :=
  ∀ (gv : Nat → Value) (e : Ctx) (a : Act) (w : World), All N gv e σ a w → ∀ (K : Act → World → Prop) (Q : Exit → Act → World → Prop), (∀ a' w', All N gv e σ' a' w' → K a' w') → o.wp P a w K Q
def QSem (P : Program) (N : Nat) (A : Bool) (op : Op) (ty : TypeId) (σ0 : Sig) (D : List Nat) (x : AV) : Prop :=
  A = true → ∀ σ : Sig, (∀ i ∈ D, σ i = σ0 i) → ∀ (gv : Nat → Value) (e : Ctx) (a : Act) (w : World) (β : Place → Option (Nat × Nat)) (F : Nat → Prop), Inv e σ (valOf N gv a) w β F →
    ∀ (d : Nat) (o : Oper), o.op = op → o.type = ty → ∀ (K : Act → World → Prop) (Q : Exit → Act → World → Prop),
      (∀ v w', (∃ β' F', Inv e (upd (fun i => purgeV d (σ i)) d x) (upd (valOf N gv a) d v) w' β' F') → K (a.put o.dst v) w') → o.wp P a w K Q
section
variable {P : Program} {N : Nat} {A : Bool} {σ σ' : Sig} {x y z : Operand} {D : List Nat} {o : Oper} {d : Nat} {ty : TypeId}
theorem wp_value {a : Act} {w w' : World} {v : Value} {K : Act → World → Prop} {Q : Exit → Act → World → Prop} (h : (execOp a.eval o).run P w = .ok (.value v) w') (hk : K (a.put o.dst v) w') : o.wp P a w K Q := by
  unfold Oper.wp; rw [h]; exact hk
theorem wp_unit {a : Act} {w w' : World} {K : Act → World → Prop} {Q : Exit → Act → World → Prop} (h : (execOp a.eval o).run P w = .ok .skip w') (hk : K (a.put o.dst undef) w') : o.wp P a w K Q := by
  unfold Oper.wp; rw [h]; exact hk
theorem VSem.step {v : AV} (h : VSem P N true o.op o.type σ D v) (hd : o.dst = some d) (hN : d < N) : OStep P N o σ (upd σ d v) := by
  intro gv e a w ⟨hdf, hsz, β, F, hi⟩ K Q hK
  obtain ⟨u, hrun, hrep⟩ := h.2 rfl σ (fun _ _ => rfl) gv e a w β F hi (d, []) o rfl rfl
  refine wp_value hrun (hK _ _ ⟨?_, ?_, β, F, ?_⟩)
  · rw [hd]; exact hdf
  · rw [hd, size_put]; exact hsz
  · rw [hd, valOf_put hsz hN]; exact hi.set d hrep h.1
theorem VSem.quiet {op : Op} {v : AV} (h : VSem P N A op ty σ D v) : QSem P N A op ty σ D v := by
  intro hA σ' hD gv e a w β F hi d o ho hty K Q hK
  obtain ⟨u, hrun, hrep⟩ := h.2 hA σ' hD gv e a w β F hi (d, []) o ho hty
  exact wp_value hrun (hK _ _ ⟨β, F, (hi.purge d).set d hrep h.1⟩)
theorem QSem.step {v : AV} (h : QSem P N true o.op o.type σ D v) (hd : o.dst = some d) (hN : d < N) : OStep P N o σ (upd (fun i => purgeV d (σ i)) d v) := by
  intro gv e a w ⟨hdf, hsz, β, F, hi⟩ K Q hK
  refine h rfl σ (fun _ _ => rfl) gv e a w β F hi d o rfl rfl K Q fun v w' ⟨β', F', hi'⟩ => hK _ _ ⟨?_, ?_, β', F', ?_⟩
  · rw [hd]; exact hdf
  · rw [hd, size_put]; exact hsz
  · rw [hd, valOf_put hsz hN]; exact hi'
def zeroCells (P : Program) (t : Nat) : Option (List AV) := match P.info? t with
  | some i => match i.zero with
    | some z => some (z.cells.toList.map cstS)
    | none => none
  | none => none
theorem zeroCells_spec {t : Nat} {cs : List AV} (h : zeroCells P t = some cs) : ∃ i z, P.info? t = some i ∧ i.zero = some z ∧ cs = z.cells.toList.map cstS := by
  unfold zeroCells at h
  split at h
  · rename_i i hi
    split at h
    · rename_i z hz; cases h; exact ⟨i, z, hi, hz, rfl⟩
    · cases h
  · cases h
theorem pure_cstS (v : Value) : pureV (cstS v) = true := by unfold cstS; split <;> rfl
theorem pure_cstL (vs : List Value) : pureL (vs.map cstS) = true := pureL_iff.2 fun c hc => by obtain ⟨v, _, rfl⟩ := List.mem_map.1 hc; exact pure_cstS v
theorem repL_cstL {β : Place → Option (Nat × Nat)} {F : Nat → Prop} {w : World} (vs : List Value) (p : Place) : RepL β F w (vs.map cstS) p 0 vs :=
  RepL_iff.2 fun i c hc => by
    rw [List.getElem?_map] at hc
    cases hv : vs[i]? with
    | none => rw [hv] at hc; cases hc
    | some v => rw [hv] at hc; simp at hc; subst hc; exact ⟨v, rfl, rep_cstS v _⟩
theorem heap_alloc_lt {w : World} {o : Obj} {b : Nat} (h : b < w.heap.size) : (w.alloc o).heap[b]? = w.heap[b]? := by
  show (w.heap.push o)[b]? = _
  rw [Array.getElem?_push]; simp; omega
theorem Inv.alloc {e : Ctx} {val : Nat → Value} {w : World} {β : Place → Option (Nat × Nat)} {F : Nat → Prop} (h : Inv e σ val w β F) (o : Obj) (_ : ∀ arr t fz, o = .cells arr t fz → fz = (0, 0)) : Inv e σ val (w.alloc o) β F :=
  h.more (fun _ hb => heap_alloc_lt hb) (by simp) h.tame
theorem det_agg_pure {e : Ctx} {w : World} {β : Place → Option (Nat × Nat)} {F : Nat → Prop} {cs : List AV} {us : List Value} {δ : List Nat → Option (Nat × Nat)} {β0 : Place → Option (Nat × Nat)} {p : Place}
    (hl : us.length = cs.length) (h : RepL β0 F w cs p 0 us) (hp : pureL cs = true) : Det e σ w β F (.agg cs) (.agg us.toArray) δ :=
  by
  have hr : Rep β0 F w (.agg cs) p (.agg us.toArray) := by simp only [Rep]; exact ⟨us, rfl, hl, h⟩
  have h1 := hr.pure_any (β' := β) (p' := p) (by simpa [pureV] using hp)
  exact Det.pure h1 (by simpa [pureV] using hp)
theorem Inv.new_op {e : Ctx} {val : Nat → Value} {w : World} {β β0 : Place → Option (Nat × Nat)} {F : Nat → Prop} {p : Place} (h : Inv e σ val w β F) {cs : List AV} {us : List Value} (hl : us.length = cs.length)
    (hr : RepL β0 F w cs p 0 us) (hp : pureL cs = true) (t : TypeId) (d : Nat) :
    ∃ β', Inv e (upd (fun i => purgeV d (σ i)) d (.op cs)) (upd val d (.pointer (some ⟨w.heap.size, 0, none⟩))) (w.alloc (.cells us.toArray t)) β' F := by
  have hi := h.alloc (.cells us.toArray t) (fun _ _ _ h => by cases h; rfl)
  have hd : Det e σ w β F (.agg cs) (.agg us.toArray) (fun _ => none) := det_agg_pure hl hr hp
  have hd' := hd.world (w' := w.alloc (.cells us.toArray t)) (fun b hb => heap_alloc_lt (h.fr b hb).1) (fun r y b s hy ho => by cases own_agg hy ho; intro hb; cases hb)
  exact ⟨_, hi.attach d (hd'.op (noRefL_pure cs hp) (heap_alloc_new w _) (fun j x hx => by simpa using hx) (fun hF => by have := (h.fr _ hF).1; omega) (.inl h.grow)
    (fun q s hq hb => by have := h.own_lt hq hb; omega) (fun _ _ _ _ _ h => by cases h))⟩
theorem Inv.new_osl {e : Ctx} {val : Nat → Value} {w : World} {β β0 : Place → Option (Nat × Nat)} {F : Nat → Prop} {p : Place} (h : Inv e σ val w β F) {cs : List AV} {us : List Value} (hl : us.length = cs.length)
    (hr : RepL β0 F w cs p 0 us) (hp : pureL cs = true) (t : TypeId) (d : Nat) {arr : Array Value} {sz n capv : Nat} {cap : Option Nat} (hu : ∀ (j : Nat) (x : Value), us[j]? = some x → arr.toList[j]? = some x)
    (hs : arr.size = capv * sz) (hn : n ≤ capv) (hc : ∀ c, cap = some c → capv = c) :
    ∃ β', Inv e (upd (fun i => purgeV d (σ i)) d (.osl sz cs n cap)) (upd val d (.slice (some ⟨w.heap.size, 0, none⟩) n capv)) (w.alloc (.cells arr t)) β' F := by
  have hi := h.alloc (.cells arr t) (fun _ _ _ h => by cases h; rfl)
  have hd : Det e σ w β F (.agg cs) (.agg us.toArray) (fun _ => none) := det_agg_pure hl hr hp
  have hd' := hd.world (w' := w.alloc (.cells arr t)) (fun b hb => heap_alloc_lt (h.fr b hb).1) (fun r y b s hy ho => by cases own_agg hy ho; intro hb; cases hb)
  exact ⟨_, hi.attach d (hd'.osl (noRefL_pure cs hp) (heap_alloc_new w _) hu (fun hF => by have := (h.fr _ hF).1; omega) (.inl h.grow)
    (fun q s hq hb => by have := h.own_lt hq hb; omega) (fun _ _ _ _ _ h => by cases h) hs hn hc)⟩
theorem Inv.new_virt {e : Ctx} {val : Nat → Value} {w : World} {β : Place → Option (Nat × Nat)} {F : Nat → Prop} (h : Inv e σ val w β F) (d sz : Nat) (a : Option Addr) {cap : Option Nat} (hc : ∀ c, cap = some c → c = 0) :
    ∃ β', Inv e (upd (fun i => purgeV d (σ i)) d (.osl sz [] 0 cap)) (upd val d (.slice a 0 0)) w β' F :=
  ⟨_, h.attach d (Det.virt hc)⟩
theorem q_alloc {t : Nat} {cs : List AV} (ht : zeroCells P t = some cs) : QSem P N A (.alloc t) ty σ [] (.op cs) := by
  intro hA σ' hD gv e a w β F hi d o ho hty K Q hK
  obtain ⟨i, z, hi', hz, rfl⟩ := zeroCells_spec ht
  obtain ⟨β', h⟩ := hi.new_op (us := z.cells.toList) (by simp) (repL_cstL (β := β) z.cells.toList (0, [])) (pure_cstL _) t d
  refine wp_value (v := .pointer (some ⟨w.heap.size, 0, none⟩)) (w' := w.alloc (.cells z.cells t)) ?_ (hK _ _ ⟨β', F, by simpa using h⟩)
  simp [execOp, ho, Instr.alloc, zeroValue, typeInfo, hi', hz, newVar, newRow]
def cellsOf : AV → List AV
  | .agg cs => cs
  | x => [x]
def boxable : AV → Bool
  | .undef => false
  | .tup _ => false
  | .when .. => false
  | .osl .. => false
  | .op _ => false
  | _ => true
theorem cells_of {β : Place → Option (Nat × Nat)} {F : Nat → Prop} {w : World} {v : AV} {p : Place} {u : Value} (h : Rep β F w v p u) (hb : boxable v = true) (hp : pureL (cellsOf v) = true) :
    u.cells.toList.length = (cellsOf v).length ∧ RepL β F w (cellsOf v) p 0 u.cells.toList := by
  have one : ∀ (v : AV) (u : Value), Rep β F w v p u → pureV v = true → u.cells = #[u] → cellsOf v = [v] → u.cells.toList.length = (cellsOf v).length ∧ RepL β F w (cellsOf v) p 0 u.cells.toList := by
    intro v u h hv e1 e2
    rw [e1, e2]
    exact ⟨rfl, by simp only [RepL]; exact ⟨h.pure_any hv, trivial⟩⟩
  cases v <;> simp [boxable] at hb
  case agg cs =>
    simp only [Rep] at h
    obtain ⟨vs, rfl, hl, h⟩ := h
    exact ⟨by simpa [Value.cells, cellsOf] using hl, by simpa [Value.cells, cellsOf] using h⟩
  all_goals
    have hv := hp
    simp only [cellsOf, pureL, Bool.and_true] at hv
    refine one _ _ h hv ?_ rfl
    simp only [Rep] at h
  · rw [h]; rfl
  · rw [h]; rfl
  · rw [h]; rfl
  · rw [h]; rfl
  · rw [h]; rfl
  · rw [h]; rfl
  · obtain ⟨a, rfl⟩ := h; rfl
  · obtain ⟨us, vs, rfl, _⟩ := h; rfl
  · obtain ⟨_, a, c, rfl, _⟩ := h; rfl
  · obtain ⟨_, b, o, arr, t, fz, rfl, _⟩ := h; rfl
  · simp [pureV] at hv
  · simp [pureV] at hv
theorem q_box {t : Nat} {v : AV} (hx : RdTo N A σ x v) (hb : boxable v = true) (hp : pureL (cellsOf v) = true) : QSem P N A (.box t x) ty σ (slots x) (.op (cellsOf v)) := by
  intro hA σ' hD gv e a w β F hi d o ho hty K Q hK
  have ex := hx.rep hA hD hi (0, [])
  obtain ⟨hl, hr⟩ := cells_of ex hb hp
  obtain ⟨β', h⟩ := hi.new_op hl hr hp t d
  refine wp_value (v := .pointer (some ⟨w.heap.size, 0, none⟩)) (w' := w.alloc (.cells (a.eval x).cells t)) ?_ (hK _ _ ⟨β', F, by simpa using h⟩)
  simp [execOp, ho, Instr.box, newVar, newRow]
def rep (c : Nat) (zs : List AV) : List AV := (List.replicate c zs).flatten
theorem rep_get {c : Nat} {zs : List AV} {i : Nat} (hz : 0 < zs.length) (hi : i < c * zs.length) : (rep c zs)[i]? = zs[i % zs.length]? := by
  induction c generalizing i with
  | zero => simp at hi
  | succ c ih =>
    simp only [rep, List.replicate_succ, List.flatten_cons] at ih ⊢
    by_cases h : i < zs.length
    · rw [List.getElem?_append_left h, Nat.mod_eq_of_lt h]
    · rw [List.getElem?_append_right (by omega), ih (by rw [Nat.succ_mul] at hi; omega), ← Nat.mod_eq_sub_mod (by omega)]
theorem rep_length (c : Nat) (zs : List AV) : (rep c zs).length = c * zs.length := by simp [rep]
theorem q_makeSlice {t sz el bytes n c : Nat} {k k' : IntKind} {zs : List AV} (ht : P.underlying t = some (.slice el)) (hi' : (P.info? el).map (fun i => (i.size, i.bytes)) = some (sz, bytes)) (hz : zeroCells P el = some zs) (hzl : zs.length = sz)
    (hs : 0 < sz) (hx : RdTo N A σ x (.int k n)) (hy : RdTo N A σ y (.int k' c)) (hb : A = true → n ≤ c ∧ c ≤ 9223372036854775807 ∧ c * bytes ≤ 140737488355328) :
    QSem P N A (.makeSlice t x y) ty σ (slots x ++ slots y) (.osl sz (rep c zs) n (some c)) := by
  intro hA σ' hD gv e a w β F hi d o ho hty K Q hK
  have ex := hx.rep hA (agree_l hD) hi (0, [])
  have ey := hy.rep hA (agree_r hD) hi (0, [])
  simp only [Rep] at ex ey
  obtain ⟨i, z, hi1, hz1, rfl⟩ := zeroCells_spec hz
  rw [hi1] at hi'
  simp only [Option.map_some, Option.some.injEq, Prod.mk.injEq] at hi'
  obtain ⟨rfl, rfl⟩ := hi'
  obtain ⟨h1, h2, h3⟩ := hb hA
  have e1 : IntKind.i64.wrap (n : Int) = n := IntWalk.i64_in _ (by omega)
  have e2 : IntKind.i64.wrap (c : Int) = c := IntWalk.i64_in _ (by omega)
  have hzs : z.cells.size = i.size := by simpa using hzl
  have h4 : ¬ (281474976710656 < (i.bytes : Int) * (c : Int)) := by
    have : ((i.bytes : Int) * (c : Int)) = ((c * i.bytes : Nat) : Int) := by rw [Nat.mul_comm]; simp
    rw [this]; omega
  have h5 : ¬ ((c : Int) < 0) := by omega
  have h6 : ¬ ((n : Int) < 0) := by omega
  have h7 : ¬ ((n : Int) > (c : Int)) := by omega
  let arr : Array Value := (Array.range (c * i.size)).map (fun j => z.cells[j % z.cells.size]!)
  have harr : arr.size = c * i.size := by simp [arr]
  have hget : ∀ j, j < c * i.size → arr.toList[j]? = z.cells.toList[j % i.size]? := fun j hj => by
    have h0 : j % i.size < z.cells.size := by rw [hzs]; exact Nat.mod_lt _ hs
    simp only [arr, Array.toList_map, Array.toList_range, List.getElem?_map, List.getElem?_range hj, Option.map_some, hzs]
    rw [getElem!_pos z.cells _ h0]
    simp [h0]
  have hrun : (execOp a.eval o).run P w = .ok (.value (.slice (some ⟨w.heap.size, 0, none⟩) n c)) (w.alloc (.cells arr el)) := by
    rcases Nat.eq_zero_or_pos c with hc | hc
    · subst hc
      obtain rfl : n = 0 := by omega
      simp [execOp, ho, ex, ey, Instr.makeSlice, run_underlying ht, asInt, asIntOf, typeInfo, hi1, IntKind.wrap, IntKind.bits, IntKind.signed, askRoom, sizeOf, newRow, arr]
      congr 2
      apply Array.ext'
      simp only [Array.toList_map, Array.toList_range, List.range_zero, List.map_nil]
    · have h8 : ¬ (c * i.size = 0) := by have := Nat.mul_pos hc hs; omega
      simp [execOp, ho, ex, ey, Instr.makeSlice, run_underlying ht, asInt, asIntOf, typeInfo, hi1, e1, e2, h4, h5, h6, h7, askRoom, sizeOf, newRow, arr, h8, zeroValue, hz1]
  have hlen : arr.toList.length = (rep c (z.cells.toList.map cstS)).length := by simp [rep_length, harr, hzs]
  have hrl : RepL β F w (rep c (z.cells.toList.map cstS)) (0, []) 0 arr.toList := RepL_iff.2 fun j c' hc' => by
    have hj : j < c * i.size := by
      rcases Nat.lt_or_ge j (c * i.size) with h | h
      · exact h
      · rw [List.getElem?_eq_none (by rw [rep_length]; simp [hzs]; omega)] at hc'; cases hc'
    rw [rep_get (by simp [hzs]; exact hs) (by simpa [hzs] using hj)] at hc'
    simp only [List.length_map, Array.length_toList, hzs, List.getElem?_map] at hc'
    rw [hget j hj]
    cases hv : z.cells.toList[j % i.size]? with
    | none => rw [hv] at hc'; cases hc'
    | some v => rw [hv] at hc'; simp at hc'; subst hc'; exact ⟨v, rfl, rep_cstS v _⟩
  have hpu : pureL (rep c (z.cells.toList.map cstS)) = true := pureL_iff.2 fun c' hc' => by
    simp only [rep, List.mem_flatten, List.mem_replicate] at hc'
    obtain ⟨l, ⟨_, rfl⟩, hc'⟩ := hc'
    exact pureL_mem (pure_cstL _) hc'
  obtain ⟨β', h⟩ := hi.new_osl (us := arr.toList) hlen hrl hpu el d (arr := arr) (sz := i.size) (n := n) (capv := c) (cap := some c) (fun j x hx => hx) harr h1 (fun c' hc' => by cases hc'; rfl)
  exact wp_value hrun (hK _ _ ⟨β', F, h⟩)
end
end Go.Av
namespace Go.Av
open Go
section
variable {P : Program} (w : World)
theorem run_first (size n : Nat) (ob : Option Addr) (len cap : Nat) (cs : List Value) (hl : cs.length = n * size) (h : cs ≠ [] → ∃ b, ob = some b ∧ ∀ j v, cs[j]? = some v → w.cell? (b.add j) = some v) :
    (Builtin.firstCells size n (.slice ob len cap)).run P w = .ok cs.toArray w := by
  by_cases hc : cs = []
  · subst hc
    cases ob with
    | none => simp [Builtin.firstCells]
    | some b => exact run_firstCells_some w size n b len cap [] hl (fun j v hv => by simp at hv)
  · obtain ⟨b, rfl, hb⟩ := h hc
    exact run_firstCells_some w size n b len cap cs hl hb
theorem run_append_in (t ty e t' : TypeId) (i : TypeInfo) (ht : P.underlying t = some (.slice e)) (hi : P.info? e = some i)
    (g sLen sCap : Nat) (cur : Array Value) (hg : w.heap[g]? = some (.cells cur t' (0, 0)))
    (ax : Option Addr) (m c : Nat) (news : List Value) (hl : news.length = m * i.size) (hnews : news ≠ [] → ∃ b, ax = some b ∧ ∀ j v, news[j]? = some v → w.cell? (b.add j) = some v) (h1 : ∀ u ∈ news, u.oneCell' = true)
    (hroom : sLen + m ≤ sCap) (hfit : sLen * i.size + news.length ≤ cur.size) :
    (Builtin.append_ #[t, t] ty #[.slice (some ⟨g, 0, none⟩) sLen sCap, .slice ax m c]).run P w =
      .ok (.slice (some ⟨g, 0, none⟩) (sLen + m) sCap) (w.setRow g (cur.toList.take (sLen * i.size) ++ news ++ cur.toList.drop (sLen * i.size + news.length)).toArray) := by
  have hf := run_first (P := P) w i.size m ax m c news hl hnews
  have hst := run_storeCells_at P g (sLen * i.size) t' news 0 cur w hg (by simpa using hfit) h1
  simp only [Nat.add_zero] at hst
  simp [Builtin.append_, run_underlying ht, sizeOf, typeInfo, hi, Builtin.lenOf, hroom, hf, add_none, hst]
theorem run_append_new (t ty e : TypeId) (i : TypeInfo) (z : Value) (ht : P.underlying t = some (.slice e)) (hi : P.info? e = some i) (hz : i.zero = some z)
    (ob : Option Addr) (sLen sCap : Nat) (olds : List Value) (hlo : olds.length = sLen * i.size) (holds : olds ≠ [] → ∃ b, ob = some b ∧ ∀ j v, olds[j]? = some v → w.cell? (b.add j) = some v)
    (ax : Option Addr) (n c : Nat) (news : List Value) (hl : news.length = n * i.size) (hnews : news ≠ [] → ∃ b, ax = some b ∧ ∀ j v, news[j]? = some v → w.cell? (b.add j) = some v)
    (hg : sCap < sLen + n) (h63 : ((sLen + n : Nat) : Int) ≤ 9223372036854775807) (hfit : (sLen + n) * i.bytes ≤ 140737488355328) :
    (Builtin.append_ #[t, t] ty #[.slice ob sLen sCap, .slice ax n c]).run P w =
      .ok (.slice (some ⟨w.heap.size, 0, none⟩) (sLen + n) (grownCap w (sLen + n) sCap e))
        (w.drew.alloc (.cells (olds.toArray ++ news.toArray ++ Builtin.zeroCells z.cells (grownCap w (sLen + n) sCap e - (sLen + n))) e)) := by
  have hn : ¬ (sLen + n ≤ sCap) := by omega
  have h63' : ¬ (9223372036854775807 < ((sLen : Int) + (n : Int))) := by omega
  have h48' : ¬ (281474976710656 < Builtin.nextslicecap (sLen + n) sCap * i.bytes) := by have := growslice_fits hg hfit; omega
  have hf := run_first (P := P) w.drew i.size n ax n c news hl (by simpa using hnews)
  have hfo := run_first (P := P) w.drew i.size sLen ob sLen sCap olds hlo (by simpa using holds)
  simp [Builtin.append_, run_underlying ht, sizeOf, typeInfo, zeroValue, hi, hz, Builtin.lenOf, hn, h63', h48', Question.forced, hf, hfo, newRow, grownCap]
  congr 2
  apply Array.ext'
  simp [List.append_assoc]
end
theorem tame_row {w0 w : World} {inh : Nat → Prop} (h : Tame w0 inh w) {b : Nat} {arr arr' : Array Value} {t : TypeId} (_ : w.heap[b]? = some (.cells arr t (0, 0))) : Tame w0 inh (w.setRow b arr') := h
def cellV : AV → Bool
  | .undef => false
  | .agg _ => false
  | .tup _ => false
  | .when .. => false
  | _ => true
theorem one_of {β : Place → Option (Nat × Nat)} {F : Nat → Prop} {w : World} {v : AV} {p : Place} {u : Value} (h : Rep β F w v p u) (hv : cellV v = true) : u.oneCell' = true := by
  cases v <;> simp [cellV] at hv <;> simp only [Rep] at h
  · rw [h]; rfl
  · rw [h]; rfl
  · rw [h]; rfl
  · rw [h]; rfl
  · rw [h]; rfl
  · rw [h]; rfl
  · obtain ⟨a, rfl⟩ := h; rfl
  · obtain ⟨us, vs, rfl, _⟩ := h; rfl
  · obtain ⟨_, a, c, rfl, _⟩ := h; rfl
  · obtain ⟨_, b, o, arr, t, fz, rfl, _⟩ := h; rfl
  · rcases h with ⟨_, ⟨a, rfl⟩, _⟩ | ⟨_, b, capv, arr, t, _, rfl, _⟩ <;> rfl
  · obtain ⟨_, b, arr, t, _, rfl, _⟩ := h; rfl
  · rcases h with ⟨_, ⟨a, rfl⟩, _⟩ | ⟨b, capv, _, rfl, _⟩ <;> rfl
  · obtain ⟨b, s, _, rfl⟩ := h; rfl
def cellL (cs : List AV) : Bool := cs.all cellV
theorem ones_of {β : Place → Option (Nat × Nat)} {F : Nat → Prop} {w : World} {cs : List AV} {p : Place} {us : List Value} (h : RepL β F w cs p 0 us) (hl : us.length = cs.length) (hc : cellL cs = true) : ∀ u ∈ us, u.oneCell' = true := by
  intro u hu
  obtain ⟨i, hi, rfl⟩ := List.getElem_of_mem hu
  have : i < cs.length := by omega
  obtain ⟨x, hx, hr⟩ := RepL_iff.1 h i cs[i] (List.getElem?_eq_getElem this)
  rw [List.getElem?_eq_getElem hi] at hx
  cases hx
  exact one_of hr (by simp only [cellL, List.all_eq_true] at hc; exact hc _ (List.getElem_mem this))
def appCall (s x : Operand) (t : TypeId) : Op := .call { callee := .builtin .append, args := #[s, x], argTypes := #[t, t] }
structure Src (e : Ctx) (σ : Sig) (w : World) (β : Place → Option (Nat × Nat)) (F : Nat → Prop) (sz : Nat) (x : Value) (m : Nat) (ns : List AV) : Prop where
  ex : ∃ ax c us δ, x = .slice ax m c ∧ us.length = m * sz ∧ (us ≠ [] → ∃ b, ax = some b ∧ ∀ j v, us[j]? = some v → w.cell? (b.add j) = some v) ∧ Det e σ w β F (.agg ns) (.agg us.toArray) δ
section
variable {P : Program} {N : Nat} {A : Bool} {σ σ' : Sig} {x y z : Operand} {D : List Nat} {o : Oper} {d : Nat} {ty : TypeId}
variable {e : Ctx} {val : Nat → Value} {w : World} {β : Place → Option (Nat × Nat)} {F : Nat → Prop}
theorem append_core {t el sz bytes : Nat} {ty : TypeId} (ht : P.underlying t = some (.slice el)) (hi' : (P.info? el).map (fun i => (i.size, i.bytes, i.zero.map fun z => z.cells.size)) = some (sz, bytes, some sz)) (_hsz : 0 < sz)
    (h : Inv e σ val w β F) {ob : Option Addr} {n capv m : Nat} {cap : Option Nat} {cs ns : List AV} {δ : List Nat → Option (Nat × Nat)} (hd : Det e σ w β F (.osl sz cs n cap) (.slice ob n capv) δ)
    {ax : Option Addr} {c : Nat} {us : List Value} {δ' : List Nat → Option (Nat × Nat)} (hul : us.length = m * sz) (hux : us ≠ [] → ∃ b, ax = some b ∧ ∀ j v, us[j]? = some v → w.cell? (b.add j) = some v)
    (hd' : Det e σ w β F (.agg ns) (.agg us.toArray) δ')
    (ha : ∀ r r' y y' b s s', node (.osl sz cs n cap) r = some y → y.isOwn = true → node (.agg ns) r' = some y' → y'.isOwn = true → δ r = some (b, s) → δ' r' ≠ some (b, s'))
    (hcl : cs.length = n * sz) (hcell : cellL ns = true) (hnr : noRefL ns = true) (hbd : n + m ≤ 9223372036854775807 ∧ (n + m) * bytes ≤ 140737488355328) :
    ∃ v w' δ2, (Builtin.append_ #[t, t] ty #[.slice ob n capv, .slice ax m c]).run P w = .ok v w' ∧ Inv e σ val w' β F ∧ Det e σ w' β F (.osl sz (cs ++ ns) (n + m) none) v δ2 := by
  cases hinf : P.info? el with
  | none => rw [hinf] at hi'; cases hi'
  | some i =>
  rw [hinf] at hi'
  simp only [Option.map_some, Option.some.injEq, Prod.mk.injEq] at hi'
  obtain ⟨rfl, rfl, hz⟩ := hi'
  cases hzv : i.zero with
  | none => rw [hzv] at hz; cases hz
  | some z =>
  rw [hzv] at hz
  simp only [Option.map_some, Option.some.injEq] at hz
  have hnl := hd'.repL
  have hones : ∀ u ∈ us, u.oneCell' = true := ones_of hnl.2 hnl.1 hcell
  have fresh : ∀ (olds : List Value) (δo : List Nat → Option (Nat × Nat)), olds.length = n * i.size → Det e σ w β F (.agg cs) (.agg olds.toArray) δo → noRefL cs = true →
      (∀ r r' y y' b s s', node (.agg cs) r = some y → y.isOwn = true → node (.agg ns) r' = some y' → y'.isOwn = true → δo r = some (b, s) → δ' r' ≠ some (b, s')) →
      (olds ≠ [] → ∃ b, ob = some b ∧ ∀ j v, olds[j]? = some v → w.cell? (b.add j) = some v) → capv < n + m →
      ∃ v w' δ2, (Builtin.append_ #[t, t] ty #[.slice ob n capv, .slice ax m c]).run P w = .ok v w' ∧ Inv e σ val w' β F ∧ Det e σ w' β F (.osl i.size (cs ++ ns) (n + m) none) v δ2 := by
    intro olds δo hol hdo hnrc hao hold hg
    have hrun := run_append_new (P := P) w t ty el i z ht hinf hzv ob n capv olds hol hold ax m c us hul hux hg (by omega) hbd.2
    let arr : Array Value := olds.toArray ++ us.toArray ++ Builtin.zeroCells z.cells (grownCap w (n + m) capv el - (n + m))
    have hge := grownCap_ge w (n + m) capv el
    have hinv : Inv e σ val (w.drew.alloc (.cells arr el)) β F := (h.same (w' := w.drew) rfl rfl rfl).alloc _ (fun _ _ _ h => by cases h; rfl)
    have hb := hdo.both hd' hao
    have hold' : ∀ b, b < w.heap.size → (w.drew.alloc (.cells arr el)).heap[b]? = w.heap[b]? := fun b hb => heap_alloc_lt (w := w.drew) hb
    have hlt : ∀ r y b s, node (.agg (cs ++ ns)) r = some y → y.isOwn = true →
        glue cs.length δo δ' r = some (b, s) → b < w.heap.size := by
      intro r y b s hy ho hbs
      obtain ⟨u, hu⟩ := hb.rep.sub hy
      exact hu.own_lt ho (by simpa using hbs)
    have hb' := hb.world (w' := w.drew.alloc (.cells arr el)) (fun b hb => hold' b (h.fr b hb).1) (fun r y b s hy ho hbs => hold' b (hlt r y b s hy ho hbs))
    refine ⟨_, _, _, hrun, hinv, hb'.osl (arr := arr) (t := el) (noRefL_iff.2 fun c hc => ?_) (heap_alloc_new w.drew _) (fun j x hx => ?_) (fun hF => by have := (h.fr _ hF).1; simp at this) (.inl h.grow)
      (fun q s hq hb => by have := h.own_lt hq hb; simp at this) (fun r y s hy ho hbs => by have := hlt r y _ s hy ho hbs; simp at this) ?_ hge (fun c hc => by cases hc)⟩
    · rcases List.mem_append.1 hc with hc | hc
      · exact noRefL_mem hnrc hc
      · exact noRefL_mem hnr hc
    · have : j < (olds ++ us).length := by
        rcases Nat.lt_or_ge j (olds ++ us).length with h | h
        · exact h
        · rw [List.getElem?_eq_none h] at hx; cases hx
      simp only [arr, Array.toList_append]
      rw [List.getElem?_append_left this]
      exact hx
    · simp only [arr, Array.size_append, List.size_toArray, size_zeroCells, hz, hol, hul, ← Nat.add_mul]
      congr 1
      omega
  have noOwn_nil : ∀ {r : List Nat} {y : AV}, node (.agg []) r = some y → y.isOwn = true → False := fun {r y} hy ho => by
    obtain ⟨j, t, x, _, hx, _⟩ := own_agg hy ho; simp at hx
  have empty : cs = [] → n = 0 → capv = 0 → ∃ v w' δ2, (Builtin.append_ #[t, t] ty #[.slice ob n capv, .slice ax m c]).run P w = .ok v w' ∧ Inv e σ val w' β F ∧ Det e σ w' β F (.osl i.size (cs ++ ns) (n + m) none) v δ2 := by
    rintro rfl rfl rfl
    rcases Nat.eq_zero_or_pos m with hm | hm
    · subst hm
      have hus : us = [] := List.eq_nil_of_length_eq_zero (by simpa using hul)
      subst hus
      have hns : ns = [] := List.eq_nil_of_length_eq_zero (by simpa using hnl.1.symm)
      subst hns
      refine ⟨.slice ob 0 0, w, _, ?_, h, Det.virt (fun c hc => by cases hc)⟩
      have hf := run_first (P := P) w i.size 0 ax 0 c [] (by simp) (fun h => absurd rfl h)
      cases ob <;> simp [Builtin.append_, run_underlying ht, sizeOf, typeInfo, hinf, Builtin.lenOf, hf, storeCells]
    · exact fresh [] (fun _ => none) (by simp) (det_agg_pure (β0 := β) (p := (0, [])) (by simp) (by simp [RepL]) rfl) rfl
        (fun r r' y y' b s s' hy ho => (noOwn_nil hy ho).elim) (fun h => absurd rfl h) (by omega)
  cases ob with
  | none =>
    have := hd.rep
    simp only [Rep] at this
    rcases this with ⟨_, ⟨a, ha'⟩, h2, h3, _⟩ | ⟨_, b, capv', arr, t', _, h1, _⟩
    · cases ha'; exact empty h2 h3 rfl
    · cases h1
  | some ad =>
    rcases hd.cells with ⟨h1, h2, h3⟩ | ⟨b, arr, t', rfl, hδ, hh, hs, hnc, hnrc, hdc⟩
    · exact empty h1 h2 h3
    · have hfitc : cs.length ≤ arr.size := by rw [hcl, hs]; exact Nat.mul_le_mul_right _ hnc
      have hag : ∀ r r' y y' b s s', node (.agg cs) r = some y → y.isOwn = true → node (.agg ns) r' = some y' → y'.isOwn = true → δ r = some (b, s) → δ' r' ≠ some (b, s') := by
        intro r r' y y' b s s' hy ho hy' ho' hb
        obtain ⟨j, t, x, rfl, hx, hxy⟩ := own_agg hy ho
        exact ha _ r' y y' b s s' (by simpa [node, kids] using hy) ho hy' ho' hb
      by_cases hroom : n + m ≤ capv
      · -- in place
        have hfit : n * i.size + us.length ≤ arr.size := by rw [hul, hs, ← Nat.add_mul]; exact Nat.mul_le_mul_right _ hroom
        have hrun := run_append_in (P := P) w t ty el t' i ht hinf b n capv arr hh ax m c us hul hux hones hroom hfit
        let arr' : Array Value := (arr.toList.take (n * i.size) ++ us ++ arr.toList.drop (n * i.size + us.length)).toArray
        have hbs := hd.sep [] _ b _ rfl rfl hδ
        have hother : ∀ k, k ≠ b → (w.setRow b arr').heap[k]? = w.heap[k]? := fun k hk => setRow_other w b k _ hk
        have hinv : Inv e σ val (w.setRow b arr') β F := h.ext (fun k hk => hother k (fun h => hbs.1 (h ▸ hk))) (fun q k s hq hk => hother k (fun h => hbs.2.2 q s hq (h ▸ hk)))
          (fun k hk hi => hother k (fun h => by subst h; rcases hbs.2.1 with h | h; omega; exact hi h)) (by simp [World.setRow]) (tame_row h.tame hh)
        have hb2 := hdc.both hd' hag
        have hkids : ∀ j t y s, node (.agg cs) (j :: t) = some y → y.isOwn = true → δ (j :: t) ≠ some (b, s) := fun j t y s hy ho hb => by
          have := hd.inj [] (j :: t) _ y b _ s rfl rfl (by simpa [node, kids] using hy) ho hδ hb
          cases this
        have hne : ∀ r y s, node (.agg (cs ++ ns)) r = some y → y.isOwn = true →
            glue cs.length δ δ' r ≠ some (b, s) := by
          intro r y s hy ho hbs'
          obtain ⟨j, t, x, rfl, hx, hxy⟩ := own_agg hy ho
          simp only [glue] at hbs'
          by_cases hj : j < cs.length
          · rw [if_pos hj] at hbs'
            rw [List.getElem?_append_left hj] at hx
            exact hkids j t y s (by simp [node, kids, hx, hxy]) ho hbs'
          · rw [if_neg hj] at hbs'
            rw [List.getElem?_append_right (by omega)] at hx
            exact ha [] ((j - cs.length) :: t) _ y b _ s rfl rfl (by simp [node, kids, hx, hxy]) ho hδ hbs'
        have hb3 := hb2.world (w' := w.setRow b arr') (fun k hk => hother k (fun h => hbs.1 (h ▸ hk))) (fun r y k s hy ho hk => hother k (fun h => hne r y s hy ho (h ▸ hk)))
        refine ⟨_, _, _, hrun, hinv, hb3.osl (arr := arr') (t := t') (noRefL_iff.2 fun c hc => ?_) (setRow_heap w b arr arr' t' (0, 0) hh) (fun j x hx => ?_) hbs.1 hbs.2.1 hbs.2.2 (fun r y s hy ho => hne r y s hy ho) ?_ hroom (fun c hc => by cases hc)⟩
        · rcases List.mem_append.1 hc with hc | hc
          · exact noRefL_mem hnrc hc
          · exact noRefL_mem hnr hc
        · have : j < (arr.toList.take cs.length ++ us).length := by
            rcases Nat.lt_or_ge j (arr.toList.take cs.length ++ us).length with h | h
            · exact h
            · rw [List.getElem?_eq_none h] at hx; cases hx
          simp only [arr']
          rw [← hcl, List.getElem?_append_left (by simpa using this)]
          exact hx
        · simp only [arr', List.size_toArray, List.length_append, List.length_take, List.length_drop, Array.length_toList]
          rw [hs] at *
          omega
      · -- a new row
        refine fresh (arr.toList.take cs.length) δ (by simp; omega) hdc hnrc hag (fun _ => ⟨_, rfl, fun j v hv => ?_⟩) (by omega)
        rw [add_none, Nat.zero_add, cell_of hh]
        rw [List.getElem?_take] at hv
        split at hv
        · simpa using hv
        · cases hv
end
end Go.Av
namespace Go.Av
open Go
section
variable {P : Program} {N : Nat} {A : Bool} {σ σ' : Sig} {x y z : Operand} {D : List Nat} {o : Oper} {d : Nat} {ty : TypeId}
variable {e : Ctx} {val : Nat → Value} {w : World} {β : Place → Option (Nat × Nat)} {F : Nat → Prop}
def Ent (σ σ' : Sig) : Prop := ∀ (e : Ctx) (val : Nat → Value) (w : World) (β : Place → Option (Nat × Nat)) (F : Nat → Prop), Inv e σ val w β F → ∃ β', Inv e σ' val w β' F
theorem Ent.refl (σ : Sig) : Ent σ σ := fun _ _ _ β _ h => ⟨β, h⟩
theorem Ent.trans {σ'' : Sig} (h : Ent σ σ') (h' : Ent σ' σ'') : Ent σ σ'' := fun e val w β F hi => by
  obtain ⟨β1, h1⟩ := h e val w β F hi
  exact h' e val w β1 F h1
theorem Ent.all {gv : Nat → Value} {a : Act} (h : Ent σ σ') (ha : All N gv e σ a w) : All N gv e σ' a w := by
  obtain ⟨hdf, hsz, β, F, hi⟩ := ha
  obtain ⟨β', hi'⟩ := h _ _ _ _ _ hi
  exact ⟨hdf, hsz, β', F, hi'⟩
theorem OStep.post {σ'' : Sig} (hs : OStep P N o σ σ') (h : Ent σ' σ'') : OStep P N o σ σ'' := fun gv e a w ha K Q hK => hs gv e a w ha K Q fun a' w' ha' => hK a' w' (h.all ha')
theorem upd_self {α : Type} (f : Nat → α) (d : Nat) : upd f d (f d) = f := by funext i; simp only [upd]; split <;> simp_all
theorem ent_reloc_sl {t : Nat} {q : Place} {sz n n' : Nat} {cap cap' : Option Nat} {cs : List AV} (ht : σ t = .rsl q sz 0 n cap) (hq : node (σ q.1) q.2 = some (.osl sz cs n' cap')) :
    Ent σ (upd (fun i => purgeV t (hole σ q i)) t (.osl sz cs n cap)) := fun e val w β F h => by
  have hr := h.rep t
  rw [ht] at hr
  have := (h.hole hq).attach t (h.detach_sl hq hr)
  rw [upd_self] at this
  exact ⟨_, this⟩
theorem ent_reloc_op {t : Nat} {q : Place} {cs : List AV} (ht : σ t = .rp q 0) (hq : node (σ q.1) q.2 = some (.op cs)) : Ent σ (upd (fun i => purgeV t (hole σ q i)) t (.op cs)) := fun e val w β F h => by
  have hr := h.rep t
  rw [ht] at hr
  have := (h.hole hq).attach t (h.detach_op hq hr)
  rw [upd_self] at this
  exact ⟨_, this⟩
theorem Inv.detach_slot (h : Inv e σ val w β F) {t : Nat} (hr : refs (σ t) = []) : Inv e (upd σ t .undef) val w β F ∧ Det e (upd σ t .undef) w β F (σ t) (val t) (fun r => β (t, r)) := by
  refine ⟨h.forget t, ⟨?_, hr, ?_, ?_⟩⟩
  · exact (h.rep t).tr _ (fun b hb => ⟨hb, rfl⟩) (fun r y _ _ => ⟨by simp, fun _ _ _ => rfl⟩) (fun q hq => by rw [hr] at hq; cases hq)
  · intro r r' y y' b s s' hy ho hy' ho' hb hb'
    have := h.disj (t, r) (t, r') b s s' ⟨y, hy, ho⟩ ⟨y', hy', ho'⟩ hb hb'
    simpa using this
  · intro r y b s hy ho hb
    have hq : OwnAt σ (t, r) := ⟨y, hy, ho⟩
    refine ⟨(h.sep _ b s hq hb).1, (h.sep _ b s hq hb).2, fun q s' hq' hb' => ?_⟩
    by_cases hi : q.1 = t
    · obtain ⟨z, hz, hoz⟩ := hq'
      rw [hi, upd_same] at hz
      cases hr : q.2 with
      | nil => rw [hr] at hz; simp [node] at hz; subst hz; simp [AV.isOwn] at hoz
      | cons j r => rw [hr] at hz; simp [node, kids] at hz
    · have := h.disj (t, r) q b s s' hq ((own_upd_other hi).1 hq') hb hb'
      exact hi (by rw [← this])
theorem run_app {a : Act} {s : Operand} {t : TypeId} {v : Value} {w' : World} (ho : o.op = appCall s x t) (h : (Builtin.append_ #[t, t] o.type #[a.eval s, a.eval x]).run P w = .ok v w') : (execOp a.eval o).run P w = .ok (.value v) w' := by
  simp [execOp, ho, appCall, resolve, invoke, builtin, h]
def appTy (P : Program) (t : Nat) : Option (Nat × Nat) :=
  match P.underlying t with
  | some (.slice el) => match P.info? el with
    | some i => match i.zero with
      | some z => if i.size = 0 then none else if z.cells.size = i.size then some (i.size, i.bytes) else none
      | none => none
    | none => none
  | _ => none
theorem appTy_spec {t sz bytes : Nat} (h : appTy P t = some (sz, bytes)) :
    ∃ el, P.underlying t = some (.slice el) ∧ (P.info? el).map (fun i => (i.size, i.bytes, i.zero.map fun z => z.cells.size)) = some (sz, bytes, some sz) ∧ 0 < sz := by
  unfold appTy at h
  split at h
  · rename_i el he
    split at h
    · rename_i i hi
      split at h
      · rename_i z hz
        split at h
        · cases h
        · split at h
          · rename_i h0 h1; cases h; exact ⟨el, he, by simp [hi, hz, h1], by omega⟩
          · cases h
      · cases h
    · cases h
  · cases h
def SrcIs (N : Nat) (A : Bool) (σ : Sig) (x : Operand) (sz m : Nat) (ns : List AV) (D : List Nat) : Prop :=
  pureL ns = true ∧ (A = true → ∀ σ', (∀ i ∈ D, σ' i = σ i) → ∀ gv e a w β F, Inv e σ' (valOf N gv a) w β F → ∃ ax c us, a.eval x = .slice ax m c ∧ us.length = m * sz ∧ us.length = ns.length ∧
    (us ≠ [] → ∃ b, ax = some b ∧ ∀ (j : Nat) v, us[j]? = some v → w.cell? (b.add j) = some v) ∧ ∃ (β0 : Place → Option (Nat × Nat)) (p : Place), RepL β0 F w ns p 0 us)
theorem src_sl {m sz : Nat} {ns : List AV} (hx : RdTo N A σ x (.sl ns m)) (hl : A = true → ns.length = m * sz) (hp : pureL ns = true) : SrcIs N A σ x sz m ns (slots x) :=
  ⟨hp, fun hA σ' hD gv e a w β F hi => by
    have ex := hx.rep hA hD hi (0, [])
    simp only [Rep] at ex
    obtain ⟨_, ax, c, ex, _, h⟩ := ex
    have hl := hl hA
    by_cases hn : ns = []
    · subst hn
      exact ⟨ax, c, [], ex, by simpa using hl, rfl, fun h => absurd rfl h, fun _ => none, (0, []), by simp [RepL]⟩
    · obtain ⟨b, off, arr, t, fz, rfl, hF, hh, hr⟩ := h hn
      have hle := hr.len
      refine ⟨_, c, (arr.toList.drop off).take ns.length, ex, by rw [List.length_take]; omega, by rw [List.length_take]; omega, fun _ => ⟨_, rfl, fun j v hv => ?_⟩, fun _ => none, (0, []), RepL_iff.2 fun i c' hc => ?_⟩
      · rw [add_none, cell_of hh]
        rw [List.getElem?_take] at hv
        split at hv
        · simpa using hv
        · cases hv
      · obtain ⟨u, hu, hru⟩ := RepL_iff.1 hr i c' hc
        refine ⟨u, ?_, hru⟩
        rw [List.getElem?_take, if_pos]
        · exact hu
        · rcases Nat.lt_or_ge i ns.length with h | h
          · exact h
          · rw [List.getElem?_eq_none h] at hc; cases hc⟩
theorem src_rsl {m sz off : Nat} {q : Place} {cap : Option Nat} {cs : List AV} (hx : RdTo N A σ x (.rsl q sz off m cap)) (hq : blk σ q = some cs) (hl : A = true → off + m * sz ≤ cs.length)
    (hp : pureL ((cs.drop off).take (m * sz)) = true) : SrcIs N A σ x sz m ((cs.drop off).take (m * sz)) (slots x ++ [q.1]) :=
  ⟨hp, fun hA σ' hD gv e a w β F hi => by
    have ex := hx.rep hA (agree_l hD) hi (0, [])
    simp only [Rep] at ex
    have hl := hl hA
    have hlen : ((cs.drop off).take (m * sz)).length = m * sz := by rw [List.length_take, List.length_drop]; omega
    rcases hi.block ((blk_agree (agree_one hD)).trans hq) with ⟨h1, rfl⟩ | ⟨b', s1, arr, tt, h1, hh, hr, _⟩
    · rcases ex with ⟨_, ⟨ax, ex⟩, rfl, _⟩ | ⟨b, capv, h2, _⟩
      · exact ⟨ax, 0, [], ex, by simp, by simp, fun h => absurd rfl h, fun _ => none, (0, []), by simp [RepL]⟩
      · rw [h1] at h2; cases h2
    · rcases ex with ⟨h2, _⟩ | ⟨b, capv, h2, ex, _⟩
      · rw [h1] at h2; cases h2
      · rw [h1] at h2; cases h2
        have hle := hr.len
        simp only [Array.length_toList] at hle
        refine ⟨_, capv, (arr.toList.drop off).take (m * sz), ex, by rw [List.length_take, List.length_drop, Array.length_toList]; omega, by rw [hlen, List.length_take, List.length_drop, Array.length_toList]; omega,
          fun _ => ⟨_, rfl, fun j v hv => ?_⟩, β, (q.1, q.2), RepL_iff.2 fun i c' hc => ?_⟩
        · rw [add_none, cell_of hh]
          rw [List.getElem?_take] at hv
          split at hv
          · simpa using hv
          · cases hv
        · rw [List.getElem?_take] at hc
          split at hc
          · rename_i hi'
            rw [List.getElem?_drop] at hc
            obtain ⟨u, hu, hru⟩ := RepL_iff.1 hr _ c' hc
            refine ⟨u, by rw [List.getElem?_take, if_pos hi', List.getElem?_drop]; exact hu, hru.pure_any (pureL_mem hp (List.mem_of_getElem? (i := i) ?_))⟩
            rw [List.getElem?_take, if_pos hi', List.getElem?_drop]; exact hc
          · cases hc⟩
theorem o_append {s t sz bytes n m : Nat} {cap : Option Nat} {cs ns : List AV} (ho : o.op = appCall (.tmp s) x t) (ht : appTy P t = some (sz, bytes)) (hd : o.dst = some d) (hN : d < N) (hsN : s < N)
    (hs : σ s = .osl sz cs n cap) (hx : SrcIs N true (upd σ s .undef) x sz m ns D) (hc : cellL ns = true) (hcl : cs.length = n * sz)
    (hb : n + m ≤ 9223372036854775807 ∧ (n + m) * bytes ≤ 140737488355328) :
    OStep P N o σ (upd (fun i => purgeV d (upd σ s .undef i)) d (.osl sz (cs ++ ns) (n + m) none)) := by
  intro gv e a w ⟨hdf, hsz, β, F, hi⟩ K Q hK
  obtain ⟨el, h1, h2, h3⟩ := appTy_spec ht
  obtain ⟨hi1, hd1⟩ := hi.detach_slot (t := s) (by rw [hs]; rfl)
  rw [hs] at hd1
  have hv : valOf N gv a s = a.eval (.tmp s) := by simp [valOf, hsN, Act.eval]
  rw [hv] at hd1
  have hsl : ∃ ob capv, a.eval (.tmp s) = .slice ob n capv := by
    have := hd1.rep
    simp only [Rep] at this
    rcases this with ⟨_, ⟨ob, h⟩, _, hn, _⟩ | ⟨_, b, capv, arr, t, _, h, _⟩
    · exact ⟨ob, 0, by rw [hn]; exact h⟩
    · exact ⟨_, capv, h⟩
  obtain ⟨ob, capv, es⟩ := hsl
  rw [es] at hd1
  obtain ⟨hp, hx⟩ := hx
  obtain ⟨ax, c, us, ex, hul, hul', hux, β0, p, hr⟩ := hx rfl _ (fun _ _ => rfl) gv e a w β F hi1
  obtain ⟨v, w', δ2, hrun, hinv, hdet⟩ := append_core (ty := o.type) h1 h2 h3 hi1 hd1 hul hux (det_agg_pure (δ := fun _ => none) hul' hr hp)
    (fun r r' y y' b s s' _ _ _ _ _ hb => by cases hb) hcl hc (noRefL_pure ns hp) hb
  have h9 := hinv.attach d hdet
  rw [← valOf_put hsz hN] at h9
  exact wp_value (run_app ho (by rw [es, ex]; exact hrun)) (hK _ _ ⟨by rw [hd]; exact hdf, by rw [hd, size_put]; exact hsz, _, F, by rw [hd]; exact h9⟩)
theorem o_append_own {s x t sz bytes n m : Nat} {cap cap' : Option Nat} {cs ns : List AV} (ho : o.op = appCall (.tmp s) (.tmp x) t) (ht : appTy P t = some (sz, bytes)) (hd : o.dst = some d) (hN : d < N) (hsN : s < N) (hxN : x < N)
    (hsx : s ≠ x) (hs : σ s = .osl sz cs n cap) (hx : σ x = .osl sz ns m cap') (hc : cellL ns = true) (hcl : cs.length = n * sz) (hnl : ns.length = m * sz)
    (hb : n + m ≤ 9223372036854775807 ∧ (n + m) * bytes ≤ 140737488355328) :
    OStep P N o σ (upd (fun i => purgeV d (upd (upd σ s .undef) x .undef i)) d (.osl sz (cs ++ ns) (n + m) none)) := by
  intro gv e a w ⟨hdf, hsz, β, F, hi⟩ K Q hK
  obtain ⟨el, h1, h2, h3⟩ := appTy_spec ht
  obtain ⟨hi1, hd1⟩ := hi.detach_slot (t := s) (by rw [hs]; rfl)
  rw [hs] at hd1
  have hx1 : upd σ s .undef x = .osl sz ns m cap' := by rw [upd_other _ _ (Ne.symm hsx)]; exact hx
  obtain ⟨hi2, hd2⟩ := hi1.detach_slot (t := x) (by rw [hx1]; rfl)
  have hd1' := hd1.fewer (σ' := upd (upd σ s .undef) x .undef) (fun q hq => by
    by_cases hi : q.1 = x
    · obtain ⟨z, hz, hoz⟩ := hq
      rw [hi, upd_same] at hz
      cases hr : q.2 with
      | nil => rw [hr] at hz; simp [node] at hz; subst hz; simp [AV.isOwn] at hoz
      | cons j r => rw [hr] at hz; simp [node, kids] at hz
    · exact (own_upd_other hi).1 hq)
  rw [hx1] at hd2
  have hv : valOf N gv a s = a.eval (.tmp s) := by simp [valOf, hsN, Act.eval]
  have hv2 : valOf N gv a x = a.eval (.tmp x) := by simp [valOf, hxN, Act.eval]
  rw [hv] at hd1 hd1'
  rw [hv2] at hd2
  have sl : ∀ {cs : List AV} {n : Nat} {cap : Option Nat} {u : Value} {δ : List Nat → Option (Nat × Nat)} {σ : Sig}, Det e σ w β F (.osl sz cs n cap) u δ → ∃ ob capv, u = .slice ob n capv := by
    intro cs n cap u δ σ h
    have := h.rep
    simp only [Rep] at this
    rcases this with ⟨_, ⟨ob, h⟩, _, hn, _⟩ | ⟨_, b, capv, arr, t, _, h, _⟩
    · exact ⟨ob, 0, by rw [hn]; exact h⟩
    · exact ⟨_, capv, h⟩
  obtain ⟨ob, capv, es⟩ := sl hd1
  obtain ⟨ax, c, ex⟩ := sl hd2
  have hha : ∀ r r' y y' b s' s'', node (.osl sz cs n cap) r = some y → y.isOwn = true → node (.osl sz ns m cap') r' = some y' → y'.isOwn = true → β (s, r) = some (b, s') → β (x, r') ≠ some (b, s'') := by
    intro r r' y y' b s' s'' hy ho' hy' ho'' hb'
    exact (hd1.sep r y b s' hy ho' hb').2.2 (x, r') s'' ⟨y', by show node (upd σ s .undef x) r' = _; rw [hx1]; exact hy', ho''⟩
  rw [es] at hd1 hd1'
  rw [ex] at hd2
  have src : ∃ us δ', us.length = m * sz ∧ (us ≠ [] → ∃ b, ax = some b ∧ ∀ (j : Nat) v, us[j]? = some v → w.cell? (b.add j) = some v) ∧ Det e (upd (upd σ s .undef) x .undef) w β F (.agg ns) (.agg us.toArray) δ' ∧
      ((∀ r', δ' r' = β (x, r')) ∨ ns = []) ∧ noRefL ns = true := by
    cases ax with
    | none =>
      have := hd2.rep
      simp only [Rep] at this
      rcases this with ⟨_, _, h2, h3, _⟩ | ⟨_, b, capv', arr, t', _, h1, _⟩
      · subst h2
        exact ⟨[], fun _ => none, by simpa using hnl, fun h => absurd rfl h, det_agg_pure (β0 := β) (p := (0, [])) (by simp) (by simp [RepL]) rfl, .inr rfl, rfl⟩
      · cases h1
    | some ad =>
      rcases hd2.cells with ⟨h2, h3, _⟩ | ⟨b, arr, t', rfl, hδ, hh, hsz', hnc, hnr, hdc⟩
      · subst h2
        exact ⟨[], fun _ => none, by simpa using hnl, fun h => absurd rfl h, det_agg_pure (β0 := β) (p := (0, [])) (by simp) (by simp [RepL]) rfl, .inr rfl, rfl⟩
      · refine ⟨arr.toList.take ns.length, _, ?_, fun _ => ⟨_, rfl, fun j v hv => ?_⟩, hdc, .inl fun _ => rfl, hnr⟩
        · have := hdc.repL.1; rw [this, hnl]
        · rw [add_none, Nat.zero_add, cell_of hh]
          rw [List.getElem?_take] at hv
          split at hv
          · simpa using hv
          · cases hv
  obtain ⟨us, δ', hul, hux, hdn, hδ', hnr⟩ := src
  obtain ⟨v, w', δ2, hrun, hinv, hdet⟩ := append_core (ty := o.type) h1 h2 h3 hi2 hd1' hul hux hdn (fun r r' y y' b s' s'' hy ho' hy' ho'' hb' => by
    rcases hδ' with h | h
    · rw [h]
      obtain ⟨j, t, z, rfl, hz, hzy⟩ := own_agg hy' ho''
      exact hha r (j :: t) y y' b s' s'' hy ho' (by simpa [node, kids] using hy') ho'' hb'
    · subst h
      obtain ⟨j, t, z, _, hz, _⟩ := own_agg hy' ho''
      simp at hz) hcl hc hnr hb
  have h9 := hinv.attach d hdet
  rw [← valOf_put hsz hN] at h9
  exact wp_value (run_app ho (by rw [es, ex]; exact hrun)) (hK _ _ ⟨by rw [hd]; exact hdf, by rw [hd, size_put]; exact hsz, _, F, by rw [hd]; exact h9⟩)
end
end Go.Av
namespace Go.Av
open Go
mutual
def sh : AV → AV
  | .osl _ cs n _ => .sl (shL cs) n
  | .op cs => .pp (shL cs) 0
  | .agg cs => .agg (shL cs)
  | .fn f us cs => .fn f (shL us) (shL cs)
  | .nils => .sl [] 0
  | .emp => .sl [] 0
  | .tup _ => .undef
  | .when .. => .undef
  | .rsl .. => .undef
  | .rp .. => .undef
  | x => x
def shL : List AV → List AV
  | [] => []
  | c :: cs => sh c :: shL cs
end
mutual
def noNil : AV → Bool
  | .nils => false
  | .emp => false
  | .agg cs => noNilL cs
  | .fn _ us cs => noNilL us && noNilL cs
  | _ => true
def noNilL : List AV → Bool
  | [] => true
  | c :: cs => noNil c && noNilL cs
end
theorem shL_eq (cs : List AV) : shL cs = cs.map sh := by
  induction cs with
  | nil => rfl
  | cons c cs ih => simp [shL, ih]
mutual
theorem pure_sh : ∀ (x : AV), pureV (sh x) = true
  | .undef | .int .. | .bool _ | .str _ | .that .. | .nilp | .nils | .emp | .sl .. | .pp .. | .rsl .. | .rp .. | .tup _ | .when .. | .osl .. | .op _ => by simp [sh, pureV]
  | .agg cs => by simp only [sh, pureV]; exact pure_shL cs
  | .fn f us cs => by simp only [sh, pureV, pure_shL us, pure_shL cs, Bool.and_true]
theorem pure_shL : ∀ (cs : List AV), pureL (shL cs) = true
  | [] => rfl
  | c :: cs => by simp only [shL, pureL, pure_sh c, pure_shL cs, Bool.and_true]
end
theorem scalar_shL {cs : List AV} (h : scalarL cs = true) : scalarL (shL cs) = true := by
  simp only [scalarL, List.all_eq_true, shL_eq, List.mem_map] at h ⊢
  rintro c ⟨d, hd, rfl⟩
  have := h d hd
  cases d <;> simp [scalar, sh] at *
section
variable {F G : Nat → Prop} {w : World}
mutual
theorem Rep.sh : ∀ (x : AV) {β β0 : Place → Option (Nat × Nat)} {p p' : Place} {v : Value}, Rep β F w x p v → (∀ b, F b → G b) →
    (∀ r y b s, node x r = some y → y.isOwn = true → β (p.1, p.2 ++ r) = some (b, s) → G b) → Rep β0 G w (Av.sh x) p' v
  | .undef, _, _, _, _, _, _, _, _ => by simp [Av.sh, Rep]
  | .int .., _, _, _, _, _, h, _, _ => by simpa [Av.sh, Rep] using h
  | .bool _, _, _, _, _, _, h, _, _ => by simpa [Av.sh, Rep] using h
  | .str _, _, _, _, _, _, h, _, _ => by simpa [Av.sh, Rep] using h
  | .that .., _, _, _, _, _, h, _, _ => by simpa [Av.sh, Rep] using h
  | .nilp, _, _, _, _, _, h, _, _ => by simpa [Av.sh, Rep] using h
  | .nils, _, _, _, _, _, h, _, _ => by
    simp only [Rep] at h
    simp only [Av.sh, Rep]
    exact ⟨rfl, none, 0, h, Nat.le_refl _, fun h => absurd rfl h⟩
  | .emp, _, _, _, _, _, h, _, _ => by
    simp only [Rep] at h
    obtain ⟨a, h⟩ := h
    simp only [Av.sh, Rep]
    exact ⟨rfl, a, 0, h, Nat.le_refl _, fun h => absurd rfl h⟩
  | .tup _, _, _, _, _, _, _, _, _ => by simp [Av.sh, Rep]
  | .when .., _, _, _, _, _, _, _, _ => by simp [Av.sh, Rep]
  | .rsl .., _, _, _, _, _, _, _, _ => by simp [Av.sh, Rep]
  | .rp .., _, _, _, _, _, _, _, _ => by simp [Av.sh, Rep]
  | .sl cs n, β, β0, p, p', v, h, hF, _ => by
    simp only [Av.sh]
    exact h.tr _ (fun b hb => ⟨hF b hb, rfl⟩) (fun r y hy ho => by rw [node_scalar rfl hy] at ho; cases ho) (fun q hq => by simp [refs] at hq)
  | .pp cs off, β, β0, p, p', v, h, hF, _ => by
    simp only [Av.sh]
    exact h.tr _ (fun b hb => ⟨hF b hb, rfl⟩) (fun r y hy ho => by rw [node_scalar rfl hy] at ho; cases ho) (fun q hq => by simp [refs] at hq)
  | .agg cs, β, β0, p, p', v, h, hF, hG => by
    simp only [Rep] at h
    obtain ⟨vs, rfl, hl, h⟩ := h
    simp only [Av.sh, Rep]
    exact ⟨vs, rfl, by simp [shL_eq, hl], RepL.sh cs h hF (fun i c r y b s hc hy ho hb => hG (i :: r) y b s (by simp [node, kids, hc, hy]) ho (by simpa using hb))⟩
  | .fn f us cs, β, β0, p, p', v, h, hF, _ => by
    simp only [Rep] at h
    obtain ⟨vs, ws, rfl, hl, hl', hs, hs', h, h'⟩ := h
    simp only [Av.sh, Rep]
    refine ⟨vs, ws, rfl, by simp [shL_eq, hl], by simp [shL_eq, hl'], scalar_shL hs, scalar_shL hs', RepL.sh us h hF (fun i c r y b s hc hy ho hb => ?_), RepL.sh cs h' hF (fun i c r y b s hc hy ho hb => ?_)⟩
    · have := scalarL_mem hs (List.mem_of_getElem? hc)
      rw [node_scalar this hy, own_scalar this] at ho; cases ho
    · have := scalarL_mem hs' (List.mem_of_getElem? hc)
      rw [node_scalar this hy, own_scalar this] at ho; cases ho
  | .osl sz cs n cap, β, β0, p, p', v, h, hF, hG => by
    simp only [Rep] at h
    simp only [Av.sh, Rep]
    refine ⟨pure_shL cs, ?_⟩
    rcases h with ⟨_, ⟨a, h⟩, h2, h3, _⟩ | ⟨hn, b, capv, arr, t, h1, h2, h3, _, h5, _, h7⟩
    · subst h2 h3
      exact ⟨a, 0, h, Nat.le_refl _, fun h => absurd rfl h⟩
    · refine ⟨_, capv, h2, h3, fun _ => ⟨b, 0, arr, t, (0, 0), rfl, hG [] _ b _ rfl rfl (by simpa using h1), h5, ?_⟩⟩
      rw [List.drop_zero]
      exact RepL.sh cs h7 hF (fun i c r y b s hc hy ho hb => hG (i :: r) y b s (by simp [node, kids, hc, hy]) ho (by simpa using hb))
  | .op cs, β, β0, p, p', v, h, hF, hG => by
    simp only [Rep] at h
    obtain ⟨hn, b, arr, t, h1, h2, h3, h4⟩ := h
    simp only [Av.sh, Rep]
    refine ⟨pure_shL cs, b, 0, arr, t, (0, 0), h2, hG [] _ b _ rfl rfl (by simpa using h1), h3, ?_⟩
    rw [List.drop_zero]
    exact RepL.sh cs h4 hF (fun i c r y b s hc hy ho hb => hG (i :: r) y b s (by simp [node, kids, hc, hy]) ho (by simpa using hb))
theorem RepL.sh : ∀ (cs : List AV) {β β0 : Place → Option (Nat × Nat)} {p p' : Place} {j : Nat} {vs : List Value}, RepL β F w cs p j vs → (∀ b, F b → G b) →
    (∀ i c r y b s, cs[i]? = some c → node c r = some y → y.isOwn = true → β (p.1, p.2 ++ (j + i) :: r) = some (b, s) → G b) → RepL β0 G w (shL cs) p' j vs
  | [], _, _, _, _, _, _, _, _, _ => by simp [shL, RepL]
  | c :: cs, _, _, _, _, _, [], h, _, _ => by simp [RepL] at h
  | c :: cs, β, β0, p, p', j, v :: vs, h, hF, hG => by
    simp only [RepL, shL] at h ⊢
    refine ⟨Rep.sh c h.1 hF (fun r y b s hy ho hb => hG 0 c r y b s (by simp) hy ho (by simpa using hb)), RepL.sh cs h.2 hF (fun i d r y b s hd hy ho hb => hG (i + 1) d r y b s (by simpa using hd) hy ho ?_)⟩
    rw [show j + (i + 1) = j + 1 + i by omega]
    exact hb
end
end
mutual
def snapV (σ : Sig) : AV → AV
  | .rsl q _ off n _ => match blk σ q with
    | some cs => .sl (shL (cs.drop off)) n
    | none => .undef
  | .rp q off => match blk σ q with
    | some cs => .pp (shL cs) off
    | none => .undef
  | .agg cs => .agg (snapL σ cs)
  | .fn f us cs => .fn f (snapL σ us) (snapL σ cs)
  | .nils => .sl [] 0
  | .emp => .sl [] 0
  | .tup _ => .undef
  | .when .. => .undef
  | .osl .. => .undef
  | .op _ => .undef
  | x => x
def snapL (σ : Sig) : List AV → List AV
  | [] => []
  | c :: cs => snapV σ c :: snapL σ cs
end
theorem snapL_eq (σ : Sig) (cs : List AV) : snapL σ cs = cs.map (snapV σ) := by
  induction cs with
  | nil => rfl
  | cons c cs ih => simp [snapL, ih]
theorem scalar_snap {σ : Sig} {x : AV} (h : scalar x = true) : scalar (snapV σ x) = true := by
  cases x <;> simp [scalar] at h <;> simp only [snapV] <;> first | rfl | (split <;> rfl)
theorem scalar_snapL {σ : Sig} {cs : List AV} (h : scalarL cs = true) : scalarL (snapL σ cs) = true := by
  simp only [scalarL, List.all_eq_true, snapL_eq, List.mem_map] at h ⊢
  rintro c ⟨d, hd, rfl⟩
  exact scalar_snap (h d hd)
mutual
theorem pure_snap (σ : Sig) : ∀ (x : AV), pureV (snapV σ x) = true
  | .undef | .int .. | .bool _ | .str _ | .that .. | .nilp | .nils | .emp | .sl .. | .pp .. | .tup _ | .when .. | .osl .. | .op _ => by simp [snapV, pureV]
  | .rsl .. | .rp .. => by simp only [snapV]; split <;> simp [pureV]
  | .agg cs => by simp only [snapV, pureV]; exact pure_snapL σ cs
  | .fn f us cs => by simp only [snapV, pureV, pure_snapL σ us, pure_snapL σ cs, Bool.and_true]
theorem pure_snapL (σ : Sig) : ∀ (cs : List AV), pureL (snapL σ cs) = true
  | [] => rfl
  | c :: cs => by simp only [snapL, pureL, pure_snap σ c, pure_snapL σ cs, Bool.and_true]
end
section
variable {e : Ctx} {σ : Sig} {val : Nat → Value} {w : World} {β β0 : Place → Option (Nat × Nat)} {F : Nat → Prop}
def lent (σ : Sig) (β : Place → Option (Nat × Nat)) (F : Nat → Prop) : Nat → Prop := fun b => F b ∨ ∃ q s, OwnAt σ q ∧ β q = some (b, s)
theorem repL_drop_any {F : Nat → Prop} {cs : List AV} {p p' : Place} {vs : List Value} (hp : pureL (shL cs) = true) (h : RepL β F w (shL cs) p 0 vs) (k : Nat) : RepL β0 F w (shL (cs.drop k)) p' 0 (vs.drop k) :=
  RepL_iff.2 fun i c hc => by
    rw [shL_eq, List.map_drop, ← shL_eq, List.getElem?_drop] at hc
    obtain ⟨u, hu, hr⟩ := RepL_iff.1 h _ c hc
    exact ⟨u, by rw [List.getElem?_drop]; exact hu, hr.pure_any (pureL_mem hp (List.mem_of_getElem? hc))⟩
theorem Inv.block_sh (h : Inv e σ val w β F) {q : Place} {cs : List AV} (hq : blk σ q = some cs) :
    (β q = none ∧ cs = []) ∨ ∃ b s arr t, β q = some (b, s) ∧ lent σ β F b ∧ w.heap[b]? = some (.cells arr t (0, 0)) ∧ RepL β0 (lent σ β F) w (shL cs) q 0 arr.toList := by
  rcases h.block hq with h1 | ⟨b, s, arr, t, h1, h2, h3, _⟩
  · exact .inl h1
  · obtain ⟨z, hz, ho, hk⟩ := blk_spec hq
    refine .inr ⟨b, s, arr, t, h1, .inr ⟨q, s, ⟨z, hz, ho⟩, h1⟩, h2, RepL.sh cs h3 (fun b hb => .inl hb) (fun i c r y b' s' hc hy hyo hb => .inr ⟨_, s', ?_, hb⟩)⟩
    refine ownAt_sub (q := q) (r := (0 + i) :: r) hz ?_ hyo
    simp [node, hk, hc, hy]
mutual
theorem Inv.snap (h : Inv e σ val w β F) : ∀ (x : AV) {p p' : Place} {v : Value}, Rep β F w x p v → NoOwn x → Rep β0 (lent σ β F) w (snapV σ x) p' v
  | .undef, _, _, _, _, _ => by simp [snapV, Rep]
  | .int .., _, _, _, h, _ => by simpa [snapV, Rep] using h
  | .bool _, _, _, _, h, _ => by simpa [snapV, Rep] using h
  | .str _, _, _, _, h, _ => by simpa [snapV, Rep] using h
  | .that .., _, _, _, h, _ => by simpa [snapV, Rep] using h
  | .nilp, _, _, _, h, _ => by simpa [snapV, Rep] using h
  | .nils, _, _, _, h, _ => by
    simp only [Rep] at h
    simp only [snapV, Rep]
    exact ⟨rfl, none, 0, h, Nat.le_refl _, fun h => absurd rfl h⟩
  | .emp, _, _, _, h, _ => by
    simp only [Rep] at h
    obtain ⟨a, h⟩ := h
    simp only [snapV, Rep]
    exact ⟨rfl, a, 0, h, Nat.le_refl _, fun h => absurd rfl h⟩
  | .tup _, _, _, _, _, _ => by simp [snapV, Rep]
  | .when .., _, _, _, _, _ => by simp [snapV, Rep]
  | .osl .., _, _, _, _, _ => by simp [snapV, Rep]
  | .op _, _, _, _, _, _ => by simp [snapV, Rep]
  | .sl cs n, p, p', v, hr, _ => by
    simp only [snapV]
    exact hr.tr _ (fun b hb => ⟨.inl hb, rfl⟩) (fun r y hy ho => by rw [node_scalar rfl hy] at ho; cases ho) (fun q hq => by simp [refs] at hq)
  | .pp cs off, p, p', v, hr, _ => by
    simp only [snapV]
    exact hr.tr _ (fun b hb => ⟨.inl hb, rfl⟩) (fun r y hy ho => by rw [node_scalar rfl hy] at ho; cases ho) (fun q hq => by simp [refs] at hq)
  | .rsl q sz off n cap, p, p', v, hr, _ => by
    simp only [Rep] at hr
    simp only [snapV]
    split
    · rename_i cs hq
      simp only [Rep]
      refine ⟨pure_shL _, ?_⟩
      rcases hr with ⟨h1, ⟨a, h2⟩, h3, _⟩ | ⟨b, capv, h1, h2, h3, _⟩
      · subst h3
        rcases h.block_sh (β0 := β0) hq with ⟨_, rfl⟩ | ⟨b', s, arr, t, h4, _⟩
        · exact ⟨a, 0, h2, Nat.le_refl _, fun h => absurd (by simp [shL]) h⟩
        · rw [h1] at h4; cases h4
      · refine ⟨_, capv, h2, h3, fun hne => ?_⟩
        rcases h.block_sh (β0 := fun _ => none) hq with ⟨h4, _⟩ | ⟨b', s, arr, t, h4, h5, h6, h7⟩
        · rw [h1] at h4; cases h4
        · rw [h1] at h4; cases h4
          exact ⟨b, off, arr, t, (0, 0), rfl, h5, h6, repL_drop_any (pure_shL _) h7 off⟩
    · simp [Rep]
  | .rp q off, p, p', v, hr, _ => by
    simp only [Rep] at hr
    simp only [snapV]
    split
    · rename_i cs hq
      simp only [Rep]
      obtain ⟨b, s', h1, h2⟩ := hr
      rcases h.block_sh (β0 := fun _ => none) hq with ⟨h4, _⟩ | ⟨b', s, arr, t, h4, h5, h6, h7⟩
      · rw [h1] at h4; cases h4
      · rw [h1] at h4; cases h4
        refine ⟨pure_shL _, b, 0, arr, t, (0, 0), by simpa using h2, h5, h6, ?_⟩
        have := repL_drop_any (β0 := fun _ => none) (p' := p') (F := lent σ β F) (pure_shL cs) h7 0
        simpa using this
    · simp [Rep]
  | .agg cs, p, p', v, hr, hn => by
    simp only [Rep] at hr
    obtain ⟨vs, rfl, hl, hr⟩ := hr
    simp only [snapV, Rep]
    exact ⟨vs, rfl, by simp [snapL_eq, hl], Inv.snapL h cs hr (fun i c hc => noOwn_kid (x := .agg cs) hn hc)⟩
  | .fn f us cs, p, p', v, hr, hn => by
    simp only [Rep] at hr
    obtain ⟨vs, ws, rfl, hl, hl', hs, hs', hr, hr'⟩ := hr
    simp only [snapV, Rep]
    exact ⟨vs, ws, rfl, by simp [snapL_eq, hl], by simp [snapL_eq, hl'], scalar_snapL hs, scalar_snapL hs',
      Inv.snapL h us hr (fun i c hc => noOwn_scalar (scalarL_mem hs (List.mem_of_getElem? hc))), Inv.snapL h cs hr' (fun i c hc => noOwn_scalar (scalarL_mem hs' (List.mem_of_getElem? hc)))⟩
theorem Inv.snapL (h : Inv e σ val w β F) : ∀ (cs : List AV) {p p' : Place} {j : Nat} {vs : List Value}, RepL β F w cs p j vs → (∀ (i : Nat) c, cs[i]? = some c → NoOwn c) → RepL β0 (lent σ β F) w (Av.snapL σ cs) p' j vs
  | [], _, _, _, _, _, _ => by simp [Av.snapL, RepL]
  | c :: cs, _, _, _, [], h, _ => by simp [RepL] at h
  | c :: cs, p, p', j, v :: vs, hr, hn => by
    simp only [RepL, Av.snapL] at hr ⊢
    exact ⟨Inv.snap h c hr.1 (hn 0 c rfl), Inv.snapL h cs hr.2 (fun i d hd => hn (i + 1) d (by simpa using hd))⟩
end
end
mutual
def noSh : AV → Bool
  | .sl .. => false
  | .pp .. => false
  | .agg cs => noShL cs
  | .tup cs => noShL cs
  | .fn _ us cs => noShL us && noShL cs
  | .osl _ cs _ _ => noShL cs
  | .op cs => noShL cs
  | .when _ x => noSh x
  | _ => true
def noShL : List AV → Bool
  | [] => true
  | c :: cs => noSh c && noShL cs
end
section
variable {F G : Nat → Prop} {w : World} {β : Place → Option (Nat × Nat)}
mutual
theorem Rep.noSh : ∀ (x : AV) {p : Place} {v : Value}, Rep β F w x p v → noSh x = true → Rep β G w x p v
  | .undef, _, _, _, _ => by simp [Rep]
  | .int .., _, _, h, _ => by simpa [Rep] using h
  | .bool _, _, _, h, _ => by simpa [Rep] using h
  | .str _, _, _, h, _ => by simpa [Rep] using h
  | .that .., _, _, h, _ => by simpa [Rep] using h
  | .nilp, _, _, h, _ => by simpa [Rep] using h
  | .nils, _, _, h, _ => by simpa [Rep] using h
  | .emp, _, _, h, _ => by simpa [Rep] using h
  | .sl .., _, _, _, hn => by simp [Av.noSh] at hn
  | .pp .., _, _, _, hn => by simp [Av.noSh] at hn
  | .rsl .., _, _, h, _ => by simpa [Rep] using h
  | .rp .., _, _, h, _ => by simpa [Rep] using h
  | .agg cs, _, _, h, hn => by
    simp only [Rep, Av.noSh] at h hn ⊢
    obtain ⟨vs, rfl, hl, h⟩ := h
    exact ⟨vs, rfl, hl, RepL.noSh cs h hn⟩
  | .tup cs, _, _, h, hn => by
    simp only [Rep, Av.noSh] at h hn ⊢
    obtain ⟨vs, rfl, hl, h⟩ := h
    exact ⟨vs, rfl, hl, RepL.noSh cs h hn⟩
  | .fn f us cs, _, _, h, hn => by
    simp only [Rep, Av.noSh, Bool.and_eq_true] at h hn ⊢
    obtain ⟨vs, ws, rfl, hl, hl', hs, hs', h, h'⟩ := h
    exact ⟨vs, ws, rfl, hl, hl', hs, hs', RepL.noSh us h hn.1, RepL.noSh cs h' hn.2⟩
  | .osl sz cs n cap, _, _, h, hn => by
    simp only [Rep, Av.noSh] at h hn ⊢
    rcases h with h | ⟨hr, b, capv, arr, t, h1, h2, h3, h4, h5, h6, h7⟩
    · exact .inl h
    · exact .inr ⟨hr, b, capv, arr, t, h1, h2, h3, h4, h5, h6, RepL.noSh cs h7 hn⟩
  | .op cs, _, _, h, hn => by
    simp only [Rep, Av.noSh] at h hn ⊢
    obtain ⟨hr, b, arr, t, h1, h2, h3, h4⟩ := h
    exact ⟨hr, b, arr, t, h1, h2, h3, RepL.noSh cs h4 hn⟩
  | .when g x, _, _, h, hn => by
    simp only [Rep, Av.noSh] at h hn ⊢
    exact ⟨fun hg => ⟨(h.1 hg).1, Rep.noSh x (h.1 hg).2 hn⟩, h.2⟩
theorem RepL.noSh : ∀ (cs : List AV) {p : Place} {j : Nat} {vs : List Value}, RepL β F w cs p j vs → noShL cs = true → RepL β G w cs p j vs
  | [], _, _, _, _, _ => by simp [RepL]
  | c :: cs, _, _, [], h, _ => by simp [RepL] at h
  | c :: cs, _, _, v :: vs, h, hn => by
    simp only [RepL, noShL, Bool.and_eq_true] at h hn ⊢
    exact ⟨Rep.noSh c h.1 hn.1, RepL.noSh cs h.2 hn.2⟩
end
end
end Go.Av
namespace Go.Av
open Go
def INH : Nat := 1000000
def argSig (args objs : List AV) : Sig := fun i => if i < INH then (args[i]?).getD .undef else (objs[i - INH]?).getD .undef
def ACall (P : Program) (f : FuncId) (args objs : List AV) (res : AV) (objs2 : List AV) : Prop :=
  ∀ (e : Ctx) (vs : List Value) (val : Nat → Value) (w : World) (β : Place → Option (Nat × Nat)) (F : Nat → Prop), vs.length = args.length → (∀ i, i < vs.length → val i = vs.getD i undef) →
    Inv e (argSig args objs) val w β F →
    Calls P f vs.toArray w fun en w' => ∃ v β' F', en = .returned v ∧ Inv e (argSig [res] objs2) (upd val 0 v) w' β' F'
section
variable {P : Program} {N : Nat} {A : Bool} {σ σ' : Sig} {x y z : Operand} {D : List Nat} {o : Oper} {d : Nat} {ty : TypeId}
variable {e : Ctx} {val : Nat → Value} {w : World} {β : Place → Option (Nat × Nat)} {F : Nat → Prop}
theorem noOwn_argSig {args : List AV} (h : pureL args = true) (q : Place) : ¬ OwnAt (argSig args []) q := by
  rintro ⟨y, hy, ho⟩
  unfold argSig at hy
  split at hy
  · cases hx : args[q.1]? with
    | none => rw [hx] at hy; simp at hy; cases hr : q.2 with
      | nil => rw [hr] at hy; simp [node] at hy; subst hy; simp [AV.isOwn] at ho
      | cons j r => rw [hr] at hy; simp [node, kids] at hy
    | some c =>
      rw [hx] at hy
      rw [noOwn_pure (pureL_mem h (List.mem_of_getElem? hx)) hy] at ho; cases ho
  · simp at hy
    cases hr : q.2 with
    | nil => rw [hr] at hy; simp [node] at hy; subst hy; simp [AV.isOwn] at ho
    | cons j r => rw [hr] at hy; simp [node, kids] at hy
theorem call_core {f : FuncId} {args : List AV} {res : AV} (hc : ACall P f args [] res []) (hp : pureL args = true) (hn : noSh res = true) (hr : noRef res = true) (h : Inv e σ val w β F) {vs : List Value}
    (hl : vs.length = args.length) (ha : RepL (fun _ => none) (lent σ β F) w args (0, []) 0 vs) (d : Nat) :
    Calls P f vs.toArray w fun en w' => ∃ v β', en = .returned v ∧ Inv e (upd (fun i => purgeV d (σ i)) d res) (upd val d v) w' β' F := by
  have hinv : Inv ⟨w, fun _ => False, lent σ β F, []⟩ (argSig args []) (fun i => vs.getD i undef) w (fun _ => none) (lent σ β F) := by
    refine ⟨fun i => ?_, fun q q' b s s' hq => (noOwn_argSig hp q hq).elim, fun q b s hq => (noOwn_argSig hp q hq).elim, fun b hb => ⟨?_, fun _ => hb⟩, fun _ _ _ => rfl, Nat.le_refl _, Tame.refl _⟩
    · unfold argSig
      split
      · cases hx : args[i]? with
        | none => simp [Rep]
        | some c =>
          obtain ⟨u, hu, hru⟩ := RepL_iff.1 ha i c hx
          rw [List.getD_eq_getElem?_getD, hu]
          exact hru.pure_any (pureL_mem hp (List.mem_of_getElem? hx))
      · simp [Rep]
    · rcases hb with hb | ⟨q, s, hq, hb⟩
      · exact (h.fr b hb).1
      · exact h.own_lt hq hb
  refine (hc _ vs _ w _ _ hl (fun _ _ => rfl) hinv).mono fun en w' ⟨v, β', F', he, hi⟩ => ⟨v, ?_⟩
  have hkept : ∀ b, b < w.heap.size → w'.heap[b]? = w.heap[b]? := fun b hb => hi.kept b hb (fun h => h)
  have hI := h.more hkept hi.grow (h.tame.trans hi.tame hkept)
  have h0 : argSig [res] [] 0 = res := by simp [argSig, INH]
  have hdet : Det e σ w' β F res v (fun r => β' (0, r)) := by
    refine ⟨?_, refs_of_noRef res hr, ?_, ?_⟩
    · have := hi.rep 0
      rw [h0, upd_same] at this
      exact (this.noSh (G := F) res hn).tr _ (fun b hb => ⟨hb, rfl⟩) (fun r y _ _ => ⟨by simp, fun _ _ _ => rfl⟩) (fun q hq => by rw [refs_of_noRef res hr] at hq; cases hq)
    · intro r r' y y' b s s' hy ho hy' ho' hb hb'
      have := hi.disj (0, r) (0, r') b s s' ⟨y, by rw [h0]; exact hy, ho⟩ ⟨y', by rw [h0]; exact hy', ho'⟩ hb hb'
      simpa using this
    · intro r y b s hy ho hb
      have hs := hi.sep (0, r) b s ⟨y, by rw [h0]; exact hy, ho⟩ hb
      have hge : w.heap.size ≤ b := by rcases hs.2 with h | h; exact h; exact h.elim
      exact ⟨fun hF => by have := (h.fr b hF).1; omega, .inl (Nat.le_trans h.grow hge), fun q s' hq hb' => by have := h.own_lt hq hb'; omega⟩
  exact ⟨_, he, hI.attach d hdet⟩
theorem call_core_F {f : FuncId} {args : List AV} {res : AV} (hc : ACall P f args [] res []) (hp : pureL args = true) (hr : noRef res = true) (h : Inv e σ val w β F) {vs : List Value}
    (hl : vs.length = args.length) (ha : RepL (fun _ => none) F w args (0, []) 0 vs) (d : Nat) :
    Calls P f vs.toArray w fun en w' => ∃ v β' F', en = .returned v ∧ Inv e (upd (fun i => purgeV d (σ i)) d res) (upd val d v) w' β' F' := by
  have hinv : Inv ⟨w, fun _ => False, F, []⟩ (argSig args []) (fun i => vs.getD i undef) w (fun _ => none) F := by
    refine ⟨fun i => ?_, fun q q' b s s' hq => (noOwn_argSig hp q hq).elim, fun q b s hq => (noOwn_argSig hp q hq).elim, fun b hb => ⟨(h.fr b hb).1, fun _ => hb⟩, fun _ _ _ => rfl, Nat.le_refl _, Tame.refl _⟩
    unfold argSig
    split
    · cases hx : args[i]? with
      | none => simp [Rep]
      | some c =>
        obtain ⟨u, hu, hru⟩ := RepL_iff.1 ha i c hx
        rw [List.getD_eq_getElem?_getD, hu]
        exact hru.pure_any (pureL_mem hp (List.mem_of_getElem? hx))
    · simp [Rep]
  refine (hc _ vs _ w _ _ hl (fun _ _ => rfl) hinv).mono fun en w' ⟨v, β', F', he, hi⟩ => ⟨v, ?_⟩
  have hkept : ∀ b, b < w.heap.size → w'.heap[b]? = w.heap[b]? := fun b hb => hi.kept b hb (fun h => h)
  have hF' : ∀ b, F' b → F b ∨ w.heap.size ≤ b := fun b hb => by
    rcases Nat.lt_or_ge b w.heap.size with hlt | hge
    · exact .inl ((hi.fr b hb).2 hlt)
    · exact .inr hge
  have hI : Inv e σ val w' β (fun b => F b ∨ F' b) := (h.more hkept hi.grow (h.tame.trans hi.tame hkept)).moreF (fun b hb => .inl hb) (fun b hb => by
    rcases hb with hb | hb
    · exact ⟨Nat.lt_of_lt_of_le (h.fr b hb).1 hi.grow, (h.fr b hb).2⟩
    · refine ⟨(hi.fr b hb).1, fun hlt => ?_⟩
      rcases hF' b hb with hb | hge
      · exact (h.fr b hb).2 hlt
      · have := h.grow; omega) (fun q b s hq hb hF => by
    rcases hF with hF | hF
    · exact (h.sep q b s hq hb).1 hF
    · rcases hF' b hF with hF | hge
      · exact (h.sep q b s hq hb).1 hF
      · have := h.own_lt hq hb; omega)
  have h0 : argSig [res] [] 0 = res := by simp [argSig, INH]
  have hdet : Det e σ w' β (fun b => F b ∨ F' b) res v (fun r => β' (0, r)) := by
    refine ⟨?_, refs_of_noRef res hr, ?_, ?_⟩
    · have := hi.rep 0
      rw [h0, upd_same] at this
      exact this.tr _ (fun b hb => ⟨.inr hb, rfl⟩) (fun r y _ _ => ⟨by simp, fun _ _ _ => rfl⟩) (fun q hq => by rw [refs_of_noRef res hr] at hq; cases hq)
    · intro r r' y y' b s s' hy ho hy' ho' hb hb'
      have := hi.disj (0, r) (0, r') b s s' ⟨y, by rw [h0]; exact hy, ho⟩ ⟨y', by rw [h0]; exact hy', ho'⟩ hb hb'
      simpa using this
    · intro r y b s hy ho hb
      have hs := hi.sep (0, r) b s ⟨y, by rw [h0]; exact hy, ho⟩ hb
      have hge : w.heap.size ≤ b := by rcases hs.2 with h | h; exact h; exact h.elim
      refine ⟨fun hF => ?_, .inl (Nat.le_trans h.grow hge), fun q s' hq hb' => by have := h.own_lt hq hb'; omega⟩
      rcases hF with hF | hF
      · have := (h.fr b hF).1; omega
      · exact hs.1 hF
  exact ⟨_, _, he, hI.attach d hdet⟩
def hasBody (P : Program) (f : FuncId) : Bool := match P.funcs[f]? with
  | some fn => fn.body.isSome && !(fn.name == "runtime.NumGoroutine")
  | none => false
theorem run_callFunc_body {f : FuncId} (h : hasBody P f = true) (args : Array Value) (w : World) : (callFunc f args).run P w = .ok (.enter f args) w := by
  unfold hasBody at h
  split at h
  · rename_i fn hf
    simp only [Bool.and_eq_true, Bool.not_eq_true'] at h
    obtain ⟨hb, hn⟩ := h
    have hb' : fn.body ≠ none := by cases hfb : fn.body <;> simp [hfb] at hb ⊢
    have hn' : fn.name ≠ "runtime.NumGoroutine" := by simpa using hn
    simp [callFunc, hf, hn', hb']
  · cases h
def fnCall (f : FuncId) (xs : List Operand) (tys : Array TypeId) : Op := .call { callee := .value (.func f), args := xs.toArray, argTypes := tys }
def cloCall (c : Operand) (xs : List Operand) (tys : Array TypeId) : Op := .call { callee := .value c, args := xs.toArray, argTypes := tys }
theorem upon_enter' {o : Oper} {a : Act} {f : FuncId} {args : Array Value} {w : World} {K : Act → World → Prop} {Q : Exit → Act → World → Prop} (h : (execOp a.eval o).run P w = .ok (.enter f args) w)
    (hc : Calls P f args w fun en w' => ∃ v, en = .returned v ∧ K (a.put o.dst v) w') : o.wp P a w K Q := by
  unfold Oper.wp
  rw [h]
  exact hc.mono fun en w' ⟨v, he, hk⟩ => by subst he; exact hk
def refRoots : List AV → List Nat
  | [] => []
  | c :: cs => (refs c).map (·.1) ++ refRoots cs
mutual
theorem snapV_congr {σ σ0 : Sig} : ∀ (x : AV), (∀ q ∈ refs x, σ q.1 = σ0 q.1) → snapV σ x = snapV σ0 x
  | .undef, _ | .int .., _ | .bool _, _ | .str _, _ | .that .., _ | .nilp, _ | .nils, _ | .emp, _ | .sl .., _ | .pp .., _ | .tup _, _ | .when .., _ | .osl .., _ | .op _, _ => rfl
  | .rsl q sz off n cap, h => by simp only [snapV, blk_agree (h q (by simp [refs]))]
  | .rp q off, h => by simp only [snapV, blk_agree (h q (by simp [refs]))]
  | .agg cs, h => by simp only [snapV, snapL_congr cs (fun q hq => h q (by simpa [refs] using hq))]
  | .fn f us cs, h => by
    simp only [snapV, snapL_congr us (fun q hq => h q (by simp [refs, hq])), snapL_congr cs (fun q hq => h q (by simp [refs, hq]))]
theorem snapL_congr {σ σ0 : Sig} : ∀ (cs : List AV), (∀ q ∈ refsL cs, σ q.1 = σ0 q.1) → snapL σ cs = snapL σ0 cs
  | [], _ => rfl
  | c :: cs, h => by simp only [snapL, snapV_congr c (fun q hq => h q (by simp [refsL, hq])), snapL_congr cs (fun q hq => h q (by simp [refsL, hq]))]
end
def RdL (N : Nat) (A : Bool) (σ : Sig) : List Operand → List AV → Prop
  | [], [] => True
  | x :: xs, v :: vs => RdTo N A σ x v ∧ RdL N A σ xs vs
  | _, _ => False
theorem RdL.rep {N : Nat} {A : Bool} {σ σ0 : Sig} {gv : Nat → Value} {e : Ctx} {a : Act} {w : World} {β : Place → Option (Nat × Nat)} {F : Nat → Prop} (hA : A = true) (hi : Inv e σ (valOf N gv a) w β F) (p : Place) :
    ∀ {xs : List Operand} {vs : List AV} {j : Nat}, RdL N A σ0 xs vs → (∀ i ∈ slotsL xs, σ i = σ0 i) → RepL β F w vs p j (xs.map a.eval) ∧ (xs.map a.eval).length = vs.length ∧ ∀ v ∈ vs, NoOwn v
  | [], [], j, _, _ => by simp [RepL]
  | [], _ :: _, j, h, _ => h.elim
  | _ :: _, [], j, h, _ => h.elim
  | x :: xs, v :: vs, j, h, hD => by
    have hx : ∀ i ∈ slots x, σ i = σ0 i := fun i hi' => hD i (List.mem_flatMap.2 ⟨x, by simp, hi'⟩)
    obtain ⟨h1, h2, h3⟩ := RdL.rep hA hi p (j := j + 1) h.2 (fun i hi' => by
      obtain ⟨y, hy, hi'⟩ := List.mem_flatMap.1 hi'
      exact hD i (List.mem_flatMap.2 ⟨y, by simp [hy], hi'⟩))
    refine ⟨by simp only [List.map_cons, RepL]; exact ⟨h.1.rep hA hx hi _, h1⟩, by simp [h2], fun u hu => ?_⟩
    rcases List.mem_cons.1 hu with rfl | hu
    · rcases h.1 with hr | ⟨g, hr, hg⟩
      · rw [← hr]; exact noOwn_rd x
      · have hrr := rd_rep hi x p
        rw [rd_agree hx, hr] at hrr
        simp only [Rep] at hrr
        exact noOwn_flat (hrr.1 (hg hA)).1
    · exact h3 u hu
theorem refRoots_mem {cs : List AV} {q : Place} (hq : q ∈ refsL cs) : q.1 ∈ refRoots cs := by
  induction cs with
  | nil => simp [refsL] at hq
  | cons c cs ih =>
    simp only [refsL, List.mem_append] at hq
    simp only [refRoots, List.mem_append]
    rcases hq with hq | hq
    · exact .inl (List.mem_map.2 ⟨q, hq, rfl⟩)
    · exact .inr (ih hq)
theorem q_call {f : FuncId} {xs : List Operand} {tys : Array TypeId} {vs args : List AV} {res : AV} (hf : hasBody P f = true) (hx : RdL N A σ xs vs) (hs : snapL σ vs = args) (hc : A = true → ACall P f args [] res [])
    (hn : noSh res = true) (hr : noRef res = true) : QSem P N A (fnCall f xs tys) ty σ (slotsL xs ++ refRoots vs) res := by
  intro hA σ' hD gv e a w β F hi d o ho hty K Q hK
  have hp : pureL args = true := by rw [← hs]; exact pure_snapL σ _
  obtain ⟨hrep, hlen, hno⟩ := RdL.rep hA hi (0, []) (j := 0) hx (agree_l hD)
  have hsn := hi.snapL (β0 := fun _ => none) _ (p' := (0, [])) hrep (fun i c hc => hno c (List.mem_of_getElem? hc))
  have e2 : snapL σ' vs = args := by rw [← hs]; exact snapL_congr _ fun q hq => hD q.1 (List.mem_append_right _ (refRoots_mem hq))
  rw [e2] at hsn
  have hl : (xs.map a.eval).length = args.length := by rw [← e2, snapL_eq, hlen]; simp
  refine upon_enter' (f := f) (args := (xs.map a.eval).toArray) ?_ ((call_core (hc hA) hp hn hr hi hl hsn d).mono fun en w' ⟨v, β', he, hi'⟩ => ⟨v, he, hK _ _ ⟨β', F, hi'⟩⟩)
  simp [execOp, ho, fnCall, resolve, Deferred.ofValue, Act.eval, invoke, run_callFunc_body hf]
theorem q_callF {f : FuncId} {xs : List Operand} {tys : Array TypeId} {vs args : List AV} {res : AV} (hf : hasBody P f = true) (hx : RdL N A σ xs vs) (hs : snapL σ vs = args) (hc : A = true → ACall P f args [] res [])
    (hnr : noRefL vs = true) (hr : noRef res = true) : QSem P N A (fnCall f xs tys) ty σ (slotsL xs ++ refRoots vs) res := by
  intro hA σ' hD gv e a w β F hi d o ho hty K Q hK
  have hp : pureL args = true := by rw [← hs]; exact pure_snapL σ _
  obtain ⟨hrep, hlen, hno⟩ := RdL.rep hA hi (0, []) (j := 0) hx (agree_l hD)
  have hi0 : Inv e (fun _ => .undef) (valOf N gv a) w β F := hi.weak (fun i => by simp [Rep]) (fun q ⟨y, hy, hoy⟩ => by
    cases hr : q.2 with
    | nil => rw [hr] at hy; simp [node] at hy; subst hy; simp [AV.isOwn] at hoy
    | cons j r => rw [hr] at hy; simp [node, kids] at hy)
  have hsn := hi0.snapL (β0 := fun _ => none) _ (p' := (0, [])) hrep (fun i c hc => hno c (List.mem_of_getElem? hc))
  have e2 : snapL (fun _ => .undef) vs = args := by
    rw [← hs]
    exact snapL_congr _ fun q hq => by rw [refsL_of_noRef _ hnr] at hq; cases hq
  rw [e2] at hsn
  have hl : (xs.map a.eval).length = args.length := by rw [← e2, snapL_eq, hlen]; simp
  have hlent : ∀ b, lent (fun _ => .undef) β F b → F b := fun b hb => by
    rcases hb with hb | ⟨q, s, ⟨y, hy, hoy⟩, _⟩
    · exact hb
    · cases hr : q.2 with
      | nil => rw [hr] at hy; simp [node] at hy; subst hy; simp [AV.isOwn] at hoy
      | cons j r => rw [hr] at hy; simp [node, kids] at hy
  have hsn' : RepL (fun _ => none) F w args (0, []) 0 (xs.map a.eval) := hsn.tr _ (fun b hb => ⟨hlent b hb, rfl⟩) (fun i c r y hc hy ho => by
    rw [noOwn_pure (pureL_mem hp (List.mem_of_getElem? hc)) hy] at ho; cases ho) (fun _ _ _ _ => rfl)
  refine upon_enter' (f := f) (args := (xs.map a.eval).toArray) ?_ ((call_core_F (hc hA) hp hr hi hl hsn' d).mono fun en w' ⟨v, β', F', he, hi'⟩ => ⟨v, he, hK _ _ ⟨β', F', hi'⟩⟩)
  simp [execOp, ho, fnCall, resolve, Deferred.ofValue, Act.eval, invoke, run_callFunc_body hf]
end
end Go.Av
namespace Go.Av
open Go
def wideR (r : Option Nat) : Fence := { Fence.wide with round := r }
def SWp (P : Program) (c : Code) (Q : Exit → Act → World → Prop) (a : Act) (w : World) : Prop := ∀ (r : Option Nat) (n : Nat), c.wpIn (wideR r) n P Q a w
section
variable {P : Program} {Q : Exit → Act → World → Prop} {a : Act} {w : World} {c c' : Code}
theorem SWp.wp (h : SWp P c Q a w) : c.wp P Q a w := wpIn_wide.1 (h none 0)
theorem SWp.mono {Q' : Exit → Act → World → Prop} (h : SWp P c Q a w) (hq : ∀ e a w, Q e a w → Q' e a w) : SWp P c Q' a w := fun r n => wpIn_mono (h r n) hq
theorem sw_skip (h : Q .normal a w) : SWp P .skip Q a w := fun _ _ => wpIn_skip h
theorem sw_exit {id : Nat} (h : Q (.exit id) a w) : SWp P (.exit id) Q a w := fun _ _ => wpIn_exit h
theorem sw_ret (h : Q .ret a w) : SWp P .ret Q a w := fun _ _ => wpIn_ret h
theorem sw_seq (h : SWp P c (Exit.then (SWp P c' Q) Q) a w) : SWp P (.seq c c') Q a w := fun r n =>
  wpIn_seq (wpIn_mono (h r n) fun e a w hq => by cases e <;> first | exact hq r n | exact hq)
theorem sw_cond_split {x : Operand} {t : Bool} (hc : a.eval x = .bool t) (ht : t = true → SWp P c Q a w) (hf : t = false → SWp P c' Q a w) : SWp P (.cond x c c') Q a w := fun r n =>
  wpIn_cond_split hc (fun h => ht h r n) (fun h => hf h r n)
theorem sw_block {id : Nat} (h : SWp P c (Exit.inBlock id Q) a w) : SWp P (.block id c) Q a w := fun r n => wpIn_block (h r n)
theorem sw_loop (I : Act → World → Prop) (μ : Act → World → Nat) (h₀ : I a w)
    (round : ∀ a w, I a w → SWp P c (Exit.then (fun a' w' => I a' w' ∧ μ a' w' < μ a w) Q) a w) : SWp P (.loop c) Q a w := fun r n =>
  wpIn_loop I μ h₀ fun a w hi => round a w hi r n
def isDefer : Op → Bool
  | .defer _ => true
  | _ => false
def noDefer : List Oper → Bool
  | [] => true
  | o :: l => !isDefer o.op && noDefer l
theorem noDefer_mem : ∀ {l : List Oper}, noDefer l = true → ∀ o ∈ l, ∀ c, o.op ≠ .defer c
  | [], _, o, ho, _ => by cases ho
  | x :: l, h, o, ho, c => by
    simp only [noDefer, Bool.and_eq_true] at h
    rcases List.mem_cons.1 ho with rfl | ho
    · intro e; rw [e] at h; simp [isDefer] at h
    · exact noDefer_mem h.2 o ho c
theorem about_wide {r : Option Nat} {o : Oper} : ∀ f, o.about P w a.eval = some f → (wideR r).fn f := fun _ _ => trivial
theorem Oper.wp_in {r : Option Nat} {n : Nat} {o : Oper} {K : Act → World → Prop} (hnd : ∀ c, o.op ≠ .defer c) (h : o.wp P a w K Q) : o.wpIn (wideR r) n P a w K Q := by
  refine ⟨about_wide, ?_⟩
  rw [Oper.semAt_eq _ _ _ hnd]
  unfold Oper.wp at h
  have hd : (wideR r).depth.isSome = true → 1 ≤ n := fun h => by simp [wideR, Fence.wide] at h
  generalize hr : (execOp a.eval o).run P w = res at h
  cases res with
  | ok v w' =>
    cases v with
    | value v => exact h
    | skip => exact h
    | defer d => exact h
    | enter f args => exact ⟨hd, (callsIn_wide (n := n - 1)).2 h⟩
    | row row args =>
      refine ⟨hd, fun c cs _ => ?_⟩
      obtain ⟨v, w'', h1, h2⟩ := h c cs
      exact ⟨v, w'', h1, stepsIn_wide.2 h2⟩
    | _ => exact h.elim
  | halt x w' =>
    cases x <;> exact h
theorem wpList_in {r : Option Nat} {n : Nat} {ops : Array Oper} (hQ : ¬ LetsOut Q) : ∀ {l : List Oper} {a : Act} {w : World}, (∀ o ∈ l, ∀ c, o.op ≠ .defer c) → wpList P ops Q l a w → wpListIn (wideR r) n P ops Q l a w
  | [], _, _, _, h => h
  | o :: l, a, w, hnd, h => by
    unfold wpList at h
    unfold wpListIn
    split
    · rename_i hw
      rw [if_pos hw] at h
      rcases h with h | ⟨_, h⟩
      · exact Oper.wp_in (hnd o (by simp)) (Oper.wp_mono (fun a w h => wpList_in hQ (fun o ho => hnd o (by simp [ho])) h) h)
      · exact (hQ h).elim
    · rename_i hw
      rw [if_neg hw] at h
      exact ⟨about_wide, wpList_in hQ (fun o ho => hnd o (by simp [ho])) h⟩
theorem wpAny_in {r : Option Nat} {n : Nat} {md : Region.Mode} {ops : Array Oper} (hQ : ¬ LetsOut Q) (hnd : ∀ o ∈ ops.toList, ∀ c, o.op ≠ .defer c) : ∀ {fuel : Nat} {listed : Array Bool} {a : Act} {w : World},
    wpAny P md ops Q fuel listed a w → wpAnyIn (wideR r) n P md ops Q fuel listed a w
  | 0, _, _, _, h => h
  | fuel + 1, listed, a, w, h => by
    refine ⟨h.1, fun i hi => ?_⟩
    have h2 := h.2 i hi
    unfold wpOp at h2
    unfold wpOpIn
    cases ho : ops[i]? with
    | none => rw [ho] at h2; exact wpAny_in hQ hnd h2
    | some o =>
      rw [ho] at h2
      dsimp only at h2 ⊢
      have hm : o ∈ ops.toList := by
        have := List.mem_of_getElem? (l := ops.toList) (i := i) (a := o) (by simpa using ho)
        exact this
      split
      · rename_i hw
        rw [if_pos hw] at h2
        rcases h2 with h2 | ⟨_, h2⟩
        · exact Oper.wp_in (hnd o hm) (Oper.wp_mono (fun a w h => wpAny_in hQ hnd h) h2)
        · exact (hQ h2).elim
      · rename_i hw
        rw [if_neg hw] at h2
        exact ⟨about_wide, wpAny_in hQ hnd h2⟩
end
section
variable {P : Program} {N : Nat} {gv : Nat → Value} {e : Ctx} {a : Act} {w : World} {K : Sig → Prop} {Q : Exit → Act → World → Prop}
def NQ (N : Nat) (gv : Nat → Value) (e : Ctx) (K : Sig → Prop) : Exit → Act → World → Prop := fun x a w => x = .normal ∧ ∃ σ', K σ' ∧ All N gv e σ' a w
theorem NQ_out : ¬ LetsOut (NQ N gv e K) := fun ⟨_, _, h, _⟩ => by cases h
theorem sw_region {id : Nat} {l : List Oper} (hnd : noDefer l = true) (hQ : ∀ a' w' σ', K σ' → All N gv e σ' a' w' → Q .normal a' w')
    (h : ∀ Q : Exit → Act → World → Prop, (∀ a' w' σ', K σ' → All N gv e σ' a' w' → Q .normal a' w') → wpList P l.toArray Q l a w) : SWp P (.region id l.toArray false) Q a w := fun r n =>
  wpIn_mono (wpIn_region_lit (wpList_in NQ_out (noDefer_mem hnd) (h (NQ N gv e K) fun a' w' σ' h1 h2 => ⟨rfl, σ', h1, h2⟩))) fun x a' w' ⟨hx, σ', h1, h2⟩ => by rw [hx]; exact hQ _ _ _ h1 h2
theorem sw_region_any {id : Nat} {l : List Oper} (hm : P.follows .mixedOrders = true) (hnd : noDefer l = true) (hQ : ∀ x a' w' σ', x = .normal → K σ' → All N gv e σ' a' w' → Q x a' w')
    (h : ∀ Q : Exit → Act → World → Prop, (∀ (_ : Unit) a' w' σ', K σ' → All N gv e σ' a' w' → Q .normal a' w') →
      wpAny P .any l.toArray Q l.toArray.size (Array.replicate l.toArray.size false) a { w with drawn := w.drawn + 1 }) : SWp P (.region id l.toArray true) Q a w := fun r n =>
  wpIn_mono (wpIn_region_any hm (wpAny_in NQ_out (by simpa using noDefer_mem hnd) (h (NQ N gv e K) fun _ a' w' σ' h1 h2 => ⟨rfl, σ', h1, h2⟩))) fun x a' w' ⟨hx, σ', h1, h2⟩ => hQ _ _ _ _ hx h1 h2
end
end Go.Av
namespace Go.Av
open Go
def look : List (Nat × AV) → Sig
  | [] => fun _ => .undef
  | (d, v) :: L => upd (look L) d v
def ACode (P : Program) (N : Nat) (c : Code) (σ : Sig) (Φ : Exit → Sig → Prop) : Prop :=
  ∀ (gv : Nat → Value) (e : Ctx) (a : Act) (w : World), All N gv e σ a w → ∀ Q : Exit → Act → World → Prop, (∀ x a' w' σ', Φ x σ' → All N gv e σ' a' w' → Q x a' w') → SWp P c Q a w
def ARun (P : Program) (N : Nat) (ops : Array Oper) (l : List Oper) (σ : Sig) (K : Sig → Prop) : Prop :=
  ∀ (gv : Nat → Value) (e : Ctx) (a : Act) (w : World), All N gv e σ a w → ∀ Q : Exit → Act → World → Prop, (∀ a' w' σ', K σ' → All N gv e σ' a' w' → Q .normal a' w') → wpList P ops Q l a w
section
variable {P : Program} {N : Nat} {A : Bool} {σ σ' : Sig} {Φ : Exit → Sig → Prop} {c c' : Code} {ops : Array Oper} {rest : List Oper} {o : Oper} {K : Sig → Prop}
theorem a_pre (h : Ent σ σ') (hc : ACode P N c σ' Φ) : ACode P N c σ Φ := fun gv e a w ha Q hQ => hc gv e a w (h.all ha) Q hQ
theorem a_seq (h : ACode P N c σ (fun x s => match x with | .normal => ACode P N c' s Φ | x => Φ x s)) : ACode P N (.seq c c') σ Φ := fun gv e a w ha Q hQ =>
  sw_seq (h gv e a w ha _ fun x a' w' s hx ha' => by
    cases x <;> simp only [Exit.then] <;> first | exact hx gv e a' w' ha' Q hQ | exact hQ _ _ _ _ hx ha')
theorem a_skip (h : Φ .normal σ) : ACode P N .skip σ Φ := fun gv e a w ha Q hQ => sw_skip (hQ _ _ _ _ h ha)
theorem a_ret (h : Φ .ret σ) : ACode P N .ret σ Φ := fun gv e a w ha Q hQ => sw_ret (hQ _ _ _ _ h ha)
theorem a_exit {id : Nat} (h : Φ (.exit id) σ) : ACode P N (.exit id) σ Φ := fun gv e a w ha Q hQ => sw_exit (hQ _ _ _ _ h ha)
theorem a_cond {t : Nat} {b : Bool} (hb : rd N σ (.tmp t) = .bool b) (h1 : b = true → ACode P N c σ Φ) (h2 : b = false → ACode P N c' σ Φ) : ACode P N (.cond (.tmp t) c c') σ Φ := fun gv e a w ha Q hQ => by
  obtain ⟨hdf, hsz, β, F, hi⟩ := ha
  have hr := rd_rep hi (.tmp t) (0, [])
  rw [hb] at hr
  simp only [Rep] at hr
  exact sw_cond_split hr (fun h => h1 h gv e a w ⟨hdf, hsz, β, F, hi⟩ Q hQ) (fun h => h2 h gv e a w ⟨hdf, hsz, β, F, hi⟩ Q hQ)
theorem a_block {id : Nat} (h : ACode P N c σ (fun x s => match x with | .exit i => if i = id then Φ .normal s else Φ (.exit i) s | x => Φ x s)) : ACode P N (.block id c) σ Φ := fun gv e a w ha Q hQ =>
  sw_block (h gv e a w ha _ fun x a' w' s hx ha' => by
    cases x <;> simp only [Exit.inBlock] <;> try exact hQ _ _ _ _ hx ha'
    dsimp only at hx
    split
    · rename_i h; rw [if_pos h] at hx; exact hQ _ _ _ _ hx ha'
    · rename_i h; rw [if_neg h] at hx; exact hQ _ _ _ _ hx ha')
theorem has_least {p : Nat → Prop} : ∀ n, p n → ∃ m, p m ∧ ∀ k, p k → m ≤ k := by
  intro n
  induction n using Nat.strongRecOn with
  | _ n ih =>
    intro hn
    by_cases h : ∃ k, k < n ∧ p k
    · obtain ⟨k, hk, hp⟩ := h; exact ih k hk hp
    · refine ⟨n, hn, fun k hk => ?_⟩
      rcases Nat.lt_or_ge k n with hlt | hge
      · exact absurd ⟨k, hlt, hk⟩ h
      · exact hge
theorem least_fun : ∃ least : (Nat → Prop) → Nat, ∀ p : Nat → Prop, (∃ n, p n) → p (least p) ∧ ∀ k, p k → least p ≤ k := by
  have h : ∀ p : Nat → Prop, ∃ m, (∃ n, p n) → p m ∧ ∀ k, p k → m ≤ k := fun p => by
    by_cases hp : ∃ n, p n
    · obtain ⟨n, hn⟩ := hp
      obtain ⟨m, hm⟩ := has_least n hn
      exact ⟨m, fun _ => hm⟩
    · exact ⟨0, fun h => absurd h hp⟩
  exact ⟨fun p => Classical.choose (h p), fun p => Classical.choose_spec (h p)⟩
theorem a_loop {X : Type} (lift : X → Sig) (G : X → Prop) (μ : X → Nat) (x0 : X) (h0 : Ent σ (lift x0)) (hG : G x0)
    (round : ∀ x, G x → ACode P N c (lift x) (fun ex s => match ex with | .normal => ∃ x', Ent s (lift x') ∧ G x' ∧ μ x' < μ x | ex => Φ ex s)) : ACode P N (.loop c) σ Φ := fun gv e a w ha Q hQ => by
  obtain ⟨leastOf, leastOf_spec⟩ := least_fun
  let J : Act → World → Nat → Prop := fun a w n => ∃ x, G x ∧ μ x = n ∧ All N gv e (lift x) a w
  refine sw_loop (fun a w => ∃ n, J a w n) (fun a w => leastOf (J a w)) ⟨_, x0, hG, rfl, h0.all ha⟩ fun a w hJ => ?_
  obtain ⟨x, hx, hn, hax⟩ := (leastOf_spec _ hJ).1
  refine round x hx gv e a w hax _ fun ex a' w' s hex' ha' => ?_
  cases ex <;> simp only [Exit.then] <;> try exact hQ _ _ _ _ hex' ha'
  obtain ⟨x', hent, hG', hlt⟩ := hex'
  have hJ' : J a' w' (μ x') := ⟨x', hG', rfl, hent.all ha'⟩
  have := (leastOf_spec _ ⟨_, hJ'⟩).2 _ hJ'
  exact ⟨⟨_, hJ'⟩, by omega⟩
theorem a_region {id : Nat} {l : List Oper} (h : ARun P N l.toArray l σ (fun s => Φ .normal s)) (hnd : noDefer l = true := by kernel_rfl) : ACode P N (.region id l.toArray false) σ Φ := fun gv e a w ha Q hQ =>
  sw_region (K := fun s => Φ .normal s) hnd (fun a' w' s hs ha' => hQ _ _ _ _ hs ha') (h gv e a w ha)
theorem r_nil (h : K σ) : ARun P N ops [] σ K := fun gv e a w ha Q hQ => wpList_nil (hQ _ _ _ h ha)
theorem r_pre (h : Ent σ σ') (hc : ARun P N ops rest σ' K) : ARun P N ops rest σ K := fun gv e a w ha Q hQ => hc gv e a w (h.all ha) Q hQ
theorem r_step (hg : o.guard = none) (hs : OStep P N o σ σ') (h : ARun P N ops rest σ' K) : ARun P N ops (o :: rest) σ K := fun gv e a w ha Q hQ =>
  wpList_plain hg fun K' hK' => hs gv e a w ha K' Q fun a' w' ha' => hK' _ _ (h gv e a' w' ha' Q hQ)
theorem r_val {d : Nat} {v : AV} {D : List Nat} (hv : VSem P N true o.op o.type σ D v) (hg : o.guard = none) (hd : o.dst = some d) (hN : d < N) (h : ARun P N ops rest (upd σ d v) K) : ARun P N ops (o :: rest) σ K :=
  r_step hg (hv.step hd hN) h
theorem r_new {d : Nat} {v : AV} {D : List Nat} (hv : QSem P N true o.op o.type σ D v) (hg : o.guard = none) (hd : o.dst = some d) (hN : d < N) (h : ARun P N ops rest (upd (fun i => purgeV d (σ i)) d v) K) : ARun P N ops (o :: rest) σ K :=
  r_step hg (hv.step hd hN) h
def GuardTo (σ : Sig) (t : Nat) (A : Bool) (want : Bool) : Prop := (∃ b, σ t = .bool b ∧ A = (b == want)) ∨ ∃ g b, σ t = .when g (.bool b) ∧ A = (g && (b == want))
theorem guard_is {gv : Nat → Value} {e : Ctx} {a : Act} {w : World} {j t : Nat} {want : Bool} (ha : All N gv e σ a w) (hN : t < N) (ht : (ops[j]?).bind (·.dst) = some t) (hG : GuardTo σ t A want)
    (hg : o.guard = some (j, want)) : Region.wanted o (yielded ops a.tmps) = A := by
  obtain ⟨hdf, hsz, β, F, hi⟩ := ha
  have hr := hi.rep t
  have hv : valOf N gv a t = a.tmps.getD t undef := by simp [valOf, hN]
  have hget : a.tmps[t]? = some (valOf N gv a t) := by rw [hv]; simp [hsz, hN]
  simp only [Region.wanted, hg, yielded, ht, Option.bind_some, hget]
  rcases hG with ⟨b, hb, rfl⟩ | ⟨g, b, hb, rfl⟩
  · rw [hb] at hr
    simp only [Rep] at hr
    rw [hr]
    cases b <;> cases want <;> rfl
  · rw [hb] at hr
    simp only [Rep] at hr
    cases g with
    | true => rw [(hr.1 rfl).2]; cases b <;> cases want <;> rfl
    | false => rw [hr.2 rfl]; cases want <;> rfl
theorem r_guard {d j t : Nat} {want : Bool} {v : AV} {D : List Nat} (hv : QSem P N A o.op o.type σ D v) (hs : flat v = true) (hg : o.guard = some (j, want)) (ht : (ops[j]?).bind (·.dst) = some t) (hN : t < N) (hG : GuardTo σ t A want)
    (hd : o.dst = some d) (hdN : d < N) (h : ARun P N ops rest (upd (fun i => purgeV d (σ i)) d (.when A v)) K) : ARun P N ops (o :: rest) σ K := fun gv e a w ha Q hQ => by
  refine wpList_step fun K' hK' => ?_
  rw [guard_is ha hN ht hG hg]
  obtain ⟨hdf, hsz, β, F, hi⟩ := ha
  have hno : NoOwn (.when A v) := fun r y hy => by
    cases r with
    | nil => simp [node] at hy; subst hy; rfl
    | cons j r => simp [node, kids] at hy
  cases A with
  | true =>
    rw [if_pos rfl]
    refine hv rfl σ (fun _ _ => rfl) gv e a w β F hi d o rfl rfl K' Q fun u w' ⟨β', F', hi'⟩ => hK' _ _ (h gv e _ w' ⟨?_, ?_, β', F', ?_⟩ Q hQ)
    · rw [hd]; exact hdf
    · rw [hd, size_put]; exact hsz
    · rw [hd, valOf_put hsz hdN]
      refine hi'.weak (fun i => ?_) (fun q hq => ?_)
      · by_cases hid : i = d
        · subst hid
          rw [upd_same]
          have := hi'.rep i
          rw [upd_same] at this
          simp only [Rep]
          exact ⟨fun _ => ⟨hs, this⟩, fun h => by cases h⟩
        · rw [upd_other _ _ hid]
          have := hi'.rep i
          rwa [upd_other _ _ hid] at this
      · by_cases hid : q.1 = d
        · obtain ⟨y, hy, ho⟩ := hq
          rw [hid, upd_same] at hy
          rw [hno _ _ hy] at ho; cases ho
        · exact (own_upd_other hid).2 ((own_upd_other hid).1 hq)
  | false =>
    rw [if_neg (by simp)]
    refine hK' _ _ (h gv e _ w ⟨?_, ?_, β, F, ?_⟩ Q hQ)
    · rw [hd]; exact hdf
    · rw [hd, size_put]; exact hsz
    · rw [hd, valOf_put hsz hdN]
      refine (hi.purge d).set d ?_ hno
      unfold Rep
      exact ⟨(fun h => by cases h), (fun _ => rfl)⟩
theorem r_gval {d j t : Nat} {want : Bool} {v : AV} {D : List Nat} (hv : VSem P N A o.op o.type σ D v) (hs : flat v = true) (hg : o.guard = some (j, want)) (ht : (ops[j]?).bind (·.dst) = some t) (hN : t < N) (hG : GuardTo σ t A want)
    (hd : o.dst = some d) (hdN : d < N) (h : ARun P N ops rest (upd σ d (.when A v)) K) : ARun P N ops (o :: rest) σ K := fun gv e a w ha Q hQ => by
  refine wpList_step fun K' hK' => ?_
  rw [guard_is ha hN ht hG hg]
  obtain ⟨hdf, hsz, β, F, hi⟩ := ha
  have hno : NoOwn (.when A v) := fun r y hy => by
    cases r with
    | nil => simp [node] at hy; subst hy; rfl
    | cons j r => simp [node, kids] at hy
  cases A with
  | true =>
    rw [if_pos rfl]
    obtain ⟨u, hrun, hrep⟩ := hv.2 rfl σ (fun _ _ => rfl) gv e a w β F hi (d, []) o rfl rfl
    refine wp_value hrun (hK' _ _ (h gv e _ w ⟨?_, ?_, β, F, ?_⟩ Q hQ))
    · rw [hd]; exact hdf
    · rw [hd, size_put]; exact hsz
    · rw [hd, valOf_put hsz hdN]
      refine hi.set d ?_ hno
      unfold Rep
      exact ⟨fun _ => ⟨hs, hrep⟩, fun h => by cases h⟩
  | false =>
    rw [if_neg (by simp)]
    refine hK' _ _ (h gv e _ w ⟨?_, ?_, β, F, ?_⟩ Q hQ)
    · rw [hd]; exact hdf
    · rw [hd, size_put]; exact hsz
    · rw [hd, valOf_put hsz hdN]
      refine hi.set d ?_ hno
      unfold Rep
      exact ⟨(fun h => by cases h), (fun _ => rfl)⟩
def Weak (x y : AV) : Prop := (∀ β F w p v, Rep β F w x p v → Rep β F w y p v) ∧ ∀ r z, node y r = some z → z.isOwn = true → ∃ z', node x r = some z' ∧ z'.isOwn = true
theorem Weak.rfl {x : AV} : Weak x x := ⟨fun _ _ _ _ _ h => h, fun _ z h ho => ⟨z, h, ho⟩⟩
theorem Weak.undef {x : AV} : Weak x .undef := ⟨fun _ _ _ _ _ _ => by simp [Rep], fun r z h ho => by
  cases r with
  | nil => simp [node] at h; subst h; simp [AV.isOwn] at ho
  | cons j r => simp [node, kids] at h⟩
theorem Weak.of_eq {x y : AV} (h : x = y) : Weak x y := h ▸ Weak.rfl
theorem ent_weak (h : ∀ i, Weak (σ i) (σ' i)) : Ent σ σ' := fun e val w β F hi => ⟨β, hi.weak (fun i => (h i).1 _ _ _ _ _ (hi.rep i)) (fun q ⟨z, hz, ho⟩ => by
  obtain ⟨z', hz', ho'⟩ := (h q.1).2 _ z hz ho
  exact ⟨z', hz', ho'⟩)⟩
def Has (σ : Sig) : List (Nat × AV) → Prop
  | [] => True
  | (i, v) :: L => Weak (σ i) v ∧ Has σ L
theorem ent_look {L : List (Nat × AV)} (h : Has σ L) : Ent σ (look L) := ent_weak fun i => by
  induction L with
  | nil => exact Weak.undef
  | cons a L ih =>
    obtain ⟨d, v⟩ := a
    by_cases hi : i = d
    · subst hi; simp only [look, upd_same]; exact h.1
    · simp only [look, upd_other _ _ hi]; exact ih h.2
def Returns (P : Program) (fn : Func) (N : Nat) (σ : Sig) (res : AV) (objs2 : List AV) : Prop :=
  ∀ (gv : Nat → Value) (e : Ctx) (a : Act) (w : World), All N gv e σ a w → ∃ v, (results fn a.tmps).run P w = .ok v w ∧ ∃ β F, Inv e (argSig [res] objs2) (upd gv 0 v) w β F
theorem ACall.intro {f : FuncId} {fn : Func} {args objs objs2 : List AV} {res : AV} (hf : P.funcs[f]? = some fn) (hb : fn.body = some c) (hN : fn.ntmps = N) (hNI : N < INH) (ha : args.length ≤ N)
    (h : ACode P N c (argSig args objs) (fun x s => match x with | .normal => Returns P fn N s res objs2 | .ret => Returns P fn N s res objs2 | _ => False)) : ACall P f args objs res objs2 := by
  intro e vs val w β F hl hval hi
  refine calls_of_wp hf hb ?_
  have hsz : (vs.toArray ++ Array.replicate (fn.ntmps - vs.toArray.size) undef).size = N := by simp [hN]; omega
  refine SWp.wp (h (fun i => val i) { e with ds := [] } _ w ⟨rfl, hsz, β, F, ?_⟩ _ fun x a' w' s hx ha' => ?_)
  · refine ⟨fun i => ?_, hi.disj, hi.sep, hi.fr, hi.kept, hi.grow, hi.tame⟩
    by_cases hlt : i < vs.length
    · have := hi.rep i
      rw [hval i hlt] at this
      have e1 : valOf N (fun i => val i) { tmps := vs.toArray ++ Array.replicate (fn.ntmps - vs.toArray.size) undef, defers := [] } i = vs.getD i undef := by
        have : i < N := by omega
        simp only [valOf, this, if_true]
        rw [Array.getD_eq_getD_getElem?, Array.getElem?_append_left (by simpa using hlt)]
        simp
      rw [e1]; exact this
    · by_cases hN' : i < N
      · have : argSig args objs i = .undef := by
          have h1 : i < INH := by omega
          have h2 : args[i]? = none := List.getElem?_eq_none (by omega)
          simp [argSig, h1, h2]
        rw [this]; simp [Rep]
      · have := hi.rep i
        simpa [valOf, hN'] using this
  · cases x <;> simp only at hx
    all_goals
      obtain ⟨v, hr, β', F', hi'⟩ := hx _ _ a' w' ha'
      exact ⟨ha'.defers, v, hr, v, β', F', rfl, ⟨hi'.rep, hi'.disj, hi'.sep, hi'.fr, hi'.kept, hi'.grow, hi'.tame⟩⟩
end
end Go.Av
namespace Go.Av
open Go
section
variable {e : Ctx} {σ : Sig} {val gv : Nat → Value} {w : World} {β : Place → Option (Nat × Nat)} {F : Nat → Prop}
theorem argSig_zero (c : AV) (objs : List AV) : argSig [c] objs 0 = c := by simp [argSig, INH]
theorem argSig_obj (cs : List AV) (objs : List AV) (j : Nat) : argSig cs objs (INH + j) = (objs[j]?).getD .undef := by
  have : ¬ INH + j < INH := by omega
  simp only [argSig, this, if_false, Nat.add_sub_cancel_left]
theorem argSig_mid (c : AV) (objs : List AV) {i : Nat} (h0 : i ≠ 0) (h1 : i < INH) : argSig [c] objs i = .undef := by
  unfold argSig
  rw [if_pos h1]
  cases i with
  | zero => exact absurd rfl h0
  | succ i => rfl
theorem undef_node {r : List Nat} {y : AV} (h : node .undef r = some y) (ho : y.isOwn = true) : False := by
  cases r with
  | nil => simp [node] at h; subst h; simp [AV.isOwn] at ho
  | cons j r => simp [node, kids] at h
theorem Inv.pack1 (h : Inv e σ val w β F) {t : Nat} {res : AV} {objs2 : List AV} (ht : t < INH) (hw : Weak (σ t) res) (hr : refs res = []) (ho : ∀ (j : Nat) c, objs2[j]? = some c → Weak (σ (INH + j)) c ∧ refs c = [])
    (hgv : ∀ i, INH ≤ i → gv i = val i) : ∃ β', Inv e (argSig [res] objs2) (upd gv 0 (val t)) w β' F := by
  let src : Nat → Nat := fun i => if i = 0 then t else i
  have hsrc : ∀ {q : Place}, OwnAt (argSig [res] objs2) q → OwnAt σ (src q.1, q.2) := by
    rintro ⟨i, r⟩ ⟨y, hy, hyo⟩
    dsimp only at hy ⊢
    by_cases h0 : i = 0
    · subst h0
      rw [argSig_zero] at hy
      obtain ⟨z, hz, hzo⟩ := hw.2 r y hy hyo
      exact ⟨z, by simpa [src] using hz, hzo⟩
    · by_cases h1 : i < INH
      · rw [argSig_mid _ _ h0 h1] at hy; exact (undef_node hy hyo).elim
      · obtain ⟨j, rfl⟩ : ∃ j, i = INH + j := ⟨i - INH, by omega⟩
        rw [argSig_obj] at hy
        cases hj : objs2[j]? with
        | none => rw [hj] at hy; exact (undef_node hy hyo).elim
        | some c =>
          rw [hj] at hy
          obtain ⟨z, hz, hzo⟩ := (ho j c hj).1.2 r y hy hyo
          exact ⟨z, by simp only [src, h0, if_false]; exact hz, hzo⟩
  have hinj : ∀ {q q' : Place}, OwnAt (argSig [res] objs2) q → OwnAt (argSig [res] objs2) q' → (src q.1, q.2) = (src q'.1, q'.2) → q = q' := by
    rintro ⟨i, r⟩ ⟨i', r'⟩ ⟨y, hy, hyo⟩ ⟨y', hy', hyo'⟩ heq
    simp only [Prod.mk.injEq, src] at heq ⊢
    dsimp only at hy hy'
    refine ⟨?_, heq.2⟩
    have big : ∀ {i : Nat} {r : List Nat} {y : AV}, node (argSig [res] objs2 i) r = some y → y.isOwn = true → i = 0 ∨ INH ≤ i := fun {i r y} hy hyo => by
      by_cases h0 : i = 0
      · exact .inl h0
      · by_cases h1 : i < INH
        · rw [argSig_mid _ _ h0 h1] at hy; exact (undef_node hy hyo).elim
        · exact .inr (by omega)
    rcases big hy hyo with h0 | h0 <;> rcases big hy' hyo' with h1 | h1
    · omega
    · have := heq.1; rw [if_pos h0, if_neg (by simp [INH] at h1; omega)] at this; omega
    · have := heq.1; rw [if_pos h1, if_neg (by simp [INH] at h0; omega)] at this; omega
    · have := heq.1; rw [if_neg (by simp [INH] at h0; omega), if_neg (by simp [INH] at h1; omega)] at this; exact this
  refine ⟨fun q => β (src q.1, q.2), ⟨fun i => ?_, fun q q' b s s' hq hq' hb hb' => hinj hq hq' (h.disj _ _ b s s' (hsrc hq) (hsrc hq') hb hb'), fun q b s hq hb => h.sep _ b s (hsrc hq) hb, h.fr, h.kept, h.grow, h.tame⟩⟩
  by_cases h0 : i = 0
  · subst h0
    rw [argSig_zero, upd_same]
    exact (hw.1 _ _ _ _ _ (h.rep t)).tr _ (fun b hb => ⟨hb, rfl⟩) (fun r y _ _ => ⟨by simp [src], fun _ _ _ => rfl⟩) (fun q hq => by rw [hr] at hq; cases hq)
  · by_cases h1 : i < INH
    · rw [argSig_mid _ _ h0 h1]; simp [Rep]
    · obtain ⟨j, rfl⟩ : ∃ j, i = INH + j := ⟨i - INH, by omega⟩
      rw [argSig_obj, upd_other _ _ h0]
      cases hj : objs2[j]? with
      | none => simp [Rep]
      | some c =>
        rw [Option.getD_some, hgv _ (by omega)]
        obtain ⟨hc, hcr⟩ := ho j c hj
        exact (hc.1 _ _ _ _ _ (h.rep (INH + j))).tr _ (fun b hb => ⟨hb, rfl⟩) (fun r y _ _ => ⟨by simp only [src, h0, if_false, List.nil_append], fun _ _ _ => rfl⟩) (fun q hq => by rw [hcr] at hq; cases hq)
theorem refsL_nil_of {cs : List AV} (h : ∀ c ∈ cs, refs c = []) : refsL cs = [] := by
  rw [List.eq_nil_iff_forall_not_mem]
  intro q hq
  obtain ⟨c, hc, hq⟩ := refsL_mem.1 hq
  rw [h c hc] at hq; cases hq
theorem Inv.tuple (h : Inv e σ val w β F) {ts : List Nat} (hnd : ts.Nodup) {G : Nat} (hG : ∀ t ∈ ts, t ≠ G) (hr : ∀ t ∈ ts, refs (σ t) = []) :
    ∃ β', Inv e (upd (fun i => if i ∈ ts then .undef else purgeV G (σ i)) G (.tup (ts.map σ))) (upd val G (.tuple (ts.map val).toArray)) w β' F := by
  have hun : ∀ {q : Place}, OwnAt (fun i => if i ∈ ts then .undef else purgeV G (σ i)) q → OwnAt σ q ∧ q.1 ∉ ts := by
    rintro ⟨i, r⟩ ⟨y, hy, hyo⟩
    dsimp only at hy
    split at hy
    · exact (undef_node hy hyo).elim
    · rename_i hi
      rw [purgeV_eq] at hy
      split at hy
      · exact (undef_node hy hyo).elim
      · exact ⟨⟨y, hy, hyo⟩, hi⟩
  have h1 : Inv e (fun i => if i ∈ ts then .undef else σ i) val w β F := h.weak (fun i => by
    split
    · simp [Rep]
    · exact h.rep i) (fun q ⟨y, hy, hyo⟩ => by
    dsimp only at hy
    split at hy
    · exact (undef_node hy hyo).elim
    · exact ⟨y, hy, hyo⟩)
  have hun1 : ∀ {q : Place}, OwnAt (fun i => if i ∈ ts then .undef else σ i) q → OwnAt σ q ∧ q.1 ∉ ts := by
    rintro ⟨i, r⟩ ⟨y, hy, hyo⟩
    dsimp only at hy
    split at hy
    · exact (undef_node hy hyo).elim
    · rename_i hi; exact ⟨⟨y, hy, hyo⟩, hi⟩
  have kid : ∀ {r : List Nat} {y : AV}, node (.tup (ts.map σ)) r = some y → y.isOwn = true → ∃ j s t, r = j :: s ∧ ts[j]? = some t ∧ node (σ t) s = some y := by
    intro r y hy hyo
    cases r with
    | nil => simp [node] at hy; subst hy; simp [AV.isOwn] at hyo
    | cons j s =>
      simp only [node, kids, List.getElem?_map] at hy
      cases hj : ts[j]? with
      | none => rw [hj] at hy; cases hy
      | some t => rw [hj] at hy; exact ⟨j, s, t, rfl, hj, hy⟩
  have hdet : Det e (fun i => if i ∈ ts then .undef else σ i) w β F (.tup (ts.map σ)) (.tuple (ts.map val).toArray) (fun r => match r with | [] => none | j :: s => (ts[j]?).bind fun t => β (t, s)) := by
    refine ⟨?_, ?_, ?_, ?_⟩
    · simp only [Rep]
      refine ⟨_, rfl, by simp, RepL_iff.2 fun i c hc => ?_⟩
      rw [List.getElem?_map] at hc
      cases hi : ts[i]? with
      | none => rw [hi] at hc; cases hc
      | some t =>
        rw [hi] at hc
        simp at hc; subst hc
        refine ⟨val t, by rw [List.getElem?_map, hi]; rfl, (h.rep t).tr _ (fun b hb => ⟨hb, rfl⟩) (fun r y _ _ => ⟨by simp [hi], fun _ _ _ => rfl⟩) (fun q hq => by rw [hr t (List.mem_of_getElem? hi)] at hq; cases hq)⟩
    · simp only [refs]
      exact refsL_nil_of fun c hc => by obtain ⟨t, ht, rfl⟩ := List.mem_map.1 hc; exact hr t ht
    · intro r r' y y' b s s' hy ho hy' ho' hb hb'
      obtain ⟨j, u, t, rfl, hj, hn⟩ := kid hy ho
      obtain ⟨j', u', t', rfl, hj', hn'⟩ := kid hy' ho'
      simp only [hj, hj', Option.bind_some] at hb hb'
      have := h.disj (t, u) (t', u') b s s' ⟨y, hn, ho⟩ ⟨y', hn', ho'⟩ hb hb'
      simp only [Prod.mk.injEq] at this
      obtain ⟨rfl, rfl⟩ := this
      have : j = j' := (List.getElem?_inj (by rcases Nat.lt_or_ge j ts.length with h | h; exact h; rw [List.getElem?_eq_none h] at hj; cases hj) hnd).1 (hj.trans hj'.symm)
      rw [this]
    · intro r y b s hy ho hb
      obtain ⟨j, u, t, rfl, hj, hn⟩ := kid hy ho
      simp only [hj, Option.bind_some] at hb
      have hq : OwnAt σ (t, u) := ⟨y, hn, ho⟩
      refine ⟨(h.sep _ b s hq hb).1, (h.sep _ b s hq hb).2, fun q' s' hq' hb' => ?_⟩
      obtain ⟨h2, h3⟩ := hun1 hq'
      have := h.disj _ _ b s s' hq h2 hb hb'
      exact h3 (by rw [← this]; exact List.mem_of_getElem? hj)
  have h2 := h1.attach G hdet
  have e1 : (fun i => purgeV G (if i ∈ ts then .undef else σ i)) = (fun i => if i ∈ ts then .undef else purgeV G (σ i)) := by
    funext i; split <;> simp [purgeV_eq, refs]
  rw [e1] at h2
  exact ⟨_, h2⟩
end
section
variable {P : Program} {fn : Func} {N : Nat} {σ : Sig} {res : AV} {objs2 : List AV}
def Leaves (σ : Sig) (objs2 : List AV) : Prop := ∀ (j : Nat) c, objs2[j]? = some c → Weak (σ (INH + j)) c ∧ refs c = []
theorem Leaves.nil : Leaves σ [] := fun j c h => by simp at h
theorem valOf_big {gv : Nat → Value} {a : Act} {i : Nat} (hN : N < INH) (h : INH ≤ i) : gv i = valOf N gv a i := by
  have : ¬ i < N := by omega
  simp [valOf, this]
theorem ret1 {t : Nat} (hr : fn.results = #[.tmp t]) (ht : t < N) (hN : N < INH) (hw : Weak (σ t) res) (hrr : refs res = []) (ho : Leaves σ objs2) : Returns P fn N σ res objs2 := by
  intro gv e a w ⟨hdf, hsz, β, F, hi⟩
  obtain ⟨β', h⟩ := hi.pack1 (gv := gv) (by omega) hw hrr ho (fun i h => valOf_big hN h)
  refine ⟨_, results_tmp hr _ _ _, β', F, ?_⟩
  have : valOf N gv a t = a.tmps.getD t undef := by simp [valOf, ht]
  rw [this] at h
  exact h
theorem leaves_tuple {ts : List Nat} {c : AV} (hts : ∀ t ∈ ts, t < N) (hN : N < INH) (ho : Leaves σ objs2) (hp : ∀ j, purgeV N (σ (INH + j)) = σ (INH + j)) : Leaves (upd (fun i => if i ∈ ts then .undef else purgeV N (σ i)) N c) objs2 := fun j d hd => by
  have h1 : INH + j ≠ N := by omega
  have h2 : INH + j ∉ ts := fun h => by have := hts _ h; omega
  rw [upd_other _ _ h1, if_neg h2, hp]
  exact ho j d hd
theorem retT {ts : List Nat} (hrun : ∀ (P : Program) (tmps : Array Value) (w : World), (results fn tmps).run P w = .ok (.tuple (ts.map fun t => tmps.getD t undef).toArray) w) (hts : ∀ t ∈ ts, t < N) (hnd : ts.Nodup) (hN : N < INH)
    {L : List AV} (hL : ts.map σ = L) (hrr : refsL L = []) (ho : Leaves σ objs2) (hp : ∀ j, purgeV N (σ (INH + j)) = σ (INH + j)) : Returns P fn N σ (.tup L) objs2 := by
  intro gv e a w ⟨hdf, hsz, β, F, hi⟩
  subst hL
  have hr : ∀ t ∈ ts, refs (σ t) = [] := fun t ht => by
    rw [List.eq_nil_iff_forall_not_mem]
    intro q hq
    have : q ∈ refsL (ts.map σ) := refsL_mem.2 ⟨σ t, List.mem_map.2 ⟨t, ht, rfl⟩, hq⟩
    rw [hrr] at this; cases this
  obtain ⟨β1, h1⟩ := hi.tuple hnd (G := N) (fun t ht => by have := hts t ht; omega) hr
  obtain ⟨β', h⟩ := h1.pack1 (gv := gv) (t := N) (res := .tup (ts.map σ)) (objs2 := objs2) hN (by rw [upd_same]; exact Weak.rfl) (by simpa [refs] using hrr) (leaves_tuple hts hN ho hp)
    (fun i h => by rw [upd_other _ _ (by omega)]; exact valOf_big hN h)
  refine ⟨_, hrun P _ _, β', F, ?_⟩
  rw [upd_same] at h
  have : ts.map (valOf N gv a) = ts.map fun t => a.tmps.getD t undef := List.map_congr_left fun t ht => by simp [valOf, hts t ht]
  rw [this] at h
  exact h
theorem ret0 (hr : fn.results = #[]) (hN : N < INH) (ho : Leaves σ objs2) (hp : ∀ j, purgeV N (σ (INH + j)) = σ (INH + j)) : Returns P fn N σ (.tup []) objs2 :=
  retT (ts := []) (fun P tmps w => by simpa using results_none hr tmps P w) (by simp) (by simp) hN rfl rfl ho hp
end
end Go.Av
