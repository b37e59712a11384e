/- Lemmas, part 3. -/
import Derived.Test.YtflabfgegbccjaaGreatA2
import Derived.Sort.Walk13a
import Derived.Sort.LotA
import Derived.Sort.LotB
import Derived.Sort.LotC
import Derived.Lib.SliceRun
set_option linter.unusedVariables false
set_option linter.unusedSimpArgs false
set_option maxRecDepth 10000
namespace Go.Av
open Go Go.Sort
structure PS where
  a : Nat
  b : Nat
  lim : Nat
  wb : Bool
  wp : Bool
  d : Array Int
def PInv (lt : Int → Int → Bool) (n N : Nat) (R : Array Int) (x : PS) : Prop :=
  x.a ≤ x.b ∧ x.b ≤ n ∧ x.b - x.a ≤ N ∧ x.lim ≤ 100 ∧ x.d.size = n ∧ Below lt x.a x.b x.d ∧ pdq lt x.d x.a x.b x.lim x.wb x.wp = R
abbrev PS.rd (lt : Int → Int → Bool) (x : PS) : Rd Int := Go.Sort.rd lt x.d x.a x.b x.lim x.wb x.wp
section
variable {lt : Int → Int → Bool} {n N : Nat} {R : Array Int} {x : PS}
theorem PInv.facts (hS : SWO lt) (h : PInv lt n N R x) (h12 : ¬ x.b - x.a ≤ 12) :
    (x.rd lt).d1.size = n ∧ (x.a ≤ (x.rd lt).c.1 ∧ (x.rd lt).c.1 < x.b) ∧ (x.rd lt).d2.size = n ∧ (x.a ≤ (x.rd lt).pivot ∧ (x.rd lt).pivot < x.b) ∧ (x.rd lt).pi.1.size = n ∧ Below lt x.a x.b (x.rd lt).pi.1 ∧ (x.rd lt).lim ≤ 100 := by
  obtain ⟨h1, h2, h3, h4, h5, h6, h7⟩ := h
  obtain ⟨f1, f2, f3, f4, f5, f6, f7, f8⟩ := rd_facts (wb := x.wb) (wp := x.wp) (limit := x.lim) hS partialInsertionSort_holds reverseRange_holds (a := x.a) (b := x.b) (d := x.d) (by omega) (by omega) h6
  exact ⟨f1.trans h5, f3, f4.trans h5, f6, f7.trans h5, f8, Nat.le_trans rd_lim_le h4⟩
def PS.eq (lt : Int → Int → Bool) (x : PS) : PS := ⟨(partitionEqual lt (x.rd lt).pi.1 x.a x.b (x.rd lt).pivot).1, x.b, (x.rd lt).lim, x.wb, x.wp, (partitionEqual lt (x.rd lt).pi.1 x.a x.b (x.rd lt).pivot).2⟩
abbrev PS.pt (lt : Int → Int → Bool) (x : PS) : Nat × Bool × Array Int := partition lt (x.rd lt).pi.1 x.a x.b (x.rd lt).pivot
def PS.left (lt : Int → Int → Bool) (x : PS) : PS := ⟨(x.pt lt).1 + 1, x.b, (x.rd lt).lim, decide ((x.pt lt).1 - x.a ≥ (x.b - x.a) / 8), (x.pt lt).2.1, pdq lt (x.pt lt).2.2 x.a (x.pt lt).1 (x.rd lt).lim true true⟩
def PS.right (lt : Int → Int → Bool) (x : PS) : PS := ⟨x.a, (x.pt lt).1, (x.rd lt).lim, decide (x.b - (x.pt lt).1 ≥ (x.b - x.a) / 8), (x.pt lt).2.1, pdq lt (x.pt lt).2.2 ((x.pt lt).1 + 1) x.b (x.rd lt).lim true true⟩
def PS.test (lt : Int → Int → Bool) (x : PS) : Bool := decide (x.a > 0) && !lt (x.rd lt).pi.1[x.a - 1]! (x.rd lt).pi.1[(x.rd lt).pivot]!
theorem PInv.eq (hS : SWO lt) (h : PInv lt n N R x) (h12 : ¬ x.b - x.a ≤ 12) (h0 : ¬ x.lim = 0) (h1 : (x.rd lt).pi.2 = false) (h2 : x.test lt = true) : PInv lt n N R (x.eq lt) ∧ x.a < (x.eq lt).a := by
  obtain ⟨f1, f2, f3, f4, f5, f6, f7⟩ := h.facts hS h12
  obtain ⟨g1, g2, g3, g4, g5, g6, g7⟩ := h
  have ht := h2
  simp only [PS.test, Bool.and_eq_true, decide_eq_true_eq, Bool.not_eq_true'] at ht
  obtain ⟨p1, p2, p3, p4, _⟩ := round_eq hS (partitionEqual_holds lt) ht.1 f4.1 f4.2 (by omega) f6 ht.2 (mid := (x.eq lt).a) (d4 := (x.eq lt).d) rfl
  refine ⟨⟨p2, g2, ?_, f7, p3.trans f5, p4, ?_⟩, p1⟩
  · show x.b - (x.eq lt).a ≤ N
    omega
  · rw [← g7, pdq_eq h12 h0 h1 h2 ⟨p1, p2⟩]; rfl
theorem PInv.part (hS : SWO lt) (h : PInv lt n N R x) (h12 : ¬ x.b - x.a ≤ 12) :
    x.a ≤ (x.pt lt).1 ∧ (x.pt lt).1 < x.b ∧ (x.pt lt).2.2.size = n ∧ Below lt x.a (x.pt lt).1 (x.pt lt).2.2 ∧ Below lt ((x.pt lt).1 + 1) x.b (x.pt lt).2.2 := by
  obtain ⟨f1, f2, f3, f4, f5, f6, f7⟩ := h.facts hS h12
  obtain ⟨g1, g2, g3, g4, g5, g6, g7⟩ := h
  obtain ⟨q1, q2, q3, q4, q5, _⟩ := round_part hS (partition_holds lt) f4.1 f4.2 (by omega) f6 (mid := (x.pt lt).1) (ap := (x.pt lt).2.1) (d4 := (x.pt lt).2.2) rfl
  exact ⟨q1, q2, q3.trans f5, q4, q5⟩
theorem pdq_rec (hS : SWO lt) {d : Array Int} {a b l : Nat} {wb wp : Bool} (hab : a ≤ b) (hb : b ≤ d.size) (hB : Below lt a b d) : PermIn a b d (pdq lt d a b l wb wp) ∧ SortedIn lt a b (pdq lt d a b l wb wp) :=
  pdq_holds insertionSort_holds heapSort_holds partialInsertionSort_holds (partition_holds lt) (partitionEqual_holds lt) reverseRange_holds hS d a b l wb wp hab hb hB
theorem PInv.left (hS : SWO lt) (h : PInv lt n N R x) (h12 : ¬ x.b - x.a ≤ 12) (h0 : ¬ x.lim = 0) (h1 : (x.rd lt).pi.2 = false) (h2 : x.test lt = false) (h4 : (x.pt lt).1 - x.a < x.b - (x.pt lt).1) : PInv lt n N R (x.left lt) ∧ (x.left lt).b - (x.left lt).a < x.b - x.a := by
  obtain ⟨f1, f2, f3, f4, f5, f6, f7⟩ := h.facts hS h12
  obtain ⟨q1, q2, q3, q4, q5⟩ := h.part hS h12
  obtain ⟨g1, g2, g3, g4, g5, g6, g7⟩ := h
  obtain ⟨_, _, _, _, _, q6, _⟩ := round_part hS (partition_holds lt) f4.1 f4.2 (by omega) f6 (mid := (x.pt lt).1) (ap := (x.pt lt).2.1) (d4 := (x.pt lt).2.2) rfl
  obtain ⟨r1, r2⟩ := pdq_rec (l := (x.rd lt).lim) (wb := true) (wp := true) hS q1 (by omega) q4
  have hlt : x.b - ((x.pt lt).1 + 1) < x.b - x.a := by omega
  refine ⟨⟨?_, g2, ?_, f7, r1.1.trans q3, (q6 _ r1 r2).1, ?_⟩, hlt⟩
  · show (x.pt lt).1 + 1 ≤ x.b
    omega
  · show x.b - ((x.pt lt).1 + 1) ≤ N
    omega
  · rw [← g7, pdq_left h12 h0 h1 h2 ⟨q1, q2⟩ h4]; rfl
theorem PInv.right (hS : SWO lt) (h : PInv lt n N R x) (h12 : ¬ x.b - x.a ≤ 12) (h0 : ¬ x.lim = 0) (h1 : (x.rd lt).pi.2 = false) (h2 : x.test lt = false) (h4 : ¬ (x.pt lt).1 - x.a < x.b - (x.pt lt).1) : PInv lt n N R (x.right lt) ∧ (x.right lt).b - (x.right lt).a < x.b - x.a := by
  obtain ⟨f1, f2, f3, f4, f5, f6, f7⟩ := h.facts hS h12
  obtain ⟨q1, q2, q3, q4, q5⟩ := h.part hS h12
  obtain ⟨g1, g2, g3, g4, g5, g6, g7⟩ := h
  obtain ⟨_, _, _, _, _, _, q6⟩ := round_part hS (partition_holds lt) f4.1 f4.2 (by omega) f6 (mid := (x.pt lt).1) (ap := (x.pt lt).2.1) (d4 := (x.pt lt).2.2) rfl
  obtain ⟨r1, r2⟩ := pdq_rec (l := (x.rd lt).lim) (wb := true) (wp := true) hS (a := (x.pt lt).1 + 1) (b := x.b) (d := (x.pt lt).2.2) (by omega) (by omega) q5
  have hlt : (x.pt lt).1 - x.a < x.b - x.a := by omega
  refine ⟨⟨q1, ?_, ?_, f7, r1.1.trans q3, (q6 _ r1 r2).1, ?_⟩, hlt⟩
  · show (x.pt lt).1 ≤ n
    omega
  · show (x.pt lt).1 - x.a ≤ N
    omega
  · rw [← g7, pdq_right h12 h0 h1 h2 ⟨q1, q2⟩ h4]; rfl
end
section
variable {lt : Int → Int → Bool} {x : PS}
theorem rdF (h : x.wb = false) : (x.rd lt).lim = x.lim - 1 ∧ (x.rd lt).d1 = breakPatterns x.d x.a x.b := by
  obtain ⟨a, b, l, wb, wp, d⟩ := x
  subst h; exact ⟨rfl, rfl⟩
theorem rdT (h : x.wb = true) : (x.rd lt).lim = x.lim ∧ (x.rd lt).d1 = x.d := by
  obtain ⟨a, b, l, wb, wp, d⟩ := x
  subst h; exact ⟨rfl, rfl⟩
theorem hintN_two {h : Hint} : ((hintN h : Nat) : Int) = 2 ↔ h = .decreasing := by cases h <;> simp [hintN]
theorem hintN_one {h : Hint} : ((hintN h : Nat) : Int) = 1 ↔ h = .increasing := by cases h <;> simp [hintN]
theorem pi_cond {wb wp r : Bool} {h : Hint} (H : (bif bif wb then wp else false then decide (((hintN h : Nat) : Int) = 1) else false) = r) : (wb && wp && decide (h = .increasing)) = r := by
  rw [← H, decide_eq_decide.2 (hintN_one (h := h))]; cases wb <;> cases wp <;> rfl
theorem test_cond {cf : Int → Int → Int} {r : Bool} (H : (bif decide (0 < (x.a : Int)) then !decide (cf (x.rd (ltc cf)).pi.1[x.a - 1]! (x.rd (ltc cf)).pi.1[(x.rd (ltc cf)).pivot]! < 0) else false) = r) : x.test (ltc cf) = r := by
  rw [← H]; unfold PS.test ltc
  rw [decide_eq_decide.2 (show x.a > 0 ↔ 0 < (x.a : Int) by omega)]; cases decide (0 < (x.a : Int)) <;> rfl
end
end Go.Av
namespace Go.Av
open Go
mutual
theorem snapV_id (σ : Sig) : ∀ x : AV, pureV x = true → noNil x = true → snapV σ x = x
  | .undef, _, _ | .int .., _, _ | .bool _, _, _ | .str _, _, _ | .that .., _, _ | .nilp, _, _ | .sl .., _, _ | .pp .., _, _ => rfl
  | .nils, _, h | .emp, _, h => by simp [noNil] at h
  | .rsl .., h, _ | .rp .., h, _ | .tup _, h, _ | .osl .., h, _ | .op _, h, _ | .when .., h, _ => by simp [pureV] at h
  | .agg cs, h, h' => by simp only [pureV] at h; simp only [noNil] at h'; simp only [snapV, snapL_id σ cs h h']
  | .fn f us cs, h, h' => by
    simp only [pureV, Bool.and_eq_true] at h
    simp only [noNil, Bool.and_eq_true] at h'
    simp only [snapV, snapL_id σ us h.1 h'.1, snapL_id σ cs h.2 h'.2]
theorem snapL_id (σ : Sig) : ∀ cs : List AV, pureL cs = true → noNilL cs = true → snapL σ cs = cs
  | [], _, _ => rfl
  | c :: cs, h, h' => by
    simp only [pureL, Bool.and_eq_true] at h
    simp only [noNilL, Bool.and_eq_true] at h'
    simp only [snapL, snapV_id σ c h.1 h'.1, snapL_id σ cs h.2 h'.2]
end
def capOk (cs : List AV) : Bool := pureL cs && noNilL cs && scalarL cs
theorem capOk_spec {cs : List AV} (h : capOk cs = true) : pureL cs = true ∧ noNilL cs = true ∧ scalarL cs = true := by
  simp only [capOk, Bool.and_eq_true] at h
  exact ⟨h.1.1, h.1.2, h.2⟩
theorem snap_fn {σ : Sig} {f : FuncId} {cs : List AV} (h : capOk cs = true) : snapV σ (.fn f [] cs) = .fn f [] cs := by
  obtain ⟨h1, h2, _⟩ := capOk_spec h
  simp only [snapV, snapL, snapL_id σ cs h1 h2]
theorem snap_clo {σ : Sig} {vs ws cs : List AV} (h : capOk cs = true) (hv : snapL σ vs = ws) : snapL σ ([] ++ vs ++ cs) = ws ++ cs := by
  obtain ⟨h1, h2, _⟩ := capOk_spec h
  rw [List.nil_append, snapL_eq, List.map_append, ← snapL_eq, ← snapL_eq, hv, snapL_id σ cs h1 h2]
theorem snap_clo1 {σ : Sig} {v w : AV} {cs : List AV} (h : capOk cs = true) (hv : snapV σ v = w) : snapL σ ([] ++ [v] ++ cs) = w :: cs := snap_clo (vs := [v]) (ws := [w]) h (by rw [snapL, snapL, hv])
theorem purge_fn {d : Nat} {f : FuncId} {cs : List AV} (h : capOk cs = true) : purgeV d (.fn f [] cs) = .fn f [] cs := by
  obtain ⟨h1, _, _⟩ := capOk_spec h
  refine purge_id fun p hp => ?_
  simp only [refs, refsL, List.nil_append, refsL_of_noRef _ (noRefL_pure _ h1)] at hp
  cases hp
def fidx (p : Nat → Bool) (n : Nat) : Int := match (List.range n).find? p with
  | some i => i
  | none => -1
theorem fidx_found {p : Nat → Bool} {n i : Nat} (hi : i < n) (h : p i = true) (hn : ∀ j, j < i → p j = false) : fidx p n = i := by
  have : (List.range n).find? p = some i := by
    rw [List.find?_range_eq_some]
    exact ⟨by simp [h], by simpa using hi, fun j hj => by simp [hn j hj]⟩
  simp [fidx, this]
theorem fidx_none {p : Nat → Bool} {n : Nat} (hn : ∀ j, j < n → p j = false) : fidx p n = -1 := by
  have : (List.range n).find? p = none := by
    rw [List.find?_eq_none]
    intro j hj
    simp [hn j (by simpa using hj)]
  simp [fidx, this]
theorem fidx_any {p : Nat → Bool} {n : Nat} : decide (0 ≤ fidx p n) = (List.range n).any p := by
  cases h : (List.range n).find? p with
  | none =>
    have h2 : (List.range n).any p = false := by
      rw [List.any_eq_false]; intro x hx
      have := List.find?_eq_none.1 h x hx
      simpa using this
    simp [fidx, h, h2]
  | some i =>
    have h2 : (List.range n).any p = true := by
      rw [List.any_eq_true]
      exact ⟨i, List.mem_of_find?_eq_some h, List.find?_some h⟩
    simp [fidx, h, h2]
end Go.Av
namespace Go.Av
section
variable {P : Program} {N : Nat} {σ : Sig} {ops : Array Oper} {rest : List Oper} {o : Oper} {K : Sig → Prop} {x y : Operand}
theorem r_nileq {t yt el d n : Nat} {cs : List AV} (ho : o.op = .binOp .eql t x (.const (.slice none 0 0)) yt) (hg : o.guard = none) (ht : P.underlying t = some (.slice el)) (hx : RdTo N true σ x (.sl cs n)) (hd : o.dst = some d) (hN : d < N)
    (h : ∀ b : Bool, (b = true → cs = []) → ARun P N ops rest (upd σ d (.bool b)) K) : ARun P N ops (o :: rest) σ K := fun gv e a w ha Q hQ => by
  obtain ⟨hdf, hsz, β, F, hi⟩ := ha
  have ex := hx.rep rfl (fun _ _ => rfl) hi (0, [])
  simp only [Rep] at ex
  obtain ⟨hp, ad, cap, ex, hnc, hh⟩ := ex
  refine wpList_step fun K' hK' => ?_
  have hw : Region.wanted o (yielded ops a.tmps) = true := by simp [Region.wanted, hg]
  rw [if_pos hw]
  have e0 : a.eval (.const (.slice none 0 0)) = .slice none 0 0 := rfl
  have hq : ∀ w, (eqGuard .eql t x (.const (.slice none 0 0)) (a.eval x) (.slice none 0 0)).run P w = .ok () w := fun w => by
    rw [ex]; simp [eqGuard]
  refine wp_value (v := .bool ad.isNone) (w' := w) ?_ (hK' _ _ (h ad.isNone (fun hb => ?_) gv e _ w ⟨by rw [hd]; exact hdf, by rw [hd, size_put]; exact hsz, β, F, by rw [hd, valOf_put hsz hN]; exact hi.set d (by simp [Rep]) (noOwn_scalar rfl)⟩ Q hQ))
  · rw [ex] at hq
    simp only [execOp, ho, e0, Sem.run_bind, ex, hq w, Result.andThen_ok]
    have := Lib.run_eql_slice_nil (P := P) w t el ad n cap 0 0 ht
    simp [this]
  · cases cs with
    | nil => rfl
    | cons c cs =>
      obtain ⟨b, off, arr, tt, fz, rfl, _⟩ := hh (by simp)
      simp at hb
end
end Go.Av
namespace Go.Av
def neg64 (n : Int) : Int := if n = -9223372036854775808 then n else -n
theorem neg64_of {n : Int} (h : -9223372036854775807 ≤ n) : neg64 n = -n := by unfold neg64; rw [if_neg (by omega)]
theorem v_negw {P : Program} {N : Nat} {A : Bool} {ty xt : TypeId} {σ : Sig} {x : Operand} {n : Int} (hx : RdTo N A σ x (.int .i64 n)) (hb : A = true → -9223372036854775808 ≤ n ∧ n ≤ 9223372036854775807) : VSem P N A (.unOp .neg xt x) ty σ (slots x) (.int .i64 (neg64 n)) :=
  ⟨noOwn_scalar rfl, fun hA σ' hD gv e ac w β F hi p o' ho _ => by
    have ex := hx.rep hA hD hi p
    simp only [Rep] at ex
    have h2 : IntKind.i64.wrap (-n) = neg64 n := by
      have := hb hA
      unfold neg64
      split
      · rename_i h; subst h; decide
      · exact IntWalk.i64_in _ (by omega)
    exact ⟨.int .i64 (neg64 n), by simp [execOp, ho, ex, Op.unary, Op.intArith, h2], by simp [Rep]⟩⟩
end Go.Av
namespace Go.Av
open Go
def vr (l : Int) : Int := if l < 0 then -l else l
def litB (vars l : Int) : Bool := inR l (-vars) vars && decide (l ≠ 0)
def okC (vars : Int) (c : List Int) (i : Nat) : Bool := litB vars (gd c i) && (decide (i = 0) || decide (vr (gd c (i - 1)) < vr (gd c i)))
def clB (vars : Int) (c : List Int) : Bool := inR vars 0 12 && (List.range c.length).all (okC vars c)
theorem inR_spec {n lo hi : Int} : inR n lo hi = true ↔ lo ≤ n ∧ n ≤ hi := by simp [inR]
theorem litB_spec {vars l : Int} : litB vars l = true ↔ (-vars ≤ l ∧ l ≤ vars) ∧ l ≠ 0 := by simp [litB, inR]
theorem clB_false {vars : Int} {c : List Int} {i : Nat} (hi : i < c.length) (h : okC vars c i = false) : clB vars c = false := by
  unfold clB
  rw [Bool.and_eq_false_iff]; right
  rw [List.all_eq_false]; exact ⟨i, by simpa using hi, by simp [h]⟩
theorem clB_true {vars : Int} {c : List Int} (hv : inR vars 0 12 = true) (h : ∀ j, j < c.length → okC vars c j = true) : clB vars c = true := by
  unfold clB
  rw [hv, Bool.true_and, List.all_eq_true]; intro i hi; exact h i (by simpa using hi)
theorem clB_spec {vars : Int} {c : List Int} (h : clB vars c = true) : (0 ≤ vars ∧ vars ≤ 12) ∧ ∀ j, j < c.length → okC vars c j = true := by
  simp only [clB, Bool.and_eq_true, inR_spec, List.all_eq_true, List.mem_range] at h
  exact ⟨h.1, h.2⟩
theorem clB_lit {vars : Int} {c : List Int} (h : clB vars c = true) {j : Nat} (hj : j < c.length) : litB vars (gd c j) = true := by
  have := (clB_spec h).2 j hj
  simp only [okC, Bool.and_eq_true] at this
  exact this.1
def litW (vars l : Int) : Bool := decide (l ≠ 0) && inR l (neg64 vars) vars
def absW (l : Int) : Int := max l (neg64 l)
def okW (vars : Int) (c : List Int) (i : Nat) : Bool := litW vars (gd c i) && (decide (i = 0) || decide (absW (gd c (i - 1)) < absW (gd c i)))
theorem absW_of {l : Int} (h : -9223372036854775807 ≤ l) : absW l = vr l := by
  unfold absW vr; rw [neg64_of h]; split <;> omega
theorem litW_of {vars l : Int} (h : -9223372036854775807 ≤ vars) : litW vars l = litB vars l := by
  unfold litW litB; rw [neg64_of h, Bool.and_comm]
theorem okW_of {vars : Int} {c : List Int} (hv : 0 ≤ vars ∧ vars ≤ 12) {i : Nat} (hj : ∀ j, j < i → litW vars (gd c j) = true) : okW vars c i = okC vars c i := by
  unfold okW okC
  rw [litW_of (by omega)]
  cases hl : litB vars (gd c i) with
  | false => rfl
  | true =>
    have h1 := litB_spec.1 hl
    rw [absW_of (l := gd c i) (by omega)]
    by_cases h0 : i = 0
    · simp [h0]
    · have := hj (i - 1) (by omega)
      rw [litW_of (by omega)] at this
      have h2 := litB_spec.1 this
      rw [absW_of (l := gd c (i - 1)) (by omega)]
theorem okW_lit {vars : Int} {c : List Int} {i : Nat} (h : ∀ j, j < i → okW vars c j = true) : ∀ j, j < i → litW vars (gd c j) = true := fun j hj => by
  have := h j hj
  simp only [okW, Bool.and_eq_true] at this
  exact this.1
theorem clB_bad {vars : Int} {c : List Int} {i : Nat} (hi : i < c.length) (h : ∀ j, j < i → okW vars c j = true) (hb : okW vars c i = false) : clB vars c = false := by
  by_cases hv : 0 ≤ vars ∧ vars ≤ 12
  · rw [okW_of hv (okW_lit h)] at hb
    exact clB_false hi hb
  · unfold clB; rw [Bool.and_eq_false_iff]; left
    cases hr : inR vars 0 12 with
    | false => rfl
    | true => exact absurd (inR_spec.1 hr) hv
theorem clB_end {vars : Int} {c : List Int} (h : ∀ j, j < c.length → okW vars c j = true) : clB vars c = inR vars 0 12 := by
  cases hr : inR vars 0 12 with
  | false => simp [clB, hr]
  | true =>
    have hv := inR_spec.1 hr
    exact clB_true hr fun j hj => by rw [← okW_of hv (fun k hk => okW_lit (i := c.length) h k (by omega))]; exact h j hj
end Go.Av
namespace Go.Av
open Go Go.Sort
def cmpI (x y : Int) : Int := if x < y then -1 else if y < x then 1 else 0
def orL : List Int → Int
 | [] => 0
 | x :: l => if x ≠ 0 then x else orL l
theorem orL_drop {l : List Int} {i : Nat} (h : i < l.length) : orL (l.drop i) = if gd l i ≠ 0 then gd l i else orL (l.drop (i + 1)) := by
 rw [List.drop_eq_getElem_cons h, orL, show l[i] = gd l i by unfold gd; rw [List.getElem?_eq_getElem h]; rfl]
def absA (l : Int) : Int := max l (IntKind.i64.wrap (-l))
def cf2 (f g : Int → Int) (x y : Int) : Int := orL [cmpI (f x) (f y), cmpI (g x) (g y)]
theorem cf2_lt {f g : Int → Int} {x y : Int} : ltc (cf2 f g) x y = decide (f x < f y ∨ f x = f y ∧ g x < g y) := by
 unfold ltc cf2 cmpI orL orL orL
 rw [decide_eq_decide]
 split <;> split <;> (try split) <;> (try split) <;> omega
theorem cf2_swo (f g : Int → Int) : SWO (ltc (cf2 f g)) where
 irrefl x := by rw [cf2_lt, decide_eq_false_iff_not]; omega
 trans x y z h1 h2 := by
  rw [cf2_lt, decide_eq_true_iff] at *; omega
 ntrans x y z h1 h2 := by
  rw [cf2_lt, decide_eq_false_iff_not] at *; omega
def cfLit : Int → Int → Int := cf2 absA (fun x => -x)
theorem cfLit_eq (x y : Int) : cfLit x y = orL [cmpI (absA x) (absA y), cmpI y x] := by
 unfold cfLit cf2 cmpI
 have h1 : (-x < -y) ↔ y < x := by omega
 have h2 : (-y < -x) ↔ x < y := by omega
 simp only [h1, h2]
theorem cfLit_swo : SWO (ltc cfLit) := cf2_swo _ _
end Go.Av
namespace Go.Av
open Go
section
variable {P : Program} {N : Nat} {A : Bool} {ty : TypeId} {σ : Sig} {x y z : Operand} {xt yt : TypeId}
theorem v_shru {k : IntKind} {m n : Int} (hx : RdTo N A σ x (.int .u64 m)) (hy : RdTo N A σ y (.int k n)) (hb : A = true → 0 ≤ n ∧ n ≤ 63) :
  VSem P N A (.binOp .shr xt x y yt) ty σ (slots x ++ slots y) (.int .u64 (m / 2 ^ n.toNat)) :=
 v_bin hx hy rfl rep_int fun hA w => by
  obtain ⟨h1, h2⟩ := hb hA
  have h0 : ¬ n < 0 := by omega
  have h4 : min n.toNat IntKind.u64.bits = n.toNat := by simp [IntKind.bits]; omega
  have h5 : m.fdiv (2 ^ n.toNat) = m / 2 ^ n.toNat := Int.fdiv_eq_ediv_of_nonneg m (Int.le_of_lt (Int.pow_pos (by omega)))
  simp only [binOp, Op.shift, h0, h4, h5, if_false]; rfl
theorem a_condF {Φ : Exit → Sig → Prop} {c c' : Code} (h : ACode P N c' σ Φ) : ACode P N (.cond (.const (.bool false)) c c') σ Φ := fun gv e a w ha Q hQ =>
 sw_cond_split (t := false) rfl (fun h => by cases h) (fun _ => h gv e a w ha Q hQ)
end
end Go.Av
namespace Go.Av
open Go
section
variable {e : Ctx} {σ : Sig} {val : Nat → Value} {w : World} {β : Place → Option (Nat × Nat)} {F : Nat → Prop}
theorem ent_nil_at {t : Nat} {r : List Nat} {sz : Nat} {z y : AV} (hz : node (σ t) r = some z) (hn : z = .nils ∨ z = .emp) (hrt : (refs (σ t)).all (fun p => p.1 != t) = true) (hy : setNode (σ t) r (.osl sz [] 0 none) = y) :
    Ent σ (upd (fun i => purgeV t (σ i)) t y) := fun e val w β F h => by
  subst hy
  obtain ⟨u, hu, hput⟩ := (h.rep t).zoom hz
  have hrt' : ∀ p ∈ refs (σ t), p.1 ≠ t := fun p hp => by
    have := List.all_eq_true.1 hrt p hp
    simpa using this
  have : ∃ a, u = .slice a 0 0 := by
    rcases hn with hn | hn <;> rw [hn] at hu <;> simp only [Rep] at hu
    · exact ⟨none, hu⟩
    · exact hu
  obtain ⟨a, rfl⟩ := this
  have hc : ∀ c, (none : Option Nat) = some c → c = 0 := fun c h => by cases h
  have hd := Det.virt (e := e) (σ := σ) (w := w) (β := β) (F := F) (sz := sz) (cap := none) (a := a) hc
  have := h.put (τ := fun i => purgeV t (σ i)) (t := t) (r := r) (z := z) (x := .osl sz [] 0 none) (u := .slice a 0 0) (δ := fun _ => none) hz hd (by
    refine hput (y := .osl sz [] 0 none) rfl ?_ (fun _ _ => rfl) (fun r' y' hy' ho hp => ⟨glueAt_out (fun hh => hp (by simpa using hh.2)), fun _ _ _ => rfl⟩) (fun p hp => glueAt_out (fun hh => hrt' p hp hh.1))
    have := hd.rep
    exact this.tr _ (fun b hb => ⟨hb, rfl⟩) (fun r' y' _ _ => ⟨by
      have := glueAt_in (β := β) (t := t) (r := r) (s := r') (δ := fun _ => none)
      simpa using this, fun _ _ _ => rfl⟩) (fun p hp => by simp [refs] at hp)) (fun i _ => purgeV_or t _) (fun i hi p hp => glueAt_out (fun hh => refs_purge p hp hh.1))
  exact ⟨_, this⟩
end
end Go.Av
namespace Go.Av
open Go
theorem set_self {α : Type} : ∀ {l : List α} {i : Nat} {x : α}, l[i]? = some x → l.set i x = l
  | [], i, x, h => by simp at h
  | a :: l, 0, x, h => by simp at h; simp [h]
  | a :: l, i + 1, x, h => by simp at h; simp [set_self h]
theorem setKids_self {x : AV} : setKids x (kids x) = x := by cases x <;> rfl
theorem setNode_self {z : AV} : ∀ {r : List Nat} {x : AV}, node x r = some z → setNode x r z = x
  | [], x, h => by simp [node] at h; subst h; rfl
  | j :: r, x, h => by
    simp only [node] at h
    cases hc : (kids x)[j]? with
    | none => rw [hc] at h; cases h
    | some c =>
      rw [hc] at h
      have := setNode_self (r := r) h
      simp only [setNode, hc, this, set_self hc, setKids_self]
def clearCall (x : Operand) (t : TypeId) : Op := .call { callee := .builtin .clear, args := #[x], argTypes := #[t] }
section
variable {P : Program} {N : Nat} {σ : Sig} {x : Operand} {o : Oper}
theorem run_clear0 {t : TypeId} {a : Option Addr} {c : Nat} (hu : (P.underlying t).isSome = true) (ty : TypeId) (w : World) : (Builtin.clear_ #[t] ty #[.slice a 0 c]).run P w = .ok (.tuple #[]) w := by
  obtain ⟨u, hu⟩ := Option.isSome_iff_exists.1 hu
  cases a <;> simp [Builtin.clear_, run_underlying hu]
theorem o_clear {t el off n m : Nat} {cap cap' : Option Nat} {q : Place} {z0 : AV} {cs : List AV} {y' : AV} (ho : o.op = clearCall x t) (hd : o.dst = none) (ht : P.underlying t = some (.slice el)) (hz0 : zeroCells P el = some [z0])
    (hc0 : cellL [z0] = true) (hx : RdTo N true σ x (.rsl q 1 off n cap)) (hz : node (σ q.1) q.2 = some (.osl 1 cs m cap')) (hl : off + n ≤ cs.length) (hr : refs (σ q.1) = [])
    (hres : setNode (σ q.1) q.2 (.osl 1 (setL cs off (List.replicate n z0)) m cap') = y') : OStep P N o σ (upd σ q.1 y') := by
  intro gv e a w ⟨hdf, hsz, β, F, hi⟩ K Q hK
  have ex := hx.rep rfl (fun _ _ => rfl) hi (0, [])
  obtain ⟨i, z, hi1, hz1, he⟩ := zeroCells_spec hz0
  obtain ⟨u0, hu0, rfl⟩ : ∃ u0, z.cells = #[u0] ∧ z0 = cstS u0 := by
    cases hzc : z.cells.toList with
    | nil => rw [hzc] at he; simp at he
    | cons u us =>
      rw [hzc] at he
      simp only [List.map_cons, List.cons.injEq] at he
      have hus : us = [] := by simpa using he.2.symm
      subst hus
      exact ⟨u, by rw [← Array.toList_inj]; simpa using hzc, he.1⟩
  have hq : blk σ q = some cs := by unfold blk; rw [hz]
  have idle : n = 0 → (execOp a.eval o).run P w = .ok (.value (.tuple #[])) w → o.wp P a w K Q := fun h0 hrun => by
    subst h0
    rw [List.replicate_zero, setL, setNode_self hz] at hres
    subst hres
    rw [upd_self] at hK
    refine wp_value hrun (hK _ _ ⟨?_, ?_, β, F, ?_⟩)
    · rw [hd]; exact hdf
    · rw [hd]; exact hsz
    · rw [hd]; exact hi
  simp only [Rep] at ex
  rcases ex with ⟨hb0, ⟨av, ev⟩, hn0, _⟩ | ⟨b, capv, hb1, ev, hle, _⟩
  · exact idle hn0 (by
      simp only [execOp, ho, clearCall, resolve, invoke, builtin]
      simp [ev, run_clear0 (t := t) (by rw [ht]; rfl)])
  · rcases Nat.eq_zero_or_pos n with h0 | hn
    · exact idle h0 (by
        simp only [execOp, ho, clearCall, resolve, invoke, builtin]
        simp [ev, h0, run_clear0 (t := t) (by rw [ht]; rfl)])
    · rcases hi.block hq with ⟨hb2, _⟩ | ⟨b2, s2, arr, tt, hb2, hh, hrc, hnr⟩
      · rw [hb1] at hb2; cases hb2
      · rw [hb1] at hb2
        simp only [Option.some.injEq, Prod.mk.injEq] at hb2
        obtain ⟨rfl, rfl⟩ := hb2
        have hcl := hrc.len
        simp only [Array.length_toList] at hcl
        have hrl : RepL β F w (List.replicate n (cstS u0)) (0, []) 0 (List.replicate n u0) := RepL_iff.2 fun j c' hc' => by
          rw [List.getElem?_replicate] at hc'
          split at hc'
          · rename_i hj
            cases hc'
            exact ⟨u0, by rw [List.getElem?_replicate, if_pos hj], rep_cstS u0 _⟩
          · cases hc'
        have hone : ∀ u ∈ List.replicate n u0, u.oneCell' = true := by
          intro u hu
          rw [List.eq_of_mem_replicate hu]
          have h1 : RepL β F w [cstS u0] (0, []) 0 [u0] := by simp only [RepL, and_true]; exact rep_cstS u0 _
          exact ones_of h1 rfl hc0 u0 (by simp)
        have hcells := run_storeCells_at P b off tt (List.replicate n u0) 0 arr w hh (by simp; omega) hone
        simp only [Nat.add_zero] at hcells
        have hzc : (Builtin.zeroCells z.cells n).toList = List.replicate n u0 := by
          rw [hu0]
          simp [Builtin.zeroCells]
          apply List.ext_getElem
          · simp
          · intro i h1 h2
            simp [Nat.mod_one]
        have hdet : Det e σ w β F (.agg (List.replicate n (cstS u0))) (.agg (List.replicate n u0).toArray) (same q off β) := Det.pure (p := (0, [])) (by simp only [Rep]; exact ⟨_, rfl, by simp, hrl⟩) (by
          simp only [pureV]; exact pureL_iff.2 fun c hc => by rw [List.eq_of_mem_replicate hc]; exact pure_cstS u0)
        obtain ⟨β', h⟩ := hi.store (z := .osl 1 cs m cap') (cs := cs) hz rfl rfl hb1 hh hr hdet (noRefL_pure _ (pureL_iff.2 fun c hc => by rw [List.eq_of_mem_replicate hc]; exact pure_cstS u0)) hnr (by simp; omega) (σ1 := σ) (fun i _ => .inr ⟨rfl, fun q' _ => under_same⟩)
        have h : Inv e (upd σ q.1 y') (valOf N gv a) (w.setRow b (spliceV arr.toList off (List.replicate n u0)).toArray) β' F := by rw [← hres]; exact h
        refine wp_value (v := .tuple #[]) (w' := w.setRow b (spliceV arr.toList off (List.replicate n u0)).toArray) ?_ (hK _ _ ⟨?_, ?_, β', F, ?_⟩)
        · obtain ⟨k, rfl⟩ : ∃ k, n = k + 1 := ⟨n - 1, by omega⟩
          simp only [execOp, ho, clearCall, resolve, invoke, builtin]
          simp [ev, Builtin.clear_, run_underlying ht, zeroValue, typeInfo, hi1, hz1, hzc, hcells, spliceV]
        · rw [hd]; exact hdf
        · rw [hd]; exact hsz
        · rw [hd]; exact h
end
end Go.Av
namespace Go.Av
open Go
theorem purge_look1 {N : Nat} {v : AV} (h : refs v = []) (j : Nat) : purgeV N (look [(INH, v)] (INH + j)) = look [(INH, v)] (INH + j) := by
  simp only [look, upd]
  split
  · exact purge_id (by rw [h]; simp)
  · rfl
end Go.Av
namespace Go.Av
open Go
theorem ret0_look {P : Program} {fn : Func} {N : Nat} {σ : Sig} {c : AV} (hr : fn.results = #[]) (hN : N < INH) (hv : Weak (σ INH) c) (hc : refs c = []) : Returns P fn N σ (.tup []) [c] := by
  intro gv e a w ha
  have hent : Ent σ (look [(INH, c)]) := ent_look ⟨hv, trivial⟩
  exact ret0 (σ := look [(INH, c)]) hr hN (Leaves.one Weak.rfl hc) (purge_look1 hc) gv e a w (hent.all ha)
end Go.Av
namespace Go.Av
open Go
def YldW (P : Program) (N : Nat) (ops : Array Oper) (o : Oper) (σ0 : Sig) (D : List Nat) (d : Nat) (x : AV) (pur : Bool) : Prop :=
  ∀ σ : Sig, (∀ i ∈ D, σ i = σ0 i) → ∀ (gv : Nat → Value) (e : Ctx) (a : Act) (w : World), All N gv e σ a w → ∀ (K : Act → World → Prop) (Q : Exit → Act → World → Prop),
    (∀ a' w', All N gv e (upd (fun i => if pur then purgeV d (σ i) else σ i) d x) a' w' → K a' w') → if Region.wanted o (yielded ops a.tmps) then o.wp P a w K Q else K (a.put o.dst undef) w
section mixing
def mixW (σ : Sig) : List (Nat × AV) → (Nat → Bool) → Sig
  | [], _ => σ
  | (d, x) :: st, L => mixW (if L 0 then upd σ d x else σ) st (fun k => L (k + 1))
theorem mixW_none : ∀ (st : List (Nat × AV)) (σ : Sig) (L : Nat → Bool), (∀ k, L k = false) → mixW σ st L = σ
  | [], _, _, _ => rfl
  | (d, x) :: st, σ, L, h => by
    simp only [mixW, h 0, Bool.false_eq_true, if_false]
    exact mixW_none st σ _ (fun k => h (k + 1))
theorem mixW_agree {i : Nat} : ∀ (st : List (Nat × AV)) (σ σ' : Sig) (L L' : Nat → Bool), σ i = σ' i → (∀ k d x, st[k]? = some (d, x) → d = i → L k = L' k) → mixW σ st L i = mixW σ' st L' i
  | [], _, _, _, _, h0, _ => h0
  | (d, x) :: st, σ, σ', L, L', h0, h => by
    simp only [mixW]
    refine mixW_agree st _ _ _ _ ?_ (fun k d' x' hk hd => h (k + 1) d' x' (by simpa using hk) hd)
    by_cases hi : i = d
    · have := h 0 d x rfl hi.symm
      rw [this]
      cases L' 0 <;> simp [upd, h0]
    · cases L 0 <;> cases L' 0 <;> simp [upd, hi, h0]
theorem mixW_upd {d : Nat} {x : AV} : ∀ (st : List (Nat × AV)) (σ : Sig) (L : Nat → Bool), (∀ k y, st[k]? = some (d, y) → L k = false) → mixW (upd σ d x) st L = upd (mixW σ st L) d x
  | [], _, _, _ => rfl
  | (d', x') :: st, σ, L, h => by
    simp only [mixW]
    rw [← mixW_upd st _ _ (fun k y hk => h (k + 1) y (by simpa using hk))]
    congr 1
    cases h0 : L 0 with
    | false => simp
    | true =>
      have hne : d' ≠ d := fun he => by
        have := h 0 x' (by simp [he])
        rw [h0] at this; cases this
      simp only [if_true]
      funext i
      simp only [upd]
      by_cases hi : i = d
      · subst hi; simp [Ne.symm hne]
      · simp [hi]
theorem mixW_set {d : Nat} {x : AV} : ∀ (st : List (Nat × AV)) (σ : Sig) (L : Nat → Bool) (j : Nat), st[j]? = some (d, x) → (∀ k y, j < k → st[k]? = some (d, y) → L k = false) →
    mixW σ st (fun k => k == j || L k) = upd (mixW σ st L) d x
  | [], _, _, _, h, _ => by simp at h
  | (d', x') :: st, σ, L, 0, h, hL => by
    simp at h; obtain ⟨rfl, rfl⟩ := h
    have : (fun k => (k + 1 == 0 || L (k + 1))) = fun k => L (k + 1) := by funext k; simp
    simp only [mixW, this]
    rw [← mixW_upd st _ _ (fun k y hk => hL (k + 1) y (by omega) (by simpa using hk))]
    congr 1
    cases L 0 <;> simp
    funext i; simp only [upd]; split <;> rfl
  | (d', x') :: st, σ, L, j + 1, h, hL => by
    simp only [List.getElem?_cons_succ] at h
    have : (fun k => (k + 1 == j + 1 || L (k + 1))) = fun k => (k == j || (fun k => L (k + 1)) k) := by funext k; simp
    simp only [mixW, this]
    rw [mixW_set st _ (fun k => L (k + 1)) j h (fun k y hk hy => hL (k + 1) y (by omega) (by simpa using hy))]
    have : ((0 : Nat) == j + 1) = false := by simp
    simp [this]
theorem mixW_cases {i : Nat} : ∀ (st : List (Nat × AV)) (σ : Sig) (L : Nat → Bool), mixW σ st L i = σ i ∨ ∃ k x, L k = true ∧ st[k]? = some (i, x) ∧ mixW σ st L i = x
  | [], _, _ => .inl rfl
  | (d, x) :: st, σ, L => by
    simp only [mixW]
    rcases mixW_cases st (if L 0 then upd σ d x else σ) (fun k => L (k + 1)) (i := i) with h | ⟨k, y, h1, h2, h3⟩
    · rw [h]
      cases h0 : L 0 with
      | false => simp
      | true =>
        by_cases hi : i = d
        · subst hi
          refine .inr ⟨0, x, h0, by simp, by simp [upd]⟩
        · left; simp [upd, hi]
    · exact .inr ⟨k + 1, y, h1, by simpa using h2, h3⟩
end mixing
abbrev Effs := List (Nat × Bool)
def effAt (efs : Effs) (k : Nat) : Nat × Bool := efs.getD k (0, false)
def effOk (l : List Oper) (efs : Effs) : Bool := (List.range l.length).all fun k => (List.range k).all fun j => !((effAt efs j).1 == (effAt efs k).1) || ((masks l []).getD k 0).testBit j
def readOk (l : List Oper) (efs : Effs) (j s : Nat) : Bool := (List.range l.length).all fun k => !((effAt efs k).1 == s) || k == j || ((masks l []).getD j 0).testBit k || ((masks l []).getD k 0).testBit j
def rootOk (l : List Oper) (efs : Effs) (j s : Nat) : Bool := (List.range l.length).all fun k => !((effAt efs k).1 == s && (effAt efs k).2) || ((masks l []).getD j 0).testBit k
def opOk (l : List Oper) (efs : Effs) (j : Nat) (D R : List Nat) : Bool := D.all (readOk l efs j) && R.all (rootOk l efs j)
def AQw (P : Program) (N : Nat) (l : List Oper) (efs : Effs) : List Oper → Nat → Sig → (Sig → Prop) → Prop
  | [], _, σ, K => K σ
  | o :: r, j, σ, K => ∃ d x D pur, effAt efs j = (d, pur) ∧ YldW P N l.toArray o σ D d x pur ∧ opOk l efs j D (roots x) = true ∧ AQw P N l efs r (j + 1) (upd σ d x) K
section
variable {P : Program} {N : Nat} {l : List Oper} {efs : Effs}
theorem AQw.steps {K : Sig → Prop} : ∀ (r : List Oper) (j : Nat) (σ : Sig), AQw P N l efs r j σ K →
    ∃ st : List (Nat × AV), st.length = r.length ∧ (∀ k o, r[k]? = some o → ∃ d x D pur, st[k]? = some (d, x) ∧ effAt efs (j + k) = (d, pur) ∧ YldW P N l.toArray o (mixW σ st (fun i => decide (i < k))) D d x pur ∧ opOk l efs (j + k) D (roots x) = true) ∧
      K (mixW σ st fun _ => true)
  | [], j, σ, h => ⟨[], rfl, fun k o h => by simp at h, h⟩
  | o :: r, j, σ, h => by
    obtain ⟨d, x, D, pur, he, hy, hok, h⟩ := h
    obtain ⟨st, hl, hst, hK⟩ := AQw.steps r (j + 1) (upd σ d x) h
    refine ⟨(d, x) :: st, by simp [hl], fun k o' ho' => ?_, by simpa [mixW] using hK⟩
    cases k with
    | zero =>
      simp at ho'; subst ho'
      refine ⟨d, x, D, pur, rfl, he, ?_, hok⟩
      rw [mixW_none _ _ _ (fun k => by simp)]; exact hy
    | succ k =>
      obtain ⟨d', x', D', pur', h1, h2, h3, h4⟩ := hst k o' (by simpa using ho')
      refine ⟨d', x', D', pur', by simpa using h1, by rw [show j + (k + 1) = j + 1 + k by omega]; exact h2, ?_, by rw [show j + (k + 1) = j + 1 + k by omega]; exact h4⟩
      have : mixW σ ((d, x) :: st) (fun i => decide (i < k + 1)) = mixW (upd σ d x) st (fun i => decide (i < k)) := by simp [mixW]
      rw [this]; exact h3
theorem effOk_spec (h : effOk l efs = true) {j k : Nat} (hk : k < l.length) (hj : j < k) (he : (effAt efs j).1 = (effAt efs k).1) : ((masks l []).getD k 0).testBit j = true := by
  unfold effOk at h
  rw [List.all_eq_true] at h
  have := h k (by simpa using hk)
  rw [List.all_eq_true] at this
  have := this j (by simpa using hj)
  simpa [he] using this
theorem readOk_spec {j s k : Nat} (h : readOk l efs j s = true) (hk : k < l.length) (he : (effAt efs k).1 = s) : k = j ∨ ((masks l []).getD j 0).testBit k = true ∨ ((masks l []).getD k 0).testBit j = true := by
  unfold readOk at h
  rw [List.all_eq_true] at h
  have := h k (by simpa using hk)
  simp only [he, beq_self_eq_true, Bool.not_true, Bool.false_or, Bool.or_eq_true, beq_iff_eq] at this
  rcases this with (h | h) | h
  · exact .inl h
  · exact .inr (.inl h)
  · exact .inr (.inr h)
theorem rootOk_spec {j s k : Nat} (h : rootOk l efs j s = true) (hk : k < l.length) (he : effAt efs k = (s, true)) : ((masks l []).getD j 0).testBit k = true := by
  unfold rootOk at h
  rw [List.all_eq_true] at h
  have := h k (by simpa using hk)
  simpa [he] using this
theorem any_coreW {gv : Nat → Value} {e : Ctx} {σ : Sig} {st : List (Nat × AV)} {Q : Exit → Act → World → Prop} (hB : backward l 0 = true) (hE : effOk l efs = true) (hlen : st.length = l.length)
    (hσ : ∀ i, ∀ q ∈ refs (σ i), ∀ k, k < l.length → effAt efs k ≠ (q.1, true))
    (hst : ∀ k o, l[k]? = some o → ∃ d x D pur, st[k]? = some (d, x) ∧ effAt efs k = (d, pur) ∧ YldW P N l.toArray o (mixW σ st (fun i => decide (i < k))) D d x pur ∧ opOk l efs k D (roots x) = true)
    (hQ : ∀ a w, All N gv e (mixW σ st fun _ => true) a w → Q .normal a w) :
    ∀ (fuel : Nat) (listed : Array Bool) (a : Act) (w : World), listed.size = l.length → listed.toList.count false = fuel → Closed l (fun k => listed.getD k false) →
      All N gv e (mixW σ st fun k => listed.getD k false) a w → wpAny P .any l.toArray Q fuel listed a w := by
  have hback := backward_spec hB
  have hlex : ∀ j, Closed l (fun i => decide (i < j)) := fun j i o ho hi k hk => by
    have := hback i o ho k hk
    simp only [decide_eq_true_eq] at hi ⊢
    omega
  have hlt_of : ∀ {k : Nat} {p : Nat × AV}, st[k]? = some p → k < l.length := fun {k p} hk => by
    rcases Nat.lt_or_ge k st.length with h | h
    · omega
    · rw [List.getElem?_eq_none h] at hk; cases hk
  intro fuel
  induction fuel with
  | zero =>
    intro listed a w hsz hc hcl ha
    have hall : ∀ k, k < listed.size → listed.getD k false = true := fun k hk => by
      have h0 : listed.toList.count false = 0 := hc
      rw [List.count_eq_zero] at h0
      cases hb : listed[k] with
      | true => simp [hk, hb]
      | false => exact absurd (by rw [← hb]; exact Array.getElem_mem_toList hk) h0
    refine ⟨?_, hQ _ _ ?_⟩
    · rw [List.eq_nil_iff_forall_not_mem]
      intro j hj
      obtain ⟨h0, o, ho, _⟩ := mem_ready.1 hj
      have hlt : j < listed.size := by
        have := (Array.getElem?_eq_some_iff.1 ho).1
        rw [hsz]; simpa using this
      have := hall j hlt
      simp [hlt] at h0 this
      rw [h0] at this; cases this
    · have : mixW σ st (fun k => listed.getD k false) = mixW σ st fun _ => true := by
        funext i
        exact mixW_agree st _ _ _ _ rfl fun k d x hk _ => hall k (by have := hlt_of hk; omega)
      rwa [this] at ha
  | succ fuel ih =>
    intro listed a w hsz hc hcl ha
    refine ⟨fun hr => ?_, fun j hj => ?_⟩
    · exfalso
      have hex : ∃ k, k < listed.size ∧ listed.getD k false = false := by
        have : false ∈ listed.toList := List.count_pos_iff.1 (by omega)
        obtain ⟨k, hk⟩ := List.getElem?_of_mem this
        have hlt : k < listed.size := by
          rcases Nat.lt_or_ge k listed.toList.length with h | h
          · simpa using h
          · rw [List.getElem?_eq_none h] at hk; cases hk
        refine ⟨k, hlt, ?_⟩
        simp at hk
        simp [hk]
      obtain ⟨k, hk⟩ := hex
      obtain ⟨m, ⟨hm1, hm2⟩, hmin⟩ := has_least (p := fun k => k < listed.size ∧ listed.getD k false = false) k hk
      have hml : m < l.length := by omega
      have : m ∈ Region.ready .any l.toArray listed := by
        refine mem_ready.2 ⟨by simp [hm1] at hm2 ⊢; exact hm2, l[m], by simp [hml], fun ed hed hb => ?_⟩
        have h1 := hback m l[m] (List.getElem?_eq_getElem hml) ed.on (mem_aftersOf.2 ⟨ed, hed, hb, rfl⟩)
        cases hv : listed.getD ed.on false with
        | true => rfl
        | false => have := hmin ed.on ⟨by omega, hv⟩; omega
      rw [hr] at this; cases this
    · obtain ⟨hjun, o, ho, hall⟩ := mem_ready.1 hj
      have ho' : l[j]? = some o := by simpa using ho
      have hjl : j < l.length := by
        rcases Nat.lt_or_ge j l.length with h | h
        · exact h
        · rw [List.getElem?_eq_none h] at ho'; cases ho'
      have hjs : j < listed.size := by omega
      have hjf : listed.getD j false = false := by simp [hjs] at hjun ⊢; exact hjun
      obtain ⟨d, x, D, pur, h1, h2, h4, h5⟩ := hst j o ho'
      have hal : ∀ k ∈ aftersOf o, listed.getD k false = true := fun k hk => by
        obtain ⟨ed, hed, hb, rfl⟩ := mem_aftersOf.1 hk
        exact hall ed hed hb
      have hal' : ∀ k ∈ aftersOf o, decide (k < j) = true := fun k hk => by have := hback j o ho' k hk; simp; omega
      simp only [opOk, Bool.and_eq_true, List.all_eq_true] at h5
      have behind : ∀ k, k < l.length → ((masks l []).getD k 0).testBit j = true → listed.getD k false = false ∧ j < k := fun k hk hb => by
        have hok : l[k]? = some l[k] := List.getElem?_eq_getElem hk
        refine ⟨?_, ?_⟩
        · cases hv : listed.getD k false with
          | false => rfl
          | true =>
            have := Yld.mask hcl hok (fun k' hk' => hcl k _ hok hv k' hk') hb
            rw [hjf] at this; cases this
        · have := Yld.mask (hlex k) hok (fun k' hk' => by have := hback k _ hok k' hk'; simp; omega) hb
          simpa using this
      have before : ∀ k, ((masks l []).getD j 0).testBit k = true → listed.getD k false = true ∧ decide (k < j) = true := fun k hb => ⟨Yld.mask hcl ho' hal hb, Yld.mask (hlex j) ho' hal' hb⟩
      have eff_of : ∀ {k : Nat} {s : Nat} {y : AV}, st[k]? = some (s, y) → (effAt efs k).1 = s := fun {k s y} hk => by
        have hkl := hlt_of hk
        obtain ⟨d', x', D', pur', g1, g2, _⟩ := hst k l[k] (List.getElem?_eq_getElem hkl)
        rw [hk] at g1; simp at g1; obtain ⟨rfl, rfl⟩ := g1
        rw [g2]
      have hdep : ∀ s ∈ D, ∀ k y, st[k]? = some (s, y) → listed.getD k false = decide (k < j) := fun s hs k y hk => by
        rcases readOk_spec (h5.1 s hs) (hlt_of hk) (eff_of hk) with h | h | h
        · subst h; rw [hjf]; simp
        · obtain ⟨e1, e2⟩ := before k h; rw [e1, e2]
        · obtain ⟨e1, e2⟩ := behind k (hlt_of hk) h
          rw [e1]; simp; omega
      have hpur : pur = true → ∀ i, i ≠ d → purgeV d (mixW σ st (fun k => listed.getD k false) i) = mixW σ st (fun k => listed.getD k false) i := fun hp i hi => by
        rw [purgeV_eq, if_neg]
        intro hany
        rw [List.any_eq_true] at hany
        obtain ⟨q, hq, hqd⟩ := hany
        simp only [beq_iff_eq] at hqd
        rcases mixW_cases st σ (fun k => listed.getD k false) (i := i) with hm | ⟨k, y, hk1, hk2, hk3⟩
        · rw [hm] at hq
          exact hσ i q hq j hjl (by rw [h2, hqd, hp])
        · rw [hk3] at hq
          have hkl := hlt_of hk2
          have hok : l[k]? = some l[k] := List.getElem?_eq_getElem hkl
          obtain ⟨d', x', D', pur', g1, g2, _, g5⟩ := hst k l[k] hok
          rw [hk2] at g1; simp at g1; obtain ⟨rfl, rfl⟩ := g1
          simp only [opOk, Bool.and_eq_true, List.all_eq_true] at g5
          have hb := rootOk_spec (g5.2 q.1 (List.mem_map.2 ⟨q, hq, rfl⟩)) hjl (by rw [h2, hqd, hp])
          have := Yld.mask hcl hok (fun k' hk' => hcl k _ hok hk1 k' hk') hb
          rw [hjf] at this; cases this
      have hstep := h4 (mixW σ st fun k => listed.getD k false) (fun s hs => mixW_agree st _ _ _ _ rfl fun k s' y hk hs' => by
        subst hs'
        exact hdep s' hs k y hk) gv e a w ha (wpAny P .any l.toArray Q fuel (listed.setIfInBounds j true)) Q (fun a' w' ha' => by
          refine ih _ a' w' (by simpa using hsz) ?_ ?_ ?_
          · have hj0 : listed.toList[j]? = some false := by
              simp [hjs] at hjun ⊢; exact hjun
            have : (listed.setIfInBounds j true).toList = listed.toList.set j true := by simp
            rw [this, List.count_set (by simpa using hjs)]
            have hv : listed.toList[j]'(by simpa using hjs) = false := by
              rw [List.getElem?_eq_getElem (by simpa using hjs)] at hj0
              exact Option.some.inj hj0
            simp [hv]
            simp at hc
            omega
          · intro i oi hoi hi k hk
            by_cases hij : j = i
            · subst hij
              rw [ho'] at hoi; cases hoi
              exact getD_set_true (hal k hk)
            · simp only [getD_set_ne false hij] at hi
              exact getD_set_true (hcl i oi hoi hi k hk)
          · have e1 : (fun k => (listed.setIfInBounds j true).getD k false) = fun k => (k == j || (fun k => listed.getD k false) k) := by
              funext k
              by_cases hk : j = k
              · subst hk; simp [hjs]
              · simp only [getD_set_ne false hk, beq_iff_eq]; have : ¬ k = j := fun h => hk h.symm
                have hb : (k == j) = false := by simp [this]
                rw [hb, Bool.false_or]
            rw [e1, mixW_set st _ _ j h1 (fun k y hjk hk => (behind k (hlt_of hk) (effOk_spec hE (hlt_of hk) hjk (by rw [eff_of hk, h2]))).1)]
            have e2 : upd (fun i => if pur then purgeV d (mixW σ st (fun k => listed.getD k false) i) else mixW σ st (fun k => listed.getD k false) i) d x = upd (mixW σ st fun k => listed.getD k false) d x := by
              funext i
              by_cases hi : i = d
              · subst hi; rw [upd_same, upd_same]
              · rw [upd_other _ _ hi, upd_other _ _ hi]
                cases hp : pur with
                | false => simp
                | true => rw [if_pos rfl, hpur hp i hi]
            rw [← e2]; exact ha')
      unfold wpOp
      rw [ho]
      dsimp only
      split
      · rename_i hw; rw [if_pos hw] at hstep; exact .inl hstep
      · rename_i hw; rw [if_neg hw] at hstep; exact hstep
def purgeds (efs : Effs) : List Nat := (efs.filter (·.2)).map (·.1)
theorem a_region_w {id : Nat} {σ : Sig} {Φ : Exit → Sig → Prop} (efs : Effs) (hm : P.follows .mixedOrders = true) (hB : (backward l 0 && effOk l efs && decide (efs.length = l.length)) = true)
    (h : AQw P N l efs l 0 (fun i => purgeD (purgeds efs) (σ i)) (fun s => Φ .normal s)) (hnd : noDefer l = true := by kernel_rfl) : ACode P N (.region id l.toArray true) σ Φ := fun gv e a w ha Q0 hQ0 => by
  refine sw_region_any (K := fun s => Φ .normal s) hm hnd (fun x a' w' σ' hx hΦ ha' => by rw [hx]; exact hQ0 _ _ _ _ hΦ ha') fun Q hQ => ?_
  simp only [Bool.and_eq_true, decide_eq_true_eq] at hB
  obtain ⟨⟨hB1, hB2⟩, hB3⟩ := hB
  obtain ⟨st, hl, hst, hK⟩ := AQw.steps l 0 _ h
  have ha' := (ent_purgeD (purgeds efs) σ).all ha
  obtain ⟨hdf, hsz, β, F, hi⟩ := ha'
  refine any_coreW hB1 hB2 hl (fun i q hq k hk he => ?_) (fun k o ho => by
    obtain ⟨d, x, D, pur, h1, h2, h3, h4⟩ := hst k o ho
    exact ⟨d, x, D, pur, h1, by simpa using h2, h3, by simpa using h4⟩) (fun a w ha => hQ () _ _ _ hK ha) _ _ a _ (by simp) ?_ ?_ ?_
  · simp only [purgeD_eq] at hq
    split at hq
    · simp [refs] at hq
    · rename_i hany
      simp only [List.any_eq_true, not_exists, not_and] at hany
      refine hany q hq ?_
      rw [List.contains_iff_mem]
      unfold purgeds
      refine List.mem_map.2 ⟨(q.1, true), List.mem_filter.2 ⟨?_, rfl⟩, rfl⟩
      unfold effAt at he
      rw [List.getD_eq_getElem?_getD, List.getElem?_eq_getElem (by omega), Option.getD_some] at he
      rw [← he]; exact List.getElem_mem _
  · simp
  · intro i o ho hi
    rcases Nat.lt_or_ge i l.length with h | h
    · simp [h] at hi
    · simp [h] at hi
  · rw [mixW_none _ _ _ (fun k => by
      rcases Nat.lt_or_ge k l.length with h | h
      · simp [h]
      · simp [h])]
    exact ⟨hdf, hsz, β, F, hi.same rfl rfl rfl⟩
end
section
variable {P : Program} {N : Nat} {A : Bool} {σ : Sig} {l rest : List Oper} {efs : Effs} {o : Oper} {K : Sig → Prop} {jj : Nat}
theorem w_nil (h : K σ) : AQw P N l efs [] jj σ K := h
theorem Yld.toW {ops : Array Oper} {D : List Nat} {d : Nat} {x : AV} (h : Yld P N ops o σ D d x) : YldW P N ops o σ D d x true := fun σ' hD gv e a w ha K Q hK => h σ' hD gv e a w ha K Q (fun a' w' ha' => hK a' w' (by simpa using ha'))
theorem w_new {d : Nat} {v : AV} {D : List Nat} (hv : QSem P N true o.op o.type σ D v) (hg : o.guard = none) (hd : o.dst = some d) (hN : d < N) (he : effAt efs jj = (d, true)) (hok : opOk l efs jj D (roots v) = true) (h : AQw P N l efs rest (jj + 1) (upd σ d v) K) :
    AQw P N l efs (o :: rest) jj σ K := ⟨d, v, D, true, he, (hv.yld hg hd hN).toW, hok, h⟩
theorem w_val {d : Nat} {v : AV} {D : List Nat} (hv : VSem P N true o.op o.type σ D v) (hg : o.guard = none) (hd : o.dst = some d) (hN : d < N) (he : effAt efs jj = (d, true)) (hok : opOk l efs jj D (roots v) = true) (h : AQw P N l efs rest (jj + 1) (upd σ d v) K) :
    AQw P N l efs (o :: rest) jj σ K := w_new hv.quiet hg hd hN he hok h
theorem RdTo.agree {σ' : Sig} {x : Operand} {v : AV} (h : RdTo N A σ x v) (hD : ∀ i ∈ slots x, σ' i = σ i) : RdTo N A σ' x v := by
  unfold RdTo at *
  rw [rd_agree hD]; exact h
theorem w_store {t off s : Nat} {g : Bool} {q : Place} {x y : Operand} {z v y' : AV} (ho : o.op = .store t x y) (hg : o.guard = none) (hd : o.dst = none) (ht : tyAgg P t = some (g, s)) (hx : RdTo N true σ x (.rp q off)) (hy : RdTo N true σ y v)
    (hz : node (σ q.1) q.2 = some z) (hzo : z.isOwn = true) (hb : boxable v = true) (hp : pureL (cellsOf v) = true) (hc : cellL (cellsOf v) = true) (hs : (cellsOf v).length = s) (hl : off + s ≤ (kids z).length) (h0 : 0 < s)
    (hr : refs (σ q.1) = []) (hres : setNode (σ q.1) q.2 (setKids z (setL (kids z) off (cellsOf v))) = y') (he : effAt efs jj = (q.1, false)) (hok : opOk l efs jj (slots x ++ slots y ++ [q.1]) (roots y') = true)
    (h : AQw P N l efs rest (jj + 1) (upd σ q.1 y') K) : AQw P N l efs (o :: rest) jj σ K := by
  refine ⟨q.1, y', slots x ++ slots y ++ [q.1], false, he, fun σ' hD gv e a w ha K' Q hK => ?_, hok, h⟩
  have hw : Region.wanted o (yielded l.toArray a.tmps) = true := by simp [Region.wanted, hg]
  rw [if_pos hw]
  have eq : σ' q.1 = σ q.1 := hD q.1 (by simp)
  have hst := o_store (P := P) (N := N) (σ := σ') (o := o) ho hd ht (hx.agree fun i hi => hD i (by simp [hi])) (hy.agree fun i hi => hD i (by simp [hi])) (by simpa only [eq] using hz) hzo hb hp hc hs hl h0 (by simpa only [eq] using hr) (by simpa only [eq] using hres)
  exact hst gv e a w ha K' Q fun a' w' ha' => hK a' w' ha'
end
end Go.Av
namespace Go.Av
open Go
section
variable {P : Program} {N : Nat} {fn : Func} {σ : Sig}
theorem retLO {rs : List ResultVar} {c : AV} (L0 : List (Nat × AV)) (hH : Has σ ((INH, c) :: L0)) (h0 : (L0.all fun p => decide (p.1 < INH)) = true) (hr : fn.results = rs.toArray) (hl : rs.length ≠ 1)
    (h : ResIs P N rs (look ((INH, c) :: L0)) (look ((INH, c) :: L0))) (hnd : (rs.map resSlot).Nodup)
    (hN : N < INH) {L : List AV} (hL : (rs.map resSlot).map (look ((INH, c) :: L0)) = L) (hrr : refsL L = []) (hc : refs c = []) : Returns P fn N σ (.tup L) [c] := fun gv e a w ha =>
  retCT hr hl h hnd hN hL hrr (Leaves.one (by simp only [look, upd_same]; exact Weak.rfl) hc) (fun j => by
    simp only [look, upd]
    split
    · exact purge_id (by rw [hc]; simp)
    · rw [look_big h0 j]; simp [purgeV_eq, refs]) gv e a w ((ent_look hH).all ha)
end
end Go.Av
namespace Go.Av
open Go
variable {P : Program} {N : Nat} {A : Bool} {σ : Sig} {l rest : List Oper} {efs : Effs} {o : Oper} {K : Sig → Prop} {jj : Nat}
theorem wv {d : Nat} {v : AV} {D : List Nat} (hv : VSem P N true o.op o.type σ D v) (h : AQw P N l efs rest (jj + 1) (upd σ d v) K) (hg : o.guard = none := by rfl) (hd : o.dst = some d := by rfl) (hN : d < N := by decide) (he : effAt efs jj = (d, true) := by rfl) (hok : opOk l efs jj D (roots v) = true := by kernel_rfl) : AQw P N l efs (o :: rest) jj σ K := w_val hv hg hd hN he hok h
end Go.Av
namespace Go.Av
open Go
section
variable {e : Ctx} {σ τ : Sig} {val : Nat → Value} {w : World} {β : Place → Option (Nat × Nat)} {F : Nat → Prop}
theorem Inv.rebeta (h : Inv e σ val w β F) {q : Place} {b s : Nat} (s' : Nat) (hb : β q = some (b, s)) (hno : ¬ OwnAt σ q) (hτ : ∀ i, τ i = σ i ∨ τ i = .undef) (hτq : ∀ i, ∀ p ∈ refs (τ i), p = q → ∃ off, τ i = .rp q off) :
    Inv e τ val w (fun p => if p = q then some (b, s') else β p) F := by
  have old : ∀ {p : Place}, OwnAt τ p → OwnAt σ p ∧ p ≠ q := by
    rintro ⟨i, r⟩ ⟨y, hy, ho⟩
    dsimp only at hy
    rcases hτ i with ht | ht
    · rw [ht] at hy
      have : OwnAt σ (i, r) := ⟨y, hy, ho⟩
      exact ⟨this, fun he => hno (by rw [← he]; exact this)⟩
    · rw [ht] at hy; exact (undef_node hy ho).elim
  refine ⟨fun i => ?_, fun p p' b1 s1 s2 hp hp' h1 h2 => ?_, fun p b1 s1 hp h1 => ?_, h.fr, h.kept, h.grow, h.tame⟩
  · rcases hτ i with ht | ht
    · by_cases hin : q ∈ refs (τ i)
      · obtain ⟨off, he⟩ := hτq i q hin rfl
        have hr := h.rep i
        rw [← ht, he] at hr
        rw [he]
        simp only [Rep] at hr ⊢
        obtain ⟨b1, s1, h1, h2⟩ := hr
        rw [hb] at h1
        cases h1
        exact ⟨b, s', by simp, h2⟩
      · rw [ht] at hin ⊢
        exact (h.rep i).tr _ (fun b hb => ⟨hb, rfl⟩) (fun r y hy ho => ⟨by
          have : ¬ ((i, r) = q) := fun he => hno (by rw [← he]; exact ⟨y, hy, ho⟩)
          simp only [List.nil_append, this, if_false], fun _ _ _ => rfl⟩) (fun p hp => by
          have : ¬ (p = q) := fun he => hin (by rw [← he]; exact hp)
          simp only [this, if_false])
    · rw [ht]; simp [Rep]
  · obtain ⟨o1, n1⟩ := old hp
    obtain ⟨o2, n2⟩ := old hp'
    simp only [n1, n2, if_false] at h1 h2
    exact h.disj p p' b1 s1 s2 o1 o2 h1 h2
  · obtain ⟨o1, n1⟩ := old hp
    simp only [n1, if_false] at h1
    exact h.sep p b1 s1 o1 h1
end
section
variable {P : Program} {e : Ctx} {σ τ : Sig} {val : Nat → Value} {w : World} {β : Place → Option (Nat × Nat)} {F : Nat → Prop}
theorem callIO_coreP {f : FuncId} {args vs' : List AV} {res x0 x1 : AV} {q : Place} {vs : List Value} {d : Nat} (hc : ACall P f args [x0] res [x1]) (hn : noSh res = true) (hr : noRef res = true) (hn1 : noSh x1 = true) (hr1 : noRef x1 = true)
    (h : Inv e σ val w β F) (hz : node (σ q.1) q.2 = some x0) (hr0 : refs x0 = []) (hfr : ∀ b arr t fz, (∃ r y s, node x0 r = some y ∧ y.isOwn = true ∧ β (q.1, q.2 ++ r) = some (b, s)) → w.heap[b]? = some (.cells arr t fz) → fz = (0, 0))
    (hl : vs.length = args.length) (ha : RepL (passB q β) (lent (hole σ q) β F) w args (0, []) 0 vs) (hai : ∀ c ∈ args, NoOwn c) (hlen : args.length < INH)
    (hds : d ≠ q.1) (hrs : ∀ p ∈ refs (σ q.1), p.1 ≠ q.1 ∧ p.1 ≠ d)
    (hτ : ∀ i, i ≠ q.1 → τ i = purgeV d (σ i) ∨ τ i = .undef)
    (hτr : ∀ i, i ≠ q.1 → ∀ p ∈ refs (τ i), p.1 = q.1 → p = q ∧ ∃ off, τ i = .rp q off) (hop0 : ∃ cs, x0 = .op cs) (hop1 : ∃ cs, x1 = .op cs) :
    Calls P f vs.toArray w fun en w' => ∃ v β', en = .returned v ∧ Inv e (upd (upd τ q.1 (setNode (σ q.1) q.2 x1)) d res) (upd val d v) w' β' F := by
  obtain ⟨u, hu, hput⟩ := (h.rep q.1).zoom hz
  simp only [List.nil_append] at hu
  have hh := h.hole hz
  let inh : Nat → Prop := fun b => ∃ r y s, node x0 r = some y ∧ y.isOwn = true ∧ β (q.1, q.2 ++ r) = some (b, s)
  let G : Nat → Prop := lent (hole σ q) β F
  have inh_own : ∀ {b}, inh b → ∃ p s, OwnAt σ p ∧ β p = some (b, s) ∧ (p.1 = q.1 ∧ q.2 <+: p.2) := fun {b} ⟨r, y, s, hy, ho, hb⟩ => ⟨(q.1, q.2 ++ r), s, ownAt_sub hz hy ho, hb, rfl, List.prefix_append _ _⟩
  have inh_not : ∀ {b}, inh b → ¬ F b ∧ (e.w0.heap.size ≤ b ∨ e.inh b) ∧ ∀ p s, OwnAt (hole σ q) p → β p ≠ some (b, s) := fun {b} hb => by
    obtain ⟨p, s, hp, hpb, hpq⟩ := inh_own hb
    refine ⟨(h.sep p b s hp hpb).1, (h.sep p b s hp hpb).2, fun p' s' hp' hb' => ?_⟩
    obtain ⟨h1, h2⟩ := ownAt_hole hz hp'
    have := h.disj p p' b s s' hp h1 hpb hb'
    subst this
    exact h2 hpq
  have hinv : Inv ⟨w, inh, G, []⟩ (argSig args [x0]) (fun i => if i = INH then u else vs.getD i undef) w (passB q β) G := by
    have own : ∀ {p}, OwnAt (argSig args [x0]) p → p.1 = INH ∧ ∃ y, node x0 p.2 = some y ∧ y.isOwn = true := by
      rintro ⟨i, r⟩ ⟨y, hy, ho⟩
      dsimp only at hy
      unfold argSig at hy
      split at hy
      · cases hx : args[i]? with
        | none => rw [hx] at hy; exact (undef_node hy ho).elim
        | some c =>
          rw [hx] at hy
          rw [hai c (List.mem_of_getElem? hx) r y hy] at ho; cases ho
      · rename_i hi
        cases hj : i - INH with
        | zero =>
          rw [hj] at hy
          exact ⟨by dsimp only; omega, y, by simpa using hy, ho⟩
        | succ k => rw [hj] at hy; simp at hy; exact (undef_node hy ho).elim
    refine ⟨fun i => ?_, fun p p' b s s' hp hp' hb hb' => ?_, fun p b s hp hb => ?_, fun b hb => ⟨?_, fun _ => hb⟩, fun _ _ _ => rfl, Nat.le_refl _, Tame.refl' w (fun b arr t fz hb hh => hfr b arr t fz hb hh)⟩
    · by_cases hi : i = INH
      · subst hi
        rw [argSig_inh']
        simp only [if_true]
        exact hu.tr _ (fun b hb => ⟨.inl hb, rfl⟩) (fun r y _ _ => ⟨by simp [passB], fun _ _ _ => rfl⟩) (fun p hp => by rw [hr0] at hp; cases hp)
      · simp only [hi, if_false]
        unfold argSig
        split
        · cases hx : args[i]? with
          | none => simp [Rep]
          | some c =>
            obtain ⟨u', hu', hru⟩ := RepL_iff.1 ha i c hx
            rw [List.getD_eq_getElem?_getD, hu']
            exact hru.tr _ (fun b hb => ⟨hb, rfl⟩) (fun r y hy ho => by rw [hai c (List.mem_of_getElem? hx) r y hy] at ho; cases ho) (fun _ _ => rfl)
        · have : ([x0] : List AV)[i - INH]? = none := List.getElem?_eq_none (by simp; omega)
          rw [this]; simp [Rep]
    · obtain ⟨h1, y, hy, ho⟩ := own hp
      obtain ⟨h1', y', hy', ho'⟩ := own hp'
      simp only [passB, h1, h1', if_true] at hb hb'
      have := h.disj _ _ b s s' (ownAt_sub hz hy ho) (ownAt_sub hz hy' ho') hb hb'
      simp only [Prod.mk.injEq, true_and] at this
      exact Prod.ext (h1.trans h1'.symm) (List.append_cancel_left this)
    · obtain ⟨h1, y, hy, ho⟩ := own hp
      simp only [passB, h1, if_true] at hb
      have hi : inh b := ⟨p.2, y, s, hy, ho, hb⟩
      refine ⟨fun hG => ?_, .inr hi⟩
      rcases hG with hF | ⟨p', s', hp', hb'⟩
      · exact (inh_not hi).1 hF
      · exact (inh_not hi).2.2 p' s' hp' hb'
    · rcases hb with hb | ⟨p, s, hp, hb⟩
      · exact (h.fr b hb).1
      · exact hh.own_lt hp hb
  refine (hc _ vs _ w _ _ hl (fun i hi => by
    have : i ≠ INH := by omega
    simp [this]) hinv).mono fun en w' ⟨v, β', F', he, hi⟩ => ⟨v, ?_⟩
  have hkept : ∀ b, b < w.heap.size → ¬ inh b → w'.heap[b]? = w.heap[b]? := fun b hb hnb => hi.kept b hb hnb
  have hgrow : w.heap.size ≤ w'.heap.size := hi.grow
  have oldnot : ∀ {p b s}, OwnAt (hole σ q) p → β p = some (b, s) → ¬ inh b := fun {p b s} hp hb hi => (inh_not hi).2.2 p s hp hb
  have hH : Inv e (hole σ q) val w' β F := hh.ext (fun b hb => hkept b (h.fr b hb).1 (fun hi => (inh_not hi).1 hb)) (fun p b s hp hb => hkept b (hh.own_lt hp hb) (oldnot hp hb))
    (fun b hb hni => hkept b (Nat.lt_of_lt_of_le hb h.grow) (fun hi => by
      rcases (inh_not hi).2.1 with h1 | h1
      · omega
      · exact hni h1)) hgrow (h.tame.trans' hi.tame hkept)
  have hres : argSig [res] [x1] 0 = res := argSig_zero _ _
  have hobj : argSig [res] [x1] INH = x1 := argSig_inh _ _
  have newb : ∀ {p b s}, OwnAt (argSig [res] [x1]) p → β' p = some (b, s) → ¬ F b ∧ (e.w0.heap.size ≤ b ∨ e.inh b) ∧ ∀ p' s', OwnAt (hole σ q) p' → β p' ≠ some (b, s') := fun {p b s} hp hb => by
    rcases (hi.sep p b s hp hb).2 with hge | hin
    · have hge : w.heap.size ≤ b := hge
      exact ⟨fun hF => by have := (h.fr b hF).1; omega, .inl (Nat.le_trans h.grow hge), fun p' s' hp' hb' => by have := hh.own_lt hp' hb'; omega⟩
    · exact inh_not hin
  have d0 : Det e (hole σ q) w' β F res v (fun r => β' (0, r)) := by
    refine ⟨?_, refs_of_noRef res hr, fun r r' y y' b s s' hy ho hy' ho' hb hb' => ?_, fun r y b s hy ho hb => newb (p := (0, r)) ⟨y, by rw [hres]; exact hy, ho⟩ hb⟩
    · have := hi.rep 0
      rw [hres, upd_same] at this
      exact (this.noSh (G := F) res hn).tr _ (fun b hb => ⟨hb, rfl⟩) (fun r y _ _ => ⟨by simp, fun _ _ _ => rfl⟩) (fun p hp => by rw [refs_of_noRef res hr] at hp; cases hp)
    · have := hi.disj (0, r) (0, r') b s s' ⟨y, by rw [hres]; exact hy, ho⟩ ⟨y', by rw [hres]; exact hy', ho'⟩ hb hb'
      simpa using this
  have I1 := hH.attach d d0
  have hINH0 : (INH : Nat) ≠ 0 := by decide
  have repX := hi.rep INH
  rw [hobj, upd_other _ _ hINH0] at repX
  simp only [if_true] at repX
  have d1 : Det e (upd (fun i => purgeV d (hole σ q i)) d res) w' (fun p => if p.1 = d then β' (0, p.2) else β p) F x1 u (fun r => β' (INH, r)) := by
    refine ⟨?_, refs_of_noRef x1 hr1, fun r r' y y' b s s' hy ho hy' ho' hb hb' => ?_, fun r y b s hy ho hb => ⟨(newb (p := (INH, r)) ⟨y, by rw [hobj]; exact hy, ho⟩ hb).1, (newb (p := (INH, r)) ⟨y, by rw [hobj]; exact hy, ho⟩ hb).2.1, fun p s' hp hb' => ?_⟩⟩
    · exact (repX.noSh (G := F) x1 hn1).tr _ (fun b hb => ⟨hb, rfl⟩) (fun r y _ _ => ⟨by simp, fun _ _ _ => rfl⟩) (fun p hp => by rw [refs_of_noRef x1 hr1] at hp; cases hp)
    · have := hi.disj (INH, r) (INH, r') b s s' ⟨y, by rw [hobj]; exact hy, ho⟩ ⟨y', by rw [hobj]; exact hy', ho'⟩ hb hb'
      simpa using this
    · by_cases hpd : p.1 = d
      · obtain ⟨y', hy', ho'⟩ := hp
        rw [hpd, upd_same] at hy'
        simp only [hpd, if_true] at hb'
        have := hi.disj (INH, r) (0, p.2) b s s' ⟨y, by rw [hobj]; exact hy, ho⟩ ⟨y', by rw [hres]; exact hy', ho'⟩ hb hb'
        simp [hINH0] at this
      · simp only [hpd, if_false] at hb'
        have hp' := (own_upd_other hpd).1 hp
        have : OwnAt (hole σ q) p := by
          obtain ⟨z, hz', hoz⟩ := hp'
          dsimp only at hz'
          rcases purgeV_or d (hole σ q p.1) with hp | hp
          · rw [hp] at hz'; exact ⟨z, hz', hoz⟩
          · rw [hp] at hz'; exact (undef_node hz' hoz).elim
        exact (newb (p := (INH, r)) ⟨y, by rw [hobj]; exact hy, ho⟩ hb).2.2 p s' this hb'
  have hs1 : upd (fun i => purgeV d (hole σ q i)) d res q.1 = setNode (σ q.1) q.2 .undef := by
    rw [upd_other _ _ (Ne.symm hds)]
    have : hole σ q q.1 = setNode (σ q.1) q.2 .undef := by simp [hole, upd]
    rw [this]
    exact purge_id fun p hp => (hrs p (refs_setNode (by simp [refs]) hz p hp)).2
  have hval : upd val d v q.1 = val q.1 := upd_other _ _ (Ne.symm hds)
  have hnz : node (upd (fun i => purgeV d (hole σ q i)) d res q.1) q.2 = some .undef := by rw [hs1]; exact node_set_self hz
  obtain ⟨b0, s0, hbq, hu0⟩ : ∃ b s, β q = some (b, s) ∧ u = .pointer (some ⟨b, 0, none⟩) := by
    obtain ⟨cs, rfl⟩ := hop0
    have hu' : Rep β F w (.op cs) q u := by simpa using hu
    simp only [Rep] at hu'
    obtain ⟨_, b, arr, t, h1, h2, _⟩ := hu'
    exact ⟨b, _, h1, h2⟩
  obtain ⟨s1, hbX⟩ : ∃ s, β' (INH, []) = some (b0, s) := by
    obtain ⟨cs, rfl⟩ := hop1
    have hx := repX
    simp only [Rep] at hx
    obtain ⟨_, b, arr, t, h1, h2, _⟩ := hx
    rw [hu0] at h2
    simp only [Value.pointer.injEq, Option.some.injEq, Addr.mk.injEq] at h2
    obtain ⟨rfl, _⟩ := h2
    exact ⟨_, h1⟩
  have hno1 : ¬ OwnAt (upd (fun i => purgeV d (hole σ q i)) d res) q := by
    rintro ⟨y, hy, ho⟩
    rw [hnz] at hy; cases hy; simp [AV.isOwn] at ho
  have hq1d : q.1 ≠ d := Ne.symm hds
  have I2 := I1.rebeta (q := q) (b := b0) (s := s0) s1 (by simp only [hq1d, if_false]; exact hbq) hno1 (τ := fun i => if i = q.1 then upd (fun i => purgeV d (hole σ q i)) d res q.1 else if i = d then res else τ i) (fun i => by
    by_cases h1 : i = q.1
    · subst h1; left; simp
    · simp only [h1, if_false]
      by_cases hid : i = d
      · subst hid; left; simp [upd_same]
      · simp only [hid, if_false]
        rw [upd_other _ _ hid]
        have : hole σ q i = σ i := by simp [hole, upd, h1]
        rw [this]
        exact hτ i h1) (fun i p hp hpq => by
    by_cases h1 : i = q.1
    · subst h1
      simp only [if_true] at hp
      rw [hs1] at hp
      exact absurd (by rw [hpq]) (hrs p (refs_setNode (by simp [refs]) hz p hp)).1
    · simp only [h1, if_false] at hp ⊢
      by_cases hid : i = d
      · simp only [hid, if_true] at hp
        rw [refs_of_noRef res hr] at hp; cases hp
      · simp only [hid, if_false] at hp ⊢
        exact (hτr i h1 p hp (by rw [hpq])).2)
  have own21 : ∀ p, OwnAt (fun i => if i = q.1 then upd (fun i => purgeV d (hole σ q i)) d res q.1 else if i = d then res else τ i) p → OwnAt (upd (fun i => purgeV d (hole σ q i)) d res) p := by
    rintro ⟨i, r⟩ ⟨y, hy, ho⟩
    dsimp only at hy
    by_cases h1 : i = q.1
    · subst h1; simp only [if_true] at hy; exact ⟨y, hy, ho⟩
    · simp only [h1, if_false] at hy
      by_cases hid : i = d
      · subst hid; simp only [if_true] at hy; exact ⟨y, by dsimp only; rw [upd_same]; exact hy, ho⟩
      · simp only [hid, if_false] at hy
        rcases hτ i h1 with ht | ht
        · refine ⟨y, ?_, ho⟩
          dsimp only
          rw [upd_other _ _ hid]
          have : hole σ q i = σ i := by simp [hole, upd, h1]
          rw [this, ← ht]; exact hy
        · rw [ht] at hy; exact (undef_node hy ho).elim
  have d2 : Det e (fun i => if i = q.1 then upd (fun i => purgeV d (hole σ q i)) d res q.1 else if i = d then res else τ i) w' (fun p => if p = q then some (b0, s1) else (if p.1 = d then β' (0, p.2) else β p)) F x1 u (fun r => β' (INH, r)) :=
    ⟨d1.rep, d1.nr, d1.inj, fun r y b s hy ho hb => ⟨(d1.sep r y b s hy ho hb).1, (d1.sep r y b s hy ho hb).2.1, fun p s' hp hb' => by
      have hp1 := own21 p hp
      have hne : p ≠ q := fun he => hno1 (by have h9 := hp1; rw [he] at h9; exact h9)
      simp only [hne, if_false] at hb'
      exact (d1.sep r y b s hy ho hb).2.2 p s' hp1 hb'⟩⟩
  have hs2 : (fun i => if i = q.1 then upd (fun i => purgeV d (hole σ q i)) d res q.1 else if i = d then res else τ i) q.1 = setNode (σ q.1) q.2 .undef := by simp only [if_true]; exact hs1
  have hnz2 : node ((fun i => if i = q.1 then upd (fun i => purgeV d (hole σ q i)) d res q.1 else if i = d then res else τ i) q.1) q.2 = some .undef := by rw [hs2]; exact node_set_self hz
  have fin := I2.put (τ := fun i => if i = d then res else τ i) hnz2 d2 (by
    rw [if_pos rfl, hs1, setNode_setNode hz, hval]
    refine hput hr1 ?_ (fun b hb => hkept b (h.fr b hb).1 (fun hi => (inh_not hi).1 hb)) (fun r' y' hy' ho hp => ?_) (fun p hp => ?_)
    · simp only [List.nil_append]
      exact (repX.noSh (G := F) x1 hn1).tr _ (fun b hb => ⟨hb, rfl⟩) (fun r y _ _ => ⟨by
        have := glueAt_in (β := fun p => if p = q then some (b0, s1) else (if p.1 = d then β' (0, p.2) else β p)) (t := q.1) (r := q.2) (s := r) (δ := fun r => β' (INH, r))
        simpa using this, fun _ _ _ => rfl⟩) (fun p hp => by rw [refs_of_noRef x1 hr1] at hp; cases hp)
    · simp only [List.nil_append]
      have hne : ¬ (q.2 <+: r') := hp
      have hneq : ¬ ((q.1, r') = q) := fun he => hne (by rw [← he]; exact List.prefix_rfl)
      refine ⟨by rw [glueAt_out (fun hh => hne hh.2)]; simp only [hneq, if_false, hq1d], fun b s hb => hkept b (h.own_lt (q := (q.1, r')) ⟨y', hy', ho⟩ hb) (fun hin => ?_)⟩
      obtain ⟨p, s', hp', hpb, hpq⟩ := inh_own hin
      have := h.disj p (q.1, r') b s' s hp' ⟨y', hy', ho⟩ hpb hb
      subst this
      exact hne hpq.2
    · rw [glueAt_out (fun hh => (hrs p hp).1 hh.1)]
      have hpq : p ≠ q := fun he => (hrs p hp).1 (by rw [he])
      simp only [hpq, if_false, (hrs p hp).2]) (fun i hiq => by
    simp only [hiq, if_false]
    left; trivial) (fun i hiq p hp => by
    by_cases hid : i = d
    · subst hid
      simp only [if_true] at hp
      rw [refs_of_noRef res hr] at hp; cases hp
    · simp only [hid, if_false] at hp
      by_cases hpq : p.1 = q.1
      · obtain ⟨hpe, _⟩ := hτr i hiq p hp hpq
        subst hpe
        have h1 := glueAt_in (β := fun r => if r = p then some (b0, s1) else (if r.1 = d then β' (0, r.2) else β r)) (t := p.1) (r := p.2) (s := []) (δ := fun r => β' (INH, r))
        rw [List.append_nil] at h1
        refine h1.trans ?_
        simp only [if_true]
        exact hbX
      · exact glueAt_out (fun hh => hpq hh.1))
  rw [if_pos rfl, hs1, setNode_setNode hz] at fin
  have e1 : upd (fun i => if i = d then res else τ i) q.1 (setNode (σ q.1) q.2 x1) = upd (upd τ q.1 (setNode (σ q.1) q.2 x1)) d res := by
    funext i
    by_cases h1 : i = q.1
    · subst h1; rw [upd_same, upd_other _ _ (Ne.symm hds), upd_same]
    · by_cases h2 : i = d
      · subst h2; rw [upd_other _ _ h1, upd_same]; simp
      · rw [upd_other _ _ h1, upd_other _ _ h2, upd_other _ _ h1]; simp [h2]
  rw [e1] at fin
  exact ⟨_, he, fin⟩
end
def keepP (q : Place) : AV → AV
  | .rp p off => if p.1 == q.1 && !(p.2 == q.2) then .undef else .rp p off
  | .rsl p sz off n cap => if p.1 == q.1 then .undef else .rsl p sz off n cap
  | .agg cs => if (refsL cs).any (fun p => p.1 == q.1) then .undef else .agg cs
  | .tup cs => if (refsL cs).any (fun p => p.1 == q.1) then .undef else .tup cs
  | .fn f us cs => if (refsL us ++ refsL cs).any (fun p => p.1 == q.1) then .undef else .fn f us cs
  | .when b x => if (refs x).any (fun p => p.1 == q.1) then .undef else .when b x
  | x => x
theorem ite_or {c : Prop} [Decidable c] {x y : AV} : (if c then y else x) = x ∨ (if c then y else x) = y := by
  by_cases h : c
  · right; rw [if_pos h]
  · left; rw [if_neg h]
theorem keepP_or (q : Place) (x : AV) : keepP q x = x ∨ keepP q x = .undef := by
  cases x <;> first | exact .inl rfl | exact ite_or
theorem any_no {l : List Place} {q p : Place} (h : ¬ (l.any (fun p => p.1 == q.1)) = true) (hp : p ∈ l) (hq : p.1 = q.1) : False :=
  h (List.any_eq_true.2 ⟨p, hp, by simp [hq]⟩)
theorem keepP_refs {q : Place} {x : AV} {p : Place} (hp : p ∈ refs (keepP q x)) (h : p.1 = q.1) : p = q ∧ ∃ off, keepP q x = .rp q off := by
  cases x <;> simp only [keepP] at hp ⊢ <;> try (simp [refs] at hp; done)
  case rp p' off =>
    split at hp
    · simp [refs] at hp
    · rename_i hc
      simp only [refs, List.mem_singleton] at hp
      subst hp
      rw [if_neg hc]
      simp only [Bool.and_eq_true, beq_iff_eq, Bool.not_eq_true', beq_eq_false_iff_ne, not_and, ne_eq, Classical.not_not] at hc
      have : p = q := Prod.ext h (hc h)
      subst this
      exact ⟨rfl, off, rfl⟩
  case rsl p' sz off n cap =>
    split at hp
    · simp [refs] at hp
    · rename_i hc
      simp only [refs, List.mem_singleton] at hp
      subst hp
      simp [h] at hc
  all_goals
    split at hp
    · simp [refs] at hp
    · rename_i hc
      exact (any_no hc (by simpa [refs] using hp) h).elim
section
variable {P : Program} {N : Nat} {σ τ : Sig} {o : Oper} {d : Nat}
theorem step_IOp {f : FuncId} {args vs : List AV} {res x0 x1 : AV} {q : Place} {us : Act → List Value} (hc : ACall P f args [x0] res [x1]) (hd : o.dst = some d) (hN : d < N)
    (hrun : ∀ a w gv e β F, All N gv e σ a w → Inv e σ (valOf N gv a) w β F → (execOp a.eval o).run P w = .ok (.enter f (us a).toArray) w ∧ RepL β F w vs (0, []) 0 (us a) ∧ (us a).length = vs.length ∧ ∀ c ∈ vs, NoOwn c)
    (hz : node (σ q.1) q.2 = some x0) (hs : passL q (hole σ q) vs = args) (hr0 : refs x0 = []) (hn : noSh res = true) (hr : noRef res = true) (hn1 : noSh x1 = true) (hr1 : noRef x1 = true)
    (hlen : args.length < INH) (hds : d ≠ q.1) (hrs : (refs (σ q.1)).all (fun p => p.1 != q.1 && p.1 != d) = true) (hop0 : ∃ cs, x0 = .op cs) (hop1 : ∃ cs, x1 = .op cs)
    (hτ : ∀ i, i ≠ q.1 → τ i = purgeV d (σ i) ∨ τ i = .undef)
    (hτr : ∀ i, i ≠ q.1 → ∀ p ∈ refs (τ i), p.1 = q.1 → p = q ∧ ∃ off, τ i = .rp q off) :
    OStep P N o σ (upd (upd τ q.1 (setNode (σ q.1) q.2 x1)) d res) := by
  intro gv e a w ha K Q hK
  have ha0 := ha
  obtain ⟨hdf, hsz, β, F, hi⟩ := ha
  obtain ⟨h1, h2, h3, hno⟩ := hrun a w gv e β F ha0 hi
  have hh := hi.hole hz
  have hpass := hh.passL q vs (p' := (0, [])) h2 (fun i c hc => hno c (List.mem_of_getElem? hc))
  rw [hs] at hpass
  have hl : (us a).length = args.length := by rw [h3, ← hs, passL_eq]; simp
  have hrs' : ∀ p ∈ refs (σ q.1), p.1 ≠ q.1 ∧ p.1 ≠ d := fun p hp => by
    have := List.all_eq_true.1 hrs p hp
    simpa using this
  obtain ⟨vz, hvz⟩ := (hi.rep q.1).sub hz
  simp only [List.nil_append] at hvz
  refine upon_enter' h1 ((callIO_coreP hc hn hr hn1 hr1 hi hz hr0 (fun b arr t fz ⟨r, y, s, hy, ho, hb⟩ hh => own_fz hvz hy ho hb hh) hl (hpass) (by rw [← hs]; exact noOwn_passL _ _ _ hno) hlen hds hrs' hτ hτr hop0 hop1 (vs' := vs)).mono fun en w' ⟨v, β', he, hi'⟩ => ⟨v, he, hK _ _ ⟨?_, ?_, β', F, ?_⟩⟩)
  · rw [hd]; exact hdf
  · rw [hd, size_put]; exact hsz
  · rw [hd, valOf_put hsz hN]; exact hi'
theorem o_callIOp {f : FuncId} {xs : List Operand} {tys : Array TypeId} {vs args : List AV} {res : AV} {cs0 cs1 : List AV} {q : Place} (ho : o.op = fnCall f xs tys) (hf : hasBody P f = true) (hd : o.dst = some d) (hN : d < N) (hx : RdL N true σ xs vs)
    (hz : node (σ q.1) q.2 = some (.op cs0)) (hs : passL q (hole σ q) vs = args) (hc : ACall P f args [.op cs0] res [.op cs1])
    (hr0 : refs (.op cs0) = []) (hn : noSh res = true) (hr : noRef res = true) (hn1 : noSh (.op cs1) = true) (hr1 : noRef (.op cs1) = true) (hlen : args.length < INH) (hds : d ≠ q.1) (hrs : (refs (σ q.1)).all (fun p => p.1 != q.1 && p.1 != d) = true) :
    OStep P N o σ (upd (upd (fun i => keepP q (purgeV d (σ i))) q.1 (setNode (σ q.1) q.2 (.op cs1))) d res) :=
  step_IOp (us := fun a => xs.map a.eval) hc hd hN (fun a w gv e β F _ hi => run_fnCall ho hf hx hi) hz hs hr0 hn hr hn1 hr1 hlen hds hrs ⟨_, rfl⟩ ⟨_, rfl⟩
    (fun i _ => by
      rcases keepP_or q (purgeV d (σ i)) with h | h
      · exact .inl h
      · exact .inr h) (fun i _ p hp hpq => keepP_refs hp hpq)
end
end Go.Av
namespace Go.Av
open Go
section
variable {P : Program} {N : Nat} {A : Bool} {ty : TypeId} {σ : Sig} {x y z : Operand} {xt yt : TypeId}
theorem v_subu {m n : Int} (hx : RdTo N A σ x (.int .u64 m)) (hy : RdTo N A σ y (.int .u64 n)) (hb : A = true → 0 ≤ m - n ∧ m - n ≤ 18446744073709551615) :
  VSem P N A (.binOp .sub xt x y yt) ty σ (slots x ++ slots y) (.int .u64 (m - n)) :=
 v_bin hx hy rfl rep_int fun hA w => by simp [binOp, Op.intArith, IntWalk.u64_in _ (hb hA)]
theorem v_shlu {k : IntKind} {m : Nat} {n : Int} (hx : RdTo N A σ x (.int .u64 ((m : Nat) : Int))) (hy : RdTo N A σ y (.int k n)) (hb : A = true → 0 ≤ n ∧ n ≤ 63) :
  VSem P N A (.binOp .shl xt x y yt) ty σ (slots x ++ slots y) (.int .u64 ((m * 2 ^ n.toNat % 18446744073709551616 : Nat) : Int)) :=
 v_bin hx hy rfl rep_int fun hA w => by
  obtain ⟨h1, h2⟩ := hb hA
  have h0 : ¬ n < 0 := by omega
  have h4 : min n.toNat IntKind.u64.bits = n.toNat := by simp [IntKind.bits]; omega
  have h5 : IntKind.u64.wrap ((m : Int) * 2 ^ n.toNat) = ((m * 2 ^ n.toNat % 18446744073709551616 : Nat) : Int) := by rw [IntKind.wrap_u64]; simp
  simp only [binOp, Op.shift, h0, h4, h5, if_false]; rfl
theorem bv_nat64 {m : Nat} (h : m < 18446744073709551616) : (BitVec.ofInt 64 (m : Int)).toNat = m := by
 rw [BitVec.ofInt_natCast]
 simp only [BitVec.toNat_ofNat]
 omega
theorem v_xoru {m n : Nat} (hx : RdTo N A σ x (.int .u64 ((m : Nat) : Int))) (hy : RdTo N A σ y (.int .u64 ((n : Nat) : Int))) (hb : A = true → m < 18446744073709551616 ∧ n < 18446744073709551616) :
  VSem P N A (.binOp .xor xt x y yt) ty σ (slots x ++ slots y) (.int .u64 ((m ^^^ n : Nat) : Int)) :=
 v_bin hx hy rfl rep_int fun hA w => by
  obtain ⟨h1, h2⟩ := hb hA
  have hlt : m ^^^ n < 2 ^ 64 := Nat.xor_lt_two_pow (by omega) (by omega)
  have e : IntKind.u64.wrap ((m ^^^ n : Nat) : Int) = ((m ^^^ n : Nat) : Int) := IntWalk.u64_in _ (by omega)
  have e1 : (BitVec.ofInt IntKind.u64.bits (m : Int) ^^^ BitVec.ofInt IntKind.u64.bits (n : Int)).toNat = m ^^^ n := by
   show (BitVec.ofInt 64 (m : Int) ^^^ BitVec.ofInt 64 (n : Int)).toNat = _
   rw [BitVec.toNat_xor, bv_nat64 h1, bv_nat64 h2]
  simp only [binOp, Op.intBits, e1, e]
  simp
end
end Go.Av
namespace Go.Av
open Go
section
variable {P : Program} {N : Nat} {A : Bool} {ty : TypeId} {σ : Sig} {x y z : Operand} {xt yt : TypeId}
theorem v_andn {m n : Nat} (hx : RdTo N A σ x (.int .u64 ((m : Nat) : Int))) (hy : RdTo N A σ y (.int .u64 ((n : Nat) : Int))) (hb : A = true → m < 18446744073709551616 ∧ n < 18446744073709551616) :
  VSem P N A (.binOp .and xt x y yt) ty σ (slots x ++ slots y) (.int .u64 ((m &&& n : Nat) : Int)) :=
 v_bin hx hy rfl rep_int fun hA w => by
  obtain ⟨h1, h2⟩ := hb hA
  have hle : m &&& n ≤ m := Nat.and_le_left
  have e : IntKind.u64.wrap ((m &&& n : Nat) : Int) = ((m &&& n : Nat) : Int) := IntWalk.u64_in _ (by omega)
  have e1 : (BitVec.ofInt IntKind.u64.bits (m : Int) &&& BitVec.ofInt IntKind.u64.bits (n : Int)).toNat = m &&& n := by
   show (BitVec.ofInt 64 (m : Int) &&& BitVec.ofInt 64 (n : Int)).toNat = _
   rw [BitVec.toNat_and, bv_nat64 h1, bv_nat64 h2]
  simp only [binOp, Op.intBits, e1, e]
  simp
end
end Go.Av
namespace Go.Av
open Go
section
variable {P : Program} {N : Nat} {σ : Sig} {Φ : Exit → Sig → Prop} {c c' : Code}
theorem a_join {X : Type} (lift : X → Sig) (G : X → Prop) (h : ACode P N c σ (fun x s => match x with | .normal => ∃ y, Ent s (lift y) ∧ G y | x => Φ x s))
    (h' : ∀ y, G y → ACode P N c' (lift y) Φ) : ACode P N (.seq c c') σ Φ := fun gv e a w ha Q hQ =>
  sw_seq (h gv e a w ha _ fun x a' w' s hx ha' => by
    cases x <;> simp only [Exit.then] <;> first | (obtain ⟨y, hy, hG⟩ := hx; exact h' y hG gv e a' w' (hy.all ha') Q hQ) | exact hQ _ _ _ _ hx ha')
theorem RepL.take {β : Place → Option (Nat × Nat)} {F : Nat → Prop} {w : World} : ∀ {cs ds : List AV} {p : Place} {j : Nat} {vs : List Value}, RepL β F w (cs ++ ds) p j vs → RepL β F w cs p j vs
  | [], _, _, _, _, _ => by simp [RepL]
  | c :: cs, ds, p, j, [], h => by simp [RepL] at h
  | c :: cs, ds, p, j, v :: vs, h => by
    simp only [List.cons_append, RepL] at h ⊢
    exact ⟨h.1, RepL.take h.2⟩
theorem noRefL_left {cs ds : List AV} (h : noRefL (cs ++ ds) = true) : noRefL cs = true := by
  induction cs with
  | nil => rfl
  | cons c cs ih =>
    simp only [List.cons_append, noRefL, Bool.and_eq_true] at h ⊢
    exact ⟨h.1, ih h.2⟩
theorem Weak.osl_take {sz n n' : Nat} {cap : Option Nat} {cs cs' ds : List AV} (h : cs = cs' ++ ds) (hn : n = n') : Weak (.osl sz cs n cap) (.osl sz cs' n' none) := by
  subst h hn
  refine ⟨fun β F w p v hv => ?_, fun r z hz ho => ?_⟩
  · simp only [Rep] at hv ⊢
    rcases hv with ⟨h1, h2, h3, h4, _⟩ | ⟨h1, b, capv, arr, t, h2, h3, h4, _, h5, h6, h7⟩
    · exact .inl ⟨h1, h2, (List.append_eq_nil_iff.1 h3).1, h4, fun c hc => by cases hc⟩
    · exact .inr ⟨noRefL_left h1, b, capv, arr, t, h2, h3, h4, (fun c hc => by cases hc), h5, h6, h7.take⟩
  · cases r with
    | nil => exact ⟨_, Eq.refl _, Eq.refl _⟩
    | cons i r =>
      simp only [node, kids] at hz ⊢
      cases hi : cs'[i]? with
      | none => rw [hi] at hz; cases hz
      | some y =>
        rw [hi] at hz
        have : (cs' ++ ds)[i]? = some y := by
          rw [List.getElem?_append_left (List.getElem?_eq_some_iff.1 hi).1, hi]
        rw [this]
        exact ⟨z, hz, ho⟩
end
end Go.Av
namespace Go.Av
open Go
section
variable {P : Program} {N : Nat} {A : Bool} {ty xt : TypeId} {σ : Sig} {x : Operand}
theorem v_negA {n : Int} (hx : RdTo N A σ x (.int .i64 n)) : VSem P N A (.unOp .neg xt x) ty σ (slots x) (.int .i64 (IntKind.i64.wrap (-n))) :=
  ⟨noOwn_scalar rfl, fun hA σ' hD gv e ac w β F hi p o' ho _ => by
    have ex := hx.rep hA hD hi p
    simp only [Rep] at ex
    exact ⟨.int .i64 (IntKind.i64.wrap (-n)), by simp [execOp, ho, ex, Op.unary, Op.intArith], by simp [Rep]⟩⟩
end
end Go.Av
namespace Go.Av
open Go Go.Sort
def dedN (d : Array Int) : Nat → List Int
  | 0 => []
  | i + 1 => if 0 < i ∧ d[i]! = d[i - 1]! then dedN d i else dedN d i ++ [d[i]!]
section
variable {d d' : Array Int} {n k i j : Nat}
theorem dedN_same (h0 : 0 < i) (h : d[i]! = d[i - 1]!) : dedN d (i + 1) = dedN d i := by rw [dedN, if_pos ⟨h0, h⟩]
theorem dedN_new (h : ¬ (0 < i ∧ d[i]! = d[i - 1]!)) : dedN d (i + 1) = dedN d i ++ [d[i]!] := by rw [dedN, if_neg h]
theorem take_snoc (h : i < d.size) : d.toList.take (i + 1) = d.toList.take i ++ [d[i]!] := by
  rw [List.take_succ_eq_append_getElem (by simpa using h), Array.getElem_toList, getElem!_pos d i h]
theorem ded_grow (h : i < d.size) (hi : dedN d i = d.toList.take i) (hd : ¬ (0 < i ∧ d[i]! = d[i - 1]!)) : dedN d (i + 1) = d.toList.take (i + 1) := by
  rw [dedN_new hd, take_snoc h, hi]
theorem ded_one (h : 0 < d.size) : dedN d 1 = d.toList.take 1 := by
  have := ded_grow (i := 0) h rfl (by simp)
  exact this
theorem ded_all (hd : d.size = n) (h : dedN d n = d.toList.take n) : icells (dedN d n) = acells d := by
  unfold acells; rw [h, List.take_of_length_le (by simp; omega)]
theorem ded_all_len (hd : d.size = n) (h : dedN d n = d.toList.take n) : (dedN d n).length = n := by
  rw [h, List.length_take]; simp; omega
theorem ded_few (hd : d.size = n) (h : n < 2) : dedN d n = d.toList.take n := by
  rcases Nat.eq_zero_or_pos n with h0 | h0
  · rw [h0]; rfl
  · rw [show n = 1 by omega]; exact ded_one (by omega)
def Cpt (d : Array Int) (n k0 k2 k : Nat) (d' : Array Int) : Prop :=
  1 ≤ k2 ∧ k0 + k2 ≤ n ∧ d'.size = n ∧ k < k0 + k2 ∧ d'.toList.take k = dedN d (k0 + k2) ∧ ∀ j, k0 + k2 ≤ j + 1 → d'[j]! = d[j]!
theorem Cpt.first (hd : d.size = n) (h0 : 0 < k) (hk : k < n) (h : dedN d k = d.toList.take k) (he : d[k]! = d[k - 1]!) : Cpt d n k 1 k d :=
  ⟨Nat.le_refl _, hk, hd, Nat.lt_succ_self _, by rw [dedN_same h0 he, h], fun _ _ => rfl⟩
theorem Cpt.same {k0 k2 : Nat} (h : Cpt d n k0 k2 k d') (hi : k0 + k2 < n) (he : d'[k0 + k2]! = d'[k0 + k2 - 1]!) : Cpt d n k0 (k2 + 1) k d' := by
  obtain ⟨h1, h2, h3, h4, h5, h6⟩ := h
  have e : k0 + (k2 + 1) = (k0 + k2) + 1 := rfl
  refine ⟨by omega, by omega, h3, by omega, ?_, fun j hj => h6 j (by omega)⟩
  rw [e, dedN_same (by omega) (by rw [← h6 (k0 + k2) (by omega), ← h6 (k0 + k2 - 1) (by omega)]; exact he), h5]
theorem set_get {i j : Nat} {v : Int} (hi : i < d.size) : (d.set! i v)[j]! = if i = j then v else d[j]! := by
  by_cases hj : j < d.size
  · rw [getElem!_pos _ j (by simpa using hj), getElem!_pos d j hj]
    simp only [Array.set!_eq_setIfInBounds]
    rw [Array.getElem_setIfInBounds (by simpa using hj)]
  · rw [getElem!_neg _ j (by simpa using hj), getElem!_neg d j hj, if_neg (by omega)]
theorem Cpt.new {k0 k2 : Nat} (h : Cpt d n k0 k2 k d') (hi : k0 + k2 < n) (he : ¬ d'[k0 + k2]! = d'[k0 + k2 - 1]!) : Cpt d n k0 (k2 + 1) (k + 1) (d'.set! k d'[k0 + k2]!) := by
  obtain ⟨h1, h2, h3, h4, h5, h6⟩ := h
  have e : k0 + (k2 + 1) = (k0 + k2) + 1 := rfl
  refine ⟨by omega, by omega, by simpa using h3, by omega, ?_, fun j hj => ?_⟩
  · rw [e, dedN_new (by rw [← h6 (k0 + k2) (by omega), ← h6 (k0 + k2 - 1) (by omega)]; exact fun h => he h.2), ← h5, take_snoc (by simp; omega), set_get (by omega), if_pos rfl, ← h6 (k0 + k2) (by omega)]
    congr 1
    simp only [Array.set!_eq_setIfInBounds, Array.toList_setIfInBounds]
    rw [List.take_set_of_le (Nat.le_refl _)]
  · rw [set_get (by omega), if_neg (by omega)]; exact h6 j (by omega)
theorem setL_rep {cs : List AV} {z : AV} : ∀ {m off : Nat}, off + m = cs.length → setL cs off (List.replicate m z) = cs.take off ++ List.replicate m z := by
  intro m off h
  apply List.ext_getElem?
  intro i
  rw [setL_get (by simp; omega), List.length_replicate]
  by_cases h1 : off ≤ i ∧ i < off + m
  · rw [if_pos h1, List.getElem?_append_right (by rw [List.length_take]; omega), List.length_take, show min off cs.length = off by omega]
  · rw [if_neg h1]
    by_cases h2 : i < off
    · rw [List.getElem?_append_left (by rw [List.length_take]; omega), List.getElem?_take_of_lt h2]
    · rw [List.getElem?_eq_none (by omega), List.getElem?_eq_none (by simp; omega)]
theorem Cpt.done {k0 k2 : Nat} (h : Cpt d n k0 k2 k d') (he : k0 + k2 = n) : setL (acells d') (0 + k * 1) (List.replicate (n - k) (.int .i64 0)) = icells (dedN d n) ++ List.replicate (n - k) (.int .i64 0) ∧ k = (dedN d n).length := by
  obtain ⟨h1, h2, h3, h4, h5, h6⟩ := h
  rw [he] at h5
  refine ⟨?_, ?_⟩
  · rw [Nat.zero_add, Nat.mul_one, setL_rep (by rw [acells_length]; omega), ← h5]
    congr 1
    unfold acells icells; rw [List.map_take]
  · rw [← h5, List.length_take]; simp; omega
theorem acells_set (d : Array Int) (i : Nat) (v : Int) : (acells d).set i (.int .i64 v) = acells (d.set! i v) := by
  unfold acells; rw [icells_set]; simp
end
end Go.Av
namespace Go.Av
open Go Go.Sort
def dsrt (l : List Int) : List Int := dedN (Go.Sort.sort (ltc cfLit) l.toArray) l.length
def oppB (c : List Int) (i : Nat) : Bool := decide (gd c i = IntKind.i64.wrap (-(gd c (i - 1))))
def clR (l : List Int) : Option (List Int) := if (List.range (dsrt l).length).any (fun i => decide (1 ≤ i) && oppB (dsrt l) i) then none else some (dsrt l)
theorem clR_none {l : List Int} {i : Nat} (hi : i < (dsrt l).length) (h1 : 1 ≤ i) (h : oppB (dsrt l) i = true) : clR l = none := by
  unfold clR; rw [if_pos]
  rw [List.any_eq_true]; exact ⟨i, by simpa using hi, by simp [h1, h]⟩
theorem clR_some {l : List Int} (h : ∀ i, 1 ≤ i → i < (dsrt l).length → oppB (dsrt l) i = false) : clR l = some (dsrt l) := by
  unfold clR; rw [if_neg]
  rw [Bool.not_eq_true, List.any_eq_false]; intro i hi
  simp only [List.mem_range] at hi
  simp only [Bool.and_eq_true, decide_eq_true_eq, not_and]
  intro h1; rw [h i h1 hi]; decide
theorem sort_size (l : List Int) : (Go.Sort.sort (ltc cfLit) l.toArray).size = l.length := by
  have := (pdq_rec (l := bitsLen l.toArray.size) (wb := true) (wp := true) cfLit_swo (a := 0) (b := l.toArray.size) (d := l.toArray) (Nat.zero_le _) (Nat.le_refl _) (Or.inl rfl)).1.1
  simpa [Go.Sort.sort] using this
theorem dedN_le (d : Array Int) : ∀ i, (dedN d i).length ≤ i
  | 0 => Nat.le_refl _
  | i + 1 => by
    rw [dedN]; split
    · have := dedN_le d i; omega
    · rw [List.length_append]; have := dedN_le d i; simp; omega
end Go.Av
namespace Go.Av
open Go
def SmI (c : List Int) : Prop := ∀ j, -4611686018427387904 ≤ gd c j ∧ gd c j ≤ 4611686018427387904
theorem gd_mem {c : List Int} {j : Nat} (h : j < c.length) : gd c j ∈ c := by
  unfold gd; rw [List.getElem?_eq_getElem h]; exact List.getElem_mem h
theorem gd_out {c : List Int} {j : Nat} (h : c.length ≤ j) : gd c j = 0 := by
  unfold gd; rw [List.getElem?_eq_none h]; rfl
theorem SmI.of {c : List Int} (h : ∀ x ∈ c, -4611686018427387904 ≤ x ∧ x ≤ 4611686018427387904) : SmI c := fun j => by
  rcases Nat.lt_or_ge j c.length with hj | hj
  · exact h _ (gd_mem hj)
  · rw [gd_out hj]; omega
theorem mem_gd {c : List Int} {x : Int} (h : x ∈ c) : ∃ j, j < c.length ∧ gd c j = x := by
  obtain ⟨j, hj, he⟩ := List.getElem_of_mem h
  exact ⟨j, hj, by unfold gd; rw [List.getElem?_eq_getElem hj]; exact he⟩
theorem SmI.mem {c : List Int} (h : SmI c) {x : Int} (hx : x ∈ c) : -4611686018427387904 ≤ x ∧ x ≤ 4611686018427387904 := by
  obtain ⟨j, _, rfl⟩ := mem_gd hx; exact h j
theorem icells_drop (c : List Int) (k : Nat) : (icells c).drop k = icells (c.drop k) := by simp [icells]
theorem icells_append (a b : List Int) : icells (a ++ b) = icells a ++ icells b := by simp [icells]
theorem icells_take (c : List Int) (k : Nat) : (icells c).take k = icells (c.take k) := by simp [icells]
def putL : List Int → Int → List Int
  | [], l => [l]
  | x :: c, l => if vr x < vr l then x :: putL c l else l :: x :: c
theorem putL_length : ∀ (c : List Int) (l : Int), (putL c l).length = c.length + 1
  | [], _ => rfl
  | x :: c, l => by
    rw [putL]; split
    · simp [putL_length c l]
    · rfl
theorem mem_putL {x l : Int} : ∀ {c : List Int}, x ∈ putL c l ↔ x = l ∨ x ∈ c
  | [] => by simp [putL]
  | y :: c => by
    rw [putL]; split
    · simp only [List.mem_cons, mem_putL (c := c)]
      constructor
      · rintro (h | h | h) <;> simp [h]
      · rintro (h | h | h) <;> simp [h]
    · simp only [List.mem_cons]
theorem SmI.put {c : List Int} {l : Int} (h : SmI c) (hl : -4611686018427387904 ≤ l ∧ l ≤ 4611686018427387904) : SmI (putL c l) := SmI.of fun x hx => by
  rcases mem_putL.1 hx with rfl | hx
  · exact hl
  · exact h.mem hx
theorem drop_gd {c : List Int} {i : Nat} (h : i < c.length) : c.drop i = gd c i :: c.drop (i + 1) := by
  rw [List.drop_eq_getElem_cons h]; unfold gd; rw [List.getElem?_eq_getElem h]; rfl
theorem take_gd {c : List Int} {i : Nat} (h : i < c.length) : c.take (i + 1) = c.take i ++ [gd c i] := by
  rw [List.take_succ_eq_append_getElem h]; unfold gd; rw [List.getElem?_eq_getElem h]; rfl
theorem put_more {c : List Int} {l : Int} {i : Nat} (h : i < c.length) (hv : vr (gd c i) < vr l) : c.take (i + 1) ++ putL (c.drop (i + 1)) l = c.take i ++ putL (c.drop i) l := by
  rw [drop_gd h, putL, if_pos hv, take_gd h, List.append_assoc]; rfl
theorem put_stop {c : List Int} {l : Int} {i : Nat} (h : i < c.length → ¬ vr (gd c i) < vr l) : putL (c.drop i) l = l :: c.drop i := by
  rcases Nat.lt_or_ge i c.length with hi | hi
  · rw [drop_gd hi, putL, if_neg (h hi)]
  · rw [List.drop_eq_nil_of_le hi]; rfl
def joinL : List Int → List Int → Option (List Int)
  | out, [] => some out
  | out, x :: b => if -x ∈ out then none else if x ∈ out then joinL out b else joinL (putL out x) b
end Go.Av
namespace Go.Av
open Go Go.Sort
def Strict (c : List Int) : Prop := c.Pairwise fun a b => vr a < vr b
theorem strict_eq : ∀ {c d : List Int}, Strict c → Strict d → (∀ x, x ∈ c ↔ x ∈ d) → c = d
  | [], [], _, _, _ => rfl
  | [], y :: d, _, _, h => by have := (h y).2 (by simp); simp at this
  | x :: c, [], _, _, h => by have := (h x).1 (by simp); simp at this
  | x :: c, y :: d, hc, hd, h => by
    simp only [Strict, List.pairwise_cons] at hc hd
    have hxy : x = y := by
      rcases List.mem_cons.1 ((h x).1 (by simp)) with h1 | h1
      · exact h1
      · rcases List.mem_cons.1 ((h y).2 (by simp)) with h2 | h2
        · exact h2.symm
        · have := hd.1 x h1; have := hc.1 y h2; omega
    subst hxy
    congr 1
    refine strict_eq hc.2 hd.2 fun z => ?_
    have hz := h z
    simp only [List.mem_cons] at hz
    constructor
    · intro hm
      rcases hz.1 (.inr hm) with rfl | h1
      · have := hc.1 z hm; omega
      · exact h1
    · intro hm
      rcases hz.2 (.inr hm) with rfl | h1
      · have := hd.1 z hm; omega
      · exact h1
theorem strict_opp {c : List Int} (h : Strict c) {x : Int} (h0 : x ≠ 0) (h1 : x ∈ c) (h2 : -x ∈ c) : False := by
  obtain ⟨i, hi, rfl⟩ := List.getElem_of_mem h1
  obtain ⟨j, hj, he⟩ := List.getElem_of_mem h2
  have hp := List.pairwise_iff_getElem.1 h
  have hv : vr (-c[i]) = vr c[i] := by unfold vr; split <;> split <;> omega
  rcases Nat.lt_trichotomy i j with hlt | rfl | hlt
  · have := hp i j hi hj hlt; rw [he, hv] at this; omega
  · omega
  · have := hp j i hj hi hlt; rw [he, hv] at this; omega
theorem vr_same {x y : Int} (h : vr x = vr y) : x = y ∨ x = -y := by unfold vr at h; split at h <;> split at h <;> omega
theorem strict_put {l : Int} : ∀ {c : List Int}, Strict c → (∀ y ∈ c, vr y ≠ vr l) → Strict (putL c l)
  | [], _, _ => by simp [putL, Strict]
  | y :: c, hc, h => by
    simp only [Strict, List.pairwise_cons] at hc
    rw [putL]; split
    · rename_i hlt
      simp only [Strict, List.pairwise_cons]
      refine ⟨fun z hz => ?_, strict_put hc.2 fun z hz => h z (by simp [hz])⟩
      rcases mem_putL.1 hz with rfl | hz
      · exact hlt
      · exact hc.1 z hz
    · rename_i hlt
      simp only [Strict, List.pairwise_cons]
      have := h y (by simp)
      refine ⟨fun z hz => ?_, hc⟩
      rcases List.mem_cons.1 hz with rfl | hz
      · omega
      · have := hc.1 z hz; omega
theorem join_some : ∀ {b out o : List Int}, Strict out → joinL out b = some o → Strict o ∧ ∀ x, x ∈ o ↔ x ∈ out ∨ x ∈ b
  | [], out, o, hs, h => by
    simp only [joinL, Option.some.injEq] at h; subst h; exact ⟨hs, by simp⟩
  | y :: b, out, o, hs, h => by
    simp only [joinL] at h
    split at h
    · cases h
    · rename_i h1
      split at h
      · rename_i h2
        obtain ⟨g1, g2⟩ := join_some hs h
        refine ⟨g1, fun x => ?_⟩
        rw [g2 x]; simp only [List.mem_cons]
        constructor
        · rintro (h | h) <;> simp [h]
        · rintro (h | rfl | h) <;> simp [*]
      · rename_i h2
        obtain ⟨g1, g2⟩ := join_some (strict_put hs fun z hz he => by
          rcases vr_same he with rfl | rfl
          · exact h2 hz
          · exact h1 hz) h
        refine ⟨g1, fun x => ?_⟩
        rw [g2 x, mem_putL]; simp only [List.mem_cons]
        constructor
        · rintro ((h | h) | h) <;> simp [h]
        · rintro (h | h | h) <;> simp [h]
theorem join_none : ∀ {b out : List Int}, joinL out b = none → ∃ x, x ∈ out ++ b ∧ -x ∈ out ++ b
  | [], out, h => by simp [joinL] at h
  | y :: b, out, h => by
    simp only [joinL] at h
    split at h
    · rename_i h1; exact ⟨y, by simp, by simp [h1]⟩
    · split at h
      · obtain ⟨x, hx, hx'⟩ := join_none h
        refine ⟨x, ?_, ?_⟩
        · rcases List.mem_append.1 hx with h | h <;> simp [h]
        · rcases List.mem_append.1 hx' with h | h <;> simp [h]
      · obtain ⟨x, hx, hx'⟩ := join_none h
        refine ⟨x, ?_, ?_⟩
        · rcases List.mem_append.1 hx with h | h
          · rcases mem_putL.1 h with h | h <;> simp [h]
          · simp [h]
        · rcases List.mem_append.1 hx' with h | h
          · rcases mem_putL.1 h with h | h <;> simp [h]
          · simp [h]
theorem sort_facts {lt : Int → Int → Bool} (hS : SWO lt) (L : List Int) : (∀ x, x ∈ (Go.Sort.sort lt L.toArray).toList ↔ x ∈ L) ∧ SortedIn lt 0 L.length (Go.Sort.sort lt L.toArray) ∧ (Go.Sort.sort lt L.toArray).size = L.length := by
  obtain ⟨⟨h1, _, h3⟩, h4⟩ := pdq_rec (l := bitsLen L.toArray.size) (wb := true) (wp := true) hS (a := 0) (b := L.toArray.size) (d := L.toArray) (Nat.zero_le _) (Nat.le_refl _) (Or.inl rfl)
  have hsz : (Go.Sort.sort lt L.toArray).size = L.length := by unfold Go.Sort.sort; rw [h1]; simp
  refine ⟨fun x => ?_, ?_, hsz⟩
  · have e1 : (Go.Sort.sort lt L.toArray).extract 0 L.toArray.size = Go.Sort.sort lt L.toArray := by
      rw [show L.toArray.size = (Go.Sort.sort lt L.toArray).size by rw [hsz]; simp]; simp
    have := h3.mem_iff (a := x)
    change x ∈ ((Go.Sort.sort lt L.toArray).extract 0 L.toArray.size).toList ↔ _ at this
    rw [e1] at this
    rw [this]; simp
  · simpa [Go.Sort.sort] using h4
theorem dedN_mem {d : Array Int} {x : Int} : ∀ {i : Nat}, x ∈ dedN d i ↔ ∃ j, j < i ∧ d[j]! = x
  | 0 => by simp [dedN]
  | i + 1 => by
    rw [dedN]; split
    · rename_i h
      rw [dedN_mem (i := i)]
      constructor
      · rintro ⟨j, h1, h2⟩; exact ⟨j, by omega, h2⟩
      · rintro ⟨j, h1, h2⟩
        by_cases hj : j = i
        · subst hj; exact ⟨j - 1, by omega, by rw [← h.2, h2]⟩
        · exact ⟨j, by omega, h2⟩
    · rw [List.mem_append, dedN_mem (i := i), List.mem_singleton]
      constructor
      · rintro (⟨j, h1, h2⟩ | h)
        · exact ⟨j, by omega, h2⟩
        · exact ⟨i, by omega, h.symm⟩
      · rintro ⟨j, h1, h2⟩
        by_cases hj : j = i
        · subst hj; exact .inr h2.symm
        · exact .inl ⟨j, by omega, h2⟩
theorem dedN_strict {lt : Int → Int → Bool} (hS : SWO lt) (ht : ∀ x y, lt x y = false → lt y x = false → x = y) {d : Array Int} {n : Nat} (hs : SortedIn lt 0 n d) : ∀ {i : Nat}, i ≤ n → (dedN d i).Pairwise fun a b => lt a b = true
  | 0, _ => by simp [dedN]
  | i + 1, hi => by
    rw [dedN]; split
    · exact dedN_strict hS ht hs (by omega)
    · rename_i h
      refine List.pairwise_append.2 ⟨dedN_strict hS ht hs (by omega), by simp, fun a ha b hb => ?_⟩
      rw [List.mem_singleton] at hb; subst hb
      obtain ⟨j, hj, rfl⟩ := dedN_mem.1 ha
      cases hc : lt d[j]! d[i]! with
      | true => rfl
      | false =>
        exfalso
        have e := ht _ _ hc (hs j i (by omega) hj (by omega))
        refine h ⟨by omega, ?_⟩
        by_cases hj1 : j = i - 1
        · rw [← hj1]; exact e.symm
        · refine ht _ _ (hs (i - 1) i (by omega) (by omega) (by omega)) ?_
          rw [← e]; exact hs j (i - 1) (by omega) (by omega) (by omega)
theorem cf2_total {f g : Int → Int} (hg : ∀ x y, g x = g y → x = y) {x y : Int} (h1 : ltc (cf2 f g) x y = false) (h2 : ltc (cf2 f g) y x = false) : x = y := by
  rw [cf2_lt, decide_eq_false_iff_not] at h1 h2
  exact hg _ _ (by omega)
theorem absA_of {x : Int} (h : -4611686018427387904 ≤ x ∧ x ≤ 4611686018427387904) : absA x = vr x := by
  unfold absA vr
  rw [IntWalk.i64_in _ (by omega)]; split <;> omega
theorem dsrt_mem {L : List Int} {x : Int} : x ∈ dsrt L ↔ x ∈ L := by
  obtain ⟨h1, _, h3⟩ := sort_facts cfLit_swo L
  rw [← h1 x]; unfold dsrt
  rw [dedN_mem]
  constructor
  · rintro ⟨j, hj, rfl⟩
    rw [getElem!_pos _ j (by omega)]; exact Array.getElem_mem_toList _
  · intro hx
    obtain ⟨j, hj, he⟩ := List.getElem_of_mem hx
    have hj' : j < (Go.Sort.sort (ltc cfLit) L.toArray).size := by simpa using hj
    exact ⟨j, by omega, by rw [getElem!_pos _ j hj']; simpa using he⟩
theorem dsrt_lt (L : List Int) : (dsrt L).Pairwise fun a b => ltc cfLit a b = true :=
  dedN_strict cfLit_swo (fun x y => cf2_total (fun a b h => by simp at h; omega)) (sort_facts cfLit_swo L).2.1 (Nat.le_refl _)
theorem dsrt_strict {L : List Int} (hs : SmI L) (h : ∀ i, 1 ≤ i → i < (dsrt L).length → oppB (dsrt L) i = false) : Strict (dsrt L) := by
  have hp := List.pairwise_iff_getElem.1 (dsrt_lt L)
  have hsm : ∀ x ∈ dsrt L, absA x = vr x := fun x hx => absA_of (hs.mem (dsrt_mem.1 hx))
  have step : ∀ i (h1 : i + 1 < (dsrt L).length), vr ((dsrt L)[i]'(by omega)) < vr (dsrt L)[i + 1] := fun i h1 => by
    have h2 := hp i (i + 1) (by omega) h1 (by omega)
    have ho := h (i + 1) (by omega) h1
    unfold cfLit at h2
    rw [cf2_lt, decide_eq_true_iff, hsm _ (List.getElem_mem _), hsm _ (List.getElem_mem _)] at h2
    rcases h2 with h2 | ⟨h2, h3⟩
    · exact h2
    · exfalso
      unfold oppB at ho
      rw [decide_eq_false_iff_not] at ho
      apply ho
      have e1 : gd (dsrt L) (i + 1) = (dsrt L)[i + 1] := by unfold gd; rw [List.getElem?_eq_getElem h1]; rfl
      have e2 : gd (dsrt L) (i + 1 - 1) = (dsrt L)[i]'(by omega) := by unfold gd; rw [show i + 1 - 1 = i by omega, List.getElem?_eq_getElem (by omega)]; rfl
      have hb := hs.mem (dsrt_mem.1 (List.getElem_mem (l := dsrt L) (n := i) (by omega)))
      rw [e1, e2, IntWalk.i64_in _ (by omega)]
      rcases vr_same h2 with h4 | h4 <;> omega
  refine List.pairwise_iff_getElem.2 fun i j hi hj hij => ?_
  obtain ⟨k, rfl⟩ : ∃ k, j = i + 1 + k := ⟨j - (i + 1), by omega⟩
  clear hij
  induction k with
  | zero => exact step i hj
  | succ k ih =>
    have h1 := ih (by omega)
    have h2 := step (i + 1 + k) hj
    have : i + 1 + (k + 1) = i + 1 + k + 1 := by omega
    simp only [this]
    omega
theorem clR_join {out b : List Int} (hs : SmI (out ++ b)) (h0 : ∀ x ∈ out ++ b, x ≠ 0) (ho : Strict out) : clR (out ++ b) = joinL out b := by
  by_cases hz : ∃ i, 1 ≤ i ∧ i < (dsrt (out ++ b)).length ∧ oppB (dsrt (out ++ b)) i = true
  · obtain ⟨i, h1, h2, h3⟩ := hz
    rw [clR_none h2 h1 h3]
    cases hj : joinL out b with
    | none => rfl
    | some o =>
      exfalso
      obtain ⟨g1, g2⟩ := join_some ho hj
      have m1 : gd (dsrt (out ++ b)) i ∈ out ++ b := dsrt_mem.1 (gd_mem h2)
      have m2 : gd (dsrt (out ++ b)) (i - 1) ∈ out ++ b := dsrt_mem.1 (gd_mem (by omega))
      unfold oppB at h3
      rw [decide_eq_true_iff] at h3
      have hb := hs.mem m2
      rw [IntWalk.i64_in _ (by omega)] at h3
      rw [h3] at m1
      exact strict_opp g1 (h0 _ m2) ((g2 _).2 (List.mem_append.1 m2)) ((g2 _).2 (List.mem_append.1 m1))
  · have hno : ∀ i, 1 ≤ i → i < (dsrt (out ++ b)).length → oppB (dsrt (out ++ b)) i = false := fun i h1 h2 => by
      cases hc : oppB (dsrt (out ++ b)) i with
      | false => rfl
      | true => exact absurd ⟨i, h1, h2, hc⟩ hz
    have hst := dsrt_strict hs hno
    rw [clR_some hno]
    cases hj : joinL out b with
    | none =>
      exfalso
      obtain ⟨x, hx, hx'⟩ := join_none hj
      exact strict_opp hst (h0 x hx) (dsrt_mem.2 hx) (dsrt_mem.2 hx')
    | some o =>
      obtain ⟨g1, g2⟩ := join_some ho hj
      congr 1
      exact strict_eq hst g1 fun x => by rw [dsrt_mem, g2 x, List.mem_append]
theorem clB_strict {vars : Int} {c : List Int} (h : clB vars c = true) : Strict c := by
  obtain ⟨_, h2⟩ := clB_spec h
  have step : ∀ i (h1 : i + 1 < c.length), vr (c[i]'(by omega)) < vr c[i + 1] := fun i h1 => by
    have := h2 (i + 1) h1
    simp only [okC, Bool.and_eq_true, Bool.or_eq_true, decide_eq_true_eq] at this
    have e1 : gd c (i + 1) = c[i + 1] := by unfold gd; rw [List.getElem?_eq_getElem h1]; rfl
    have e2 : gd c (i + 1 - 1) = c[i]'(by omega) := by unfold gd; rw [show i + 1 - 1 = i by omega, List.getElem?_eq_getElem (by omega)]; rfl
    rw [e1, e2] at this
    rcases this.2 with h | h
    · omega
    · exact h
  refine List.pairwise_iff_getElem.2 fun i j hi hj hij => ?_
  obtain ⟨k, rfl⟩ : ∃ k, j = i + 1 + k := ⟨j - (i + 1), by omega⟩
  clear hij
  induction k with
  | zero => exact step i hj
  | succ k ih =>
    have h1 := ih (by omega)
    have h2 := step (i + 1 + k) hj
    have : i + 1 + (k + 1) = i + 1 + k + 1 := by omega
    simp only [this]
    omega
theorem clB_mem {vars : Int} {c : List Int} (h : clB vars c = true) {x : Int} (hx : x ∈ c) : litB vars x = true ∧ -12 ≤ x ∧ x ≤ 12 ∧ x ≠ 0 := by
  obtain ⟨j, hj, rfl⟩ := mem_gd hx
  have h1 := clB_lit h hj
  have h2 := (clB_spec h).1
  have h3 := litB_spec.1 h1
  exact ⟨h1, by omega, by omega, h3.2⟩
theorem clB_sm {vars : Int} {c : List Int} (h : clB vars c = true) : SmI c := SmI.of fun x hx => by have := clB_mem h hx; omega
theorem clB_len {vars : Int} {c : List Int} (h : clB vars c = true) : c.length ≤ 12 := by
  have hs := clB_strict h
  have hp := List.pairwise_iff_getElem.1 hs
  have key : ∀ i (hi : i < c.length), (i : Int) + 1 ≤ vr c[i] := by
    intro i
    induction i with
    | zero => intro hi; have := (clB_mem h (List.getElem_mem hi)).2.2.2; unfold vr; split <;> omega
    | succ i ih => intro hi; have h1 := ih (by omega); have h2 := hp i (i + 1) (by omega) hi (by omega); omega
  rcases Nat.lt_or_ge 12 c.length with hlt | hge
  · have h1 := key 12 hlt
    have h2 := clB_mem h (List.getElem_mem hlt)
    unfold vr at h1; split at h1 <;> omega
  · exact hge
end Go.Av
namespace Go.Av
open Go
def updL (σ : Sig) : List (Nat × AV) → Sig
  | [] => σ
  | (d, x) :: us => updL (upd σ d x) us
abbrev slotsU (us : List (Nat × AV)) : List Nat := us.map (·.1)
theorem updL_not {i : Nat} : ∀ {us : List (Nat × AV)} {σ : Sig}, i ∉ slotsU us → updL σ us i = σ i
  | [], _, _ => rfl
  | (d, x) :: us, σ, h => by
    simp only [slotsU, List.map_cons, List.mem_cons, not_or] at h
    rw [updL, updL_not (us := us) h.2, upd_other _ _ h.1]
theorem updL_congr {i : Nat} : ∀ {us : List (Nat × AV)} {σ σ' : Sig}, σ i = σ' i → updL σ us i = updL σ' us i
  | [], _, _, h => h
  | (d, x) :: us, σ, σ', h => by
    simp only [updL]
    refine updL_congr ?_
    simp only [upd]; split
    · rfl
    · exact h
theorem updL_in {i : Nat} : ∀ {us : List (Nat × AV)} {σ σ' : Sig}, i ∈ slotsU us → updL σ us i = updL σ' us i
  | [], _, _, h => by simp at h
  | (d, x) :: us, σ, σ', h => by
    simp only [updL]
    by_cases hi : i = d
    · exact updL_congr (by simp [upd, hi])
    · exact updL_in (by simp only [slotsU, List.map_cons, List.mem_cons] at h; exact h.resolve_left hi)
theorem updL_cases {i : Nat} : ∀ {us : List (Nat × AV)} {σ : Sig}, updL σ us i = σ i ∨ ∃ x, (i, x) ∈ us ∧ updL σ us i = x
  | [], _ => .inl rfl
  | (d, x) :: us, σ => by
    simp only [updL]
    rcases updL_cases (i := i) (us := us) (σ := upd σ d x) with h | ⟨y, h1, h2⟩
    · by_cases hi : i = d
      · subst hi; exact .inr ⟨x, by simp, by rw [h, upd_same]⟩
      · exact .inl (by rw [h, upd_other _ _ hi])
    · exact .inr ⟨y, by simp [h1], h2⟩
def YldX (P : Program) (N : Nat) (ops : Array Oper) (o : Oper) (σ0 : Sig) (D : List Nat) (us : List (Nat × AV)) (ds : List Nat) : Prop :=
  ∀ σ : Sig, (∀ i ∈ D, σ i = σ0 i) → ∀ (gv : Nat → Value) (e : Ctx) (a : Act) (w : World), All N gv e σ a w → ∀ (K : Act → World → Prop) (Q : Exit → Act → World → Prop),
    (∀ a' w', All N gv e (updL (fun i => purgeD ds (σ i)) us) a' w' → K a' w') → if Region.wanted o (yielded ops a.tmps) then o.wp P a w K Q else K (a.put o.dst undef) w
section mixing
def mixX (σ : Sig) : List (List (Nat × AV)) → (Nat → Bool) → Sig
  | [], _ => σ
  | us :: st, L => mixX (if L 0 then updL σ us else σ) st (fun k => L (k + 1))
theorem mixX_none : ∀ (st : List (List (Nat × AV))) (σ : Sig) (L : Nat → Bool), (∀ k, L k = false) → mixX σ st L = σ
  | [], _, _, _ => rfl
  | us :: st, σ, L, h => by
    simp only [mixX, h 0, Bool.false_eq_true, if_false]
    exact mixX_none st σ _ (fun k => h (k + 1))
theorem mixX_agree {i : Nat} : ∀ (st : List (List (Nat × AV))) (σ σ' : Sig) (L L' : Nat → Bool), σ i = σ' i → (∀ k us, st[k]? = some us → i ∈ slotsU us → L k = L' k) → mixX σ st L i = mixX σ' st L' i
  | [], _, _, _, _, h0, _ => h0
  | us :: st, σ, σ', L, L', h0, h => by
    simp only [mixX]
    refine mixX_agree st _ _ _ _ ?_ (fun k vs hk hd => h (k + 1) vs (by simpa using hk) hd)
    by_cases hi : i ∈ slotsU us
    · have := h 0 us rfl hi
      rw [this]
      cases L' 0
      · simpa using h0
      · simpa using updL_in hi
    · cases L 0 <;> cases L' 0 <;> simp [updL_not hi, h0]
theorem mixX_last {i : Nat} {us : List (Nat × AV)} {τ : Sig} : ∀ (st : List (List (Nat × AV))) (σ : Sig) (L : Nat → Bool) (j : Nat), st[j]? = some us → L j = true → i ∈ slotsU us →
    (∀ k vs, j < k → st[k]? = some vs → i ∈ slotsU vs → L k = false) → mixX σ st L i = updL τ us i
  | [], _, _, _, h, _, _, _ => by simp at h
  | vs :: st, σ, L, 0, h, hj, hi, hL => by
    simp at h; subst h
    simp only [mixX, hj, if_true]
    rw [mixX_agree st _ (updL σ vs) _ (fun _ => false) rfl (fun k ws hk hm => hL (k + 1) ws (by omega) (by simpa using hk) hm), mixX_none _ _ _ (fun _ => rfl)]
    exact updL_in hi
  | vs :: st, σ, L, j + 1, h, hj, hi, hL => by
    simp only [List.getElem?_cons_succ] at h
    simp only [mixX]
    exact mixX_last st _ (fun k => L (k + 1)) j h hj hi (fun k ws hk hw hm => hL (k + 1) ws (by omega) (by simpa using hw) hm)
theorem mixX_set {us : List (Nat × AV)} (st : List (List (Nat × AV))) (σ : Sig) (L : Nat → Bool) (j : Nat) (h : st[j]? = some us) (hL : ∀ k vs, j < k → st[k]? = some vs → (∃ s, s ∈ slotsU us ∧ s ∈ slotsU vs) → L k = false) :
    mixX σ st (fun k => k == j || L k) = updL (mixX σ st L) us := by
  funext i
  by_cases hi : i ∈ slotsU us
  · refine mixX_last st σ _ j h (by simp) hi (fun k vs hk hv hm => ?_)
    rw [hL k vs hk hv ⟨i, hi, hm⟩]
    simp; omega
  · rw [updL_not hi]
    refine mixX_agree st _ _ _ _ rfl (fun k vs hk hm => ?_)
    have : ¬ k = j := fun he => by subst he; rw [h] at hk; cases hk; exact hi hm
    have hb : (k == j) = false := by simp [this]
    rw [hb, Bool.false_or]
theorem mixX_cases {i : Nat} : ∀ (st : List (List (Nat × AV))) (σ : Sig) (L : Nat → Bool), mixX σ st L i = σ i ∨ ∃ k us x, L k = true ∧ st[k]? = some us ∧ (i, x) ∈ us ∧ mixX σ st L i = x
  | [], _, _ => .inl rfl
  | us :: st, σ, L => by
    simp only [mixX]
    rcases mixX_cases st (if L 0 then updL σ us else σ) (fun k => L (k + 1)) (i := i) with h | ⟨k, vs, y, h1, h2, h3, h4⟩
    · rw [h]
      cases h0 : L 0 with
      | false => simp
      | true =>
        simp only [if_true]
        rcases updL_cases (i := i) (us := us) (σ := σ) with h5 | ⟨x, h5, h6⟩
        · exact .inl h5
        · exact .inr ⟨0, us, x, h0, by simp, h5, h6⟩
    · exact .inr ⟨k + 1, vs, y, h1, by simpa using h2, h3, h4⟩
end mixing
abbrev EffsX := List (List (Nat × Bool))
def effX (efs : EffsX) (k : Nat) : List (Nat × Bool) := efs.getD k []
def slotsX (efs : EffsX) (k : Nat) : List Nat := (effX efs k).map (·.1)
def pursX (efs : EffsX) (k : Nat) : List Nat := ((effX efs k).filter (·.2)).map (·.1)
def effOkX (l : List Oper) (efs : EffsX) : Bool := (List.range l.length).all fun k => (List.range k).all fun j => !((slotsX efs j).any fun s => (slotsX efs k).contains s) || ((masks l []).getD k 0).testBit j
def readOkX (l : List Oper) (efs : EffsX) (j s : Nat) : Bool := (List.range l.length).all fun k => !((slotsX efs k).contains s) || k == j || ((masks l []).getD j 0).testBit k || ((masks l []).getD k 0).testBit j
def rootOkX (l : List Oper) (efs : EffsX) (j s : Nat) : Bool := (List.range l.length).all fun k => !((pursX efs k).contains s) || ((masks l []).getD j 0).testBit k
def opOkX (l : List Oper) (efs : EffsX) (j : Nat) (D R : List Nat) : Bool := D.all (readOkX l efs j) && R.all (rootOkX l efs j)
def rootsU (us : List (Nat × AV)) : List Nat := us.flatMap fun p => roots p.2
def AQx (P : Program) (N : Nat) (l : List Oper) (efs : EffsX) : List Oper → Nat → Sig → (Sig → Prop) → Prop
  | [], _, σ, K => K σ
  | o :: r, j, σ, K => ∃ us D, slotsU us = slotsX efs j ∧ YldX P N l.toArray o σ D us (pursX efs j) ∧ opOkX l efs j D (rootsU us) = true ∧ AQx P N l efs r (j + 1) (updL σ us) K
section
variable {P : Program} {N : Nat} {l : List Oper} {efs : EffsX}
theorem AQx.steps {K : Sig → Prop} : ∀ (r : List Oper) (j : Nat) (σ : Sig), AQx P N l efs r j σ K →
    ∃ st : List (List (Nat × AV)), st.length = r.length ∧ (∀ k o, r[k]? = some o → ∃ us D, st[k]? = some us ∧ slotsU us = slotsX efs (j + k) ∧ YldX P N l.toArray o (mixX σ st (fun i => decide (i < k))) D us (pursX efs (j + k)) ∧ opOkX l efs (j + k) D (rootsU us) = true) ∧
      K (mixX σ st fun _ => true)
  | [], j, σ, h => ⟨[], rfl, fun k o h => by simp at h, h⟩
  | o :: r, j, σ, h => by
    obtain ⟨us, D, he, hy, hok, h⟩ := h
    obtain ⟨st, hl, hst, hK⟩ := AQx.steps r (j + 1) (updL σ us) h
    refine ⟨us :: st, by simp [hl], fun k o' ho' => ?_, by simpa [mixX] using hK⟩
    cases k with
    | zero =>
      simp at ho'; subst ho'
      refine ⟨us, D, rfl, he, ?_, hok⟩
      rw [mixX_none _ _ _ (fun k => by simp)]; exact hy
    | succ k =>
      obtain ⟨us', D', h1, h2, h3, h4⟩ := hst k o' (by simpa using ho')
      refine ⟨us', D', by simpa using h1, by rw [show j + (k + 1) = j + 1 + k by omega]; exact h2, ?_, by rw [show j + (k + 1) = j + 1 + k by omega]; exact h4⟩
      have : mixX σ (us :: st) (fun i => decide (i < k + 1)) = mixX (updL σ us) st (fun i => decide (i < k)) := by simp [mixX]
      rw [this, show j + (k + 1) = j + 1 + k by omega]; exact h3
theorem effOkX_spec (h : effOkX l efs = true) {j k s : Nat} (hk : k < l.length) (hj : j < k) (h1 : s ∈ slotsX efs j) (h2 : s ∈ slotsX efs k) : ((masks l []).getD k 0).testBit j = true := by
  unfold effOkX at h
  rw [List.all_eq_true] at h
  have := h k (by simpa using hk)
  rw [List.all_eq_true] at this
  have := this j (by simpa using hj)
  rw [Bool.or_eq_true] at this
  rcases this with h0 | h0
  · exfalso
    rw [Bool.not_eq_true', List.any_eq_false] at h0
    exact h0 s h1 (List.contains_iff_mem.2 h2)
  · exact h0
theorem readOkX_spec {j s k : Nat} (h : readOkX l efs j s = true) (hk : k < l.length) (he : s ∈ slotsX efs k) : k = j ∨ ((masks l []).getD j 0).testBit k = true ∨ ((masks l []).getD k 0).testBit j = true := by
  unfold readOkX at h
  rw [List.all_eq_true] at h
  have := h k (by simpa using hk)
  simp only [List.contains_iff_mem.2 he, Bool.not_true, Bool.false_or, Bool.or_eq_true, beq_iff_eq] at this
  rcases this with (h | h) | h
  · exact .inl h
  · exact .inr (.inl h)
  · exact .inr (.inr h)
theorem rootOkX_spec {j s k : Nat} (h : rootOkX l efs j s = true) (hk : k < l.length) (he : s ∈ pursX efs k) : ((masks l []).getD j 0).testBit k = true := by
  unfold rootOkX at h
  rw [List.all_eq_true] at h
  have := h k (by simpa using hk)
  simpa only [List.contains_iff_mem.2 he, Bool.not_true, Bool.false_or] using this
theorem any_coreX {gv : Nat → Value} {e : Ctx} {σ : Sig} {st : List (List (Nat × AV))} {Q : Exit → Act → World → Prop} (hB : backward l 0 = true) (hE : effOkX l efs = true) (hlen : st.length = l.length)
    (hσ : ∀ i, ∀ q ∈ refs (σ i), ∀ k, k < l.length → q.1 ∉ pursX efs k)
    (hst : ∀ k o, l[k]? = some o → ∃ us D, st[k]? = some us ∧ slotsU us = slotsX efs k ∧ YldX P N l.toArray o (mixX σ st (fun i => decide (i < k))) D us (pursX efs k) ∧ opOkX l efs k D (rootsU us) = true)
    (hQ : ∀ a w, All N gv e (mixX σ st fun _ => true) a w → Q .normal a w) :
    ∀ (fuel : Nat) (listed : Array Bool) (a : Act) (w : World), listed.size = l.length → listed.toList.count false = fuel → Closed l (fun k => listed.getD k false) →
      All N gv e (mixX σ st fun k => listed.getD k false) a w → wpAny P .any l.toArray Q fuel listed a w := by
  have hback := backward_spec hB
  have hlex : ∀ j, Closed l (fun i => decide (i < j)) := fun j i o ho hi k hk => by
    have := hback i o ho k hk
    simp only [decide_eq_true_eq] at hi ⊢
    omega
  have hlt_of : ∀ {k : Nat} {p : List (Nat × AV)}, st[k]? = some p → k < l.length := fun {k p} hk => by
    rcases Nat.lt_or_ge k st.length with h | h
    · omega
    · rw [List.getElem?_eq_none h] at hk; cases hk
  intro fuel
  induction fuel with
  | zero =>
    intro listed a w hsz hc hcl ha
    have hall : ∀ k, k < listed.size → listed.getD k false = true := fun k hk => by
      have h0 : listed.toList.count false = 0 := hc
      rw [List.count_eq_zero] at h0
      cases hb : listed[k] with
      | true => simp [hk, hb]
      | false => exact absurd (by rw [← hb]; exact Array.getElem_mem_toList hk) h0
    refine ⟨?_, hQ _ _ ?_⟩
    · rw [List.eq_nil_iff_forall_not_mem]
      intro j hj
      obtain ⟨h0, o, ho, _⟩ := mem_ready.1 hj
      have hlt : j < listed.size := by
        have := (Array.getElem?_eq_some_iff.1 ho).1
        rw [hsz]; simpa using this
      have := hall j hlt
      simp [hlt] at h0 this
      rw [h0] at this; cases this
    · have : mixX σ st (fun k => listed.getD k false) = mixX σ st fun _ => true := by
        funext i
        exact mixX_agree st _ _ _ _ rfl fun k us hk _ => hall k (by have := hlt_of hk; omega)
      rwa [this] at ha
  | succ fuel ih =>
    intro listed a w hsz hc hcl ha
    refine ⟨fun hr => ?_, fun j hj => ?_⟩
    · exfalso
      have hex : ∃ k, k < listed.size ∧ listed.getD k false = false := by
        have : false ∈ listed.toList := List.count_pos_iff.1 (by omega)
        obtain ⟨k, hk⟩ := List.getElem?_of_mem this
        have hlt : k < listed.size := by
          rcases Nat.lt_or_ge k listed.toList.length with h | h
          · simpa using h
          · rw [List.getElem?_eq_none h] at hk; cases hk
        refine ⟨k, hlt, ?_⟩
        simp at hk
        simp [hk]
      obtain ⟨k, hk⟩ := hex
      obtain ⟨m, ⟨hm1, hm2⟩, hmin⟩ := has_least (p := fun k => k < listed.size ∧ listed.getD k false = false) k hk
      have hml : m < l.length := by omega
      have : m ∈ Region.ready .any l.toArray listed := by
        refine mem_ready.2 ⟨by simp [hm1] at hm2 ⊢; exact hm2, l[m], by simp [hml], fun ed hed hb => ?_⟩
        have h1 := hback m l[m] (List.getElem?_eq_getElem hml) ed.on (mem_aftersOf.2 ⟨ed, hed, hb, rfl⟩)
        cases hv : listed.getD ed.on false with
        | true => rfl
        | false => have := hmin ed.on ⟨by omega, hv⟩; omega
      rw [hr] at this; cases this
    · obtain ⟨hjun, o, ho, hall⟩ := mem_ready.1 hj
      have ho' : l[j]? = some o := by simpa using ho
      have hjl : j < l.length := by
        rcases Nat.lt_or_ge j l.length with h | h
        · exact h
        · rw [List.getElem?_eq_none h] at ho'; cases ho'
      have hjs : j < listed.size := by omega
      have hjf : listed.getD j false = false := by simp [hjs] at hjun ⊢; exact hjun
      obtain ⟨us, D, h1, h2, h4, h5⟩ := hst j o ho'
      have hal : ∀ k ∈ aftersOf o, listed.getD k false = true := fun k hk => by
        obtain ⟨ed, hed, hb, rfl⟩ := mem_aftersOf.1 hk
        exact hall ed hed hb
      have hal' : ∀ k ∈ aftersOf o, decide (k < j) = true := fun k hk => by have := hback j o ho' k hk; simp; omega
      simp only [opOkX, Bool.and_eq_true, List.all_eq_true] at h5
      have behind : ∀ k, k < l.length → ((masks l []).getD k 0).testBit j = true → listed.getD k false = false ∧ j < k := fun k hk hb => by
        have hok : l[k]? = some l[k] := List.getElem?_eq_getElem hk
        refine ⟨?_, ?_⟩
        · cases hv : listed.getD k false with
          | false => rfl
          | true =>
            have := Yld.mask hcl hok (fun k' hk' => hcl k _ hok hv k' hk') hb
            rw [hjf] at this; cases this
        · have := Yld.mask (hlex k) hok (fun k' hk' => by have := hback k _ hok k' hk'; simp; omega) hb
          simpa using this
      have before : ∀ k, ((masks l []).getD j 0).testBit k = true → listed.getD k false = true ∧ decide (k < j) = true := fun k hb => ⟨Yld.mask hcl ho' hal hb, Yld.mask (hlex j) ho' hal' hb⟩
      have eff_of : ∀ {k : Nat} {vs : List (Nat × AV)}, st[k]? = some vs → slotsU vs = slotsX efs k := fun {k vs} hk => by
        have hkl := hlt_of hk
        obtain ⟨us', D', g1, g2, _⟩ := hst k l[k] (List.getElem?_eq_getElem hkl)
        rw [hk] at g1; cases g1
        exact g2
      have hdep : ∀ s ∈ D, ∀ k vs, st[k]? = some vs → s ∈ slotsU vs → listed.getD k false = decide (k < j) := fun s hs k vs hk hm => by
        rcases readOkX_spec (h5.1 s hs) (hlt_of hk) (by rw [← eff_of hk]; exact hm) with h | h | h
        · subst h; rw [hjf]; simp
        · obtain ⟨e1, e2⟩ := before k h; rw [e1, e2]
        · obtain ⟨e1, e2⟩ := behind k (hlt_of hk) h
          rw [e1]; simp; omega
      have hpur : ∀ i, purgeD (pursX efs j) (mixX σ st (fun k => listed.getD k false) i) = mixX σ st (fun k => listed.getD k false) i := fun i => by
        rw [purgeD_eq, if_neg]
        intro hany
        rw [List.any_eq_true] at hany
        obtain ⟨q, hq, hqd⟩ := hany
        rw [List.contains_iff_mem] at hqd
        rcases mixX_cases st σ (fun k => listed.getD k false) (i := i) with hm | ⟨k, vs, y, hk1, hk2, hk3, hk4⟩
        · rw [hm] at hq
          exact hσ i q hq j hjl hqd
        · rw [hk4] at hq
          have hkl := hlt_of hk2
          have hok : l[k]? = some l[k] := List.getElem?_eq_getElem hkl
          obtain ⟨us', D', g1, g2, _, g5⟩ := hst k l[k] hok
          rw [hk2] at g1; cases g1
          simp only [opOkX, Bool.and_eq_true, List.all_eq_true] at g5
          have hb := rootOkX_spec (g5.2 q.1 (List.mem_flatMap.2 ⟨_, hk3, List.mem_map.2 ⟨q, hq, rfl⟩⟩)) hjl hqd
          have := Yld.mask hcl hok (fun k' hk' => hcl k _ hok hk1 k' hk') hb
          rw [hjf] at this; cases this
      have hstep := h4 (mixX σ st fun k => listed.getD k false) (fun s hs => mixX_agree st _ _ _ _ rfl fun k vs hk hm => hdep s hs k vs hk hm) gv e a w ha (wpAny P .any l.toArray Q fuel (listed.setIfInBounds j true)) Q (fun a' w' ha' => by
          refine ih _ a' w' (by simpa using hsz) ?_ ?_ ?_
          · have hj0 : listed.toList[j]? = some false := by
              simp [hjs] at hjun ⊢; exact hjun
            have : (listed.setIfInBounds j true).toList = listed.toList.set j true := by simp
            rw [this, List.count_set (by simpa using hjs)]
            have hv : listed.toList[j]'(by simpa using hjs) = false := by
              rw [List.getElem?_eq_getElem (by simpa using hjs)] at hj0
              exact Option.some.inj hj0
            simp [hv]
            simp at hc
            omega
          · intro i oi hoi hi k hk
            by_cases hij : j = i
            · subst hij
              rw [ho'] at hoi; cases hoi
              exact getD_set_true (hal k hk)
            · simp only [getD_set_ne false hij] at hi
              exact getD_set_true (hcl i oi hoi hi k hk)
          · have e1 : (fun k => (listed.setIfInBounds j true).getD k false) = fun k => (k == j || (fun k => listed.getD k false) k) := by
              funext k
              by_cases hk : j = k
              · subst hk; simp [hjs]
              · simp only [getD_set_ne false hk, beq_iff_eq]; have : ¬ k = j := fun h => hk h.symm
                have hb : (k == j) = false := by simp [this]
                rw [hb, Bool.false_or]
            rw [e1, mixX_set st _ _ j h1 (fun k vs hjk hk hs => by
              obtain ⟨s, hs1, hs2⟩ := hs
              exact (behind k (hlt_of hk) (effOkX_spec hE (hlt_of hk) hjk (by rw [← h2]; exact hs1) (by rw [← eff_of hk]; exact hs2))).1)]
            have e2 : (fun i => purgeD (pursX efs j) (mixX σ st (fun k => listed.getD k false) i)) = mixX σ st (fun k => listed.getD k false) := funext hpur
            rw [e2] at ha'; exact ha')
      unfold wpOp
      rw [ho]
      dsimp only
      split
      · rename_i hw; rw [if_pos hw] at hstep; exact .inl hstep
      · rename_i hw; rw [if_neg hw] at hstep; exact hstep
def allPurs (efs : EffsX) : List Nat := efs.flatMap fun ef => (ef.filter (·.2)).map (·.1)
theorem a_region_x {id : Nat} {σ : Sig} {Φ : Exit → Sig → Prop} (efs : EffsX) (hm : P.follows .mixedOrders = true) (hB : (backward l 0 && effOkX l efs && decide (efs.length = l.length)) = true)
    (h : AQx P N l efs l 0 (fun i => purgeD (allPurs efs) (σ i)) (fun s => Φ .normal s)) (hnd : noDefer l = true := by kernel_rfl) : ACode P N (.region id l.toArray true) σ Φ := fun gv e a w ha Q0 hQ0 => by
  refine sw_region_any (K := fun s => Φ .normal s) hm hnd (fun x a' w' σ' hx hΦ ha' => by rw [hx]; exact hQ0 _ _ _ _ hΦ ha') fun Q hQ => ?_
  simp only [Bool.and_eq_true, decide_eq_true_eq] at hB
  obtain ⟨⟨hB1, hB2⟩, hB3⟩ := hB
  obtain ⟨st, hl, hst, hK⟩ := AQx.steps l 0 _ h
  have ha' := (ent_purgeD (allPurs efs) σ).all ha
  obtain ⟨hdf, hsz, β, F, hi⟩ := ha'
  refine any_coreX hB1 hB2 hl (fun i q hq k hk he => ?_) (fun k o ho => by
    obtain ⟨us, D, h1, h2, h3, h4⟩ := hst k o ho
    exact ⟨us, D, h1, by simpa using h2, by simpa using h3, by simpa using h4⟩) (fun a w ha => hQ () _ _ _ hK ha) _ _ a _ (by simp) (by simp) ?_ ?_
  · simp only [purgeD_eq] at hq
    split at hq
    · simp [refs] at hq
    · rename_i hany
      simp only [List.any_eq_true, not_exists, not_and] at hany
      refine hany q hq ?_
      rw [List.contains_iff_mem]
      unfold allPurs
      unfold pursX effX at he
      rw [List.getD_eq_getElem?_getD, List.getElem?_eq_getElem (by omega), Option.getD_some] at he
      exact List.mem_flatMap.2 ⟨_, List.getElem_mem _, he⟩
  · intro i o ho hi
    rcases Nat.lt_or_ge i l.length with h | h
    · simp [h] at hi
    · simp [h] at hi
  · rw [mixX_none _ _ _ (fun k => by
      rcases Nat.lt_or_ge k l.length with h | h
      · simp [h]
      · simp [h])]
    exact ⟨hdf, hsz, β, F, hi.same rfl rfl rfl⟩
end
end Go.Av
namespace Go.Av
open Go
theorem purge1 (d : Nat) (x : AV) : purgeD [d] x = purgeV d x := by
  rw [purgeD_eq, purgeV_eq]
  have : (fun q : Place => [d].contains q.1) = fun q => q.1 == d := by funext q; rw [Bool.eq_iff_iff]; simp
  rw [this]
section
variable {P : Program} {N : Nat} {A : Bool} {σ : Sig} {l rest : List Oper} {efs : EffsX} {o : Oper} {K : Sig → Prop} {jj : Nat} {x : Operand}
theorem x_nil (h : K σ) : AQx P N l efs [] jj σ K := h
theorem x_yld {d : Nat} {v : AV} {D : List Nat} (hy : Yld P N l.toArray o σ D d v) (he : effX efs jj = [(d, true)]) (hok : opOkX l efs jj D (roots v) = true) (h : AQx P N l efs rest (jj + 1) (upd σ d v) K) :
    AQx P N l efs (o :: rest) jj σ K :=
  ⟨[(d, v)], D, by simp [slotsX, he], fun σ' hD gv e a w ha K Q hK => hy σ' hD gv e a w ha K Q (fun a' w' ha' => hK a' w' (by
    have e1 : pursX efs jj = [d] := by simp [pursX, he]
    simp only [updL, e1, purge1]; exact ha')), by simpa [rootsU] using hok, h⟩
theorem x_new {d : Nat} {v : AV} {D : List Nat} (hv : QSem P N true o.op o.type σ D v) (hg : o.guard = none) (hd : o.dst = some d) (hN : d < N) (he : effX efs jj = [(d, true)]) (hok : opOkX l efs jj D (roots v) = true) (h : AQx P N l efs rest (jj + 1) (upd σ d v) K) :
    AQx P N l efs (o :: rest) jj σ K := x_yld (hv.yld hg hd hN) he hok h
theorem x_val {d : Nat} {v : AV} {D : List Nat} (hv : VSem P N true o.op o.type σ D v) (hg : o.guard = none) (hd : o.dst = some d) (hN : d < N) (he : effX efs jj = [(d, true)]) (hok : opOkX l efs jj D (roots v) = true) (h : AQx P N l efs rest (jj + 1) (upd σ d v) K) :
    AQx P N l efs (o :: rest) jj σ K := x_new hv.quiet hg hd hN he hok h
theorem x_step {us : List (Nat × AV)} {D : List Nat} {ef : List (Nat × Bool)} (hg : o.guard = none) (hs : ∀ σ', (∀ i ∈ D, σ' i = σ i) → OStep P N o σ' (updL (fun i => purgeD ((ef.filter (·.2)).map (·.1)) (σ' i)) us)) (he : effX efs jj = ef)
    (hus : slotsU us = ef.map (·.1)) (hok : opOkX l efs jj D (rootsU us) = true) (h : AQx P N l efs rest (jj + 1) (updL σ us) K) : AQx P N l efs (o :: rest) jj σ K := by
  refine ⟨us, D, by rw [hus, ← he]; rfl, fun σ' hD gv e a w ha K' Q hK => ?_, hok, h⟩
  have hw : Region.wanted o (yielded l.toArray a.tmps) = true := by simp [Region.wanted, hg]
  rw [if_pos hw]
  refine hs σ' hD gv e a w ha K' Q fun a' w' ha' => hK a' w' ?_
  unfold pursX; rw [he]; exact ha'
theorem upd_purge2 {σ : Sig} {s d : Nat} {v : AV} (hsd : s ≠ d) : updL (fun i => purgeD [d] (σ i)) [(s, .undef), (d, v)] = upd (fun i => purgeV d (upd σ s .undef i)) d v := by
  funext i
  simp only [updL, upd, purge1]
  split
  · rfl
  · split
    · rfl
    · rfl
theorem x_append {s d t sz bytes n m : Nat} {cap : Option Nat} {cs ns : List AV} {D : List Nat} (hg : o.guard = none) (ho : o.op = appCall (.tmp s) x t) (ht : appTy P t = some (sz, bytes)) (hd : o.dst = some d) (hN : d < N) (hsN : s < N) (hsd : s ≠ d)
    (hs : σ s = .osl sz cs n cap) (hx : SrcIs N true (upd σ s .undef) x sz m ns D) (hc : cellL ns = true) (hcl : cs.length = n * sz)
    (hb : n + m ≤ 9223372036854775807 ∧ (n + m) * bytes ≤ 140737488355328) (he : effX efs jj = [(s, false), (d, true)]) (hok : opOkX l efs jj (s :: D) [] = true)
    (h : AQx P N l efs rest (jj + 1) (updL σ [(s, .undef), (d, .osl sz (cs ++ ns) (n + m) none)]) K) : AQx P N l efs (o :: rest) jj σ K := by
  refine x_step (D := s :: D) (us := [(s, .undef), (d, .osl sz (cs ++ ns) (n + m) none)]) hg (fun σ' hD => ?_) he rfl (by simpa [rootsU, roots, refs] using hok) h
  have hx' : SrcIs N true (upd σ' s .undef) x sz m ns D := ⟨hx.1, fun hA τ hτ => hx.2 hA τ (fun i hi => by
    rw [hτ i hi]; simp only [upd]; split
    · rfl
    · exact hD i (List.mem_cons_of_mem _ hi))⟩
  have := o_append ho ht hd hN hsN (by rw [hD s (by simp)]; exact hs) hx' hc hcl hb
  rw [← upd_purge2 hsd] at this
  exact this
end
end Go.Av
namespace Go.Av
open Go
def Dlt (p : Int → Bool) (xs : List Int) (j i : Nat) (ys : List Int) : Prop :=
  j ≤ xs.length ∧ ys.length = xs.length ∧ i < j ∧ ys.take i = (xs.take j).filter (fun x => !p x) ∧ ∀ k, j ≤ k → gd ys k = gd xs k
theorem Dlt.first {p : Int → Bool} {xs : List Int} {i : Nat} (hi : i < xs.length) (hn : ∀ j, j < i → p (gd xs j) = false) (hp : p (gd xs i) = true) : Dlt p xs (i + 1) i xs := by
  refine ⟨hi, rfl, Nat.lt_succ_self _, ?_, fun _ _ => rfl⟩
  rw [take_gd hi, List.filter_append]
  have : (xs.take i).filter (fun x => !p x) = xs.take i := by
    rw [List.filter_eq_self]
    intro x hx
    obtain ⟨j, hj, rfl⟩ := mem_gd hx
    have hj' : j < i := by rw [List.length_take] at hj; omega
    have e : gd (xs.take i) j = gd xs j := by unfold gd; rw [List.getElem?_take_of_lt hj']
    rw [e, hn j hj']; rfl
  rw [this]; simp [hp]
theorem gd_upd {ys : List Int} {i k : Nat} {v : Int} (hi : i < ys.length) : gd (ys.set i v) k = if i = k then v else gd ys k := by
  unfold gd; rw [List.getElem?_set]
  split
  · subst_vars; simp [hi]
  · rfl
theorem Dlt.keep {p : Int → Bool} {xs ys : List Int} {j i : Nat} (h : Dlt p xs j i ys) (hj : j < xs.length) (hp : p (gd xs j) = false) : Dlt p xs (j + 1) (i + 1) (ys.set i (gd xs j)) := by
  obtain ⟨h1, h2, h3, h4, h5⟩ := h
  refine ⟨hj, by simpa using h2, by omega, ?_, fun k hk => ?_⟩
  · rw [take_gd hj, List.filter_append, ← h4, take_gd (by simp; omega), gd_upd (by omega), if_pos rfl, List.take_set_of_le (Nat.le_refl _)]
    simp [hp]
  · rw [gd_upd (by omega), if_neg (by omega)]; exact h5 k (by omega)
theorem Dlt.drop {p : Int → Bool} {xs ys : List Int} {j i : Nat} (h : Dlt p xs j i ys) (hj : j < xs.length) (hp : p (gd xs j) = true) : Dlt p xs (j + 1) i ys := by
  obtain ⟨h1, h2, h3, h4, h5⟩ := h
  refine ⟨hj, h2, by omega, ?_, fun k hk => h5 k (by omega)⟩
  rw [take_gd hj, List.filter_append, ← h4]; simp [hp]
theorem Dlt.done {p : Int → Bool} {xs ys : List Int} {i n : Nat} (h : Dlt p xs xs.length i ys) (hn : xs.length = n) :
    setL (icells ys) (0 + i * 1) (List.replicate (n - i) (.int .i64 0)) = icells (xs.filter fun x => !p x) ++ List.replicate (n - i) (.int .i64 0) ∧ i = (xs.filter fun x => !p x).length := by
  obtain ⟨h1, h2, h3, h4, h5⟩ := h
  rw [List.take_length] at h4
  refine ⟨?_, ?_⟩
  · rw [Nat.zero_add, Nat.mul_one, setL_rep (by rw [icells_length]; omega), icells_take, h4]
  · rw [← h4, List.length_take]; omega
theorem gd_get2 {xs ys : List Int} {j : Nat} (h : ∀ k, j ≤ k → gd ys k = gd xs k) (hj : j < ys.length) : ys[j]? = some (gd xs j) := by
  rw [← h j (Nat.le_refl _)]; unfold gd; rw [List.getElem?_eq_getElem hj]; rfl
theorem dlt_none {p : Int → Bool} {xs : List Int} {n : Nat} (hn : xs.length = n) (h : fidx (fun i => p (gd xs i)) n = -1) : xs.filter (fun x => !p x) = xs := by
  rw [List.filter_eq_self]
  intro x hx
  obtain ⟨j, hj, rfl⟩ := mem_gd hx
  cases hc : p (gd xs j) with
  | false => rfl
  | true =>
    have := fidx_any (p := fun i => p (gd xs i)) (n := n)
    rw [h] at this
    simp only [show ¬ (0 : Int) ≤ -1 by decide, decide_false] at this
    have h2 := this.symm
    rw [List.any_eq_false] at h2
    exact absurd hc (h2 j (by simpa using (by omega : j < n)))
theorem fidx_spec {p : Nat → Bool} {n : Nat} (h : ¬ fidx p n = -1) : ∃ i, i < n ∧ fidx p n = (i : Int) ∧ p i = true ∧ ∀ j, j < i → p j = false := by
  by_cases hx : ∃ i, i < n ∧ p i = true
  · obtain ⟨i, ⟨hi, hp⟩, hm⟩ := has_least (p := fun i => i < n ∧ p i = true) _ hx.choose_spec
    have hn : ∀ j, j < i → p j = false := fun j hj => by
      cases hc : p j with
      | false => rfl
      | true => have := hm j ⟨by omega, hc⟩; omega
    exact ⟨i, hi, fidx_found hi hp hn, hp, hn⟩
  · exfalso; apply h
    exact fidx_none fun j hj => by
      cases hc : p j with
      | false => rfl
      | true => exact absurd ⟨j, hj, hc⟩ hx
def wov (c : List Int) (v : Int) : List Int := c.filter fun l => !decide (absA l = v)
def woS (c : List Int) (v : Int) : List Int := c.filter fun l => decide (vr l ≠ v)
theorem wov_eq {c : List Int} (hs : SmI c) (v : Int) : wov c v = woS c v := by
  unfold wov woS
  refine List.filter_congr fun x hx => ?_
  rw [absA_of (hs.mem hx)]
  by_cases h : vr x = v <;> simp [h]
theorem woS_mem {c : List Int} {v x : Int} (h : x ∈ woS c v) : x ∈ c ∧ vr x ≠ v := by
  unfold woS at h; simpa using h
theorem woS_strict {c : List Int} {v : Int} (h : Strict c) : Strict (woS c v) := List.Pairwise.filter _ h
theorem woS_len (c : List Int) (v : Int) : (woS c v).length ≤ c.length := List.length_filter_le _ _
theorem vr_neg (l : Int) : vr (-l) = vr l := by unfold vr; split <;> split <;> omega
def setLit (a : List Int) (l : Int) : List Int := putL (woS a (vr l)) l
theorem setLit_impl {vars : Int} {a : List Int} {l : Int} (hc : clB vars a = true) (hl : litB vars l = true) : (clR (woS a (vr l) ++ [l])).getD [] = setLit a l := by
  have h2 := (clB_spec hc).1
  have h3 := litB_spec.1 hl
  rw [clR_join (SmI.of fun x hx => ?_) (fun x hx => ?_) (woS_strict (clB_strict hc))]
  · rw [joinL, if_neg, if_neg]
    · rfl
    · intro h; exact (woS_mem h).2 rfl
    · intro h; exact (woS_mem h).2 (vr_neg l)
  · rcases List.mem_append.1 hx with h | h
    · have := clB_mem hc (woS_mem h).1; omega
    · rw [List.mem_singleton] at h; subst h; omega
  · rcases List.mem_append.1 hx with h | h
    · exact (clB_mem hc (woS_mem h).1).2.2.2
    · rw [List.mem_singleton] at h; subst h; exact h3.2
def gl (L : List (List Int)) (i : Nat) : List Int := (L[i]?).getD []
def sls (L : List (List Int)) : List AV := L.map fun c => .sl (icells c) c.length
theorem sls_length (L : List (List Int)) : (sls L).length = L.length := by simp [sls]
theorem sls_get {L : List (List Int)} {i : Nat} (h : i < L.length) : (sls L)[i]? = some (.sl (icells (gl L i)) (gl L i).length) := by
  unfold sls gl; rw [List.getElem?_map, List.getElem?_eq_getElem h]; rfl
theorem sls_ne {L : List (List Int)} {i : Nat} (h : i < L.length) : sls L ≠ [] := fun he => by
  have := congrArg List.length he; rw [sls_length] at this; simp at this; subst this; simp at h
theorem sls_pureL (L : List (List Int)) : pureL (sls L) = true := by
  rw [pureL_iff]; intro c hc
  obtain ⟨x, _, rfl⟩ := List.mem_map.1 hc; simp [pureV]
theorem sls_noNil : ∀ (L : List (List Int)), noNilL (sls L) = true
  | [] => rfl
  | c :: L => by
    have := sls_noNil L
    unfold sls at this ⊢
    simp [noNilL, noNil, this]
theorem sls_pure (L : List (List Int)) : pureL (sls L) = true ∧ noNilL (sls L) = true := ⟨sls_pureL L, sls_noNil L⟩
theorem gl_mem {L : List (List Int)} {i : Nat} (h : i < L.length) : gl L i ∈ L := by unfold gl; rw [List.getElem?_eq_getElem h]; exact List.getElem_mem h
def tot (L : List (List Int)) (i : Nat) : Nat := ((L.take i).map List.length).sum
theorem tot_zero (L : List (List Int)) : tot L 0 = 0 := rfl
theorem tot_more {L : List (List Int)} {i : Nat} (h : i < L.length) : tot L (i + 1) = tot L i + (gl L i).length := by
  unfold tot gl
  rw [List.take_succ_eq_append_getElem h, List.map_append, List.sum_append, List.getElem?_eq_getElem h]
  simp only [List.map_cons, List.map_nil, List.sum_cons, List.sum_nil, Option.getD_some, Nat.add_zero]
theorem tot_le (L : List (List Int)) : ∀ i, tot L i ≤ tot L L.length := by
  intro i
  have key : ∀ k, tot L i ≤ tot L (i + k) := by
    intro k
    induction k with
    | zero => exact Nat.le_refl _
    | succ k ih =>
      refine Nat.le_trans ih ?_
      by_cases h : i + k < L.length
      · rw [← Nat.add_assoc, tot_more h]; omega
      · unfold tot; rw [List.take_of_length_le (by omega), List.take_of_length_le (by omega)]; exact Nat.le_refl _
  rcases Nat.lt_or_ge i L.length with h | h
  · have := key (L.length - i); rwa [show i + (L.length - i) = L.length by omega] at this
  · unfold tot; rw [List.take_of_length_le h, List.take_of_length_le (Nat.le_refl _)]; exact Nat.le_refl _
end Go.Av
namespace Go.Av
open Go
def AQz (P : Program) (N : Nat) (ops : Array Oper) (l : List Oper) (efs : EffsX) : List Oper → Nat → Sig → (Sig → Prop) → Prop
  | [], _, σ, K => K σ
  | o :: r, j, σ, K => ∃ us D, slotsU us = slotsX efs j ∧ YldX P N ops o σ D us (pursX efs j) ∧ opOkX l efs j D (rootsU us) = true ∧ AQz P N ops l efs r (j + 1) (updL σ us) K
section
variable {P : Program} {N : Nat} {ops : Array Oper} {l l2 : List Oper} {efs : EffsX}
theorem AQz.steps {K : Sig → Prop} : ∀ (r : List Oper) (j : Nat) (σ : Sig), AQz P N ops l efs r j σ K →
    ∃ st : List (List (Nat × AV)), st.length = r.length ∧ (∀ k o, r[k]? = some o → ∃ us D, st[k]? = some us ∧ slotsU us = slotsX efs (j + k) ∧ YldX P N ops o (mixX σ st (fun i => decide (i < k))) D us (pursX efs (j + k)) ∧ opOkX l efs (j + k) D (rootsU us) = true) ∧
      K (mixX σ st fun _ => true)
  | [], j, σ, h => ⟨[], rfl, fun k o h => by simp at h, h⟩
  | o :: r, j, σ, h => by
    obtain ⟨us, D, he, hy, hok, h⟩ := h
    obtain ⟨st, hl, hst, hK⟩ := AQz.steps r (j + 1) (updL σ us) h
    refine ⟨us :: st, by simp [hl], fun k o' ho' => ?_, by simpa [mixX] using hK⟩
    cases k with
    | zero =>
      simp at ho'; subst ho'
      refine ⟨us, D, rfl, he, ?_, hok⟩
      rw [mixX_none _ _ _ (fun k => by simp)]; exact hy
    | succ k =>
      obtain ⟨us', D', h1, h2, h3, h4⟩ := hst k o' (by simpa using ho')
      refine ⟨us', D', by simpa using h1, by rw [show j + (k + 1) = j + 1 + k by omega]; exact h2, ?_, by rw [show j + (k + 1) = j + 1 + k by omega]; exact h4⟩
      have : mixX σ (us :: st) (fun i => decide (i < k + 1)) = mixX (updL σ us) st (fun i => decide (i < k)) := by simp [mixX]
      rw [this, show j + (k + 1) = j + 1 + k by omega]; exact h3
theorem any_coreZ {gv : Nat → Value} {e : Ctx} {σ : Sig} {st : List (List (Nat × AV))} {Q : Exit → Act → World → Prop} (hB : backward (l ++ l2) 0 = true) (hT : tailOk (l ++ l2) l.length = true) (hE : effOkX l efs = true) (hlen : st.length = l.length)
    (hσ : ∀ i, ∀ q ∈ refs (σ i), ∀ k, k < l.length → q.1 ∉ pursX efs k)
    (hst : ∀ k o, l[k]? = some o → ∃ us D, st[k]? = some us ∧ slotsU us = slotsX efs k ∧ YldX P N (l ++ l2).toArray o (mixX σ st (fun i => decide (i < k))) D us (pursX efs k) ∧ opOkX l efs k D (rootsU us) = true)
    (hQ : ∀ a w, All N gv e (mixX σ st fun _ => true) a w → wpList P (l ++ l2).toArray Q l2 a w) :
    ∀ (fuel : Nat) (listed : Array Bool) (a : Act) (w : World), listed.size = (l ++ l2).length → fuel + listed.toList.count true = (l ++ l2).length → Closed (l ++ l2) (fun k => listed.getD k false) → (∀ k, l.length ≤ k → listed.getD k false = false) →
      All N gv e (mixX σ st fun k => listed.getD k false) a w → wpAny P .any (l ++ l2).toArray Q fuel listed a w := by
  have hback := backward_spec hB
  have hgetl : ∀ {k : Nat} {o : Oper}, l[k]? = some o → (l ++ l2)[k]? = some o := fun {k o} hk => by
    have hlt : k < l.length := by
      rcases Nat.lt_or_ge k l.length with h | h
      · exact h
      · rw [List.getElem?_eq_none h] at hk; cases hk
    rw [List.getElem?_append_left hlt]; exact hk
  have hlex : ∀ j, Closed l (fun i => decide (i < j)) := fun j i o ho hi k hk => by
    have := hback i o (hgetl ho) k hk
    simp only [decide_eq_true_eq] at hi ⊢
    omega
  have hlt_of : ∀ {k : Nat} {p : List (Nat × AV)}, st[k]? = some p → k < l.length := fun {k p} hk => by
    rcases Nat.lt_or_ge k st.length with h | h
    · omega
    · rw [List.getElem?_eq_none h] at hk; cases hk
  intro fuel
  induction fuel with
  | zero =>
    intro listed a w hsz hc hcl hno ha
    have hall : ∀ k, k < listed.size → listed.getD k false = true := fun k hk => by
      have h0 : listed.toList.count true = listed.toList.length := by simp at hc hsz ⊢; omega
      rw [List.count_eq_length] at h0
      have := h0 listed[k] (Array.getElem_mem_toList hk)
      simp [hk, ← this]
    have hl2 : l2 = [] := by
      cases hl2 : l2 with
      | nil => rfl
      | cons o r =>
        have h1 := hno l.length (Nat.le_refl _)
        rw [hall l.length (by rw [hsz, hl2]; simp)] at h1
        cases h1
    have hmix : mixX σ st (fun k => listed.getD k false) = mixX σ st fun _ => true := by
      funext i
      refine mixX_agree st _ _ _ _ rfl fun k us hk _ => hall k ?_
      rcases Nat.lt_or_ge k st.length with h | h
      · rw [hsz]; simp; omega
      · rw [List.getElem?_eq_none h] at hk; cases hk
    rw [hmix] at ha
    have := hQ _ _ ha
    rw [hl2] at this
    refine ⟨?_, this⟩
    rw [List.eq_nil_iff_forall_not_mem]
    intro j hj
    obtain ⟨h0, o, ho, _⟩ := mem_ready.1 hj
    have hlt : j < listed.size := by
      have := (Array.getElem?_eq_some_iff.1 ho).1
      rw [hsz]; simpa using this
    have := hall j hlt
    simp [hlt] at h0 this
    rw [h0] at this; cases this
  | succ fuel ih =>
    intro listed a w hsz hc hcl hno ha
    by_cases hfull : ∀ k, k < l.length → listed.getD k false = true
    · -- the tail
      have hmix : mixX σ st (fun k => listed.getD k false) = mixX σ st fun _ => true := by
        funext i
        refine mixX_agree st _ _ _ _ rfl fun k us hk _ => hfull k ?_
        rcases Nat.lt_or_ge k st.length with h | h
        · omega
        · rw [List.getElem?_eq_none h] at hk; cases hk
      rw [hmix] at ha
      have hp : ∀ k, k < (l ++ l2).length → listed.getD k false = decide (k < l.length) := fun k _ => by
        by_cases hk : k < l.length
        · rw [hfull k hk]; simp [hk]
        · rw [hno k (by omega)]; simp [hk]
      have hcnt : listed.toList.count true = l.length := by
        have : listed.toList = List.replicate l.length true ++ List.replicate l2.length false := by
          refine List.ext_getElem? fun k => ?_
          by_cases hk : k < listed.size
          · have h1 := hp k (by omega)
            simp only [Array.getElem?_toList, Array.getElem?_eq_getElem hk]
            simp [hk] at h1
            rw [h1]
            by_cases hkl : k < l.length
            · rw [List.getElem?_append_left (by simpa using hkl)]; simp [hkl]
            · rw [List.getElem?_append_right (by simpa using hkl)]
              rw [hsz] at hk; simp at hk
              have h2 : k - l.length < l2.length := by omega
              simp [hkl, h2]
          · rw [List.getElem?_eq_none (by simpa using hk), List.getElem?_eq_none (by rw [hsz] at hk; simp at hk ⊢; omega)]
        rw [this]; simp [List.count_replicate]
      have := tail_run (P := P) (Q := Q) hB hT l2 l.length listed a w (Nat.le_refl _) (by simp) hsz hp (by simp) (hQ _ _ ha)
      rwa [show (l ++ l2).length - l.length = fuel + 1 by omega] at this
    have hex : ∃ k, k < l.length ∧ listed.getD k false = false := by
      simp only [Classical.not_forall] at hfull
      obtain ⟨k, hk, hb⟩ := hfull
      exact ⟨k, hk, by simpa using hb⟩
    refine ⟨fun hr => ?_, fun j hj => ?_⟩
    · exfalso
      obtain ⟨k, hk⟩ := hex
      obtain ⟨m, ⟨hm1, hm2⟩, hmin⟩ := has_least (p := fun k => k < l.length ∧ listed.getD k false = false) k hk
      have hms : m < listed.size := by rw [hsz]; simp; omega
      have hgm : (l ++ l2)[m]? = some l[m] := hgetl (List.getElem?_eq_getElem hm1)
      have : m ∈ Region.ready .any (l ++ l2).toArray listed := by
        refine mem_ready.2 ⟨by simp [hms] at hm2 ⊢; exact hm2, l[m], by rw [List.getElem?_toArray]; exact hgm, fun ed hed hb => ?_⟩
        have h1 := hback m l[m] hgm ed.on (mem_aftersOf.2 ⟨ed, hed, hb, rfl⟩)
        cases hv : listed.getD ed.on false with
        | true => rfl
        | false => have := hmin ed.on ⟨by omega, hv⟩; omega
      rw [hr] at this; cases this
    · obtain ⟨hjun, o, ho, hall⟩ := mem_ready.1 hj
      have ho'' : (l ++ l2)[j]? = some o := by simpa using ho
      have hjf : j < (l ++ l2).length := by
        rcases Nat.lt_or_ge j (l ++ l2).length with h | h
        · exact h
        · rw [List.getElem?_eq_none h] at ho''; cases ho''
      have hal : ∀ k ∈ aftersOf o, listed.getD k false = true := fun k hk => by
        obtain ⟨ed, hed, hb, rfl⟩ := mem_aftersOf.1 hk
        exact hall ed hed hb
      have hjl : j < l.length := by
        rcases Nat.lt_or_ge j l.length with h | h
        · exact h
        · obtain ⟨k, hk1, hk2⟩ := hex
          have := Yld.mask hcl ho'' hal (tailOk_spec hT h hjf (show k < j by omega))
          rw [hk2] at this; cases this
      have ho' : l[j]? = some o := by rw [List.getElem?_append_left hjl] at ho''; exact ho''
      obtain ⟨us, D, h1, h2, h4, h5⟩ := hst j o ho'
      have hal' : ∀ k ∈ aftersOf o, decide (k < j) = true := fun k hk => by have := hback j o ho'' k hk; simp; omega
      have hcll := closed_left hcl
      have hjs : j < listed.size := by omega
      have hjff : listed.getD j false = false := by simp [hjs] at hjun ⊢; exact hjun
      simp only [opOkX, Bool.and_eq_true, List.all_eq_true] at h5
      have behind : ∀ k, k < l.length → ((masks l []).getD k 0).testBit j = true → listed.getD k false = false ∧ j < k := fun k hk hb => by
        have hok : l[k]? = some l[k] := List.getElem?_eq_getElem hk
        refine ⟨?_, ?_⟩
        · cases hv : listed.getD k false with
          | false => rfl
          | true =>
            have := Yld.mask hcll hok (fun k' hk' => hcll k _ hok hv k' hk') hb
            rw [hjff] at this; cases this
        · have := Yld.mask (hlex k) hok (fun k' hk' => by have := hback k _ (hgetl hok) k' hk'; simp; omega) hb
          simpa using this
      have before : ∀ k, ((masks l []).getD j 0).testBit k = true → listed.getD k false = true ∧ decide (k < j) = true := fun k hb => ⟨Yld.mask hcll ho' hal hb, Yld.mask (hlex j) ho' hal' hb⟩
      have eff_of : ∀ {k : Nat} {vs : List (Nat × AV)}, st[k]? = some vs → slotsU vs = slotsX efs k := fun {k vs} hk => by
        have hkl := hlt_of hk
        obtain ⟨us', D', g1, g2, _⟩ := hst k l[k] (List.getElem?_eq_getElem hkl)
        rw [hk] at g1; cases g1
        exact g2
      have hdep : ∀ s ∈ D, ∀ k vs, st[k]? = some vs → s ∈ slotsU vs → listed.getD k false = decide (k < j) := fun s hs k vs hk hm => by
        rcases readOkX_spec (h5.1 s hs) (hlt_of hk) (by rw [← eff_of hk]; exact hm) with h | h | h
        · subst h; rw [hjff]; simp
        · obtain ⟨e1, e2⟩ := before k h; rw [e1, e2]
        · obtain ⟨e1, e2⟩ := behind k (hlt_of hk) h
          rw [e1]; simp; omega
      have hpur : ∀ i, purgeD (pursX efs j) (mixX σ st (fun k => listed.getD k false) i) = mixX σ st (fun k => listed.getD k false) i := fun i => by
        rw [purgeD_eq, if_neg]
        intro hany
        rw [List.any_eq_true] at hany
        obtain ⟨q, hq, hqd⟩ := hany
        rw [List.contains_iff_mem] at hqd
        rcases mixX_cases st σ (fun k => listed.getD k false) (i := i) with hm | ⟨k, vs, y, hk1, hk2, hk3, hk4⟩
        · rw [hm] at hq
          exact hσ i q hq j hjl hqd
        · rw [hk4] at hq
          have hkl := hlt_of hk2
          have hok : l[k]? = some l[k] := List.getElem?_eq_getElem hkl
          obtain ⟨us', D', g1, g2, _, g5⟩ := hst k l[k] hok
          rw [hk2] at g1; cases g1
          simp only [opOkX, Bool.and_eq_true, List.all_eq_true] at g5
          have hb := rootOkX_spec (g5.2 q.1 (List.mem_flatMap.2 ⟨_, hk3, List.mem_map.2 ⟨q, hq, rfl⟩⟩)) hjl hqd
          have := Yld.mask hcll hok (fun k' hk' => hcll k _ hok hk1 k' hk') hb
          rw [hjff] at this; cases this
      have hstep := h4 (mixX σ st fun k => listed.getD k false) (fun s hs => mixX_agree st _ _ _ _ rfl fun k vs hk hm => hdep s hs k vs hk hm) gv e a w ha (wpAny P .any (l ++ l2).toArray Q fuel (listed.setIfInBounds j true)) Q (fun a' w' ha' => by
          refine ih _ a' w' (by simpa using hsz) ?_ ?_ ?_ ?_
          · have hj0 : listed.toList[j]? = some false := by
              simp [hjs] at hjun ⊢; exact hjun
            have : (listed.setIfInBounds j true).toList = listed.toList.set j true := by simp
            rw [this, List.count_set (by simpa using hjs)]
            have hv : listed.toList[j]'(by simpa using hjs) = false := by
              rw [List.getElem?_eq_getElem (by simpa using hjs)] at hj0
              exact Option.some.inj hj0
            simp [hv]
            simp at hc
            omega
          · intro i oi hoi hi k hk
            by_cases hij : j = i
            · subst hij
              rw [ho''] at hoi; cases hoi
              exact getD_set_true (hal k hk)
            · simp only [getD_set_ne false hij] at hi
              exact getD_set_true (hcl i oi hoi hi k hk)
          · intro k hk
            rw [getD_set_ne false (by omega)]
            exact hno k hk
          · have e1 : (fun k => (listed.setIfInBounds j true).getD k false) = fun k => (k == j || (fun k => listed.getD k false) k) := by
              funext k
              by_cases hk : j = k
              · subst hk; simp [hjs]
              · simp only [getD_set_ne false hk, beq_iff_eq]; have : ¬ k = j := fun h => hk h.symm
                have hb : (k == j) = false := by simp [this]
                rw [hb, Bool.false_or]
            rw [e1, mixX_set st _ _ j h1 (fun k vs hjk hk hs => by
              obtain ⟨s, hs1, hs2⟩ := hs
              exact (behind k (hlt_of hk) (effOkX_spec hE (hlt_of hk) hjk (by rw [← h2]; exact hs1) (by rw [← eff_of hk]; exact hs2))).1)]
            have e2 : (fun i => purgeD (pursX efs j) (mixX σ st (fun k => listed.getD k false) i)) = mixX σ st (fun k => listed.getD k false) := funext hpur
            rw [e2] at ha'; exact ha')
      unfold wpOp
      rw [ho]
      dsimp only
      split
      · rename_i hw; rw [if_pos hw] at hstep; exact .inl hstep
      · rename_i hw; rw [if_neg hw] at hstep; exact hstep
theorem a_region_z {id n : Nat} {full : List Oper} {σ : Sig} {Φ : Exit → Sig → Prop} (efs : EffsX) (hm : P.follows .mixedOrders = true) (hB : (backward full 0 && tailOk full n && decide (n ≤ full.length) && effOkX (full.take n) efs && decide (efs.length = n)) = true)
    (h : AQz P N full.toArray (full.take n) efs (full.take n) 0 (fun i => purgeD (allPurs efs) (σ i)) (fun s => ARun P N full.toArray (full.drop n) s (fun s => Φ .normal s))) (hnd : noDefer full = true := by kernel_rfl) : ACode P N (.region id full.toArray true) σ Φ := fun gv e a w ha Q0 hQ0 => by
  refine sw_region_any (K := fun s => Φ .normal s) hm hnd (fun x a' w' σ' hx hΦ ha' => by rw [hx]; exact hQ0 _ _ _ _ hΦ ha') fun Q hQ => ?_
  simp only [Bool.and_eq_true, decide_eq_true_eq] at hB
  obtain ⟨⟨⟨⟨hB1, hB2⟩, hB3⟩, hB4⟩, hB5⟩ := hB
  generalize hl : full.take n = l at *
  generalize hl2 : full.drop n = l2 at *
  have hf : full = l ++ l2 := by rw [← hl, ← hl2, List.take_append_drop]
  have hn : n = l.length := by rw [← hl]; simp; omega
  subst hf hn
  obtain ⟨st, hl, hst, hK⟩ := AQz.steps l 0 _ h
  have ha' := (ent_purgeD (allPurs efs) σ).all ha
  obtain ⟨hdf, hsz, β, F, hi⟩ := ha'
  refine any_coreZ (P := P) (Q := Q) hB1 hB2 hB4 hl (fun i q hq k hk he => ?_) (fun k o ho => by
    obtain ⟨us, D, h1, h2, h3, h4⟩ := hst k o ho
    exact ⟨us, D, h1, by simpa using h2, by simpa using h3, by simpa using h4⟩) (fun a w ha => hK gv e a w ha Q fun a' w' σ' hΦ ha' => hQ () _ _ _ hΦ ha') (l ++ l2).toArray.size (Array.replicate (l ++ l2).toArray.size false) a { w with drawn := w.drawn + 1 } (by simp) ?_ ?_ ?_ ?_
  · simp only [purgeD_eq] at hq
    split at hq
    · simp [refs] at hq
    · rename_i hany
      simp only [List.any_eq_true, not_exists, not_and] at hany
      refine hany q hq ?_
      rw [List.contains_iff_mem]
      unfold allPurs
      unfold pursX effX at he
      rw [List.getD_eq_getElem?_getD, List.getElem?_eq_getElem (by omega), Option.getD_some] at he
      exact List.mem_flatMap.2 ⟨_, List.getElem_mem _, he⟩
  · simp [List.count_replicate]
  · intro i o ho hi
    rcases Nat.lt_or_ge i (l ++ l2).length with h | h
    · simp at h; simp [h] at hi
    · simp at h; simp [h] at hi
  · intro k _
    rcases Nat.lt_or_ge k (l ++ l2).length with h | h
    · simp at h; simp [h]
    · simp at h; simp [h]
  · rw [mixX_none _ _ _ (fun k => by
      rcases Nat.lt_or_ge k (l ++ l2).length with h | h
      · simp at h; simp [h]
      · simp at h; simp [h])]
    exact ⟨hdf, hsz, β, F, hi.same rfl rfl rfl⟩
end
end Go.Av
namespace Go.Av
open Go
section
variable {P : Program} {N : Nat} {A : Bool} {σ : Sig} {ops : Array Oper} {l rest : List Oper} {efs : EffsX} {o : Oper} {K : Sig → Prop} {jj : Nat} {x : Operand}
theorem z_nil (h : K σ) : AQz P N ops l efs [] jj σ K := h
theorem z_yld {d : Nat} {v : AV} {D : List Nat} (hy : Yld P N ops o σ D d v) (he : effX efs jj = [(d, true)]) (hok : opOkX l efs jj D (roots v) = true) (h : AQz P N ops l efs rest (jj + 1) (upd σ d v) K) :
    AQz P N ops l efs (o :: rest) jj σ K :=
  ⟨[(d, v)], D, by simp [slotsX, he], fun σ' hD gv e a w ha K Q hK => hy σ' hD gv e a w ha K Q (fun a' w' ha' => hK a' w' (by
    have e1 : pursX efs jj = [d] := by simp [pursX, he]
    simp only [updL, e1, purge1]; exact ha')), by simpa [rootsU] using hok, h⟩
theorem z_new {d : Nat} {v : AV} {D : List Nat} (hv : QSem P N true o.op o.type σ D v) (hg : o.guard = none) (hd : o.dst = some d) (hN : d < N) (he : effX efs jj = [(d, true)]) (hok : opOkX l efs jj D (roots v) = true) (h : AQz P N ops l efs rest (jj + 1) (upd σ d v) K) :
    AQz P N ops l efs (o :: rest) jj σ K := z_yld (by have := hv.yld (l := ops.toList) hg hd hN; rwa [Array.toArray_toList] at this) he hok h
theorem z_val {d : Nat} {v : AV} {D : List Nat} (hv : VSem P N true o.op o.type σ D v) (hg : o.guard = none) (hd : o.dst = some d) (hN : d < N) (he : effX efs jj = [(d, true)]) (hok : opOkX l efs jj D (roots v) = true) (h : AQz P N ops l efs rest (jj + 1) (upd σ d v) K) :
    AQz P N ops l efs (o :: rest) jj σ K := z_new hv.quiet hg hd hN he hok h
theorem z_step {us : List (Nat × AV)} {D : List Nat} {ef : List (Nat × Bool)} (hg : o.guard = none) (hs : ∀ σ', (∀ i ∈ D, σ' i = σ i) → OStep P N o σ' (updL (fun i => purgeD ((ef.filter (·.2)).map (·.1)) (σ' i)) us)) (he : effX efs jj = ef)
    (hus : slotsU us = ef.map (·.1)) (hok : opOkX l efs jj D (rootsU us) = true) (h : AQz P N ops l efs rest (jj + 1) (updL σ us) K) : AQz P N ops l efs (o :: rest) jj σ K := by
  refine ⟨us, D, by rw [hus, ← he]; rfl, fun σ' hD gv e a w ha K' Q hK => ?_, hok, h⟩
  have hw : Region.wanted o (yielded ops a.tmps) = true := by simp [Region.wanted, hg]
  rw [if_pos hw]
  refine hs σ' hD gv e a w ha K' Q fun a' w' ha' => hK a' w' ?_
  unfold pursX; rw [he]; exact ha'
end
end Go.Av
namespace Go.Av
open Go
theorem purge2 (s d : Nat) (x : AV) : purgeD [s, d] x = purgeV d (purgeV s x) := by
  rw [purgeD_eq, purgeV_eq, purgeV_eq]
  by_cases h1 : (refs x).any (fun q => q.1 == s) = true
  · rw [if_pos h1, if_pos]
    · simp [refs]
    · rw [List.any_eq_true] at h1 ⊢
      obtain ⟨q, hq, he⟩ := h1
      exact ⟨q, hq, by simp only [beq_iff_eq] at he; simp [he]⟩
  · rw [if_neg h1]
    by_cases h2 : (refs x).any (fun q => q.1 == d) = true
    · rw [if_pos h2, if_pos]
      rw [List.any_eq_true] at h2 ⊢
      obtain ⟨q, hq, he⟩ := h2
      exact ⟨q, hq, by simp only [beq_iff_eq] at he; simp [he]⟩
    · rw [if_neg h2, if_neg]
      intro h3
      rw [List.any_eq_true] at h3
      obtain ⟨q, hq, he⟩ := h3
      simp only [List.contains_cons, List.contains_nil, Bool.or_false, Bool.or_eq_true, beq_iff_eq] at he
      rcases he with he | he
      · exact h1 (List.any_eq_true.2 ⟨q, hq, by simp [he]⟩)
      · exact h2 (List.any_eq_true.2 ⟨q, hq, by simp [he]⟩)
theorem purgeV_none {d : Nat} {x : AV} (h : refs x = []) : purgeV d x = x := by rw [purgeV_eq, h]; rfl
theorem refs_hole_nil {y : AV} {r : List Nat} {c : AV} (hr : refs c = []) {z : AV} (hn : node c r = some z) (hy : refs y = []) : refs (setNode c r y) = [] := by
  rw [List.eq_nil_iff_forall_not_mem]
  intro q hq
  have := refs_setNode hy hn q hq
  rw [hr] at this; cases this
section
variable {P : Program} {N : Nat} {A : Bool} {σ : Sig} {ops : Array Oper} {l rest : List Oper} {efs : EffsX} {o : Oper} {K : Sig → Prop} {jj : Nat}
theorem z_sliceLit1 {t sz x d : Nat} {zs : List AV} {v : AV} (hg : o.guard = none) (ho : o.op = sliceLit t 1 [(0, .tmp x)]) (h0 : litTy P t = some (sz, zs)) (hsm : Nat.ble sz 16777216 = true) (hd : o.dst = some d) (hN : d < N) (hxN : x < N) (hxd : x ≠ d) (hx : σ x = v)
    (hv : bigV v = true) (hn : noRefL (cellsOf v) = true) (hr : refs v = []) (hl : Nat.beq (cellsOf v).length sz = true) (he : effX efs jj = [(x, false), (d, true)]) (hok : opOkX l efs jj [x] [] = true)
    (h : AQz P N ops l efs rest (jj + 1) (updL σ [(x, .undef), (d, .osl sz (cellsOf v) 1 (some 1))]) K) : AQz P N ops l efs (o :: rest) jj σ K := by
  refine z_step (D := [x]) (us := [(x, .undef), (d, .osl sz (cellsOf v) 1 (some 1))]) hg (fun σ' hD => ?_) he rfl (by simpa [rootsU, roots, refs] using hok) h
  have := o_sliceLit1 (P := P) (N := N) (σ := σ') ho h0 hsm hd hN hxN (by rw [hD x (by simp)]; exact hx) hv hn hr hl
  rw [← upd_purge2 hxd] at this
  exact this
theorem z_append_own_ref {s x d t sz bytes n n' m : Nat} {q : Place} {cap cap' cap2 : Option Nat} {cs ns : List AV} {y' : AV} (hg : o.guard = none) (ho : o.op = appCall (.tmp s) (.tmp x) t) (ht : appTy P t = some (sz, bytes)) (hd : o.dst = some d) (hN : d < N) (hsN : s < N) (hxN : x < N)
    (hsx : s ≠ x) (hsq : s ≠ q.1) (hqx : q.1 ≠ x) (hqd : q.1 ≠ d) (hxd : x ≠ d) (hsd : s ≠ d) (hs : σ s = .rsl q sz 0 n cap) (hq : node (σ q.1) q.2 = some (.osl sz cs n' cap2)) (hqr : refs (σ q.1) = []) (hy' : setNode (σ q.1) q.2 .undef = y')
    (hx : σ x = .osl sz ns m cap') (hc : cellL ns = true) (hcl : cs.length = n * sz) (hnl : ns.length = m * sz)
    (hb : n + m ≤ 9223372036854775807 ∧ (n + m) * bytes ≤ 140737488355328) (he : effX efs jj = [(q.1, false), (s, true), (x, false), (d, true)]) (hok : opOkX l efs jj [s, q.1, x] [] = true)
    (h : AQz P N ops l efs rest (jj + 1) (updL σ [(q.1, y'), (s, .undef), (x, .undef), (d, .osl sz (cs ++ ns) (n + m) none)]) K) : AQz P N ops l efs (o :: rest) jj σ K := by
  have hyr : refs y' = [] := by rw [← hy']; exact refs_hole_nil hqr hq rfl
  have hxr : ∀ e, purgeV e (AV.osl sz ns m cap') = .osl sz ns m cap' := fun e => purgeV_none rfl
  refine z_step (D := [s, q.1, x]) (us := [(q.1, y'), (s, .undef), (x, .undef), (d, .osl sz (cs ++ ns) (n + m) none)]) hg (fun σ' hD => ?_) he rfl (by simpa [rootsU, roots, refs, hyr] using hok) h
  have e1 := hD s (by simp); have e2 := hD q.1 (by simp); have e3 := hD x (by simp)
  have hrel := ent_reloc_sl (σ := σ') (t := s) (by rw [e1]; exact hs) (by rw [e2]; exact hq)
  have hst := o_append_own (P := P) (N := N) (σ := upd (fun i => purgeV s (hole σ' q i)) s (.osl sz cs n cap)) ho ht hd hN hsN hxN hsx (by rw [upd_same]) (by
    rw [upd_other _ _ (Ne.symm hsx)]
    show purgeV s (hole σ' q x) = _
    unfold hole
    rw [upd_other _ _ (Ne.symm hqx), e3, hx, hxr]) hc hcl hnl hb
  have hfin : upd (fun i => purgeV d (upd (upd (upd (fun i => purgeV s (hole σ' q i)) s (.osl sz cs n cap)) s .undef) x .undef i)) d (.osl sz (cs ++ ns) (n + m) none)
      = updL (fun i => purgeD [s, d] (σ' i)) [(q.1, y'), (s, .undef), (x, .undef), (d, .osl sz (cs ++ ns) (n + m) none)] := by
    funext i
    simp only [updL, upd, purge2, hole]
    by_cases h1 : i = d
    · simp [h1]
    by_cases h2 : i = x
    · simp [h1, h2, purgeV]
    by_cases h3 : i = s
    · simp [h1, h2, h3, purgeV]
    by_cases h4 : i = q.1
    · subst h4
      simp only [h1, h2, h3, if_true, if_false]
      rw [e2, hy', purgeV_none hyr, purgeV_none hyr]
    · simp only [h1, h2, h3, h4, if_false]
  rw [hfin] at hst
  exact hst.pre hrel
end
end Go.Av
namespace Go.Av
open Go
def osls (L : List (List Int)) : List AV := L.map fun c => .osl 1 (icells c) c.length none
theorem osls_length (L : List (List Int)) : (osls L).length = L.length := by simp [osls]
theorem osls_append (L M : List (List Int)) : osls (L ++ M) = osls L ++ osls M := by simp [osls]
theorem shL_icells (c : List Int) : shL (icells c) = icells c := shL_id _ (ic_pure c).1 (ic_pure c).2
theorem shL_osls (L : List (List Int)) : shL (osls L) = sls L := by
  unfold osls sls
  rw [shL_eq, List.map_map]
  refine List.map_congr_left fun c _ => ?_
  simp [sh, shL_icells]
theorem sl_osls {L : List (List Int)} {n : Nat} : AV.sl (shL ((osls L).drop 0)) n = .sl (sls L) n := by rw [List.drop_zero, shL_osls]
theorem osls_noSh : ∀ (L : List (List Int)), noShL (osls L) = true
  | [] => rfl
  | c :: L => by
    have := osls_noSh L
    unfold osls at this ⊢
    simp [noShL, noSh, this, ic_noSh]
theorem osls_noRef : ∀ (L : List (List Int)), noRefL (osls L) = true
  | [] => rfl
  | c :: L => by
    have := osls_noRef L
    unfold osls at this ⊢
    simp [noRefL, noRef, this, ic_noRef]
def partO (L : List (List Int)) (i : Nat) : List AV := osls (L.take i) ++ List.replicate (L.length - i) .nils
theorem partO_zero (L : List (List Int)) : partO L 0 = rep L.length [.nils] := by
  unfold partO rep; simp [osls, List.flatMap_id', List.replicate]
theorem partO_length {L : List (List Int)} {i : Nat} (h : i ≤ L.length) : (partO L i).length = L.length := by
  unfold partO; rw [List.length_append, osls_length, List.length_take, List.length_replicate]; omega
theorem partO_set {L : List (List Int)} {i : Nat} (h : i < L.length) : (partO L i).set i (.osl 1 (icells (gl L i)) (gl L i).length none) = partO L (i + 1) := by
  unfold partO gl
  have h1 : (osls (L.take i)).length = i := by rw [osls_length, List.length_take]; omega
  rw [List.set_append_right _ _ (by omega), h1, Nat.sub_self, show L.length - i = (L.length - (i + 1)) + 1 by omega, List.replicate_succ, List.set_cons_zero,
    List.take_succ_eq_append_getElem h, osls_append, List.append_assoc, List.getElem?_eq_getElem h]
  rfl
theorem partO_full {L : List (List Int)} {i : Nat} (h : L.length ≤ i) : partO L i = osls L := by
  unfold partO; rw [List.take_of_length_le h, show L.length - i = 0 by omega]; simp
theorem gl_out {L : List (List Int)} {i : Nat} (h : L.length ≤ i) : gl L i = [] := by unfold gl; rw [List.getElem?_eq_none h]; rfl
def szR (left k : Int) : Int := if left - k < 0 then -1 else left - k
theorem len_tot {L : List (List Int)} {i : Nat} : (gl L i).length ≤ tot L L.length := by
  rcases Nat.lt_or_ge i L.length with h | h
  · have := tot_le L (i + 1); rw [tot_more h] at this; omega
  · rw [gl_out h]; simp
def cnfB (vars : Int) (L : List (List Int)) : Bool := inR vars 0 12 && decide (L.length ≤ 60) && (List.range L.length).all fun i => clB vars (gl L i)
def CnfOk (vars : Int) (L : List (List Int)) : Prop :=
  (-9223372036854775808 ≤ vars ∧ vars ≤ 9223372036854775807) ∧ L.length ≤ 1048576 ∧ tot L L.length ≤ 1048576 ∧ ∀ i j, -9223372036854775808 ≤ gd (gl L i) j ∧ gd (gl L i) j ≤ 9223372036854775807
theorem cnfB_no {vars : Int} {L : List (List Int)} {i : Nat} (hi : i < L.length) (h : clB vars (gl L i) = false) : cnfB vars L = false := by
  unfold cnfB
  rw [Bool.and_eq_false_iff]; right
  rw [List.all_eq_false]; exact ⟨i, by simpa using hi, by simp [h]⟩
theorem cnfB_yes {vars : Int} {L : List (List Int)} (h : ∀ j, j < L.length → clB vars (gl L j) = true) : cnfB vars L = (inR vars 0 12 && decide (L.length ≤ 60)) := by
  unfold cnfB
  rw [show (List.range L.length).all (fun i => clB vars (gl L i)) = true from List.all_eq_true.2 fun i hi => h i (by simpa using hi), Bool.and_true]
theorem cnfB_spec {vars : Int} {L : List (List Int)} (h : cnfB vars L = true) : (0 ≤ vars ∧ vars ≤ 12) ∧ L.length ≤ 60 ∧ ∀ j, j < L.length → clB vars (gl L j) = true := by
  simp only [cnfB, Bool.and_eq_true, inR_spec, decide_eq_true_eq, List.all_eq_true, List.mem_range] at h
  exact ⟨h.1.1, h.1.2, h.2⟩
def WeakL : List AV → List AV → Prop
  | [], [] => True
  | c :: cs, d :: ds => Weak c d ∧ WeakL cs ds
  | _, _ => False
theorem WeakL.repL {β : Place → Option (Nat × Nat)} {F : Nat → Prop} {w : World} : ∀ {cs ds : List AV}, WeakL cs ds → ∀ {p : Place} {j : Nat} {vs : List Value}, RepL β F w cs p j vs → RepL β F w ds p j vs
  | [], [], _, _, _, _, h => h
  | c :: cs, d :: ds, hw, p, j, [], h => by simp [RepL] at h
  | c :: cs, d :: ds, hw, p, j, v :: vs, h => by
    simp only [RepL] at h ⊢
    exact ⟨hw.1.1 _ _ _ _ _ h.1, WeakL.repL hw.2 h.2⟩
theorem WeakL.len : ∀ {cs ds : List AV}, WeakL cs ds → cs.length = ds.length
  | [], [], _ => rfl
  | c :: cs, d :: ds, h => by simp [WeakL.len h.2]
  | [], d :: ds, h => h.elim
  | c :: cs, [], h => h.elim
theorem WeakL.node : ∀ {cs ds : List AV}, WeakL cs ds → ∀ {i : Nat} {r : List Nat} {d z : AV}, ds[i]? = some d → Av.node d r = some z → z.isOwn = true → ∃ c z', cs[i]? = some c ∧ Av.node c r = some z' ∧ z'.isOwn = true
  | [], [], _, i, r, d, z, h, _, _ => by simp at h
  | c :: cs, d :: ds, hw, 0, r, d', z, h, hz, ho => by
    simp at h; subst h
    obtain ⟨z', h1, h2⟩ := hw.1.2 r z hz ho
    exact ⟨c, z', by simp, h1, h2⟩
  | c :: cs, d :: ds, hw, i + 1, r, d', z, h, hz, ho => by
    obtain ⟨c', z', h1, h2⟩ := WeakL.node hw.2 (i := i) (by simpa using h) hz ho
    exact ⟨c', z', by simpa using h1, h2⟩
theorem Weak.agg {cs ds : List AV} (h : WeakL cs ds) : Weak (.agg cs) (.agg ds) := by
  refine ⟨fun β F w p v hv => ?_, fun r z hz ho => ?_⟩
  · simp only [Rep] at hv ⊢
    obtain ⟨vs, h1, h2, h3⟩ := hv
    exact ⟨vs, h1, by rw [h2, h.len], h.repL h3⟩
  · cases r with
    | nil => simp [node] at hz; subst hz; simp [AV.isOwn] at ho
    | cons i r =>
      simp only [node, kids] at hz ⊢
      cases hi : ds[i]? with
      | none => rw [hi] at hz; cases hz
      | some d =>
        rw [hi] at hz
        obtain ⟨c, z', h1, h2, h3⟩ := h.node hi hz ho
        exact ⟨z', by rw [h1]; exact h2, h3⟩
end Go.Av
namespace Go.Av
theorem gl_take {L M : List (List Int)} {i : Nat} (hi : i < L.length) (hi2 : i < M.length) (h : L.take i = M.take i) (he : gl L i = gl M i) : L.take (i + 1) = M.take (i + 1) := by
  unfold gl at he
  rw [List.getElem?_eq_getElem hi, List.getElem?_eq_getElem hi2] at he
  rw [List.take_succ_eq_append_getElem hi, List.take_succ_eq_append_getElem hi2, h]
  simp only [Option.getD_some] at he
  rw [he]
end Go.Av
namespace Go.Av
open Go
section
variable {P : Program} {N : Nat} {A : Bool} {σ : Sig} {o : Oper} {d : Nat}
variable {e : Ctx} {val : Nat → Value} {w : World} {β : Place → Option (Nat × Nat)} {F : Nat → Prop}
theorem mid_get {α : Type} {fs bs : List α} {c x : α} {i : Nat} (h : (fs ++ c :: bs)[i]? = some x) : i = fs.length ∧ x = c ∨ i ≠ fs.length ∧ x ∈ fs ++ bs ∧ ∀ c', (fs ++ c' :: bs)[i]? = some x := by
  by_cases hi : i = fs.length
  · left; subst hi
    rw [List.getElem?_append_right (Nat.le_refl _), Nat.sub_self] at h
    simp at h; exact ⟨rfl, h.symm⟩
  · right
    refine ⟨hi, ?_, fun c' => ?_⟩
    · rcases Nat.lt_or_ge i fs.length with hl | hl
      · rw [List.getElem?_append_left hl] at h
        exact List.mem_append_left _ (List.mem_of_getElem? h)
      · rw [List.getElem?_append_right hl] at h
        obtain ⟨k, hk⟩ : ∃ k, i - fs.length = k + 1 := ⟨i - fs.length - 1, by omega⟩
        rw [hk, List.getElem?_cons_succ] at h
        exact List.mem_append_right _ (List.mem_of_getElem? h)
    · rcases Nat.lt_or_ge i fs.length with hl | hl
      · rw [List.getElem?_append_left hl] at h ⊢; exact h
      · rw [List.getElem?_append_right hl] at h ⊢
        obtain ⟨k, hk⟩ : ∃ k, i - fs.length = k + 1 := ⟨i - fs.length - 1, by omega⟩
        rw [hk, List.getElem?_cons_succ] at h ⊢; exact h
def refδ (β : Place → Option (Nat × Nat)) (g j : Nat) : List Nat → Option (Nat × Nat)
  | [] => none
  | i :: t => if i = j then β (g, t) else none
theorem o_box_ref {t x g sz n n' : Nat} {cap cap' : Option Nat} {fs bs cs : List AV} (ho : o.op = .box t (.tmp x)) (hd : o.dst = some d) (hN : d < N) (hxN : x < N) (hgN : N ≤ g) (hx : σ x = .agg (fs ++ .rsl (g, []) sz 0 n cap :: bs))
    (hg : σ g = .osl sz cs n' cap') (hpa : pureL fs = true) (hpb : pureL bs = true) :
    OStep P N o σ (upd (upd (fun i => purgeV d (upd σ g .undef i)) d (.op (fs ++ .osl sz cs n cap :: bs))) g (.rsl (d, [fs.length]) sz 0 n' cap')) := by
  intro gv e a w ⟨hdf, hsz, β, F, hi⟩ K Q hK
  have hdg : d ≠ g := by omega
  have hval : valOf N gv a x = a.eval (.tmp x) := by simp [valOf, hxN, Act.eval]
  have hrx := hi.rep x
  rw [hx, hval] at hrx
  simp only [Rep] at hrx
  obtain ⟨vs, ev, hlen, hrl⟩ := hrx
  have hpure : ∀ c ∈ fs ++ bs, pureV c = true := fun c hc => by
    rcases List.mem_append.1 hc with h | h
    · exact pureL_mem hpa h
    · exact pureL_mem hpb h
  obtain ⟨u, hu, hur⟩ := RepL_iff.1 hrl fs.length (.rsl (g, []) sz 0 n cap) (by rw [List.getElem?_append_right (Nat.le_refl _)]; simp)
  have hgn : node (σ ((g, []) : Place).1) ((g, []) : Place).2 = some (.osl sz cs n' cap') := by simp [node, hg]
  have hdet := hi.detach_sl (q := (g, [])) hgn hur
  have hh := hi.hole hgn
  have hhole : hole σ (g, []) = upd σ g .undef := by unfold hole; rfl
  rw [hhole] at hh hdet
  have hnr : noRefL cs = true := by
    have := hi.rep g
    rw [hg] at this
    simp only [Rep] at this
    rcases this with ⟨_, _, h, _⟩ | ⟨h, _⟩
    · subst h; rfl
    · exact h
  have hnode : ∀ {r : List Nat} {y : AV}, node (.agg (fs ++ .osl sz cs n cap :: bs)) r = some y → y.isOwn = true → ∃ t, r = fs.length :: t ∧ node (.osl sz cs n cap) t = some y := fun {r y} hy hoy => by
    cases r with
    | nil => simp [node] at hy; subst hy; simp [AV.isOwn] at hoy
    | cons i r =>
      simp only [node, kids] at hy
      cases hc : (fs ++ .osl sz cs n cap :: bs)[i]? with
      | none => rw [hc] at hy; cases hy
      | some c =>
        rw [hc] at hy
        rcases mid_get hc with ⟨rfl, rfl⟩ | ⟨_, hm, _⟩
        · exact ⟨r, rfl, hy⟩
        · rw [noOwn_pure (hpure c hm) hy] at hoy; cases hoy
  have hnrl : noRefL (fs ++ .osl sz cs n cap :: bs) = true := by
    rw [noRefL_iff]; intro c hc
    obtain ⟨i, hi'⟩ := List.getElem?_of_mem hc
    rcases mid_get hi' with ⟨_, rfl⟩ | ⟨_, hm, _⟩
    · simpa [noRef] using hnr
    · exact noRef_pure c (hpure c hm)
  have hD : Det e (upd σ g .undef) w β F (.agg (fs ++ .osl sz cs n cap :: bs)) (.agg vs.toArray) (refδ β g fs.length) := by
    refine ⟨?_, ?_, ?_, ?_⟩
    · simp only [Rep]
      refine ⟨vs, rfl, by rw [hlen]; simp, RepL_iff.2 fun i c hc => ?_⟩
      rcases mid_get hc with ⟨rfl, rfl⟩ | ⟨_, hm, hc'⟩
      · refine ⟨u, hu, hdet.rep.tr _ (fun b hb => ⟨hb, rfl⟩) (fun r y hy hoy => ⟨?_, fun _ _ _ => rfl⟩) (fun q hq => by simp [refs] at hq)⟩
        simp [refδ]
      · obtain ⟨u', hu', hr'⟩ := RepL_iff.1 hrl i c (hc' _)
        exact ⟨u', hu', hr'.pure_any (hpure c hm)⟩
    · simp only [refs]; exact refsL_of_noRef _ hnrl
    · intro r r' y y' b s s' hy hoy hy' hoy' hb hb'
      obtain ⟨t1, rfl, h1⟩ := hnode hy hoy
      obtain ⟨t2, rfl, h2⟩ := hnode hy' hoy'
      simp only [refδ, if_true] at hb hb'
      have := hdet.inj t1 t2 y y' b s s' h1 hoy h2 hoy' (by simpa using hb) (by simpa using hb')
      rw [this]
    · intro r y b s hy hoy hb
      obtain ⟨t1, rfl, h1⟩ := hnode hy hoy
      simp only [refδ, if_true] at hb
      exact hdet.sep t1 y b s h1 hoy (by simpa using hb)
  have hal := hh.alloc (.cells vs.toArray t) (fun _ _ _ h => by cases h; rfl)
  have hD' := hD.world (w' := w.alloc (.cells vs.toArray t)) (fun b hb => heap_alloc_lt (hh.fr b hb).1) (fun r y b s hy hoy hb => by
    obtain ⟨t1, rfl, h1⟩ := hnode hy hoy
    simp only [refδ, if_true] at hb
    exact heap_alloc_lt (hdet.lt h1 hoy (by simpa using hb)))
  have hop := hD'.op hnrl (heap_alloc_new w _) (fun j x hx => by simpa using hx) (fun hF => by have := (hh.fr _ hF).1; omega) (.inl hh.grow)
    (fun q s hq hb => by have := hh.own_lt hq hb; omega) (fun r y s hy hoy hb => by
      obtain ⟨t1, rfl, h1⟩ := hnode hy hoy
      simp only [refδ, if_true] at hb
      have := hdet.lt h1 hoy (by simpa using hb); omega)
  have hat := hal.attach d hop
  have hrg : Rep β F w (.osl sz cs n' cap') (g, []) (valOf N gv a g) := by have := hi.rep g; rwa [hg] at this
  have hfin := hat.set g (x := .rsl (d, [fs.length]) sz 0 n' cap') (v := valOf N gv a g) (by
    simp only [Rep] at hrg ⊢
    simp only [if_true, refδ, List.cons_ne_nil, if_false]
    rcases hrg with ⟨h1, h2, _, h4, h5⟩ | ⟨_, b, capv, arr, tt, h1, h2, h3, h4, _⟩
    · exact .inl ⟨h1, h2, h4, h5⟩
    · exact .inr ⟨b, capv, by rw [h1]; simp, h2, h3, h4⟩) (noOwn_scalar rfl)
  have hv : upd (upd (valOf N gv a) d (.pointer (some ⟨w.heap.size, 0, none⟩))) g (valOf N gv a g) = valOf N gv (a.put (some d) (.pointer (some ⟨w.heap.size, 0, none⟩))) := by
    rw [valOf_put hsz hN]
    funext i
    by_cases hig : i = g
    · subst hig; rw [upd_same, upd_other _ _ (Ne.symm hdg)]
    · rw [upd_other _ _ hig]
  rw [hv, ← hd] at hfin
  refine wp_value (v := .pointer (some ⟨w.heap.size, 0, none⟩)) (w' := w.alloc (.cells vs.toArray t)) ?_ (hK _ _ ⟨?_, ?_, _, F, hfin⟩)
  · simp [execOp, ho, Instr.box, newVar, newRow, ev]; rfl
  · rw [hd]; exact hdf
  · rw [hd, size_put]; exact hsz
end
end Go.Av
namespace Go.Av
open Go
def mkI (k : Int) (n : Nat) : List Int := (List.range n).map fun (i : Nat) => k + (i : Int)
theorem mkI_length (k : Int) (n : Nat) : (mkI k n).length = n := by simp [mkI]
def mkIPart (k : Int) (xs : List Int) (i : Nat) : List Int := mkI k i ++ xs.drop i
theorem mkIPart_length {k : Int} {xs : List Int} {i : Nat} (h : i ≤ xs.length) : (mkIPart k xs i).length = xs.length := by simp [mkIPart, mkI_length]; omega
theorem mkIPart_set {k : Int} {xs : List Int} {i : Nat} (h : i < xs.length) : (mkIPart k xs i).set i (k + (i : Int)) = mkIPart k xs (i + 1) := by
  unfold mkIPart
  have e : xs.drop i = xs[i] :: xs.drop (i + 1) := List.drop_eq_getElem_cons h
  rw [List.set_append_right _ _ (by rw [mkI_length]; exact Nat.le_refl _), mkI_length, Nat.sub_self, e, List.set_cons_zero]
  simp only [mkI, List.range_succ, List.map_append, List.map_cons, List.map_nil, List.append_assoc, List.cons_append, List.nil_append]
theorem mkIPart_full {k : Int} {xs : List Int} {i : Nat} (h : i = xs.length) : mkIPart k xs i = mkI k xs.length := by subst h; simp [mkIPart]
theorem mkIPart_zero (k : Int) (xs : List Int) : mkIPart k xs 0 = xs := by simp [mkIPart, mkI]
theorem gd_elem {xs : List Int} {i : Nat} (h : i < xs.length) : xs[i] = gd xs i := by simp [gd, h]
theorem gd_bd {xs : List Int} (h : ∀ x ∈ xs, -9223372036854775808 ≤ x ∧ x ≤ 9223372036854775807) (j : Nat) : -9223372036854775808 ≤ gd xs j ∧ gd xs j ≤ 9223372036854775807 := by
  rcases Nat.lt_or_ge j xs.length with hj | hj
  · exact h _ (List.mem_of_getElem? (gd_get hj))
  · have : gd xs j = 0 := by simp [gd, hj]
    omega
theorem Weak.rsl_emp {q : Place} {sz off : Nat} {cap : Option Nat} : Weak (.rsl q sz off 0 cap) (.sl [] 0) := by
  refine ⟨fun β F w p v hv => ?_, fun r z hz ho => ?_⟩
  · simp only [Rep] at hv ⊢
    rcases hv with ⟨_, ⟨a, rfl⟩, _⟩ | ⟨b, capv, _, rfl, _⟩
    · exact ⟨Eq.refl _, a, 0, Eq.refl _, Nat.le_refl _, fun h => absurd (Eq.refl _) h⟩
    · exact ⟨Eq.refl _, _, capv, Eq.refl _, Nat.zero_le _, fun h => absurd (Eq.refl _) h⟩
  · cases r with
    | nil => simp [node] at hz; subst hz; simp [AV.isOwn] at ho
    | cons j r => simp [node, kids] at hz
def mkSS (k : Int) (L : List (List Int)) : List (List Int) := (List.range L.length).map fun i => mkI (k + (tot L i : Nat)) (gl L i).length
theorem mkSS_length (k : Int) (L : List (List Int)) : (mkSS k L).length = L.length := by simp [mkSS]
theorem mkSS_get {k : Int} {L : List (List Int)} {i : Nat} (h : i < L.length) : gl (mkSS k L) i = mkI (k + (tot L i : Nat)) (gl L i).length := by
  unfold mkSS; rw [gl, List.getElem?_map, List.getElem?_range h]; rfl
def mkSSP (k : Int) (L : List (List Int)) (i : Nat) : List (List Int) := (mkSS k L).take i ++ L.drop i
theorem mkSSP_zero (k : Int) (L : List (List Int)) : mkSSP k L 0 = L := by simp [mkSSP]
theorem mkSSP_length {k : Int} {L : List (List Int)} {i : Nat} (h : i ≤ L.length) : (mkSSP k L i).length = L.length := by
  unfold mkSSP; rw [List.length_append, List.length_take, mkSS_length, List.length_drop]; omega
theorem mkSSP_full {k : Int} {L : List (List Int)} {i : Nat} (h : L.length ≤ i) : mkSSP k L i = mkSS k L := by
  unfold mkSSP; rw [List.take_of_length_le (by rw [mkSS_length]; exact h), List.drop_of_length_le h, List.append_nil]
theorem mkSSP_get {k : Int} {L : List (List Int)} {i : Nat} (h : i < L.length) : gl (mkSSP k L i) i = gl L i := by
  unfold mkSSP gl
  have h1 : ((mkSS k L).take i).length = i := by rw [List.length_take, mkSS_length]; omega
  rw [List.getElem?_append_right (by omega), h1, Nat.sub_self, List.getElem?_drop, Nat.add_zero]
theorem mkSSP_set {k : Int} {L : List (List Int)} {i : Nat} (h : i < L.length) : (mkSSP k L i).set i (mkI (k + (tot L i : Nat)) (gl L i).length) = mkSSP k L (i + 1) := by
  unfold mkSSP
  have h1 : ((mkSS k L).take i).length = i := by rw [List.length_take, mkSS_length]; omega
  rw [List.set_append_right _ _ (by omega), h1, Nat.sub_self, List.drop_eq_getElem_cons h, List.set_cons_zero]
  have h2 : i < (mkSS k L).length := by rw [mkSS_length]; exact h
  rw [List.take_succ_eq_append_getElem h2, List.append_assoc]
  congr 1
  have := mkSS_get (k := k) h
  unfold gl at this ⊢
  rw [List.getElem?_eq_getElem h2] at this
  simp only [Option.getD_some] at this
  rw [this]; rfl
theorem osls_get {L : List (List Int)} {i : Nat} (h : i < L.length) : (osls L)[i]? = some (.osl 1 (icells (gl L i)) (gl L i).length none) := by
  unfold osls gl; rw [List.getElem?_map, List.getElem?_eq_getElem h]; rfl
theorem osls_set (L : List (List Int)) (i : Nat) (c : List Int) : (osls L).set i (.osl 1 (icells c) c.length none) = osls (L.set i c) := by
  unfold osls; rw [List.map_set]
theorem mkI_len (k : Int) (n : Nat) : (mkI k n).length = n := mkI_length k n
end Go.Av
namespace Go.Av
open Go Go.Proofs
theorem es25 : elemSize Tryz.prog 25 = some 1 := by kernel_rfl
theorem sb3 : (Tryz.prog.info? 3).map (fun i => (i.size, i.bytes)) = some (1, 8) := by kernel_rfl
theorem us25 : Tryz.prog.underlying 25 = some (.slice 3) := by kernel_rfl
theorem zc3 : zeroCells Tryz.prog 3 = some [.int .i64 0] := by kernel_rfl
theorem markTermS_c (xs : List (Int × Int)) (k : Int) (h : -9000000000000000000 ≤ k ∧ k + 2 * xs.length ≤ 9223372036854775807) : ACall Tryz.prog 66 [.rsl (INH, []) 2 0 xs.length none, .int .i64 k] [.osl 2 (tcells xs) xs.length none] (.int .i64 (k + 2 * xs.length)) [.osl 2 (tcells (mkT k xs.length)) xs.length none] := by
  refine ACall.intro Tryz.func66 rfl (N := 27) rfl (by decide) (by simp) ?_
  refine aq ?_
  refine ra (.int _ _) ?_
  refine r_nil ?_
  refine a_seq ?_
  refine aq ?_
  refine ra (.int _ _) ?_
  refine r_nil ?_
  refine a_block ?_
  refine a_loop (X := Nat) (fun i => look [(0, .rsl (INH, []) 2 0 xs.length none), (1, .int .i64 (k + 2 * (i : Nat))), (5, .int .i64 (i : Int)), (INH, .osl 2 (tcells (mkPart k xs i)) xs.length none)]) (fun i => i ≤ xs.length) (fun i => xs.length - i) 0 (ent_look ⟨wr, Weak.of_eq (int_eq (by omega)), wr, Weak.of_eq (osl_eq (by rw [mkPart_zero])), trivial⟩) (Nat.zero_le _) (fun i hG => ?_)
  refine a_seq ?_
  refine aq ?_
  refine rm (.int _ _) ?_
  refine rm (.rsl _ _ _ _ _) ?_
  refine rv (v := .int _ _) (v_len_rsl sl72 il) ?_
  refine rv (v := .bool _) (v_lss il il) ?_
  refine r_nil ?_
  refine a_cond rfl (fun ht9 => ?_) (fun ht9 => ?_)
  ·
    refine a_skip ?_
    refine a_seq ?_
    refine a_block ?_
    refine aq ?_
    have hi : i < xs.length := (by simp at ht9; omega)
    have hlen : i * 2 + 1 < (tcells (mkPart k xs i)).length := tcells_len1 (by rw [mkPart_length (by omega)]; exact hi)
    have hq1 : i * 2 + 0 + 1 ≤ (tcells (mkPart k xs i)).length := (by omega)
    have hq2 : i * 2 + 1 + 1 ≤ ((tcells (mkPart k xs i)).set (i * 2 + 0) (.int .i64 (k + 2 * (i : Nat)))).length := (by rw [List.length_set]; omega)
    have hset : ((tcells (mkPart k xs i)).set (i * 2 + 0) (.int .i64 (k + 2 * (i : Nat)))).set (i * 2 + 1) (.int .i64 (k + 2 * (i : Nat) + 1)) = tcells (mkPart k xs (i + 1)) := (by rw [Nat.add_zero, tcells_set, ← mkPart_set hi])
    refine rm (.rsl _ _ _ _ _) ?_
    refine rm (.int _ _) ?_
    refine rm (.int _ _) ?_
    refine rv (v := .rp _ _) (v_indexAddr_rsl0 es72 il il (fun _ => by omega)) ?_
    refine rv (v := .rp _ _) (v_fieldAddr_rp fo119_0 il) ?_
    refine r_step rfl (o_store (v := .int _ _) (y' := .osl _ _ _ _) rfl rfl ta3 il il rfl rfl rfl rfl rfl rfl hq1 (by decide) rfl rfl) ?_
    refine r_nil ?_
    refine aq ?_
    refine rm (.int _ _) ?_
    refine rv (v := .int _ _) (v_add il il (fun _ => by omega)) ?_
    refine ra (.int _ _) ?_
    refine r_nil ?_
    refine aq ?_
    refine rm (.rsl _ _ _ _ _) ?_
    refine rm (.int _ _) ?_
    refine rm (.int _ _) ?_
    refine rv (v := .rp _ _) (v_indexAddr_rsl0 es72 il il (fun _ => by omega)) ?_
    refine rv (v := .rp _ _) (v_fieldAddr_rp fo119_1 il) ?_
    refine r_step rfl (o_store (v := .int _ _) (y' := .osl _ _ _ _) rfl rfl ta3 il il rfl rfl rfl rfl rfl rfl hq2 (by decide) rfl (congrArg (fun c => AV.osl 2 c xs.length none) hset)) ?_
    refine r_nil ?_
    refine a_region ?_
    refine rm (.int _ _) ?_
    refine rv (v := .int _ _) (v_add il il (fun _ => by omega)) ?_
    refine ra (.int _ _) ?_
    refine r_nil ?_
    refine a_region ?_
    refine rm (.int _ _) ?_
    refine rv (v := .int _ _) (v_add il il (fun _ => by omega)) ?_
    refine ra (.int _ _) ?_
    refine r_nil ?_
    refine ⟨i + 1, ent_look ⟨wr, Weak.of_eq (int_eq (by omega)), Weak.of_eq (int_eq (by omega)), wr, trivial⟩, by omega, by omega⟩
  ·
    refine a_exit ?_
    refine aq ?_
    refine rm (.int _ _) ?_
    refine ra (.int _ _) ?_
    refine r_nil ?_
    refine a_ret ?_
    refine ret1 Tryz.results66 (by decide) (by decide) (Weak.of_eq (int_eq ?_)) rfl (Leaves.one (Weak.of_eq (osl_eq (by simp at ht9; rw [mkPart_full (by omega)]))) rfl)
    simp at ht9; omega
theorem heldTermS_c (n : Nat) (k : Int) (h : -9000000000000000000 ≤ k ∧ k + 2 * n ≤ 9223372036854775807) : ACall Tryz.prog 67 [.sl (tcells (mkT k n)) n, .int .i64 k] [] (.int .i64 (k + 2 * n)) [] := by
  refine ACall.intro Tryz.func67 rfl (N := 31) rfl (by decide) (by simp) ?_
  refine aq ?_
  refine ra (.int _ _) ?_
  refine r_nil ?_
  refine a_seq ?_
  refine aq ?_
  refine ra (.int _ _) ?_
  refine r_nil ?_
  refine a_block ?_
  refine a_loop (X := Nat) (fun i => look [(0, .sl (tcells (mkT k n)) n), (1, .int .i64 (k + 2 * (i : Nat))), (5, .int .i64 (i : Int))]) (fun i => i ≤ n) (fun i => n - i) 0 (ent_look ⟨wr, Weak.of_eq (int_eq (by omega)), wr, trivial⟩) (Nat.zero_le _) (fun i hG => ?_)
  refine a_seq ?_
  refine aq ?_
  refine rm (.int _ _) ?_
  refine rm (.sl _ _) ?_
  refine rv (v := .int _ _) (v_len_sl sl72 il) ?_
  refine rv (v := .bool _) (v_lss il il) ?_
  refine r_nil ?_
  refine a_cond rfl (fun ht9 => ?_) (fun ht9 => ?_)
  ·
    refine a_skip ?_
    refine a_seq ?_
    refine a_block ?_
    refine a_seq ?_
    refine aq ?_
    have hi : i < n := (by simp at ht9; omega)
    refine rm (.sl _ _) ?_
    refine rm (.int _ _) ?_
    refine rv (v := .pp _ _) (v_indexAddr_sl es72 il il (fun _ => ⟨by omega, by omega, tcells_ne (i := i) (by rw [mkT_length]; exact hi)⟩)) ?_
    refine rv (v := .pp _ _) (v_fieldAddr_pp fo119_0 il) ?_
    refine rv (v := .int .i64 (k + 2 * (i : Nat))) (v_load_pp ta3 il (fun _ => tcells_get0 (i := i) (mkT_get hi)) rfl) ?_
    refine rm (.int _ _) ?_
    refine rv (v := .bool _) (v_neq il il) ?_
    refine r_nil ?_
    refine a_cond rfl (fun ht18 => ?_) (fun ht18 => ?_)
    ·
      refine aq ?_
      refine ra (.int _ _) ?_
      refine r_nil ?_
      refine a_ret ?_
      refine ret1 Tryz.results67 (by decide) (by decide) (Weak.of_eq (int_eq ?_)) rfl Leaves.nil
      exfalso; simp at ht18
    ·
      refine a_skip ?_
      refine aq ?_
      refine rm (.int _ _) ?_
      refine rv (v := .int _ _) (v_add il il (fun _ => by omega)) ?_
      refine ra (.int _ _) ?_
      refine r_nil ?_
      refine a_seq ?_
      refine aq ?_
      refine rm (.sl _ _) ?_
      refine rm (.int _ _) ?_
      refine rv (v := .pp _ _) (v_indexAddr_sl es72 il il (fun _ => ⟨by omega, by omega, tcells_ne (i := i) (by rw [mkT_length]; exact hi)⟩)) ?_
      refine rv (v := .pp _ _) (v_fieldAddr_pp fo119_1 il) ?_
      refine rv (v := .int .i64 (k + 2 * (i : Nat) + 1)) (v_load_pp ta3 il (fun _ => tcells_get1 (i := i) (mkT_get hi)) rfl) ?_
      refine rm (.int _ _) ?_
      refine rv (v := .bool _) (v_neq il il) ?_
      refine r_nil ?_
      refine a_cond rfl (fun ht27 => ?_) (fun ht27 => ?_)
      ·
        refine aq ?_
        refine ra (.int _ _) ?_
        refine r_nil ?_
        refine a_ret ?_
        refine ret1 Tryz.results67 (by decide) (by decide) (Weak.of_eq (int_eq ?_)) rfl Leaves.nil
        exfalso; simp at ht27
      ·
        refine a_skip ?_
        refine a_region ?_
        refine rm (.int _ _) ?_
        refine rv (v := .int _ _) (v_add il il (fun _ => by omega)) ?_
        refine ra (.int _ _) ?_
        refine r_nil ?_
        refine a_region ?_
        refine rm (.int _ _) ?_
        refine rv (v := .int _ _) (v_add il il (fun _ => by omega)) ?_
        refine ra (.int _ _) ?_
        refine r_nil ?_
        refine ⟨i + 1, ent_look ⟨wr, Weak.of_eq (int_eq (by omega)), Weak.of_eq (int_eq (by omega)), trivial⟩, by omega, by omega⟩
  ·
    refine a_exit ?_
    refine aq ?_
    refine rm (.int _ _) ?_
    refine ra (.int _ _) ?_
    refine r_nil ?_
    refine a_ret ?_
    refine ret1 Tryz.results67 (by decide) (by decide) (Weak.of_eq (int_eq ?_)) rfl Leaves.nil
    simp at ht9; omega
theorem l18Dense_c (p vars : Int) (xs : List (Int × Int)) (hp : prime p vars = true) (hg : goodL p vars xs = true) (hl : (xs.length : Int) ≤ 9223372036854775807) : ACall Tryz.prog 101 [.int .i64 vars, .sl (tcells xs) xs.length] [] (.osl 1 (icells (accp p (dn vars) xs)) (dn vars) none) [] := by
  have hp := prime_spec hp
  have hw := pow6 hp.2
  have hd := dn_le hp.2
  have hc := dn_cast vars
  refine ACall.intro Tryz.func101 rfl (N := 29) rfl (by decide) (by simp) ?_
  refine aq ?_
  refine ra .nils ?_
  refine r_nil ?_
  refine aq ?_
  refine rm (.int _ _) ?_
  refine rv (v := .int .i64 ((dn vars : Nat) : Int)) ((v_shl il il (fun _ => by omega)).cast (int_eq (by omega))) ?_
  refine rn (v := .osl _ _ _ _) (q_makeSlice us25 sb3 zc3 rfl (by decide) il il (fun _ => by omega)) ?_
  refine ra (.rsl _ _ _ _ _) ?_
  refine r_pre (ent_reloc_sl (t := 5) rfl rfl) ?_
  refine r_nil ?_
  refine a_seq ?_
  refine aq ?_
  refine ra (.int _ _) ?_
  refine r_nil ?_
  refine a_block ?_
  refine a_loop (X := Nat) (fun i => look [(1, .sl (tcells xs) xs.length), (5, .osl 1 (icells (accp p (dn vars) (xs.take i))) (dn vars) (some (dn vars))), (6, .int .i64 (i : Int))]) (fun i => i ≤ xs.length) (fun i => xs.length - i) 0 (ent_look ⟨wr, Weak.of_eq (osl_eq (by rw [List.take_zero, icells_rep]; rfl)), wr, trivial⟩) (Nat.zero_le _) (fun i hG => ?_)
  refine a_seq ?_
  refine aq ?_
  refine rm (.int _ _) ?_
  refine rm (.sl _ _) ?_
  refine rv (v := .int _ _) (v_len_sl sl72 il) ?_
  refine rv (v := .bool _) (v_lss il il) ?_
  refine r_nil ?_
  refine a_cond rfl (fun ht13 => ?_) (fun ht13 => ?_)
  ·
    refine a_skip ?_
    refine a_seq ?_
    refine a_block ?_
    refine a_region_tail (n := 12) mixed (by kernel_rfl) ?_
    have hi : i < xs.length := (by simp at ht13; omega)
    have hs := good_spec hg hi
    have hpl : (tm xs i).1.toNat * 1 + 1 ≤ (icells (accp p (dn vars) (xs.take i))).length := (by rw [icells_length, accp_length]; omega)
    refine t_val (v := .rsl _ _ _ _ _) (v_move (.inl rfl) nf) rfl rfl (by decide) (by kernel_rfl) ?_
    refine t_val (v := .sl _ _) (v_move (.inl rfl) nf) rfl rfl (by decide) (by kernel_rfl) ?_
    refine t_val (v := .int _ _) (v_move (.inl rfl) nf) rfl rfl (by decide) (by kernel_rfl) ?_
    refine t_val (v := .pp _ _) (v_indexAddr_sl es72 (.inl rfl) (.inl rfl) (fun _ => ⟨by omega, by omega, tcells_ne hi⟩)) rfl rfl (by decide) (by kernel_rfl) ?_
    refine t_val (v := .pp _ _) (v_fieldAddr_pp fo119_0 (.inl rfl)) rfl rfl (by decide) (by kernel_rfl) ?_
    refine t_val (v := .int .i64 (tm xs i).1) (v_load_pp ta3 (.inl rfl) (fun _ => tcells_get0 (i := i) (tm_get hi)) rfl) rfl rfl (by decide) (by kernel_rfl) ?_
    refine t_val (v := .sl _ _) (v_move (.inl rfl) nf) rfl rfl (by decide) (by kernel_rfl) ?_
    refine t_val (v := .int _ _) (v_move (.inl rfl) nf) rfl rfl (by decide) (by kernel_rfl) ?_
    refine t_val (v := .pp _ _) (v_indexAddr_sl es72 (.inl rfl) (.inl rfl) (fun _ => ⟨by omega, by omega, tcells_ne hi⟩)) rfl rfl (by decide) (by kernel_rfl) ?_
    refine t_val (v := .pp _ _) (v_fieldAddr_pp fo119_1 (.inl rfl)) rfl rfl (by decide) (by kernel_rfl) ?_
    refine t_val (v := .int .i64 (tm xs i).2) (v_load_pp ta3 (.inl rfl) (fun _ => tcells_get1 (i := i) (tm_get hi)) rfl) rfl rfl (by decide) (by kernel_rfl) ?_
    refine t_val (v := .rp _ _) (v_indexAddr_rsl0 es25 (.inl rfl) (.inl rfl) (fun _ => by omega)) rfl rfl (by decide) (by kernel_rfl) ?_
    refine t_nil ?_
    refine r_step rfl (o_store (v := .int _ _) (y' := .osl _ _ _ _) rfl rfl ta3 il il rfl rfl rfl rfl rfl rfl hpl (by decide) rfl (congrArg (fun c => AV.osl 1 c (dn vars) (some (dn vars))) ((congrArg (fun j => (icells _).set j _) (Nat.mul_one _)).trans (icells_set.trans (congrArg icells (good_set hg hi)))))) ?_
    refine r_nil ?_
    refine a_region ?_
    refine rm (.int _ _) ?_
    refine rv (v := .int _ _) (v_add il il (fun _ => by omega)) ?_
    refine ra (.int _ _) ?_
    refine r_nil ?_
    refine ⟨i + 1, ent_look ⟨wr, wr, Weak.of_eq (int_eq (by omega)), trivial⟩, by omega, by omega⟩
  ·
    refine a_exit ?_
    refine aq ?_
    refine rm (.rsl _ _ _ _ _) ?_
    refine ra (.rsl _ _ _ _ _) ?_
    refine r_pre (ent_reloc_sl (t := 4) rfl rfl) ?_
    refine r_nil ?_
    refine a_ret ?_
    refine ret1 Tryz.results101 (by decide) (by decide) (Weak.osl ?_ ?_) rfl Leaves.nil
    · simp at ht13; rw [List.take_of_length_le (by omega)]
    · rfl
theorem ap72 : appTy Tryz.prog 72 = some (2, 16) := by kernel_rfl
theorem es87 : elemSize Tryz.prog 87 = some 1 := by kernel_rfl
theorem fo90_1 : fieldOff Tryz.prog 90 1 = some 1 := by kernel_rfl
theorem lt72 : litTy Tryz.prog 72 = some (2, [.int .i64 0, .int .i64 0]) := by kernel_rfl
theorem sl25 : isSlice Tryz.prog 25 = true := by kernel_rfl
theorem sl87 : isSlice Tryz.prog 87 = true := by kernel_rfl
theorem sp119 : structPl Tryz.prog 119 = some ([.int .i64 0, .int .i64 0], [(0, 1), (1, 1)]) := by kernel_rfl
theorem us87 : Tryz.prog.underlying 87 = some (.slice 3) := by kernel_rfl
theorem zero_c (p vars : Int) (hp : 0 ≤ vars ∧ vars ≤ 6) : ACall Tryz.prog 57 [.agg [.int .i64 p, .int .i64 vars]] [] (.osl 1 (icells (List.replicate (dn vars) 0)) (dn vars) none) [] := by
  have hw := pow6 hp
  have hd := dn_le hp
  have hc := dn_cast vars
  refine ACall.intro Tryz.func57 rfl (N := 7) rfl (by decide) (by simp) ?_
  refine aq ?_
  refine rn (v := .op [.int _ _, .int _ _]) (q_box il rfl rfl) ?_
  refine ra .nils ?_
  refine r_nil ?_
  refine aq ?_
  refine rv (v := .rp _ _) (v_fieldAddr_rp fo90_1 il) ?_
  refine rv (v := .int _ _) (v_load_rp1 ta3 il rfl (fun _ => rfl) rfl) ?_
  refine rv (v := .int .i64 ((dn vars : Nat) : Int)) ((v_shl il il (fun _ => by omega)).cast (int_eq (by omega))) ?_
  refine rn (v := .osl _ _ _ _) (q_makeSlice us87 sb3 zc3 rfl (by decide) il il (fun _ => by omega)) ?_
  refine ra (.rsl _ _ _ _ _) ?_
  refine r_pre (ent_reloc_sl (t := 2) rfl rfl) ?_
  refine r_nil ?_
  refine a_ret ?_
  refine ret1 Tryz.results57 (by decide) (by decide) (Weak.osl ?_ ?_) rfl Leaves.nil
  · exact icells_rep _
  · rfl
theorem l18Sparse_c (p : Int) (all : List Int) (n : Nat) (h : 1 ≤ p ∧ all.length = n ∧ n ≤ 4096 ∧ ∀ i, 0 ≤ gd all i) : ACall Tryz.prog 102 [.int .i64 p, .sl (icells all) n] [] (.osl 2 (tcells (trm (modp p all))) (trm (modp p all)).length none) [] := by
  refine ACall.intro Tryz.func102 rfl (N := 30) rfl (by decide) (by simp) ?_
  refine aq ?_
  refine ra .nils ?_
  refine r_nil ?_
  refine aq ?_
  refine rn (v := .osl _ _ _ _) (q_sliceLit (n := 0) (parts := []) lt72 rfl rfl rfl rfl) ?_
  refine ra (.rsl _ _ _ _ _) ?_
  refine r_pre (ent_reloc_sl (t := 5) rfl rfl) ?_
  refine r_nil ?_
  refine a_seq ?_
  refine aq ?_
  refine ra (.int _ _) ?_
  refine r_nil ?_
  refine a_block ?_
  refine a_loop (X := Nat) (fun i => look [(0, .int .i64 p), (1, .sl (icells all) n), (5, .osl 2 (tcells (trmTo (modp p all) i)) (trmTo (modp p all) i).length none), (6, .int .i64 (i : Int))]) (fun i => i ≤ n) (fun i => n - i) 0 (ent_look ⟨wr, wr, Weak.osl rfl rfl, wr, trivial⟩) (Nat.zero_le _) (fun i hG => ?_)
  refine a_seq ?_
  refine aq ?_
  refine rm (.int _ _) ?_
  refine rm (.sl _ _) ?_
  refine rv (v := .int _ _) (v_len_sl sl25 il) ?_
  refine rv (v := .bool _) (v_lss il il) ?_
  refine r_nil ?_
  refine a_cond rfl (fun ht12 => ?_) (fun ht12 => ?_)
  ·
    refine a_skip ?_
    refine a_seq ?_
    refine a_block ?_
    refine aq ?_
    have hi : i < all.length := (by simp at ht12; omega)
    have hn := h.2.2.2 i
    have hlen := trmTo_len (modp p all) i
    refine rm (.sl _ _) ?_
    refine rm (.int _ _) ?_
    refine rv (v := .pp _ _) (v_indexAddr_sl es25 il il (fun _ => ⟨by omega, by omega, icells_ne hi⟩)) ?_
    refine rv (v := .int .i64 (gd all i)) (v_load_pp ta3 il (fun _ => by rw [Nat.mul_one]; exact icells_get (gd_get hi)) rfl) ?_
    refine rm (.int _ _) ?_
    refine rv (v := .int _ _) (v_rem il il (fun _ => by omega)) ?_
    refine ra (.int _ _) ?_
    refine r_nil ?_
    refine aq ?_
    refine rm (.int _ _) ?_
    refine rv (v := .bool _) (v_neq il il) ?_
    refine r_nil ?_
    refine a_cond rfl (fun ht22 => ?_) (fun ht22 => ?_)
    ·
      refine a_region ?_
      refine rm (.rsl _ _ _ _ _) ?_
      refine rm (.int _ _) ?_
      refine rm (.int _ _) ?_
      refine rv (v := .agg [.int _ _, .int _ _]) (v_build sp119 rfl rfl) ?_
      refine rn (v := .osl _ _ _ _) (q_sliceLit (n := 1) (parts := [(0, .tmp 26)]) lt72 rfl rfl rfl rfl) ?_
      refine r_pre (ent_reloc_sl (t := 23) rfl rfl) ?_
      refine r_step rfl (o_append rfl ap72 rfl (by decide) (by decide) rfl (src_lit (.inl rfl) rfl rfl rfl) rfl (by rw [tcells_length]) (by omega)) ?_
      refine ra (.rsl _ _ _ _ _) ?_
      refine r_pre (ent_reloc_sl (t := 5) rfl rfl) ?_
      refine r_nil ?_
      refine a_region ?_
      refine rm (.int _ _) ?_
      refine rv (v := .int _ _) (v_add il il (fun _ => by omega)) ?_
      refine ra (.int _ _) ?_
      refine r_nil ?_
      have hne : gd (modp p all) i ≠ 0 := (by rw [gd_modp]; simpa using ht22)
      have hm := trmTo_more hne
      refine ⟨i + 1, ent_look ⟨wr, wr, Weak.osl (tcells_app.trans (by rw [hm, gd_modp])) (by rw [hm]; simp), Weak.of_eq (int_eq (by omega)), trivial⟩, by omega, by omega⟩
    ·
      refine a_skip ?_
      refine a_region ?_
      refine rm (.int _ _) ?_
      refine rv (v := .int _ _) (v_add il il (fun _ => by omega)) ?_
      refine ra (.int _ _) ?_
      refine r_nil ?_
      have hm := trmTo_skip (d := modp p all) (i := i) (by rw [gd_modp]; simpa using ht22)
      refine ⟨i + 1, ent_look ⟨wr, wr, Weak.osl (by rw [hm]) (by rw [hm]), Weak.of_eq (int_eq (by omega)), trivial⟩, by omega, by omega⟩
  ·
    refine a_exit ?_
    refine aq ?_
    refine rm (.rsl _ _ _ _ _) ?_
    refine ra (.rsl _ _ _ _ _) ?_
    refine r_pre (ent_reloc_sl (t := 4) rfl rfl) ?_
    refine r_nil ?_
    refine a_ret ?_
    refine ret1 Tryz.results102 (by decide) (by decide) (Weak.osl ?_ ?_) rfl Leaves.nil
    · simp at ht12; unfold trm; rw [modp_length, show i = all.length by omega]
    · simp at ht12; unfold trm; rw [modp_length, show i = all.length by omega]
theorem terms_c (d : List Int) (n : Nat) (h : d.length = n ∧ n ≤ 4096) : ACall Tryz.prog 63 [.sl (icells d) n] [] (.osl 2 (tcells (trm d)) (trm d).length none) [] := by
  refine ACall.intro Tryz.func63 rfl (N := 23) rfl (by decide) (by simp) ?_
  refine aq ?_
  refine ra .nils ?_
  refine r_nil ?_
  refine aq ?_
  refine ra .nils ?_
  refine r_nil ?_
  refine a_seq ?_
  refine aq ?_
  refine rm (.sl _ _) ?_
  refine rv (v := .int _ _) (v_len_sl sl87 il) ?_
  refine rm (.int _ _) ?_
  refine r_nil ?_
  refine a_block ?_
  refine a_pre (ent_nil (t := 3) (sz := 2) (cap := none) (.inl rfl) (fun _ h => by cases h)) ?_
  refine a_loop (X := Nat) (fun i => look [(3, .osl 2 (tcells (trmTo d i)) (trmTo d i).length none), (6, .sl (icells d) n), (7, .int .i64 (n : Int)), (8, .int .i64 (i : Int))]) (fun i => i ≤ n) (fun i => n - i) 0 (ent_look ⟨Weak.osl rfl rfl, wr, wr, wr, trivial⟩) (Nat.zero_le _) (fun i hG => ?_)
  refine aq ?_
  refine rv (v := .bool _) (v_lss il il) ?_
  refine r_nil ?_
  refine a_seq ?_
  refine a_cond rfl (fun ht9 => ?_) (fun ht9 => ?_)
  ·
    refine a_skip ?_
    refine a_seq ?_
    refine a_block ?_
    refine aq ?_
    have hi : i < d.length := (by simp at ht9; omega)
    have hlen := trmTo_len d i
    refine rm (.int _ _) ?_
    refine rv (v := .pp _ _) (v_indexAddr_sl es87 il il (fun _ => ⟨by omega, by omega, icells_ne hi⟩)) ?_
    refine rv (v := .int .i64 (gd d i)) (v_load_pp ta3 il (fun _ => by rw [Nat.mul_one]; exact icells_get (gd_get hi)) rfl) ?_
    refine ra (.int _ _) ?_
    refine ra (.int _ _) ?_
    refine r_nil ?_
    refine aq ?_
    refine rm (.int _ _) ?_
    refine rv (v := .bool _) (v_neq il il) ?_
    refine r_nil ?_
    refine a_cond rfl (fun ht14 => ?_) (fun ht14 => ?_)
    ·
      refine a_region ?_
      refine rm (.rsl _ _ _ _ _) ?_
      refine rm (.int _ _) ?_
      refine rm (.int _ _) ?_
      refine rv (v := .agg [.int _ _, .int _ _]) (v_build sp119 rfl rfl) ?_
      refine rn (v := .osl _ _ _ _) (q_sliceLit (n := 1) (parts := [(0, .tmp 18)]) lt72 rfl rfl rfl rfl) ?_
      refine r_pre (ent_reloc_sl (t := 15) rfl rfl) ?_
      refine r_step rfl (o_append rfl ap72 rfl (by decide) (by decide) rfl (src_lit (.inl rfl) rfl rfl rfl) rfl (by rw [tcells_length]) (by omega)) ?_
      refine ra (.rsl _ _ _ _ _) ?_
      refine r_pre (ent_reloc_sl (t := 3) rfl rfl) ?_
      refine r_nil ?_
      refine a_region ?_
      refine rv (v := .int _ _) (v_add il il (fun _ => by omega)) ?_
      refine rm (.int _ _) ?_
      refine r_nil ?_
      have hne : gd d i ≠ 0 := (by simpa using ht14)
      have hm := trmTo_more hne
      refine ⟨i + 1, ent_look ⟨Weak.osl (tcells_app.trans (by rw [hm])) (by rw [hm]; simp), wr, wr, Weak.of_eq (int_eq (by omega)), trivial⟩, by omega, by omega⟩
    ·
      refine a_skip ?_
      refine a_region ?_
      refine rv (v := .int _ _) (v_add il il (fun _ => by omega)) ?_
      refine rm (.int _ _) ?_
      refine r_nil ?_
      have hm := trmTo_skip (d := d) (i := i) (by simpa using ht14)
      refine ⟨i + 1, ent_look ⟨Weak.osl (by rw [hm]) (by rw [hm]), wr, wr, Weak.of_eq (int_eq (by omega)), trivial⟩, by omega, by omega⟩
  ·
    refine a_exit ?_
    refine aq ?_
    refine rm (.rsl _ _ _ _ _) ?_
    refine ra (.rsl _ _ _ _ _) ?_
    refine r_pre (ent_reloc_sl (t := 2) rfl rfl) ?_
    refine r_nil ?_
    refine a_ret ?_
    refine ret1 Tryz.results63 (by decide) (by decide) (Weak.osl ?_ ?_) rfl Leaves.nil
    · simp at ht9; unfold trm; rw [show i = d.length by omega]
    · simp at ht9; unfold trm; rw [show i = d.length by omega]
theorem ok_stepF {p : Nat → Bool} {i : Nat} (h : ∀ j, j < i → p j = false) (hi : p i = false) : ∀ j, j < i + 1 → p j = false := fun j hj => by
  rcases Nat.lt_or_ge j i with h' | h'
  · exact h j h'
  · obtain rfl : j = i := by omega
    exact hi
end Go.Av
namespace Go.Av
open Go
def linz (k : Int) (A B : List Int) : List Int := (List.range A.length).map fun i => gd A i + k * gd B i
theorem linz_length (k : Int) (A B : List Int) : (linz k A B).length = A.length := by simp [linz]
theorem gd_linz {k : Int} {A B : List Int} {i : Nat} (h : i < A.length) : gd (linz k A B) i = gd A i + k * gd B i := by simp [gd, linz, h]
def mixL (L A : List Int) (i : Nat) : List Int := L.take i ++ A.drop i
theorem mixL_length {L A : List Int} {i : Nat} (h : L.length = A.length) : (mixL L A i).length = A.length := by simp [mixL]; omega
theorem mixL_zero (L A : List Int) : mixL L A 0 = A := by simp [mixL]
theorem mixL_full {L A : List Int} {i : Nat} (h : L.length = A.length) (hi : A.length ≤ i) : mixL L A i = L := by
  unfold mixL; rw [List.take_of_length_le (by omega), List.drop_of_length_le (by omega), List.append_nil]
theorem gd_mixL {L A : List Int} {i j : Nat} (h : L.length = A.length) : gd (mixL L A i) j = if j < i then gd L j else gd A j := by
  unfold mixL gd
  by_cases hj : j < i
  · rw [if_pos hj]
    by_cases hl : j < L.length
    · rw [List.getElem?_append_left (by simp; omega), List.getElem?_take, if_pos hj]
    · rw [List.getElem?_append_right (by simp; omega), List.getElem?_eq_none (by simp; omega), List.getElem?_eq_none (by omega)]
  · rw [if_neg hj]
    by_cases hl : i ≤ L.length
    · rw [List.getElem?_append_right (by simp; omega), List.length_take, Nat.min_eq_left hl, List.getElem?_drop, show i + (j - i) = j by omega]
    · rw [List.getElem?_eq_none (by simp; omega), List.getElem?_eq_none (by omega)]
theorem mixL_set {L A : List Int} {i : Nat} (h : L.length = A.length) (hi : i < A.length) : (mixL L A i).set i (gd L i) = mixL L A (i + 1) := by
  refine gd_ext (by rw [List.length_set, mixL_length h, mixL_length h]) fun j hj => ?_
  rw [gd_setc, mixL_length h, gd_mixL h, gd_mixL h]
  by_cases h1 : i = j
  · subst h1; rw [if_pos ⟨rfl, hi⟩, if_pos (by omega)]
  · rw [if_neg (by omega)]
    have : (j < i) ↔ (j < i + 1) := by omega
    simp only [this]
theorem trmTo_congr {A B : List Int} : ∀ {i : Nat}, (∀ j, j < i → gd A j = gd B j) → trmTo A i = trmTo B i
  | 0, _ => rfl
  | i + 1, h => by simp only [trmTo, h i (by omega), trmTo_congr (fun j hj => h j (Nat.lt_succ_of_lt hj))]
theorem trmTo_tail {A : List Int} {m : Nat} (h : ∀ j, m ≤ j → gd A j = 0) : ∀ {i : Nat}, m ≤ i → trmTo A i = trmTo A m
  | 0, hi => by have : m = 0 := by omega
                rw [this]
  | i + 1, hi => by
    rcases Nat.eq_or_lt_of_le hi with he | hl
    · rw [he]
    · rw [trmTo_skip (h i (by omega)), trmTo_tail h (by omega)]
theorem good_trm {p vars : Int} {xs : List (Int × Int)} (hp : 0 ≤ vars) (h : goodL p vars xs = true) : trm (accp p (dn vars) xs) = xs := by
  have hdn := dn_cast vars
  have key : ∀ k, k ≤ xs.length → trmTo (accp p (dn vars) (xs.take k)) (dn vars) = xs.take k := by
    intro k
    induction k with
    | zero =>
      intro _
      rw [List.take_zero]
      exact trmTo_tail (A := accp p (dn vars) []) (m := 0) (fun j _ => gd_rep) (Nat.zero_le _)
    | succ k ih =>
      intro hk
      have hs := good_spec h (show k < xs.length by omega)
      have hz : ∀ j, (tm xs k).1.toNat ≤ j → gd (accp p (dn vars) (xs.take k)) j = 0 := fun j hj => accp_zero fun t ht => by
        obtain ⟨i, hi⟩ := List.getElem?_of_mem ht
        rw [List.getElem?_take] at hi
        split at hi
        · rename_i hik
          have h1 := good_asc h hik (by omega)
          have h2 := (good_spec h (show i < xs.length by omega)).1
          have : tm xs i = t := by simp [tm, hi]
          rw [this] at h1 h2
          omega
        · cases hi
      have ih := ih (by omega)
      rw [trmTo_tail hz (by omega)] at ih
      rw [← good_set h (show k < xs.length by omega)]
      have hlt : (tm xs k).1.toNat < dn vars := by omega
      have hg : gd ((accp p (dn vars) (xs.take k)).set (tm xs k).1.toNat (tm xs k).2) (tm xs k).1.toNat = (tm xs k).2 := by rw [gd_set (by rw [accp_length]; exact hlt)]
      rw [trmTo_tail (m := (tm xs k).1.toNat + 1) (fun j hj => by rw [gd_set_ne (by omega)]; exact hz j (by omega)) hlt, trmTo_more (by rw [hg]; omega), hg,
        trmTo_congr (B := accp p (dn vars) (xs.take k)) (fun j hj => gd_set_ne (by omega)), ih, take_tm (by omega)]
      congr 2
      exact Prod.ext (by simp; omega) rfl
  have := key xs.length (Nat.le_refl _)
  rw [List.take_length] at this
  unfold trm; rw [accp_length]; exact this
def mIn (p : Int) (B : List Int) (m : Nat) (c : Int) : Nat → List Int → List Int
  | 0, l => l
  | j + 1, l => bumpp p (mIn p B m c j l) (m ||| j) (c * gd B j)
def mOut (p : Int) (n : Nat) (A B : List Int) : Nat → List Int
  | 0 => List.replicate n 0
  | i + 1 => mIn p B i (gd A i) B.length (mOut p n A B i)
def mulp (p : Int) (n : Nat) (A B : List Int) : List Int := mOut p n A B A.length
theorem mIn_length {p c : Int} {B : List Int} {m : Nat} : ∀ (j : Nat) (l : List Int), (mIn p B m c j l).length = l.length
  | 0, _ => rfl
  | j + 1, l => by simp [mIn, bumpp, mIn_length j l]
theorem mOut_length {p : Int} {n : Nat} {A B : List Int} : ∀ i, (mOut p n A B i).length = n
  | 0 => by simp [mOut]
  | i + 1 => by rw [mOut, mIn_length, mOut_length]
def Bd (p : Int) (l : List Int) : Prop := ∀ m, 0 ≤ gd l m ∧ gd l m < p
theorem bumpp_bd {p c : Int} {l : List Int} {m : Nat} (hp : 1 ≤ p) (h : Bd p l) : Bd p (bumpp p l m c) := fun j => by
  unfold bumpp
  rw [gd_setc]
  have h1 := Int.emod_nonneg (gd l m + c) (show p ≠ 0 by omega)
  have h2 := Int.emod_lt_of_pos (gd l m + c) (show 0 < p by omega)
  split
  · omega
  · exact h j
theorem mIn_bd {p c : Int} {B : List Int} {m : Nat} (hp : 1 ≤ p) : ∀ (j : Nat) {l : List Int}, Bd p l → Bd p (mIn p B m c j l)
  | 0, _, h => h
  | j + 1, _, h => bumpp_bd hp (mIn_bd hp j h)
theorem rep_bd {p : Int} (hp : 1 ≤ p) (n : Nat) : Bd p (List.replicate n 0) := fun m => by rw [gd_rep]; omega
theorem mOut_bd {p : Int} (hp : 1 ≤ p) {n : Nat} {A B : List Int} : ∀ i, Bd p (mOut p n A B i)
  | 0 => rep_bd hp n
  | i + 1 => mIn_bd hp _ (mOut_bd hp i)
theorem modp_bd {p : Int} (hp : 1 ≤ p) (l : List Int) : Bd p (modp p l) := fun m => by
  rw [gd_modp]; exact ⟨Int.emod_nonneg _ (by omega), Int.emod_lt_of_pos _ (by omega)⟩
theorem bumpp_zero {p : Int} {l : List Int} {m : Nat} (h : Bd p l) : bumpp p l m 0 = l := by
  refine gd_ext (by simp [bumpp]) fun j hj => ?_
  unfold bumpp
  rw [gd_setc]
  split
  · rename_i hc
    obtain ⟨rfl, _⟩ := hc
    rw [Int.add_zero, Int.emod_eq_of_lt (h m).1 (h m).2]
  · rfl
def sIn (p : Int) (t : Int × Int) (ys : List (Int × Int)) (l : List Int) : List Int := ys.foldl (fun l s => bumpp p l (t.1.toNat ||| s.1.toNat) (t.2 * s.2)) l
def sOut (p : Int) (n : Nat) (xs ys : List (Int × Int)) : List Int := xs.foldl (fun l t => sIn p t ys l) (List.replicate n 0)
theorem sIn_trm {p c : Int} (hp : 1 ≤ p) {B : List Int} {m : Nat} : ∀ (j : Nat) {l : List Int}, Bd p l → sIn p ((m : Int), c) (trmTo B j) l = mIn p B m c j l
  | 0, _, _ => rfl
  | j + 1, l, h => by
    simp only [trmTo, mIn]
    have ih := sIn_trm hp (c := c) (B := B) (m := m) j h
    split
    · rename_i h0
      rw [ih, h0, Int.mul_zero, bumpp_zero (mIn_bd hp j h)]
    · unfold sIn at ih ⊢
      rw [List.foldl_append, ih]; simp
theorem mIn_zero {p : Int} (hp : 1 ≤ p) {B : List Int} {m : Nat} : ∀ (j : Nat) {l : List Int}, Bd p l → mIn p B m 0 j l = l
  | 0, _, _ => rfl
  | j + 1, l, h => by simp only [mIn]; rw [mIn_zero hp j h, Int.zero_mul, bumpp_zero h]
theorem sOut_trm {p : Int} (hp : 1 ≤ p) {n : Nat} {A B : List Int} : ∀ i, sOut p n (trmTo A i) (trm B) = mOut p n A B i
  | 0 => rfl
  | i + 1 => by
    simp only [trmTo, mOut]
    have ih := sOut_trm hp (n := n) (A := A) (B := B) i
    split
    · rename_i h0
      rw [ih, h0, mIn_zero hp _ (mOut_bd hp i)]
    · unfold sOut at ih ⊢
      rw [List.foldl_append, ih]
      exact sIn_trm hp _ (mOut_bd hp i)
theorem sOut_good {p vars : Int} {xs ys : List (Int × Int)} (hp : prime p vars = true) (hx : goodL p vars xs = true) (hy : goodL p vars ys = true) : sOut p (dn vars) xs ys = mulp p (dn vars) (accp p (dn vars) xs) (accp p (dn vars) ys) := by
  have h := prime_spec hp
  have := sOut_trm (p := p) (by omega) (n := dn vars) (A := accp p (dn vars) xs) (B := accp p (dn vars) ys) (accp p (dn vars) xs).length
  rw [show trmTo (accp p (dn vars) xs) (accp p (dn vars) xs).length = xs from good_trm h.2.1 hx, good_trm h.2.1 hy] at this
  exact this
theorem or_lt {a b : Nat} {vars : Int} (ha : a < dn vars) (hb : b < dn vars) : a ||| b < dn vars := Nat.or_lt_two_pow ha hb
theorem accp_Bd {p : Int} (hp : 1 ≤ p) (n : Nat) (xs : List (Int × Int)) : Bd p (accp p n xs) := fun m => accp_bd hp n xs m
theorem mul_bd {a b p : Int} (ha : 0 ≤ a ∧ a < p) (hb : 0 ≤ b ∧ b < p) (hp : p ≤ 5) : 0 ≤ a * b ∧ a * b ≤ 16 := by
  refine ⟨Int.mul_nonneg ha.1 hb.1, ?_⟩
  have h1 : a * b ≤ 4 * b := Int.mul_le_mul_of_nonneg_right (by omega) hb.1
  omega
theorem linz_nonneg {k p : Int} {A B : List Int} (hk : 0 ≤ k ∧ k < p) (hA : Bd p A) (hB : Bd p B) (hp : p ≤ 5) (m : Nat) : 0 ≤ gd (linz k A B) m := by
  rcases Nat.lt_or_ge m A.length with h | h
  · rw [gd_linz h]
    have h1 := mul_bd hk (hB m) hp
    have h2 := hA m
    omega
  · unfold gd; rw [List.getElem?_eq_none (by rw [linz_length]; omega)]; decide
end Go.Av
namespace Go.Av
open Go Go.Proofs
theorem ap87 : appTy Tryz.prog 87 = some (1, 8) := by kernel_rfl
theorem fo90_0 : fieldOff Tryz.prog 90 0 = some 0 := by kernel_rfl
theorem hb101 : hasBody Tryz.prog 101 = true := by kernel_rfl
theorem hb102 : hasBody Tryz.prog 102 = true := by kernel_rfl
theorem hb110 : hasBody Tryz.prog 110 = true := by kernel_rfl
theorem lt87 : litTy Tryz.prog 87 = some (1, [.int .i64 0]) := by kernel_rfl
theorem cloneD_c (xs : List Int) (n : Nat) (h : xs.length = n ∧ n ≤ 1048576) : ACall Tryz.prog 110 [.sl (icells xs) n] [] (.osl 1 (icells xs) n none) [] := by
  refine ACall.intro Tryz.func110 rfl (N := 8) rfl (by decide) (by simp) ?_
  refine aq ?_
  refine ra .nils ?_
  refine r_nil ?_
  refine a_seq ?_
  refine aq ?_
  refine rm (.sl _ _) ?_
  refine r_nileq rfl rfl us87 (.inl rfl) rfl (by decide) (fun b4 hb4 => ?_)
  refine r_nil ?_
  refine a_cond rfl (fun ht4 => ?_) (fun ht4 => ?_)
  ·
    refine aq ?_
    refine ra .nils ?_
    refine r_nil ?_
    refine a_pre (ent_nil (t := 2) (sz := 1) (cap := none) (.inl rfl) (fun _ h => by cases h)) ?_
    refine a_ret ?_
    refine ret1 Tryz.results110 (by decide) (by decide) (Weak.osl ?_ ?_) rfl Leaves.nil
    all_goals (have he := hb4 ht4)
    · exact he.symm
    · have := icells_length xs; rw [he] at this; simp at this; omega
  ·
    refine a_skip ?_
    refine aq ?_
    refine rn (v := .osl _ _ _ _) (q_sliceLit (n := 0) (parts := []) lt87 rfl rfl rfl rfl) ?_
    refine rm (.sl _ _) ?_
    refine r_step rfl (o_append rfl ap87 rfl (by decide) (by decide) rfl (src_sl (.inl rfl) (fun _ => by rw [icells_length]; omega) (ic_pureL _)) (ic_cell _) rfl (by omega)) ?_
    refine ra (.rsl _ _ _ _ _) ?_
    refine r_pre (ent_reloc_sl (t := 2) rfl rfl) ?_
    refine r_nil ?_
    refine a_ret ?_
    refine ret1 Tryz.results110 (by decide) (by decide) (Weak.osl ?_ ?_) rfl Leaves.nil
    · rfl
    · omega
theorem l18Add_c (p vars : Int) (xs ys : List (Int × Int)) (k : Int) (hk : 0 ≤ k ∧ k < p) (hp : prime p vars = true) (hg : goodL p vars xs = true) (hg2 : goodL p vars ys = true) (hl : (xs.length : Int) ≤ 9223372036854775807) (hl2 : (ys.length : Int) ≤ 9223372036854775807) : ACall Tryz.prog 51 [.int .i64 p, .int .i64 vars, .sl (tcells xs) xs.length, .sl (tcells ys) ys.length, .int .i64 k] [] (.osl 2 (tcells (trm (modp p (linz k (accp p (dn vars) xs) (accp p (dn vars) ys))))) (trm (modp p (linz k (accp p (dn vars) xs) (accp p (dn vars) ys)))).length none) [] := by
  have hpp := prime_spec hp
  have hd := dn_le hpp.2
  have hA := accp_length p (dn vars) xs
  have hB := accp_length p (dn vars) ys
  have hbA := accp_Bd (p := p) (by omega) (dn vars) xs
  have hbB := accp_Bd (p := p) (by omega) (dn vars) ys
  have hL : (linz k (accp p (dn vars) xs) (accp p (dn vars) ys)).length = dn vars := (by rw [linz_length, hA])
  refine ACall.intro Tryz.func51 rfl (N := 43) rfl (by decide) (by simp) ?_
  refine aq ?_
  refine ra .nils ?_
  refine r_nil ?_
  refine aq ?_
  refine rm (.int _ _) ?_
  refine rm (.sl _ _) ?_
  refine rn (v := .osl _ _ _ _) (q_call (vs := [.int _ _, .sl _ _]) (args := [.int .i64 _, .sl _ _]) hb101 ⟨il, il, trivial⟩ rfl (fun hA => l18Dense_c p _ _ hp hg hl) (ic_noSh _) (ic_noRef _)) ?_
  refine rm (.int _ _) ?_
  refine rm (.sl _ _) ?_
  refine rn (v := .osl _ _ _ _) (q_call (vs := [.int _ _, .sl _ _]) (args := [.int .i64 _, .sl _ _]) hb101 ⟨il, il, trivial⟩ rfl (fun hA => l18Dense_c p _ _ hp hg2 hl2) (ic_noSh _) (ic_noRef _)) ?_
  refine ra (.rsl _ _ _ _ _) ?_
  refine r_pre (ent_reloc_sl (t := 11) rfl rfl) ?_
  refine ra (.rsl _ _ _ _ _) ?_
  refine r_pre (ent_reloc_sl (t := 12) rfl rfl) ?_
  refine r_nil ?_
  refine a_seq ?_
  refine aq ?_
  refine ra (.int _ _) ?_
  refine r_nil ?_
  refine a_block ?_
  refine a_loop (X := Nat) (fun i => look [(0, .int .i64 p), (4, .int .i64 k), (11, .osl 1 (icells (mixL (linz k (accp p (dn vars) xs) (accp p (dn vars) ys)) (accp p (dn vars) xs) i)) (dn vars) none), (12, .osl 1 (icells (accp p (dn vars) ys)) (dn vars) none), (13, .int .i64 (i : Int))]) (fun i => i ≤ dn vars) (fun i => dn vars - i) 0 (ent_look ⟨wr, wr, Weak.osl (by rw [mixL_zero]) rfl, wr, wr, trivial⟩) (Nat.zero_le _) (fun i hG => ?_)
  refine a_seq ?_
  refine aq ?_
  refine rm (.int _ _) ?_
  refine rm (.rsl _ _ _ _ _) ?_
  refine rv (v := .int _ _) (v_len_rsl sl25 il) ?_
  refine rv (v := .bool _) (v_lss il il) ?_
  refine r_nil ?_
  refine a_cond rfl (fun ht23 => ?_) (fun ht23 => ?_)
  ·
    refine a_skip ?_
    refine a_seq ?_
    refine a_block ?_
    refine a_region_tail (n := 14) mixed (by kernel_rfl) ?_
    have hi : i < dn vars := (by simp at ht23; omega)
    have hmul := mul_bd hk (hbB i) (by omega)
    have hbi := hbA i
    have hgm : gd (mixL (linz k (accp p (dn vars) xs) (accp p (dn vars) ys)) (accp p (dn vars) xs) i) i = gd (accp p (dn vars) xs) i := (by rw [gd_mixL (by rw [linz_length]), if_neg (by omega)])
    have hpl : i * 1 + 1 ≤ (icells (mixL (linz k (accp p (dn vars) xs) (accp p (dn vars) ys)) (accp p (dn vars) xs) i)).length := (by rw [icells_length, mixL_length (by rw [linz_length])]; omega)
    have hset : (icells (mixL (linz k (accp p (dn vars) xs) (accp p (dn vars) ys)) (accp p (dn vars) xs) i)).set (i * 1) (.int .i64 (gd (accp p (dn vars) xs) i + k * gd (accp p (dn vars) ys) i)) = icells (mixL (linz k (accp p (dn vars) xs) (accp p (dn vars) ys)) (accp p (dn vars) xs) (i + 1)) := (by rw [Nat.mul_one, icells_set, ← mixL_set (by rw [linz_length]) (by omega), gd_linz (by omega)])
    refine t_val (v := .rsl _ _ _ _ _) (v_move (.inl rfl) nf) rfl rfl (by decide) (by kernel_rfl) ?_
    refine t_val (v := .int _ _) (v_move (.inl rfl) nf) rfl rfl (by decide) (by kernel_rfl) ?_
    refine t_val (v := .rsl _ _ _ _ _) (v_move (.inl rfl) nf) rfl rfl (by decide) (by kernel_rfl) ?_
    refine t_val (v := .int _ _) (v_move (.inl rfl) nf) rfl rfl (by decide) (by kernel_rfl) ?_
    refine t_val (v := .rp _ _) (v_indexAddr_rsl0 es25 (.inl rfl) (.inl rfl) (fun _ => by omega)) rfl rfl (by decide) (by kernel_rfl) ?_
    refine t_val (v := .int .i64 (gd (accp p (dn vars) xs) i)) (v_load_rp1 ta3 (.inl rfl) rfl (fun _ => by rw [Nat.mul_one, ← hgm]; exact icells_get (gd_get (by rw [mixL_length (by rw [linz_length])]; omega))) rfl) rfl rfl (by decide) (by kernel_rfl) ?_
    refine t_val (v := .int _ _) (v_move (.inl rfl) nf) rfl rfl (by decide) (by kernel_rfl) ?_
    refine t_val (v := .rsl _ _ _ _ _) (v_move (.inl rfl) nf) rfl rfl (by decide) (by kernel_rfl) ?_
    refine t_val (v := .int _ _) (v_move (.inl rfl) nf) rfl rfl (by decide) (by kernel_rfl) ?_
    refine t_val (v := .rp _ _) (v_indexAddr_rsl0 es25 (.inl rfl) (.inl rfl) (fun _ => by omega)) rfl rfl (by decide) (by kernel_rfl) ?_
    refine t_val (v := .int .i64 (gd (accp p (dn vars) ys) i)) (v_load_rp1 ta3 (.inl rfl) rfl (fun _ => by rw [Nat.mul_one]; exact icells_get (gd_get (by omega))) rfl) rfl rfl (by decide) (by kernel_rfl) ?_
    refine t_val (v := .int _ _) (v_mul (.inl rfl) (.inl rfl) (fun _ => by omega)) rfl rfl (by decide) (by kernel_rfl) ?_
    refine t_val (v := .int _ _) (v_add (.inl rfl) (.inl rfl) (fun _ => by omega)) rfl rfl (by decide) (by kernel_rfl) ?_
    refine t_val (v := .rp _ _) (v_indexAddr_rsl0 es25 (.inl rfl) (.inl rfl) (fun _ => by omega)) rfl rfl (by decide) (by kernel_rfl) ?_
    refine t_nil ?_
    refine r_step rfl (o_store (v := .int _ _) (y' := .osl _ _ _ _) rfl rfl ta3 il il rfl rfl rfl rfl rfl rfl hpl (by decide) rfl (congrArg (fun c => AV.osl 1 c (dn vars) none) hset)) ?_
    refine r_nil ?_
    refine a_region ?_
    refine rm (.int _ _) ?_
    refine rv (v := .int _ _) (v_add il il (fun _ => by omega)) ?_
    refine ra (.int _ _) ?_
    refine r_nil ?_
    refine ⟨i + 1, ent_look ⟨wr, wr, wr, wr, Weak.of_eq (int_eq (by omega)), trivial⟩, by omega, by omega⟩
  ·
    refine a_exit ?_
    refine aq ?_
    have hpos := linz_nonneg (p := p) hk hbA hbB (by omega)
    refine r_pre (ent_eq (t := 11) (v' := .osl 1 (icells (linz k (accp p (dn vars) xs) (accp p (dn vars) ys))) (dn vars) none) (Weak.osl (by simp at ht23; rw [mixL_full (by rw [linz_length]) (by omega)]) rfl)) ?_
    refine rm (.int _ _) ?_
    refine rm (.rsl _ _ _ _ _) ?_
    refine rn (v := .osl _ _ _ _) (q_call (vs := [.int _ _, .rsl _ _ _ _ _]) (args := [.int .i64 _, .sl _ _]) hb102 ⟨il, il, trivial⟩ (l2_eq rfl (sl_sh (ic_pure _))) (fun hA => l18Sparse_c _ _ _ ⟨by omega, hL, by omega, hpos⟩) (tc_noSh _) (tc_noRef _)) ?_
    refine ra (.rsl _ _ _ _ _) ?_
    refine r_pre (ent_reloc_sl (t := 10) rfl rfl) ?_
    refine r_nil ?_
    refine a_ret ?_
    refine ret1 Tryz.results51 (by decide) (by decide) (Weak.osl ?_ ?_) rfl Leaves.nil
    · rfl
    · rfl
theorem plus_c (p vars : Int) (A B : List Int) (n : Nat) (k : Int) (hp : 2 ≤ p ∧ p ≤ 5) (hn : A.length = n ∧ B.length = n ∧ n ≤ 64) (hbA : Bd p A) (hbB : Bd p B) (hk : 0 ≤ k ∧ k < p) : ACall Tryz.prog 62 [.agg [.int .i64 p, .int .i64 vars], .sl (icells A) n, .sl (icells B) n, .int .i64 k] [] (.osl 1 (icells (modp p (linz k A B))) n none) [] := by
  have hL : (modp p (linz k A B)).length = A.length := (by rw [modp_length, linz_length])
  refine ACall.intro Tryz.func62 rfl (N := 37) rfl (by decide) (by simp) ?_
  refine aq ?_
  refine rn (v := .op [.int _ _, .int _ _]) (q_box il rfl rfl) ?_
  refine ra .nils ?_
  refine r_nil ?_
  refine aq ?_
  refine rm (.sl _ _) ?_
  refine rn (v := .osl _ _ _ _) (q_call (vs := [.sl _ _]) (args := [.sl _ _]) hb110 ⟨il, trivial⟩ rfl (fun hA => cloneD_c _ _ (by omega)) (ic_noSh _) (ic_noRef _)) ?_
  refine ra (.rsl _ _ _ _ _) ?_
  refine r_pre (ent_reloc_sl (t := 9) rfl rfl) ?_
  refine r_nil ?_
  refine a_seq ?_
  refine aq ?_
  refine rm (.sl _ _) ?_
  refine rv (v := .int _ _) (v_len_sl sl87 il) ?_
  refine rm (.int _ _) ?_
  refine r_nil ?_
  refine a_block ?_
  refine a_loop (X := Nat) (fun i => look [(3, .int .i64 k), (4, .op [.int .i64 p, .int .i64 vars]), (9, .osl 1 (icells (mixL (modp p (linz k A B)) A i)) n none), (14, .sl (icells B) n), (15, .int .i64 (n : Int)), (16, .int .i64 (i : Int))]) (fun i => i ≤ n) (fun i => n - i) 0 (ent_look ⟨wr, wr, Weak.osl (by rw [mixL_zero]) rfl, wr, wr, wr, trivial⟩) (Nat.zero_le _) (fun i hG => ?_)
  refine aq ?_
  refine rv (v := .bool _) (v_lss il il) ?_
  refine r_nil ?_
  refine a_seq ?_
  refine a_cond rfl (fun ht17 => ?_) (fun ht17 => ?_)
  ·
    refine a_skip ?_
    refine a_seq ?_
    refine a_block ?_
    refine aq ?_
    have hi : i < n := (by simp at ht17; omega)
    have hmul := mul_bd hk (hbB i) (by omega)
    have hbi := hbA i
    have hgm : gd (mixL (modp p (linz k A B)) A i) i = gd A i := (by rw [gd_mixL hL, if_neg (by omega)])
    have hpl : i * 1 + 1 ≤ (icells (mixL (modp p (linz k A B)) A i)).length := (by rw [icells_length, mixL_length hL]; omega)
    have hset : (icells (mixL (modp p (linz k A B)) A i)).set (i * 1) (.int .i64 ((gd A i + k * gd B i) % p)) = icells (mixL (modp p (linz k A B)) A (i + 1)) := (by rw [Nat.mul_one, icells_set, ← mixL_set hL (by omega), gd_modp, gd_linz (by omega)])
    refine rm (.int _ _) ?_
    refine rv (v := .pp _ _) (v_indexAddr_sl es87 il il (fun _ => ⟨by omega, by omega, icells_ne (i := i) (by omega)⟩)) ?_
    refine rv (v := .int .i64 (gd B i)) (v_load_pp ta3 il (fun _ => by rw [Nat.mul_one]; exact icells_get (gd_get (by omega))) rfl) ?_
    refine ra (.int _ _) ?_
    refine ra (.int _ _) ?_
    refine r_nil ?_
    refine a_region_tail (n := 14) mixed (by kernel_rfl) ?_
    refine t_val (v := .rsl _ _ _ _ _) (v_move (.inl rfl) nf) rfl rfl (by decide) (by kernel_rfl) ?_
    refine t_val (v := .int _ _) (v_move (.inl rfl) nf) rfl rfl (by decide) (by kernel_rfl) ?_
    refine t_val (v := .rsl _ _ _ _ _) (v_move (.inl rfl) nf) rfl rfl (by decide) (by kernel_rfl) ?_
    refine t_val (v := .int _ _) (v_move (.inl rfl) nf) rfl rfl (by decide) (by kernel_rfl) ?_
    refine t_val (v := .rp _ _) (v_indexAddr_rsl0 es87 (.inl rfl) (.inl rfl) (fun _ => by omega)) rfl rfl (by decide) (by kernel_rfl) ?_
    refine t_val (v := .int .i64 (gd A i)) (v_load_rp1 ta3 (.inl rfl) rfl (fun _ => by rw [Nat.mul_one, ← hgm]; exact icells_get (gd_get (by rw [mixL_length hL]; omega))) rfl) rfl rfl (by decide) (by kernel_rfl) ?_
    refine t_val (v := .int _ _) (v_move (.inl rfl) nf) rfl rfl (by decide) (by kernel_rfl) ?_
    refine t_val (v := .int _ _) (v_move (.inl rfl) nf) rfl rfl (by decide) (by kernel_rfl) ?_
    refine t_val (v := .int _ _) (v_mul (.inl rfl) (.inl rfl) (fun _ => by omega)) rfl rfl (by decide) (by kernel_rfl) ?_
    refine t_val (v := .int _ _) (v_add (.inl rfl) (.inl rfl) (fun _ => by omega)) rfl rfl (by decide) (by kernel_rfl) ?_
    refine t_val (v := .rp _ _) (v_fieldAddr_rp fo90_0 (.inl rfl)) rfl rfl (by decide) (by kernel_rfl) ?_
    refine t_val (v := .int _ _) (v_load_rp1 ta3 (.inl rfl) rfl (fun _ => rfl) rfl) rfl rfl (by decide) (by kernel_rfl) ?_
    refine t_val (v := .int _ _) (v_rem (.inl rfl) (.inl rfl) (fun _ => by omega)) rfl rfl (by decide) (by kernel_rfl) ?_
    refine t_val (v := .rp _ _) (v_indexAddr_rsl0 es87 (.inl rfl) (.inl rfl) (fun _ => by omega)) rfl rfl (by decide) (by kernel_rfl) ?_
    refine t_nil ?_
    refine r_step rfl (o_store (v := .int _ _) (y' := .osl _ _ _ _) rfl rfl ta3 il il rfl rfl rfl rfl rfl rfl hpl (by decide) rfl (congrArg (fun c => AV.osl 1 c n none) hset)) ?_
    refine r_nil ?_
    refine a_region ?_
    refine rv (v := .int _ _) (v_add il il (fun _ => by omega)) ?_
    refine rm (.int _ _) ?_
    refine r_nil ?_
    refine ⟨i + 1, ent_look ⟨wr, wr, wr, wr, wr, Weak.of_eq (int_eq (by omega)), trivial⟩, by omega, by omega⟩
  ·
    refine a_exit ?_
    refine aq ?_
    refine rm (.rsl _ _ _ _ _) ?_
    refine ra (.rsl _ _ _ _ _) ?_
    refine r_pre (ent_reloc_sl (t := 8) rfl rfl) ?_
    refine r_nil ?_
    refine a_ret ?_
    refine ret1 Tryz.results62 (by decide) (by decide) (Weak.osl ?_ ?_) rfl Leaves.nil
    · simp at ht17; rw [mixL_full hL (by omega)]
    · rfl
end Go.Av
