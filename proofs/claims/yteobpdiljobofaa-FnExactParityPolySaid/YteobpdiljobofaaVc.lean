/- Closures that only read; the first index. -/
import Derived.Test.YteobpdiljobofaaVb
import Derived.Lib.SliceRun
set_option linter.unusedVariables false
set_option linter.unusedSimpArgs false
namespace Go.Av
open Go

mutual
theorem snapV_id (σ : Sig) : ∀ x : AV, pureV x = true → noNil x = true → snapV σ x = x
  | .undef, _, _ | .int .., _, _ | .bool _, _, _ | .str _, _, _ | .nilp, _, _ | .sl .., _, _ | .pp .., _, _ => rfl
  | .nils, _, h | .emp, _, h => by simp [noNil] at h
  | .rsl .., h, _ | .rp .., h, _ | .tup _, h, _ | .osl .., h, _ | .op _, h, _ | .when .., h, _ => by simp [pureV] at h
  | .agg cs, h, h' => by simp only [pureV] at h; simp only [noNil] at h'; simp only [snapV, snapL_id σ cs h h']
  | .fn f us cs, h, h' => by
    simp only [pureV, Bool.and_eq_true] at h
    simp only [noNil, Bool.and_eq_true] at h'
    simp only [snapV, snapL_id σ us h.1 h'.1, snapL_id σ cs h.2 h'.2]
theorem snapL_id (σ : Sig) : ∀ cs : List AV, pureL cs = true → noNilL cs = true → snapL σ cs = cs
  | [], _, _ => rfl
  | c :: cs, h, h' => by
    simp only [pureL, Bool.and_eq_true] at h
    simp only [noNilL, Bool.and_eq_true] at h'
    simp only [snapL, snapV_id σ c h.1 h'.1, snapL_id σ cs h.2 h'.2]
end

/-- What is captured: only read, no nil. -/
def capOk (cs : List AV) : Bool := pureL cs && noNilL cs && scalarL cs
theorem capOk_spec {cs : List AV} (h : capOk cs = true) : pureL cs = true ∧ noNilL cs = true ∧ scalarL cs = true := by
  simp only [capOk, Bool.and_eq_true] at h
  exact ⟨h.1.1, h.1.2, h.2⟩
theorem snap_fn {σ : Sig} {f : FuncId} {cs : List AV} (h : capOk cs = true) : snapV σ (.fn f [] cs) = .fn f [] cs := by
  obtain ⟨h1, h2, _⟩ := capOk_spec h
  simp only [snapV, snapL, snapL_id σ cs h1 h2]
theorem snap_clo {σ : Sig} {vs ws cs : List AV} (h : capOk cs = true) (hv : snapL σ vs = ws) : snapL σ ([] ++ vs ++ cs) = ws ++ cs := by
  obtain ⟨h1, h2, _⟩ := capOk_spec h
  rw [List.nil_append, snapL_eq, List.map_append, ← snapL_eq, ← snapL_eq, hv, snapL_id σ cs h1 h2]
theorem snap_clo1 {σ : Sig} {v w : AV} {cs : List AV} (h : capOk cs = true) (hv : snapV σ v = w) : snapL σ ([] ++ [v] ++ cs) = w :: cs := snap_clo (vs := [v]) (ws := [w]) h (by rw [snapL, snapL, hv])
theorem snap_clo2 {σ : Sig} {v w v' w' : AV} {cs : List AV} (h : capOk cs = true) (hv : snapV σ v = w) (hv' : snapV σ v' = w') : snapL σ ([] ++ [v, v'] ++ cs) = w :: w' :: cs := snap_clo (vs := [v, v']) (ws := [w, w']) h (by rw [snapL, snapL, snapL, hv, hv'])
theorem purge_fn {d : Nat} {f : FuncId} {cs : List AV} (h : capOk cs = true) : purgeV d (.fn f [] cs) = .fn f [] cs := by
  obtain ⟨h1, _, _⟩ := capOk_spec h
  refine purge_id fun p hp => ?_
  simp only [refs, refsL, List.nil_append, refsL_of_noRef _ (noRefL_pure _ h1)] at hp
  cases hp
theorem pure_fn {f : FuncId} {cs : List AV} (h : capOk cs = true) : pureV (.fn f [] cs) = true := by
  obtain ⟨h1, _, _⟩ := capOk_spec h
  simp [pureV, pureL, h1]

/-- The first index below n at which p holds, or -1. -/
def fidx (p : Nat → Bool) (n : Nat) : Int := match (List.range n).find? p with
  | some i => i
  | none => -1
theorem fidx_found {p : Nat → Bool} {n i : Nat} (hi : i < n) (h : p i = true) (hn : ∀ j, j < i → p j = false) : fidx p n = i := by
  have : (List.range n).find? p = some i := by
    rw [List.find?_range_eq_some]
    exact ⟨by simp [h], by simpa using hi, fun j hj => by simp [hn j hj]⟩
  simp [fidx, this]
theorem fidx_none {p : Nat → Bool} {n : Nat} (hn : ∀ j, j < n → p j = false) : fidx p n = -1 := by
  have : (List.range n).find? p = none := by
    rw [List.find?_eq_none]
    intro j hj
    simp [hn j (by simpa using hj)]
  simp [fidx, this]
theorem fidx_any {p : Nat → Bool} {n : Nat} : decide (0 ≤ fidx p n) = (List.range n).any p := by
  cases h : (List.range n).find? p with
  | none =>
    have h2 : (List.range n).any p = false := by
      rw [List.any_eq_false]; intro x hx
      have := List.find?_eq_none.1 h x hx
      simpa using this
    simp [fidx, h, h2]
  | some i =>
    have h2 : (List.range n).any p = true := by
      rw [List.any_eq_true]
      exact ⟨i, List.mem_of_find?_eq_some h, List.find?_some h⟩
    simp [fidx, h, h2]
end Go.Av
namespace Go.Av
section
variable {P : Program} {N : Nat} {σ : Sig} {ops : Array Oper} {rest : List Oper} {o : Oper} {K : Sig → Prop} {x y : Operand}
/-- Is a slice nil? Either, where it is empty. -/
theorem r_nileq {t yt el d n : Nat} {cs : List AV} (ho : o.op = .binOp .eql t x (.const (.slice none 0 0)) yt) (hg : o.guard = none) (ht : P.underlying t = some (.slice el)) (hx : RdTo N true σ x (.sl cs n)) (hd : o.dst = some d) (hN : d < N)
    (h : ∀ b : Bool, (b = true → cs = []) → ARun P N ops rest (upd σ d (.bool b)) K) : ARun P N ops (o :: rest) σ K := fun gv e a w ha Q hQ => by
  obtain ⟨hdf, hsz, β, F, hi⟩ := ha
  have ex := hx.rep rfl (fun _ _ => rfl) hi (0, [])
  simp only [Rep] at ex
  obtain ⟨hp, ad, cap, ex, hnc, hh⟩ := ex
  refine wpList_step fun K' hK' => ?_
  have hw : Region.wanted o (yielded ops a.tmps) = true := by simp [Region.wanted, hg]
  rw [if_pos hw]
  have e0 : a.eval (.const (.slice none 0 0)) = .slice none 0 0 := rfl
  have hq : ∀ w, (eqGuard .eql t x (.const (.slice none 0 0)) (a.eval x) (.slice none 0 0)).run P w = .ok () w := fun w => by
    rw [ex]; simp [eqGuard]
  refine wp_value (v := .bool ad.isNone) (w' := w) ?_ (hK' _ _ (h ad.isNone (fun hb => ?_) gv e _ w ⟨by rw [hd]; exact hdf, by rw [hd, size_put]; exact hsz, β, F, by rw [hd, valOf_put hsz hN]; exact hi.set d (by simp [Rep]) (noOwn_scalar rfl)⟩ Q hQ))
  · rw [ex] at hq
    simp only [execOp, ho, e0, Sem.run_bind, ex, hq w, Result.andThen_ok]
    have := Lib.run_eql_slice_nil (P := P) w t el ad n cap 0 0 ht
    simp [this]
  · cases cs with
    | nil => rfl
    | cons c cs =>
      obtain ⟨b, off, arr, tt, fz, rfl, _⟩ := hh (by simp)
      simp at hb
end
end Go.Av
namespace Go.Av
/-- -n as an int computes it. -/
def neg64 (n : Int) : Int := if n = -9223372036854775808 then n else -n
theorem neg64_of {n : Int} (h : -9223372036854775807 ≤ n) : neg64 n = -n := by unfold neg64; rw [if_neg (by omega)]
theorem v_negw {P : Program} {N : Nat} {A : Bool} {ty xt : TypeId} {σ : Sig} {x : Operand} {n : Int} (hx : RdTo N A σ x (.int .i64 n)) (hb : A = true → -9223372036854775808 ≤ n ∧ n ≤ 9223372036854775807) : VSem P N A (.unOp .neg xt x) ty σ (slots x) (.int .i64 (neg64 n)) :=
  ⟨noOwn_scalar rfl, fun hA σ' hD gv e ac w β F hi p o' ho _ => by
    have ex := hx.rep hA hD hi p
    simp only [Rep] at ex
    have h2 : IntKind.i64.wrap (-n) = neg64 n := by
      have := hb hA
      unfold neg64
      split
      · rename_i h; subst h; decide
      · exact IntWalk.i64_in _ (by omega)
    exact ⟨.int .i64 (neg64 n), by simp [execOp, ho, ex, Op.unary, Op.intArith, h2], by simp [Rep]⟩⟩
end Go.Av
namespace Go.Av
open Go
section
variable {P : Program} {N : Nat} {A : Bool} {ty : TypeId} {σ : Sig} {x y z : Operand} {xt yt : TypeId}
theorem v_addu {m n : Int} (hx : RdTo N A σ x (.int .u64 m)) (hy : RdTo N A σ y (.int .u64 n)) (hb : A = true → 0 ≤ m + n ∧ m + n ≤ 18446744073709551615) :
    VSem P N A (.binOp .add xt x y yt) ty σ (slots x ++ slots y) (.int .u64 (m + n)) :=
  v_bin hx hy rfl rep_int fun hA w => by simp [binOp, Op.intArith, IntWalk.u64_in _ (hb hA)]
theorem v_shru {k : IntKind} {m n : Int} (hx : RdTo N A σ x (.int .u64 m)) (hy : RdTo N A σ y (.int k n)) (hb : A = true → 0 ≤ n ∧ n ≤ 63) :
    VSem P N A (.binOp .shr xt x y yt) ty σ (slots x ++ slots y) (.int .u64 (m / 2 ^ n.toNat)) :=
  v_bin hx hy rfl rep_int fun hA w => by
    obtain ⟨h1, h2⟩ := hb hA
    have h0 : ¬ n < 0 := by omega
    have h4 : min n.toNat IntKind.u64.bits = n.toNat := by simp [IntKind.bits]; omega
    have h5 : m.fdiv (2 ^ n.toNat) = m / 2 ^ n.toNat := Int.fdiv_eq_ediv_of_nonneg m (Int.le_of_lt (Int.pow_pos (by omega)))
    simp only [binOp, Op.shift, h0, h4, h5, if_false]; rfl
theorem v_andu {m n : Int} (hx : RdTo N A σ x (.int .u64 m)) (hy : RdTo N A σ y (.int .u64 n))
    (hb : A = true → (0 ≤ m ∧ m ≤ 9223372036854775807) ∧ 0 ≤ n ∧ n ≤ 9223372036854775807) :
    VSem P N A (.binOp .and xt x y yt) ty σ (slots x ++ slots y) (.int .u64 ((m.toNat &&& n.toNat : Nat) : Int)) :=
  v_bin hx hy rfl rep_int fun hA w => by
    obtain ⟨h1, h2⟩ := hb hA
    have hle : m.toNat &&& n.toNat ≤ m.toNat := Nat.and_le_left
    have e : IntKind.u64.wrap ((m.toNat &&& n.toNat : Nat) : Int) = ((m.toNat &&& n.toNat : Nat) : Int) := IntWalk.u64_in _ (by omega)
    have e1 : (BitVec.ofInt IntKind.u64.bits m &&& BitVec.ofInt IntKind.u64.bits n).toNat = m.toNat &&& n.toNat := by
      show (BitVec.ofInt 64 m &&& BitVec.ofInt 64 n).toNat = _
      rw [BitVec.toNat_and, bv_nat h1.1 h1.2, bv_nat h2.1 h2.2]
    simp only [binOp, Op.intBits, e1, e]
    simp
/-- A test of a constant. -/
theorem a_condF {Φ : Exit → Sig → Prop} {c c' : Code} (h : ACode P N c' σ Φ) : ACode P N (.cond (.const (.bool false)) c c') σ Φ := fun gv e a w ha Q hQ =>
  wp_cond_false rfl (h gv e a w ha Q hQ)
theorem a_condT {Φ : Exit → Sig → Prop} {c c' : Code} (h : ACode P N c σ Φ) : ACode P N (.cond (.const (.bool true)) c c') σ Φ := fun gv e a w ha Q hQ =>
  wp_cond_true rfl (h gv e a w ha Q hQ)
end
end Go.Av
