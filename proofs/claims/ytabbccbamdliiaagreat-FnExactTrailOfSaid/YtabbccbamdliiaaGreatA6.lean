/- Lemmas, part 6. -/
import Derived.Test.YtabbccbamdliiaaGreatA5
import Derived.RangeFuncLeaves
import Derived.RangeFuncRecord
import Derived.RangeFuncSeq
import Derived.RangeFuncBound
set_option linter.unusedVariables false
set_option linter.unusedSimpArgs false
namespace Go.Av
open Go Go.Proofs Go.Sort
set_option maxRecDepth 10000
def mkC (k : Int) (cs : List AV) (m : Nat) : List AV := (List.range m).map (fun (i : Nat) => AV.int .i64 (k + (i : Int))) ++ cs.drop m
theorem mkC_zero (k : Int) (cs : List AV) : mkC k cs 0 = cs := by simp [mkC]
theorem mkC_length {k : Int} {cs : List AV} {m : Nat} (h : m ≤ cs.length) : (mkC k cs m).length = cs.length := by simp [mkC]; omega
theorem mkC_set {k : Int} {cs : List AV} {m : Nat} (h : m < cs.length) : (mkC k cs m).set m (.int .i64 (k + (m : Int))) = mkC k cs (m + 1) := by
  unfold mkC
  rw [List.set_append_right _ _ (by simp), List.length_map, List.length_range, Nat.sub_self, List.drop_eq_getElem_cons h, List.set_cons_zero, List.range_succ, List.map_append, List.append_assoc]
  rfl
theorem az47 : arrSize Tryz.prog 47 = some (2, 1) := by kernel_rfl
theorem es27 : elemSize Tryz.prog 27 = some 2 := by kernel_rfl
theorem hb25 : hasBody Tryz.prog 25 = true := by kernel_rfl
theorem sl27 : isSlice Tryz.prog 27 = true := by kernel_rfl
theorem ta47 : tyAgg Tryz.prog 47 = some (true, 2) := by kernel_rfl

theorem eqIntA2_c (a b c d : Int) : ACall Tryz.prog 25 [.agg [.int .i64 a, .int .i64 b], .agg [.int .i64 c, .int .i64 d]] [] (.bool (decide (a = c) && decide (b = d))) [] := by
  refine ACall.intro Tryz.func25 rfl (N := 17) rfl (by decide) (by simp) ?_
  refine a_seq ?_
  refine a_region ?_
  refine r_new (v := .op [.int _ _, .int _ _]) (q_box (.inl rfl) rfl rfl) rfl rfl (by decide) ?_
  refine r_new (v := .op [.int _ _, .int _ _]) (q_box (.inl rfl) rfl rfl) rfl rfl (by decide) ?_
  refine r_val (v := .bool _) (v_assign (.inl rfl) (noOwn_flat rfl)) rfl rfl (by decide) ?_
  refine r_nil ?_
  refine a_seq ?_
  refine a_seq ?_
  refine a_region ?_
  refine r_val (v := .int _ _) (v_assign (.inl rfl) (noOwn_flat rfl)) rfl rfl (by decide) ?_
  refine r_nil ?_
  refine a_block ?_
  refine a_loop (X := Nat) (fun i => look [(2, .op [.int .i64 a, .int .i64 b]), (3, .op [.int .i64 c, .int .i64 d]), (5, .int .i64 ((i : Nat) : Int))]) (fun i => i ≤ 2 ∧ (1 ≤ i → a = c) ∧ (2 ≤ i → b = d)) (fun i => 2 - i) 0 (ent_look ⟨Weak.of_eq rfl, Weak.of_eq rfl, Weak.of_eq rfl, trivial⟩) ⟨by omega, fun h => by omega, fun h => by omega⟩ (fun i hG => ?_)
  obtain ⟨hG1, hG2, hG3⟩ := hG
  refine a_seq ?_
  refine a_seq ?_
  refine a_region ?_
  refine r_val (v := .int _ _) (v_move (.inl rfl) (noOwn_flat rfl)) rfl rfl (by decide) ?_
  refine r_val (v := .bool _) (v_lss (.inl rfl) (.inl rfl)) rfl rfl (by decide) ?_
  refine r_nil ?_
  refine a_cond rfl (fun ht7 => ?_) (fun ht7 => ?_)
  ·
    skip
    refine a_skip ?_
    refine a_seq ?_
    refine a_block ?_
    refine a_seq ?_
    have hi : i < 2 := (by simp at ht7; omega)
    refine a_region_any mixed (by kernel_rfl) ?_
    refine y_val (v := .int _ _) (v_move (.inl rfl) (noOwn_flat rfl)) rfl rfl (by decide) (by kernel_rfl) ?_
    refine y_val (v := .rp _ _) (v_indexAddr_rpa az47 (.inl rfl) (.inl rfl) (fun _ => by omega)) rfl rfl (by decide) (by kernel_rfl) ?_
    refine y_val (v := .int .i64 (if i = 0 then a else b)) (v_load_rp1 ta3 (.inl rfl) rfl (fun _ => by rcases (by omega : i = 0 ∨ i = 1) with rfl | rfl <;> rfl) rfl) rfl rfl (by decide) (by kernel_rfl) ?_
    refine y_val (v := .int _ _) (v_move (.inl rfl) (noOwn_flat rfl)) rfl rfl (by decide) (by kernel_rfl) ?_
    refine y_val (v := .rp _ _) (v_indexAddr_rpa az47 (.inl rfl) (.inl rfl) (fun _ => by omega)) rfl rfl (by decide) (by kernel_rfl) ?_
    refine y_val (v := .int .i64 (if i = 0 then c else d)) (v_load_rp1 ta3 (.inl rfl) rfl (fun _ => by rcases (by omega : i = 0 ∨ i = 1) with rfl | rfl <;> rfl) rfl) rfl rfl (by decide) (by kernel_rfl) ?_
    refine y_val (v := .bool _) (v_neq (.inl rfl) (.inl rfl)) rfl rfl (by decide) (by kernel_rfl) ?_
    refine y_nil ?_
    refine a_cond rfl (fun ht16 => ?_) (fun ht16 => ?_)
    ·
      skip
      refine a_seq ?_
      refine a_region ?_
      refine r_val (v := .bool _) (v_assign (.inl rfl) (noOwn_flat rfl)) rfl rfl (by decide) ?_
      refine r_nil ?_
      refine a_ret ?_
      refine ret1 Tryz.results25 (by decide) (by decide) (Weak.of_eq (bool_eq ?_)) rfl Leaves.nil
      rcases (by omega : i = 0 ∨ i = 1) with rfl | rfl <;> simp at ht16 <;> simp [ht16]
    ·
      skip
      refine a_skip ?_
      refine a_region ?_
      refine r_val (v := .int _ _) (v_move (.inl rfl) (noOwn_flat rfl)) rfl rfl (by decide) ?_
      refine r_val (v := .int _ _) (v_add (.inl rfl) (.inl rfl) (fun _ => by omega)) rfl rfl (by decide) ?_
      refine r_val (v := .int _ _) (v_assign (.inl rfl) (noOwn_flat rfl)) rfl rfl (by decide) ?_
      refine r_nil ?_
      refine ⟨i + 1, ent_look ⟨Weak.of_eq rfl, Weak.of_eq rfl, Weak.of_eq (int_eq (by omega)), trivial⟩, ⟨by omega, fun h => (by rcases (by omega : i = 0 ∨ i = 1) with rfl | rfl; simpa using ht16; exact hG2 (by omega)), fun h => (by rcases (by omega : i = 0 ∨ i = 1) with rfl | rfl; omega; simpa using ht16)⟩, by omega⟩
  ·
    skip
    refine a_exit ?_
    refine a_seq ?_
    refine a_region ?_
    refine r_val (v := .bool _) (v_assign (.inl rfl) (noOwn_flat rfl)) rfl rfl (by decide) ?_
    refine r_nil ?_
    refine a_ret ?_
    refine ret1 Tryz.results25 (by decide) (by decide) (Weak.of_eq (bool_eq ?_)) rfl Leaves.nil
    simp at ht7; rw [hG2 (by omega), hG3 (by omega)]; simp

theorem eqIntA2S_c (xs ys : List (Int × Int)) (hl : (xs.length : Int) ≤ 9223372036854775807) : ACall Tryz.prog 10 [.sl (tcells xs) xs.length, .sl (tcells ys) ys.length] [] (.bool (decide (xs = ys))) [] := by
  refine ACall.intro Tryz.func10 rfl (N := 27) rfl (by decide) (by simp) ?_
  refine a_seq ?_
  refine a_region ?_
  refine r_val (v := .bool _) (v_assign (.inl rfl) (noOwn_flat rfl)) rfl rfl (by decide) ?_
  refine r_nil ?_
  refine a_seq ?_
  refine a_seq ?_
  refine a_region ?_
  refine r_val (v := .sl _ _) (v_move (.inl rfl) (noOwn_flat rfl)) rfl rfl (by decide) ?_
  refine r_val (v := .int _ _) (v_len_sl sl27 (.inl rfl)) rfl rfl (by decide) ?_
  refine r_val (v := .sl _ _) (v_move (.inl rfl) (noOwn_flat rfl)) rfl rfl (by decide) ?_
  refine r_val (v := .int _ _) (v_len_sl sl27 (.inl rfl)) rfl rfl (by decide) ?_
  refine r_val (v := .bool _) (v_neq (.inl rfl) (.inl rfl)) rfl rfl (by decide) ?_
  refine r_nil ?_
  refine a_cond rfl (fun ht10 => ?_) (fun ht10 => ?_)
  ·
    skip
    refine a_seq ?_
    refine a_region ?_
    refine r_val (v := .bool _) (v_assign (.inl rfl) (noOwn_flat rfl)) rfl rfl (by decide) ?_
    refine r_nil ?_
    refine a_ret ?_
    refine ret1 Tryz.results10 (by decide) (by decide) (Weak.of_eq (bool_eq ?_)) rfl Leaves.nil
    simp at ht10; exact (decide_eq_false (fun h => ht10 (by rw [h]))).symm
  ·
    skip
    refine a_skip ?_
    refine a_seq ?_
    refine a_seq ?_
    refine a_region ?_
    refine r_val (v := .int _ _) (v_assign (.inl rfl) (noOwn_flat rfl)) rfl rfl (by decide) ?_
    refine r_nil ?_
    refine a_block ?_
    refine a_loop (X := Nat) (fun i => look [(0, .sl (tcells xs) xs.length), (1, .sl (tcells ys) ys.length), (5, .int .i64 (i : Int))]) (fun i => i ≤ xs.length ∧ xs.length = ys.length ∧ xs.take i = ys.take i) (fun i => xs.length - i) 0 (ent_look ⟨Weak.of_eq rfl, Weak.of_eq rfl, Weak.of_eq rfl, trivial⟩) ⟨Nat.zero_le _, by simp at ht10; omega, rfl⟩ (fun i hG => ?_)
    obtain ⟨h1, h2, h3⟩ := hG
    refine a_seq ?_
    refine a_seq ?_
    refine a_region ?_
    refine r_val (v := .int _ _) (v_move (.inl rfl) (noOwn_flat rfl)) rfl rfl (by decide) ?_
    refine r_val (v := .sl _ _) (v_move (.inl rfl) (noOwn_flat rfl)) rfl rfl (by decide) ?_
    refine r_val (v := .int _ _) (v_len_sl sl27 (.inl rfl)) rfl rfl (by decide) ?_
    refine r_val (v := .bool _) (v_lss (.inl rfl) (.inl rfl)) rfl rfl (by decide) ?_
    refine r_nil ?_
    refine a_cond rfl (fun ht14 => ?_) (fun ht14 => ?_)
    ·
      skip
      refine a_skip ?_
      refine a_seq ?_
      refine a_block ?_
      refine a_seq ?_
      have hi : i < xs.length := (by simp at ht14; omega)
      have hi2 : i < ys.length := (by omega)
      refine a_region_any mixed (by kernel_rfl) ?_
      refine y_val (v := .sl _ _) (v_move (.inl rfl) (noOwn_flat rfl)) rfl rfl (by decide) (by kernel_rfl) ?_
      refine y_val (v := .int _ _) (v_move (.inl rfl) (noOwn_flat rfl)) rfl rfl (by decide) (by kernel_rfl) ?_
      refine y_val (v := .pp _ _) (v_indexAddr_sl es27 (.inl rfl) (.inl rfl) (fun _ => ⟨by omega, by omega, tcells_ne hi⟩)) rfl rfl (by decide) (by kernel_rfl) ?_
      refine y_val (v := .agg [.int _ _, .int _ _]) (v_load_ppa1 ta47 (.inl rfl) rfl (fun _ => tcells_two (getElem?_of_lt hi)) rfl) rfl rfl (by decide) (by kernel_rfl) ?_
      refine y_val (v := .sl _ _) (v_move (.inl rfl) (noOwn_flat rfl)) rfl rfl (by decide) (by kernel_rfl) ?_
      refine y_val (v := .int _ _) (v_move (.inl rfl) (noOwn_flat rfl)) rfl rfl (by decide) (by kernel_rfl) ?_
      refine y_val (v := .pp _ _) (v_indexAddr_sl es27 (.inl rfl) (.inl rfl) (fun _ => ⟨by omega, by omega, tcells_ne hi2⟩)) rfl rfl (by decide) (by kernel_rfl) ?_
      refine y_val (v := .agg [.int _ _, .int _ _]) (v_load_ppa1 ta47 (.inl rfl) rfl (fun _ => tcells_two (getElem?_of_lt hi2)) rfl) rfl rfl (by decide) (by kernel_rfl) ?_
      refine y_new (v := .bool _) (q_call (vs := [.agg [.int _ _, .int _ _], .agg [.int _ _, .int _ _]]) (args := [.agg [.int .i64 _, .int .i64 _], .agg [.int .i64 _, .int .i64 _]]) hb25 ⟨.inl rfl, .inl rfl, trivial⟩ rfl (fun hA => eqIntA2_c _ _ _ _) rfl rfl) rfl rfl (by decide) (by kernel_rfl) ?_
      refine y_val (v := .bool _) (v_not (.inl rfl)) rfl rfl (by decide) (by kernel_rfl) ?_
      refine y_nil ?_
      refine a_cond rfl (fun ht26 => ?_) (fun ht26 => ?_)
      ·
        skip
        refine a_seq ?_
        refine a_region ?_
        refine r_val (v := .bool _) (v_assign (.inl rfl) (noOwn_flat rfl)) rfl rfl (by decide) ?_
        refine r_nil ?_
        refine a_ret ?_
        refine ret1 Tryz.results10 (by decide) (by decide) (Weak.of_eq (bool_eq ?_)) rfl Leaves.nil
        simp at ht26; refine (decide_eq_false (fun h => ?_)).symm
        subst h
        simp at ht26
      ·
        skip
        refine a_skip ?_
        refine a_region ?_
        refine r_val (v := .int _ _) (v_move (.inl rfl) (noOwn_flat rfl)) rfl rfl (by decide) ?_
        refine r_val (v := .int _ _) (v_add (.inl rfl) (.inl rfl) (fun _ => by omega)) rfl rfl (by decide) ?_
        refine r_val (v := .int _ _) (v_assign (.inl rfl) (noOwn_flat rfl)) rfl rfl (by decide) ?_
        refine r_nil ?_
        refine ⟨i + 1, ent_look ⟨Weak.of_eq rfl, Weak.of_eq rfl, Weak.of_eq (int_eq (by omega)), trivial⟩, ⟨by omega, h2, take_step hi (by omega) h3 (by simp at ht26; exact Prod.ext ht26.1 ht26.2)⟩, by omega⟩
    ·
      skip
      refine a_exit ?_
      refine a_seq ?_
      refine a_region ?_
      refine r_val (v := .bool _) (v_assign (.inl rfl) (noOwn_flat rfl)) rfl rfl (by decide) ?_
      refine r_nil ?_
      refine a_ret ?_
      refine ret1 Tryz.results10 (by decide) (by decide) (Weak.of_eq (bool_eq ?_)) rfl Leaves.nil
      simp at ht14; refine (decide_eq_true ?_).symm
      rw [List.take_of_length_le (by omega), List.take_of_length_le (by omega)] at h3; exact h3

end Go.Av
namespace Go.Av
open Go Go.Proofs Go.Sort
set_option maxRecDepth 10000



end Go.Av
namespace Go.Av
open Go Go.Proofs Go.Sort
set_option maxRecDepth 10000


end Go.Av
namespace Go.Av
open Go Go.Proofs Go.Sort
set_option maxRecDepth 10000



end Go.Av
namespace Go.Av
open Go Go.Proofs Go.Sort
set_option maxRecDepth 10000



end Go.Av
namespace Go.Av
open Go Go.Proofs Go.Sort
set_option maxRecDepth 10000



end Go.Av
namespace Go.Av
open Go Go.Proofs Go.Sort
set_option maxRecDepth 10000



end Go.Av
namespace Go.Av
open Go Go.Proofs Go.Sort
set_option maxRecDepth 10000


end Go.Av
namespace Go.Av
open Go Go.Proofs Go.Sort
set_option maxRecDepth 10000



end Go.Av
namespace Go.Av
open Go Go.Proofs Go.Sort
set_option maxRecDepth 10000



end Go.Av
namespace Go.Av
open Go Go.Proofs Go.Sort
set_option maxRecDepth 10000



end Go.Av
namespace Go.Av
open Go Go.Proofs Go.Sort
set_option maxRecDepth 10000



end Go.Av
namespace Go.Av
open Go
/-- An array type's zero cells and the size of an element. -/
def arrPl (P : Program) (t : Nat) : Option (List AV × Nat) :=
  match P.info? t, P.underlying t with
  | some it, some (.array _ e) =>
    match it.zero, P.info? e with
    | some z, some ie => some (z.cells.toList.map cstS, ie.size)
    | _, _ => none
  | _, _ => none
section
variable {P : Program} {N : Nat} {A : Bool} {σ : Sig} {ty : TypeId}
/-- An array literal. -/
theorem v_buildA {t : Nat} {zs : List AV} {sz : Nat} {parts : List (Nat × Operand)} {cs : List AV} (ht : arrPl P t = some (zs, sz))
    (hf : fillA (fun i => some (i * sz, sz)) zs (parts.map fun x => (x.1, rd N σ x.2)) = some cs) (hn : (cs.all fun c => c.isOwn == false && (kids c).isEmpty) = true) :
    VSem P N A (buildOp t parts) ty σ (slotsL (parts.map (·.2))) (.agg cs) := by
  have hno : NoOwn (.agg cs) := noOwn_agg fun c hc r y hy => by
    simp only [List.all_eq_true, Bool.and_eq_true, beq_iff_eq, List.isEmpty_iff] at hn
    obtain ⟨h1, h2⟩ := hn c hc
    cases r with
    | nil => simp [node] at hy; subst hy; exact h1
    | cons j r => simp [node, h2] at hy
  refine ⟨hno, fun hA σ' hD gv e a w β F hi p o' ho _ => ?_⟩
  unfold arrPl at ht
  cases hit : P.info? t with
  | none => rw [hit] at ht; cases ht
  | some it =>
    cases hu : P.underlying t with
    | none => rw [hit, hu] at ht; cases ht
    | some dsc =>
      rw [hit, hu] at ht
      cases dsc <;> try (simp at ht; done)
      case array m el =>
        dsimp only at ht
        cases hz : it.zero with
        | none => rw [hz] at ht; cases ht
        | some z =>
          cases hm : P.info? el with
          | none => rw [hz, hm] at ht; cases ht
          | some ie =>
            rw [hz, hm] at ht
            simp only [Option.some.injEq, Prod.mk.injEq] at ht
            obtain ⟨rfl, rfl⟩ := ht
            obtain ⟨arr', he, hca⟩ := fill_spec (β := β) (F := F) (w := w) (parts.map fun x => (x.1, rd N σ x.2)) (parts.map fun x => (x.1, a.eval x.2)) _ z.cells cs (cells_zero z.cells) (by simp)
              (fun j i v hj => by
                rw [List.getElem?_map] at hj
                cases hp : parts[j]? with
                | none => rw [hp] at hj; cases hj
                | some x =>
                  rw [hp] at hj
                  simp only [Option.map_some, Option.some.injEq, Prod.mk.injEq] at hj
                  obtain ⟨rfl, rfl⟩ := hj
                  refine ⟨noOwn_rd _, a.eval x.2, (0, []), by rw [List.getElem?_map, hp]; rfl, ?_⟩
                  have := rd_rep hi x.2 (0, [])
                  rwa [rd_agree (fun i hi' => hD i (List.mem_flatMap.2 ⟨x.2, List.mem_map.2 ⟨x, List.mem_of_getElem? hp, rfl⟩, hi'⟩))] at this) hf
            refine ⟨.agg arr', ?_, ?_⟩
            · have hb : P.built t (parts.map fun x => (x.1, a.eval x.2)) = some arr' := by
                unfold Program.built
                simp only [hit, hu, hz, hm]
                simpa using he
              have := run_build w t (parts.map fun x => (x.1, a.eval x.2)).toArray arr' (by simpa using hb)
              simp only [execOp, ho, buildOp, List.map_toArray, this, Sem.run_bind, Sem.run_pure, Result.andThen_ok]
            · obtain ⟨h1, h2, h3⟩ := hca
              have : Rep β F w (.agg cs) (0, []) (.agg arr') := by
                simp only [Rep]
                exact ⟨arr'.toList, by simp, by simpa using h1, h3⟩
              exact this.anywhere hno
end
/-- A closure that reads a captured slice. -/
theorem fn_pp {f : FuncId} {cs : List AV} {n : Nat} (h : pureL cs = true ∧ noNilL cs = true) : AV.fn f [] [.pp [.sl (shL cs) n] 0] = .fn f [] [.pp [.sl cs n] 0] := by rw [shL_id cs h.1 h.2]
end Go.Av
namespace Go.Av
open Go
/-- 1 for a true clause, -1 for a false one, and 0 for an open one. -/
def cval (c a : List Int) : Int := if c.any (fun l => decide (l ∈ a)) then 1 else if c.all (fun l => decide (-l ∈ a)) then -1 else 0
def cvP (c a : List Int) (i : Nat) : Int := if (c.take i).all (fun l => decide (-l ∈ a)) then -1 else 0
theorem cvP_succ {c a : List Int} {i : Nat} (h : i < c.length) : cvP c a (i + 1) = if -(gd c i) ∈ a then cvP c a i else 0 := by
  unfold cvP
  rw [take_gd h, List.all_append]
  by_cases hx : -(gd c i) ∈ a <;> simp [hx]
theorem cval_one {c a : List Int} {i : Nat} (h : i < c.length) (hx : gd c i ∈ a) : cval c a = 1 := by
  unfold cval
  rw [if_pos]
  rw [List.any_eq_true]; exact ⟨gd c i, gd_mem h, by simpa using hx⟩
theorem cval_end {c a : List Int} {i : Nat} (hi : c.length ≤ i) (h : ∀ j, j < i → ¬ gd c j ∈ a) : cval c a = cvP c a i := by
  unfold cval cvP
  rw [if_neg, List.take_of_length_le hi]
  intro hc
  obtain ⟨x, hx, hxa⟩ := List.any_eq_true.1 hc
  obtain ⟨j, hj, rfl⟩ := mem_gd hx
  exact h j (by omega) (by simpa using hxa)
theorem cval_le (c a : List Int) : -1 ≤ cval c a ∧ cval c a ≤ 1 := by unfold cval; split <;> (try split) <;> omega
/-- A clause without its false literals. -/
def opn (c a : List Int) : List Int := c.filter fun l => !decide (-l ∈ a)
theorem opn_len (c a : List Int) : (opn c a).length ≤ c.length := List.length_filter_le _ _
theorem opn_succ {c a : List Int} {i : Nat} (h : i < c.length) : opn (c.take (i + 1)) a = if -(gd c i) ∈ a then opn (c.take i) a else opn (c.take i) a ++ [gd c i] := by
  unfold opn
  rw [take_gd h, List.filter_append]
  by_cases hx : -(gd c i) ∈ a <;> simp [hx]
/-- The open literal of a unit clause, or 0. -/
def unitL (c a : List Int) : Int := if cval c a = 0 ∧ (opn c a).length = 1 then gd (opn c a) 0 else 0
theorem unit_no {c a : List Int} (h : ¬ (cval c a = 0 ∧ (opn c a).length = 1)) : unitL c a = 0 := if_neg h
theorem unit_yes {c a : List Int} (h : cval c a = 0) (h2 : (opn c a).length = 1) : unitL c a = gd (opn c a) 0 := if_pos ⟨h, h2⟩
theorem unit_open {c a : List Int} (h : unitL c a ≠ 0) : unitL c a ∈ c ∧ ¬ unitL c a ∈ a ∧ ¬ -(unitL c a) ∈ a := by
  unfold unitL at h ⊢
  split at h
  · rename_i h2
    rw [if_pos h2]
    have hm : gd (opn c a) 0 ∈ opn c a := gd_mem (by omega)
    have hm2 := List.mem_filter.1 (show gd (opn c a) 0 ∈ c.filter (fun l => !decide (-l ∈ a)) from hm)
    refine ⟨hm2.1, fun hx => ?_, by simpa using hm2.2⟩
    have := h2.1
    unfold cval at this
    rw [if_pos (List.any_eq_true.2 ⟨_, hm2.1, by simpa using hx⟩)] at this
    omega
  · exact absurd rfl h
theorem unit_bd {c a : List Int} (h : SmI c) : -4611686018427387904 ≤ unitL c a ∧ unitL c a ≤ 4611686018427387904 := by
  by_cases h0 : unitL c a = 0
  · omega
  · exact h.mem (unit_open h0).1
/-- The indices of the false clauses. -/
def falP (L : List (List Int)) (a : List Int) (i : Nat) : List Int := ((List.range i).filter fun j => decide (cval (gl L j) a < 0)).map fun j : Nat => (j : Int)
theorem falP_succ {L : List (List Int)} {a : List Int} {i : Nat} : falP L a (i + 1) = if cval (gl L i) a < 0 then falP L a i ++ [(i : Int)] else falP L a i := by
  unfold falP
  rw [List.range_succ, List.filter_append]
  by_cases h : cval (gl L i) a < 0 <;> simp [h]
theorem falP_len (L : List (List Int)) (a : List Int) (i : Nat) : (falP L a i).length ≤ i := by
  unfold falP; rw [List.length_map]; have := List.length_filter_le (fun j => decide (cval (gl L j) a < 0)) (List.range i); simp at this ⊢; exact this
def conf (L : List (List Int)) (a : List Int) : Bool := (List.range L.length).any fun i => decide (cval (gl L i) a < 0)
theorem conf_fal {L : List (List Int)} {a : List Int} : conf L a = decide (((falP L a L.length).length : Int) > 0) := by
  rw [Bool.eq_iff_iff, decide_eq_true_iff]
  unfold conf falP
  rw [List.length_map]
  constructor
  · intro h
    obtain ⟨x, hx, hh⟩ := List.any_eq_true.1 h
    have := List.length_pos_of_mem ((List.mem_filter (p := fun j => decide (cval (gl L j) a < 0))).2 ⟨hx, hh⟩)
    omega
  · intro h
    obtain ⟨x, hx⟩ := List.exists_mem_of_length_pos (l := (List.range L.length).filter fun j => decide (cval (gl L j) a < 0)) (by omega)
    rw [List.mem_filter] at hx
    exact List.any_eq_true.2 ⟨x, hx.1, hx.2⟩
def cnfV (L : List (List Int)) (a : List Int) : Nat → Int
  | 0 => 1
  | i + 1 => min (cnfV L a i) (cval (gl L i) a)
theorem cnfV_le {L : List (List Int)} {a : List Int} : ∀ i, (-1 ≤ cnfV L a i ∧ cnfV L a i ≤ 1) ∧ (0 ≤ cnfV L a i ↔ ∀ j, j < i → 0 ≤ cval (gl L j) a)
  | 0 => ⟨by simp [cnfV], by simp [cnfV]⟩
  | i + 1 => by
    have ih := cnfV_le (L := L) (a := a) i
    have hc := cval_le (gl L i) a
    unfold cnfV
    constructor
    · omega
    · constructor
      · intro h j hj
        have h2 : 0 ≤ cnfV L a i ∧ 0 ≤ cval (gl L i) a := by omega
        rcases Nat.lt_or_ge j i with h3 | h3
        · exact ih.2.1 h2.1 j h3
        · obtain rfl : j = i := by omega
          exact h2.2
      · intro h
        have h1 := ih.2.2 fun j hj => h j (by omega)
        have h2 := h i (by omega)
        omega
theorem cnfV_conf {L : List (List Int)} {a : List Int} : decide (cnfV L a L.length ≥ 0) = !conf L a := by
  rw [Bool.eq_iff_iff, decide_eq_true_iff, ge_iff_le, (cnfV_le L.length).2, Bool.not_eq_true']
  unfold conf
  rw [List.any_eq_false]
  constructor
  · intro h x hx; have := h x (by simpa using hx); simp; omega
  · intro h j hj; have := h j (by simpa using hj); simp at this; omega
/-- The first unit clause, or -1. -/
def uix (L : List (List Int)) (a : List Int) : Int := fidx (fun i => decide (unitL (gl L i) a ≠ 0)) L.length
theorem uix_bd (L : List (List Int)) (a : List Int) : uix L a = -1 ∨ (0 ≤ uix L a ∧ (uix L a).toNat < L.length ∧ ((uix L a).toNat : Int) = uix L a ∧ unitL (gl L (uix L a).toNat) a ≠ 0) := by
  by_cases h : uix L a = -1
  · exact .inl h
  · obtain ⟨i, h1, h2, h3, _⟩ := fidx_spec (p := fun i => decide (unitL (gl L i) a ≠ 0)) (n := L.length) h
    have h4 : uix L a = i := h2
    right
    rw [h4]
    exact ⟨by omega, by omega, by omega, by simpa using h3⟩
/-- The least index that is met from the end on. -/
def dwn (p : Nat → Bool) (n : Nat) : Nat → Int
  | 0 => -1
  | k + 1 => if p (n - (k + 1)) then ((n - (k + 1) : Nat) : Int) else dwn p n k
theorem dwn_spec {p : Nat → Bool} {n : Nat} : ∀ k, k ≤ n → (dwn p n k = -1 ∧ ∀ j, n - k ≤ j → j < n → p j = false) ∨ ∃ i : Nat, dwn p n k = i ∧ n - k ≤ i ∧ i < n ∧ p i = true ∧ ∀ j, n - k ≤ j → j < i → p j = false
  | 0, _ => .inl ⟨rfl, fun j h1 h2 => by omega⟩
  | k + 1, hk => by
    unfold dwn
    by_cases hp : p (n - (k + 1)) = true
    · rw [if_pos hp]; exact .inr ⟨n - (k + 1), rfl, Nat.le_refl _, by omega, hp, fun j h1 h2 => by omega⟩
    · rw [if_neg hp]
      have hstep : ∀ j, n - (k + 1) ≤ j → (j = n - (k + 1)) ∨ n - k ≤ j := fun j h => by omega
      rcases dwn_spec (p := p) (n := n) k (by omega) with ⟨h1, h2⟩ | ⟨i, h1, h2, h3, h4, h5⟩
      · refine .inl ⟨h1, fun j h6 h7 => ?_⟩
        rcases hstep j h6 with rfl | h8
        · simpa using hp
        · exact h2 j h8 h7
      · refine .inr ⟨i, h1, by omega, h3, h4, fun j h6 h7 => ?_⟩
        rcases hstep j h6 with rfl | h8
        · simpa using hp
        · exact h5 j h8 h7
theorem dwn_all {p : Nat → Bool} {n : Nat} : dwn p n n = fidx p n := by
  rcases dwn_spec (p := p) (n := n) n (Nat.le_refl _) with ⟨h1, h2⟩ | ⟨i, h1, h2, h3, h4, h5⟩
  · rw [h1, fidx_none fun j hj => h2 j (by omega) hj]
  · rw [h1, fidx_found h3 h4 fun j hj => h5 j (by omega) hj]
/-- Propagation. -/
def prop (L : List (List Int)) : Nat → List Int → List (Int × Int) → List Int × List (Int × Int) × Bool
  | 0, a, st => (a, st, conf L a)
  | k + 1, a, st => if conf L a then (a, st, true) else if uix L a = -1 then (a, st, false) else
      prop L k (setLit a (unitL (gl L (uix L a).toNat) a)) (st ++ [(unitL (gl L (uix L a).toNat) a, uix L a)])
def propR (L : List (List Int)) (a : List Int) : List Int × List (Int × Int) × Bool := prop L (13 - a.length) a []
theorem clB_of {vars : Int} {c : List Int} (hv : 0 ≤ vars ∧ vars ≤ 12) (hs : Strict c) (hl : ∀ x ∈ c, litB vars x = true) : clB vars c = true := by
  refine clB_true (inR_spec.2 hv) fun j hj => ?_
  unfold okC
  rw [hl _ (gd_mem hj), Bool.true_and, Bool.or_eq_true, decide_eq_true_iff, decide_eq_true_iff]
  rcases Nat.eq_zero_or_pos j with h | h
  · exact .inl h
  · right
    have := List.pairwise_iff_getElem.1 hs (j - 1) j (by omega) hj (by omega)
    unfold gd
    rw [List.getElem?_eq_getElem hj, List.getElem?_eq_getElem (by omega)]
    simpa using this
theorem wo_new {a : List Int} {l : Int} (h1 : ¬ l ∈ a) (h2 : ¬ -l ∈ a) : woS a (vr l) = a := by
  unfold woS
  rw [List.filter_eq_self]
  intro x hx
  simp only [decide_eq_true_eq]
  intro e
  rcases vr_same e with rfl | rfl
  · exact h1 hx
  · exact h2 hx
theorem set_new {vars : Int} {a : List Int} {l : Int} (hc : clB vars a = true) (hl : litB vars l = true) (h1 : ¬ l ∈ a) (h2 : ¬ -l ∈ a) : clB vars (setLit a l) = true ∧ (setLit a l).length = a.length + 1 := by
  unfold setLit
  rw [wo_new h1 h2]
  refine ⟨clB_of (clB_spec hc).1 (strict_put (clB_strict hc) fun y hy e => ?_) fun x hx => ?_, putL_length _ _⟩
  · rcases vr_same e with rfl | rfl
    · exact h1 hy
    · exact h2 hy
  · rcases mem_putL.1 hx with rfl | hx
    · exact hl
    · exact (clB_mem hc hx).1
/-- A step of propagation. -/
theorem prop_step {vars : Int} {L : List (List Int)} {a : List Int} (hL : ∀ i, i < L.length → clB vars (gl L i) = true) (hc : clB vars a = true) (h : ¬ uix L a = -1) :
    litB vars (unitL (gl L (uix L a).toNat) a) = true ∧ clB vars (setLit a (unitL (gl L (uix L a).toNat) a)) = true ∧ (setLit a (unitL (gl L (uix L a).toNat) a)).length = a.length + 1 := by
  obtain ⟨h1, h2, h3, h4⟩ := (uix_bd L a).resolve_left h
  obtain ⟨g1, g2, g3⟩ := unit_open h4
  have hl := (clB_mem (hL _ h2) g1).1
  exact ⟨hl, set_new hc hl g2 g3⟩
theorem prop_go {vars : Int} {L : List (List Int)} {a : List Int} {st : List (Int × Int)} (hL : ∀ i, i < L.length → clB vars (gl L i) = true) (hc : clB vars a = true) (h0 : conf L a = false) (h : ¬ uix L a = -1) :
    prop L (13 - (setLit a (unitL (gl L (uix L a).toNat) a)).length) (setLit a (unitL (gl L (uix L a).toNat) a)) (st ++ [(unitL (gl L (uix L a).toNat) a, uix L a)]) = prop L (13 - a.length) a st := by
  have h1 := prop_step hL hc h
  have h2 := clB_len h1.2.1
  rw [h1.2.2, show 13 - a.length = (13 - (a.length + 1)) + 1 by omega]
  conv => rhs; rw [prop]
  rw [h0, if_neg (by simp), if_neg h]
theorem prop_conf {vars : Int} {L : List (List Int)} {a : List Int} {st : List (Int × Int)} (hc : clB vars a = true) (h0 : conf L a = true) : prop L (13 - a.length) a st = (a, st, true) := by
  have h2 := clB_len hc
  rw [show 13 - a.length = (12 - a.length) + 1 by omega, prop, if_pos h0]
theorem prop_none {vars : Int} {L : List (List Int)} {a : List Int} {st : List (Int × Int)} (hc : clB vars a = true) (h0 : conf L a = false) (h : uix L a = -1) : prop L (13 - a.length) a st = (a, st, false) := by
  have h2 := clB_len hc
  rw [show 13 - a.length = (12 - a.length) + 1 by omega, prop, h0, if_neg (by simp), if_pos h]
theorem prop_ok {vars : Int} {L : List (List Int)} (hL : ∀ i, i < L.length → clB vars (gl L i) = true) : ∀ (k : Nat) (a : List Int) (st : List (Int × Int)), clB vars a = true →
    clB vars (prop L k a st).1 = true ∧ (prop L k a st).2.1.length ≤ st.length + k
  | 0, a, st, hc => ⟨hc, by simp [prop]⟩
  | k + 1, a, st, hc => by
    unfold prop
    split
    · exact ⟨hc, by simp⟩
    · split
      · exact ⟨hc, by simp⟩
      · rename_i h
        have h1 := prop_step hL hc h
        obtain ⟨g1, g2⟩ := prop_ok hL k (setLit a (unitL (gl L (uix L a).toNat) a)) (st ++ [(unitL (gl L (uix L a).toNat) a, uix L a)]) h1.2.1
        exact ⟨g1, by simp at g2 ⊢; omega⟩
theorem propR_ok {vars : Int} {L : List (List Int)} {a : List Int} (hL : ∀ i, i < L.length → clB vars (gl L i) = true) (hc : clB vars a = true) :
    clB vars (propR L a).1 = true ∧ (propR L a).1.length ≤ 12 ∧ (propR L a).2.1.length ≤ 13 := by
  obtain ⟨h1, h2⟩ := prop_ok hL (13 - a.length) a [] hc
  exact ⟨h1, clB_len h1, by simp at h2; unfold propR; omega⟩
/-- The assignment in which all literals of a clause are false. -/
def ngL (c : List Int) : List Int := c.map fun x => -x
def ngP (c : List Int) (i : Nat) : List Int := ngL (c.take i)
theorem ngP_succ {c : List Int} {i : Nat} (h : i < c.length) : ngP c (i + 1) = ngP c i ++ [-(gd c i)] := by unfold ngP ngL; rw [take_gd h, List.map_append]; rfl
theorem ngP_len {c : List Int} {i : Nat} (h : i ≤ c.length) : (ngP c i).length = i := by simp [ngP, ngL]; omega
theorem ngP_full {c : List Int} {i : Nat} (h : c.length ≤ i) : ngP c i = ngL c := by unfold ngP; rw [List.take_of_length_le h]
theorem ngL_len (c : List Int) : (ngL c).length = c.length := by simp [ngL]
theorem ngL_cl {vars : Int} {c : List Int} (h : clB vars c = true) : clB vars (ngL c) = true := by
  refine clB_of (clB_spec h).1 ?_ fun x hx => ?_
  · unfold Strict ngL
    rw [List.pairwise_map]
    exact (clB_strict h).imp fun h => by rw [vr_neg, vr_neg]; exact h
  · obtain ⟨y, hy, rfl⟩ := List.mem_map.1 hx
    have := (clB_mem h hy).1
    rw [litB_spec] at this ⊢; omega
end Go.Av
namespace Go.Av
open Go
/-- Does a clause follow by units? -/
def folB (L : List (List Int)) (c : List Int) : Bool := (propR L (ngL c)).2.2
theorem sls_cell (L : List (List Int)) : cellL (sls L) = true := by
  unfold sls cellL; simp [cellV]
theorem sls_append (L M : List (List Int)) : sls (L ++ M) = sls L ++ sls M := by simp [sls]
theorem sls_noRef (L : List (List Int)) : noRefL (sls L) = true := noRefL_pure _ (sls_pureL L)
end Go.Av
namespace Go.Av
open Go Go.Proofs Go.Sort
set_option maxRecDepth 10000
theorem idx_mem (xs : List Int) (v : Int) : decide (fidx (fun i => decide (v = gd xs i)) xs.length ≥ 0) = decide (v ∈ xs) := by
  rw [show decide (fidx (fun i => decide (v = gd xs i)) xs.length ≥ 0) = decide (0 ≤ fidx (fun i => decide (v = gd xs i)) xs.length) from rfl, fidx_any, Bool.eq_iff_iff, decide_eq_true_iff]
  constructor
  · intro h
    obtain ⟨i, hi, hx⟩ := List.any_eq_true.1 h
    rw [of_decide_eq_true hx]; exact gd_mem (by simpa using hi)
  · intro h
    obtain ⟨j, hj, hx⟩ := mem_gd h
    exact List.any_eq_true.2 ⟨j, by simpa using hj, by simp [hx]⟩
theorem hb47 : hasBody Tryz.prog 47 = true := by kernel_rfl
theorem hb59 : hasBody Tryz.prog 59 = true := by kernel_rfl
theorem hb64 : hasBody Tryz.prog 64 = true := by kernel_rfl
theorem hb67 : hasBody Tryz.prog 67 = true := by kernel_rfl
theorem hb72 : hasBody Tryz.prog 72 = true := by kernel_rfl
theorem hb75 : hasBody Tryz.prog 75 = true := by kernel_rfl
theorem hb78 : hasBody Tryz.prog 78 = true := by kernel_rfl
theorem hb81 : hasBody Tryz.prog 81 = true := by kernel_rfl

theorem index_c (xs : List Int) (v : Int) (hl : xs.length ≤ 1048576) : ACall Tryz.prog 81 [.sl (icells xs) xs.length, .int .i64 v] [] (.int .i64 (fidx (fun i => decide (v = gd xs i)) xs.length)) [] := by
  refine ACall.intro Tryz.func81 rfl (N := 19) rfl (by decide) (by simp) ?_
  refine a_seq ?_
  refine a_region ?_
  refine r_val (v := .int _ _) (v_assign (.inl rfl) (noOwn_flat rfl)) rfl rfl (by decide) ?_
  refine r_nil ?_
  refine a_seq ?_
  refine a_seq ?_
  refine a_region ?_
  refine r_val (v := .sl _ _) (v_move (.inl rfl) (noOwn_flat rfl)) rfl rfl (by decide) ?_
  refine r_val (v := .int _ _) (v_len_sl sl40 (.inl rfl)) rfl rfl (by decide) ?_
  refine r_val (v := .int _ _) (v_move (.inl rfl) (noOwn_flat rfl)) rfl rfl (by decide) ?_
  refine r_nil ?_
  refine a_block ?_
  refine a_loop (X := Nat) (fun i => look [(0, .sl (icells xs) xs.length), (1, .int .i64 v), (7, .int .i64 ((xs.length : Nat) : Int)), (8, .int .i64 ((i : Nat) : Int))]) (fun i => i ≤ xs.length ∧ ∀ j, j < i → decide (v = gd xs j) = false) (fun i => xs.length - i) 0 (ent_look ⟨Weak.of_eq rfl, Weak.of_eq rfl, Weak.of_eq rfl, Weak.of_eq rfl, trivial⟩) ⟨Nat.zero_le _, fun j h => by omega⟩ (fun i hG => ?_)
  obtain ⟨h1, h2⟩ := hG
  refine a_seq ?_
  refine a_region ?_
  refine r_val (v := .bool _) (v_lss (.inl rfl) (.inl rfl)) rfl rfl (by decide) ?_
  refine r_nil ?_
  refine a_seq ?_
  refine a_cond rfl (fun ht9 => ?_) (fun ht9 => ?_)
  ·
    skip
    refine a_skip ?_
    refine a_seq ?_
    refine a_block ?_
    refine a_seq ?_
    have hi : i < xs.length := (by simp at ht9; omega)
    refine a_region ?_
    refine r_val (v := .int _ _) (v_move (.inl rfl) (noOwn_flat rfl)) rfl rfl (by decide) ?_
    refine r_val (v := .int _ _) (v_assign (.inl rfl) (noOwn_flat rfl)) rfl rfl (by decide) ?_
    refine r_nil ?_
    refine a_seq ?_
    refine a_region ?_
    refine r_val (v := .int _ _) (v_move (.inl rfl) (noOwn_flat rfl)) rfl rfl (by decide) ?_
    refine r_val (v := .sl _ _) (v_move (.inl rfl) (noOwn_flat rfl)) rfl rfl (by decide) ?_
    refine r_val (v := .int _ _) (v_move (.inl rfl) (noOwn_flat rfl)) rfl rfl (by decide) ?_
    refine r_val (v := .pp _ _) (v_indexAddr_sl es40 (.inl rfl) (.inl rfl) (fun _ => ⟨by omega, by omega, icells_ne hi⟩)) rfl rfl (by decide) ?_
    refine r_val (v := .int .i64 (gd xs i)) (v_load_pp ta3 (.inl rfl) (fun _ => by rw [Nat.mul_one]; exact icells_get (gd_get hi)) rfl) rfl rfl (by decide) ?_
    refine r_val (v := .bool _) (v_eql (.inl rfl) (.inl rfl)) rfl rfl (by decide) ?_
    refine r_nil ?_
    refine a_cond rfl (fun ht16 => ?_) (fun ht16 => ?_)
    ·
      skip
      refine a_seq ?_
      refine a_region ?_
      refine r_val (v := .int _ _) (v_move (.inl rfl) (noOwn_flat rfl)) rfl rfl (by decide) ?_
      refine r_val (v := .int _ _) (v_assign (.inl rfl) (noOwn_flat rfl)) rfl rfl (by decide) ?_
      refine r_nil ?_
      refine a_ret ?_
      refine ret1 Tryz.results81 (by decide) (by decide) (Weak.of_eq (int_eq ?_)) rfl Leaves.nil
      exact (fidx_found (p := fun j => decide (v = gd xs j)) hi (by simpa using ht16) h2).symm
    ·
      skip
      refine a_skip ?_
      refine a_region ?_
      refine r_val (v := .int _ _) (v_add (.inl rfl) (.inl rfl) (fun _ => by omega)) rfl rfl (by decide) ?_
      refine r_val (v := .int _ _) (v_move (.inl rfl) (noOwn_flat rfl)) rfl rfl (by decide) ?_
      refine r_nil ?_
      refine ⟨i + 1, ent_look ⟨Weak.of_eq rfl, Weak.of_eq rfl, Weak.of_eq rfl, Weak.of_eq (int_eq (by omega)), trivial⟩, ⟨by omega, ok_stepF (p := fun j => decide (v = gd xs j)) h2 (by simpa using ht16)⟩, by omega⟩
  ·
    skip
    refine a_exit ?_
    refine a_seq ?_
    refine a_region ?_
    refine r_val (v := .int _ _) (v_assign (.inl rfl) (noOwn_flat rfl)) rfl rfl (by decide) ?_
    refine r_nil ?_
    refine a_ret ?_
    refine ret1 Tryz.results81 (by decide) (by decide) (Weak.of_eq (int_eq ?_)) rfl Leaves.nil
    simp at ht9; exact (fidx_none (p := fun j => decide (v = gd xs j)) (fun j hj => h2 j (by omega))).symm

theorem contains_c (xs : List Int) (v : Int) (hl : xs.length ≤ 1048576) : ACall Tryz.prog 75 [.sl (icells xs) xs.length, .int .i64 v] [] (.bool (decide (v ∈ xs))) [] := by
  refine ACall.intro Tryz.func75 rfl (N := 9) rfl (by decide) (by simp) ?_
  refine a_seq ?_
  refine a_region ?_
  refine r_val (v := .bool _) (v_assign (.inl rfl) (noOwn_flat rfl)) rfl rfl (by decide) ?_
  refine r_nil ?_
  refine a_seq ?_
  refine a_region ?_
  refine r_val (v := .sl _ _) (v_move (.inl rfl) (noOwn_flat rfl)) rfl rfl (by decide) ?_
  refine r_val (v := .int _ _) (v_move (.inl rfl) (noOwn_flat rfl)) rfl rfl (by decide) ?_
  refine r_new (v := .int _ _) (q_call (vs := [.sl _ _, .int _ _]) (args := [.sl _ _, .int .i64 _]) hb81 ⟨.inl rfl, .inl rfl, trivial⟩ rfl (fun hA => index_c xs v hl) rfl rfl) rfl rfl (by decide) ?_
  refine r_val (v := .bool _) (v_geq (.inl rfl) (.inl rfl)) rfl rfl (by decide) ?_
  refine r_val (v := .bool _) (v_assign (.inl rfl) (noOwn_flat rfl)) rfl rfl (by decide) ?_
  refine r_nil ?_
  refine a_ret ?_
  refine ret1 Tryz.results75 (by decide) (by decide) (Weak.of_eq (bool_eq ?_)) rfl Leaves.nil
  exact idx_mem xs v

theorem iClv_c (c a : List Int) (hs : SmI c) (hc : c.length ≤ 1048576) (ha : a.length ≤ 1048576) : ACall Tryz.prog 59 [.sl (icells c) c.length, .sl (icells a) a.length] [] (.int .i64 (cval c a)) [] := by
  refine ACall.intro Tryz.func59 rfl (N := 26) rfl (by decide) (by simp) ?_
  refine a_seq ?_
  refine a_region ?_
  refine r_val (v := .int _ _) (v_assign (.inl rfl) (noOwn_flat rfl)) rfl rfl (by decide) ?_
  refine r_nil ?_
  refine a_seq ?_
  refine a_region ?_
  refine r_val (v := .int _ _) (v_assign (.inl rfl) (noOwn_flat rfl)) rfl rfl (by decide) ?_
  refine r_nil ?_
  refine a_seq ?_
  refine a_seq ?_
  refine a_region ?_
  refine r_val (v := .sl _ _) (v_move (.inl rfl) (noOwn_flat rfl)) rfl rfl (by decide) ?_
  refine r_val (v := .int _ _) (v_len_sl sl40 (.inl rfl)) rfl rfl (by decide) ?_
  refine r_val (v := .int _ _) (v_move (.inl rfl) (noOwn_flat rfl)) rfl rfl (by decide) ?_
  refine r_nil ?_
  refine a_block ?_
  refine a_loop (X := Nat) (fun i => look [(1, .sl (icells a) a.length), (5, .int .i64 (cvP c a i)), (8, .sl (icells c) c.length), (9, .int .i64 ((c.length : Nat) : Int)), (10, .int .i64 ((i : Nat) : Int))]) (fun i => i ≤ c.length ∧ ∀ j, j < i → ¬ gd c j ∈ a) (fun i => c.length - i) 0 (ent_look ⟨Weak.of_eq rfl, Weak.of_eq rfl, Weak.of_eq rfl, Weak.of_eq rfl, Weak.of_eq rfl, trivial⟩) ⟨Nat.zero_le _, fun j h => by omega⟩ (fun i hG => ?_)
  obtain ⟨g1, g2⟩ := hG
  have hsi := hs i
  refine a_seq ?_
  refine a_region ?_
  refine r_val (v := .bool _) (v_lss (.inl rfl) (.inl rfl)) rfl rfl (by decide) ?_
  refine r_nil ?_
  refine a_seq ?_
  refine a_cond rfl (fun ht11 => ?_) (fun ht11 => ?_)
  ·
    skip
    refine a_skip ?_
    refine a_seq ?_
    refine a_block ?_
    refine a_seq ?_
    have hi : i < c.length := (by simp at ht11; omega)
    refine a_region ?_
    refine r_val (v := .pp _ _) (v_indexAddr_sl es40 (.inl rfl) (.inl rfl) (fun _ => ⟨by omega, by omega, icells_ne hi⟩)) rfl rfl (by decide) ?_
    refine r_val (v := .int .i64 (gd c i)) (v_load_pp ta3 (.inl rfl) (fun _ => by rw [Nat.mul_one]; exact icells_get (gd_get hi)) rfl) rfl rfl (by decide) ?_
    refine r_val (v := .int _ _) (v_assign (.inl rfl) (noOwn_flat rfl)) rfl rfl (by decide) ?_
    refine r_nil ?_
    refine a_block ?_
    refine a_seq ?_
    refine a_region ?_
    refine r_val (v := .sl _ _) (v_move (.inl rfl) (noOwn_flat rfl)) rfl rfl (by decide) ?_
    refine r_val (v := .int _ _) (v_move (.inl rfl) (noOwn_flat rfl)) rfl rfl (by decide) ?_
    refine r_new (v := .bool _) (q_call (vs := [.sl _ _, .int _ _]) (args := [.sl _ _, .int .i64 _]) hb75 ⟨.inl rfl, .inl rfl, trivial⟩ rfl (fun hA => contains_c a _ ha) rfl rfl) rfl rfl (by decide) ?_
    refine r_val (v := .bool _) (v_assign (.inl rfl) (noOwn_flat rfl)) rfl rfl (by decide) ?_
    refine r_nil ?_
    refine a_cond rfl (fun ht14 => ?_) (fun ht14 => ?_)
    ·
      skip
      refine a_seq ?_
      refine a_region ?_
      refine r_val (v := .int _ _) (v_assign (.inl rfl) (noOwn_flat rfl)) rfl rfl (by decide) ?_
      refine r_nil ?_
      refine a_ret ?_
      refine ret1 Tryz.results59 (by decide) (by decide) (Weak.of_eq (int_eq ?_)) rfl Leaves.nil
      exact (cval_one hi (by simpa using ht14)).symm
    ·
      skip
      refine a_seq ?_
      refine a_region ?_
      refine r_val (v := .sl _ _) (v_move (.inl rfl) (noOwn_flat rfl)) rfl rfl (by decide) ?_
      refine r_val (v := .int _ _) (v_move (.inl rfl) (noOwn_flat rfl)) rfl rfl (by decide) ?_
      refine r_val (v := .int _ _) (v_neg (.inl rfl) (fun _ => by omega)) rfl rfl (by decide) ?_
      refine r_new (v := .bool _) (q_call (vs := [.sl _ _, .int _ _]) (args := [.sl _ _, .int .i64 _]) hb75 ⟨.inl rfl, .inl rfl, trivial⟩ rfl (fun hA => contains_c a _ ha) rfl rfl) rfl rfl (by decide) ?_
      refine r_val (v := .bool _) (v_not (.inl rfl)) rfl rfl (by decide) ?_
      refine r_val (v := .bool _) (v_assign (.inl rfl) (noOwn_flat rfl)) rfl rfl (by decide) ?_
      refine r_nil ?_
      refine a_cond rfl (fun ht18 => ?_) (fun ht18 => ?_)
      ·
        skip
        refine a_region ?_
        refine r_val (v := .int _ _) (v_assign (.inl rfl) (noOwn_flat rfl)) rfl rfl (by decide) ?_
        refine r_nil ?_
        refine a_region ?_
        refine r_val (v := .int _ _) (v_add (.inl rfl) (.inl rfl) (fun _ => by omega)) rfl rfl (by decide) ?_
        refine r_val (v := .int _ _) (v_move (.inl rfl) (noOwn_flat rfl)) rfl rfl (by decide) ?_
        refine r_nil ?_
        refine ⟨i + 1, ent_look ⟨Weak.of_eq rfl, Weak.of_eq (int_eq (by rw [cvP_succ hi, if_neg (by simpa using ht18)])), Weak.of_eq rfl, Weak.of_eq rfl, Weak.of_eq (int_eq (by omega)), trivial⟩, ⟨by omega, fun j h1 => by rcases Nat.lt_or_ge j i with h | h; exact g2 j h; (obtain rfl : j = i := by omega); simpa using ht14⟩, by omega⟩
      ·
        skip
        refine a_skip ?_
        refine a_region ?_
        refine r_val (v := .int _ _) (v_add (.inl rfl) (.inl rfl) (fun _ => by omega)) rfl rfl (by decide) ?_
        refine r_val (v := .int _ _) (v_move (.inl rfl) (noOwn_flat rfl)) rfl rfl (by decide) ?_
        refine r_nil ?_
        refine ⟨i + 1, ent_look ⟨Weak.of_eq rfl, Weak.of_eq (int_eq (by rw [cvP_succ hi, if_pos (by simpa using ht18)])), Weak.of_eq rfl, Weak.of_eq rfl, Weak.of_eq (int_eq (by omega)), trivial⟩, ⟨by omega, fun j h1 => by rcases Nat.lt_or_ge j i with h | h; exact g2 j h; (obtain rfl : j = i := by omega); simpa using ht14⟩, by omega⟩
  ·
    skip
    refine a_exit ?_
    refine a_seq ?_
    have hcv := cval_end (c := c) (a := a) (i := i) (by simp at ht11; omega) g2
    refine a_region ?_
    refine r_val (v := .int _ _) (v_move (.inl rfl) (noOwn_flat rfl)) rfl rfl (by decide) ?_
    refine r_val (v := .int _ _) (v_assign (.inl rfl) (noOwn_flat rfl)) rfl rfl (by decide) ?_
    refine r_nil ?_
    refine a_ret ?_
    refine ret1 Tryz.results59 (by decide) (by decide) (Weak.of_eq (int_eq ?_)) rfl Leaves.nil
    exact hcv.symm

theorem sClv_c (c a : List Int) (hs : SmI c) (hc : c.length ≤ 1048576) (ha : a.length ≤ 1048576) : ACall Tryz.prog 47 [.sl (icells c) c.length, .sl (icells a) a.length] [] (.int .i64 (cval c a)) [] := by
  refine ACall.intro Tryz.func47 rfl (N := 28) rfl (by decide) (by simp) ?_
  refine a_seq ?_
  refine a_region ?_
  refine r_val (v := .int _ _) (v_assign (.inl rfl) (noOwn_flat rfl)) rfl rfl (by decide) ?_
  refine r_nil ?_
  refine a_seq ?_
  refine a_region ?_
  refine r_val (v := .int _ _) (v_assign (.inl rfl) (noOwn_flat rfl)) rfl rfl (by decide) ?_
  refine r_nil ?_
  refine a_seq ?_
  refine a_seq ?_
  refine a_region ?_
  refine r_val (v := .int _ _) (v_assign (.inl rfl) (noOwn_flat rfl)) rfl rfl (by decide) ?_
  refine r_nil ?_
  refine a_block ?_
  refine a_loop (X := Nat) (fun i => look [(0, .sl (icells c) c.length), (1, .sl (icells a) a.length), (5, .int .i64 (cvP c a i)), (6, .int .i64 ((i : Nat) : Int))]) (fun i => i ≤ c.length ∧ ∀ j, j < i → ¬ gd c j ∈ a) (fun i => c.length - i) 0 (ent_look ⟨Weak.of_eq rfl, Weak.of_eq rfl, Weak.of_eq rfl, Weak.of_eq rfl, trivial⟩) ⟨Nat.zero_le _, fun j h => by omega⟩ (fun i hG => ?_)
  obtain ⟨g1, g2⟩ := hG
  have hsi := hs i
  refine a_seq ?_
  refine a_seq ?_
  refine a_region ?_
  refine r_val (v := .int _ _) (v_move (.inl rfl) (noOwn_flat rfl)) rfl rfl (by decide) ?_
  refine r_val (v := .sl _ _) (v_move (.inl rfl) (noOwn_flat rfl)) rfl rfl (by decide) ?_
  refine r_val (v := .int _ _) (v_len_sl sl40 (.inl rfl)) rfl rfl (by decide) ?_
  refine r_val (v := .bool _) (v_lss (.inl rfl) (.inl rfl)) rfl rfl (by decide) ?_
  refine r_nil ?_
  refine a_cond rfl (fun ht10 => ?_) (fun ht10 => ?_)
  ·
    skip
    refine a_skip ?_
    refine a_seq ?_
    refine a_block ?_
    refine a_seq ?_
    refine a_seq ?_
    have hi : i < c.length := (by simp at ht10; omega)
    refine a_region ?_
    refine r_val (v := .sl _ _) (v_move (.inl rfl) (noOwn_flat rfl)) rfl rfl (by decide) ?_
    refine r_val (v := .sl _ _) (v_move (.inl rfl) (noOwn_flat rfl)) rfl rfl (by decide) ?_
    refine r_val (v := .int _ _) (v_move (.inl rfl) (noOwn_flat rfl)) rfl rfl (by decide) ?_
    refine r_val (v := .pp _ _) (v_indexAddr_sl es40 (.inl rfl) (.inl rfl) (fun _ => ⟨by omega, by omega, icells_ne hi⟩)) rfl rfl (by decide) ?_
    refine r_val (v := .int .i64 (gd c i)) (v_load_pp ta3 (.inl rfl) (fun _ => by rw [Nat.mul_one]; exact icells_get (gd_get hi)) rfl) rfl rfl (by decide) ?_
    refine r_new (v := .bool _) (q_call (vs := [.sl _ _, .int _ _]) (args := [.sl _ _, .int .i64 _]) hb67 ⟨.inl rfl, .inl rfl, trivial⟩ rfl (fun hA => has2_c _ _ _ ⟨rfl, by omega⟩) rfl rfl) rfl rfl (by decide) ?_
    refine r_nil ?_
    refine a_cond rfl (fun ht18 => ?_) (fun ht18 => ?_)
    ·
      skip
      refine a_seq ?_
      refine a_region ?_
      refine r_val (v := .int _ _) (v_assign (.inl rfl) (noOwn_flat rfl)) rfl rfl (by decide) ?_
      refine r_nil ?_
      refine a_ret ?_
      refine ret1 Tryz.results47 (by decide) (by decide) (Weak.of_eq (int_eq ?_)) rfl Leaves.nil
      exact (cval_one hi (by simpa using ht18)).symm
    ·
      skip
      refine a_skip ?_
      refine a_seq ?_
      refine a_region ?_
      refine r_val (v := .sl _ _) (v_move (.inl rfl) (noOwn_flat rfl)) rfl rfl (by decide) ?_
      refine r_val (v := .sl _ _) (v_move (.inl rfl) (noOwn_flat rfl)) rfl rfl (by decide) ?_
      refine r_val (v := .int _ _) (v_move (.inl rfl) (noOwn_flat rfl)) rfl rfl (by decide) ?_
      refine r_val (v := .pp _ _) (v_indexAddr_sl es40 (.inl rfl) (.inl rfl) (fun _ => ⟨by omega, by omega, icells_ne hi⟩)) rfl rfl (by decide) ?_
      refine r_val (v := .int .i64 (gd c i)) (v_load_pp ta3 (.inl rfl) (fun _ => by rw [Nat.mul_one]; exact icells_get (gd_get hi)) rfl) rfl rfl (by decide) ?_
      refine r_val (v := .int _ _) (v_neg (.inl rfl) (fun _ => by omega)) rfl rfl (by decide) ?_
      refine r_new (v := .bool _) (q_call (vs := [.sl _ _, .int _ _]) (args := [.sl _ _, .int .i64 _]) hb67 ⟨.inl rfl, .inl rfl, trivial⟩ rfl (fun hA => has2_c _ _ _ ⟨rfl, by omega⟩) rfl rfl) rfl rfl (by decide) ?_
      refine r_val (v := .bool _) (v_not (.inl rfl)) rfl rfl (by decide) ?_
      refine r_nil ?_
      refine a_cond rfl (fun ht26 => ?_) (fun ht26 => ?_)
      ·
        skip
        refine a_region ?_
        refine r_val (v := .int _ _) (v_assign (.inl rfl) (noOwn_flat rfl)) rfl rfl (by decide) ?_
        refine r_nil ?_
        refine a_region ?_
        refine r_val (v := .int _ _) (v_move (.inl rfl) (noOwn_flat rfl)) rfl rfl (by decide) ?_
        refine r_val (v := .int _ _) (v_add (.inl rfl) (.inl rfl) (fun _ => by omega)) rfl rfl (by decide) ?_
        refine r_val (v := .int _ _) (v_assign (.inl rfl) (noOwn_flat rfl)) rfl rfl (by decide) ?_
        refine r_nil ?_
        refine ⟨i + 1, ent_look ⟨Weak.of_eq rfl, Weak.of_eq rfl, Weak.of_eq (int_eq (by rw [cvP_succ hi, if_neg (by simpa using ht26)])), Weak.of_eq (int_eq (by omega)), trivial⟩, ⟨by omega, fun j h1 => by rcases Nat.lt_or_ge j i with h | h; exact g2 j h; (obtain rfl : j = i := by omega); simpa using ht18⟩, by omega⟩
      ·
        skip
        refine a_skip ?_
        refine a_region ?_
        refine r_val (v := .int _ _) (v_move (.inl rfl) (noOwn_flat rfl)) rfl rfl (by decide) ?_
        refine r_val (v := .int _ _) (v_add (.inl rfl) (.inl rfl) (fun _ => by omega)) rfl rfl (by decide) ?_
        refine r_val (v := .int _ _) (v_assign (.inl rfl) (noOwn_flat rfl)) rfl rfl (by decide) ?_
        refine r_nil ?_
        refine ⟨i + 1, ent_look ⟨Weak.of_eq rfl, Weak.of_eq rfl, Weak.of_eq (int_eq (by rw [cvP_succ hi, if_pos (by simpa using ht26)])), Weak.of_eq (int_eq (by omega)), trivial⟩, ⟨by omega, fun j h1 => by rcases Nat.lt_or_ge j i with h | h; exact g2 j h; (obtain rfl : j = i := by omega); simpa using ht18⟩, by omega⟩
  ·
    skip
    refine a_exit ?_
    refine a_seq ?_
    have hcv := cval_end (c := c) (a := a) (i := i) (by simp at ht10; omega) g2
    refine a_region ?_
    refine r_val (v := .int _ _) (v_move (.inl rfl) (noOwn_flat rfl)) rfl rfl (by decide) ?_
    refine r_val (v := .int _ _) (v_assign (.inl rfl) (noOwn_flat rfl)) rfl rfl (by decide) ?_
    refine r_nil ?_
    refine a_ret ?_
    refine ret1 Tryz.results47 (by decide) (by decide) (Weak.of_eq (int_eq ?_)) rfl Leaves.nil
    exact hcv.symm

theorem open1_c (l : Int) (a : List Int) (hl : -4611686018427387904 ≤ l ∧ l ≤ 4611686018427387904) (ha : a.length ≤ 1048576) : ACall Tryz.prog 78 [.int .i64 l, .pp [.sl (icells a) a.length] 0] [] (.bool (decide (-l ∈ a))) [] := by
  refine ACall.intro Tryz.func78 rfl (N := 8) rfl (by decide) (by simp) ?_
  refine a_seq ?_
  refine a_region ?_
  refine r_val (v := .bool _) (v_assign (.inl rfl) (noOwn_flat rfl)) rfl rfl (by decide) ?_
  refine r_nil ?_
  refine a_seq ?_
  refine a_region ?_
  refine r_val (v := .sl _ _) (v_load_pp ta40 (.inl rfl) (fun _ => rfl) rfl) rfl rfl (by decide) ?_
  refine r_val (v := .int _ _) (v_move (.inl rfl) (noOwn_flat rfl)) rfl rfl (by decide) ?_
  refine r_val (v := .int _ _) (v_neg (.inl rfl) (fun _ => by omega)) rfl rfl (by decide) ?_
  refine r_new (v := .bool _) (q_call (vs := [.sl _ _, .int _ _]) (args := [.sl _ _, .int .i64 _]) hb75 ⟨.inl rfl, .inl rfl, trivial⟩ rfl (fun hA => contains_c a _ ha) rfl rfl) rfl rfl (by decide) ?_
  refine r_val (v := .bool _) (v_assign (.inl rfl) (noOwn_flat rfl)) rfl rfl (by decide) ?_
  refine r_nil ?_
  refine a_ret ?_
  refine ret1 Tryz.results78 (by decide) (by decide) (Weak.of_eq (bool_eq ?_)) rfl Leaves.nil
  rfl

theorem iOpen_c (c a : List Int) (hs : SmI c) (hc : c.length ≤ 1048576) (ha : a.length ≤ 1048576) : ACall Tryz.prog 72 [.sl (icells c) c.length, .sl (icells a) a.length] [] (.osl 1 (icells (opn c a)) (opn c a).length none) [] := by
  have hbO := hb78
  refine ACall.intro Tryz.func72 rfl (N := 9) rfl (by decide) (by simp) ?_
  refine a_seq ?_
  refine a_region ?_
  refine r_new (v := .op [.sl _ _]) (q_box (.inl rfl) rfl rfl) rfl rfl (by decide) ?_
  refine r_val (v := .nils) (v_assign (.inl rfl) (noOwn_flat rfl)) rfl rfl (by decide) ?_
  refine r_nil ?_
  refine a_seq ?_
  refine a_region ?_
  refine r_val (v := .sl _ _) (v_move (.inl rfl) (noOwn_flat rfl)) rfl rfl (by decide) ?_
  refine r_new (v := .osl _ _ _ _) (q_call (vs := [.sl _ _]) (args := [.sl _ _]) hb54 ⟨.inl rfl, trivial⟩ rfl (fun hA => cloneI_c _ _ ⟨rfl, by omega⟩) (ic_noSh _) (ic_noRef _)) rfl rfl (by decide) ?_
  refine r_val (v := .fn _ _ _) (v_makeFunc (first := []) (caps := [.tmp 3]) rfl rfl) rfl rfl (by decide) ?_
  refine r_step rfl (o_callIO (q := (6, [])) (vs := [.rsl _ _ _ _ _, .fn _ _ _]) (args := [.rsl (INH, []) _ _ _ _, .fn _ _ _]) (x0 := .osl _ _ _ _) (x1 := .undef) (res := .osl _ _ _ _) rfl hb77 rfl (by decide) ⟨.inl rfl, .inl rfl, trivial⟩ rfl rfl (del_c 78 [.pp [.sl (icells a) a.length] 0] hbO rfl c _ (fun l => decide (-l ∈ a)) ⟨rfl, by omega⟩ (fun i hi => open1_c _ a (hs i) ha)) rfl (ic_noSh _) (ic_noRef _) rfl rfl (Nat.le_of_ble_eq_true rfl) (by decide) rfl) ?_
  refine r_val (v := .rsl _ _ _ _ _) (v_assign (.inl rfl) (noOwn_flat rfl)) rfl rfl (by decide) ?_
  refine r_pre (ent_reloc_sl (t := 4) rfl rfl) ?_
  refine r_nil ?_
  refine a_ret ?_
  refine ret1 Tryz.results72 (by decide) (by decide) (Weak.osl ?_ ?_) rfl Leaves.nil
  · rfl
  · rfl

theorem sOpen_c (c a : List Int) (hs : SmI c) (hc : c.length ≤ 1048576) (ha : a.length ≤ 1048576) : ACall Tryz.prog 64 [.sl (icells c) c.length, .sl (icells a) a.length] [] (.osl 1 (icells (opn c a)) (opn c a).length none) [] := by
  refine ACall.intro Tryz.func64 rfl (N := 30) rfl (by decide) (by simp) ?_
  refine a_seq ?_
  refine a_region ?_
  refine r_val (v := .nils) (v_assign (.inl rfl) (noOwn_flat rfl)) rfl rfl (by decide) ?_
  refine r_nil ?_
  refine a_seq ?_
  refine a_region ?_
  refine r_new (v := .osl _ _ _ _) (q_sliceLit (n := 0) (parts := []) lt40 rfl rfl rfl rfl) rfl rfl (by decide) ?_
  refine r_val (v := .rsl _ _ _ _ _) (v_assign (.inl rfl) (noOwn_flat rfl)) rfl rfl (by decide) ?_
  refine r_pre (ent_reloc_sl (t := 5) rfl rfl) ?_
  refine r_nil ?_
  refine a_seq ?_
  refine a_seq ?_
  refine a_region ?_
  refine r_val (v := .int _ _) (v_assign (.inl rfl) (noOwn_flat rfl)) rfl rfl (by decide) ?_
  refine r_nil ?_
  refine a_block ?_
  refine a_loop (X := Nat) (fun i => look [(0, .sl (icells c) c.length), (1, .sl (icells a) a.length), (5, .osl 1 (icells (opn (c.take i) a)) (opn (c.take i) a).length none), (6, .int .i64 ((i : Nat) : Int))]) (fun i => i ≤ c.length) (fun i => c.length - i) 0 (ent_look ⟨Weak.of_eq rfl, Weak.of_eq rfl, Weak.osl rfl rfl, Weak.of_eq rfl, trivial⟩) (Nat.zero_le _) (fun i hG => ?_)
  have hsi := hs i
  have hwl := opn_len (c.take i) a
  have htk : (c.take i).length ≤ c.length := (by rw [List.length_take]; omega)
  refine a_seq ?_
  refine a_seq ?_
  refine a_region ?_
  refine r_val (v := .int _ _) (v_move (.inl rfl) (noOwn_flat rfl)) rfl rfl (by decide) ?_
  refine r_val (v := .sl _ _) (v_move (.inl rfl) (noOwn_flat rfl)) rfl rfl (by decide) ?_
  refine r_val (v := .int _ _) (v_len_sl sl40 (.inl rfl)) rfl rfl (by decide) ?_
  refine r_val (v := .bool _) (v_lss (.inl rfl) (.inl rfl)) rfl rfl (by decide) ?_
  refine r_nil ?_
  refine a_cond rfl (fun ht11 => ?_) (fun ht11 => ?_)
  ·
    skip
    refine a_skip ?_
    refine a_seq ?_
    refine a_block ?_
    refine a_seq ?_
    have hi : i < c.length := (by simp at ht11; omega)
    refine a_region ?_
    refine r_val (v := .sl _ _) (v_move (.inl rfl) (noOwn_flat rfl)) rfl rfl (by decide) ?_
    refine r_val (v := .sl _ _) (v_move (.inl rfl) (noOwn_flat rfl)) rfl rfl (by decide) ?_
    refine r_val (v := .int _ _) (v_move (.inl rfl) (noOwn_flat rfl)) rfl rfl (by decide) ?_
    refine r_val (v := .pp _ _) (v_indexAddr_sl es40 (.inl rfl) (.inl rfl) (fun _ => ⟨by omega, by omega, icells_ne hi⟩)) rfl rfl (by decide) ?_
    refine r_val (v := .int .i64 (gd c i)) (v_load_pp ta3 (.inl rfl) (fun _ => by rw [Nat.mul_one]; exact icells_get (gd_get hi)) rfl) rfl rfl (by decide) ?_
    refine r_val (v := .int _ _) (v_neg (.inl rfl) (fun _ => by omega)) rfl rfl (by decide) ?_
    refine r_new (v := .bool _) (q_call (vs := [.sl _ _, .int _ _]) (args := [.sl _ _, .int .i64 _]) hb67 ⟨.inl rfl, .inl rfl, trivial⟩ rfl (fun hA => has2_c _ _ _ ⟨rfl, by omega⟩) rfl rfl) rfl rfl (by decide) ?_
    refine r_val (v := .bool _) (v_not (.inl rfl)) rfl rfl (by decide) ?_
    refine r_nil ?_
    refine a_cond rfl (fun ht21 => ?_) (fun ht21 => ?_)
    ·
      skip
      refine a_region ?_
      refine r_val (v := .rsl _ _ _ _ _) (v_move (.inl rfl) (noOwn_flat rfl)) rfl rfl (by decide) ?_
      refine r_val (v := .sl _ _) (v_move (.inl rfl) (noOwn_flat rfl)) rfl rfl (by decide) ?_
      refine r_val (v := .int _ _) (v_move (.inl rfl) (noOwn_flat rfl)) rfl rfl (by decide) ?_
      refine r_val (v := .pp _ _) (v_indexAddr_sl es40 (.inl rfl) (.inl rfl) (fun _ => ⟨by omega, by omega, icells_ne hi⟩)) rfl rfl (by decide) ?_
      refine r_val (v := .int .i64 (gd c i)) (v_load_pp ta3 (.inl rfl) (fun _ => by rw [Nat.mul_one]; exact icells_get (gd_get hi)) rfl) rfl rfl (by decide) ?_
      refine r_new (v := .osl 1 (icells [gd c i]) 1 (some 1)) (q_sliceLit (n := 1) (parts := [(0, .tmp 26)]) lt40 rfl rfl rfl rfl) rfl rfl (by decide) ?_
      refine r_pre (ent_reloc_sl (t := 22) rfl rfl) ?_
      refine r_step rfl (o_append rfl ap40 rfl (by decide) (by decide) rfl (src_lit (.inl rfl) rfl rfl (ic_pureL _)) (ic_cell _) (by rw [icells_length]; omega) (by omega)) ?_
      refine r_val (v := .rsl _ _ _ _ _) (v_assign (.inl rfl) (noOwn_flat rfl)) rfl rfl (by decide) ?_
      refine r_pre (ent_reloc_sl (t := 5) rfl rfl) ?_
      refine r_nil ?_
      refine a_region ?_
      refine r_val (v := .int _ _) (v_move (.inl rfl) (noOwn_flat rfl)) rfl rfl (by decide) ?_
      refine r_val (v := .int _ _) (v_add (.inl rfl) (.inl rfl) (fun _ => by omega)) rfl rfl (by decide) ?_
      refine r_val (v := .int _ _) (v_assign (.inl rfl) (noOwn_flat rfl)) rfl rfl (by decide) ?_
      refine r_nil ?_
      refine ⟨i + 1, ent_look ⟨Weak.of_eq rfl, Weak.of_eq rfl, Weak.osl (by rw [opn_succ hi, if_neg (by simpa using ht21), icells_append]) (by rw [opn_succ hi, if_neg (by simpa using ht21)]; simp), Weak.of_eq (int_eq (by omega)), trivial⟩, by omega, by omega⟩
    ·
      skip
      refine a_skip ?_
      refine a_region ?_
      refine r_val (v := .int _ _) (v_move (.inl rfl) (noOwn_flat rfl)) rfl rfl (by decide) ?_
      refine r_val (v := .int _ _) (v_add (.inl rfl) (.inl rfl) (fun _ => by omega)) rfl rfl (by decide) ?_
      refine r_val (v := .int _ _) (v_assign (.inl rfl) (noOwn_flat rfl)) rfl rfl (by decide) ?_
      refine r_nil ?_
      refine ⟨i + 1, ent_look ⟨Weak.of_eq rfl, Weak.of_eq rfl, Weak.osl (by rw [opn_succ hi, if_pos (by simpa using ht21)]) (by rw [opn_succ hi, if_pos (by simpa using ht21)]), Weak.of_eq (int_eq (by omega)), trivial⟩, by omega, by omega⟩
  ·
    skip
    refine a_exit ?_
    refine a_seq ?_
    refine a_region ?_
    refine r_val (v := .rsl _ _ _ _ _) (v_move (.inl rfl) (noOwn_flat rfl)) rfl rfl (by decide) ?_
    refine r_val (v := .rsl _ _ _ _ _) (v_assign (.inl rfl) (noOwn_flat rfl)) rfl rfl (by decide) ?_
    refine r_pre (ent_reloc_sl (t := 4) rfl rfl) ?_
    refine r_nil ?_
    refine a_ret ?_
    refine ret1 Tryz.results64 (by decide) (by decide) (Weak.osl ?_ ?_) rfl Leaves.nil
    · simp at ht11; rw [List.take_of_length_le (by omega)]
    · simp at ht11; rw [List.take_of_length_le (by omega)]

theorem iUnit_c (c a : List Int) (hs : SmI c) (hc : c.length ≤ 1048576) (ha : a.length ≤ 1048576) : ACall Tryz.prog 57 [.sl (icells c) c.length, .sl (icells a) a.length] [] (.int .i64 (unitL c a)) [] := by
  refine ACall.intro Tryz.func57 rfl (N := 19) rfl (by decide) (by simp) ?_
  refine a_seq ?_
  refine a_region ?_
  refine r_val (v := .int _ _) (v_assign (.inl rfl) (noOwn_flat rfl)) rfl rfl (by decide) ?_
  refine r_nil ?_
  refine a_seq ?_
  refine a_seq ?_
  refine a_region ?_
  refine r_val (v := .sl _ _) (v_move (.inl rfl) (noOwn_flat rfl)) rfl rfl (by decide) ?_
  refine r_val (v := .sl _ _) (v_move (.inl rfl) (noOwn_flat rfl)) rfl rfl (by decide) ?_
  refine r_new (v := .int _ _) (q_call (vs := [.sl _ _, .sl _ _]) (args := [.sl _ _, .sl _ _]) hb59 ⟨.inl rfl, .inl rfl, trivial⟩ rfl (fun hA => iClv_c c a hs hc ha) rfl rfl) rfl rfl (by decide) ?_
  refine r_val (v := .bool _) (v_neq (.inl rfl) (.inl rfl)) rfl rfl (by decide) ?_
  refine r_nil ?_
  refine a_cond rfl (fun ht9 => ?_) (fun ht9 => ?_)
  ·
    skip
    refine a_seq ?_
    refine a_region ?_
    refine r_val (v := .int _ _) (v_assign (.inl rfl) (noOwn_flat rfl)) rfl rfl (by decide) ?_
    refine r_nil ?_
    refine a_ret ?_
    refine ret1 Tryz.results57 (by decide) (by decide) (Weak.of_eq (int_eq ?_)) rfl Leaves.nil
    rw [unit_no (by simp at ht9; omega)]
  ·
    skip
    refine a_skip ?_
    refine a_seq ?_
    refine a_seq ?_
    refine a_region ?_
    refine r_val (v := .sl _ _) (v_move (.inl rfl) (noOwn_flat rfl)) rfl rfl (by decide) ?_
    refine r_val (v := .sl _ _) (v_move (.inl rfl) (noOwn_flat rfl)) rfl rfl (by decide) ?_
    refine r_new (v := .osl _ _ _ _) (q_call (vs := [.sl _ _, .sl _ _]) (args := [.sl _ _, .sl _ _]) hb72 ⟨.inl rfl, .inl rfl, trivial⟩ rfl (fun hA => iOpen_c c a hs hc ha) (ic_noSh _) (ic_noRef _)) rfl rfl (by decide) ?_
    refine r_val (v := .rsl _ _ _ _ _) (v_assign (.inl rfl) (noOwn_flat rfl)) rfl rfl (by decide) ?_
    refine r_pre (ent_reloc_sl (t := 5) rfl rfl) ?_
    refine r_nil ?_
    refine a_seq ?_
    refine a_region ?_
    refine r_val (v := .rsl _ _ _ _ _) (v_move (.inl rfl) (noOwn_flat rfl)) rfl rfl (by decide) ?_
    refine r_val (v := .int _ _) (v_len_rsl sl40 (.inl rfl)) rfl rfl (by decide) ?_
    refine r_val (v := .bool _) (v_eql (.inl rfl) (.inl rfl)) rfl rfl (by decide) ?_
    refine r_nil ?_
    refine a_cond rfl (fun ht15 => ?_) (fun ht15 => ?_)
    ·
      skip
      refine a_seq ?_
      refine a_region ?_
      refine r_val (v := .rsl _ _ _ _ _) (v_move (.inl rfl) (noOwn_flat rfl)) rfl rfl (by decide) ?_
      refine r_val (v := .rp _ _) (v_indexAddr_rsl0 es40 (.inl rfl) (.inl rfl) (fun _ => ⟨by omega, by simp at ht15; omega⟩)) rfl rfl (by decide) ?_
      refine r_val (v := .int .i64 (gd (opn c a) 0)) (v_load_rp1 ta3 (.inl rfl) rfl (fun _ => icells_get (gd_get (show 0 < (opn c a).length by simp at ht15; omega))) rfl) rfl rfl (by decide) ?_
      refine r_val (v := .int _ _) (v_assign (.inl rfl) (noOwn_flat rfl)) rfl rfl (by decide) ?_
      refine r_nil ?_
      refine a_ret ?_
      refine ret1 Tryz.results57 (by decide) (by decide) (Weak.of_eq (int_eq ?_)) rfl Leaves.nil
      rw [unit_yes (by simpa using ht9) (by simp at ht15; omega)]
    ·
      skip
      refine a_skip ?_
      refine a_seq ?_
      refine a_region ?_
      refine r_val (v := .int _ _) (v_assign (.inl rfl) (noOwn_flat rfl)) rfl rfl (by decide) ?_
      refine r_nil ?_
      refine a_ret ?_
      refine ret1 Tryz.results57 (by decide) (by decide) (Weak.of_eq (int_eq ?_)) rfl Leaves.nil
      rw [unit_no (by simp at ht15; omega)]

theorem sUnit_c (c a : List Int) (hs : SmI c) (hc : c.length ≤ 1048576) (ha : a.length ≤ 1048576) : ACall Tryz.prog 45 [.sl (icells c) c.length, .sl (icells a) a.length] [] (.int .i64 (unitL c a)) [] := by
  refine ACall.intro Tryz.func45 rfl (N := 21) rfl (by decide) (by simp) ?_
  refine a_seq ?_
  refine a_region ?_
  refine r_val (v := .int _ _) (v_assign (.inl rfl) (noOwn_flat rfl)) rfl rfl (by decide) ?_
  refine r_nil ?_
  refine a_seq ?_
  refine a_region ?_
  refine r_val (v := .sl _ _) (v_move (.inl rfl) (noOwn_flat rfl)) rfl rfl (by decide) ?_
  refine r_val (v := .sl _ _) (v_move (.inl rfl) (noOwn_flat rfl)) rfl rfl (by decide) ?_
  refine r_new (v := .osl _ _ _ _) (q_call (vs := [.sl _ _, .sl _ _]) (args := [.sl _ _, .sl _ _]) hb64 ⟨.inl rfl, .inl rfl, trivial⟩ rfl (fun hA => sOpen_c c a hs hc ha) (ic_noSh _) (ic_noRef _)) rfl rfl (by decide) ?_
  refine r_val (v := .rsl _ _ _ _ _) (v_assign (.inl rfl) (noOwn_flat rfl)) rfl rfl (by decide) ?_
  refine r_pre (ent_reloc_sl (t := 5) rfl rfl) ?_
  refine r_nil ?_
  refine a_seq ?_
  refine a_seq ?_
  refine a_region ?_
  refine r_val (v := .sl _ _) (v_move (.inl rfl) (noOwn_flat rfl)) rfl rfl (by decide) ?_
  refine r_val (v := .sl _ _) (v_move (.inl rfl) (noOwn_flat rfl)) rfl rfl (by decide) ?_
  refine r_new (v := .int _ _) (q_call (vs := [.sl _ _, .sl _ _]) (args := [.sl _ _, .sl _ _]) hb47 ⟨.inl rfl, .inl rfl, trivial⟩ rfl (fun hA => sClv_c c a hs hc ha) rfl rfl) rfl rfl (by decide) ?_
  refine r_val (v := .bool _) (v_neq (.inl rfl) (.inl rfl)) rfl rfl (by decide) ?_
  refine r_val (v := .bool _) (v_move (.inl rfl) (noOwn_flat rfl)) rfl rfl (by decide) ?_
  refine r_gval (v := .rsl _ _ _ _ _) (v_move (.inl rfl) (noOwn_flat rfl)) rfl rfl rfl (by decide) (.inl ⟨_, rfl, rfl⟩) rfl (by decide) ?_
  refine r_gval (v := .int _ _) (v_len_rsl sl40 (.inr ⟨_, rfl, fun h => h⟩)) rfl rfl rfl (by decide) (.inl ⟨_, rfl, rfl⟩) rfl (by decide) ?_
  refine r_gval (v := .bool _) (v_neq (.inr ⟨_, rfl, fun h => h⟩) (.inl rfl)) rfl rfl rfl (by decide) (.inl ⟨_, rfl, rfl⟩) rfl (by decide) ?_
  refine r_val (v := .bool _) (v_pick (.inl rfl) (.inl rfl) (.inr ⟨_, rfl, fun h h2 => by simp_all⟩)) rfl rfl (by decide) ?_
  refine r_nil ?_
  refine a_cond rfl (fun ht17 => ?_) (fun ht17 => ?_)
  ·
    skip
    refine a_seq ?_
    refine a_region ?_
    refine r_val (v := .int _ _) (v_assign (.inl rfl) (noOwn_flat rfl)) rfl rfl (by decide) ?_
    refine r_nil ?_
    refine a_ret ?_
    refine ret1 Tryz.results45 (by decide) (by decide) (Weak.of_eq (int_eq ?_)) rfl Leaves.nil
    rw [unit_no (by intro hu; simp [hu.1, hu.2] at ht17)]
  ·
    skip
    refine a_skip ?_
    refine a_seq ?_
    have hu : cval c a = 0 ∧ (opn c a).length = 1 := (by by_cases h1 : cval c a = 0 <;> simp_all <;> omega)
    refine a_region ?_
    refine r_val (v := .rsl _ _ _ _ _) (v_move (.inl rfl) (noOwn_flat rfl)) rfl rfl (by decide) ?_
    refine r_val (v := .rp _ _) (v_indexAddr_rsl0 es40 (.inl rfl) (.inl rfl) (fun _ => ⟨by omega, by omega⟩)) rfl rfl (by decide) ?_
    refine r_val (v := .int .i64 (gd (opn c a) 0)) (v_load_rp1 ta3 (.inl rfl) rfl (fun _ => icells_get (gd_get (show 0 < (opn c a).length by omega))) rfl) rfl rfl (by decide) ?_
    refine r_val (v := .int _ _) (v_assign (.inl rfl) (noOwn_flat rfl)) rfl rfl (by decide) ?_
    refine r_nil ?_
    refine a_ret ?_
    refine ret1 Tryz.results45 (by decide) (by decide) (Weak.of_eq (int_eq ?_)) rfl Leaves.nil
    rw [unit_yes hu.1 hu.2]
end Go.Av
namespace Go.Av
open Go Go.Proofs Go.Sort
set_option maxRecDepth 10000
theorem ap27 : appTy Tryz.prog 27 = some (2, 16) := by kernel_rfl
theorem arp47 : arrPl Tryz.prog 47 = some ([.int .i64 0, .int .i64 0], 1) := by kernel_rfl
theorem hb39 : hasBody Tryz.prog 39 = true := by kernel_rfl
theorem hb55 : hasBody Tryz.prog 55 = true := by kernel_rfl
theorem hb56 : hasBody Tryz.prog 56 = true := by kernel_rfl
theorem hb57 : hasBody Tryz.prog 57 = true := by kernel_rfl
theorem hb58 : hasBody Tryz.prog 58 = true := by kernel_rfl
theorem hb63 : hasBody Tryz.prog 63 = true := by kernel_rfl
theorem lt27 : litTy Tryz.prog 27 = some (2, [.int .i64 0, .int .i64 0]) := by kernel_rfl

theorem idxL_c (f : Nat) (caps : List AV) (hb : hasBody Tryz.prog f = true) (hcap : capOk caps = true) (xs : List (List Int)) (p : Nat → Bool) (hl : (xs.length : Int) ≤ 9223372036854775807) (hc : ∀ i, i < xs.length → ACall Tryz.prog f (.sl (icells (gl xs i)) (gl xs i).length :: caps) [] (.bool (p i)) []) : ACall Tryz.prog 55 [.sl (sls xs) xs.length, .fn f [] caps] [] (.int .i64 (fidx p xs.length)) [] := by
  refine ACall.intro Tryz.func55 rfl (N := 19) rfl (by decide) (by simp) ?_
  refine a_seq ?_
  refine a_region ?_
  refine r_val (v := .int _ _) (v_assign (.inl rfl) (noOwn_flat rfl)) rfl rfl (by decide) ?_
  refine r_nil ?_
  refine a_seq ?_
  refine a_seq ?_
  refine a_region ?_
  refine r_val (v := .sl _ _) (v_move (.inl rfl) (noOwn_flat rfl)) rfl rfl (by decide) ?_
  refine r_val (v := .int _ _) (v_len_sl sl22 (.inl rfl)) rfl rfl (by decide) ?_
  refine r_val (v := .int _ _) (v_move (.inl rfl) (noOwn_flat rfl)) rfl rfl (by decide) ?_
  refine r_nil ?_
  refine a_block ?_
  refine a_loop (X := Nat) (fun i => look [(0, .sl (sls xs) xs.length), (1, .fn f [] caps), (7, .int .i64 (xs.length : Int)), (8, .int .i64 (i : Int))]) (fun i => i ≤ xs.length ∧ ∀ j, j < i → p j = false) (fun i => xs.length - i) 0 (ent_look ⟨Weak.of_eq rfl, Weak.of_eq rfl, Weak.of_eq rfl, Weak.of_eq rfl, trivial⟩) ⟨Nat.zero_le _, fun j h => by omega⟩ (fun i hG => ?_)
  obtain ⟨h1, h2⟩ := hG
  refine a_seq ?_
  refine a_region ?_
  refine r_val (v := .bool _) (v_lss (.inl rfl) (.inl rfl)) rfl rfl (by decide) ?_
  refine r_nil ?_
  refine a_seq ?_
  refine a_cond rfl (fun ht9 => ?_) (fun ht9 => ?_)
  ·
    skip
    refine a_skip ?_
    refine a_seq ?_
    refine a_block ?_
    refine a_seq ?_
    refine a_region ?_
    have hi : i < xs.length := (by simp at ht9; omega)
    refine r_val (v := .int _ _) (v_move (.inl rfl) (noOwn_flat rfl)) rfl rfl (by decide) ?_
    refine r_val (v := .int _ _) (v_assign (.inl rfl) (noOwn_flat rfl)) rfl rfl (by decide) ?_
    refine r_nil ?_
    refine a_seq ?_
    refine a_region ?_
    refine r_val (v := .fn _ _ _) (v_mv rfl) rfl rfl (by decide) ?_
    refine r_val (v := .sl _ _) (v_move (.inl rfl) (noOwn_flat rfl)) rfl rfl (by decide) ?_
    refine r_val (v := .int _ _) (v_move (.inl rfl) (noOwn_flat rfl)) rfl rfl (by decide) ?_
    refine r_val (v := .pp _ _) (v_indexAddr_sl es22 (.inl rfl) (.inl rfl) (fun _ => ⟨by omega, by omega, sls_ne hi⟩)) rfl rfl (by decide) ?_
    refine r_val (v := .sl (icells (gl xs i)) (gl xs i).length) (v_load_pp ta40 (.inl rfl) (fun _ => by rw [Nat.mul_one]; exact sls_get hi) rfl) rfl rfl (by decide) ?_
    refine r_new (v := .bool _) (q_clo (vs := [.sl _ _]) (args := (.sl _ _ :: caps)) hb (.inl rfl) ⟨.inl rfl, trivial⟩ (snap_clo1 hcap rfl) (fun hA => hc i hi) rfl rfl) rfl rfl (by decide) ?_
    refine r_nil ?_
    refine a_cond rfl (fun ht16 => ?_) (fun ht16 => ?_)
    ·
      skip
      refine a_seq ?_
      refine a_region ?_
      refine r_val (v := .int _ _) (v_move (.inl rfl) (noOwn_flat rfl)) rfl rfl (by decide) ?_
      refine r_val (v := .int _ _) (v_assign (.inl rfl) (noOwn_flat rfl)) rfl rfl (by decide) ?_
      refine r_nil ?_
      refine a_ret ?_
      refine ret1 Tryz.results55 (by decide) (by decide) (Weak.of_eq (int_eq ?_)) rfl Leaves.nil
      exact (fidx_found hi ht16 h2).symm
    ·
      skip
      refine a_skip ?_
      refine a_region ?_
      refine r_val (v := .int _ _) (v_add (.inl rfl) (.inl rfl) (fun _ => by omega)) rfl rfl (by decide) ?_
      refine r_val (v := .int _ _) (v_move (.inl rfl) (noOwn_flat rfl)) rfl rfl (by decide) ?_
      refine r_nil ?_
      refine ⟨i + 1, ent_look ⟨Weak.of_eq rfl, (Weak.of_eq (purge_fn hcap)), Weak.of_eq rfl, Weak.of_eq (int_eq (by omega)), trivial⟩, ⟨by omega, ok_stepF h2 ht16⟩, by omega⟩
  ·
    skip
    refine a_exit ?_
    refine a_seq ?_
    refine a_region ?_
    refine r_val (v := .int _ _) (v_assign (.inl rfl) (noOwn_flat rfl)) rfl rfl (by decide) ?_
    refine r_nil ?_
    refine a_ret ?_
    refine ret1 Tryz.results55 (by decide) (by decide) (Weak.of_eq (int_eq ?_)) rfl Leaves.nil
    simp at ht9; exact (fidx_none (fun j hj => h2 j (by omega))).symm

theorem contL_c (f : Nat) (caps : List AV) (hb : hasBody Tryz.prog f = true) (hcap : capOk caps = true) (xs : List (List Int)) (p : Nat → Bool) (hl : (xs.length : Int) ≤ 9223372036854775807) (hc : ∀ i, i < xs.length → ACall Tryz.prog f (.sl (icells (gl xs i)) (gl xs i).length :: caps) [] (.bool (p i)) []) : ACall Tryz.prog 49 [.sl (sls xs) xs.length, .fn f [] caps] [] (.bool ((List.range xs.length).any p)) [] := by
  refine ACall.intro Tryz.func49 rfl (N := 9) rfl (by decide) (by simp) ?_
  refine a_seq ?_
  refine a_region ?_
  refine r_val (v := .bool _) (v_assign (.inl rfl) (noOwn_flat rfl)) rfl rfl (by decide) ?_
  refine r_nil ?_
  refine a_seq ?_
  refine a_region ?_
  refine r_val (v := .sl _ _) (v_move (.inl rfl) (noOwn_flat rfl)) rfl rfl (by decide) ?_
  refine r_val (v := .fn _ _ _) (v_mv rfl) rfl rfl (by decide) ?_
  refine r_new (v := .int _ _) (q_call (vs := [.sl _ _, .fn _ _ _]) (args := [.sl _ _, .fn _ _ _]) hb55 ⟨.inl rfl, .inl rfl, trivial⟩ (l2_eq rfl (snap_fn hcap)) (fun hA => idxL_c f caps hb hcap xs p hl hc) rfl rfl) rfl rfl (by decide) ?_
  refine r_val (v := .bool _) (v_geq (.inl rfl) (.inl rfl)) rfl rfl (by decide) ?_
  refine r_val (v := .bool _) (v_assign (.inl rfl) (noOwn_flat rfl)) rfl rfl (by decide) ?_
  refine r_nil ?_
  refine a_ret ?_
  refine ret1 Tryz.results49 (by decide) (by decide) (Weak.of_eq (bool_eq ?_)) rfl Leaves.nil
  exact fidx_any

theorem iFal_c (vars : Int) (L : List (List Int)) (a : List Int) (hcl : ∀ i, i < L.length → clB vars (gl L i) = true) (hL : L.length ≤ 1048576) (ha : a.length ≤ 1048576) : ACall Tryz.prog 39 [.sl (sls L) L.length, .sl (icells a) a.length] [] (.osl 1 (icells (falP L a L.length)) (falP L a L.length).length none) [] := by
  refine ACall.intro Tryz.func39 rfl (N := 25) rfl (by decide) (by simp) ?_
  refine a_seq ?_
  refine a_region ?_
  refine r_val (v := .nils) (v_assign (.inl rfl) (noOwn_flat rfl)) rfl rfl (by decide) ?_
  refine r_nil ?_
  refine a_seq ?_
  refine a_region ?_
  refine r_val (v := .nils) (v_assign (.inl rfl) (noOwn_flat rfl)) rfl rfl (by decide) ?_
  refine r_nil ?_
  refine a_seq ?_
  refine a_seq ?_
  refine a_region ?_
  refine r_val (v := .sl _ _) (v_move (.inl rfl) (noOwn_flat rfl)) rfl rfl (by decide) ?_
  refine r_val (v := .int _ _) (v_len_sl sl22 (.inl rfl)) rfl rfl (by decide) ?_
  refine r_val (v := .int _ _) (v_move (.inl rfl) (noOwn_flat rfl)) rfl rfl (by decide) ?_
  refine r_nil ?_
  refine a_block ?_
  refine a_pre (ent_nil (t := 5) (sz := 1) (cap := none) (.inl rfl) (fun _ h => by cases h)) ?_
  refine a_loop (X := Nat) (fun i => look [(1, .sl (icells a) a.length), (5, .osl 1 (icells (falP L a i)) (falP L a i).length none), (8, .sl (sls L) L.length), (9, .int .i64 (L.length : Int)), (10, .int .i64 ((i : Nat) : Int))]) (fun i => i ≤ L.length) (fun i => L.length - i) 0 (ent_look ⟨Weak.of_eq rfl, Weak.osl rfl rfl, Weak.of_eq rfl, Weak.of_eq rfl, Weak.of_eq rfl, trivial⟩) (Nat.zero_le _) (fun i hG => ?_)
  have hfl := falP_len L a i
  refine a_seq ?_
  refine a_region ?_
  refine r_val (v := .bool _) (v_lss (.inl rfl) (.inl rfl)) rfl rfl (by decide) ?_
  refine r_nil ?_
  refine a_seq ?_
  refine a_cond rfl (fun ht11 => ?_) (fun ht11 => ?_)
  ·
    skip
    refine a_skip ?_
    refine a_seq ?_
    refine a_block ?_
    refine a_seq ?_
    have hi : i < L.length := (by simp at ht11; omega)
    have hci := hcl i hi
    have hln := clB_len hci
    refine a_region ?_
    refine r_val (v := .int _ _) (v_move (.inl rfl) (noOwn_flat rfl)) rfl rfl (by decide) ?_
    refine r_val (v := .pp _ _) (v_indexAddr_sl es22 (.inl rfl) (.inl rfl) (fun _ => ⟨by omega, by omega, sls_ne hi⟩)) rfl rfl (by decide) ?_
    refine r_val (v := .sl (icells (gl L i)) (gl L i).length) (v_load_pp ta40 (.inl rfl) (fun _ => by rw [Nat.mul_one]; exact sls_get hi) rfl) rfl rfl (by decide) ?_
    refine r_val (v := .int _ _) (v_assign (.inl rfl) (noOwn_flat rfl)) rfl rfl (by decide) ?_
    refine r_val (v := .sl _ _) (v_assign (.inl rfl) (noOwn_flat rfl)) rfl rfl (by decide) ?_
    refine r_nil ?_
    refine a_seq ?_
    refine a_region ?_
    refine r_val (v := .sl _ _) (v_move (.inl rfl) (noOwn_flat rfl)) rfl rfl (by decide) ?_
    refine r_val (v := .sl _ _) (v_move (.inl rfl) (noOwn_flat rfl)) rfl rfl (by decide) ?_
    refine r_new (v := .int _ _) (q_call (vs := [.sl _ _, .sl _ _]) (args := [.sl _ _, .sl _ _]) hb59 ⟨.inl rfl, .inl rfl, trivial⟩ rfl (fun hA => iClv_c (gl L i) a (clB_sm hci) (by omega) ha) rfl rfl) rfl rfl (by decide) ?_
    refine r_val (v := .bool _) (v_lss (.inl rfl) (.inl rfl)) rfl rfl (by decide) ?_
    refine r_nil ?_
    refine a_cond rfl (fun ht18 => ?_) (fun ht18 => ?_)
    ·
      skip
      refine a_region ?_
      refine r_val (v := .rsl _ _ _ _ _) (v_move (.inl rfl) (noOwn_flat rfl)) rfl rfl (by decide) ?_
      refine r_val (v := .int _ _) (v_move (.inl rfl) (noOwn_flat rfl)) rfl rfl (by decide) ?_
      refine r_new (v := .osl 1 (icells [(i : Int)]) 1 (some 1)) (q_sliceLit (n := 1) (parts := [(0, .tmp 20)]) lt40 rfl rfl rfl rfl) rfl rfl (by decide) ?_
      refine r_pre (ent_reloc_sl (t := 19) rfl rfl) ?_
      refine r_step rfl (o_append rfl ap40 rfl (by decide) (by decide) rfl (src_lit (.inl rfl) rfl rfl (ic_pureL _)) (ic_cell _) (by rw [icells_length]; omega) (by omega)) ?_
      refine r_val (v := .rsl _ _ _ _ _) (v_assign (.inl rfl) (noOwn_flat rfl)) rfl rfl (by decide) ?_
      refine r_pre (ent_reloc_sl (t := 5) rfl rfl) ?_
      refine r_nil ?_
      refine a_region ?_
      refine r_val (v := .int _ _) (v_add (.inl rfl) (.inl rfl) (fun _ => by omega)) rfl rfl (by decide) ?_
      refine r_val (v := .int _ _) (v_move (.inl rfl) (noOwn_flat rfl)) rfl rfl (by decide) ?_
      refine r_nil ?_
      refine ⟨i + 1, ent_look ⟨Weak.of_eq rfl, Weak.osl (by rw [falP_succ, if_pos (by simpa using ht18), icells_append] <;> rfl) (by rw [falP_succ, if_pos (by simpa using ht18)]; simp), Weak.of_eq rfl, Weak.of_eq rfl, Weak.of_eq (int_eq (by omega)), trivial⟩, by omega, by omega⟩
    ·
      skip
      refine a_skip ?_
      refine a_region ?_
      refine r_val (v := .int _ _) (v_add (.inl rfl) (.inl rfl) (fun _ => by omega)) rfl rfl (by decide) ?_
      refine r_val (v := .int _ _) (v_move (.inl rfl) (noOwn_flat rfl)) rfl rfl (by decide) ?_
      refine r_nil ?_
      refine ⟨i + 1, ent_look ⟨Weak.of_eq rfl, Weak.osl (by rw [falP_succ, if_neg (by simpa using ht18)]) (by rw [falP_succ, if_neg (by simpa using ht18)]), Weak.of_eq rfl, Weak.of_eq rfl, Weak.of_eq (int_eq (by omega)), trivial⟩, by omega, by omega⟩
  ·
    skip
    refine a_exit ?_
    refine a_seq ?_
    refine a_region ?_
    refine r_val (v := .rsl _ _ _ _ _) (v_move (.inl rfl) (noOwn_flat rfl)) rfl rfl (by decide) ?_
    refine r_val (v := .rsl _ _ _ _ _) (v_assign (.inl rfl) (noOwn_flat rfl)) rfl rfl (by decide) ?_
    refine r_pre (ent_reloc_sl (t := 4) rfl rfl) ?_
    refine r_nil ?_
    refine a_ret ?_
    refine ret1 Tryz.results39 (by decide) (by decide) (Weak.osl ?_ ?_) rfl Leaves.nil
    · simp at ht11; rw [show i = L.length by omega]
    · simp at ht11; rw [show i = L.length by omega]

theorem cnfV_c (vars : Int) (L : List (List Int)) (a : List Int) (hcl : ∀ i, i < L.length → clB vars (gl L i) = true) (hL : L.length ≤ 1048576) (ha : a.length ≤ 1048576) : ACall Tryz.prog 44 [.agg [.int .i64 vars, .sl (sls L) L.length], .sl (icells a) a.length] [] (.int .i64 (cnfV L a L.length)) [] := by
  refine ACall.intro Tryz.func44 rfl (N := 24) rfl (by decide) (by simp) ?_
  refine a_seq ?_
  refine a_region ?_
  refine r_new (v := .op [.int _ _, .sl _ _]) (q_box (.inl rfl) rfl rfl) rfl rfl (by decide) ?_
  refine r_val (v := .int _ _) (v_assign (.inl rfl) (noOwn_flat rfl)) rfl rfl (by decide) ?_
  refine r_nil ?_
  refine a_seq ?_
  refine a_region ?_
  refine r_val (v := .int _ _) (v_assign (.inl rfl) (noOwn_flat rfl)) rfl rfl (by decide) ?_
  refine r_nil ?_
  refine a_seq ?_
  refine a_seq ?_
  refine a_region ?_
  refine r_val (v := .int _ _) (v_assign (.inl rfl) (noOwn_flat rfl)) rfl rfl (by decide) ?_
  refine r_nil ?_
  refine a_block ?_
  refine a_loop (X := Nat) (fun i => look [(1, .sl (icells a) a.length), (2, .op [.int .i64 vars, .sl (sls L) L.length]), (5, .int .i64 (cnfV L a i)), (6, .int .i64 ((i : Nat) : Int))]) (fun i => i ≤ L.length) (fun i => L.length - i) 0 (ent_look ⟨Weak.of_eq rfl, Weak.of_eq rfl, Weak.of_eq rfl, Weak.of_eq rfl, trivial⟩) (Nat.zero_le _) (fun i hG => ?_)
  refine a_seq ?_
  refine a_seq ?_
  refine a_region ?_
  refine r_val (v := .int _ _) (v_move (.inl rfl) (noOwn_flat rfl)) rfl rfl (by decide) ?_
  refine r_val (v := .rp _ _) (v_fieldAddr_rp fo30_1 (.inl rfl)) rfl rfl (by decide) ?_
  refine r_val (v := .sl _ _) (v_load_rp1 ta22 (.inl rfl) rfl (fun _ => rfl) rfl) rfl rfl (by decide) ?_
  refine r_val (v := .int _ _) (v_len_sl sl22 (.inl rfl)) rfl rfl (by decide) ?_
  refine r_val (v := .bool _) (v_lss (.inl rfl) (.inl rfl)) rfl rfl (by decide) ?_
  refine r_nil ?_
  refine a_cond rfl (fun ht11 => ?_) (fun ht11 => ?_)
  ·
    skip
    refine a_skip ?_
    refine a_seq ?_
    refine a_block ?_
    have hi : i < L.length := (by simp at ht11; omega)
    have hci := hcl i hi
    have hln := clB_len hci
    refine a_region ?_
    refine r_val (v := .int _ _) (v_move (.inl rfl) (noOwn_flat rfl)) rfl rfl (by decide) ?_
    refine r_val (v := .rp _ _) (v_fieldAddr_rp fo30_1 (.inl rfl)) rfl rfl (by decide) ?_
    refine r_val (v := .sl _ _) (v_load_rp1 ta22 (.inl rfl) rfl (fun _ => rfl) rfl) rfl rfl (by decide) ?_
    refine r_val (v := .int _ _) (v_move (.inl rfl) (noOwn_flat rfl)) rfl rfl (by decide) ?_
    refine r_val (v := .pp _ _) (v_indexAddr_sl es22 (.inl rfl) (.inl rfl) (fun _ => ⟨by omega, by omega, sls_ne hi⟩)) rfl rfl (by decide) ?_
    refine r_val (v := .sl (icells (gl L i)) (gl L i).length) (v_load_pp ta40 (.inl rfl) (fun _ => by rw [Nat.mul_one]; exact sls_get hi) rfl) rfl rfl (by decide) ?_
    refine r_val (v := .sl _ _) (v_move (.inl rfl) (noOwn_flat rfl)) rfl rfl (by decide) ?_
    refine r_new (v := .int _ _) (q_call (vs := [.sl _ _, .sl _ _]) (args := [.sl _ _, .sl _ _]) hb47 ⟨.inl rfl, .inl rfl, trivial⟩ rfl (fun hA => sClv_c (gl L i) a (clB_sm hci) (by omega) ha) rfl rfl) rfl rfl (by decide) ?_
    refine r_new (v := .int .i64 (cnfV L a (i + 1))) (q_call (vs := [.int _ _, .int _ _]) (args := [.int .i64 _, .int .i64 _]) hb63 ⟨.inl rfl, .inl rfl, trivial⟩ rfl (fun hA => l1Least_c _ _) rfl rfl) rfl rfl (by decide) ?_
    refine r_val (v := .int _ _) (v_assign (.inl rfl) (noOwn_flat rfl)) rfl rfl (by decide) ?_
    refine r_nil ?_
    refine a_region ?_
    refine r_val (v := .int _ _) (v_move (.inl rfl) (noOwn_flat rfl)) rfl rfl (by decide) ?_
    refine r_val (v := .int _ _) (v_add (.inl rfl) (.inl rfl) (fun _ => by omega)) rfl rfl (by decide) ?_
    refine r_val (v := .int _ _) (v_assign (.inl rfl) (noOwn_flat rfl)) rfl rfl (by decide) ?_
    refine r_nil ?_
    refine ⟨i + 1, ent_look ⟨Weak.of_eq rfl, Weak.of_eq rfl, Weak.of_eq rfl, Weak.of_eq (int_eq (by omega)), trivial⟩, by omega, by omega⟩
  ·
    skip
    refine a_exit ?_
    refine a_seq ?_
    refine a_region ?_
    refine r_val (v := .int _ _) (v_move (.inl rfl) (noOwn_flat rfl)) rfl rfl (by decide) ?_
    refine r_val (v := .int _ _) (v_assign (.inl rfl) (noOwn_flat rfl)) rfl rfl (by decide) ?_
    refine r_nil ?_
    refine a_ret ?_
    refine ret1 Tryz.results44 (by decide) (by decide) (Weak.of_eq (int_eq ?_)) rfl Leaves.nil
    simp at ht11; rw [show i = L.length by omega]

theorem prop1_c (c a : List Int) (hs : SmI c) (hc : c.length ≤ 1048576) (ha : a.length ≤ 1048576) : ACall Tryz.prog 56 [.sl (icells c) c.length, .pp [.sl (icells a) a.length] 0] [] (.bool (decide (unitL c a ≠ 0))) [] := by
  refine ACall.intro Tryz.func56 rfl (N := 8) rfl (by decide) (by simp) ?_
  refine a_seq ?_
  refine a_region ?_
  refine r_val (v := .bool _) (v_assign (.inl rfl) (noOwn_flat rfl)) rfl rfl (by decide) ?_
  refine r_nil ?_
  refine a_seq ?_
  refine a_region ?_
  refine r_val (v := .sl _ _) (v_move (.inl rfl) (noOwn_flat rfl)) rfl rfl (by decide) ?_
  refine r_val (v := .sl _ _) (v_load_pp ta40 (.inl rfl) (fun _ => rfl) rfl) rfl rfl (by decide) ?_
  refine r_new (v := .int _ _) (q_call (vs := [.sl _ _, .sl _ _]) (args := [.sl _ _, .sl _ _]) hb57 ⟨.inl rfl, .inl rfl, trivial⟩ rfl (fun hA => iUnit_c c a hs hc ha) rfl rfl) rfl rfl (by decide) ?_
  refine r_val (v := .bool _) (v_neq (.inl rfl) (.inl rfl)) rfl rfl (by decide) ?_
  refine r_val (v := .bool _) (v_assign (.inl rfl) (noOwn_flat rfl)) rfl rfl (by decide) ?_
  refine r_nil ?_
  refine a_ret ?_
  refine ret1 Tryz.results56 (by decide) (by decide) (Weak.of_eq (bool_eq ?_)) rfl Leaves.nil
  rfl

theorem iProp_c (vars : Int) (L : List (List Int)) (a : List Int) (hcl : ∀ i, i < L.length → clB vars (gl L i) = true) (hL : L.length ≤ 1048576) (ha : a.length ≤ 1048576) (hca : clB vars a = true) : ACall Tryz.prog 37 [.sl (sls L) L.length, .sl (icells a) a.length] [] (.tup [.osl 1 (icells (propR L a).1) (propR L a).1.length none, .osl 2 (tcells (propR L a).2.1) (propR L a).2.1.length none, .bool (propR L a).2.2]) [] := by
  have hbP := hb56
  have hla0 := clB_len hca
  refine ACall.intro Tryz.func37 rfl (N := 41) rfl (by decide) (by simp) ?_
  refine a_seq ?_
  refine a_region ?_
  refine r_new (v := .op [.sl _ _]) (q_box (.inl rfl) rfl rfl) rfl rfl (by decide) ?_
  refine r_val (v := .nils) (v_assign (.inl rfl) (noOwn_flat rfl)) rfl rfl (by decide) ?_
  refine r_val (v := .nils) (v_assign (.inl rfl) (noOwn_flat rfl)) rfl rfl (by decide) ?_
  refine r_val (v := .bool _) (v_assign (.inl rfl) (noOwn_flat rfl)) rfl rfl (by decide) ?_
  refine r_nil ?_
  refine a_seq ?_
  refine a_region ?_
  refine r_val (v := .sl _ _) (v_load_rp1 ta40 (.inl rfl) rfl (fun _ => rfl) rfl) rfl rfl (by decide) ?_
  refine r_new (v := .osl _ _ _ _) (q_call (vs := [.sl _ _]) (args := [.sl _ _]) hb54 ⟨.inl rfl, trivial⟩ rfl (fun hA => cloneI_c _ _ ⟨rfl, by omega⟩) (ic_noSh _) (ic_noRef _)) rfl rfl (by decide) ?_
  refine r_step rfl (o_store_own (v := .osl _ _ _ _) (y' := .op [.osl _ _ _ _]) rfl rfl ta40 (.inl rfl) (by decide) rfl (by decide) rfl (by simp [cellsOf, noRefL, noRef, ic_noRef]) rfl rfl rfl rfl rfl (Nat.le_of_ble_eq_true rfl) rfl rfl) ?_
  refine r_nil ?_
  refine a_seq ?_
  refine a_region ?_
  refine r_val (v := .nils) (v_assign (.inl rfl) (noOwn_flat rfl)) rfl rfl (by decide) ?_
  refine r_nil ?_
  refine a_block ?_
  refine a_pre (ent_nil (t := 7) (sz := 2) (cap := none) (.inl rfl) (fun _ h => by cases h)) ?_
  refine a_loop (X := (List Int × List (Int × Int))) (fun x => look [(0, .sl (sls L) L.length), (3, .op [.osl 1 (icells x.1) x.1.length none]), (7, .osl 2 (tcells x.2) x.2.length none)]) (fun x => clB vars x.1 = true ∧ prop L (13 - x.1.length) x.1 x.2 = propR L a ∧ x.2.length ≤ x.1.length) (fun x => 13 - x.1.length) (a, []) (ent_look ⟨Weak.of_eq rfl, Weak.of_eq rfl, Weak.osl rfl rfl, trivial⟩) ⟨hca, rfl, Nat.zero_le _⟩ (fun x hG => ?_)
  obtain ⟨g1, g2, g3⟩ := hG
  have hla := clB_len g1
  refine a_block ?_
  refine a_seq ?_
  refine a_seq ?_
  refine a_region ?_
  refine r_val (v := .sl _ _) (v_move (.inl rfl) (noOwn_flat rfl)) rfl rfl (by decide) ?_
  refine r_val (v := .rsl _ _ _ _ _) (v_load_rp (c := .osl _ _ _ _) ta40 (.inl rfl) rfl (fun _ => rfl)) rfl rfl (by decide) ?_
  refine r_new (v := .osl _ _ _ _) (q_call (vs := [.sl _ _, .rsl _ _ _ _ _]) (args := [.sl _ _, .sl _ _]) hb39 ⟨.inl rfl, .inl rfl, trivial⟩ (l2_eq rfl (sl_sh (ic_pure _))) (fun hA => iFal_c vars L x.1 hcl hL (by omega)) (ic_noSh _) (ic_noRef _)) rfl rfl (by decide) ?_
  refine r_val (v := .int _ _) (v_len_rsl sl40 (.inl rfl)) rfl rfl (by decide) ?_
  refine r_val (v := .bool _) (v_gtr (.inl rfl) (.inl rfl)) rfl rfl (by decide) ?_
  refine r_nil ?_
  refine a_cond rfl (fun ht16 => ?_) (fun ht16 => ?_)
  ·
    skip
    refine a_seq ?_
    have hcf : conf L x.1 = true := (by rw [conf_fal]; simpa using ht16)
    have hres : propR L a = (x.1, x.2, true) := (by rw [← g2, prop_conf g1 hcf])
    refine a_region ?_
    refine r_val (v := .rsl _ _ _ _ _) (v_load_rp (c := .osl _ _ _ _) ta40 (.inl rfl) rfl (fun _ => rfl)) rfl rfl (by decide) ?_
    refine r_val (v := .rsl _ _ _ _ _) (v_move (.inl rfl) (noOwn_flat rfl)) rfl rfl (by decide) ?_
    refine r_val (v := .rsl _ _ _ _ _) (v_assign (.inl rfl) (noOwn_flat rfl)) rfl rfl (by decide) ?_
    refine r_pre (ent_reloc_sl (t := 4) rfl rfl) ?_
    refine r_val (v := .rsl _ _ _ _ _) (v_assign (.inl rfl) (noOwn_flat rfl)) rfl rfl (by decide) ?_
    refine r_pre (ent_reloc_sl (t := 5) rfl rfl) ?_
    refine r_val (v := .bool _) (v_assign (.inl rfl) (noOwn_flat rfl)) rfl rfl (by decide) ?_
    refine r_nil ?_
    refine a_ret ?_
    refine retL (rs := [.tmp 4, .tmp 5, .tmp 6]) [(4, .osl _ _ _ none), (5, .osl _ _ _ none), (6, _)] ⟨Weak.osl rfl rfl, Weak.osl rfl rfl, Weak.rfl, trivial⟩ rfl Tryz.results37 (by decide) ⟨by decide, by decide, by decide, rfl⟩ (by decide) (by decide) (l3_eq (osl_eq2 ?_ ?_) (osl_eq2 ?_ ?_) (bool_eq ?_)) (by simp [refsL, refs])
    all_goals (rw [hres])
  ·
    skip
    refine a_skip ?_
    refine a_seq ?_
    have hcf : conf L x.1 = false := (by rw [conf_fal]; simpa using ht16)
    refine a_region ?_
    refine r_val (v := .sl _ _) (v_move (.inl rfl) (noOwn_flat rfl)) rfl rfl (by decide) ?_
    refine r_val (v := .fn _ _ _) (v_makeFunc (first := []) (caps := [.tmp 3]) rfl rfl) rfl rfl (by decide) ?_
    refine r_new (v := .int .i64 (uix L x.1)) (q_call (vs := [.sl _ _, .fn _ _ _]) (args := [.sl _ _, .fn _ _ _]) hb55 ⟨.inl rfl, .inl rfl, trivial⟩ (l2_eq rfl (fn_pp (ic_pure _))) (fun hA => idxL_c 56 [.pp [.sl (icells x.1) x.1.length] 0] hbP rfl L (fun i => decide (unitL (gl L i) x.1 ≠ 0)) (by omega) (fun i hi => prop1_c (gl L i) x.1 (clB_sm (hcl i hi)) (by have := clB_len (hcl i hi); omega) (by omega))) rfl rfl) rfl rfl (by decide) ?_
    refine r_val (v := .int _ _) (v_assign (.inl rfl) (noOwn_flat rfl)) rfl rfl (by decide) ?_
    refine r_nil ?_
    refine a_seq ?_
    refine a_seq ?_
    refine a_region ?_
    refine r_val (v := .int _ _) (v_move (.inl rfl) (noOwn_flat rfl)) rfl rfl (by decide) ?_
    refine r_val (v := .bool _) (v_lss (.inl rfl) (.inl rfl)) rfl rfl (by decide) ?_
    refine r_nil ?_
    refine a_cond rfl (fun ht23 => ?_) (fun ht23 => ?_)
    ·
      skip
      refine a_seq ?_
      have huu : uix L x.1 = -1 := (by have h1 := uix_bd L x.1; simp at ht23; omega)
      have hres : propR L a = (x.1, x.2, false) := (by rw [← g2, prop_none g1 hcf huu])
      refine a_region ?_
      refine r_val (v := .rsl _ _ _ _ _) (v_load_rp (c := .osl _ _ _ _) ta40 (.inl rfl) rfl (fun _ => rfl)) rfl rfl (by decide) ?_
      refine r_val (v := .rsl _ _ _ _ _) (v_move (.inl rfl) (noOwn_flat rfl)) rfl rfl (by decide) ?_
      refine r_val (v := .rsl _ _ _ _ _) (v_assign (.inl rfl) (noOwn_flat rfl)) rfl rfl (by decide) ?_
      refine r_pre (ent_reloc_sl (t := 4) rfl rfl) ?_
      refine r_val (v := .rsl _ _ _ _ _) (v_assign (.inl rfl) (noOwn_flat rfl)) rfl rfl (by decide) ?_
      refine r_pre (ent_reloc_sl (t := 5) rfl rfl) ?_
      refine r_val (v := .bool _) (v_assign (.inl rfl) (noOwn_flat rfl)) rfl rfl (by decide) ?_
      refine r_nil ?_
      refine a_ret ?_
      refine retL (rs := [.tmp 4, .tmp 5, .tmp 6]) [(4, .osl _ _ _ none), (5, .osl _ _ _ none), (6, _)] ⟨Weak.osl rfl rfl, Weak.osl rfl rfl, Weak.rfl, trivial⟩ rfl Tryz.results37 (by decide) ⟨by decide, by decide, by decide, rfl⟩ (by decide) (by decide) (l3_eq (osl_eq2 ?_ ?_) (osl_eq2 ?_ ?_) (bool_eq ?_)) (by simp [refsL, refs])
      all_goals (rw [hres])
    ·
      skip
      refine a_skip ?_
      refine a_seq ?_
      have hne : ¬ uix L x.1 = -1 := (by simp at ht23; omega)
      have hu := (uix_bd L x.1).resolve_left hne
      have hcu := hcl _ hu.2.1
      have hsu := clB_sm hcu
      have hlu := clB_len hcu
      have hub := unit_bd (a := x.1) hsu
      have hst := prop_step hcl g1 hne
      have hgo := prop_go (st := x.2) hcl g1 hcf hne
      refine a_region_any mixed (by kernel_rfl) ?_
      refine y_val (v := .sl _ _) (v_move (.inl rfl) (noOwn_flat rfl)) rfl rfl (by decide) (by kernel_rfl) ?_
      refine y_val (v := .int _ _) (v_move (.inl rfl) (noOwn_flat rfl)) rfl rfl (by decide) (by kernel_rfl) ?_
      refine y_val (v := .pp _ _) (v_indexAddr_sl es22 (.inl rfl) (.inl rfl) (fun _ => ⟨by omega, by omega, sls_ne hu.2.1⟩)) rfl rfl (by decide) (by kernel_rfl) ?_
      refine y_val (v := .sl (icells (gl L (uix L x.1).toNat)) (gl L (uix L x.1).toNat).length) (v_load_pp ta40 (.inl rfl) (fun _ => by rw [Nat.mul_one]; exact sls_get hu.2.1) rfl) rfl rfl (by decide) (by kernel_rfl) ?_
      refine y_val (v := .rsl _ _ _ _ _) (v_load_rp (c := .osl _ _ _ _) ta40 (.inl rfl) rfl (fun _ => rfl)) rfl rfl (by decide) (by kernel_rfl) ?_
      refine y_new (v := .int _ _) (q_call (vs := [.sl _ _, .rsl _ _ _ _ _]) (args := [.sl _ _, .sl _ _]) hb57 ⟨.inl rfl, .inl rfl, trivial⟩ (l2_eq rfl (sl_sh (ic_pure _))) (fun hA => iUnit_c _ x.1 hsu (by omega) (by omega)) rfl rfl) rfl rfl (by decide) (by kernel_rfl) ?_
      refine y_val (v := .int _ _) (v_assign (.inl rfl) (noOwn_flat rfl)) rfl rfl (by decide) (by kernel_rfl) ?_
      refine y_nil ?_
      refine a_seq ?_
      refine a_region ?_
      refine r_val (v := .rsl _ _ _ _ _) (v_load_rp (c := .osl _ _ _ _) ta40 (.inl rfl) rfl (fun _ => rfl)) rfl rfl (by decide) ?_
      refine r_val (v := .int _ _) (v_move (.inl rfl) (noOwn_flat rfl)) rfl rfl (by decide) ?_
      refine r_new (v := .osl _ _ _ _) (q_call (vs := [.rsl _ _ _ _ _, .int _ _]) (args := [.sl _ _, .int .i64 _]) hb58 ⟨.inl rfl, .inl rfl, trivial⟩ (l2_eq (sl_sh (ic_pure _)) rfl) (fun hA => set_c vars x.1 _ g1 hst.1) (ic_noSh _) (ic_noRef _)) rfl rfl (by decide) ?_
      refine r_step rfl (o_store_own (v := .osl _ _ _ _) (y' := .op [.osl _ _ _ _]) rfl rfl ta40 (.inl rfl) (by decide) rfl (by decide) rfl (by simp [cellsOf, noRefL, noRef, ic_noRef]) rfl rfl rfl rfl rfl (Nat.le_of_ble_eq_true rfl) rfl rfl) ?_
      refine r_nil ?_
      refine a_region ?_
      refine r_val (v := .rsl _ _ _ _ _) (v_move (.inl rfl) (noOwn_flat rfl)) rfl rfl (by decide) ?_
      refine r_val (v := .int _ _) (v_move (.inl rfl) (noOwn_flat rfl)) rfl rfl (by decide) ?_
      refine r_val (v := .int _ _) (v_move (.inl rfl) (noOwn_flat rfl)) rfl rfl (by decide) ?_
      refine r_val (v := .agg [.int _ _, .int _ _]) (v_buildA arp47 rfl rfl) rfl rfl (by decide) ?_
      refine r_new (v := .osl 2 (tcells [((unitL (gl L (uix L x.1).toNat) x.1), uix L x.1)]) 1 (some 1)) (q_sliceLit (n := 1) (parts := [(0, .tmp 38)]) lt27 rfl rfl rfl rfl) rfl rfl (by decide) ?_
      refine r_pre (ent_reloc_sl (t := 35) rfl rfl) ?_
      refine r_step rfl (o_append rfl ap27 rfl (by decide) (by decide) rfl (src_lit (.inl rfl) rfl rfl rfl) rfl (by rw [tcells_length]) (by omega)) ?_
      refine r_val (v := .rsl _ _ _ _ _) (v_assign (.inl rfl) (noOwn_flat rfl)) rfl rfl (by decide) ?_
      refine r_pre (ent_reloc_sl (t := 7) rfl rfl) ?_
      refine r_nil ?_
      refine ⟨(setLit x.1 (unitL (gl L (uix L x.1).toNat) x.1), x.2 ++ [((unitL (gl L (uix L x.1).toNat) x.1), uix L x.1)]), ent_look ⟨Weak.of_eq rfl, Weak.of_eq (by unfold setLit; rfl), Weak.osl tcells_app (by simp), trivial⟩, ⟨hst.2.1, by rw [← g2]; exact hgo, by dsimp only; rw [hst.2.2]; simp; omega⟩, by dsimp only; have := clB_len hst.2.1; rw [hst.2.2] at this ⊢; omega⟩
end Go.Av
namespace Go.Av
open Go Go.Proofs Go.Sort
set_option maxRecDepth 10000
theorem hb44 : hasBody Tryz.prog 44 = true := by kernel_rfl
theorem hb45 : hasBody Tryz.prog 45 = true := by kernel_rfl
theorem hb46 : hasBody Tryz.prog 46 = true := by kernel_rfl

theorem sProp_c (vars : Int) (L : List (List Int)) (a : List Int) (hcl : ∀ i, i < L.length → clB vars (gl L i) = true) (hL : L.length ≤ 1048576) (ha : a.length ≤ 1048576) (hca : clB vars a = true) : ACall Tryz.prog 31 [.agg [.int .i64 vars, .sl (sls L) L.length], .sl (icells a) a.length] [] (.tup [.osl 2 (tcells (propR L a).2.1) (propR L a).2.1.length none, .osl 1 (icells (propR L a).1) (propR L a).1.length none, .bool (propR L a).2.2]) [] := by
  have hla0 := clB_len hca
  refine ACall.intro Tryz.func31 rfl (N := 58) rfl (by decide) (by simp) ?_
  refine a_seq ?_
  refine a_region ?_
  refine r_new (v := .op [.int _ _, .sl _ _]) (q_box (.inl rfl) rfl rfl) rfl rfl (by decide) ?_
  refine r_val (v := .nils) (v_assign (.inl rfl) (noOwn_flat rfl)) rfl rfl (by decide) ?_
  refine r_val (v := .nils) (v_assign (.inl rfl) (noOwn_flat rfl)) rfl rfl (by decide) ?_
  refine r_val (v := .bool _) (v_assign (.inl rfl) (noOwn_flat rfl)) rfl rfl (by decide) ?_
  refine r_nil ?_
  refine a_seq ?_
  refine a_region ?_
  refine r_new (v := .osl _ _ _ _) (q_sliceLit (n := 0) (parts := []) lt27 rfl rfl rfl rfl) rfl rfl (by decide) ?_
  refine r_val (v := .sl _ _) (v_move (.inl rfl) (noOwn_flat rfl)) rfl rfl (by decide) ?_
  refine r_new (v := .osl _ _ _ _) (q_call (vs := [.sl _ _]) (args := [.sl _ _]) hb43 ⟨.inl rfl, trivial⟩ rfl (fun hA => l1Own_c a _ ⟨rfl, by omega⟩) (ic_noSh _) (ic_noRef _)) rfl rfl (by decide) ?_
  refine r_val (v := .rsl _ _ _ _ _) (v_assign (.inl rfl) (noOwn_flat rfl)) rfl rfl (by decide) ?_
  refine r_pre (ent_reloc_sl (t := 7) rfl rfl) ?_
  refine r_val (v := .rsl _ _ _ _ _) (v_assign (.inl rfl) (noOwn_flat rfl)) rfl rfl (by decide) ?_
  refine r_pre (ent_reloc_sl (t := 8) rfl rfl) ?_
  refine r_nil ?_
  refine a_seq ?_
  refine a_block ?_
  refine a_loop (X := (List Int × List (Int × Int))) (fun x => look [(2, .op [.int .i64 vars, .sl (sls L) L.length]), (7, .osl 2 (tcells x.2) x.2.length none), (8, .osl 1 (icells x.1) x.1.length none)]) (fun x => clB vars x.1 = true ∧ prop L (13 - x.1.length) x.1 x.2 = propR L a ∧ x.2.length ≤ x.1.length) (fun x => 13 - x.1.length) (a, []) (ent_look ⟨Weak.of_eq rfl, Weak.osl rfl rfl, Weak.osl rfl rfl, trivial⟩) ⟨hca, rfl, Nat.zero_le _⟩ (fun x hG => ?_)
  obtain ⟨g1, g2, g3⟩ := hG
  have hla := clB_len g1
  refine a_seq ?_
  refine a_seq ?_
  refine a_region ?_
  refine r_val (v := .agg [.int _ _, .sl _ _]) (v_load_rpa1 ta30 (.inl rfl) rfl rfl (fun _ => rfl) rfl) rfl rfl (by decide) ?_
  refine r_val (v := .rsl _ _ _ _ _) (v_move (.inl rfl) (noOwn_flat rfl)) rfl rfl (by decide) ?_
  refine r_new (v := .int _ _) (q_call (vs := [.agg [.int _ _, .sl _ _], .rsl _ _ _ _ _]) (args := [.agg [.int .i64 _, .sl _ _], .sl _ _]) hb44 ⟨.inl rfl, .inl rfl, trivial⟩ (l2_eq rfl (sl_sh (ic_pure _))) (fun hA => cnfV_c vars L x.1 hcl hL (by omega)) rfl rfl) rfl rfl (by decide) ?_
  refine r_val (v := .bool _) (v_geq (.inl rfl) (.inl rfl)) rfl rfl (by decide) ?_
  refine r_nil ?_
  refine a_cond rfl (fun ht18 => ?_) (fun ht18 => ?_)
  ·
    skip
    refine a_skip ?_
    refine a_block ?_
    refine a_seq ?_
    have hcf : conf L x.1 = false := (by have h9 := cnfV_conf (L := L) (a := x.1); rw [h9] at ht18; simpa using ht18)
    refine a_region ?_
    refine r_val (v := .int _ _) (v_assign (.inl rfl) (noOwn_flat rfl)) rfl rfl (by decide) ?_
    refine r_nil ?_
    refine a_seq ?_
    refine a_seq ?_
    refine a_region ?_
    refine r_val (v := .rp _ _) (v_fieldAddr_rp fo30_1 (.inl rfl)) rfl rfl (by decide) ?_
    refine r_val (v := .sl _ _) (v_load_rp1 ta22 (.inl rfl) rfl (fun _ => rfl) rfl) rfl rfl (by decide) ?_
    refine r_val (v := .int _ _) (v_len_sl sl22 (.inl rfl)) rfl rfl (by decide) ?_
    refine r_val (v := .int _ _) (v_sub (.inl rfl) (.inl rfl) (fun _ => by omega)) rfl rfl (by decide) ?_
    refine r_val (v := .int _ _) (v_assign (.inl rfl) (noOwn_flat rfl)) rfl rfl (by decide) ?_
    refine r_nil ?_
    refine a_block ?_
    refine a_loop (X := Nat) (fun k => look [(2, .op [.int .i64 vars, .sl (sls L) L.length]), (7, .osl 2 (tcells x.2) x.2.length none), (8, .osl 1 (icells x.1) x.1.length none), (9, .int .i64 (dwn (fun i => decide (unitL (gl L i) x.1 ≠ 0)) L.length k)), (10, .int .i64 ((L.length : Int) - 1 - (k : Nat)))]) (fun k => k ≤ L.length) (fun k => L.length - k) 0 (ent_look ⟨Weak.of_eq rfl, Weak.of_eq rfl, Weak.of_eq rfl, Weak.of_eq rfl, Weak.of_eq (int_eq (by omega)), trivial⟩) (Nat.zero_le _) (fun k hG => ?_)
    refine a_seq ?_
    refine a_seq ?_
    refine a_region ?_
    refine r_val (v := .int _ _) (v_move (.inl rfl) (noOwn_flat rfl)) rfl rfl (by decide) ?_
    refine r_val (v := .bool _) (v_geq (.inl rfl) (.inl rfl)) rfl rfl (by decide) ?_
    refine r_nil ?_
    refine a_cond rfl (fun ht24 => ?_) (fun ht24 => ?_)
    ·
      skip
      refine a_skip ?_
      refine a_seq ?_
      refine a_block ?_
      refine a_seq ?_
      have hk : k < L.length := (by simp at ht24; omega)
      have hck := hcl (L.length - (k + 1)) (by omega)
      have hlk := clB_len hck
      refine a_region ?_
      refine r_val (v := .rp _ _) (v_fieldAddr_rp fo30_1 (.inl rfl)) rfl rfl (by decide) ?_
      refine r_val (v := .sl _ _) (v_load_rp1 ta22 (.inl rfl) rfl (fun _ => rfl) rfl) rfl rfl (by decide) ?_
      refine r_val (v := .int _ _) (v_move (.inl rfl) (noOwn_flat rfl)) rfl rfl (by decide) ?_
      refine r_val (v := .pp _ _) (v_indexAddr_sl es22 (.inl rfl) (.inl rfl) (fun _ => ⟨by omega, by omega, sls_ne (L := L) (i := (L.length - (k + 1))) (by omega)⟩)) rfl rfl (by decide) ?_
      refine r_val (v := .sl (icells (gl L (L.length - (k + 1)))) (gl L (L.length - (k + 1))).length) (v_load_pp ta40 (.inl rfl) (fun _ => by rw [show ((L.length : Int) - 1 - (k : Nat)).toNat = (L.length - (k + 1)) by omega, Nat.mul_one]; exact sls_get (by omega)) rfl) rfl rfl (by decide) ?_
      refine r_val (v := .rsl _ _ _ _ _) (v_move (.inl rfl) (noOwn_flat rfl)) rfl rfl (by decide) ?_
      refine r_new (v := .int _ _) (q_call (vs := [.sl _ _, .rsl _ _ _ _ _]) (args := [.sl _ _, .sl _ _]) hb45 ⟨.inl rfl, .inl rfl, trivial⟩ (l2_eq rfl (sl_sh (ic_pure _))) (fun hA => sUnit_c (gl L (L.length - (k + 1))) x.1 (clB_sm hck) (by omega) (by omega)) rfl rfl) rfl rfl (by decide) ?_
      refine r_val (v := .bool _) (v_neq (.inl rfl) (.inl rfl)) rfl rfl (by decide) ?_
      refine r_nil ?_
      refine a_cond rfl (fun ht34 => ?_) (fun ht34 => ?_)
      ·
        skip
        refine a_region ?_
        refine r_val (v := .int _ _) (v_move (.inl rfl) (noOwn_flat rfl)) rfl rfl (by decide) ?_
        refine r_val (v := .int _ _) (v_assign (.inl rfl) (noOwn_flat rfl)) rfl rfl (by decide) ?_
        refine r_nil ?_
        refine a_region ?_
        refine r_val (v := .int _ _) (v_move (.inl rfl) (noOwn_flat rfl)) rfl rfl (by decide) ?_
        refine r_val (v := .int _ _) (v_sub (.inl rfl) (.inl rfl) (fun _ => by omega)) rfl rfl (by decide) ?_
        refine r_val (v := .int _ _) (v_assign (.inl rfl) (noOwn_flat rfl)) rfl rfl (by decide) ?_
        refine r_nil ?_
        refine ⟨k + 1, ent_look ⟨Weak.of_eq rfl, Weak.of_eq rfl, Weak.of_eq rfl, Weak.of_eq (int_eq (by rw [dwn, if_pos (by simpa using ht34)]; omega)), Weak.of_eq (int_eq (by omega)), trivial⟩, by omega, by omega⟩
      ·
        skip
        refine a_skip ?_
        refine a_region ?_
        refine r_val (v := .int _ _) (v_move (.inl rfl) (noOwn_flat rfl)) rfl rfl (by decide) ?_
        refine r_val (v := .int _ _) (v_sub (.inl rfl) (.inl rfl) (fun _ => by omega)) rfl rfl (by decide) ?_
        refine r_val (v := .int _ _) (v_assign (.inl rfl) (noOwn_flat rfl)) rfl rfl (by decide) ?_
        refine r_nil ?_
        refine ⟨k + 1, ent_look ⟨Weak.of_eq rfl, Weak.of_eq rfl, Weak.of_eq rfl, Weak.of_eq (int_eq (by rw [dwn, if_neg (by simpa using ht34)])), Weak.of_eq (int_eq (by omega)), trivial⟩, by omega, by omega⟩
    ·
      skip
      refine a_exit ?_
      refine a_seq ?_
      refine a_seq ?_
      have hkn : k = L.length := (by simp at ht24; omega)
      refine a_pre (ent_eq (t := 9) (v' := .int .i64 (uix L x.1)) (Weak.of_eq (int_eq (by rw [hkn, dwn_all]; rfl)))) ?_
      refine a_region ?_
      refine r_val (v := .int _ _) (v_move (.inl rfl) (noOwn_flat rfl)) rfl rfl (by decide) ?_
      refine r_val (v := .bool _) (v_lss (.inl rfl) (.inl rfl)) rfl rfl (by decide) ?_
      refine r_nil ?_
      refine a_cond rfl (fun ht37 => ?_) (fun ht37 => ?_)
      ·
        skip
        refine a_seq ?_
        have huu : uix L x.1 = -1 := (by have h1 := uix_bd L x.1; simp at ht37; omega)
        have hres : propR L a = (x.1, x.2, false) := (by rw [← g2, prop_none g1 hcf huu])
        refine a_region ?_
        refine r_val (v := .rsl _ _ _ _ _) (v_move (.inl rfl) (noOwn_flat rfl)) rfl rfl (by decide) ?_
        refine r_val (v := .rsl _ _ _ _ _) (v_move (.inl rfl) (noOwn_flat rfl)) rfl rfl (by decide) ?_
        refine r_val (v := .rsl _ _ _ _ _) (v_assign (.inl rfl) (noOwn_flat rfl)) rfl rfl (by decide) ?_
        refine r_pre (ent_reloc_sl (t := 4) rfl rfl) ?_
        refine r_val (v := .rsl _ _ _ _ _) (v_assign (.inl rfl) (noOwn_flat rfl)) rfl rfl (by decide) ?_
        refine r_pre (ent_reloc_sl (t := 5) rfl rfl) ?_
        refine r_val (v := .bool _) (v_assign (.inl rfl) (noOwn_flat rfl)) rfl rfl (by decide) ?_
        refine r_nil ?_
        refine a_ret ?_
        refine retL (rs := [.tmp 4, .tmp 5, .tmp 6]) [(4, .osl _ _ _ none), (5, .osl _ _ _ none), (6, _)] ⟨Weak.osl rfl rfl, Weak.osl rfl rfl, Weak.rfl, trivial⟩ rfl Tryz.results31 (by decide) ⟨by decide, by decide, by decide, rfl⟩ (by decide) (by decide) (l3_eq (osl_eq2 ?_ ?_) (osl_eq2 ?_ ?_) (bool_eq ?_)) (by simp [refsL, refs])
        all_goals (rw [hres])
      ·
        skip
        refine a_skip ?_
        refine a_seq ?_
        have hne : ¬ uix L x.1 = -1 := (by simp at ht37; omega)
        have hu := (uix_bd L x.1).resolve_left hne
        have hcu := hcl _ hu.2.1
        have hsu := clB_sm hcu
        have hlu := clB_len hcu
        have hub := unit_bd (a := x.1) hsu
        have hst := prop_step hcl g1 hne
        have hgo := prop_go (st := x.2) hcl g1 hcf hne
        refine a_region ?_
        refine r_val (v := .rp _ _) (v_fieldAddr_rp fo30_1 (.inl rfl)) rfl rfl (by decide) ?_
        refine r_val (v := .sl _ _) (v_load_rp1 ta22 (.inl rfl) rfl (fun _ => rfl) rfl) rfl rfl (by decide) ?_
        refine r_val (v := .int _ _) (v_move (.inl rfl) (noOwn_flat rfl)) rfl rfl (by decide) ?_
        refine r_val (v := .pp _ _) (v_indexAddr_sl es22 (.inl rfl) (.inl rfl) (fun _ => ⟨by omega, by omega, sls_ne hu.2.1⟩)) rfl rfl (by decide) ?_
        refine r_val (v := .sl (icells (gl L (uix L x.1).toNat)) (gl L (uix L x.1).toNat).length) (v_load_pp ta40 (.inl rfl) (fun _ => by rw [Nat.mul_one]; exact sls_get hu.2.1) rfl) rfl rfl (by decide) ?_
        refine r_val (v := .rsl _ _ _ _ _) (v_move (.inl rfl) (noOwn_flat rfl)) rfl rfl (by decide) ?_
        refine r_new (v := .int _ _) (q_call (vs := [.sl _ _, .rsl _ _ _ _ _]) (args := [.sl _ _, .sl _ _]) hb45 ⟨.inl rfl, .inl rfl, trivial⟩ (l2_eq rfl (sl_sh (ic_pure _))) (fun hA => sUnit_c _ x.1 hsu (by omega) (by omega)) rfl rfl) rfl rfl (by decide) ?_
        refine r_val (v := .int _ _) (v_assign (.inl rfl) (noOwn_flat rfl)) rfl rfl (by decide) ?_
        refine r_nil ?_
        refine a_seq ?_
        refine a_region ?_
        refine r_val (v := .rsl _ _ _ _ _) (v_move (.inl rfl) (noOwn_flat rfl)) rfl rfl (by decide) ?_
        refine r_val (v := .int _ _) (v_move (.inl rfl) (noOwn_flat rfl)) rfl rfl (by decide) ?_
        refine r_val (v := .int _ _) (v_move (.inl rfl) (noOwn_flat rfl)) rfl rfl (by decide) ?_
        refine r_val (v := .agg [.int _ _, .int _ _]) (v_buildA arp47 rfl rfl) rfl rfl (by decide) ?_
        refine r_new (v := .osl 2 (tcells [((unitL (gl L (uix L x.1).toNat) x.1), uix L x.1)]) 1 (some 1)) (q_sliceLit (n := 1) (parts := [(0, .tmp 50)]) lt27 rfl rfl rfl rfl) rfl rfl (by decide) ?_
        refine r_pre (ent_reloc_sl (t := 47) rfl rfl) ?_
        refine r_step rfl (o_append rfl ap27 rfl (by decide) (by decide) rfl (src_lit (.inl rfl) rfl rfl rfl) rfl (by rw [tcells_length]) (by omega)) ?_
        refine r_val (v := .rsl _ _ _ _ _) (v_assign (.inl rfl) (noOwn_flat rfl)) rfl rfl (by decide) ?_
        refine r_pre (ent_reloc_sl (t := 7) rfl rfl) ?_
        refine r_nil ?_
        refine a_region ?_
        refine r_val (v := .rsl _ _ _ _ _) (v_move (.inl rfl) (noOwn_flat rfl)) rfl rfl (by decide) ?_
        refine r_val (v := .int _ _) (v_move (.inl rfl) (noOwn_flat rfl)) rfl rfl (by decide) ?_
        refine r_new (v := .osl _ _ _ _) (q_call (vs := [.rsl _ _ _ _ _, .int _ _]) (args := [.sl _ _, .int .i64 _]) hb46 ⟨.inl rfl, .inl rfl, trivial⟩ (l2_eq (sl_sh (ic_pure _)) rfl) (fun hA => l3Set_c x.1 _ (by omega) (clB_sm g1) hub) (ic_noSh _) (ic_noRef _)) rfl rfl (by decide) ?_
        refine r_val (v := .rsl _ _ _ _ _) (v_assign (.inl rfl) (noOwn_flat rfl)) rfl rfl (by decide) ?_
        refine r_pre (ent_reloc_sl (t := 8) rfl rfl) ?_
        refine r_nil ?_
        refine ⟨(setLit x.1 (unitL (gl L (uix L x.1).toNat) x.1), x.2 ++ [((unitL (gl L (uix L x.1).toNat) x.1), uix L x.1)]), ent_look ⟨Weak.of_eq rfl, Weak.osl tcells_app (by simp), Weak.of_eq (by unfold setLit; rfl), trivial⟩, ⟨hst.2.1, by rw [← g2]; exact hgo, by dsimp only; rw [hst.2.2]; simp; omega⟩, by dsimp only; have := clB_len hst.2.1; rw [hst.2.2] at this ⊢; omega⟩
  ·
    skip
    refine a_exit ?_
    refine a_seq ?_
    have hcf : conf L x.1 = true := (by have h9 := cnfV_conf (L := L) (a := x.1); rw [h9] at ht18; simpa using ht18)
    have hres : propR L a = (x.1, x.2, true) := (by rw [← g2, prop_conf g1 hcf])
    refine a_region ?_
    refine r_val (v := .rsl _ _ _ _ _) (v_move (.inl rfl) (noOwn_flat rfl)) rfl rfl (by decide) ?_
    refine r_val (v := .rsl _ _ _ _ _) (v_move (.inl rfl) (noOwn_flat rfl)) rfl rfl (by decide) ?_
    refine r_val (v := .rsl _ _ _ _ _) (v_assign (.inl rfl) (noOwn_flat rfl)) rfl rfl (by decide) ?_
    refine r_pre (ent_reloc_sl (t := 4) rfl rfl) ?_
    refine r_val (v := .rsl _ _ _ _ _) (v_assign (.inl rfl) (noOwn_flat rfl)) rfl rfl (by decide) ?_
    refine r_pre (ent_reloc_sl (t := 5) rfl rfl) ?_
    refine r_val (v := .bool _) (v_assign (.inl rfl) (noOwn_flat rfl)) rfl rfl (by decide) ?_
    refine r_nil ?_
    refine a_ret ?_
    refine retL (rs := [.tmp 4, .tmp 5, .tmp 6]) [(4, .osl _ _ _ none), (5, .osl _ _ _ none), (6, _)] ⟨Weak.osl rfl rfl, Weak.osl rfl rfl, Weak.rfl, trivial⟩ rfl Tryz.results31 (by decide) ⟨by decide, by decide, by decide, rfl⟩ (by decide) (by decide) (l3_eq (osl_eq2 ?_ ?_) (osl_eq2 ?_ ?_) (bool_eq ?_)) (by simp [refsL, refs])
    all_goals (rw [hres])
end Go.Av
namespace Go.Av
open Go Go.Proofs Go.Sort
set_option maxRecDepth 10000
theorem hb31 : hasBody Tryz.prog 31 = true := by kernel_rfl
theorem hb32 : hasBody Tryz.prog 32 = true := by kernel_rfl
theorem hb37 : hasBody Tryz.prog 37 = true := by kernel_rfl
theorem hb38 : hasBody Tryz.prog 38 = true := by kernel_rfl

theorem negated_c (c : List Int) (hs : SmI c) (hc : c.length ≤ 1048576) : ACall Tryz.prog 38 [.sl (icells c) c.length] [] (.osl 1 (icells (ngL c)) (ngL c).length none) [] := by
  refine ACall.intro Tryz.func38 rfl (N := 19) rfl (by decide) (by simp) ?_
  refine a_seq ?_
  refine a_region ?_
  refine r_val (v := .nils) (v_assign (.inl rfl) (noOwn_flat rfl)) rfl rfl (by decide) ?_
  refine r_nil ?_
  refine a_seq ?_
  refine a_region ?_
  refine r_val (v := .nils) (v_assign (.inl rfl) (noOwn_flat rfl)) rfl rfl (by decide) ?_
  refine r_nil ?_
  refine a_seq ?_
  refine a_seq ?_
  refine a_region ?_
  refine r_val (v := .sl _ _) (v_move (.inl rfl) (noOwn_flat rfl)) rfl rfl (by decide) ?_
  refine r_val (v := .int _ _) (v_len_sl sl40 (.inl rfl)) rfl rfl (by decide) ?_
  refine r_val (v := .int _ _) (v_move (.inl rfl) (noOwn_flat rfl)) rfl rfl (by decide) ?_
  refine r_nil ?_
  refine a_block ?_
  refine a_pre (ent_nil (t := 3) (sz := 1) (cap := none) (.inl rfl) (fun _ h => by cases h)) ?_
  refine a_loop (X := Nat) (fun i => look [(3, .osl 1 (icells (ngP c i)) (ngP c i).length none), (6, .sl (icells c) c.length), (7, .int .i64 ((c.length : Nat) : Int)), (8, .int .i64 ((i : Nat) : Int))]) (fun i => i ≤ c.length) (fun i => c.length - i) 0 (ent_look ⟨Weak.osl rfl rfl, Weak.of_eq rfl, Weak.of_eq rfl, Weak.of_eq rfl, trivial⟩) (Nat.zero_le _) (fun i hG => ?_)
  have hsi := hs i
  refine a_seq ?_
  refine a_region ?_
  refine r_val (v := .bool _) (v_lss (.inl rfl) (.inl rfl)) rfl rfl (by decide) ?_
  refine r_nil ?_
  refine a_seq ?_
  refine a_cond rfl (fun ht9 => ?_) (fun ht9 => ?_)
  ·
    skip
    refine a_skip ?_
    refine a_seq ?_
    refine a_block ?_
    refine a_seq ?_
    have hi : i < c.length := (by simp at ht9; omega)
    have hnl := ngP_len (c := c) (i := i) (by omega)
    refine a_region ?_
    refine r_val (v := .pp _ _) (v_indexAddr_sl es40 (.inl rfl) (.inl rfl) (fun _ => ⟨by omega, by omega, icells_ne hi⟩)) rfl rfl (by decide) ?_
    refine r_val (v := .int .i64 (gd c i)) (v_load_pp ta3 (.inl rfl) (fun _ => by rw [Nat.mul_one]; exact icells_get (gd_get hi)) rfl) rfl rfl (by decide) ?_
    refine r_val (v := .int _ _) (v_assign (.inl rfl) (noOwn_flat rfl)) rfl rfl (by decide) ?_
    refine r_nil ?_
    refine a_region ?_
    refine r_val (v := .rsl _ _ _ _ _) (v_move (.inl rfl) (noOwn_flat rfl)) rfl rfl (by decide) ?_
    refine r_val (v := .int _ _) (v_move (.inl rfl) (noOwn_flat rfl)) rfl rfl (by decide) ?_
    refine r_val (v := .int _ _) (v_neg (.inl rfl) (fun _ => by omega)) rfl rfl (by decide) ?_
    refine r_new (v := .osl 1 (icells [-(gd c i)]) 1 (some 1)) (q_sliceLit (n := 1) (parts := [(0, .tmp 14)]) lt40 rfl rfl rfl rfl) rfl rfl (by decide) ?_
    refine r_pre (ent_reloc_sl (t := 12) rfl rfl) ?_
    refine r_step rfl (o_append rfl ap40 rfl (by decide) (by decide) rfl (src_lit (.inl rfl) rfl rfl (ic_pureL _)) (ic_cell _) (by rw [icells_length]; omega) (by omega)) ?_
    refine r_val (v := .rsl _ _ _ _ _) (v_assign (.inl rfl) (noOwn_flat rfl)) rfl rfl (by decide) ?_
    refine r_pre (ent_reloc_sl (t := 3) rfl rfl) ?_
    refine r_nil ?_
    refine a_region ?_
    refine r_val (v := .int _ _) (v_add (.inl rfl) (.inl rfl) (fun _ => by omega)) rfl rfl (by decide) ?_
    refine r_val (v := .int _ _) (v_move (.inl rfl) (noOwn_flat rfl)) rfl rfl (by decide) ?_
    refine r_nil ?_
    refine ⟨i + 1, ent_look ⟨Weak.osl (by rw [ngP_succ hi, icells_append] <;> rfl) (by rw [ngP_succ hi]; simp), Weak.of_eq rfl, Weak.of_eq rfl, Weak.of_eq (int_eq (by omega)), trivial⟩, by omega, by omega⟩
  ·
    skip
    refine a_exit ?_
    refine a_seq ?_
    refine a_region ?_
    refine r_val (v := .rsl _ _ _ _ _) (v_move (.inl rfl) (noOwn_flat rfl)) rfl rfl (by decide) ?_
    refine r_val (v := .rsl _ _ _ _ _) (v_assign (.inl rfl) (noOwn_flat rfl)) rfl rfl (by decide) ?_
    refine r_pre (ent_reloc_sl (t := 2) rfl rfl) ?_
    refine r_nil ?_
    refine a_ret ?_
    refine ret1 Tryz.results38 (by decide) (by decide) (Weak.osl ?_ ?_) rfl Leaves.nil
    all_goals (rw [ngP_full (by simp at ht9; omega)])

theorem deny_c (c : List Int) (hs : SmI c) (hc : c.length ≤ 1048576) : ACall Tryz.prog 32 [.sl (icells c) c.length] [] (.osl 1 (icells (ngL c)) (ngL c).length none) [] := by
  refine ACall.intro Tryz.func32 rfl (N := 21) rfl (by decide) (by simp) ?_
  refine a_seq ?_
  refine a_region ?_
  refine r_val (v := .nils) (v_assign (.inl rfl) (noOwn_flat rfl)) rfl rfl (by decide) ?_
  refine r_nil ?_
  refine a_seq ?_
  refine a_region ?_
  refine r_new (v := .osl _ _ _ _) (q_sliceLit (n := 0) (parts := []) lt40 rfl rfl rfl rfl) rfl rfl (by decide) ?_
  refine r_val (v := .rsl _ _ _ _ _) (v_assign (.inl rfl) (noOwn_flat rfl)) rfl rfl (by decide) ?_
  refine r_pre (ent_reloc_sl (t := 3) rfl rfl) ?_
  refine r_nil ?_
  refine a_seq ?_
  refine a_seq ?_
  refine a_region ?_
  refine r_val (v := .int _ _) (v_assign (.inl rfl) (noOwn_flat rfl)) rfl rfl (by decide) ?_
  refine r_nil ?_
  refine a_block ?_
  refine a_loop (X := Nat) (fun i => look [(0, .sl (icells c) c.length), (3, .osl 1 (icells (ngP c i)) (ngP c i).length none), (4, .int .i64 ((i : Nat) : Int))]) (fun i => i ≤ c.length) (fun i => c.length - i) 0 (ent_look ⟨Weak.of_eq rfl, Weak.osl rfl rfl, Weak.of_eq rfl, trivial⟩) (Nat.zero_le _) (fun i hG => ?_)
  have hsi := hs i
  refine a_seq ?_
  refine a_seq ?_
  refine a_region ?_
  refine r_val (v := .int _ _) (v_move (.inl rfl) (noOwn_flat rfl)) rfl rfl (by decide) ?_
  refine r_val (v := .sl _ _) (v_move (.inl rfl) (noOwn_flat rfl)) rfl rfl (by decide) ?_
  refine r_val (v := .int _ _) (v_len_sl sl40 (.inl rfl)) rfl rfl (by decide) ?_
  refine r_val (v := .bool _) (v_lss (.inl rfl) (.inl rfl)) rfl rfl (by decide) ?_
  refine r_nil ?_
  refine a_cond rfl (fun ht9 => ?_) (fun ht9 => ?_)
  ·
    skip
    refine a_skip ?_
    refine a_seq ?_
    refine a_block ?_
    have hi : i < c.length := (by simp at ht9; omega)
    have hnl := ngP_len (c := c) (i := i) (by omega)
    refine a_region ?_
    refine r_val (v := .rsl _ _ _ _ _) (v_move (.inl rfl) (noOwn_flat rfl)) rfl rfl (by decide) ?_
    refine r_val (v := .sl _ _) (v_move (.inl rfl) (noOwn_flat rfl)) rfl rfl (by decide) ?_
    refine r_val (v := .int _ _) (v_move (.inl rfl) (noOwn_flat rfl)) rfl rfl (by decide) ?_
    refine r_val (v := .pp _ _) (v_indexAddr_sl es40 (.inl rfl) (.inl rfl) (fun _ => ⟨by omega, by omega, icells_ne hi⟩)) rfl rfl (by decide) ?_
    refine r_val (v := .int .i64 (gd c i)) (v_load_pp ta3 (.inl rfl) (fun _ => by rw [Nat.mul_one]; exact icells_get (gd_get hi)) rfl) rfl rfl (by decide) ?_
    refine r_val (v := .int _ _) (v_neg (.inl rfl) (fun _ => by omega)) rfl rfl (by decide) ?_
    refine r_new (v := .osl 1 (icells [-(gd c i)]) 1 (some 1)) (q_sliceLit (n := 1) (parts := [(0, .tmp 17)]) lt40 rfl rfl rfl rfl) rfl rfl (by decide) ?_
    refine r_pre (ent_reloc_sl (t := 12) rfl rfl) ?_
    refine r_step rfl (o_append rfl ap40 rfl (by decide) (by decide) rfl (src_lit (.inl rfl) rfl rfl (ic_pureL _)) (ic_cell _) (by rw [icells_length]; omega) (by omega)) ?_
    refine r_val (v := .rsl _ _ _ _ _) (v_assign (.inl rfl) (noOwn_flat rfl)) rfl rfl (by decide) ?_
    refine r_pre (ent_reloc_sl (t := 3) rfl rfl) ?_
    refine r_nil ?_
    refine a_region ?_
    refine r_val (v := .int _ _) (v_move (.inl rfl) (noOwn_flat rfl)) rfl rfl (by decide) ?_
    refine r_val (v := .int _ _) (v_add (.inl rfl) (.inl rfl) (fun _ => by omega)) rfl rfl (by decide) ?_
    refine r_val (v := .int _ _) (v_assign (.inl rfl) (noOwn_flat rfl)) rfl rfl (by decide) ?_
    refine r_nil ?_
    refine ⟨i + 1, ent_look ⟨Weak.of_eq rfl, Weak.osl (by rw [ngP_succ hi, icells_append] <;> rfl) (by rw [ngP_succ hi]; simp), Weak.of_eq (int_eq (by omega)), trivial⟩, by omega, by omega⟩
  ·
    skip
    refine a_exit ?_
    refine a_seq ?_
    refine a_region ?_
    refine r_val (v := .rsl _ _ _ _ _) (v_move (.inl rfl) (noOwn_flat rfl)) rfl rfl (by decide) ?_
    refine r_val (v := .rsl _ _ _ _ _) (v_assign (.inl rfl) (noOwn_flat rfl)) rfl rfl (by decide) ?_
    refine r_pre (ent_reloc_sl (t := 2) rfl rfl) ?_
    refine r_nil ?_
    refine a_ret ?_
    refine ret1 Tryz.results32 (by decide) (by decide) (Weak.osl ?_ ?_) rfl Leaves.nil
    all_goals (rw [ngP_full (by simp at ht9; omega)])

theorem iFol_c (vars : Int) (L : List (List Int)) (c : List Int) (hcl : ∀ i, i < L.length → clB vars (gl L i) = true) (hL : L.length ≤ 1048576) (hcc : clB vars c = true) : ACall Tryz.prog 52 [.sl (sls L) L.length, .sl (icells c) c.length] [] (.bool (folB L c)) [] := by
  have hlc := clB_len hcc
  have hnl := ngL_len c
  have hnc := ngL_cl hcc
  have hsc := clB_sm hcc
  refine ACall.intro Tryz.func52 rfl (N := 17) rfl (by decide) (by simp) ?_
  refine a_seq ?_
  refine a_region ?_
  refine r_val (v := .bool _) (v_assign (.inl rfl) (noOwn_flat rfl)) rfl rfl (by decide) ?_
  refine r_nil ?_
  refine a_seq ?_
  refine a_region ?_
  refine r_val (v := .sl _ _) (v_move (.inl rfl) (noOwn_flat rfl)) rfl rfl (by decide) ?_
  refine r_val (v := .sl _ _) (v_move (.inl rfl) (noOwn_flat rfl)) rfl rfl (by decide) ?_
  refine r_new (v := .osl _ _ _ _) (q_call (vs := [.sl _ _]) (args := [.sl _ _]) hb38 ⟨.inl rfl, trivial⟩ rfl (fun hA => negated_c c hsc (by omega)) (ic_noSh _) (ic_noRef _)) rfl rfl (by decide) ?_
  refine r_new (v := .tup [.osl _ _ _ _, .osl _ _ _ _, .bool _]) (q_call (vs := [.sl _ _, .rsl _ _ _ _ _]) (args := [.sl _ _, .sl _ _]) hb37 ⟨.inl rfl, .inl rfl, trivial⟩ (l2_eq rfl (sl_sh (ic_pure _))) (fun hA => iProp_c vars L (ngL c) hcl hL (by omega) hnc) (by simp [noSh, noShL, ic_noSh, tc_noSh]) (by simp [noRef, noRefL, ic_noRef, tc_noRef])) rfl rfl (by decide) ?_
  refine r_val (v := .tup [.rsl _ _ _ _ _, .rsl _ _ _ _ _, .bool _]) (v_mv rfl) rfl rfl (by decide) ?_
  refine r_val (v := .rsl _ _ _ _ _) (v_extract rfl rfl) rfl rfl (by decide) ?_
  refine r_val (v := .rsl _ _ _ _ _) (v_extract rfl rfl) rfl rfl (by decide) ?_
  refine r_val (v := .bool _) (v_extract rfl rfl) rfl rfl (by decide) ?_
  refine r_val (v := .rsl _ _ _ _ _) (v_assign (.inl rfl) (noOwn_flat rfl)) rfl rfl (by decide) ?_
  refine r_pre (ent_reloc_sl (t := 5) rfl rfl) ?_
  refine r_val (v := .rsl _ _ _ _ _) (v_assign (.inl rfl) (noOwn_flat rfl)) rfl rfl (by decide) ?_
  refine r_pre (ent_reloc_sl (t := 6) rfl rfl) ?_
  refine r_val (v := .bool _) (v_assign (.inl rfl) (noOwn_flat rfl)) rfl rfl (by decide) ?_
  refine r_nil ?_
  refine a_seq ?_
  refine a_region ?_
  refine r_val (v := .bool _) (v_move (.inl rfl) (noOwn_flat rfl)) rfl rfl (by decide) ?_
  refine r_val (v := .bool _) (v_assign (.inl rfl) (noOwn_flat rfl)) rfl rfl (by decide) ?_
  refine r_nil ?_
  refine a_ret ?_
  refine ret1 Tryz.results52 (by decide) (by decide) (Weak.of_eq (bool_eq ?_)) rfl Leaves.nil
  rfl

theorem sFol_c (vars : Int) (L : List (List Int)) (c : List Int) (hcl : ∀ i, i < L.length → clB vars (gl L i) = true) (hL : L.length ≤ 1048576) (hcc : clB vars c = true) : ACall Tryz.prog 42 [.agg [.int .i64 vars, .sl (sls L) L.length], .sl (icells c) c.length] [] (.bool (folB L c)) [] := by
  have hlc := clB_len hcc
  have hnl := ngL_len c
  have hnc := ngL_cl hcc
  have hsc := clB_sm hcc
  refine ACall.intro Tryz.func42 rfl (N := 17) rfl (by decide) (by simp) ?_
  refine a_seq ?_
  refine a_region ?_
  refine r_new (v := .op [.int _ _, .sl _ _]) (q_box (.inl rfl) rfl rfl) rfl rfl (by decide) ?_
  refine r_val (v := .bool _) (v_assign (.inl rfl) (noOwn_flat rfl)) rfl rfl (by decide) ?_
  refine r_nil ?_
  refine a_seq ?_
  refine a_region_any mixed (by kernel_rfl) ?_
  refine y_val (v := .agg [.int _ _, .sl _ _]) (v_load_rpa1 ta30 (.inl rfl) rfl rfl (fun _ => rfl) rfl) rfl rfl (by decide) (by kernel_rfl) ?_
  refine y_val (v := .sl _ _) (v_move (.inl rfl) (noOwn_flat rfl)) rfl rfl (by decide) (by kernel_rfl) ?_
  refine y_new (v := .osl _ _ _ _) (q_call (vs := [.sl _ _]) (args := [.sl _ _]) hb32 ⟨.inl rfl, trivial⟩ rfl (fun hA => deny_c c hsc (by omega)) (ic_noSh _) (ic_noRef _)) rfl rfl (by decide) (by kernel_rfl) ?_
  refine y_new (v := .tup [.osl _ _ _ _, .osl _ _ _ _, .bool _]) (q_call (vs := [.agg [.int _ _, .sl _ _], .rsl _ _ _ _ _]) (args := [.agg [.int .i64 _, .sl _ _], .sl _ _]) hb31 ⟨.inl rfl, .inl rfl, trivial⟩ (l2_eq rfl (sl_sh (ic_pure _))) (fun hA => sProp_c vars L (ngL c) hcl hL (by omega) hnc) (by simp [noSh, noShL, ic_noSh, tc_noSh]) (by simp [noRef, noRefL, ic_noRef, tc_noRef])) rfl rfl (by decide) (by kernel_rfl) ?_
  refine y_val (v := .tup [.rsl _ _ _ _ _, .rsl _ _ _ _ _, .bool _]) (v_mv rfl) rfl rfl (by decide) (by kernel_rfl) ?_
  refine y_val (v := .rsl _ _ _ _ _) (v_extract rfl rfl) rfl rfl (by decide) (by kernel_rfl) ?_
  refine y_val (v := .rsl _ _ _ _ _) (v_extract rfl rfl) rfl rfl (by decide) (by kernel_rfl) ?_
  refine y_val (v := .bool _) (v_extract rfl rfl) rfl rfl (by decide) (by kernel_rfl) ?_
  refine y_val (v := .rsl _ _ _ _ _) (v_assign (.inl rfl) (noOwn_flat rfl)) rfl rfl (by decide) (by kernel_rfl) ?_
  refine y_val (v := .rsl _ _ _ _ _) (v_assign (.inl rfl) (noOwn_flat rfl)) rfl rfl (by decide) (by kernel_rfl) ?_
  refine y_val (v := .bool _) (v_assign (.inl rfl) (noOwn_flat rfl)) rfl rfl (by decide) (by kernel_rfl) ?_
  refine y_nil ?_
  refine a_seq ?_
  refine a_pre (ent_reloc_sl (t := 5) rfl rfl) ?_
  refine a_pre (ent_reloc_sl (t := 6) rfl rfl) ?_
  refine a_region ?_
  refine r_val (v := .bool _) (v_move (.inl rfl) (noOwn_flat rfl)) rfl rfl (by decide) ?_
  refine r_val (v := .bool _) (v_assign (.inl rfl) (noOwn_flat rfl)) rfl rfl (by decide) ?_
  refine r_nil ?_
  refine a_ret ?_
  refine ret1 Tryz.results42 (by decide) (by decide) (Weak.of_eq (bool_eq ?_)) rfl Leaves.nil
  rfl
end Go.Av
namespace Go.Av
open Go Go.Proofs Go.Sort
set_option maxRecDepth 10000
theorem mkC_full {k : Int} {cs : List AV} {m : Nat} (h : cs.length = m) : mkC k cs m = icells (mkI k m) := by
  subst h
  simp [mkC, mkI, icells]


theorem markA2_c (xs : List (Int × Int)) (k : Int) (h : -9000000000000000000 ≤ k ∧ k + 2 * xs.length ≤ 9223372036854775807) : ACall Tryz.prog 15 [.rsl (INH, []) 2 0 xs.length none, .int .i64 k] [.osl 2 (tcells xs) xs.length none] (.int .i64 (k + 2 * xs.length)) [.osl 2 (icells (mkI k (xs.length * 2))) xs.length none] := by
  refine ACall.intro Tryz.func15 rfl (N := 26) rfl (by decide) (by simp) ?_
  refine a_seq ?_
  refine a_region ?_
  refine r_val (v := .int _ _) (v_assign (.inl rfl) (noOwn_flat rfl)) rfl rfl (by decide) ?_
  refine r_nil ?_
  refine a_seq ?_
  refine a_seq ?_
  refine a_region ?_
  refine r_val (v := .int _ _) (v_assign (.inl rfl) (noOwn_flat rfl)) rfl rfl (by decide) ?_
  refine r_nil ?_
  refine a_block ?_
  refine a_loop (X := Nat) (fun i => look [(0, .rsl (INH, []) 2 0 xs.length none), (1, .int .i64 (k + 2 * (i : Nat))), (5, .int .i64 (i : Int)), (INH, .osl 2 (mkC k (tcells xs) (i * 2)) xs.length none)]) (fun i => i ≤ xs.length) (fun i => xs.length - i) 0 (ent_look ⟨Weak.of_eq rfl, Weak.of_eq (int_eq (by omega)), Weak.of_eq rfl, Weak.of_eq (osl_eq (by rw [Nat.zero_mul, mkC_zero])), trivial⟩) (Nat.zero_le _) (fun i hG => ?_)
  refine a_seq ?_
  refine a_seq ?_
  refine a_region ?_
  refine r_val (v := .int _ _) (v_move (.inl rfl) (noOwn_flat rfl)) rfl rfl (by decide) ?_
  refine r_val (v := .rsl _ _ _ _ _) (v_move (.inl rfl) (noOwn_flat rfl)) rfl rfl (by decide) ?_
  refine r_val (v := .int _ _) (v_len_rsl sl27 (.inl rfl)) rfl rfl (by decide) ?_
  refine r_val (v := .bool _) (v_lss (.inl rfl) (.inl rfl)) rfl rfl (by decide) ?_
  refine r_nil ?_
  refine a_cond rfl (fun ht10 => ?_) (fun ht10 => ?_)
  ·
    skip
    refine a_skip ?_
    refine a_seq ?_
    refine a_block ?_
    refine a_seq ?_
    have hi : i < xs.length := (by simp at ht10; omega)
    refine a_region ?_
    refine r_val (v := .int _ _) (v_assign (.inl rfl) (noOwn_flat rfl)) rfl rfl (by decide) ?_
    refine r_nil ?_
    refine a_block ?_
    refine a_loop (X := Nat) (fun j => look [(0, .rsl (INH, []) 2 0 xs.length none), (1, .int .i64 (k + 2 * (i : Nat) + (j : Nat))), (5, .int .i64 (i : Int)), (6, .int .i64 ((j : Nat) : Int)), (INH, .osl 2 (mkC k (tcells xs) (i * 2 + j)) xs.length none)]) (fun j => j ≤ 2) (fun j => 2 - j) 0 (ent_look ⟨Weak.of_eq rfl, Weak.of_eq (int_eq (by omega)), Weak.of_eq rfl, Weak.of_eq rfl, Weak.of_eq (osl_eq (by rw [Nat.add_zero])), trivial⟩) (by omega) (fun j hG => ?_)
    refine a_seq ?_
    refine a_seq ?_
    refine a_region ?_
    refine r_val (v := .int _ _) (v_move (.inl rfl) (noOwn_flat rfl)) rfl rfl (by decide) ?_
    refine r_val (v := .bool _) (v_lss (.inl rfl) (.inl rfl)) rfl rfl (by decide) ?_
    refine r_nil ?_
    refine a_cond rfl (fun ht14 => ?_) (fun ht14 => ?_)
    ·
      skip
      refine a_skip ?_
      refine a_seq ?_
      refine a_block ?_
      refine a_seq ?_
      have hj : j < 2 := (by simp at ht14; omega)
      have hml : (mkC k (tcells xs) (i * 2 + j)).length = xs.length * 2 := (by rw [mkC_length (by rw [tcells_length]; omega), tcells_length])
      have hpl : i * 2 + j * 1 + 1 ≤ (mkC k (tcells xs) (i * 2 + j)).length := (by rw [hml]; omega)
      have hset : (mkC k (tcells xs) (i * 2 + j)).set (i * 2 + j * 1) (.int .i64 (k + 2 * (i : Nat) + (j : Nat))) = mkC k (tcells xs) (i * 2 + (j + 1)) := (by rw [Nat.mul_one, ← Nat.add_assoc, ← mkC_set (by rw [tcells_length]; omega)]; congr 2; omega)
      refine a_region ?_
      refine r_val (v := .rsl _ _ _ _ _) (v_move (.inl rfl) (noOwn_flat rfl)) rfl rfl (by decide) ?_
      refine r_val (v := .int _ _) (v_move (.inl rfl) (noOwn_flat rfl)) rfl rfl (by decide) ?_
      refine r_val (v := .int _ _) (v_move (.inl rfl) (noOwn_flat rfl)) rfl rfl (by decide) ?_
      refine r_val (v := .int _ _) (v_move (.inl rfl) (noOwn_flat rfl)) rfl rfl (by decide) ?_
      refine r_val (v := .rp _ _) (v_indexAddr_rsl0 es27 (.inl rfl) (.inl rfl) (fun _ => by omega)) rfl rfl (by decide) ?_
      refine r_val (v := .rp _ _) (v_indexAddr_rpa az47 (.inl rfl) (.inl rfl) (fun _ => by omega)) rfl rfl (by decide) ?_
      refine r_step rfl (o_store (v := .int _ _) (y' := .osl _ _ _ _) rfl rfl ta3 (.inl rfl) (.inl rfl) rfl rfl rfl rfl rfl rfl hpl (by decide) rfl (congrArg (fun c => AV.osl 2 c xs.length none) hset)) ?_
      refine r_nil ?_
      refine a_region ?_
      refine r_val (v := .int _ _) (v_move (.inl rfl) (noOwn_flat rfl)) rfl rfl (by decide) ?_
      refine r_val (v := .int _ _) (v_add (.inl rfl) (.inl rfl) (fun _ => by omega)) rfl rfl (by decide) ?_
      refine r_val (v := .int _ _) (v_assign (.inl rfl) (noOwn_flat rfl)) rfl rfl (by decide) ?_
      refine r_nil ?_
      refine a_region ?_
      refine r_val (v := .int _ _) (v_move (.inl rfl) (noOwn_flat rfl)) rfl rfl (by decide) ?_
      refine r_val (v := .int _ _) (v_add (.inl rfl) (.inl rfl) (fun _ => by omega)) rfl rfl (by decide) ?_
      refine r_val (v := .int _ _) (v_assign (.inl rfl) (noOwn_flat rfl)) rfl rfl (by decide) ?_
      refine r_nil ?_
      refine ⟨j + 1, ent_look ⟨Weak.of_eq rfl, Weak.of_eq (int_eq (by omega)), Weak.of_eq rfl, Weak.of_eq (int_eq (by omega)), Weak.of_eq rfl, trivial⟩, by omega, by omega⟩
    ·
      skip
      refine a_exit ?_
      refine a_region ?_
      refine r_val (v := .int _ _) (v_move (.inl rfl) (noOwn_flat rfl)) rfl rfl (by decide) ?_
      refine r_val (v := .int _ _) (v_add (.inl rfl) (.inl rfl) (fun _ => by omega)) rfl rfl (by decide) ?_
      refine r_val (v := .int _ _) (v_assign (.inl rfl) (noOwn_flat rfl)) rfl rfl (by decide) ?_
      refine r_nil ?_
      refine ⟨i + 1, ent_look ⟨Weak.of_eq rfl, Weak.of_eq (int_eq (by simp at ht14; omega)), Weak.of_eq (int_eq (by omega)), Weak.of_eq (osl_eq (by rw [show (i + 1) * 2 = i * 2 + j by simp at ht14; omega])), trivial⟩, by omega, by omega⟩
  ·
    skip
    refine a_exit ?_
    refine a_seq ?_
    refine a_region ?_
    refine r_val (v := .int _ _) (v_move (.inl rfl) (noOwn_flat rfl)) rfl rfl (by decide) ?_
    refine r_val (v := .int _ _) (v_assign (.inl rfl) (noOwn_flat rfl)) rfl rfl (by decide) ?_
    refine r_nil ?_
    refine a_ret ?_
    refine ret1 Tryz.results15 (by decide) (by decide) (Weak.of_eq (int_eq ?_)) rfl (Leaves.one (Weak.of_eq (osl_eq (by simp at ht10; rw [show i = xs.length by omega, mkC_full (tcells_length xs)]))) rfl)
    simp at ht10; omega

theorem heldA2_c (n : Nat) (k : Int) (h : -9000000000000000000 ≤ k ∧ k + 2 * n ≤ 9223372036854775807) : ACall Tryz.prog 16 [.sl (icells (mkI k (n * 2))) n, .int .i64 k] [] (.int .i64 (k + 2 * n)) [] := by
  refine ACall.intro Tryz.func16 rfl (N := 28) rfl (by decide) (by simp) ?_
  refine a_seq ?_
  refine a_region ?_
  refine r_val (v := .int _ _) (v_assign (.inl rfl) (noOwn_flat rfl)) rfl rfl (by decide) ?_
  refine r_nil ?_
  refine a_seq ?_
  refine a_seq ?_
  refine a_region ?_
  refine r_val (v := .int _ _) (v_assign (.inl rfl) (noOwn_flat rfl)) rfl rfl (by decide) ?_
  refine r_nil ?_
  refine a_block ?_
  refine a_loop (X := Nat) (fun i => look [(0, .sl (icells (mkI k (n * 2))) n), (1, .int .i64 (k + 2 * (i : Nat))), (5, .int .i64 ((i : Nat) : Int))]) (fun i => i ≤ n) (fun i => n - i) 0 (ent_look ⟨Weak.of_eq rfl, Weak.of_eq (int_eq (by omega)), Weak.of_eq rfl, trivial⟩) (Nat.zero_le _) (fun i hG => ?_)
  refine a_seq ?_
  refine a_seq ?_
  refine a_region ?_
  refine r_val (v := .int _ _) (v_move (.inl rfl) (noOwn_flat rfl)) rfl rfl (by decide) ?_
  refine r_val (v := .sl _ _) (v_move (.inl rfl) (noOwn_flat rfl)) rfl rfl (by decide) ?_
  refine r_val (v := .int _ _) (v_len_sl sl27 (.inl rfl)) rfl rfl (by decide) ?_
  refine r_val (v := .bool _) (v_lss (.inl rfl) (.inl rfl)) rfl rfl (by decide) ?_
  refine r_nil ?_
  refine a_cond rfl (fun ht10 => ?_) (fun ht10 => ?_)
  ·
    skip
    refine a_skip ?_
    refine a_seq ?_
    refine a_block ?_
    refine a_seq ?_
    have hi : i < n := (by simp at ht10; omega)
    refine a_region ?_
    refine r_val (v := .int _ _) (v_assign (.inl rfl) (noOwn_flat rfl)) rfl rfl (by decide) ?_
    refine r_nil ?_
    refine a_block ?_
    refine a_loop (X := Nat) (fun j => look [(0, .sl (icells (mkI k (n * 2))) n), (1, .int .i64 (k + 2 * (i : Nat) + (j : Nat))), (5, .int .i64 ((i : Nat) : Int)), (6, .int .i64 ((j : Nat) : Int))]) (fun j => j ≤ 2) (fun j => 2 - j) 0 (ent_look ⟨Weak.of_eq rfl, Weak.of_eq (int_eq (by omega)), Weak.of_eq rfl, Weak.of_eq rfl, trivial⟩) (by omega) (fun j hG => ?_)
    refine a_seq ?_
    refine a_seq ?_
    refine a_region ?_
    refine r_val (v := .int _ _) (v_move (.inl rfl) (noOwn_flat rfl)) rfl rfl (by decide) ?_
    refine r_val (v := .bool _) (v_lss (.inl rfl) (.inl rfl)) rfl rfl (by decide) ?_
    refine r_nil ?_
    refine a_cond rfl (fun ht14 => ?_) (fun ht14 => ?_)
    ·
      skip
      refine a_skip ?_
      refine a_seq ?_
      refine a_block ?_
      refine a_seq ?_
      refine a_seq ?_
      have hj : j < 2 := (by simp at ht14; omega)
      have hmg := icells_get (gd_get (show i * 2 + j < (mkI k (n * 2)).length by rw [mkI_length]; omega))
      rw [mkI_get (by omega)] at hmg
      refine a_region ?_
      refine r_val (v := .sl _ _) (v_move (.inl rfl) (noOwn_flat rfl)) rfl rfl (by decide) ?_
      refine r_val (v := .int _ _) (v_move (.inl rfl) (noOwn_flat rfl)) rfl rfl (by decide) ?_
      refine r_val (v := .int _ _) (v_move (.inl rfl) (noOwn_flat rfl)) rfl rfl (by decide) ?_
      refine r_val (v := .pp _ _) (v_indexAddr_sl es27 (.inl rfl) (.inl rfl) (fun _ => ⟨by omega, by omega, icells_ne (show i * 2 + j < (mkI k (n * 2)).length by rw [mkI_length]; omega)⟩)) rfl rfl (by decide) ?_
      refine r_val (v := .pp _ _) (v_indexAddr_ppa az47 (.inl rfl) (.inl rfl) (fun _ => by omega)) rfl rfl (by decide) ?_
      refine r_val (v := .int .i64 (k + 2 * (i : Nat) + (j : Nat))) (v_load_pp ta3 (.inl rfl) (fun _ => by rw [show ((i : Nat) : Int).toNat * 2 + ((j : Nat) : Int).toNat * 1 = i * 2 + j by omega]; exact hmg.trans (congrArg (fun z => some (AV.int .i64 z)) (by omega))) rfl) rfl rfl (by decide) ?_
      refine r_val (v := .int _ _) (v_move (.inl rfl) (noOwn_flat rfl)) rfl rfl (by decide) ?_
      refine r_val (v := .bool _) (v_neq (.inl rfl) (.inl rfl)) rfl rfl (by decide) ?_
      refine r_nil ?_
      refine a_cond rfl (fun ht24 => ?_) (fun ht24 => ?_)
      ·
        skip
        refine a_seq ?_
        refine a_region ?_
        refine r_val (v := .int _ _) (v_assign (.inl rfl) (noOwn_flat rfl)) rfl rfl (by decide) ?_
        refine r_nil ?_
        refine a_ret ?_
        refine ret1 Tryz.results16 (by decide) (by decide) (Weak.of_eq (int_eq ?_)) rfl Leaves.nil
        exfalso; simp at ht24
      ·
        skip
        refine a_skip ?_
        refine a_region ?_
        refine r_val (v := .int _ _) (v_move (.inl rfl) (noOwn_flat rfl)) rfl rfl (by decide) ?_
        refine r_val (v := .int _ _) (v_add (.inl rfl) (.inl rfl) (fun _ => by omega)) rfl rfl (by decide) ?_
        refine r_val (v := .int _ _) (v_assign (.inl rfl) (noOwn_flat rfl)) rfl rfl (by decide) ?_
        refine r_nil ?_
        refine a_region ?_
        refine r_val (v := .int _ _) (v_move (.inl rfl) (noOwn_flat rfl)) rfl rfl (by decide) ?_
        refine r_val (v := .int _ _) (v_add (.inl rfl) (.inl rfl) (fun _ => by omega)) rfl rfl (by decide) ?_
        refine r_val (v := .int _ _) (v_assign (.inl rfl) (noOwn_flat rfl)) rfl rfl (by decide) ?_
        refine r_nil ?_
        refine ⟨j + 1, ent_look ⟨Weak.of_eq rfl, Weak.of_eq (int_eq (by omega)), Weak.of_eq rfl, Weak.of_eq (int_eq (by omega)), trivial⟩, by omega, by omega⟩
    ·
      skip
      refine a_exit ?_
      refine a_region ?_
      refine r_val (v := .int _ _) (v_move (.inl rfl) (noOwn_flat rfl)) rfl rfl (by decide) ?_
      refine r_val (v := .int _ _) (v_add (.inl rfl) (.inl rfl) (fun _ => by omega)) rfl rfl (by decide) ?_
      refine r_val (v := .int _ _) (v_assign (.inl rfl) (noOwn_flat rfl)) rfl rfl (by decide) ?_
      refine r_nil ?_
      refine ⟨i + 1, ent_look ⟨Weak.of_eq rfl, Weak.of_eq (int_eq (by simp at ht14; omega)), Weak.of_eq (int_eq (by omega)), trivial⟩, by omega, by omega⟩
  ·
    skip
    refine a_exit ?_
    refine a_seq ?_
    refine a_region ?_
    refine r_val (v := .int _ _) (v_move (.inl rfl) (noOwn_flat rfl)) rfl rfl (by decide) ?_
    refine r_val (v := .int _ _) (v_assign (.inl rfl) (noOwn_flat rfl)) rfl rfl (by decide) ?_
    refine r_nil ?_
    refine a_ret ?_
    refine ret1 Tryz.results16 (by decide) (by decide) (Weak.of_eq (int_eq ?_)) rfl Leaves.nil
    simp at ht10; omega
end Go.Av
namespace Go.Av
open Go Go.Proofs Go.Sort
set_option maxRecDepth 10000



end Go.Av
namespace Go.Av
open Go Go.Proofs Go.Sort
set_option maxRecDepth 10000



end Go.Av
namespace Go.Av
open Go Go.Proofs Go.Sort
set_option maxRecDepth 10000



end Go.Av
namespace Go.Av
open Go
section
variable {P : Program} {N : Nat} {A : Bool} {σ τ : Sig} {ty : TypeId}
variable {e : Ctx} {val : Nat → Value} {w : World} {β : Place → Option (Nat × Nat)} {F : Nat → Prop} {x : AV} {d : Nat}

/-- A slot's owned memory is frozen, where it is new. -/
theorem Inv.freeze (h : Inv e (upd τ d x) val w β F) (hf : ∀ r y b s, node x r = some y → y.isOwn = true → β (d, r) = some (b, s) → e.w0.heap.size ≤ b) :
    Inv e (upd τ d (sh x)) val w β (fun b => F b ∨ ∃ r y s, node x r = some y ∧ y.isOwn = true ∧ β (d, r) = some (b, s)) := by
  have own : ∀ q, OwnAt (upd τ d (sh x)) q → q.1 ≠ d ∧ OwnAt (upd τ d x) q := fun q hq => by
    by_cases hi : q.1 = d
    · obtain ⟨y, hy, ho⟩ := hq
      rw [hi, upd_same] at hy
      rw [pure_own (pure_sh x) hy] at ho; cases ho
    · exact ⟨hi, (own_upd_other hi).2 ((own_upd_other hi).1 hq)⟩
  have hx := h.rep d
  rw [upd_same] at hx
  have ownx : ∀ r y, node x r = some y → y.isOwn = true → OwnAt (upd τ d x) (d, r) := fun r y hy ho => ⟨y, by rw [upd_same]; exact hy, ho⟩
  refine ⟨fun i => ?_, fun q q' b s s' hq hq' => h.disj q q' b s s' (own q hq).2 (own q' hq').2, fun q b s hq hb => ⟨?_, (h.sep q b s (own q hq).2 hb).2⟩, fun b hb => ?_, h.kept, h.grow, h.tame⟩
  · by_cases hi : i = d
    · subst hi
      rw [upd_same]
      exact hx.sh x (fun b hb => .inl hb) (fun r y b s hy ho hb => .inr ⟨r, y, s, hy, ho, by simpa using hb⟩)
    · have := h.rep i
      rw [upd_other _ _ hi] at this ⊢
      exact this.tr _ (fun b hb => ⟨.inl hb, rfl⟩) (fun _ _ _ _ => ⟨rfl, fun _ _ _ => rfl⟩) (fun _ _ => rfl)
  · rintro (hF | ⟨r, y, s', hy, ho, hb'⟩)
    · exact (h.sep q b s (own q hq).2 hb).1 hF
    · have := h.disj q (d, r) b s s' (own q hq).2 (ownx r y hy ho) hb hb'
      exact (own q hq).1 (by rw [this])
  · rcases hb with hb | ⟨r, y, s, hy, ho, hb⟩
    · exact h.fr b hb
    · refine ⟨h.own_lt (ownx r y hy ho) hb, fun hlt => ?_⟩
      have := hf r y b s hy ho hb
      omega

/-- A slice literal, frozen. -/
theorem q_sliceLitZ {t n sz : Nat} {zs cs : List AV} {parts : List (Nat × Operand)} (h : litTy P t = some (sz, zs)) (hsm : Nat.ble (n * sz) 16777216 = true)
    (hf : fillA (fun i => some (i * sz, sz)) (rep n zs) (parts.map fun x => (x.1, rd N σ x.2)) = some cs) (hl : Nat.beq cs.length (n * sz) = true) (hp : pureL cs = true) :
    QSem P N A (sliceLit t n parts) ty σ (slotsL (parts.map (·.2))) (.sl (shL cs) n) := by
  intro hA σ' hD gv e a w β F hi d o ho hty K Q hK
  obtain ⟨el, arr0, harr, hrun⟩ := run_lit h (Nat.le_of_ble_eq_true hsm)
  obtain ⟨cells, he, hc1, hc2, hc3⟩ := fill_spec (β := β) (F := F) (w := w) (parts.map fun x => (x.1, rd N σ x.2)) (parts.map fun x => (x.1, a.eval x.2)) _ arr0 cs (harr β F w) (by simp)
      (fun j i v hj => by
        rw [List.getElem?_map] at hj
        cases hp : parts[j]? with
        | none => rw [hp] at hj; cases hj
        | some x =>
          rw [hp] at hj
          simp only [Option.map_some, Option.some.injEq, Prod.mk.injEq] at hj
          obtain ⟨rfl, rfl⟩ := hj
          refine ⟨noOwn_rd _, a.eval x.2, (0, []), by rw [List.getElem?_map, hp]; rfl, ?_⟩
          have := rd_rep hi x.2 (0, [])
          rwa [rd_agree (fun i hi' => hD i (List.mem_flatMap.2 ⟨x.2, List.mem_map.2 ⟨x, List.mem_of_getElem? hp, rfl⟩, hi'⟩))] at this) hf
  have hr := hrun (parts.map fun x => (x.1, a.eval x.2)).toArray cells w (by simpa using he)
  obtain ⟨β', h'⟩ := hi.new_osl (us := cells.toList) (by simpa using hc1) hc3 hp el d (arr := cells) (sz := sz) (n := n) (capv := n) (cap := some n) (fun j x hx => hx) (by rw [hc1]; exact Nat.eq_of_beq_eq_true hl) (Nat.le_refl _) (fun c hc => by cases hc; rfl)
  have hfz := h'.freeze (fun r y b s hy hyo hb => by
    cases r with
    | nil =>
      have hrep := h'.rep d
      rw [upd_same, upd_same] at hrep
      simp only [Rep] at hrep
      rcases hrep with ⟨h1, _⟩ | ⟨_, b', _, _, _, h1, h2, _⟩
      · rw [h1] at hb; cases hb
      · rw [h1] at hb; cases hb
        simp only [Value.slice.injEq, Option.some.injEq, Addr.mk.injEq] at h2
        have := hi.grow
        omega
    | cons j r =>
      simp only [node, kids] at hy
      cases hc : cs[j]? with
      | none => rw [hc] at hy; cases hy
      | some c =>
        rw [hc] at hy
        rw [pure_own (pureL_mem hp (List.mem_of_getElem? hc)) hy] at hyo; cases hyo)
  refine wp_value (v := .slice (some ⟨w.heap.size, 0, none⟩) n n) (w' := w.alloc (.cells cells el)) ?_ (hK _ _ ⟨β', _, hfz⟩)
  simp only [execOp, ho, sliceLit, List.map_toArray, hr, Sem.run_bind, Sem.run_pure, Result.andThen_ok]

end
end Go.Av
namespace Go.Av
open Go
def listB (vars : Int) (L M : List (List Int)) : Bool := cnfB vars L && (decide ((M.length : Int) ≤ 60) && !(List.range M.length).any fun i => !clB vars (gl M i))
theorem listB_spec {vars : Int} {L M : List (List Int)} (h : listB vars L M = true) : cnfB vars L = true ∧ M.length ≤ 60 ∧ ∀ i, i < M.length → clB vars (gl M i) = true := by
  simp only [listB, Bool.and_eq_true, decide_eq_true_eq, Bool.not_eq_true', List.any_eq_false] at h
  exact ⟨h.1, by omega, fun i hi => by have := h.2.2 i (by simpa using hi); simpa using this⟩
theorem listB_no {vars : Int} {L M : List (List Int)} {i : Nat} (hi : i < M.length) (h : clB vars (gl M i) = false) : listB vars L M = false := by
  unfold listB
  rw [show ((List.range M.length).any fun i => !clB vars (gl M i)) = true from List.any_eq_true.2 ⟨i, by simpa using hi, by simp [h]⟩]; simp
theorem listB_yes {vars : Int} {L M : List (List Int)} (hc : cnfB vars L = true) (hM : (M.length : Int) ≤ 60) (h : ∀ i, i < M.length → clB vars (gl M i) = true) : listB vars L M = true := by
  unfold listB
  rw [hc, decide_eq_true hM, show ((List.range M.length).any fun i => !clB vars (gl M i)) = false from List.any_eq_false.2 fun i hi => by simp [h i (by simpa using hi)]]; rfl
theorem gl_app {L M : List (List Int)} {i : Nat} : gl (L ++ M) i = if i < L.length then gl L i else gl M (i - L.length) := by
  unfold gl
  split
  · rename_i h; rw [List.getElem?_append_left h]
  · rename_i h; rw [List.getElem?_append_right (by omega)]
theorem gl_tk {M : List (List Int)} {k i : Nat} (h : i < k) : gl (M.take k) i = gl M i := by unfold gl; rw [List.getElem?_take_of_lt h]
/-- The clauses of a formula, and behind them those of a list ahead of k. -/
theorem bef_cl {vars : Int} {L M : List (List Int)} (h : listB vars L M = true) (k : Nat) : ∀ i, i < (L ++ M.take k).length → clB vars (gl (L ++ M.take k) i) = true := fun i hi => by
  obtain ⟨h1, h2, h3⟩ := listB_spec h
  rw [gl_app]
  rw [List.length_append, List.length_take] at hi
  split
  · rename_i hl; exact (cnfB_spec h1).2.2 i hl
  · rw [gl_tk (by omega)]; exact h3 _ (by omega)
theorem bef_len (L M : List (List Int)) (k : Nat) : (L ++ M.take k).length ≤ L.length + M.length := by rw [List.length_append, List.length_take]; omega
def folU (L M : List (List Int)) (k : Nat) : Bool := folB (L ++ M.take k) (gl M k)
def fstU (L M : List (List Int)) : Int := fidx (fun k => !folU L M k) M.length
theorem fstU_found {L M : List (List Int)} {k : Nat} (hk : k < M.length) (h : folU L M k = false) (hn : ∀ j, j < k → folU L M j = true) : fstU L M = k := fidx_found (p := fun k => !folU L M k) hk (by simp [h]) (fun j hj => by simp [hn j hj])
theorem fstU_none {L M : List (List Int)} (hn : ∀ j, j < M.length → folU L M j = true) : fstU L M = -1 := fidx_none (p := fun k => !folU L M k) (fun j hj => by simp [hn j hj])
def sel2 (A B : List (List Int)) (i : Nat) : List (List Int) := if i = 0 then A else B
def P2 (A B : List (List Int)) (i : Nat) : List (List Int) := if i = 0 then [] else if i = 1 then A else A ++ B
theorem P2_succ {A B : List (List Int)} {i : Nat} (h : i < 2) : P2 A B (i + 1) = P2 A B i ++ sel2 A B i := by
  rcases (by omega : i = 0 ∨ i = 1) with rfl | rfl <;> simp [P2, sel2]
theorem P2_len (A B : List (List Int)) (i : Nat) : (P2 A B i).length ≤ A.length + B.length := by
  unfold P2; split
  · simp
  · split
    · omega
    · simp
theorem sel2_len (A B : List (List Int)) (i : Nat) : (sel2 A B i).length ≤ A.length + B.length := by unfold sel2; split <;> omega
end Go.Av
namespace Go.Av
open Go Go.Proofs Go.Sort
set_option maxRecDepth 10000
theorem ap22 : appTy Tryz.prog 22 = some (1, 24) := by kernel_rfl
theorem es74 : elemSize Tryz.prog 74 = some 1 := by kernel_rfl
theorem hb30 : hasBody Tryz.prog 30 = true := by kernel_rfl
theorem hb36 : hasBody Tryz.prog 36 = true := by kernel_rfl
theorem hb40 : hasBody Tryz.prog 40 = true := by kernel_rfl
theorem hb42 : hasBody Tryz.prog 42 = true := by kernel_rfl
theorem hb48 : hasBody Tryz.prog 48 = true := by kernel_rfl
theorem hb49 : hasBody Tryz.prog 49 = true := by kernel_rfl
theorem hb50 : hasBody Tryz.prog 50 = true := by kernel_rfl
theorem hb52 : hasBody Tryz.prog 52 = true := by kernel_rfl
theorem hb53 : hasBody Tryz.prog 53 = true := by kernel_rfl
theorem hb71 : hasBody Tryz.prog 71 = true := by kernel_rfl
theorem lt22 : litTy Tryz.prog 22 = some (1, [.nils]) := by kernel_rfl
theorem lt74 : litTy Tryz.prog 74 = some (1, [.nils]) := by kernel_rfl
theorem sl74 : isSlice Tryz.prog 74 = true := by kernel_rfl
theorem sp30 : structPl Tryz.prog 30 = some ([.int .i64 0, .nils], [(0, 1), (1, 1)]) := by kernel_rfl

theorem listOk1_c (vars : Int) (L : List (List Int)) (c : List Int) (hv : -9223372036854775808 ≤ vars ∧ vars ≤ 9223372036854775807) (hl : (c.length : Int) ≤ 9223372036854775807) (hb : ∀ j, -9223372036854775808 ≤ gd c j ∧ gd c j ≤ 9223372036854775807) : ACall Tryz.prog 50 [.sl (icells c) c.length, .pp [.int .i64 vars, .sl (sls L) L.length] 0] [] (.bool (!clB vars c)) [] := by
  refine ACall.intro Tryz.func50 rfl (N := 9) rfl (by decide) (by simp) ?_
  refine a_seq ?_
  refine a_region ?_
  refine r_val (v := .bool _) (v_assign (.inl rfl) (noOwn_flat rfl)) rfl rfl (by decide) ?_
  refine r_nil ?_
  refine a_seq ?_
  refine a_region ?_
  refine r_val (v := .pp _ _) (v_fieldAddr_pp fo30_0 (.inl rfl)) rfl rfl (by decide) ?_
  refine r_val (v := .int _ _) (v_load_pp ta3 (.inl rfl) (fun _ => rfl) rfl) rfl rfl (by decide) ?_
  refine r_val (v := .sl _ _) (v_move (.inl rfl) (noOwn_flat rfl)) rfl rfl (by decide) ?_
  refine r_new (v := .bool _) (q_call (vs := [.int _ _, .sl _ _]) (args := [.int .i64 _, .sl _ _]) hb51 ⟨.inl rfl, .inl rfl, trivial⟩ rfl (fun hA => isClause_c vars c hv hl hb) rfl rfl) rfl rfl (by decide) ?_
  refine r_val (v := .bool _) (v_not (.inl rfl)) rfl rfl (by decide) ?_
  refine r_val (v := .bool _) (v_assign (.inl rfl) (noOwn_flat rfl)) rfl rfl (by decide) ?_
  refine r_nil ?_
  refine a_ret ?_
  refine ret1 Tryz.results50 (by decide) (by decide) (Weak.of_eq (bool_eq ?_)) rfl Leaves.nil
  rfl

theorem listOk_c (vars : Int) (L M : List (List Int)) (hk : CnfOk vars L) (hm : CnfOk vars M) : ACall Tryz.prog 34 [.agg [.int .i64 vars, .sl (sls L) L.length], .sl (sls M) M.length] [] (.bool (listB vars L M)) [] := by
  have hbL := hb50
  have hk1 := hk.1
  have hm1 := hm.2.1
  have hm2 := hm.2.2.1
  refine ACall.intro Tryz.func34 rfl (N := 18) rfl (by decide) (by simp) ?_
  refine a_seq ?_
  refine a_region ?_
  refine r_new (v := .op [.int _ _, .sl _ _]) (q_box (.inl rfl) rfl rfl) rfl rfl (by decide) ?_
  refine r_val (v := .bool _) (v_assign (.inl rfl) (noOwn_flat rfl)) rfl rfl (by decide) ?_
  refine r_nil ?_
  refine a_seq ?_
  refine a_region ?_
  refine r_val (v := .agg [.int _ _, .sl _ _]) (v_load_rpa1 ta30 (.inl rfl) rfl rfl (fun _ => rfl) rfl) rfl rfl (by decide) ?_
  refine r_new (v := .bool _) (q_call (vs := [.agg [.int _ _, .sl _ _]]) (args := [.agg [.int .i64 _, .sl _ _]]) hb48 ⟨.inl rfl, trivial⟩ rfl (fun hA => isCnf_c vars L hk) rfl rfl) rfl rfl (by decide) ?_
  refine r_val (v := .bool _) (v_move (.inl rfl) (noOwn_flat rfl)) rfl rfl (by decide) ?_
  refine r_gval (v := .sl _ _) (v_move (.inl rfl) (noOwn_flat rfl)) rfl rfl rfl (by decide) (.inl ⟨_, rfl, rfl⟩) rfl (by decide) ?_
  refine r_gval (v := .int _ _) (v_len_sl sl22 (.inr ⟨_, rfl, fun h => h⟩)) rfl rfl rfl (by decide) (.inl ⟨_, rfl, rfl⟩) rfl (by decide) ?_
  refine r_gval (v := .bool _) (v_leq (.inr ⟨_, rfl, fun h => h⟩) (.inl rfl)) rfl rfl rfl (by decide) (.inl ⟨_, rfl, rfl⟩) rfl (by decide) ?_
  refine r_val (v := .bool _) (v_pick (.inl rfl) (.inr ⟨_, rfl, fun h h2 => by simp_all⟩) (.inl rfl)) rfl rfl (by decide) ?_
  refine r_val (v := .bool _) (v_move (.inl rfl) (noOwn_flat rfl)) rfl rfl (by decide) ?_
  refine r_gval (v := .sl _ _) (v_move (.inl rfl) (noOwn_flat rfl)) rfl rfl rfl (by decide) (.inl ⟨_, rfl, rfl⟩) rfl (by decide) ?_
  refine r_gval (v := .fn _ _ _) (v_makeFunc (first := []) (caps := [.tmp 2]) rfl rfl) rfl rfl rfl (by decide) (.inl ⟨_, rfl, rfl⟩) rfl (by decide) ?_
  refine r_guard (v := .bool _) (q_call (vs := [.sl _ _, .fn _ _ _]) (args := [.sl _ _, .fn _ _ _]) hb49 ⟨.inr ⟨_, rfl, fun h => h⟩, .inr ⟨_, rfl, fun h => h⟩, trivial⟩ rfl (fun hA => contL_c 50 [.pp [.int .i64 vars, .sl (sls L) L.length] 0] hbL rfl M (fun i => !clB vars (gl M i)) (by omega) (fun i hi => listOk1_c vars L (gl M i) hk1 (by have := len_tot (L := M) (i := i); omega) (fun j => hm.2.2.2 i j))) rfl rfl) rfl rfl rfl (by decide) (.inl ⟨_, rfl, rfl⟩) rfl (by decide) ?_
  refine r_gval (v := .bool _) (v_not (.inr ⟨_, rfl, fun h => h⟩)) rfl rfl rfl (by decide) (.inl ⟨_, rfl, rfl⟩) rfl (by decide) ?_
  refine r_val (v := .bool _) (v_pick (.inl rfl) (.inr ⟨_, rfl, fun h h2 => by simp_all⟩) (.inl rfl)) rfl rfl (by decide) ?_
  refine r_val (v := .bool _) (v_assign (.inl rfl) (noOwn_flat rfl)) rfl rfl (by decide) ?_
  refine r_nil ?_
  refine a_ret ?_
  refine ret1 Tryz.results34 (by decide) (by decide) (Weak.of_eq (bool_eq ?_)) rfl Leaves.nil
  unfold listB; cases cnfB vars L <;> cases decide ((M.length : Int) ≤ 60) <;> simp

theorem takes_c (vars : Int) (L M : List (List Int)) (hk : CnfOk vars L) (hm : CnfOk vars M) : ACall Tryz.prog 28 [.agg [.int .i64 vars, .sl (sls L) L.length], .sl (sls M) M.length] [] (.bool (listB vars L M)) [] := by
  have hk1 := hk.1
  have hm1 := hm.2.1
  have hm2 := hm.2.2.1
  refine ACall.intro Tryz.func28 rfl (N := 28) rfl (by decide) (by simp) ?_
  refine a_seq ?_
  refine a_region ?_
  refine r_new (v := .op [.int _ _, .sl _ _]) (q_box (.inl rfl) rfl rfl) rfl rfl (by decide) ?_
  refine r_val (v := .bool _) (v_assign (.inl rfl) (noOwn_flat rfl)) rfl rfl (by decide) ?_
  refine r_nil ?_
  refine a_seq ?_
  refine a_seq ?_
  refine a_region ?_
  refine r_val (v := .agg [.int _ _, .sl _ _]) (v_load_rpa1 ta30 (.inl rfl) rfl rfl (fun _ => rfl) rfl) rfl rfl (by decide) ?_
  refine r_new (v := .bool _) (q_call (vs := [.agg [.int _ _, .sl _ _]]) (args := [.agg [.int .i64 _, .sl _ _]]) hb40 ⟨.inl rfl, trivial⟩ rfl (fun hA => l2Good_c vars L hk) rfl rfl) rfl rfl (by decide) ?_
  refine r_val (v := .bool _) (v_not (.inl rfl)) rfl rfl (by decide) ?_
  refine r_val (v := .bool _) (v_move (.inl rfl) (noOwn_flat rfl)) rfl rfl (by decide) ?_
  refine r_gval (v := .sl _ _) (v_move (.inl rfl) (noOwn_flat rfl)) rfl rfl rfl (by decide) (.inl ⟨_, rfl, rfl⟩) rfl (by decide) ?_
  refine r_gval (v := .int _ _) (v_len_sl sl22 (.inr ⟨_, rfl, fun h => h⟩)) rfl rfl rfl (by decide) (.inl ⟨_, rfl, rfl⟩) rfl (by decide) ?_
  refine r_gval (v := .bool _) (v_gtr (.inr ⟨_, rfl, fun h => h⟩) (.inl rfl)) rfl rfl rfl (by decide) (.inl ⟨_, rfl, rfl⟩) rfl (by decide) ?_
  refine r_val (v := .bool _) (v_pick (.inl rfl) (.inl rfl) (.inr ⟨_, rfl, fun h h2 => by simp_all⟩)) rfl rfl (by decide) ?_
  refine r_nil ?_
  refine a_cond rfl (fun ht13 => ?_) (fun ht13 => ?_)
  ·
    skip
    refine a_seq ?_
    refine a_region ?_
    refine r_val (v := .bool _) (v_assign (.inl rfl) (noOwn_flat rfl)) rfl rfl (by decide) ?_
    refine r_nil ?_
    refine a_ret ?_
    refine ret1 Tryz.results28 (by decide) (by decide) (Weak.of_eq (bool_eq ?_)) rfl Leaves.nil
    unfold listB; cases h1 : cnfB vars L <;> simp_all <;> (intro h9; omega)
  ·
    skip
    refine a_skip ?_
    refine a_seq ?_
    refine a_seq ?_
    have hc : cnfB vars L = true ∧ (M.length : Int) ≤ 60 := (by cases h1 : cnfB vars L <;> simp_all)
    refine a_region ?_
    refine r_val (v := .int _ _) (v_assign (.inl rfl) (noOwn_flat rfl)) rfl rfl (by decide) ?_
    refine r_nil ?_
    refine a_block ?_
    refine a_loop (X := Nat) (fun i => look [(1, .sl (sls M) M.length), (2, .op [.int .i64 vars, .sl (sls L) L.length]), (5, .int .i64 ((i : Nat) : Int))]) (fun i => i ≤ M.length ∧ ∀ j, j < i → clB vars (gl M j) = true) (fun i => M.length - i) 0 (ent_look ⟨Weak.of_eq rfl, Weak.of_eq rfl, Weak.of_eq rfl, trivial⟩) ⟨Nat.zero_le _, fun j h => by omega⟩ (fun i hG => ?_)
    obtain ⟨g1, g2⟩ := hG
    have hmr := len_tot (L := M) (i := i)
    refine a_seq ?_
    refine a_seq ?_
    refine a_region ?_
    refine r_val (v := .int _ _) (v_move (.inl rfl) (noOwn_flat rfl)) rfl rfl (by decide) ?_
    refine r_val (v := .sl _ _) (v_move (.inl rfl) (noOwn_flat rfl)) rfl rfl (by decide) ?_
    refine r_val (v := .int _ _) (v_len_sl sl22 (.inl rfl)) rfl rfl (by decide) ?_
    refine r_val (v := .bool _) (v_lss (.inl rfl) (.inl rfl)) rfl rfl (by decide) ?_
    refine r_nil ?_
    refine a_cond rfl (fun ht17 => ?_) (fun ht17 => ?_)
    ·
      skip
      refine a_skip ?_
      refine a_seq ?_
      refine a_block ?_
      refine a_seq ?_
      have hi : i < M.length := (by simp at ht17; omega)
      refine a_region_any mixed (by kernel_rfl) ?_
      refine y_val (v := .rp _ _) (v_fieldAddr_rp fo30_0 (.inl rfl)) rfl rfl (by decide) (by kernel_rfl) ?_
      refine y_val (v := .int _ _) (v_load_rp1 ta3 (.inl rfl) rfl (fun _ => rfl) rfl) rfl rfl (by decide) (by kernel_rfl) ?_
      refine y_val (v := .sl _ _) (v_move (.inl rfl) (noOwn_flat rfl)) rfl rfl (by decide) (by kernel_rfl) ?_
      refine y_val (v := .int _ _) (v_move (.inl rfl) (noOwn_flat rfl)) rfl rfl (by decide) (by kernel_rfl) ?_
      refine y_val (v := .pp _ _) (v_indexAddr_sl es22 (.inl rfl) (.inl rfl) (fun _ => ⟨by omega, by omega, sls_ne hi⟩)) rfl rfl (by decide) (by kernel_rfl) ?_
      refine y_val (v := .sl (icells (gl M i)) (gl M i).length) (v_load_pp ta40 (.inl rfl) (fun _ => by rw [Nat.mul_one]; exact sls_get hi) rfl) rfl rfl (by decide) (by kernel_rfl) ?_
      refine y_new (v := .bool _) (q_call (vs := [.int _ _, .sl _ _]) (args := [.int .i64 _, .sl _ _]) hb41 ⟨.inl rfl, .inl rfl, trivial⟩ rfl (fun hA => l2Clause_c vars (gl M i) hk1 (by omega) (fun j => hm.2.2.2 i j)) rfl rfl) rfl rfl (by decide) (by kernel_rfl) ?_
      refine y_val (v := .bool _) (v_not (.inl rfl)) rfl rfl (by decide) (by kernel_rfl) ?_
      refine y_nil ?_
      refine a_cond rfl (fun ht27 => ?_) (fun ht27 => ?_)
      ·
        skip
        refine a_seq ?_
        have hno := listB_no (L := L) hi (by simpa using ht27)
        refine a_region ?_
        refine r_val (v := .bool _) (v_assign (.inl rfl) (noOwn_flat rfl)) rfl rfl (by decide) ?_
        refine r_nil ?_
        refine a_ret ?_
        refine ret1 Tryz.results28 (by decide) (by decide) (Weak.of_eq (bool_eq ?_)) rfl Leaves.nil
        rw [hno]
      ·
        skip
        refine a_skip ?_
        refine a_region ?_
        refine r_val (v := .int _ _) (v_move (.inl rfl) (noOwn_flat rfl)) rfl rfl (by decide) ?_
        refine r_val (v := .int _ _) (v_add (.inl rfl) (.inl rfl) (fun _ => by omega)) rfl rfl (by decide) ?_
        refine r_val (v := .int _ _) (v_assign (.inl rfl) (noOwn_flat rfl)) rfl rfl (by decide) ?_
        refine r_nil ?_
        refine ⟨i + 1, ent_look ⟨Weak.of_eq rfl, Weak.of_eq rfl, Weak.of_eq (int_eq (by omega)), trivial⟩, ⟨by omega, fun j h1 => by rcases Nat.lt_or_ge j i with h | h; exact g2 j h; (obtain rfl : j = i := by omega); simpa using ht27⟩, by omega⟩
    ·
      skip
      refine a_exit ?_
      refine a_seq ?_
      have hyes := listB_yes hc.1 hc.2 (fun j hj => g2 j (by simp at ht17; omega))
      refine a_region ?_
      refine r_val (v := .bool _) (v_assign (.inl rfl) (noOwn_flat rfl)) rfl rfl (by decide) ?_
      refine r_nil ?_
      refine a_ret ?_
      refine ret1 Tryz.results28 (by decide) (by decide) (Weak.of_eq (bool_eq ?_)) rfl Leaves.nil
      rw [hyes]

theorem growL_c (m : Nat) (h : m ≤ 8388608) : ACall Tryz.prog 71 [.nils, .int .i64 ((m : Nat) : Int)] [] (.osl 1 [] 0 none) [] := by
  refine ACall.intro Tryz.func71 rfl (N := 27) rfl (by decide) (by simp) ?_
  refine a_seq ?_
  refine a_region ?_
  refine r_val (v := .nils) (v_assign (.inl rfl) (noOwn_flat rfl)) rfl rfl (by decide) ?_
  refine r_nil ?_
  refine a_seq ?_
  refine a_seq ?_
  refine a_region ?_
  refine r_val (v := .int _ _) (v_move (.inl rfl) (noOwn_flat rfl)) rfl rfl (by decide) ?_
  refine r_val (v := .bool _) (v_lss (.inl rfl) (.inl rfl)) rfl rfl (by decide) ?_
  refine r_nil ?_
  refine a_cond rfl (fun ht6 => ?_) (fun ht6 => ?_)
  ·
    skip
    exfalso
    simp at ht6; omega
  ·
    skip
    refine a_skip ?_
    refine a_seq ?_
    refine a_seq ?_
    refine a_region ?_
    refine r_val (v := .int _ _) (v_move (.inl rfl) (noOwn_flat rfl)) rfl rfl (by decide) ?_
    refine r_val (v := .nils) (v_move (.inl rfl) (noOwn_flat rfl)) rfl rfl (by decide) ?_
    refine r_val (v := .int _ _) (v_cap_nils sl22 (.inl rfl)) rfl rfl (by decide) ?_
    refine r_val (v := .nils) (v_move (.inl rfl) (noOwn_flat rfl)) rfl rfl (by decide) ?_
    refine r_val (v := .int _ _) (v_len_nils sl22 (.inl rfl)) rfl rfl (by decide) ?_
    refine r_val (v := .int _ _) (v_sub (.inl rfl) (.inl rfl) (fun _ => by omega)) rfl rfl (by decide) ?_
    refine r_val (v := .int .i64 ((m : Nat) : Int)) ((v_sub (.inl rfl) (.inl rfl) (fun _ => by omega)).cast (int_eq (by omega))) rfl rfl (by decide) ?_
    refine r_val (v := .int _ _) (v_assign (.inl rfl) (noOwn_flat rfl)) rfl rfl (by decide) ?_
    refine r_nil ?_
    refine a_seq ?_
    refine a_region ?_
    refine r_val (v := .int _ _) (v_move (.inl rfl) (noOwn_flat rfl)) rfl rfl (by decide) ?_
    refine r_val (v := .bool _) (v_gtr (.inl rfl) (.inl rfl)) rfl rfl (by decide) ?_
    refine r_nil ?_
    refine a_cond rfl (fun ht16 => ?_) (fun ht16 => ?_)
    ·
      skip
      refine a_region ?_
      refine r_val (v := .nils) (v_move (.inl rfl) (noOwn_flat rfl)) rfl rfl (by decide) ?_
      refine r_val (v := .nils) (v_move (.inl rfl) (noOwn_flat rfl)) rfl rfl (by decide) ?_
      refine r_val (v := .int _ _) (v_cap_nils sl22 (.inl rfl)) rfl rfl (by decide) ?_
      refine r_val (v := .nils) (v_slice_nils (h := 0) es22 (.inl rfl) (.inr ⟨_, _, rfl, .inl rfl⟩) (fun _ => rfl)) rfl rfl (by decide) ?_
      refine r_val (v := .int _ _) (v_move (.inl rfl) (noOwn_flat rfl)) rfl rfl (by decide) ?_
      refine r_new (v := .osl _ _ _ _) (q_append_make ap22 uni3 (.inl (.inl rfl)) (.inl rfl) (fun _ => by simp at ht16; omega)) rfl rfl (by decide) ?_
      refine r_val (v := .nils) (v_move (.inl rfl) (noOwn_flat rfl)) rfl rfl (by decide) ?_
      refine r_val (v := .int _ _) (v_len_nils sl22 (.inl rfl)) rfl rfl (by decide) ?_
      refine r_val (v := .rsl (22, []) 1 0 0 none) ((v_slice_rsl (l := 0) (h := 0) es22 (.inl rfl) (.inl ⟨rfl, rfl⟩) (.inr ⟨_, _, rfl, .inl rfl⟩) (fun _ => by omega)).cast (rfl)) rfl rfl (by decide) ?_
      refine r_val (v := .rsl _ _ _ _ _) (v_assign (.inl rfl) (noOwn_flat rfl)) rfl rfl (by decide) ?_
      refine r_pre (ent_reloc_sl (t := 0) rfl rfl) ?_
      refine r_nil ?_
      refine a_seq ?_
      refine a_region ?_
      refine r_val (v := .rsl _ _ _ _ _) (v_move (.inl rfl) (noOwn_flat rfl)) rfl rfl (by decide) ?_
      refine r_val (v := .rsl _ _ _ _ _) (v_assign (.inl rfl) (noOwn_flat rfl)) rfl rfl (by decide) ?_
      refine r_pre (ent_reloc_sl (t := 4) rfl rfl) ?_
      refine r_nil ?_
      refine a_ret ?_
      refine ret1 Tryz.results71 (by decide) (by decide) (Weak.osl ?_ ?_) rfl Leaves.nil
      · rfl
      · rfl
    ·
      skip
      refine a_skip ?_
      refine a_seq ?_
      refine a_region ?_
      refine r_val (v := .nils) (v_move (.inl rfl) (noOwn_flat rfl)) rfl rfl (by decide) ?_
      refine r_val (v := .nils) (v_assign (.inl rfl) (noOwn_flat rfl)) rfl rfl (by decide) ?_
      refine r_nil ?_
      refine a_pre (ent_nil (t := 4) (sz := 1) (cap := none) (.inl rfl) (fun _ h => by cases h)) ?_
      refine a_ret ?_
      refine ret1 Tryz.results71 (by decide) (by decide) (Weak.osl ?_ ?_) rfl Leaves.nil
      · rfl
      · rfl

theorem concat2_c (A B : List (List Int)) (h : A.length + B.length ≤ 1048576) : ACall Tryz.prog 53 [.sl [.sl (sls A) A.length, .sl (sls B) B.length] 2] [] (.osl 1 (sls (A ++ B)) (A ++ B).length none) [] := by
  refine ACall.intro Tryz.func53 rfl (N := 36) rfl (by decide) (by simp) ?_
  refine a_seq ?_
  refine a_region ?_
  refine r_val (v := .nils) (v_assign (.inl rfl) (noOwn_flat rfl)) rfl rfl (by decide) ?_
  refine r_nil ?_
  refine a_seq ?_
  refine a_region ?_
  refine r_val (v := .int _ _) (v_assign (.inl rfl) (noOwn_flat rfl)) rfl rfl (by decide) ?_
  refine r_nil ?_
  refine a_seq ?_
  refine a_seq ?_
  refine a_region ?_
  refine r_val (v := .sl _ _) (v_move (.inl rfl) (noOwn_flat rfl)) rfl rfl (by decide) ?_
  refine r_val (v := .int _ _) (v_len_sl sl74 (.inl rfl)) rfl rfl (by decide) ?_
  refine r_val (v := .int _ _) (v_move (.inl rfl) (noOwn_flat rfl)) rfl rfl (by decide) ?_
  refine r_nil ?_
  refine a_block ?_
  refine a_loop (X := Nat) (fun i => look [(0, .sl [.sl (sls A) A.length, .sl (sls B) B.length] 2), (3, .int .i64 (((P2 A B i).length : Nat) : Int)), (9, .sl [.sl (sls A) A.length, .sl (sls B) B.length] 2), (10, .int .i64 ((2 : Nat) : Int)), (11, .int .i64 ((i : Nat) : Int))]) (fun i => i ≤ 2) (fun i => 2 - i) 0 (ent_look ⟨Weak.of_eq rfl, Weak.of_eq rfl, Weak.of_eq rfl, Weak.of_eq rfl, Weak.of_eq rfl, trivial⟩) (Nat.zero_le _) (fun i hG => ?_)
  have hpl := P2_len A B i
  have hsl := sel2_len A B i
  refine a_seq ?_
  refine a_region ?_
  refine r_val (v := .bool _) (v_lss (.inl rfl) (.inl rfl)) rfl rfl (by decide) ?_
  refine r_nil ?_
  refine a_seq ?_
  refine a_cond rfl (fun ht12 => ?_) (fun ht12 => ?_)
  ·
    skip
    refine a_skip ?_
    refine a_seq ?_
    refine a_block ?_
    refine a_seq ?_
    have hi : i < 2 := (by simp at ht12; omega)
    refine a_region ?_
    refine r_val (v := .pp _ _) (v_indexAddr_sl es74 (.inl rfl) (.inl rfl) (fun _ => ⟨by omega, by omega, by simp⟩)) rfl rfl (by decide) ?_
    refine r_val (v := .sl (sls (sel2 A B i)) (sel2 A B i).length) (v_load_pp ta22 (.inl rfl) (fun _ => by rcases (by omega : i = 0 ∨ i = 1) with rfl | rfl <;> rfl) rfl) rfl rfl (by decide) ?_
    refine r_val (v := .sl _ _) (v_assign (.inl rfl) (noOwn_flat rfl)) rfl rfl (by decide) ?_
    refine r_nil ?_
    refine a_seq ?_
    refine a_region ?_
    refine r_val (v := .int _ _) (v_move (.inl rfl) (noOwn_flat rfl)) rfl rfl (by decide) ?_
    refine r_val (v := .sl _ _) (v_move (.inl rfl) (noOwn_flat rfl)) rfl rfl (by decide) ?_
    refine r_val (v := .int _ _) (v_len_sl sl22 (.inl rfl)) rfl rfl (by decide) ?_
    refine r_val (v := .int .i64 (((P2 A B (i + 1)).length : Nat) : Int)) ((v_add (.inl rfl) (.inl rfl) (fun _ => by omega)).cast (int_eq (by rw [P2_succ hi, List.length_append]; omega))) rfl rfl (by decide) ?_
    refine r_val (v := .int _ _) (v_assign (.inl rfl) (noOwn_flat rfl)) rfl rfl (by decide) ?_
    refine r_nil ?_
    refine a_seq ?_
    refine a_region ?_
    refine r_val (v := .int _ _) (v_move (.inl rfl) (noOwn_flat rfl)) rfl rfl (by decide) ?_
    refine r_val (v := .bool _) (v_lss (.inl rfl) (.inl rfl)) rfl rfl (by decide) ?_
    refine r_nil ?_
    refine a_cond rfl (fun ht20 => ?_) (fun ht20 => ?_)
    ·
      skip
      exfalso
      first | (simp at ht20; done) | (simp at ht20; omega)
    ·
      skip
      refine a_skip ?_
      refine a_region ?_
      refine r_val (v := .int _ _) (v_add (.inl rfl) (.inl rfl) (fun _ => by omega)) rfl rfl (by decide) ?_
      refine r_val (v := .int _ _) (v_move (.inl rfl) (noOwn_flat rfl)) rfl rfl (by decide) ?_
      refine r_nil ?_
      refine ⟨i + 1, ent_look ⟨Weak.of_eq rfl, Weak.of_eq rfl, Weak.of_eq rfl, Weak.of_eq rfl, Weak.of_eq (int_eq (by omega)), trivial⟩, by omega, by omega⟩
  ·
    skip
    refine a_exit ?_
    refine a_seq ?_
    have hie : i = 2 := (by simp at ht12; omega)
    refine a_region ?_
    refine r_val (v := .int _ _) (v_move (.inl rfl) (noOwn_flat rfl)) rfl rfl (by decide) ?_
    refine r_new (v := .osl _ _ _ _) (q_callP (vs := [.nils, .int .i64 (((P2 A B i).length : Nat) : Int)]) hb71 ⟨.inl rfl, .inl rfl, trivial⟩ rfl (fun hA => growL_c (P2 A B i).length (by omega)) rfl rfl) rfl rfl (by decide) ?_
    refine r_val (v := .rsl _ _ _ _ _) (v_assign (.inl rfl) (noOwn_flat rfl)) rfl rfl (by decide) ?_
    refine r_pre (ent_reloc_sl (t := 6) rfl rfl) ?_
    refine r_nil ?_
    refine a_seq ?_
    refine a_seq ?_
    refine a_region ?_
    refine r_val (v := .sl _ _) (v_move (.inl rfl) (noOwn_flat rfl)) rfl rfl (by decide) ?_
    refine r_val (v := .int _ _) (v_len_sl sl74 (.inl rfl)) rfl rfl (by decide) ?_
    refine r_val (v := .int _ _) (v_move (.inl rfl) (noOwn_flat rfl)) rfl rfl (by decide) ?_
    refine r_nil ?_
    refine a_block ?_
    refine a_loop (X := Nat) (fun i => look [(6, .osl 1 (sls (P2 A B i)) (P2 A B i).length none), (25, .sl [.sl (sls A) A.length, .sl (sls B) B.length] 2), (26, .int .i64 ((2 : Nat) : Int)), (27, .int .i64 ((i : Nat) : Int))]) (fun i => i ≤ 2) (fun i => 2 - i) 0 (ent_look ⟨Weak.osl rfl rfl, Weak.of_eq rfl, Weak.of_eq rfl, Weak.of_eq rfl, trivial⟩) (Nat.zero_le _) (fun i hG => ?_)
    have hpl := P2_len A B i
    have hsl := sel2_len A B i
    refine a_seq ?_
    refine a_region ?_
    refine r_val (v := .bool _) (v_lss (.inl rfl) (.inl rfl)) rfl rfl (by decide) ?_
    refine r_nil ?_
    refine a_seq ?_
    refine a_cond rfl (fun ht28 => ?_) (fun ht28 => ?_)
    ·
      skip
      refine a_skip ?_
      refine a_seq ?_
      refine a_block ?_
      refine a_seq ?_
      have hi : i < 2 := (by simp at ht28; omega)
      refine a_region ?_
      refine r_val (v := .pp _ _) (v_indexAddr_sl es74 (.inl rfl) (.inl rfl) (fun _ => ⟨by omega, by omega, by simp⟩)) rfl rfl (by decide) ?_
      refine r_val (v := .sl (sls (sel2 A B i)) (sel2 A B i).length) (v_load_pp ta22 (.inl rfl) (fun _ => by rcases (by omega : i = 0 ∨ i = 1) with rfl | rfl <;> rfl) rfl) rfl rfl (by decide) ?_
      refine r_val (v := .sl _ _) (v_assign (.inl rfl) (noOwn_flat rfl)) rfl rfl (by decide) ?_
      refine r_nil ?_
      refine a_region ?_
      refine r_val (v := .rsl _ _ _ _ _) (v_move (.inl rfl) (noOwn_flat rfl)) rfl rfl (by decide) ?_
      refine r_val (v := .sl _ _) (v_move (.inl rfl) (noOwn_flat rfl)) rfl rfl (by decide) ?_
      refine r_pre (ent_reloc_sl (t := 31) rfl rfl) ?_
      refine r_step rfl (o_append rfl ap22 rfl (by decide) (by decide) rfl (src_sl (.inl rfl) (fun _ => by rw [sls_length]; omega) (sls_pureL _)) (sls_cell _) (by rw [sls_length]; omega) (by omega)) ?_
      refine r_val (v := .rsl _ _ _ _ _) (v_assign (.inl rfl) (noOwn_flat rfl)) rfl rfl (by decide) ?_
      refine r_pre (ent_reloc_sl (t := 6) rfl rfl) ?_
      refine r_nil ?_
      refine a_region ?_
      refine r_val (v := .int _ _) (v_add (.inl rfl) (.inl rfl) (fun _ => by omega)) rfl rfl (by decide) ?_
      refine r_val (v := .int _ _) (v_move (.inl rfl) (noOwn_flat rfl)) rfl rfl (by decide) ?_
      refine r_nil ?_
      refine ⟨i + 1, ent_look ⟨Weak.osl (by rw [P2_succ hi, sls_append]) (by rw [P2_succ hi]; simp), Weak.of_eq rfl, Weak.of_eq rfl, Weak.of_eq (int_eq (by omega)), trivial⟩, by omega, by omega⟩
    ·
      skip
      refine a_exit ?_
      refine a_seq ?_
      refine a_region ?_
      refine r_val (v := .rsl _ _ _ _ _) (v_move (.inl rfl) (noOwn_flat rfl)) rfl rfl (by decide) ?_
      refine r_val (v := .rsl _ _ _ _ _) (v_assign (.inl rfl) (noOwn_flat rfl)) rfl rfl (by decide) ?_
      refine r_pre (ent_reloc_sl (t := 2) rfl rfl) ?_
      refine r_nil ?_
      refine a_ret ?_
      refine ret1 Tryz.results53 (by decide) (by decide) (Weak.osl ?_ ?_) rfl Leaves.nil
      · simp at ht28; rw [show i = 2 by omega]; rfl
      · simp at ht28; rw [show i = 2 by omega]; rfl

theorem before_c (vars : Int) (L M : List (List Int)) (k : Nat) (hk : k ≤ M.length) (h : L.length + M.length ≤ 1048576) : ACall Tryz.prog 36 [.agg [.int .i64 vars, .sl (sls L) L.length], .sl (sls M) M.length, .int .i64 ((k : Nat) : Int)] [] (.osl 1 (sls (L ++ M.take k)) (L ++ M.take k).length none) [] := by
  have htl : (M.take k).length = k := (by rw [List.length_take]; omega)
  refine ACall.intro Tryz.func36 rfl (N := 14) rfl (by decide) (by simp) ?_
  refine a_seq ?_
  refine a_region ?_
  refine r_new (v := .op [.int _ _, .sl _ _]) (q_box (.inl rfl) rfl rfl) rfl rfl (by decide) ?_
  refine r_val (v := .nils) (v_assign (.inl rfl) (noOwn_flat rfl)) rfl rfl (by decide) ?_
  refine r_nil ?_
  refine a_seq ?_
  refine a_region_any mixed (by kernel_rfl) ?_
  refine y_val (v := .rp _ _) (v_fieldAddr_rp fo30_1 (.inl rfl)) rfl rfl (by decide) (by kernel_rfl) ?_
  refine y_val (v := .sl _ _) (v_load_rp1 ta22 (.inl rfl) rfl (fun _ => rfl) rfl) rfl rfl (by decide) (by kernel_rfl) ?_
  refine y_val (v := .sl _ _) (v_move (.inl rfl) (noOwn_flat rfl)) rfl rfl (by decide) (by kernel_rfl) ?_
  refine y_val (v := .int _ _) (v_move (.inl rfl) (noOwn_flat rfl)) rfl rfl (by decide) (by kernel_rfl) ?_
  refine y_val (v := .sl (sls (M.take k)) (M.take k).length) ((v_slice_sl (l := 0) (h := k) es22 (.inl rfl) (.inl ⟨rfl, rfl⟩) (.inr ⟨_, _, rfl, .inl rfl⟩) (fun _ => by omega)).cast (sl_eq2 (by simp [sls]) (by omega))) rfl rfl (by decide) (by kernel_rfl) ?_
  refine y_new (v := .sl [.sl (sls L) L.length, .sl (sls (M.take k)) (M.take k).length] 2) ((q_sliceLitZ (cs := [.sl (sls L) L.length, .sl (sls (M.take k)) (M.take k).length]) (n := 2) (parts := [(0, .tmp 8), (1, .tmp 11)]) lt74 rfl rfl rfl rfl).cast (by first | rfl | rw [shL_id _ (ic_pure _).1 (ic_pure _).2])) rfl rfl (by decide) (by kernel_rfl) ?_
  refine y_new (v := .osl _ _ _ _) (q_callF (vs := [.sl _ _]) (args := [.sl _ _]) hb53 ⟨.inl rfl, trivial⟩ rfl (fun hA => concat2_c L (M.take k) (by omega)) rfl (sls_noRef _)) rfl rfl (by decide) (by kernel_rfl) ?_
  refine y_val (v := .rsl _ _ _ _ _) (v_assign (.inl rfl) (noOwn_flat rfl)) rfl rfl (by decide) (by kernel_rfl) ?_
  refine y_nil ?_
  refine a_pre (ent_reloc_sl (t := 6) rfl rfl) ?_
  refine a_ret ?_
  refine ret1 Tryz.results36 (by decide) (by decide) (Weak.osl ?_ ?_) rfl Leaves.nil
  all_goals rfl

theorem with_c (vars : Int) (L M : List (List Int)) (nm : Nat) (hn : M.length = nm) (h : L.length + nm ≤ 1048576) : ACall Tryz.prog 30 [.agg [.int .i64 vars, .sl (sls L) L.length], .sl (sls M) nm] [] (.agg [.int .i64 vars, .osl 1 (sls (L ++ M)) (L ++ M).length none]) [] := by
  refine ACall.intro Tryz.func30 rfl (N := 14) rfl (by decide) (by simp) ?_
  refine a_seq ?_
  refine a_region ?_
  refine r_new (v := .op [.int _ _, .sl _ _]) (q_box (.inl rfl) rfl rfl) rfl rfl (by decide) ?_
  refine r_new (v := .op [.int _ _, .nils]) (q_alloc zc30) rfl rfl (by decide) ?_
  refine r_nil ?_
  refine a_seq ?_
  refine a_region_z (n := 8) [[(5, true)], [(6, true)], [(7, true)], [(8, true)], [(9, true)], [(7, false), (10, true)], [(11, true)], [(10, false), (12, true)]] mixed (by kernel_rfl) ?_
  refine z_val (v := .rp _ _) (v_fieldAddr_rp fo30_0 (.inl rfl)) rfl rfl (by decide) rfl (by kernel_rfl) ?_
  refine z_val (v := .int _ _) (v_load_rp1 ta3 (.inl rfl) rfl (fun _ => rfl) rfl) rfl rfl (by decide) rfl (by kernel_rfl) ?_
  refine z_new (v := .osl _ _ _ _) (q_sliceLit (n := 0) (parts := []) lt22 rfl rfl rfl rfl) rfl rfl (by decide) rfl (by kernel_rfl) ?_
  refine z_val (v := .rp _ _) (v_fieldAddr_rp fo30_1 (.inl rfl)) rfl rfl (by decide) rfl (by kernel_rfl) ?_
  refine z_val (v := .sl _ _) (v_load_rp1 ta22 (.inl rfl) rfl (fun _ => rfl) rfl) rfl rfl (by decide) rfl (by kernel_rfl) ?_
  refine z_append rfl rfl ap22 rfl (by decide) (by decide) (by decide) rfl (src_sl (.inl rfl) (fun _ => by rw [sls_length]; omega) (sls_pureL _)) (sls_cell _) rfl (by omega) rfl (by kernel_rfl) ?_
  refine z_val (v := .sl _ _) (v_move (.inl rfl) (noOwn_flat rfl)) rfl rfl (by decide) rfl (by kernel_rfl) ?_
  refine z_append rfl rfl ap22 rfl (by decide) (by decide) (by decide) rfl (src_sl (.inl rfl) (fun _ => by rw [sls_length]; omega) (sls_pureL _)) (sls_cell _) (by simp [sls_length, rep]) (by omega) rfl (by kernel_rfl) ?_
  refine z_nil ?_
  refine r_pre (ent_eq (t := 12) (v' := .osl 1 (sls (L ++ M)) (L ++ M).length none) (Weak.osl (by rw [sls_append]; rfl) (by simp; omega))) ?_
  refine r_val (v := .agg [.int _ _, .rsl _ _ _ _ _]) (v_build sp30 rfl rfl) rfl rfl (by decide) ?_
  refine r_pre (ent_reloc_at_sl (t := 13) (r := [1]) rfl (by decide) rfl rfl) ?_
  refine r_step rfl (o_store_own (v := .agg [.int _ _, .osl _ _ _ _]) (y' := .op [.int _ _, .osl _ _ _ _]) rfl rfl ta30 (.inl rfl) (by decide) rfl (by decide) rfl (by simp [cellsOf, noRefL, noRef, sls_noRef]) rfl rfl rfl rfl rfl (Nat.le_of_ble_eq_true rfl) rfl rfl) ?_
  refine r_nil ?_
  refine a_ret ?_
  refine retC1 (r := .cell 4 30) Tryz.results30 ⟨by decide, _, cell_agg rfl ta30, rfl⟩ (by decide) (Weak.of_eq (agg_eq (l2_eq (int_eq ?_) (osl_eq2 ?_ ?_)))) rfl Leaves.nil
  all_goals rfl

theorem iFst_c (vars : Int) (L M : List (List Int)) (hlb : listB vars L M = true) : ACall Tryz.prog 35 [.agg [.int .i64 vars, .sl (sls L) L.length], .sl (sls M) M.length] [] (.int .i64 (fstU L M)) [] := by
  obtain ⟨hlc, hlm, hlr⟩ := listB_spec hlb
  have hcs := cnfB_spec hlc
  refine ACall.intro Tryz.func35 rfl (N := 23) rfl (by decide) (by simp) ?_
  refine a_seq ?_
  refine a_region ?_
  refine r_new (v := .op [.int _ _, .sl _ _]) (q_box (.inl rfl) rfl rfl) rfl rfl (by decide) ?_
  refine r_val (v := .int _ _) (v_assign (.inl rfl) (noOwn_flat rfl)) rfl rfl (by decide) ?_
  refine r_nil ?_
  refine a_seq ?_
  refine a_seq ?_
  refine a_region ?_
  refine r_val (v := .sl _ _) (v_move (.inl rfl) (noOwn_flat rfl)) rfl rfl (by decide) ?_
  refine r_val (v := .int _ _) (v_len_sl sl22 (.inl rfl)) rfl rfl (by decide) ?_
  refine r_val (v := .int _ _) (v_move (.inl rfl) (noOwn_flat rfl)) rfl rfl (by decide) ?_
  refine r_nil ?_
  refine a_block ?_
  refine a_loop (X := Nat) (fun k => look [(1, .sl (sls M) M.length), (2, .op [.int .i64 vars, .sl (sls L) L.length]), (7, .sl (sls M) M.length), (8, .int .i64 (M.length : Int)), (9, .int .i64 ((k : Nat) : Int))]) (fun k => k ≤ M.length ∧ ∀ j, j < k → folU L M j = true) (fun k => M.length - k) 0 (ent_look ⟨Weak.of_eq rfl, Weak.of_eq rfl, Weak.of_eq rfl, Weak.of_eq rfl, Weak.of_eq rfl, trivial⟩) ⟨Nat.zero_le _, fun j h => by omega⟩ (fun k hG => ?_)
  obtain ⟨g1, g2⟩ := hG
  refine a_seq ?_
  refine a_region ?_
  refine r_val (v := .bool _) (v_lss (.inl rfl) (.inl rfl)) rfl rfl (by decide) ?_
  refine r_nil ?_
  refine a_seq ?_
  refine a_cond rfl (fun ht10 => ?_) (fun ht10 => ?_)
  ·
    skip
    refine a_skip ?_
    refine a_seq ?_
    refine a_block ?_
    refine a_seq ?_
    have hk : k < M.length := (by simp at ht10; omega)
    refine a_region ?_
    refine r_val (v := .int _ _) (v_move (.inl rfl) (noOwn_flat rfl)) rfl rfl (by decide) ?_
    refine r_val (v := .pp _ _) (v_indexAddr_sl es22 (.inl rfl) (.inl rfl) (fun _ => ⟨by omega, by omega, sls_ne hk⟩)) rfl rfl (by decide) ?_
    refine r_val (v := .sl (icells (gl M k)) (gl M k).length) (v_load_pp ta40 (.inl rfl) (fun _ => by rw [Nat.mul_one]; exact sls_get hk) rfl) rfl rfl (by decide) ?_
    refine r_val (v := .int _ _) (v_assign (.inl rfl) (noOwn_flat rfl)) rfl rfl (by decide) ?_
    refine r_val (v := .sl _ _) (v_assign (.inl rfl) (noOwn_flat rfl)) rfl rfl (by decide) ?_
    refine r_nil ?_
    refine a_seq ?_
    refine a_region ?_
    refine r_val (v := .agg [.int _ _, .sl _ _]) (v_load_rpa1 ta30 (.inl rfl) rfl rfl (fun _ => rfl) rfl) rfl rfl (by decide) ?_
    refine r_val (v := .sl _ _) (v_move (.inl rfl) (noOwn_flat rfl)) rfl rfl (by decide) ?_
    refine r_val (v := .int _ _) (v_move (.inl rfl) (noOwn_flat rfl)) rfl rfl (by decide) ?_
    refine r_new (v := .osl _ _ _ _) (q_callF (vs := [.agg [.int _ _, .sl _ _], .sl _ _, .int _ _]) (args := [.agg [.int .i64 _, .sl _ _], .sl _ _, .int .i64 _]) hb36 ⟨.inl rfl, .inl rfl, .inl rfl, trivial⟩ rfl (fun hA => before_c vars L M k g1 (by omega)) rfl (sls_noRef _)) rfl rfl (by decide) ?_
    refine r_val (v := .sl _ _) (v_move (.inl rfl) (noOwn_flat rfl)) rfl rfl (by decide) ?_
    refine r_new (v := .bool _) (q_call (vs := [.rsl _ _ _ _ _, .sl _ _]) (args := [.sl _ _, .sl _ _]) hb52 ⟨.inl rfl, .inl rfl, trivial⟩ (l2_eq (sl_sh (sls_pure _)) rfl) (fun hA => iFol_c vars (L ++ M.take k) (gl M k) (bef_cl hlb k) (by have := bef_len L M k; omega) (hlr k hk)) rfl rfl) rfl rfl (by decide) ?_
    refine r_val (v := .bool _) (v_not (.inl rfl)) rfl rfl (by decide) ?_
    refine r_nil ?_
    refine a_cond rfl (fun ht20 => ?_) (fun ht20 => ?_)
    ·
      skip
      refine a_seq ?_
      refine a_region ?_
      refine r_val (v := .int _ _) (v_move (.inl rfl) (noOwn_flat rfl)) rfl rfl (by decide) ?_
      refine r_val (v := .int _ _) (v_assign (.inl rfl) (noOwn_flat rfl)) rfl rfl (by decide) ?_
      refine r_nil ?_
      refine a_ret ?_
      refine ret1 Tryz.results35 (by decide) (by decide) (Weak.of_eq (int_eq ?_)) rfl Leaves.nil
      exact (fstU_found hk (by unfold folU; simpa using ht20) g2).symm
    ·
      skip
      refine a_skip ?_
      refine a_region ?_
      refine r_val (v := .int _ _) (v_add (.inl rfl) (.inl rfl) (fun _ => by omega)) rfl rfl (by decide) ?_
      refine r_val (v := .int _ _) (v_move (.inl rfl) (noOwn_flat rfl)) rfl rfl (by decide) ?_
      refine r_nil ?_
      refine ⟨k + 1, ent_look ⟨Weak.of_eq rfl, Weak.of_eq rfl, Weak.of_eq rfl, Weak.of_eq rfl, Weak.of_eq (int_eq (by omega)), trivial⟩, ⟨by omega, fun j h1 => by rcases Nat.lt_or_ge j k with h | h; exact g2 j h; (obtain rfl : j = k := by omega); unfold folU; simpa using ht20⟩, by omega⟩
  ·
    skip
    refine a_exit ?_
    refine a_seq ?_
    refine a_region ?_
    refine r_val (v := .int _ _) (v_assign (.inl rfl) (noOwn_flat rfl)) rfl rfl (by decide) ?_
    refine r_nil ?_
    refine a_ret ?_
    refine ret1 Tryz.results35 (by decide) (by decide) (Weak.of_eq (int_eq ?_)) rfl Leaves.nil
    exact (fstU_none (fun j hj => g2 j (by simp at ht10; omega))).symm

theorem sFst_c (vars : Int) (L M : List (List Int)) (hlb : listB vars L M = true) : ACall Tryz.prog 29 [.agg [.int .i64 vars, .sl (sls L) L.length], .sl (sls M) M.length] [] (.int .i64 (fstU L M)) [] := by
  obtain ⟨hlc, hlm, hlr⟩ := listB_spec hlb
  have hcs := cnfB_spec hlc
  refine ACall.intro Tryz.func29 rfl (N := 24) rfl (by decide) (by simp) ?_
  refine a_seq ?_
  refine a_region ?_
  refine r_new (v := .op [.int _ _, .sl _ _]) (q_box (.inl rfl) rfl rfl) rfl rfl (by decide) ?_
  refine r_val (v := .int _ _) (v_assign (.inl rfl) (noOwn_flat rfl)) rfl rfl (by decide) ?_
  refine r_nil ?_
  refine a_seq ?_
  refine a_seq ?_
  refine a_region ?_
  refine r_val (v := .int _ _) (v_assign (.inl rfl) (noOwn_flat rfl)) rfl rfl (by decide) ?_
  refine r_nil ?_
  refine a_block ?_
  refine a_loop (X := Nat) (fun k => look [(1, .sl (sls M) M.length), (2, .op [.int .i64 vars, .sl (sls L) L.length]), (5, .int .i64 ((k : Nat) : Int))]) (fun k => k ≤ M.length ∧ ∀ j, j < k → folU L M j = true) (fun k => M.length - k) 0 (ent_look ⟨Weak.of_eq rfl, Weak.of_eq rfl, Weak.of_eq rfl, trivial⟩) ⟨Nat.zero_le _, fun j h => by omega⟩ (fun k hG => ?_)
  obtain ⟨g1, g2⟩ := hG
  refine a_seq ?_
  refine a_seq ?_
  refine a_region ?_
  refine r_val (v := .int _ _) (v_move (.inl rfl) (noOwn_flat rfl)) rfl rfl (by decide) ?_
  refine r_val (v := .sl _ _) (v_move (.inl rfl) (noOwn_flat rfl)) rfl rfl (by decide) ?_
  refine r_val (v := .int _ _) (v_len_sl sl22 (.inl rfl)) rfl rfl (by decide) ?_
  refine r_val (v := .bool _) (v_lss (.inl rfl) (.inl rfl)) rfl rfl (by decide) ?_
  refine r_nil ?_
  refine a_cond rfl (fun ht9 => ?_) (fun ht9 => ?_)
  ·
    skip
    refine a_skip ?_
    refine a_seq ?_
    refine a_block ?_
    refine a_seq ?_
    have hk : k < M.length := (by simp at ht9; omega)
    refine a_region_any mixed (by kernel_rfl) ?_
    refine y_val (v := .agg [.int _ _, .sl _ _]) (v_load_rpa1 ta30 (.inl rfl) rfl rfl (fun _ => rfl) rfl) rfl rfl (by decide) (by kernel_rfl) ?_
    refine y_val (v := .sl _ _) (v_move (.inl rfl) (noOwn_flat rfl)) rfl rfl (by decide) (by kernel_rfl) ?_
    refine y_val (v := .int _ _) (v_move (.inl rfl) (noOwn_flat rfl)) rfl rfl (by decide) (by kernel_rfl) ?_
    refine y_val (v := .sl (sls (M.take k)) k) ((v_slice_sl (l := 0) (h := k) es22 (.inl rfl) (.inl ⟨rfl, rfl⟩) (.inr ⟨_, _, rfl, .inl rfl⟩) (fun _ => by omega)).cast (sl_eq2 (by simp [sls]) (by omega))) rfl rfl (by decide) (by kernel_rfl) ?_
    refine y_new (v := .agg [.int _ _, .osl _ _ _ _]) (q_callF (vs := [.agg [.int _ _, .sl _ _], .sl _ _]) (args := [.agg [.int .i64 _, .sl _ _], .sl _ _]) hb30 ⟨.inl rfl, .inl rfl, trivial⟩ rfl (fun hA => with_c vars L (M.take k) k (by rw [List.length_take]; omega) (by omega)) rfl (by simp [noRef, noRefL, sls_noRef])) rfl rfl (by decide) (by kernel_rfl) ?_
    refine y_val (v := .sl _ _) (v_move (.inl rfl) (noOwn_flat rfl)) rfl rfl (by decide) (by kernel_rfl) ?_
    refine y_val (v := .int _ _) (v_move (.inl rfl) (noOwn_flat rfl)) rfl rfl (by decide) (by kernel_rfl) ?_
    refine y_val (v := .pp _ _) (v_indexAddr_sl es22 (.inl rfl) (.inl rfl) (fun _ => ⟨by omega, by omega, sls_ne hk⟩)) rfl rfl (by decide) (by kernel_rfl) ?_
    refine y_val (v := .sl (icells (gl M k)) (gl M k).length) (v_load_pp ta40 (.inl rfl) (fun _ => by rw [Nat.mul_one]; exact sls_get hk) rfl) rfl rfl (by decide) (by kernel_rfl) ?_
    refine y_new (v := .bool _) (q_call (vs := [.agg [.int _ _, .rsl _ _ _ _ _], .sl _ _]) (args := [.agg [.int .i64 _, .sl _ _], .sl _ _]) hb42 ⟨.inl rfl, .inl rfl, trivial⟩ (l2_eq (agg_eq (l2_eq rfl (sl_sh (sls_pure _)))) rfl) (fun hA => sFol_c vars (L ++ M.take k) (gl M k) (bef_cl hlb k) (by have := bef_len L M k; omega) (hlr k hk)) rfl rfl) rfl rfl (by decide) (by kernel_rfl) ?_
    refine y_val (v := .bool _) (v_not (.inl rfl)) rfl rfl (by decide) (by kernel_rfl) ?_
    refine y_nil ?_
    refine a_cond rfl (fun ht22 => ?_) (fun ht22 => ?_)
    ·
      skip
      refine a_seq ?_
      refine a_region ?_
      refine r_val (v := .int _ _) (v_move (.inl rfl) (noOwn_flat rfl)) rfl rfl (by decide) ?_
      refine r_val (v := .int _ _) (v_assign (.inl rfl) (noOwn_flat rfl)) rfl rfl (by decide) ?_
      refine r_nil ?_
      refine a_ret ?_
      refine ret1 Tryz.results29 (by decide) (by decide) (Weak.of_eq (int_eq ?_)) rfl Leaves.nil
      exact (fstU_found hk (by unfold folU; simpa using ht22) g2).symm
    ·
      skip
      refine a_skip ?_
      refine a_region ?_
      refine r_val (v := .int _ _) (v_move (.inl rfl) (noOwn_flat rfl)) rfl rfl (by decide) ?_
      refine r_val (v := .int _ _) (v_add (.inl rfl) (.inl rfl) (fun _ => by omega)) rfl rfl (by decide) ?_
      refine r_val (v := .int _ _) (v_assign (.inl rfl) (noOwn_flat rfl)) rfl rfl (by decide) ?_
      refine r_nil ?_
      refine ⟨k + 1, ent_look ⟨Weak.of_eq rfl, Weak.of_eq rfl, Weak.of_eq (int_eq (by omega)), trivial⟩, ⟨by omega, fun j h1 => by rcases Nat.lt_or_ge j k with h | h; exact g2 j h; (obtain rfl : j = k := by omega); unfold folU; simpa using ht22⟩, by omega⟩
  ·
    skip
    refine a_exit ?_
    refine a_seq ?_
    refine a_region ?_
    refine r_val (v := .int _ _) (v_assign (.inl rfl) (noOwn_flat rfl)) rfl rfl (by decide) ?_
    refine r_nil ?_
    refine a_ret ?_
    refine ret1 Tryz.results29 (by decide) (by decide) (Weak.of_eq (int_eq ?_)) rfl Leaves.nil
    exact (fstU_none (fun j hj => g2 j (by simp at ht9; omega))).symm
end Go.Av
namespace Go.Av
open Go Go.Proofs Go.Sort
set_option maxRecDepth 10000



end Go.Av
namespace Go.Av
open Go Go.Proofs Go.Sort
set_option maxRecDepth 10000



end Go.Av
namespace Go.Av
open Go Go.Proofs Go.Sort
set_option maxRecDepth 10000



end Go.Av
namespace Go.Av
open Go
/-- A learned list. -/
def lrnB (vars : Int) (L M : List (List Int)) : Bool := listB vars L M && decide (fstU L M < 0)
def shOk (vars : Int) (L M : List (List Int)) (k : Int) : Bool := lrnB vars L M && inR k 0 ((M.length : Int) - 1)
theorem shOk_spec {vars : Int} {L M : List (List Int)} {k : Int} (h : shOk vars L M k = true) : listB vars L M = true ∧ 0 ≤ k ∧ k.toNat < M.length := by
  simp only [shOk, lrnB, Bool.and_eq_true, inR_spec] at h
  exact ⟨h.1.1, h.2.1, by omega⟩
end Go.Av
namespace Go.Av
open Go Go.Proofs Go.Sort
set_option maxRecDepth 10000



end Go.Av
namespace Go.Av
open Go Go.Proofs Go.Sort
set_option maxRecDepth 10000
theorem hb28 : hasBody Tryz.prog 28 = true := by kernel_rfl
theorem hb29 : hasBody Tryz.prog 29 = true := by kernel_rfl
theorem hb34 : hasBody Tryz.prog 34 = true := by kernel_rfl
theorem hb35 : hasBody Tryz.prog 35 = true := by kernel_rfl

theorem learned_c (vars : Int) (L M : List (List Int)) (hk : CnfOk vars L) (hm : CnfOk vars M) : ACall Tryz.prog 22 [.agg [.int .i64 vars, .sl (sls L) L.length], .sl (sls M) M.length] [] (.bool (lrnB vars L M)) [] := by
  refine ACall.intro Tryz.func22 rfl (N := 14) rfl (by decide) (by simp) ?_
  refine a_seq ?_
  refine a_region ?_
  refine r_new (v := .op [.int _ _, .sl _ _]) (q_box (.inl rfl) rfl rfl) rfl rfl (by decide) ?_
  refine r_val (v := .bool _) (v_assign (.inl rfl) (noOwn_flat rfl)) rfl rfl (by decide) ?_
  refine r_nil ?_
  refine a_seq ?_
  refine a_region ?_
  refine r_val (v := .agg [.int _ _, .sl _ _]) (v_load_rpa1 ta30 (.inl rfl) rfl rfl (fun _ => rfl) rfl) rfl rfl (by decide) ?_
  refine r_val (v := .sl _ _) (v_move (.inl rfl) (noOwn_flat rfl)) rfl rfl (by decide) ?_
  refine r_new (v := .bool _) (q_call (vs := [.agg [.int _ _, .sl _ _], .sl _ _]) (args := [.agg [.int .i64 _, .sl _ _], .sl _ _]) hb34 ⟨.inl rfl, .inl rfl, trivial⟩ rfl (fun hA => listOk_c vars L M hk hm) rfl rfl) rfl rfl (by decide) ?_
  refine r_val (v := .bool _) (v_move (.inl rfl) (noOwn_flat rfl)) rfl rfl (by decide) ?_
  refine r_gval (v := .agg [.int _ _, .sl _ _]) (v_load_rpa1 ta30 (.inl rfl) rfl rfl (fun _ => rfl) rfl) rfl rfl rfl (by decide) (.inl ⟨_, rfl, rfl⟩) rfl (by decide) ?_
  refine r_gval (v := .sl _ _) (v_move (.inl rfl) (noOwn_flat rfl)) rfl rfl rfl (by decide) (.inl ⟨_, rfl, rfl⟩) rfl (by decide) ?_
  refine r_guard (v := .int _ _) (q_call (vs := [.agg [.int _ _, .sl _ _], .sl _ _]) (args := [.agg [.int .i64 _, .sl _ _], .sl _ _]) hb35 ⟨.inr ⟨_, rfl, fun h => h⟩, .inr ⟨_, rfl, fun h => h⟩, trivial⟩ rfl (fun hA => iFst_c vars L M (by simpa using hA)) rfl rfl) rfl rfl rfl (by decide) (.inl ⟨_, rfl, rfl⟩) rfl (by decide) ?_
  refine r_gval (v := .bool _) (v_lss (.inr ⟨_, rfl, fun h => h⟩) (.inl rfl)) rfl rfl rfl (by decide) (.inl ⟨_, rfl, rfl⟩) rfl (by decide) ?_
  refine r_val (v := .bool _) (v_pick (.inl rfl) (.inr ⟨_, rfl, fun h h2 => by simp_all⟩) (.inl rfl)) rfl rfl (by decide) ?_
  refine r_val (v := .bool _) (v_assign (.inl rfl) (noOwn_flat rfl)) rfl rfl (by decide) ?_
  refine r_nil ?_
  refine a_ret ?_
  refine ret1 Tryz.results22 (by decide) (by decide) (Weak.of_eq (bool_eq ?_)) rfl Leaves.nil
  unfold lrnB; cases listB vars L M <;> simp

theorem good11_c (vars : Int) (L M : List (List Int)) (hk : CnfOk vars L) (hm : CnfOk vars M) : ACall Tryz.prog 18 [.agg [.int .i64 vars, .sl (sls L) L.length], .sl (sls M) M.length] [] (.bool (lrnB vars L M)) [] := by
  refine ACall.intro Tryz.func18 rfl (N := 14) rfl (by decide) (by simp) ?_
  refine a_seq ?_
  refine a_region ?_
  refine r_new (v := .op [.int _ _, .sl _ _]) (q_box (.inl rfl) rfl rfl) rfl rfl (by decide) ?_
  refine r_val (v := .bool _) (v_assign (.inl rfl) (noOwn_flat rfl)) rfl rfl (by decide) ?_
  refine r_nil ?_
  refine a_seq ?_
  refine a_region ?_
  refine r_val (v := .agg [.int _ _, .sl _ _]) (v_load_rpa1 ta30 (.inl rfl) rfl rfl (fun _ => rfl) rfl) rfl rfl (by decide) ?_
  refine r_val (v := .sl _ _) (v_move (.inl rfl) (noOwn_flat rfl)) rfl rfl (by decide) ?_
  refine r_new (v := .bool _) (q_call (vs := [.agg [.int _ _, .sl _ _], .sl _ _]) (args := [.agg [.int .i64 _, .sl _ _], .sl _ _]) hb28 ⟨.inl rfl, .inl rfl, trivial⟩ rfl (fun hA => takes_c vars L M hk hm) rfl rfl) rfl rfl (by decide) ?_
  refine r_val (v := .bool _) (v_move (.inl rfl) (noOwn_flat rfl)) rfl rfl (by decide) ?_
  refine r_gval (v := .agg [.int _ _, .sl _ _]) (v_load_rpa1 ta30 (.inl rfl) rfl rfl (fun _ => rfl) rfl) rfl rfl rfl (by decide) (.inl ⟨_, rfl, rfl⟩) rfl (by decide) ?_
  refine r_gval (v := .sl _ _) (v_move (.inl rfl) (noOwn_flat rfl)) rfl rfl rfl (by decide) (.inl ⟨_, rfl, rfl⟩) rfl (by decide) ?_
  refine r_guard (v := .int _ _) (q_call (vs := [.agg [.int _ _, .sl _ _], .sl _ _]) (args := [.agg [.int .i64 _, .sl _ _], .sl _ _]) hb29 ⟨.inr ⟨_, rfl, fun h => h⟩, .inr ⟨_, rfl, fun h => h⟩, trivial⟩ rfl (fun hA => sFst_c vars L M (by simpa using hA)) rfl rfl) rfl rfl rfl (by decide) (.inl ⟨_, rfl, rfl⟩) rfl (by decide) ?_
  refine r_gval (v := .bool _) (v_lss (.inr ⟨_, rfl, fun h => h⟩) (.inl rfl)) rfl rfl rfl (by decide) (.inl ⟨_, rfl, rfl⟩) rfl (by decide) ?_
  refine r_val (v := .bool _) (v_pick (.inl rfl) (.inr ⟨_, rfl, fun h h2 => by simp_all⟩) (.inl rfl)) rfl rfl (by decide) ?_
  refine r_val (v := .bool _) (v_assign (.inl rfl) (noOwn_flat rfl)) rfl rfl (by decide) ?_
  refine r_nil ?_
  refine a_ret ?_
  refine ret1 Tryz.results18 (by decide) (by decide) (Weak.of_eq (bool_eq ?_)) rfl Leaves.nil
  unfold lrnB; cases listB vars L M <;> simp
end Go.Av
namespace Go.Av
open Go Go.Sort
/-- A node: variable, low, high, clause. -/
abbrev TN := Int × Int × Int × Int
end Go.Av
namespace Go.Av
open Go
/-- Kind, polynomial, two steps, two numbers. -/
abbrev PcT := Int × List (Int × Int) × Int × Int × Int × Int
end Go.Av
namespace Go.Av
open Go

section
variable {e : Ctx} {σ σ' : Sig} {val val' : Nat → Value} {w w' : World} {β β' : Place → Option (Nat × Nat)} {F F' : Nat → Prop} {ds : List Deferred}

theorem Inv.own_cells (h : Inv e σ val w β F) {q : Place} {b s : Nat} (ho : OwnAt σ q) (hb : β q = some (b, s)) : ∃ arr t fz, w.heap[b]? = some (.cells arr t fz) := by
  obtain ⟨x, hx, ho⟩ := ho
  obtain ⟨u, hu⟩ := (h.rep q.1).sub hx
  have hb' : β (q.1, [] ++ q.2) = some (b, s) := by simpa using hb
  cases x <;> simp [AV.isOwn] at ho <;> simp only [Rep] at hu
  · rcases hu with ⟨h0, _⟩ | ⟨_, b', _, _, _, h0, _, _, _, hh, _⟩
    · rw [h0] at hb'; cases hb'
    · rw [h0] at hb'; cases hb'; exact ⟨_, _, _, hh⟩
  · obtain ⟨_, b', _, _, h0, _, hh, _⟩ := hu
    rw [h0] at hb'; cases hb'; exact ⟨_, _, _, hh⟩

def nonCells : Obj → Prop
  | .cells .. => False
  | _ => True

theorem Inv.putObj (h : Inv e σ val w β F) {l : Nat} {o o' : Obj} (hl : w.heap[l]? = some o) (hc : nonCells o) (hc' : nonCells o') (hF : ¬ F l) (hk : e.w0.heap.size ≤ l) : Inv e σ val (w.putObj l o') β F := by
  have hlt : l < w.heap.size := (Array.getElem?_eq_some_iff.1 hl).1
  refine h.ext (fun b hb => World.putObj_heap_other (fun e => by subst e; exact hF hb)) (fun q b s hq hb => World.putObj_heap_other fun e => ?_) (fun b hb _ => World.putObj_heap_other (by omega)) (by simp) ?_
  · subst e
    obtain ⟨arr, t, fz, hh⟩ := h.own_cells hq hb
    rw [hl] at hh; cases hh; exact hc
  · refine ⟨h.tame.1, h.tame.2.1, fun b arr t fz hb hh => ?_⟩
    by_cases hbl : b = l
    · subst hbl
      rw [World.putObj_heap_same hlt] at hh
      cases hh; exact hc'.elim
    · rw [World.putObj_heap_other hbl] at hh
      exact h.tame.2.2 b arr t fz hb hh

end

/-- From here on stand the slots that variables of the frame are lent to. -/
def LND : Nat := 2000000
section
variable {N : Nat} {e : Ctx} {σ σ' : Sig} {w w' : World} {β β' : Place → Option (Nat × Nat)} {F F' : Nat → Prop} {gv : Nat → Value} {a a' : Act}
/-- The frame's slots: pure ones, and ones that refer to what they are lent to. -/
def BaseOk (N : Nat) (τ : Sig) : List (Nat × AV) → Prop
  | [] => True
  | (i, v) :: L => (i < N ∧ (pureV v = true ∨ v = refd (LND + i, []) (τ (LND + i)))) ∧ BaseOk N τ L
/-- Keys behind the frame. -/
def keysFrom (N : Nat) : List (Nat × AV) → Bool
  | [] => true
  | (i, _) :: L => decide (N ≤ i) && keysFrom N L
end
end Go.Av
namespace Go.Av
open Go
/-- The mark that a loop over an iterator leaves among the deferred calls. -/
def MkOk (e : Ctx) (ds : List Deferred) (w : World) (F : Nat → Prop) : Prop :=
  ds = [] ∨ ∃ D, ds = [{ target := .collected D, args := #[] }] ∧ w.heap[D]? = some (.deferred (some [])) ∧ e.w0.heap.size ≤ D ∧ ¬ F D
structure AllM (N : Nat) (gv : Nat → Value) (e : Ctx) (σ : Sig) (a : Act) (w : World) : Prop where
  size : a.tmps.size = N
  inv : ∃ β F, MkOk e a.defers w F ∧ Inv e σ (valOf N gv a) w β F
/-- Code of a function's own frame: a loop over an iterator may stand in it (m: or ahead of it). -/
def BCode (P : Program) (N : Nat) (m : Bool) (c : Code) (σ : Sig) (Φ : Exit → Sig → Prop) : Prop :=
  ∀ (gv : Nat → Value) (e : Ctx) (a : Act) (w : World), (m = false → a.defers = []) → AllM N gv e σ a w → ∀ Q : Exit → Act → World → Prop, (∀ x a' w' σ', Φ x σ' → AllM N gv e σ' a' w' → Q x a' w') → c.wp P Q a w

section
variable {P : Program} {N : Nat} {m : Bool} {σ σ' : Sig} {Φ : Exit → Sig → Prop} {c c' : Code}
/-- A function's contract out of its code, where a loop over an iterator stands in it. -/
theorem BCall.intro {f : FuncId} {fn : Func} {args objs objs2 : List AV} {res : AV} (hf : P.funcs[f]? = some fn) (hb : fn.body = some c) (hN : fn.ntmps = N) (hNI : N < INH) (ha : args.length ≤ N)
    (h : BCode P N false c (argSig args objs) (fun x s => match x with | .normal => Returns P fn N s res objs2 | .ret => Returns P fn N s res objs2 | _ => False)) : ACall P f args objs res objs2 := by
  intro e vs val w β F hl hval hi
  refine (callsIn_wide (n := 1)).1 (callsIn_of_wp_marks hf hb trivial (wpIn_wide.2 ?_))
  have hsz : (vs.toArray ++ Array.replicate (fn.ntmps - vs.toArray.size) undef).size = N := by simp [hN]; omega
  refine h (fun i => val i) e _ w (fun _ => rfl) ⟨hsz, β, F, .inl rfl, ?_⟩ _ fun x a' w' s hx ha' => ?_
  · refine ⟨fun i => ?_, hi.disj, hi.sep, hi.fr, hi.kept, hi.grow, hi.tame⟩
    by_cases hlt : i < vs.length
    · have := hi.rep i
      rw [hval i hlt] at this
      have e1 : valOf N (fun i => val i) { tmps := vs.toArray ++ Array.replicate (fn.ntmps - vs.toArray.size) undef, defers := [] } i = vs.getD i undef := by
        have : i < N := by omega
        simp only [valOf, this, if_true]
        rw [Array.getD_eq_getD_getElem?, Array.getElem?_append_left (by simpa using hlt)]
        simp
      rw [e1]; exact this
    · by_cases hN' : i < N
      · have : argSig args objs i = .undef := by
          have h1 : i < INH := by omega
          have h2 : args[i]? = none := List.getElem?_eq_none (by omega)
          simp [argSig, h1, h2]
        rw [this]; simp [Rep]
      · have := hi.rep i
        simpa [valOf, hN'] using this
  · have key : ∀ (_ : Returns P fn N s res objs2), LeavesInM Fence.wide 1 P fn a'.tmps (fun en w' => ∃ v β' F', en = .returned v ∧ Inv e (argSig [res] objs2) (upd val 0 v) w' β' F') a'.defers .returning w' := by
      intro hret
      obtain ⟨hsz', β', F', hk, hi'⟩ := ha'
      rcases hk with hk | ⟨D, h1, h2, h3, h4⟩
      · obtain ⟨v, hr, β'', F'', hi''⟩ := hret (fun i => val i) { e with ds := [] } a' w' ⟨hk, hsz', β', F', ⟨hi'.rep, hi'.disj, hi'.sep, hi'.fr, hi'.kept, hi'.grow, hi'.tame⟩⟩
        rw [hk]
        exact ⟨v, hr, v, β'', F'', rfl, ⟨hi''.rep, hi''.disj, hi''.sep, hi''.fr, hi''.kept, hi''.grow, hi''.tame⟩⟩
      · rw [h1]
        have hi2 : Inv e s (valOf N (fun i => val i) a') (w'.putObj D (.deferred none)) β' F' := hi'.putObj h2 trivial trivial h4 h3
        obtain ⟨v, hr, β'', F'', hi''⟩ := hret (fun i => val i) { e with ds := a'.defers } a' _ ⟨rfl, hsz', β', F', ⟨hi2.rep, hi2.disj, hi2.sep, hi2.fr, hi2.kept, hi2.grow, hi2.tame⟩⟩
        refine ⟨by simp, .inl ⟨D, _, rfl, run_takeDeferred h2, ?_⟩⟩
        exact ⟨v, hr, v, β'', F'', rfl, ⟨hi''.rep, hi''.disj, hi''.sep, hi''.fr, hi''.kept, hi''.grow, hi''.tame⟩⟩
    cases x <;> simp only at hx
    · exact key hx
    · exact key hx
end
end Go.Av
namespace Go.Av
open Go

def NrAll (τ : Sig) : List Nat → Prop
  | [] => True
  | s :: S => noRef (τ (LND + s)) = true ∧ NrAll τ S
structure LpOk (N : Nat) (S : List Nat) (LB LP : List (Nat × AV)) : Prop where
  keys : keysFrom N LP = true
  base : BaseOk N (look LP) LB
  nr : NrAll (look LP) S
end Go.Av
namespace Go.Av
open Go Go.Sort
theorem falP_fidx {L : List (List Int)} {a : List Int} : ∀ (n : Nat), (falP L a n = [] ∧ ∀ c, c < n → ¬ cval (gl L c) a < 0) ∨ ∃ c : Nat, c < n ∧ cval (gl L c) a < 0 ∧ (∀ d, d < c → ¬ cval (gl L d) a < 0) ∧ gd (falP L a n) 0 = c ∧ 0 < (falP L a n).length
  | 0 => .inl ⟨rfl, fun c h => by omega⟩
  | n + 1 => by
    rcases falP_fidx (L := L) (a := a) n with ⟨h1, h2⟩ | ⟨c, h1, h2, h3, h4, h5⟩
    · by_cases h : cval (gl L n) a < 0
      · refine .inr ⟨n, by omega, h, h2, ?_, ?_⟩
        · rw [falP_succ, if_pos h, h1]; rfl
        · rw [falP_succ, if_pos h, h1]; simp
      · refine .inl ⟨by rw [falP_succ, if_neg h, h1], fun c hc => ?_⟩
        rcases Nat.lt_or_ge c n with hlt | hge
        · exact h2 c hlt
        · obtain rfl : c = n := by omega
          exact h
    · refine .inr ⟨c, by omega, h2, h3, ?_, ?_⟩
      · rw [falP_succ]; split
        · unfold gd at h4 ⊢; rw [List.getElem?_append_left h5]; exact h4
        · exact h4
      · rw [falP_succ]; split
        · simp
        · exact h5
end Go.Av
namespace Go.Av
open Go
theorem prop_cf {L : List (List Int)} : ∀ (k : Nat) (a : List Int) (st : List (Int × Int)), (prop L k a st).2.2 = true → conf L (prop L k a st).1 = true
  | 0, a, st, h => h
  | k + 1, a, st, h => by
    unfold prop at h ⊢
    by_cases hc : conf L a = true
    · rw [if_pos hc]; exact hc
    · rw [if_neg hc] at h ⊢
      by_cases hu : uix L a = -1
      · rw [if_pos hu] at h; cases h
      · rw [if_neg hu] at h ⊢; exact prop_cf k _ _ h
def tlG (L M : List (List Int)) (k : Nat) : List (List Int) := L ++ M.take k
def tlP (L M : List (List Int)) (k : Nat) : List Int × List (Int × Int) × Bool := propR (tlG L M k) (ngL (gl M k))
def tlC (L M : List (List Int)) (k : Nat) : Int := fidx (fun c => decide (cval (gl (tlG L M k) c) (tlP L M k).1 < 0)) (tlG L M k).length
theorem fst_fol {L M : List (List Int)} {k : Nat} (hk : k < M.length) (h : fstU L M < 0) : folU L M k = true := by
  cases hh : folU L M k with
  | true => rfl
  | false =>
    exfalso
    unfold fstU fidx at h
    split at h
    · omega
    · rename_i hn
      exact List.find?_eq_none.1 hn k (List.mem_range.2 hk) (by simp [hh])
theorem tl_false {L M : List (List Int)} {k : Nat} (h : folU L M k = true) : 0 < (falP (tlG L M k) (tlP L M k).1 (tlG L M k).length).length ∧ gd (falP (tlG L M k) (tlP L M k).1 (tlG L M k).length) 0 = tlC L M k := by
  have hc : conf (tlG L M k) (tlP L M k).1 = true := prop_cf _ _ _ h
  rw [conf_fal, decide_eq_true_iff] at hc
  rcases falP_fidx (L := tlG L M k) (a := (tlP L M k).1) (tlG L M k).length with ⟨h1, _⟩ | ⟨c, h1, h2, h3, h4, h5⟩
  · rw [h1] at hc; simp at hc
  · refine ⟨h5, ?_⟩
    rw [h4]
    exact (fidx_found (p := fun c => decide (cval (gl (tlG L M k) c) (tlP L M k).1 < 0)) h1 (by simpa using h2) (fun j hj => by simpa using h3 j hj)).symm
def tlS (vars : Int) (L M : List (List Int)) (k : Int) : List (Int × Int) := if shOk vars L M k then (tlP L M k.toNat).2.1 else []
def tlN (vars : Int) (L M : List (List Int)) (k : Int) : Int := if shOk vars L M k then tlC L M k.toNat else 0
theorem sh_fol {vars : Int} {L M : List (List Int)} {k : Int} (h : shOk vars L M k = true) : folU L M k.toNat = true := by
  have h1 := (shOk_spec h).2.2
  simp only [shOk, lrnB, Bool.and_eq_true, decide_eq_true_eq] at h
  exact fst_fol h1 h.1.2
theorem tlS_len (vars : Int) (L M : List (List Int)) (k : Int) : (tlS vars L M k).length ≤ 13 := by
  unfold tlS; split
  · rename_i h
    obtain ⟨h1, h2, h3⟩ := shOk_spec h
    exact (propR_ok (L := tlG L M k.toNat) (bef_cl h1 k.toNat) (ngL_cl ((listB_spec h1).2.2 _ h3))).2.2
  · simp
end Go.Av
namespace Go.Av
open Go Go.Proofs Go.Sort
set_option maxRecDepth 10000


theorem false9g_c (vars : Int) (L : List (List Int)) (a : List Int) (hcl : ∀ i, i < L.length → clB vars (gl L i) = true) (hL : L.length ≤ 1048576) (ha : a.length ≤ 1048576) : ACall Tryz.prog 33 [.agg [.int .i64 vars, .sl (sls L) L.length], .sl (icells a) a.length] [] (.int .i64 (fidx (fun c => decide (cval (gl L c) a < 0)) L.length)) [] := by
  refine ACall.intro Tryz.func33 rfl (N := 22) rfl (by decide) (by simp) ?_
  refine a_seq ?_
  refine a_region ?_
  refine r_new (v := .op [.int _ _, .sl _ _]) (q_box (.inl rfl) rfl rfl) rfl rfl (by decide) ?_
  refine r_val (v := .int _ _) (v_assign (.inl rfl) (noOwn_flat rfl)) rfl rfl (by decide) ?_
  refine r_nil ?_
  refine a_seq ?_
  refine a_seq ?_
  refine a_region ?_
  refine r_val (v := .int _ _) (v_assign (.inl rfl) (noOwn_flat rfl)) rfl rfl (by decide) ?_
  refine r_nil ?_
  refine a_block ?_
  refine a_loop (X := Nat) (fun i => look [(1, .sl (icells a) a.length), (2, .op [.int .i64 vars, .sl (sls L) L.length]), (5, .int .i64 ((i : Nat) : Int))]) (fun i => i ≤ L.length ∧ ∀ j, j < i → decide (cval (gl L j) a < 0) = false) (fun i => L.length - i) 0 (ent_look ⟨Weak.of_eq rfl, Weak.of_eq rfl, Weak.of_eq rfl, trivial⟩) ⟨Nat.zero_le _, fun j h => by omega⟩ (fun i hG => ?_)
  obtain ⟨g1, g2⟩ := hG
  refine a_seq ?_
  refine a_seq ?_
  refine a_region ?_
  refine r_val (v := .int _ _) (v_move (.inl rfl) (noOwn_flat rfl)) rfl rfl (by decide) ?_
  refine r_val (v := .rp _ _) (v_fieldAddr_rp fo30_1 (.inl rfl)) rfl rfl (by decide) ?_
  refine r_val (v := .sl _ _) (v_load_rp1 ta22 (.inl rfl) rfl (fun _ => rfl) rfl) rfl rfl (by decide) ?_
  refine r_val (v := .int _ _) (v_len_sl sl22 (.inl rfl)) rfl rfl (by decide) ?_
  refine r_val (v := .bool _) (v_lss (.inl rfl) (.inl rfl)) rfl rfl (by decide) ?_
  refine r_nil ?_
  refine a_cond rfl (fun ht10 => ?_) (fun ht10 => ?_)
  ·
    skip
    refine a_skip ?_
    refine a_seq ?_
    refine a_block ?_
    refine a_seq ?_
    have hi : i < L.length := (by simp at ht10; omega)
    have hcl9 := clB_len (hcl i hi)
    refine a_region ?_
    refine r_val (v := .rp _ _) (v_fieldAddr_rp fo30_1 (.inl rfl)) rfl rfl (by decide) ?_
    refine r_val (v := .sl _ _) (v_load_rp1 ta22 (.inl rfl) rfl (fun _ => rfl) rfl) rfl rfl (by decide) ?_
    refine r_val (v := .int _ _) (v_move (.inl rfl) (noOwn_flat rfl)) rfl rfl (by decide) ?_
    refine r_val (v := .pp _ _) (v_indexAddr_sl es22 (.inl rfl) (.inl rfl) (fun _ => ⟨by omega, by omega, sls_ne hi⟩)) rfl rfl (by decide) ?_
    refine r_val (v := .sl (icells (gl L i)) (gl L i).length) (v_load_pp ta40 (.inl rfl) (fun _ => by rw [Nat.mul_one]; exact sls_get hi) rfl) rfl rfl (by decide) ?_
    refine r_val (v := .sl _ _) (v_move (.inl rfl) (noOwn_flat rfl)) rfl rfl (by decide) ?_
    refine r_new (v := .int _ _) (q_call (vs := [.sl _ _, .sl _ _]) (args := [.sl _ _, .sl _ _]) hb47 ⟨.inl rfl, .inl rfl, trivial⟩ rfl (fun hA => sClv_c (gl L i) a (clB_sm (hcl i hi)) (by omega) ha) rfl rfl) rfl rfl (by decide) ?_
    refine r_val (v := .bool _) (v_lss (.inl rfl) (.inl rfl)) rfl rfl (by decide) ?_
    refine r_nil ?_
    refine a_cond rfl (fun ht20 => ?_) (fun ht20 => ?_)
    ·
      skip
      refine a_seq ?_
      refine a_region ?_
      refine r_val (v := .int _ _) (v_move (.inl rfl) (noOwn_flat rfl)) rfl rfl (by decide) ?_
      refine r_val (v := .int _ _) (v_assign (.inl rfl) (noOwn_flat rfl)) rfl rfl (by decide) ?_
      refine r_nil ?_
      refine a_ret ?_
      refine ret1 Tryz.results33 (by decide) (by decide) (Weak.of_eq (int_eq ?_)) rfl Leaves.nil
      exact (fidx_found (p := fun c => decide (cval (gl L c) a < 0)) hi ht20 g2).symm
    ·
      skip
      refine a_skip ?_
      refine a_region ?_
      refine r_val (v := .int _ _) (v_move (.inl rfl) (noOwn_flat rfl)) rfl rfl (by decide) ?_
      refine r_val (v := .int _ _) (v_add (.inl rfl) (.inl rfl) (fun _ => by omega)) rfl rfl (by decide) ?_
      refine r_val (v := .int _ _) (v_assign (.inl rfl) (noOwn_flat rfl)) rfl rfl (by decide) ?_
      refine r_nil ?_
      refine ⟨i + 1, ent_look ⟨Weak.of_eq rfl, Weak.of_eq rfl, Weak.of_eq (int_eq (by omega)), trivial⟩, ⟨by omega, fun j h1 => by rcases Nat.lt_or_ge j i with h | h; exact g2 j h; (obtain rfl : j = i := by omega); exact ht20⟩, by omega⟩
  ·
    skip
    refine a_exit ?_
    refine a_seq ?_
    refine a_region ?_
    refine r_val (v := .int _ _) (v_assign (.inl rfl) (noOwn_flat rfl)) rfl rfl (by decide) ?_
    refine r_nil ?_
    refine a_ret ?_
    refine ret1 Tryz.results33 (by decide) (by decide) (Weak.of_eq (int_eq ?_)) rfl Leaves.nil
    simp at ht10; exact (fidx_none (p := fun c => decide (cval (gl L c) a < 0)) (fun j hj => g2 j (by omega))).symm
end Go.Av
namespace Go.Av
open Go Go.Proofs Go.Sort
set_option maxRecDepth 10000


theorem trail_c (vars : Int) (L M : List (List Int)) (k : Nat) (hlb : listB vars L M = true) (hk : k < M.length) (hf : folU L M k = true) : ACall Tryz.prog 24 [.agg [.int .i64 vars, .sl (sls L) L.length], .sl (sls M) M.length, .int .i64 ((k : Nat) : Int)] [] (.tup [.osl 2 (tcells (propR (L ++ M.take k) (ngL (gl M k))).2.1) (propR (L ++ M.take k) (ngL (gl M k))).2.1.length none, .int .i64 (tlC L M k)]) [] := by
  obtain ⟨hlc, hlm, hlr⟩ := listB_spec hlb
  have hcs := cnfB_spec hlc
  have hcc := hlr _ hk
  have hlen := clB_len hcc
  have hGc := bef_cl hlb k
  have hGl := bef_len L M k
  have hnc := ngL_cl hcc
  have hnl := ngL_len (gl M k)
  have hsc := clB_sm hcc
  have hpo := propR_ok (L := (L ++ M.take k)) hGc hnc
  have htf : 0 < (falP (L ++ M.take k) (propR (L ++ M.take k) (ngL (gl M k))).1 (L ++ M.take k).length).length ∧ gd (falP (L ++ M.take k) (propR (L ++ M.take k) (ngL (gl M k))).1 (L ++ M.take k).length) 0 = tlC L M k := tl_false hf
  have hfl := falP_len (L ++ M.take k) (propR (L ++ M.take k) (ngL (gl M k))).1 (L ++ M.take k).length
  refine ACall.intro Tryz.func24 rfl (N := 33) rfl (by decide) (by simp) ?_
  refine a_seq ?_
  refine a_region ?_
  refine r_new (v := .op [.int _ _, .sl _ _]) (q_box (.inl rfl) rfl rfl) rfl rfl (by decide) ?_
  refine r_val (v := .nils) (v_assign (.inl rfl) (noOwn_flat rfl)) rfl rfl (by decide) ?_
  refine r_val (v := .int _ _) (v_assign (.inl rfl) (noOwn_flat rfl)) rfl rfl (by decide) ?_
  refine r_nil ?_
  refine a_seq ?_
  refine a_region ?_
  refine r_val (v := .agg [.int _ _, .sl _ _]) (v_load_rpa1 ta30 (.inl rfl) rfl rfl (fun _ => rfl) rfl) rfl rfl (by decide) ?_
  refine r_val (v := .sl _ _) (v_move (.inl rfl) (noOwn_flat rfl)) rfl rfl (by decide) ?_
  refine r_val (v := .int _ _) (v_move (.inl rfl) (noOwn_flat rfl)) rfl rfl (by decide) ?_
  refine r_new (v := .osl _ _ _ _) (q_callF (vs := [.agg [.int _ _, .sl _ _], .sl _ _, .int _ _]) (args := [.agg [.int .i64 _, .sl _ _], .sl _ _, .int .i64 _]) hb36 ⟨.inl rfl, .inl rfl, .inl rfl, trivial⟩ rfl (fun hA => before_c vars L M k (by omega) (by omega)) rfl (sls_noRef _)) rfl rfl (by decide) ?_
  refine r_val (v := .rsl _ _ _ _ _) (v_assign (.inl rfl) (noOwn_flat rfl)) rfl rfl (by decide) ?_
  refine r_pre (ent_reloc_sl (t := 8) rfl rfl) ?_
  refine r_nil ?_
  refine a_seq ?_
  refine a_region ?_
  refine r_val (v := .rsl _ _ _ _ _) (v_move (.inl rfl) (noOwn_flat rfl)) rfl rfl (by decide) ?_
  refine r_val (v := .sl _ _) (v_move (.inl rfl) (noOwn_flat rfl)) rfl rfl (by decide) ?_
  refine r_val (v := .int _ _) (v_move (.inl rfl) (noOwn_flat rfl)) rfl rfl (by decide) ?_
  refine r_val (v := .pp _ _) (v_indexAddr_sl es22 (.inl rfl) (.inl rfl) (fun _ => ⟨by omega, by omega, sls_ne hk⟩)) rfl rfl (by decide) ?_
  refine r_val (v := .sl (icells (gl M k)) (gl M k).length) (v_load_pp ta40 (.inl rfl) (fun _ => by rw [Nat.mul_one]; exact sls_get hk) rfl) rfl rfl (by decide) ?_
  refine r_new (v := .osl _ _ _ _) (q_call (vs := [.sl _ _]) (args := [.sl _ _]) hb38 ⟨.inl rfl, trivial⟩ rfl (fun hA => negated_c (gl M k) hsc (by omega)) (ic_noSh _) (ic_noRef _)) rfl rfl (by decide) ?_
  refine r_new (v := .tup [.osl _ _ _ _, .osl _ _ _ _, .bool _]) (q_call (vs := [.rsl _ _ _ _ _, .rsl _ _ _ _ _]) (args := [.sl _ _, .sl _ _]) hb37 ⟨.inl rfl, .inl rfl, trivial⟩ (l2_eq (sl_sh (sls_pure _)) (sl_sh (ic_pure _))) (fun hA => iProp_c vars (L ++ M.take k) (ngL (gl M k)) hGc (by omega) (by omega) hnc) (by simp [noSh, noShL, ic_noSh, tc_noSh]) (by simp [noRef, noRefL, ic_noRef, tc_noRef])) rfl rfl (by decide) ?_
  refine r_val (v := .tup [.rsl _ _ _ _ _, .rsl _ _ _ _ _, .bool _]) (v_mv rfl) rfl rfl (by decide) ?_
  refine r_val (v := .rsl _ _ _ _ _) (v_extract rfl rfl) rfl rfl (by decide) ?_
  refine r_val (v := .rsl _ _ _ _ _) (v_extract rfl rfl) rfl rfl (by decide) ?_
  refine r_val (v := .bool _) (v_extract rfl rfl) rfl rfl (by decide) ?_
  refine r_val (v := .rsl _ _ _ _ _) (v_assign (.inl rfl) (noOwn_flat rfl)) rfl rfl (by decide) ?_
  refine r_pre (ent_reloc_sl (t := 9) rfl rfl) ?_
  refine r_val (v := .rsl _ _ _ _ _) (v_assign (.inl rfl) (noOwn_flat rfl)) rfl rfl (by decide) ?_
  refine r_pre (ent_reloc_sl (t := 10) rfl rfl) ?_
  refine r_val (v := .bool _) (v_assign (.inl rfl) (noOwn_flat rfl)) rfl rfl (by decide) ?_
  refine r_nil ?_
  refine a_seq ?_
  refine a_region_any mixed (by kernel_rfl) ?_
  refine y_val (v := .rsl _ _ _ _ _) (v_move (.inl rfl) (noOwn_flat rfl)) rfl rfl (by decide) (by kernel_rfl) ?_
  refine y_val (v := .rsl _ _ _ _ _) (v_move (.inl rfl) (noOwn_flat rfl)) rfl rfl (by decide) (by kernel_rfl) ?_
  refine y_val (v := .rsl _ _ _ _ _) (v_move (.inl rfl) (noOwn_flat rfl)) rfl rfl (by decide) (by kernel_rfl) ?_
  refine y_new (v := .osl _ _ _ _) (q_call (vs := [.rsl _ _ _ _ _, .rsl _ _ _ _ _]) (args := [.sl _ _, .sl _ _]) hb39 ⟨.inl rfl, .inl rfl, trivial⟩ (l2_eq (sl_sh (sls_pure _)) (sl_sh (ic_pure _))) (fun hA => iFal_c vars (L ++ M.take k) (propR (L ++ M.take k) (ngL (gl M k))).1 hGc (by omega) (by omega)) (ic_noSh _) (ic_noRef _)) rfl rfl (by decide) (by kernel_rfl) ?_
  refine y_val (v := .rp _ _) (v_indexAddr_rsl0 es40 (.inl rfl) (.inl rfl) (fun _ => by omega)) rfl rfl (by decide) (by kernel_rfl) ?_
  refine y_val (v := .int .i64 (tlC L M k)) (v_load_rp1 ta3 (.inl rfl) rfl (fun _ => by have h9 := icells_get (gd_get htf.1); rw [htf.2] at h9; exact h9) rfl) rfl rfl (by decide) (by kernel_rfl) ?_
  refine y_val (v := .rsl _ _ _ _ _) (v_assign (.inl rfl) (noOwn_flat rfl)) rfl rfl (by decide) (by kernel_rfl) ?_
  refine y_val (v := .int _ _) (v_assign (.inl rfl) (noOwn_flat rfl)) rfl rfl (by decide) (by kernel_rfl) ?_
  refine y_nil ?_
  refine a_pre (ent_reloc_sl (t := 6) rfl rfl) ?_
  refine a_ret ?_
  refine retL (rs := [.tmp 6, .tmp 7]) [(6, .osl _ _ _ none), (7, _)] ⟨Weak.osl rfl rfl, Weak.rfl, trivial⟩ rfl Tryz.results24 (by decide) ⟨by decide, by decide, rfl⟩ (by decide) (by decide) (l2_eq (osl_eq2 ?_ ?_) (int_eq ?_)) (by simp [refsL, refs])
  all_goals rfl
end Go.Av
namespace Go.Av
open Go Go.Proofs Go.Sort
set_option maxRecDepth 10000
theorem hb33 : hasBody Tryz.prog 33 = true := by kernel_rfl

theorem trail11_c (vars : Int) (L M : List (List Int)) (k : Nat) (hlb : listB vars L M = true) (hk : k < M.length) (hf : folU L M k = true) : ACall Tryz.prog 20 [.agg [.int .i64 vars, .sl (sls L) L.length], .sl (sls M) M.length, .int .i64 ((k : Nat) : Int)] [] (.tup [.osl 2 (tcells (propR (L ++ M.take k) (ngL (gl M k))).2.1) (propR (L ++ M.take k) (ngL (gl M k))).2.1.length none, .int .i64 (tlC L M k)]) [] := by
  obtain ⟨hlc, hlm, hlr⟩ := listB_spec hlb
  have hcs := cnfB_spec hlc
  have hcc := hlr _ hk
  have hlen := clB_len hcc
  have hGc := bef_cl hlb k
  have hGl := bef_len L M k
  have hnc := ngL_cl hcc
  have hnl := ngL_len (gl M k)
  have hsc := clB_sm hcc
  have hpo := propR_ok (L := (L ++ M.take k)) hGc hnc
  have htf : 0 < (falP (L ++ M.take k) (propR (L ++ M.take k) (ngL (gl M k))).1 (L ++ M.take k).length).length ∧ gd (falP (L ++ M.take k) (propR (L ++ M.take k) (ngL (gl M k))).1 (L ++ M.take k).length) 0 = tlC L M k := tl_false hf
  have hfl := falP_len (L ++ M.take k) (propR (L ++ M.take k) (ngL (gl M k))).1 (L ++ M.take k).length
  refine ACall.intro Tryz.func20 rfl (N := 32) rfl (by decide) (by simp) ?_
  refine a_seq ?_
  refine a_region ?_
  refine r_new (v := .op [.int _ _, .sl _ _]) (q_box (.inl rfl) rfl rfl) rfl rfl (by decide) ?_
  refine r_val (v := .nils) (v_assign (.inl rfl) (noOwn_flat rfl)) rfl rfl (by decide) ?_
  refine r_val (v := .int _ _) (v_assign (.inl rfl) (noOwn_flat rfl)) rfl rfl (by decide) ?_
  refine r_nil ?_
  refine a_seq ?_
  refine a_region_z (n := 6) [[(12, true)], [(13, true)], [(14, true)], [(15, true)], [(16, true)], [(8, true)]] mixed (by kernel_rfl) ?_
  refine z_val (v := .agg [.int _ _, .sl _ _]) (v_load_rpa1 ta30 (.inl rfl) rfl rfl (fun _ => rfl) rfl) rfl rfl (by decide) rfl (by kernel_rfl) ?_
  refine z_val (v := .sl _ _) (v_move (.inl rfl) (noOwn_flat rfl)) rfl rfl (by decide) rfl (by kernel_rfl) ?_
  refine z_val (v := .int _ _) (v_move (.inl rfl) (noOwn_flat rfl)) rfl rfl (by decide) rfl (by kernel_rfl) ?_
  refine z_val (v := .sl (sls (M.take k)) k) ((v_slice_sl (l := 0) (h := k) es22 (.inl rfl) (.inl ⟨rfl, rfl⟩) (.inr ⟨_, _, rfl, .inl rfl⟩) (fun _ => by omega)).cast (sl_eq2 (by simp [sls]) (by omega))) rfl rfl (by decide) rfl (by kernel_rfl) ?_
  refine z_new (v := .agg [.int _ _, .osl _ _ _ _]) (q_callF (vs := [.agg [.int _ _, .sl _ _], .sl _ _]) (args := [.agg [.int .i64 _, .sl _ _], .sl _ _]) hb30 ⟨.inl rfl, .inl rfl, trivial⟩ rfl (fun hA => with_c vars L (M.take k) k (by rw [List.length_take]; omega) (by omega)) rfl (by simp [noRef, noRefL, sls_noRef])) rfl rfl (by decide) rfl (by kernel_rfl) ?_
  refine z_new (v := .op [.int _ _, .nils]) (q_alloc zc30) rfl rfl (by decide) rfl (by kernel_rfl) ?_
  refine z_nil ?_
  refine r_step rfl (o_store_own (v := .agg [.int _ _, .osl _ _ _ _]) (y' := .op [.int _ _, .osl _ _ _ _]) rfl rfl ta30 (.inl rfl) (by decide) rfl (by decide) rfl (by simp [cellsOf, noRefL, noRef, sls_noRef]) rfl rfl rfl rfl rfl (Nat.le_of_ble_eq_true rfl) rfl rfl) ?_
  refine r_nil ?_
  refine a_seq ?_
  refine a_region_any mixed (by kernel_rfl) ?_
  refine y_val (v := .agg [.int _ _, .rsl _ _ _ _ _]) (v_load_rpa (xs := [.int _ _, .osl _ _ _ _]) ta30 (.inl rfl) rfl rfl (fun _ => take_get rfl)) rfl rfl (by decide) (by kernel_rfl) ?_
  refine y_val (v := .sl _ _) (v_move (.inl rfl) (noOwn_flat rfl)) rfl rfl (by decide) (by kernel_rfl) ?_
  refine y_val (v := .int _ _) (v_move (.inl rfl) (noOwn_flat rfl)) rfl rfl (by decide) (by kernel_rfl) ?_
  refine y_val (v := .pp _ _) (v_indexAddr_sl es22 (.inl rfl) (.inl rfl) (fun _ => ⟨by omega, by omega, sls_ne hk⟩)) rfl rfl (by decide) (by kernel_rfl) ?_
  refine y_val (v := .sl (icells (gl M k)) (gl M k).length) (v_load_pp ta40 (.inl rfl) (fun _ => by rw [Nat.mul_one]; exact sls_get hk) rfl) rfl rfl (by decide) (by kernel_rfl) ?_
  refine y_new (v := .osl _ _ _ _) (q_call (vs := [.sl _ _]) (args := [.sl _ _]) hb32 ⟨.inl rfl, trivial⟩ rfl (fun hA => deny_c (gl M k) hsc (by omega)) (ic_noSh _) (ic_noRef _)) rfl rfl (by decide) (by kernel_rfl) ?_
  refine y_new (v := .tup [.osl _ _ _ _, .osl _ _ _ _, .bool _]) (q_call (vs := [.agg [.int _ _, .rsl _ _ _ _ _], .rsl _ _ _ _ _]) (args := [.agg [.int .i64 _, .sl _ _], .sl _ _]) hb31 ⟨.inl rfl, .inl rfl, trivial⟩ (l2_eq (agg_eq (l2_eq rfl (sl_sh (sls_pure _)))) (sl_sh (ic_pure _))) (fun hA => sProp_c vars (L ++ M.take k) (ngL (gl M k)) hGc (by omega) (by omega) hnc) (by simp [noSh, noShL, ic_noSh, tc_noSh]) (by simp [noRef, noRefL, ic_noRef, tc_noRef])) rfl rfl (by decide) (by kernel_rfl) ?_
  refine y_val (v := .tup [.rsl _ _ _ _ _, .rsl _ _ _ _ _, .bool _]) (v_mv rfl) rfl rfl (by decide) (by kernel_rfl) ?_
  refine y_val (v := .rsl _ _ _ _ _) (v_extract rfl rfl) rfl rfl (by decide) (by kernel_rfl) ?_
  refine y_val (v := .rsl _ _ _ _ _) (v_extract rfl rfl) rfl rfl (by decide) (by kernel_rfl) ?_
  refine y_val (v := .bool _) (v_extract rfl rfl) rfl rfl (by decide) (by kernel_rfl) ?_
  refine y_val (v := .rsl _ _ _ _ _) (v_assign (.inl rfl) (noOwn_flat rfl)) rfl rfl (by decide) (by kernel_rfl) ?_
  refine y_val (v := .rsl _ _ _ _ _) (v_assign (.inl rfl) (noOwn_flat rfl)) rfl rfl (by decide) (by kernel_rfl) ?_
  refine y_val (v := .bool _) (v_assign (.inl rfl) (noOwn_flat rfl)) rfl rfl (by decide) (by kernel_rfl) ?_
  refine y_nil ?_
  refine a_seq ?_
  refine a_pre (ent_reloc_sl (t := 9) rfl rfl) ?_
  refine a_pre (ent_reloc_sl (t := 10) rfl rfl) ?_
  refine a_region ?_
  refine r_val (v := .rsl _ _ _ _ _) (v_move (.inl rfl) (noOwn_flat rfl)) rfl rfl (by decide) ?_
  refine r_val (v := .agg [.int _ _, .rsl _ _ _ _ _]) (v_load_rpa (xs := [.int _ _, .osl _ _ _ _]) ta30 (.inl rfl) rfl rfl (fun _ => take_get rfl)) rfl rfl (by decide) ?_
  refine r_val (v := .rsl _ _ _ _ _) (v_move (.inl rfl) (noOwn_flat rfl)) rfl rfl (by decide) ?_
  refine r_new (v := .int .i64 (tlC L M k)) (q_call (vs := [.agg [.int _ _, .rsl _ _ _ _ _], .rsl _ _ _ _ _]) (args := [.agg [.int .i64 _, .sl _ _], .sl _ _]) hb33 ⟨.inl rfl, .inl rfl, trivial⟩ (l2_eq (agg_eq (l2_eq rfl (sl_sh (sls_pure _)))) (sl_sh (ic_pure _))) (fun hA => false9g_c vars (L ++ M.take k) (propR (L ++ M.take k) (ngL (gl M k))).1 hGc (by omega) (by omega)) rfl rfl) rfl rfl (by decide) ?_
  refine r_val (v := .rsl _ _ _ _ _) (v_assign (.inl rfl) (noOwn_flat rfl)) rfl rfl (by decide) ?_
  refine r_pre (ent_reloc_sl (t := 6) rfl rfl) ?_
  refine r_val (v := .int _ _) (v_assign (.inl rfl) (noOwn_flat rfl)) rfl rfl (by decide) ?_
  refine r_nil ?_
  refine a_ret ?_
  refine retL (rs := [.tmp 6, .tmp 7]) [(6, .osl _ _ _ none), (7, _)] ⟨Weak.osl rfl rfl, Weak.rfl, trivial⟩ rfl Tryz.results20 (by decide) ⟨by decide, by decide, rfl⟩ (by decide) (by decide) (l2_eq (osl_eq2 ?_ ?_) (int_eq ?_)) (by simp [refsL, refs])
  all_goals rfl
end Go.Av
namespace Go.Av
open Go Go.Proofs Go.Sort
set_option maxRecDepth 10000
theorem hb18 : hasBody Tryz.prog 18 = true := by kernel_rfl
theorem hb20 : hasBody Tryz.prog 20 = true := by kernel_rfl
theorem hb22 : hasBody Tryz.prog 22 = true := by kernel_rfl
theorem hb24 : hasBody Tryz.prog 24 = true := by kernel_rfl

theorem iTrl_c (vars : Int) (L M : List (List Int)) (hk : CnfOk vars L) (hm : CnfOk vars M) (k : Int) (hvk : -9223372036854775808 ≤ k ∧ k ≤ 9223372036854775807) : ACall Tryz.prog 9 [.agg [.int .i64 vars, .sl (sls L) L.length], .sl (sls M) M.length, .int .i64 k] [] (.tup [.osl 2 (tcells (tlS vars L M k)) (tlS vars L M k).length none, .int .i64 (tlN vars L M k), .bool (shOk vars L M k)]) [] := by
  have hk1 := hk.1
  have hm1 := hm.2.1
  have hm2 := hm.2.2.1
  refine ACall.intro Tryz.func9 rfl (N := 32) rfl (by decide) (by simp) ?_
  refine a_seq ?_
  refine a_region ?_
  refine r_new (v := .op [.int _ _, .sl _ _]) (q_box (.inl rfl) rfl rfl) rfl rfl (by decide) ?_
  refine r_val (v := .nils) (v_assign (.inl rfl) (noOwn_flat rfl)) rfl rfl (by decide) ?_
  refine r_val (v := .int _ _) (v_assign (.inl rfl) (noOwn_flat rfl)) rfl rfl (by decide) ?_
  refine r_val (v := .bool _) (v_assign (.inl rfl) (noOwn_flat rfl)) rfl rfl (by decide) ?_
  refine r_nil ?_
  refine a_seq ?_
  refine a_seq ?_
  refine a_region ?_
  refine r_val (v := .agg [.int _ _, .sl _ _]) (v_load_rpa1 ta30 (.inl rfl) rfl rfl (fun _ => rfl) rfl) rfl rfl (by decide) ?_
  refine r_val (v := .sl _ _) (v_move (.inl rfl) (noOwn_flat rfl)) rfl rfl (by decide) ?_
  refine r_new (v := .bool _) (q_call (vs := [.agg [.int _ _, .sl _ _], .sl _ _]) (args := [.agg [.int .i64 _, .sl _ _], .sl _ _]) hb22 ⟨.inl rfl, .inl rfl, trivial⟩ rfl (fun hA => learned_c vars L M hk hm) rfl rfl) rfl rfl (by decide) ?_
  refine r_val (v := .bool _) (v_not (.inl rfl)) rfl rfl (by decide) ?_
  refine r_val (v := .bool _) (v_move (.inl rfl) (noOwn_flat rfl)) rfl rfl (by decide) ?_
  refine r_gval (v := .int _ _) (v_move (.inl rfl) (noOwn_flat rfl)) rfl rfl rfl (by decide) (.inl ⟨_, rfl, rfl⟩) rfl (by decide) ?_
  refine r_gval (v := .sl _ _) (v_move (.inl rfl) (noOwn_flat rfl)) rfl rfl rfl (by decide) (.inl ⟨_, rfl, rfl⟩) rfl (by decide) ?_
  refine r_gval (v := .int _ _) (v_len_sl sl22 (.inr ⟨_, rfl, fun h => h⟩)) rfl rfl rfl (by decide) (.inl ⟨_, rfl, rfl⟩) rfl (by decide) ?_
  refine r_gval (v := .int _ _) (v_sub (.inr ⟨_, rfl, fun h => h⟩) (.inl rfl) (fun _ => by omega)) rfl rfl rfl (by decide) (.inl ⟨_, rfl, rfl⟩) rfl (by decide) ?_
  refine r_guard (v := .bool _) (q_call (vs := [.int _ _, .int _ _, .int _ _]) (args := [.int .i64 _, .int .i64 _, .int .i64 _]) hb23 ⟨.inr ⟨_, rfl, fun h => h⟩, .inl rfl, .inr ⟨_, rfl, fun h => h⟩, trivial⟩ rfl (fun hA => within_c _ _ _) rfl rfl) rfl rfl rfl (by decide) (.inl ⟨_, rfl, rfl⟩) rfl (by decide) ?_
  refine r_gval (v := .bool _) (v_not (.inr ⟨_, rfl, fun h => h⟩)) rfl rfl rfl (by decide) (.inl ⟨_, rfl, rfl⟩) rfl (by decide) ?_
  refine r_val (v := .bool _) (v_pick (.inl rfl) (.inl rfl) (.inr ⟨_, rfl, fun h h2 => by simp_all⟩)) rfl rfl (by decide) ?_
  refine r_nil ?_
  refine a_cond rfl (fun ht22 => ?_) (fun ht22 => ?_)
  ·
    skip
    refine a_seq ?_
    refine a_region ?_
    refine r_val (v := .nils) (v_assign (.inl rfl) (noOwn_flat rfl)) rfl rfl (by decide) ?_
    refine r_val (v := .int _ _) (v_assign (.inl rfl) (noOwn_flat rfl)) rfl rfl (by decide) ?_
    refine r_val (v := .bool _) (v_assign (.inl rfl) (noOwn_flat rfl)) rfl rfl (by decide) ?_
    refine r_nil ?_
    refine a_pre (ent_nil (t := 6) (sz := 2) (cap := none) (.inl rfl) (fun _ h => by cases h)) ?_
    refine a_ret ?_
    refine retL (rs := [.tmp 6, .tmp 7, .tmp 8]) [(6, .osl _ _ _ none), (7, _), (8, _)] ⟨Weak.osl rfl rfl, Weak.rfl, Weak.rfl, trivial⟩ rfl Tryz.results9 (by decide) ⟨by decide, by decide, by decide, rfl⟩ (by decide) (by decide) (l3_eq (osl_eq2 ?_ ?_) (int_eq ?_) (bool_eq ?_)) (by simp [refsL, refs])
    all_goals (have hf : (shOk vars L M k) = false := (by unfold shOk; cases h1 : lrnB vars L M <;> simp_all); first | (unfold tlS; rw [hf]; simp [tcells, rep]; done) | (unfold tlN; rw [hf]; rfl) | rw [hf])
  ·
    skip
    refine a_skip ?_
    refine a_seq ?_
    have hok : (shOk vars L M k) = true := (by unfold shOk; cases h1 : lrnB vars L M <;> simp_all)
    obtain ⟨hlb, hk0, hkl⟩ := shOk_spec hok
    have hfo := sh_fol hok
    refine a_region ?_
    refine r_val (v := .agg [.int _ _, .sl _ _]) (v_load_rpa1 ta30 (.inl rfl) rfl rfl (fun _ => rfl) rfl) rfl rfl (by decide) ?_
    refine r_val (v := .sl _ _) (v_move (.inl rfl) (noOwn_flat rfl)) rfl rfl (by decide) ?_
    refine r_val (v := .int .i64 ((k.toNat : Nat) : Int)) ((v_move (.inl rfl) (noOwn_flat rfl)).cast (int_eq (by omega))) rfl rfl (by decide) ?_
    refine r_new (v := .tup [.osl _ _ _ _, .int _ _]) (q_call (vs := [.agg [.int _ _, .sl _ _], .sl _ _, .int _ _]) (args := [.agg [.int .i64 _, .sl _ _], .sl _ _, .int .i64 _]) hb24 ⟨.inl rfl, .inl rfl, .inl rfl, trivial⟩ rfl (fun hA => trail_c vars L M k.toNat hlb hkl hfo) (by simp [noSh, noShL, tc_noSh]) (by simp [noRef, noRefL, tc_noRef])) rfl rfl (by decide) ?_
    refine r_val (v := .tup [.rsl _ _ _ _ _, .int _ _]) (v_mv rfl) rfl rfl (by decide) ?_
    refine r_val (v := .rsl _ _ _ _ _) (v_extract rfl rfl) rfl rfl (by decide) ?_
    refine r_val (v := .int _ _) (v_extract rfl rfl) rfl rfl (by decide) ?_
    refine r_val (v := .rsl _ _ _ _ _) (v_assign (.inl rfl) (noOwn_flat rfl)) rfl rfl (by decide) ?_
    refine r_pre (ent_reloc_sl (t := 9) rfl rfl) ?_
    refine r_val (v := .int _ _) (v_assign (.inl rfl) (noOwn_flat rfl)) rfl rfl (by decide) ?_
    refine r_nil ?_
    refine a_seq ?_
    refine a_region ?_
    refine r_val (v := .rsl _ _ _ _ _) (v_move (.inl rfl) (noOwn_flat rfl)) rfl rfl (by decide) ?_
    refine r_val (v := .int _ _) (v_move (.inl rfl) (noOwn_flat rfl)) rfl rfl (by decide) ?_
    refine r_val (v := .rsl _ _ _ _ _) (v_assign (.inl rfl) (noOwn_flat rfl)) rfl rfl (by decide) ?_
    refine r_pre (ent_reloc_sl (t := 6) rfl rfl) ?_
    refine r_val (v := .int _ _) (v_assign (.inl rfl) (noOwn_flat rfl)) rfl rfl (by decide) ?_
    refine r_val (v := .bool _) (v_assign (.inl rfl) (noOwn_flat rfl)) rfl rfl (by decide) ?_
    refine r_nil ?_
    refine a_ret ?_
    refine retL (rs := [.tmp 6, .tmp 7, .tmp 8]) [(6, .osl _ _ _ none), (7, _), (8, _)] ⟨Weak.osl rfl rfl, Weak.rfl, Weak.rfl, trivial⟩ rfl Tryz.results9 (by decide) ⟨by decide, by decide, by decide, rfl⟩ (by decide) (by decide) (l3_eq (osl_eq2 ?_ ?_) (int_eq ?_) (bool_eq ?_)) (by simp [refsL, refs])
    all_goals (first | (unfold tlS; rw [hok]; rfl) | (unfold tlN; rw [hok]; rfl) | rw [hok])

theorem sTrl_c (vars : Int) (L M : List (List Int)) (hk : CnfOk vars L) (hm : CnfOk vars M) (k : Int) (hvk : -9223372036854775808 ≤ k ∧ k ≤ 9223372036854775807) : ACall Tryz.prog 6 [.agg [.int .i64 vars, .sl (sls L) L.length], .sl (sls M) M.length, .int .i64 k] [] (.tup [.osl 2 (tcells (tlS vars L M k)) (tlS vars L M k).length none, .int .i64 (tlN vars L M k), .bool (shOk vars L M k)]) [] := by
  have hk1 := hk.1
  have hm1 := hm.2.1
  have hm2 := hm.2.2.1
  refine ACall.intro Tryz.func6 rfl (N := 33) rfl (by decide) (by simp) ?_
  refine a_seq ?_
  refine a_region ?_
  refine r_new (v := .op [.int _ _, .sl _ _]) (q_box (.inl rfl) rfl rfl) rfl rfl (by decide) ?_
  refine r_val (v := .nils) (v_assign (.inl rfl) (noOwn_flat rfl)) rfl rfl (by decide) ?_
  refine r_val (v := .int _ _) (v_assign (.inl rfl) (noOwn_flat rfl)) rfl rfl (by decide) ?_
  refine r_val (v := .bool _) (v_assign (.inl rfl) (noOwn_flat rfl)) rfl rfl (by decide) ?_
  refine r_nil ?_
  refine a_seq ?_
  refine a_seq ?_
  refine a_region ?_
  refine r_val (v := .agg [.int _ _, .sl _ _]) (v_load_rpa1 ta30 (.inl rfl) rfl rfl (fun _ => rfl) rfl) rfl rfl (by decide) ?_
  refine r_val (v := .sl _ _) (v_move (.inl rfl) (noOwn_flat rfl)) rfl rfl (by decide) ?_
  refine r_new (v := .bool _) (q_call (vs := [.agg [.int _ _, .sl _ _], .sl _ _]) (args := [.agg [.int .i64 _, .sl _ _], .sl _ _]) hb18 ⟨.inl rfl, .inl rfl, trivial⟩ rfl (fun hA => good11_c vars L M hk hm) rfl rfl) rfl rfl (by decide) ?_
  refine r_val (v := .bool _) (v_not (.inl rfl)) rfl rfl (by decide) ?_
  refine r_val (v := .bool _) (v_move (.inl rfl) (noOwn_flat rfl)) rfl rfl (by decide) ?_
  refine r_gval (v := .int _ _) (v_move (.inl rfl) (noOwn_flat rfl)) rfl rfl rfl (by decide) (.inl ⟨_, rfl, rfl⟩) rfl (by decide) ?_
  refine r_gval (v := .sl _ _) (v_move (.inl rfl) (noOwn_flat rfl)) rfl rfl rfl (by decide) (.inl ⟨_, rfl, rfl⟩) rfl (by decide) ?_
  refine r_gval (v := .int _ _) (v_len_sl sl22 (.inr ⟨_, rfl, fun h => h⟩)) rfl rfl rfl (by decide) (.inl ⟨_, rfl, rfl⟩) rfl (by decide) ?_
  refine r_gval (v := .int _ _) (v_sub (.inr ⟨_, rfl, fun h => h⟩) (.inl rfl) (fun _ => by omega)) rfl rfl rfl (by decide) (.inl ⟨_, rfl, rfl⟩) rfl (by decide) ?_
  refine r_guard (v := .bool _) (q_call (vs := [.int _ _, .int _ _, .int _ _]) (args := [.int .i64 _, .int .i64 _, .int .i64 _]) hb19 ⟨.inr ⟨_, rfl, fun h => h⟩, .inl rfl, .inr ⟨_, rfl, fun h => h⟩, trivial⟩ rfl (fun hA => l1In_c _ _ _) rfl rfl) rfl rfl rfl (by decide) (.inl ⟨_, rfl, rfl⟩) rfl (by decide) ?_
  refine r_gval (v := .bool _) (v_not (.inr ⟨_, rfl, fun h => h⟩)) rfl rfl rfl (by decide) (.inl ⟨_, rfl, rfl⟩) rfl (by decide) ?_
  refine r_val (v := .bool _) (v_pick (.inl rfl) (.inl rfl) (.inr ⟨_, rfl, fun h h2 => by simp_all⟩)) rfl rfl (by decide) ?_
  refine r_nil ?_
  refine a_cond rfl (fun ht22 => ?_) (fun ht22 => ?_)
  ·
    skip
    refine a_seq ?_
    refine a_region ?_
    refine r_new (v := .osl _ _ _ _) (q_sliceLit (n := 0) (parts := []) lt27 rfl rfl rfl rfl) rfl rfl (by decide) ?_
    refine r_val (v := .rsl _ _ _ _ _) (v_assign (.inl rfl) (noOwn_flat rfl)) rfl rfl (by decide) ?_
    refine r_pre (ent_reloc_sl (t := 6) rfl rfl) ?_
    refine r_val (v := .int _ _) (v_assign (.inl rfl) (noOwn_flat rfl)) rfl rfl (by decide) ?_
    refine r_val (v := .bool _) (v_assign (.inl rfl) (noOwn_flat rfl)) rfl rfl (by decide) ?_
    refine r_nil ?_
    refine a_ret ?_
    refine retL (rs := [.tmp 6, .tmp 7, .tmp 8]) [(6, .osl _ _ _ none), (7, _), (8, _)] ⟨Weak.osl rfl rfl, Weak.rfl, Weak.rfl, trivial⟩ rfl Tryz.results6 (by decide) ⟨by decide, by decide, by decide, rfl⟩ (by decide) (by decide) (l3_eq (osl_eq2 ?_ ?_) (int_eq ?_) (bool_eq ?_)) (by simp [refsL, refs])
    all_goals (have hf : (shOk vars L M k) = false := (by unfold shOk; cases h1 : lrnB vars L M <;> simp_all); first | (unfold tlS; rw [hf]; simp [tcells, rep]; done) | (unfold tlN; rw [hf]; rfl) | rw [hf])
  ·
    skip
    refine a_skip ?_
    refine a_seq ?_
    have hok : (shOk vars L M k) = true := (by unfold shOk; cases h1 : lrnB vars L M <;> simp_all)
    obtain ⟨hlb, hk0, hkl⟩ := shOk_spec hok
    have hfo := sh_fol hok
    refine a_region ?_
    refine r_val (v := .agg [.int _ _, .sl _ _]) (v_load_rpa1 ta30 (.inl rfl) rfl rfl (fun _ => rfl) rfl) rfl rfl (by decide) ?_
    refine r_val (v := .sl _ _) (v_move (.inl rfl) (noOwn_flat rfl)) rfl rfl (by decide) ?_
    refine r_val (v := .int .i64 ((k.toNat : Nat) : Int)) ((v_move (.inl rfl) (noOwn_flat rfl)).cast (int_eq (by omega))) rfl rfl (by decide) ?_
    refine r_new (v := .tup [.osl _ _ _ _, .int _ _]) (q_call (vs := [.agg [.int _ _, .sl _ _], .sl _ _, .int _ _]) (args := [.agg [.int .i64 _, .sl _ _], .sl _ _, .int .i64 _]) hb20 ⟨.inl rfl, .inl rfl, .inl rfl, trivial⟩ rfl (fun hA => trail11_c vars L M k.toNat hlb hkl hfo) (by simp [noSh, noShL, tc_noSh]) (by simp [noRef, noRefL, tc_noRef])) rfl rfl (by decide) ?_
    refine r_val (v := .tup [.rsl _ _ _ _ _, .int _ _]) (v_mv rfl) rfl rfl (by decide) ?_
    refine r_val (v := .rsl _ _ _ _ _) (v_extract rfl rfl) rfl rfl (by decide) ?_
    refine r_val (v := .int _ _) (v_extract rfl rfl) rfl rfl (by decide) ?_
    refine r_val (v := .rsl _ _ _ _ _) (v_assign (.inl rfl) (noOwn_flat rfl)) rfl rfl (by decide) ?_
    refine r_pre (ent_reloc_sl (t := 9) rfl rfl) ?_
    refine r_val (v := .int _ _) (v_assign (.inl rfl) (noOwn_flat rfl)) rfl rfl (by decide) ?_
    refine r_nil ?_
    refine a_seq ?_
    refine a_region ?_
    refine r_val (v := .rsl _ _ _ _ _) (v_move (.inl rfl) (noOwn_flat rfl)) rfl rfl (by decide) ?_
    refine r_val (v := .int _ _) (v_move (.inl rfl) (noOwn_flat rfl)) rfl rfl (by decide) ?_
    refine r_val (v := .rsl _ _ _ _ _) (v_assign (.inl rfl) (noOwn_flat rfl)) rfl rfl (by decide) ?_
    refine r_pre (ent_reloc_sl (t := 6) rfl rfl) ?_
    refine r_val (v := .int _ _) (v_assign (.inl rfl) (noOwn_flat rfl)) rfl rfl (by decide) ?_
    refine r_val (v := .bool _) (v_assign (.inl rfl) (noOwn_flat rfl)) rfl rfl (by decide) ?_
    refine r_nil ?_
    refine a_ret ?_
    refine retL (rs := [.tmp 6, .tmp 7, .tmp 8]) [(6, .osl _ _ _ none), (7, _), (8, _)] ⟨Weak.osl rfl rfl, Weak.rfl, Weak.rfl, trivial⟩ rfl Tryz.results6 (by decide) ⟨by decide, by decide, by decide, rfl⟩ (by decide) (by decide) (l3_eq (osl_eq2 ?_ ?_) (int_eq ?_) (bool_eq ?_)) (by simp [refsL, refs])
    all_goals (first | (unfold tlS; rw [hok]; rfl) | (unfold tlN; rw [hok]; rfl) | rw [hok])
end Go.Av
