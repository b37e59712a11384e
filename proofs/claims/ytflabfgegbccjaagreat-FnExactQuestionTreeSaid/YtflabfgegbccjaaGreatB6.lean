/- Lemmas, part 6. -/
import Derived.Test.YtflabfgegbccjaaGreatB5
import Derived.Laws.Cover1
set_option linter.unusedVariables false
set_option linter.unusedSimpArgs false
set_option maxRecDepth 10000
namespace Go.Av
open Go Go.Proofs Go.Sort
theorem hb34 : hasBody Tryz.prog 34 = true := by kernel_rfl
theorem hb75 : hasBody Tryz.prog 75 = true := by kernel_rfl
theorem keeps13_c (vars : Int) (L M : List (List Int)) (w : Int) (a : List Int) (hMl : M.length ≤ 1048576) (hM : AllA vars M) (has : ascM M) (hca : clB vars a = true) : ACall Tryz.prog 74 [.agg [.int .i64 vars, .sl (sls L) L.length], .int .i64 w, .sl (sls M) M.length, .sl (icells a) a.length] [] (.bool (keepsB vars w M a)) [] := by
 have hla := clB_len hca
 have hsm := clB_sm hca
 have hv12 := (clB_spec hca).1
 refine ACall.intro Tryz.func74 rfl (N := 67) rfl (by decide) (by simp) ?_
 refine aq ?_
 refine rn (v := .op [.int _ _, .sl _ _]) (q_box il rfl rfl) ?_
 refine ra (.bool _) ?_
 refine r_nil ?_
 refine a_seq ?_
 refine aq ?_
 refine ra (.int _ _) ?_
 refine r_nil ?_
 refine a_block ?_
 refine a_loop (X := Nat) (fun i => look [(1, .int .i64 w), (2, .sl (sls M) M.length), (3, .sl (icells a) a.length), (4, .op [.int .i64 vars, .sl (sls L) L.length]), (9, .int .i64 ((i : Nat) : Int))]) (fun i => i ≤ a.length ∧ ∀ j, j < i → decide (woS a (vr (gd a j)) ∈ M) = true) (fun i => a.length - i) 0 (ent_look ⟨wr, wr, wr, wr, wr, trivial⟩) ⟨Nat.zero_le _, fun j h => by omega⟩ (fun i hG => ?_)
 obtain ⟨g1, g2⟩ := hG
 refine a_seq ?_
 refine aq ?_
 refine rm (.int _ _) ?_
 refine rm (.sl _ _) ?_
 refine rv (v := .int _ _) (v_len_sl sl25 il) ?_
 refine rv (v := .bool _) (v_lss il il) ?_
 refine r_nil ?_
 refine a_cond rfl (fun ht14 => ?_) (fun ht14 => ?_)
 ·
  refine a_skip ?_
  refine a_seq ?_
  refine a_block ?_
  refine a_seq ?_
  have hi : i < a.length := (by simp at ht14; omega)
  have hsi := hsm i
  have hwc := wo_cl hca (vr (gd a i))
  have hmk := atL_neg has (woS a (vr (gd a i)))
  refine a_region ?_
  refine rm (.sl _ _) ?_
  refine rm (.sl _ _) ?_
  refine rm (.sl _ _) ?_
  refine rm (.int _ _) ?_
  refine rv (v := .pp _ _) (v_indexAddr_sl es25 il il (fun _ => ⟨by omega, by omega, icells_ne hi⟩)) ?_
  refine rv (v := .int .i64 (gd a i)) (v_load_pp ta3 il (fun _ => by rw [Nat.mul_one]; exact icells_get (gd_get hi)) rfl) ?_
  refine rn (v := .int _ _) (q_call (vs := [.int _ _]) (args := [.int .i64 _]) hb76 ⟨il, trivial⟩ rfl (fun hA => l2Var_c _ (by omega)) rfl rfl) ?_
  refine rn (v := .osl _ _ _ _) (q_call (vs := [.sl _ _, .int _ _]) (args := [.sl _ _, .int .i64 _]) hb75 ⟨il, il, trivial⟩ rfl (fun hA => l2Without_c a (vr (gd a i)) (by omega) hsm) (ic_noSh _) (ic_noRef _)) ?_
  refine rn (v := .int _ _) (q_call (vs := [.sl _ _, .rsl _ _ _ _ _]) (args := [.sl _ _, .sl _ _]) hb34 ⟨il, il, trivial⟩ (l2_eq rfl (sl_sh (ic_pure _))) (fun hA => at2_c vars M (woS a (vr (gd a i))) hMl hM has hwc) rfl rfl) ?_
  refine rv (v := .bool _) (v_lss il il) ?_
  refine r_nil ?_
  refine a_cond rfl (fun ht26 => ?_) (fun ht26 => ?_)
  ·
   refine aq ?_
   refine ra (.bool _) ?_
   refine r_nil ?_
   refine a_ret ?_
   refine ret1 Tryz.results74 (by decide) (by decide) (Weak.of_eq (bool_eq ?_)) rfl Leaves.nil
   unfold keepsB; rw [keepA_f hi (by rw [hmk] at ht26; simpa using ht26)]; rfl
  ·
   refine a_skip ?_
   refine a_region ?_
   refine rm (.int _ _) ?_
   refine rv (v := .int _ _) (v_add il il (fun _ => by omega)) ?_
   refine ra (.int _ _) ?_
   refine r_nil ?_
   refine ⟨i + 1, ent_look ⟨wr, wr, wr, wr, Weak.of_eq (int_eq (by omega)), trivial⟩, ⟨by omega, fun j h1 => by rcases Nat.lt_or_ge j i with h | h; exact g2 j h; (obtain rfl : j = i := by omega); rw [hmk] at ht26; simpa using ht26⟩, by omega⟩
 ·
  refine a_exit ?_
  refine a_seq ?_
  refine a_seq ?_
  have hkA : keepA M a = true := keepA_t fun k hk => g2 k (by simp at ht14; omega)
  refine a_region ?_
  refine ra (.int _ _) ?_
  refine r_nil ?_
  refine a_block ?_
  refine a_loop (X := Nat) (fun k => look [(1, .int .i64 w), (2, .sl (sls M) M.length), (3, .sl (icells a) a.length), (4, .op [.int .i64 vars, .sl (sls L) L.length]), (10, .int .i64 ((k : Int) + 1))]) (fun k => (k : Int) ≤ vars ∧ ∀ v, 1 ≤ v → v ≤ (k : Int) → keepV M a v = true) (fun k => vars.toNat - k) 0 (ent_look ⟨wr, wr, wr, wr, Weak.of_eq (int_eq (by omega)), trivial⟩) ⟨by omega, fun j h1 h2 => by omega⟩ (fun k hG => ?_)
  obtain ⟨k1, k2⟩ := hG
  refine a_seq ?_
  refine aq ?_
  refine rm (.int _ _) ?_
  refine rv (v := .rp _ _) (v_fieldAddr_rp fo29_0 il) ?_
  refine rv (v := .int _ _) (v_load_rp1 ta3 il rfl (fun _ => rfl) rfl) ?_
  refine rv (v := .bool _) (v_leq il il) ?_
  refine rm (.bool _) ?_
  refine rg (v := .sl _ _) (v_move il nf) ?_
  refine r_gval (v := .int _ _) (v_len_sl sl25 (.inr ⟨_, rfl, fun h => h⟩)) rfl rfl rfl (by decide) (.inl ⟨_, rfl, rfl⟩) rfl (by decide) ?_
  refine rg (v := .int _ _) (v_move il nf) ?_
  refine r_gval (v := .bool _) (v_leq (.inr ⟨_, rfl, fun h => h⟩) (.inr ⟨_, rfl, fun h => h⟩)) rfl rfl rfl (by decide) (.inl ⟨_, rfl, rfl⟩) rfl (by decide) ?_
  refine rv (v := .bool _) (v_pick (.inl rfl) (.inr ⟨_, rfl, fun h h2 => by simp_all⟩) (.inl rfl)) ?_
  refine r_nil ?_
  refine a_cond rfl (fun ht36 => ?_) (fun ht36 => ?_)
  ·
   refine a_skip ?_
   refine a_seq ?_
   refine a_block ?_
   refine a_seq ?_
   have hkk : ((k : Int) + 1) ≤ vars ∧ (a.length : Int) ≤ w := (by simpa using ht36)
   have hpc := fun ho => put_cl hca (v := ((k : Int) + 1)) ⟨by omega, hkk.1⟩ ho
   have hkv : (bif (bif (bif !decide (((k : Int) + 1) ∈ a) then !decide (-((k : Int) + 1) ∈ a) else false) then decide (atL M (putL a ((k : Int) + 1)) < 0) else false) then decide (atL M (putL a (-((k : Int) + 1))) < 0) else false) = !keepV M a ((k : Int) + 1) := (by rw [atL_neg has, atL_neg has]; unfold keepV opB; cases decide (((k : Int) + 1) ∈ a) <;> cases decide (-((k : Int) + 1) ∈ a) <;> cases decide ((putL a ((k : Int) + 1)) ∈ M) <;> cases decide ((putL a (-((k : Int) + 1))) ∈ M) <;> rfl)
   refine a_region ?_
   refine rm (.sl _ _) ?_
   refine rm (.int _ _) ?_
   refine rn (v := .bool _) (q_call (vs := [.sl _ _, .int _ _]) (args := [.sl _ _, .int .i64 _]) hb50 ⟨il, il, trivial⟩ rfl (fun hA => has2_c _ _ _ ⟨rfl, by omega⟩) rfl rfl) ?_
   refine rv (v := .bool _) (v_not il) ?_
   refine rm (.bool _) ?_
   refine rg (v := .sl _ _) (v_move il nf) ?_
   refine rg (v := .int _ _) (v_move il nf) ?_
   refine r_gval (v := .int _ _) (v_neg (.inr ⟨_, rfl, fun h => h⟩) (fun hA => by simp at hA; omega)) rfl rfl rfl (by decide) (.inl ⟨_, rfl, rfl⟩) rfl (by decide) ?_
   refine r_guard (v := .bool _) (q_call (vs := [.sl _ _, .int _ _]) (args := [.sl _ _, .int .i64 _]) hb50 ⟨.inr ⟨_, rfl, fun h => h⟩, .inr ⟨_, rfl, fun h => h⟩, trivial⟩ rfl (fun hA => has2_c _ _ _ ⟨rfl, by omega⟩) rfl rfl) rfl rfl rfl (by decide) (.inl ⟨_, rfl, rfl⟩) rfl (by decide) ?_
   refine r_gval (v := .bool _) (v_not (.inr ⟨_, rfl, fun h => h⟩)) rfl rfl rfl (by decide) (.inl ⟨_, rfl, rfl⟩) rfl (by decide) ?_
   refine rv (v := .bool _) (v_pick (.inl rfl) (.inr ⟨_, rfl, fun h h2 => by simp_all⟩) (.inl rfl)) ?_
   refine rm (.bool _) ?_
   refine rg (v := .sl _ _) (v_move il nf) ?_
   refine rg (v := .sl _ _) (v_move il nf) ?_
   refine rg (v := .int _ _) (v_move il nf) ?_
   refine r_guard (v := .sl (icells (putL a ((k : Int) + 1))) (putL a ((k : Int) + 1)).length) (QSem.cast (QSem.cast (q_callZ (vs := [.sl _ _, .int _ _]) (args := [.sl _ _, .int .i64 _]) hb78 ⟨.inr ⟨_, rfl, fun h => h⟩, .inr ⟨_, rfl, fun h => h⟩, trivial⟩ rfl (fun hA => put_c a a.length _ ⟨rfl, by omega⟩ hsm (by omega)) (ic_noSh _) (ic_noRef _)) (sl_shZ (ic_pure _))) (sl_eq2 rfl (putL_length _ _).symm)) rfl rfl rfl (by decide) (.inl ⟨_, rfl, rfl⟩) rfl (by decide) ?_
   refine r_guard (v := .int _ _) (q_call (vs := [.sl _ _, .sl _ _]) (args := [.sl _ _, .sl _ _]) hb34 ⟨.inr ⟨_, rfl, fun h => h⟩, .inr ⟨_, rfl, fun h => h⟩, trivial⟩ rfl (fun hA => at2_c vars M (putL a ((k : Int) + 1)) hMl hM has (hpc (show opB a ((k : Int) + 1) = true by unfold opB; revert hA; cases decide (((k : Int) + 1) ∈ a) <;> cases decide (-((k : Int) + 1) ∈ a) <;> simp)).1) rfl rfl) rfl rfl rfl (by decide) (.inl ⟨_, rfl, rfl⟩) rfl (by decide) ?_
   refine r_gval (v := .bool _) (v_lss (.inr ⟨_, rfl, fun h => h⟩) il) rfl rfl rfl (by decide) (.inl ⟨_, rfl, rfl⟩) rfl (by decide) ?_
   refine rv (v := .bool _) (v_pick (.inl rfl) (.inr ⟨_, rfl, fun h h2 => by simp_all⟩) (.inl rfl)) ?_
   refine rm (.bool _) ?_
   refine rg (v := .sl _ _) (v_move il nf) ?_
   refine rg (v := .sl _ _) (v_move il nf) ?_
   refine rg (v := .int _ _) (v_move il nf) ?_
   refine r_gval (v := .int _ _) (v_neg (.inr ⟨_, rfl, fun h => h⟩) (fun hA => by simp at hA; omega)) rfl rfl rfl (by decide) (.inl ⟨_, rfl, rfl⟩) rfl (by decide) ?_
   refine r_guard (v := .sl (icells (putL a (-((k : Int) + 1)))) (putL a (-((k : Int) + 1))).length) (QSem.cast (QSem.cast (q_callZ (vs := [.sl _ _, .int _ _]) (args := [.sl _ _, .int .i64 _]) hb78 ⟨.inr ⟨_, rfl, fun h => h⟩, .inr ⟨_, rfl, fun h => h⟩, trivial⟩ rfl (fun hA => put_c a a.length _ ⟨rfl, by omega⟩ hsm (by omega)) (ic_noSh _) (ic_noRef _)) (sl_shZ (ic_pure _))) (sl_eq2 rfl (putL_length _ _).symm)) rfl rfl rfl (by decide) (.inl ⟨_, rfl, rfl⟩) rfl (by decide) ?_
   refine r_guard (v := .int _ _) (q_call (vs := [.sl _ _, .sl _ _]) (args := [.sl _ _, .sl _ _]) hb34 ⟨.inr ⟨_, rfl, fun h => h⟩, .inr ⟨_, rfl, fun h => h⟩, trivial⟩ rfl (fun hA => at2_c vars M (putL a (-((k : Int) + 1))) hMl hM has (hpc (show opB a ((k : Int) + 1) = true by unfold opB; revert hA; cases decide (((k : Int) + 1) ∈ a) <;> cases decide (-((k : Int) + 1) ∈ a) <;> simp)).2) rfl rfl) rfl rfl rfl (by decide) (.inl ⟨_, rfl, rfl⟩) rfl (by decide) ?_
   refine r_gval (v := .bool _) (v_lss (.inr ⟨_, rfl, fun h => h⟩) il) rfl rfl rfl (by decide) (.inl ⟨_, rfl, rfl⟩) rfl (by decide) ?_
   refine rv (v := .bool _) (v_pick (.inl rfl) (.inr ⟨_, rfl, fun h h2 => by simp_all⟩) (.inl rfl)) ?_
   refine r_nil ?_
   refine a_cond rfl (fun ht66 => ?_) (fun ht66 => ?_)
   ·
    refine a_seq ?_
    refine a_pre (ent_look (L := [(1, .int _ _), (2, .sl _ _), (3, .sl _ _), (4, .op [.int _ _, .sl _ _]), (10, .int _ _)]) ⟨wr, wr, wr, wr, wr, trivial⟩) ?_
    refine a_region ?_
    refine ra (.bool _) ?_
    refine r_nil ?_
    refine a_ret ?_
    refine ret1 Tryz.results74 (by decide) (by decide) (Weak.of_eq (bool_eq ?_)) rfl Leaves.nil
    unfold keepsB; rw [keepV_f (v := ((k : Int) + 1)) ⟨by omega, hkk.1⟩ (by rw [hkv] at ht66; simpa using ht66), show decide (w < (a.length : Int)) = false from decide_eq_false (by omega)]; simp
   ·
    refine a_skip ?_
    refine a_pre (ent_look (L := [(1, .int _ _), (2, .sl _ _), (3, .sl _ _), (4, .op [.int _ _, .sl _ _]), (10, .int _ _)]) ⟨wr, wr, wr, wr, wr, trivial⟩) ?_
    refine a_region ?_
    refine rm (.int _ _) ?_
    refine rv (v := .int _ _) (v_add il il (fun _ => by omega)) ?_
    refine ra (.int _ _) ?_
    refine r_nil ?_
    refine ⟨k + 1, ent_look ⟨wr, wr, wr, wr, Weak.of_eq (int_eq (by omega)), trivial⟩, ⟨by omega, fun v h1 h2 => by rcases Int.lt_or_le (k : Int) v with h | h; (obtain rfl : v = (k : Int) + 1 := by omega); (rw [hkv] at ht66; simpa using ht66); exact k2 v h1 h⟩, by omega⟩
  ·
   refine a_exit ?_
   refine aq ?_
   refine ra (.bool _) ?_
   refine r_nil ?_
   refine a_ret ?_
   refine ret1 Tryz.results74 (by decide) (by decide) (Weak.of_eq (bool_eq ?_)) rfl Leaves.nil
   unfold keepsB; rw [hkA, Bool.true_and]; cases hd : decide (w < (a.length : Int)) with | true => rfl | false => exact (keepV_t fun v h1 h2 => k2 v h1 (by have h8 := of_decide_eq_false hd; simp at ht36; omega)).symm
end Go.Av
namespace Go.Av
open Go
section
variable {P : Program} {N : Nat} {σ τ : Sig} {o : Oper} {d : Nat}
def cloArgs (ev : Operand → Value) (c : Operand) (xs : List Operand) : List Value := match ev c with
  | .func _ us ws => us.toList ++ xs.map ev ++ ws.toList
  | _ => []
theorem run_cloCall {f : FuncId} {c : Operand} {xs : List Operand} {tys : Array TypeId} {first caps vs : List AV} (ho : o.op = cloCall c xs tys) (hf : hasBody P f = true) (hcl : RdTo N true σ c (.fn f first caps)) (hx : RdL N true σ xs vs)
    {a : Act} {w : World} {gv : Nat → Value} {e : Ctx} {β : Place → Option (Nat × Nat)} {F : Nat → Prop} (hi : Inv e σ (valOf N gv a) w β F) :
    (execOp a.eval o).run P w = .ok (.enter f (cloArgs a.eval c xs).toArray) w ∧ RepL β F w (first ++ vs ++ caps) (0, []) 0 (cloArgs a.eval c xs) ∧ (cloArgs a.eval c xs).length = (first ++ vs ++ caps).length ∧ ∀ c ∈ first ++ vs ++ caps, NoOwn c := by
  obtain ⟨hrep, hlen, hno⟩ := RdL.rep rfl hi (0, []) (j := 0) hx (fun _ _ => rfl)
  have hfn := hcl.rep rfl (fun _ _ => rfl) hi (0, [])
  simp only [Rep] at hfn
  obtain ⟨us, ws, hv, hl1, hl2, hs1, hs2, hr1, hr2⟩ := hfn
  have hv' : a.eval c = .func (.func f) us.toArray ws.toArray := hv
  have hca : cloArgs a.eval c xs = us ++ xs.map a.eval ++ ws := by unfold cloArgs; rw [hv']
  have hlen' : xs.length = vs.length := by simpa using hlen
  have hrep' : RepL β F w (first ++ vs ++ caps) (0, []) 0 (us ++ xs.map a.eval ++ ws) := by
    refine RepL_iff.2 fun i c hc => ?_
    have hpl : ∀ {x : AV} {p p' : Place} {v : Value}, scalar x = true → Rep β F w x p v → Rep β F w x p' v := fun {x p p' v} hs h => h.tr _ (fun b hb => ⟨hb, rfl⟩) (fun r y hy ho => by rw [node_scalar hs hy, own_scalar hs] at ho; cases ho) (fun _ _ => rfl)
    have hno' : ∀ {x : AV} {p p' : Place} {v : Value}, NoOwn x → Rep β F w x p v → Rep β F w x p' v := fun {x p p' v} hs h => h.tr _ (fun b hb => ⟨hb, rfl⟩) (fun r y hy ho => by rw [hs r y hy] at ho; cases ho) (fun _ _ => rfl)
    by_cases h1 : i < (first ++ vs).length
    · rw [List.getElem?_append_left h1] at hc
      rw [List.getElem?_append_left (by simp at h1 ⊢; omega)]
      by_cases h2 : i < first.length
      · rw [List.getElem?_append_left h2] at hc
        rw [List.getElem?_append_left (by omega)]
        obtain ⟨u, hu, hr⟩ := RepL_iff.1 hr1 i c hc
        exact ⟨u, hu, hpl (scalarL_mem hs1 (List.mem_of_getElem? hc)) hr⟩
      · rw [List.getElem?_append_right (by omega)] at hc
        rw [List.getElem?_append_right (by omega), hl1]
        obtain ⟨u, hu, hr⟩ := RepL_iff.1 hrep (i - first.length) c hc
        exact ⟨u, hu, hno' (hno c (List.mem_of_getElem? hc)) hr⟩
    · rw [List.getElem?_append_right (by omega)] at hc
      rw [List.getElem?_append_right (by simp at h1 ⊢; omega)]
      have e1 : i - (us ++ xs.map a.eval).length = i - (first ++ vs).length := by simp at hlen ⊢; omega
      rw [e1]
      obtain ⟨u, hu, hr⟩ := RepL_iff.1 hr2 _ c hc
      exact ⟨u, hu, hpl (scalarL_mem hs2 (List.mem_of_getElem? hc)) hr⟩
  have hno2 : ∀ c ∈ first ++ vs ++ caps, NoOwn c := fun c hc => by
    rcases List.mem_append.1 hc with hc | hc
    · rcases List.mem_append.1 hc with hc | hc
      · exact noOwn_scalar (scalarL_mem hs1 hc)
      · exact hno c hc
    · exact noOwn_scalar (scalarL_mem hs2 hc)
  rw [hca]
  refine ⟨?_, hrep', by simp at hlen ⊢; omega, hno2⟩
  simp [execOp, ho, cloCall, resolve, Deferred.ofValue, hv', invoke, run_callFunc_body hf]
end
end Go.Av
namespace Go.Av
open Go
theorem QSem.weak {P : Program} {N : Nat} {A : Bool} {op : Op} {ty : TypeId} {σ : Sig} {D : List Nat} {x y : AV} (h : QSem P N A op ty σ D x) (hw : Weak x y) : QSem P N A op ty σ D y := fun hA σ' hD gv e a w β F hi d o ho hty K Q hK =>
  h hA σ' hD gv e a w β F hi d o ho hty K Q fun v w' ⟨β', F', hi'⟩ => hK v w' ⟨β', F', hi'.weak (fun i => by
    have hr := hi'.rep i
    by_cases h1 : i = d
    · subst h1; rw [upd_same] at hr ⊢; exact hw.1 _ _ _ _ _ hr
    · rw [upd_other _ _ h1] at hr ⊢; exact hr) (fun q ⟨z, hz, ho'⟩ => by
    by_cases h1 : q.1 = d
    · rw [h1, upd_same] at hz
      obtain ⟨z', hz', ho2⟩ := hw.2 _ z hz ho'
      exact ⟨z', by rw [h1, upd_same]; exact hz', ho2⟩
    · rw [upd_other _ _ h1] at hz
      exact ⟨z, by rw [upd_other _ _ h1]; exact hz, ho'⟩)⟩
mutual
theorem passV_congr {q : Place} {σ σ0 : Sig} : ∀ (x : AV), (∀ p ∈ refs x, σ p.1 = σ0 p.1) → passV q σ x = passV q σ0 x
  | .rsl p sz off n cap, h => by
    simp only [passV]; split
    · rfl
    · exact snapV_congr _ h
  | .rp p off, h => by
    simp only [passV]; split
    · rfl
    · exact snapV_congr _ h
  | .agg cs, h => by simp only [passV, passL_congr cs (fun p hp => h p (by simpa [refs] using hp))]
  | .fn f us cs, h => by simp only [passV, passL_congr us (fun p hp => h p (by simp [refs, hp])), passL_congr cs (fun p hp => h p (by simp [refs, hp]))]
  | .undef, h | .int .., h | .bool _, h | .str _, h | .that .., h | .nilp, h | .nils, h | .emp, h | .sl .., h | .pp .., h | .tup _, h | .when .., h | .osl .., h | .op _, h => by simp only [passV]; exact snapV_congr _ h
theorem passL_congr {q : Place} {σ σ0 : Sig} : ∀ (cs : List AV), (∀ p ∈ refsL cs, σ p.1 = σ0 p.1) → passL q σ cs = passL q σ0 cs
  | [], _ => rfl
  | c :: cs, h => by simp only [passL, passV_congr c (fun p hp => h p (by simp [refsL, hp])), passL_congr cs (fun p hp => h p (by simp [refsL, hp]))]
end
end Go.Av
namespace Go.Av
open Go
def AFresh (P : Program) (N : Nat) (ops : Array Oper) (l : List Oper) (σ : Sig) (t : Nat) (K : Sig → Prop) : Prop :=
  ∀ (gv : Nat → Value) (e : Ctx) (a : Act) (w : World), All N gv e σ a w → FreshV e.w0.heap.size (valOf N gv a t) → ∀ Q : Exit → Act → World → Prop, (∀ a' w' σ', K σ' → All N gv e σ' a' w' → Q .normal a' w') → wpList P ops Q l a w
section
variable {P : Program} {N : Nat} {A : Bool} {σ σ' : Sig} {ops : Array Oper} {rest : List Oper} {o : Oper} {K : Sig → Prop} {d t : Nat} {ty : TypeId} {x y : Operand} {D : List Nat}
variable {e : Ctx} {val : Nat → Value} {w : World} {β : Place → Option (Nat × Nat)} {F : Nat → Prop}
theorem f_new {v : AV} (hv : QSem P N true o.op o.type σ D v) (hg : o.guard = none) (hd : o.dst = some d) (hN : d < N) (hne : t ≠ d) (h : AFresh P N ops rest (upd (fun i => purgeV d (σ i)) d v) t K) : AFresh P N ops (o :: rest) σ t K := by
  intro gv e a w ⟨hdf, hsz, β, F, hi⟩ hf Q hQ
  refine wpList_plain hg fun K' hK' => hv rfl σ (fun _ _ => rfl) gv e a w β F hi d o rfl rfl K' Q fun v' w' ⟨β', F', hi'⟩ => hK' _ _ (h gv e _ w' ⟨?_, ?_, β', F', ?_⟩ ?_ Q hQ)
  · rw [hd]; exact hdf
  · rw [hd, size_put]; exact hsz
  · rw [hd, valOf_put hsz hN]; exact hi'
  · rw [hd, valOf_put hsz hN, upd_other _ _ hne]; exact hf
theorem f_val {v : AV} (hv : VSem P N true o.op o.type σ D v) (hg : o.guard = none) (hd : o.dst = some d) (hN : d < N) (hne : t ≠ d) (h : AFresh P N ops rest (upd σ d v) t K) : AFresh P N ops (o :: rest) σ t K := by
  intro gv e a w ⟨hdf, hsz, β, F, hi⟩ hf Q hQ
  obtain ⟨hno, hv⟩ := hv
  obtain ⟨u, hrun, hr⟩ := hv rfl σ (fun _ _ => rfl) gv e a w β F hi (d, []) o rfl rfl
  refine wpList_plain hg fun K' hK' => wp_value hrun (hK' _ _ ?_)
  have hst := (VSem.step (P := P) (N := N) (o := o) (σ := σ) (D := D) (v := v) ⟨hno, hv⟩ hd hN) gv e a w ⟨hdf, hsz, β, F, hi⟩ (fun a' w' => a' = a.put o.dst u ∧ w' = w → All N gv e (upd σ d v) a' w') (fun _ _ _ => False) (fun a' w' h' _ => h')
  unfold Oper.wp at hst
  rw [hrun] at hst
  refine h gv e _ w (hst ⟨rfl, rfl⟩) ?_ Q hQ
  rw [hd, valOf_put hsz hN, upd_other _ _ hne]; exact hf
theorem call_coreV {f : FuncId} {args : List AV} {sz n : Nat} {cs : List AV} {cap : Option Nat} (hc : ACall P f args [] (.osl sz cs n cap) []) (hp : pureL args = true) (hn : noSh (.osl sz cs n cap) = true) (hr : noRef (.osl sz cs n cap) = true) (h : Inv e σ val w β F) {vs : List Value}
    (hl : vs.length = args.length) (ha : RepL (fun _ => none) (lent σ β F) w args (0, []) 0 vs) (d : Nat) :
    Calls P f vs.toArray w fun en w' => ∃ v β', en = .returned v ∧ Inv e (upd (fun i => purgeV d (σ i)) d (.osl sz cs n cap)) (upd val d v) w' β' F ∧ FreshV e.w0.heap.size v := by
  have hinv : Inv ⟨w, fun _ => False, lent σ β F, []⟩ (argSig args []) (fun i => vs.getD i undef) w (fun _ => none) (lent σ β F) := by
    refine ⟨fun i => ?_, fun q q' b s s' hq => (noOwn_argSig hp q hq).elim, fun q b s hq => (noOwn_argSig hp q hq).elim, fun b hb => ⟨?_, fun _ => hb⟩, fun _ _ _ => rfl, Nat.le_refl _, Tame.refl _⟩
    · unfold argSig
      split
      · cases hx : args[i]? with
        | none => simp [Rep]
        | some c =>
          obtain ⟨u, hu, hru⟩ := RepL_iff.1 ha i c hx
          rw [List.getD_eq_getElem?_getD, hu]
          exact hru.pure_any (pureL_mem hp (List.mem_of_getElem? hx))
      · simp [Rep]
    · rcases hb with hb | ⟨q, s, hq, hb⟩
      · exact (h.fr b hb).1
      · exact h.own_lt hq hb
  refine (hc _ vs _ w _ _ hl (fun _ _ => rfl) hinv).mono fun en w' ⟨v, β', F', he, hi⟩ => ⟨v, ?_⟩
  have hkept : ∀ b, b < w.heap.size → w'.heap[b]? = w.heap[b]? := fun b hb => hi.kept b hb (fun h => h)
  have hI := h.more hkept hi.grow (h.tame.trans hi.tame hkept)
  have h0 : argSig [AV.osl sz cs n cap] [] 0 = .osl sz cs n cap := by simp [argSig, INH]
  have hge : ∀ r y b s, node (.osl sz cs n cap) r = some y → y.isOwn = true → β' (0, r) = some (b, s) → w.heap.size ≤ b := fun r y b s hy ho hb => by
    have hs := hi.sep (0, r) b s ⟨y, by rw [h0]; exact hy, ho⟩ hb
    rcases hs.2 with h | h; exact h; exact h.elim
  have hrv := hi.rep 0
  rw [h0, upd_same] at hrv
  have hdet : Det e σ w' β F (.osl sz cs n cap) v (fun r => β' (0, r)) := by
    refine ⟨?_, refs_of_noRef _ hr, ?_, ?_⟩
    · exact (hrv.noSh (G := F) _ hn).tr _ (fun b hb => ⟨hb, rfl⟩) (fun r y _ _ => ⟨by simp, fun _ _ _ => rfl⟩) (fun q hq => by rw [refs_of_noRef _ hr] at hq; cases hq)
    · intro r r' y y' b s s' hy ho hy' ho' hb hb'
      have := hi.disj (0, r) (0, r') b s s' ⟨y, by rw [h0]; exact hy, ho⟩ ⟨y', by rw [h0]; exact hy', ho'⟩ hb hb'
      simpa using this
    · intro r y b s hy ho hb
      have hge := hge r y b s hy ho hb
      exact ⟨fun hF => by have := (h.fr b hF).1; omega, .inl (Nat.le_trans h.grow hge), fun q s' hq hb' => by have := h.own_lt hq hb'; omega⟩
  refine ⟨_, he, hI.attach d hdet, fun b o sp n' c hv hc0 => ?_⟩
  simp only [Rep] at hrv
  rcases hrv with ⟨_, ⟨a, h2⟩, _⟩ | ⟨_, b', capv, arr, t, hβ, h2, _⟩
  · rw [hv] at h2; cases h2; exact absurd rfl hc0
  · rw [hv] at h2; cases h2
    exact Nat.le_trans h.grow (hge [] _ b _ rfl rfl hβ)
theorem f_call {f : FuncId} {xs : List Operand} {tys : Array TypeId} {vs args : List AV} {sz n : Nat} {cs : List AV} {cap : Option Nat} (ho : o.op = fnCall f xs tys) (hf : hasBody P f = true) (hx : RdL N true σ xs vs) (hs : snapL σ vs = args) (hc : ACall P f args [] (.osl sz cs n cap) [])
    (hg : o.guard = none) (hd : o.dst = some d) (hN : d < N) (hn : noSh (.osl sz cs n cap) = true) (hr : noRef (.osl sz cs n cap) = true) (h : AFresh P N ops rest (upd (fun i => purgeV d (σ i)) d (.osl sz cs n cap)) d K) : ARun P N ops (o :: rest) σ K := by
  intro gv e a w ⟨hdf, hsz, β, F, hi⟩ Q hQ
  refine wpList_plain hg fun K' hK' => ?_
  have hp : pureL args = true := by rw [← hs]; exact pure_snapL σ _
  obtain ⟨hrep, hlen, hno⟩ := RdL.rep rfl hi (0, []) (j := 0) hx (fun _ _ => rfl)
  have hsn := hi.snapL (β0 := fun _ => none) _ (p' := (0, [])) hrep (fun i c hc => hno c (List.mem_of_getElem? hc))
  rw [hs] at hsn
  have hl : (xs.map a.eval).length = args.length := by rw [← hs, snapL_eq, hlen]; simp
  refine upon_enter' (f := f) (args := (xs.map a.eval).toArray) ?_ ((call_coreV hc hp hn hr hi hl hsn d).mono fun en w' ⟨v, β', he, hi', hfr⟩ => ⟨v, he, hK' _ _ (h gv e _ w' ⟨?_, ?_, β', F, ?_⟩ ?_ Q hQ)⟩)
  · simp [execOp, ho, fnCall, resolve, Deferred.ofValue, Act.eval, invoke, run_callFunc_body hf]
  · rw [hd]; exact hdf
  · rw [hd, size_put]; exact hsz
  · rw [hd, valOf_put hsz hN]; exact hi'
  · rw [hd, valOf_put hsz hN, upd_same]; exact hfr
theorem extract_get {w : World} {n b : Nat} (h : b < (w.heap.extract 0 n).size) : (w.heap.extract 0 n)[b]? = w.heap[b]? := by
  simp only [Array.size_extract] at h
  rw [Array.getElem?_extract, if_pos (by omega), Nat.zero_add]
theorem append_fresh {s t' sz bytes n m : Nat} {cap : Option Nat} {cs ns : List AV} {gv : Nat → Value} {a : Act} (ho : o.op = appCall (.tmp s) x t') (ht : appTy P t' = some (sz, bytes)) (hsN : s < N) (hi : Inv e σ (valOf N gv a) w β F) (hfv : FreshV e.w0.heap.size (valOf N gv a s))
    (hs : σ s = .osl sz cs n cap) (hx : SrcIs N true (upd σ s .undef) x sz m ns D) (hc : cellL ns = true) (hcl : cs.length = n * sz) (hcs : pureL cs = true) (hps : pureL (cs ++ ns) = true ∧ noNilL (cs ++ ns) = true) (hm : 0 < n + m)
    (hb : n + m ≤ 9223372036854775807 ∧ (n + m) * bytes ≤ 140737488355328) : ∃ v w' β' F', (execOp a.eval o).run P w = .ok (.value v) w' ∧ Inv e (upd (fun i => purgeV d (upd σ s .undef i)) d (.sl (cs ++ ns) (n + m))) (upd (valOf N gv a) d v) w' β' F' := by
  obtain ⟨el, h1, h2, h3⟩ := appTy_spec ht
  obtain ⟨hi1, hd1⟩ := hi.detach_slot (t := s) (by rw [hs]; rfl)
  rw [hs] at hd1
  have hv : valOf N gv a s = a.eval (.tmp s) := by simp [valOf, hsN, Act.eval]
  rw [hv] at hd1 hfv
  have hsl : ∃ ob capv, a.eval (.tmp s) = .slice ob n capv := by
    have := hd1.rep
    simp only [Rep] at this
    rcases this with ⟨_, ⟨ob, h⟩, _, hn, _⟩ | ⟨_, b, capv, arr, t, _, h, _⟩
    · exact ⟨ob, 0, by rw [hn]; exact h⟩
    · exact ⟨_, capv, h⟩
  obtain ⟨ob, capv, es⟩ := hsl
  rw [es] at hd1 hfv
  obtain ⟨hp, hx⟩ := hx
  obtain ⟨ax, c, us, ex, hul, hul', hux, β0, p, hr⟩ := hx rfl _ (fun _ _ => rfl) gv e a w β F hi1
  have hnoc : ∀ (cap' : Option Nat) r y, node (.osl sz cs n cap') r = some y → y.isOwn = true → r = [] := fun cap' r y hy ho' => by
    match r with
    | [] => rfl
    | j :: r =>
      simp only [node, kids] at hy
      cases hc' : cs[j]? with
      | none => rw [hc'] at hy; cases hy
      | some z => rw [hc'] at hy; rw [noOwn_pure (pureL_mem hcs (List.mem_of_getElem? hc')) hy] at ho'; cases ho'
  have hnoX : ∀ r y, node (.osl sz (cs ++ ns) (n + m) none) r = some y → y.isOwn = true → r = [] := fun r y hy ho' => by
    match r with
    | [] => rfl
    | j :: r =>
      simp only [node, kids] at hy
      cases hc' : (cs ++ ns)[j]? with
      | none => rw [hc'] at hy; cases hy
      | some z => rw [hc'] at hy; rw [noOwn_pure (pureL_mem hps.1 (List.mem_of_getElem? hc')) hy] at ho'; cases ho'
  obtain ⟨v, w', δ2, hrun, hinv, hdet⟩ := append_core (ty := o.type) h1 h2 h3 hi1 hd1 hul hux (det_agg_pure (δ := fun _ => none) hul' hr hp)
    (fun r r' y y' b s s' _ _ _ _ _ hb => by cases hb) hcl hc (noRefL_pure ns hp) hb
  let e1 : Ctx := ⟨{ w with heap := w.heap.extract 0 e.w0.heap.size }, fun _ => False, F, e.ds⟩
  have hsize : e1.w0.heap.size = e.w0.heap.size := by
    show (w.heap.extract 0 e.w0.heap.size).size = _
    have := hi.grow
    rw [Array.size_extract]; omega
  have hnone : ∀ q, ¬ OwnAt (fun _ => AV.undef) q := fun q ⟨y, hy, ho'⟩ => by
    cases hr' : q.2 with
    | nil => rw [hr'] at hy; simp [node] at hy; subst hy; simp [AV.isOwn] at ho'
    | cons j r => rw [hr'] at hy; simp [node, kids] at hy
  have hI1 : Inv e1 (fun _ => .undef) (valOf N gv a) w β F := ⟨fun i => by simp [Rep], fun q _ _ _ _ hq => (hnone q hq).elim, fun q _ _ hq => (hnone q hq).elim, fun b hb => ⟨(hi.fr b hb).1, fun _ => hb⟩, fun b hb _ => (extract_get hb).symm, by rw [hsize]; exact hi.grow, rfl, rfl, rfl, Nat.le_refl _⟩
  have hadd : ∃ δ1, Det e1 (fun _ => .undef) w β F (.osl sz cs n none) (.slice ob n capv) δ1 := by
    have hrep := hd1.rep
    simp only [Rep] at hrep
    have hz : capv = 0 ∨ capv ≠ 0 := by omega
    rcases hz with hz | hz
    · subst hz
      have hn0 : n = 0 := by
        rcases hrep with ⟨_, _, _, hn, _⟩ | ⟨_, b, capv, arr, t, _, hsv, hle, _⟩
        · exact hn
        · cases hsv; omega
      subst hn0
      obtain rfl : cs = [] := List.eq_nil_of_length_eq_zero (by omega)
      exact ⟨_, Det.virt (fun c hc => by cases hc)⟩
    · refine ⟨fun r => β (s, r), ?_, hd1.nr, fun r r' y y' b s' s'' hy ho' hy' ho'' _ _ => ?_, fun r y b s' hy ho' hb' => ?_⟩
      · have h0 := hd1.rep
        simp only [Rep] at h0 ⊢
        rcases h0 with ⟨hx1, hx2, hx3, hx4, _⟩ | ⟨hx1, b, cv, arr, t, hx2, hx3, hx4, _, hx5⟩
        · exact .inl ⟨hx1, hx2, hx3, hx4, fun c hc => by cases hc⟩
        · exact .inr ⟨hx1, b, cv, arr, t, hx2, hx3, hx4, (fun c hc => by cases hc), hx5⟩
      · rw [hnoc _ r y hy ho', hnoc _ r' y' hy' ho'']
      · have hr0 := hnoc _ r y hy ho'
        subst hr0
        refine ⟨(hd1.sep [] _ b s' rfl rfl hb').1, .inl ?_, fun q s'' hq => (hnone q hq).elim⟩
        rw [hsize]
        rcases hrep with ⟨h0, _⟩ | ⟨_, b2, cv, arr, t, h0, hsv, _⟩
        · rw [hb'] at h0; cases h0
        · rw [hb'] at h0
          simp only [Option.some.injEq, Prod.mk.injEq] at h0
          obtain ⟨rfl, _⟩ := h0
          exact hfv b _ _ _ _ (by rw [hsv]) (by cases hsv; exact hz)
  obtain ⟨δ1, hD1⟩ := hadd
  obtain ⟨v1, w1, δ3, hrun1, hinv1, hdet1⟩ := append_core (ty := o.type) h1 h2 h3 hI1 hD1 hul hux (det_agg_pure (δ := fun _ => none) hul' hr hp)
    (fun r r' y y' b s s' _ _ _ _ _ hb => by cases hb) hcl hc (noRefL_pure ns hp) hb
  rw [hrun] at hrun1
  cases hrun1
  have h9 := hinv.attach d hdet
  have h10 := h9.freeze (fun r y b s' hy ho' hb' => by
    have hr0 := hnoX r y hy ho'
    subst hr0
    simp only [if_true] at hb'
    have hA := hdet.rep
    have hB := hdet1.rep
    simp only [Rep] at hA hB
    rcases hA with ⟨h0, _⟩ | ⟨_, b2, cv, arr, t, h0, hsv, _⟩
    · rw [hb'] at h0; cases h0
    · rw [hb'] at h0
      simp only [Option.some.injEq, Prod.mk.injEq] at h0
      obtain ⟨rfl, _⟩ := h0
      rcases hB with ⟨_, _, _, h4, _⟩ | ⟨_, b3, cv3, arr3, t3, h5, hsv3, _⟩
      · omega
      · rw [hsv] at hsv3; cases hsv3
        have := (hdet1.sep [] _ b _ rfl rfl h5).2.1
        rcases this with h | h
        · rw [hsize] at h; exact h
        · exact h.elim)
  rw [sl_shZ hps] at h10
  exact ⟨v, w', _, _, run_app ho (by rw [es, ex]; exact hrun), h10⟩
theorem f_append {s t' sz bytes n m : Nat} {cap : Option Nat} {cs ns : List AV} (ho : o.op = appCall (.tmp s) x t') (ht : appTy P t' = some (sz, bytes)) (hg : o.guard = none) (hd : o.dst = some d) (hN : d < N) (hsN : s < N)
    (hs : σ s = .osl sz cs n cap) (hx : SrcIs N true (upd σ s .undef) x sz m ns D) (hc : cellL ns = true) (hcl : cs.length = n * sz) (hcs : pureL cs = true) (hps : pureL (cs ++ ns) = true ∧ noNilL (cs ++ ns) = true) (hm : 0 < n + m)
    (hb : n + m ≤ 9223372036854775807 ∧ (n + m) * bytes ≤ 140737488355328)
    (h : ARun P N ops rest (upd (fun i => purgeV d (upd σ s .undef i)) d (.sl (cs ++ ns) (n + m))) K) : AFresh P N ops (o :: rest) σ s K := by
  intro gv e a w ⟨hdf, hsz, β, F, hi⟩ hfv Q hQ
  refine wpList_plain hg fun K' hK' => ?_
  obtain ⟨v, w', β', F', hrun, h10⟩ := append_fresh (d := d) ho ht hsN hi hfv hs hx hc hcl hcs hps hm hb
  rw [← valOf_put hsz hN] at h10
  exact wp_value hrun (hK' _ _ (h gv e _ w' ⟨by rw [hd]; exact hdf, by rw [hd, size_put]; exact hsz, ⟨_, _, by rw [hd]; exact h10⟩⟩ Q hQ))
end
end Go.Av
namespace Go.Av
open Go Go.Proofs Go.Sort
theorem ap22 : appTy Tryz.prog 22 = some (1, 24) := by kernel_rfl
theorem hb122 : hasBody Tryz.prog 122 = true := by kernel_rfl
theorem hb40 : hasBody Tryz.prog 40 = true := by kernel_rfl
theorem allA1_c (vars : Int) (L : List (List Int)) (w : Int) (hcl : ∀ i, i < L.length → clB vars (gl L i) = true) (hL : L.length ≤ 1048576) (hw : 0 ≤ w ∧ w ≤ 6) (a : List Int) (R : List (List Int)) (ha : a.length ≤ 1048576) (hR : R.length ≤ 1048576) : ACall Tryz.prog 122 [.sl (icells a) a.length, .pp [.int .i64 vars, .sl (sls L) L.length] 0, .pp [.int .i64 w] 0, .rp (INH, []) 0] [.op [.osl 1 (sls R) R.length none]] (.tup []) [.op [.osl 1 (sls (aapp L w R a)) (aapp L w R a).length none]] := by
 refine ACall.intro Tryz.func122 rfl (N := 13) rfl (by decide) (by simp) ?_
 refine aq ?_
 refine rv (v := .agg [.int _ _, .sl _ _]) (v_load_ppa1 ta29 il rfl (fun _ => rfl) rfl) ?_
 refine rv (v := .int _ _) (v_load_pp ta3 il (fun _ => rfl) rfl) ?_
 refine rm (.sl _ _) ?_
 refine rn (v := .bool _) (q_call (vs := [.agg [.int _ _, .sl _ _], .int _ _, .sl _ _]) (args := [.agg [.int .i64 _, .sl _ _], .int .i64 _, .sl _ _]) hb40 ⟨il, il, il, trivial⟩ rfl (fun hA => allowed_c vars L a w hcl hL ha hw) rfl rfl) ?_
 refine r_nil ?_
 refine a_cond rfl (fun ht8 => ?_) (fun ht8 => ?_)
 ·
  refine a_region ?_
  refine rv (v := .rsl _ _ _ _ _) (v_load_rp (c := .osl _ _ _ _) ta22 il rfl (fun _ => rfl)) ?_
  refine rm (.sl _ _) ?_
  refine rn (v := .osl _ _ _ _) (q_sliceLit (n := 1) (parts := [(0, .tmp 10)]) lt22 rfl rfl rfl rfl) ?_
  refine r_pre (ent_reloc_sl (t := 9) rfl rfl) ?_
  refine r_step rfl (o_append rfl ap22 rfl (by decide) (by decide) rfl (src_lit (.inl rfl) rfl rfl rfl) rfl (by rw [sls_length, Nat.mul_one]) (by omega)) ?_
  refine r_pre (ent_eq (t := 12) (v' := .osl 1 (sls (R ++ [a])) (R ++ [a]).length none) (Weak.osl (by rw [sls_append]; rfl) (by simp))) ?_
  refine r_step rfl (o_store_keep (t8 := 3) (v := .osl _ _ _ _) (y' := .op [.osl _ _ _ _]) rfl rfl ta22 (.inl rfl) (by decide) rfl (by decide) rfl (by simp [cellsOf, noRefL, noRef, sls_noRef]) rfl rfl rfl rfl rfl (Nat.le_of_ble_eq_true rfl) rfl rfl rfl rfl rfl) ?_
  refine r_nil ?_
  refine ret0_look Tryz.results122 (by decide) ?_ rfl
  exact Weak.of_eq (by unfold aapp; rw [if_pos ht8]; rfl)
 ·
  refine a_skip ?_
  refine ret0_look Tryz.results122 (by decide) ?_ rfl
  exact Weak.of_eq (by unfold aapp; rw [if_neg (by rw [ht8]; decide)]; rfl)
end Go.Av
namespace Go.Av
open Go
def rpOk (q : Place) (x : AV) : Prop := (∃ off, x = .rp q off) ∨ ∃ f us cs, x = .fn f us cs ∧ ∀ c ∈ us ++ cs, (∃ off, c = .rp q off) ∨ ∀ p ∈ refs c, p ≠ q
def okCap (q : Place) : AV → Bool
  | .rp p _ => p.1 != q.1 || p == q
  | c => (refs c).all fun p => p.1 != q.1
def keepK (q : Place) : AV → AV
  | .fn f us cs => if (us ++ cs).all (okCap q) then .fn f us cs else .undef
  | x => keepP q x
theorem keepK_or (q : Place) (x : AV) : keepK q x = x ∨ keepK q x = .undef := by
  cases x <;> first | exact .inl rfl | exact ite_or | exact ite_or.symm
theorem okCap_spec {q : Place} {c : AV} (h : okCap q c = true) : (∀ p ∈ refs c, p.1 = q.1 → p = q) ∧ ((∃ off, c = .rp q off) ∨ ∀ p ∈ refs c, p ≠ q) := by
  have gen : (refs c).all (fun p => p.1 != q.1) = true → (∀ p ∈ refs c, p.1 = q.1 → p = q) ∧ ((∃ off, c = .rp q off) ∨ ∀ p ∈ refs c, p ≠ q) := fun h => by
    have h' : ∀ p ∈ refs c, p.1 ≠ q.1 := fun p hp => by simpa using List.all_eq_true.1 h p hp
    exact ⟨fun p hp hq => absurd hq (h' p hp), .inr fun p hp hq => h' p hp (by rw [hq])⟩
  cases c
  case rp p off =>
    simp only [okCap, Bool.or_eq_true, bne_iff_ne, ne_eq, beq_iff_eq] at h
    rcases h with h | h
    · exact ⟨fun p' hp hq => by simp [refs] at hp; subst hp; exact absurd hq h, .inr fun p' hp hq => by simp [refs] at hp; subst hp; exact h (by rw [hq])⟩
    · subst h
      exact ⟨fun p' hp _ => by simpa [refs] using hp, .inl ⟨off, rfl⟩⟩
  all_goals exact gen h
theorem keepK_refs {q : Place} {x : AV} {p : Place} (hp : p ∈ refs (keepK q x)) (h : p.1 = q.1) : p = q ∧ rpOk q (keepK q x) := by
  cases x
  case fn f us cs =>
    by_cases hall : (us ++ cs).all (okCap q) = true
    · have e : keepK q (.fn f us cs) = .fn f us cs := by show (if _ then _ else _) = _; rw [if_pos hall]
      rw [e] at hp ⊢
      have hc : ∀ c ∈ us ++ cs, okCap q c = true := fun c hc => List.all_eq_true.1 hall c hc
      refine ⟨?_, .inr ⟨f, us, cs, rfl, fun c hc' => (okCap_spec (hc c hc')).2⟩⟩
      simp only [refs, List.mem_append] at hp
      rcases hp with hp | hp
      · obtain ⟨c, hc1, hc2⟩ := refsL_mem.1 hp
        exact (okCap_spec (hc c (List.mem_append_left _ hc1))).1 p hc2 h
      · obtain ⟨c, hc1, hc2⟩ := refsL_mem.1 hp
        exact (okCap_spec (hc c (List.mem_append_right _ hc1))).1 p hc2 h
    · have e : keepK q (.fn f us cs) = .undef := by show (if _ then _ else _) = _; rw [if_neg hall]
      rw [e] at hp; simp [refs] at hp
  all_goals (simp only [keepK] at hp ⊢; exact ⟨(keepP_refs hp h).1, .inl (keepP_refs hp h).2⟩)
section
variable {e : Ctx} {σ τ : Sig} {val : Nat → Value} {w : World} {β : Place → Option (Nat × Nat)} {F : Nat → Prop}
theorem Inv.rebetaK (h : Inv e σ val w β F) {q : Place} {b s : Nat} (s' : Nat) (hb : β q = some (b, s)) (hno : ¬ OwnAt σ q) (hτ : ∀ i, τ i = σ i ∨ τ i = .undef) (hτq : ∀ i, ∀ p ∈ refs (τ i), p = q → rpOk q (τ i)) :
    Inv e τ val w (fun p => if p = q then some (b, s') else β p) F := by
  have old : ∀ {p : Place}, OwnAt τ p → OwnAt σ p ∧ p ≠ q := by
    rintro ⟨i, r⟩ ⟨y, hy, ho⟩
    dsimp only at hy
    rcases hτ i with ht | ht
    · rw [ht] at hy
      have : OwnAt σ (i, r) := ⟨y, hy, ho⟩
      exact ⟨this, fun he => hno (by rw [← he]; exact this)⟩
    · rw [ht] at hy; exact (undef_node hy ho).elim
  have one : ∀ {off : Nat} {p : Place} {v : Value}, Rep β F w (.rp q off) p v → ∀ p', Rep (fun p => if p = q then some (b, s') else β p) F w (.rp q off) p' v := fun {off p v} hr p' => by
    simp only [Rep] at hr ⊢
    obtain ⟨b1, s1, h1, h2⟩ := hr
    rw [hb] at h1
    cases h1
    exact ⟨b, s', by simp, h2⟩
  have many : ∀ {cs : List AV} {p : Place} {vs : List Value}, scalarL cs = true → (∀ c ∈ cs, (∃ off, c = .rp q off) ∨ ∀ p ∈ refs c, p ≠ q) → RepL β F w cs p 0 vs → RepL (fun p => if p = q then some (b, s') else β p) F w cs p 0 vs := fun {cs p vs} hsc hok hr =>
    RepL_iff.2 fun i c hc => by
      obtain ⟨u, hu, hru⟩ := RepL_iff.1 hr i c hc
      refine ⟨u, hu, ?_⟩
      rcases hok c (List.mem_of_getElem? hc) with ⟨off, rfl⟩ | hn
      · exact one hru _
      · exact hru.tr _ (fun b hb => ⟨hb, rfl⟩) (fun r y hy ho => by
          have hs := scalarL_mem hsc (List.mem_of_getElem? hc)
          rw [node_scalar hs hy, own_scalar hs] at ho; cases ho) (fun p hp => by simp only [hn p hp, if_false])
  refine ⟨fun i => ?_, fun p p' b1 s1 s2 hp hp' h1 h2 => ?_, fun p b1 s1 hp h1 => ?_, h.fr, h.kept, h.grow, h.tame⟩
  · rcases hτ i with ht | ht
    · by_cases hin : q ∈ refs (τ i)
      · have hr := h.rep i
        rcases hτq i q hin rfl with ⟨off, he⟩ | ⟨f, us, cs, he, hok⟩
        · rw [← ht, he] at hr
          rw [he]
          exact one hr _
        · rw [← ht, he] at hr
          rw [he]
          simp only [Rep] at hr ⊢
          obtain ⟨us', vs', hv, hl1, hl2, hs1, hs2, hr1, hr2⟩ := hr
          exact ⟨us', vs', hv, hl1, hl2, hs1, hs2, many hs1 (fun c hc => hok c (List.mem_append_left _ hc)) hr1, many hs2 (fun c hc => hok c (List.mem_append_right _ hc)) hr2⟩
      · rw [ht] at hin ⊢
        exact (h.rep i).tr _ (fun b hb => ⟨hb, rfl⟩) (fun r y hy ho => ⟨by
          have : ¬ ((i, r) = q) := fun he => hno (by rw [← he]; exact ⟨y, hy, ho⟩)
          simp only [List.nil_append, this, if_false], fun _ _ _ => rfl⟩) (fun p hp => by
          have : ¬ (p = q) := fun he => hin (by rw [← he]; exact hp)
          simp only [this, if_false])
    · rw [ht]; simp [Rep]
  · obtain ⟨o1, n1⟩ := old hp
    obtain ⟨o2, n2⟩ := old hp'
    simp only [n1, n2, if_false] at h1 h2
    exact h.disj p p' b1 s1 s2 o1 o2 h1 h2
  · obtain ⟨o1, n1⟩ := old hp
    simp only [n1, if_false] at h1
    exact h.sep p b1 s1 o1 h1
end
section
variable {P : Program} {e : Ctx} {σ τ : Sig} {val : Nat → Value} {w : World} {β : Place → Option (Nat × Nat)} {F : Nat → Prop}
theorem callIO_coreK {f : FuncId} {args vs' : List AV} {res x0 x1 : AV} {q : Place} {vs : List Value} {d : Nat} (hc : ACall P f args [x0] res [x1]) (hr : noRef res = true) (hr1 : noRef x1 = true)
    (h : Inv e σ val w β F) (hz : node (σ q.1) q.2 = some x0) (hr0 : refs x0 = []) (hfr : ∀ b arr t fz, (∃ r y s, node x0 r = some y ∧ y.isOwn = true ∧ β (q.1, q.2 ++ r) = some (b, s)) → w.heap[b]? = some (.cells arr t fz) → fz = (0, 0))
    (hl : vs.length = args.length) (ha : RepL (passB q β) F w args (0, []) 0 vs) (hq2 : q.2 = []) (hai : ∀ c ∈ args, NoOwn c) (hlen : args.length < INH)
    (hds : d ≠ q.1) (hrs : ∀ p ∈ refs (σ q.1), p.1 ≠ q.1 ∧ p.1 ≠ d)
    (hτ : ∀ i, i ≠ q.1 → τ i = purgeV d (σ i) ∨ τ i = .undef)
    (hτr : ∀ i, i ≠ q.1 → ∀ p ∈ refs (τ i), p.1 = q.1 → p = q ∧ rpOk q (τ i)) (hop0 : ∃ cs, x0 = .op cs) (hop1 : ∃ cs, x1 = .op cs) :
    Calls P f vs.toArray w fun en w' => ∃ v β' F2, en = .returned v ∧ Inv e (upd (upd τ q.1 (setNode (σ q.1) q.2 x1)) d res) (upd val d v) w' β' F2 := by
  obtain ⟨u, hu, hue⟩ : ∃ u, Rep β F w x0 (q.1, [] ++ q.2) u ∧ val q.1 = u := by
    have hx : σ q.1 = x0 := by rw [hq2] at hz; simpa [node] using hz
    exact ⟨val q.1, by rw [hq2, ← hx]; exact h.rep q.1, rfl⟩
  simp only [List.nil_append] at hu
  have hh := h.hole hz
  let inh : Nat → Prop := fun b => ∃ r y s, node x0 r = some y ∧ y.isOwn = true ∧ β (q.1, q.2 ++ r) = some (b, s)
  let G : Nat → Prop := F
  have inh_own : ∀ {b}, inh b → ∃ p s, OwnAt σ p ∧ β p = some (b, s) ∧ (p.1 = q.1 ∧ q.2 <+: p.2) := fun {b} ⟨r, y, s, hy, ho, hb⟩ => ⟨(q.1, q.2 ++ r), s, ownAt_sub hz hy ho, hb, rfl, List.prefix_append _ _⟩
  have inh_not : ∀ {b}, inh b → ¬ F b ∧ (e.w0.heap.size ≤ b ∨ e.inh b) ∧ ∀ p s, OwnAt (hole σ q) p → β p ≠ some (b, s) := fun {b} hb => by
    obtain ⟨p, s, hp, hpb, hpq⟩ := inh_own hb
    refine ⟨(h.sep p b s hp hpb).1, (h.sep p b s hp hpb).2, fun p' s' hp' hb' => ?_⟩
    obtain ⟨h1, h2⟩ := ownAt_hole hz hp'
    have := h.disj p p' b s s' hp h1 hpb hb'
    subst this
    exact h2 hpq
  have hinv : Inv ⟨w, inh, G, []⟩ (argSig args [x0]) (fun i => if i = INH then u else vs.getD i undef) w (passB q β) G := by
    have own : ∀ {p}, OwnAt (argSig args [x0]) p → p.1 = INH ∧ ∃ y, node x0 p.2 = some y ∧ y.isOwn = true := by
      rintro ⟨i, r⟩ ⟨y, hy, ho⟩
      dsimp only at hy
      unfold argSig at hy
      split at hy
      · cases hx : args[i]? with
        | none => rw [hx] at hy; exact (undef_node hy ho).elim
        | some c =>
          rw [hx] at hy
          rw [hai c (List.mem_of_getElem? hx) r y hy] at ho; cases ho
      · rename_i hi
        cases hj : i - INH with
        | zero =>
          rw [hj] at hy
          exact ⟨by dsimp only; omega, y, by simpa using hy, ho⟩
        | succ k => rw [hj] at hy; simp at hy; exact (undef_node hy ho).elim
    refine ⟨fun i => ?_, fun p p' b s s' hp hp' hb hb' => ?_, fun p b s hp hb => ?_, fun b hb => ⟨?_, fun _ => hb⟩, fun _ _ _ => rfl, Nat.le_refl _, Tame.refl' w (fun b arr t fz hb hh => hfr b arr t fz hb hh)⟩
    · by_cases hi : i = INH
      · subst hi
        rw [argSig_inh']
        simp only [if_true]
        exact hu.tr _ (fun b hb => ⟨hb, rfl⟩) (fun r y _ _ => ⟨by simp [passB], fun _ _ _ => rfl⟩) (fun p hp => by rw [hr0] at hp; cases hp)
      · simp only [hi, if_false]
        unfold argSig
        split
        · cases hx : args[i]? with
          | none => simp [Rep]
          | some c =>
            obtain ⟨u', hu', hru⟩ := RepL_iff.1 ha i c hx
            rw [List.getD_eq_getElem?_getD, hu']
            exact hru.tr _ (fun b hb => ⟨hb, rfl⟩) (fun r y hy ho => by rw [hai c (List.mem_of_getElem? hx) r y hy] at ho; cases ho) (fun _ _ => rfl)
        · have : ([x0] : List AV)[i - INH]? = none := List.getElem?_eq_none (by simp; omega)
          rw [this]; simp [Rep]
    · obtain ⟨h1, y, hy, ho⟩ := own hp
      obtain ⟨h1', y', hy', ho'⟩ := own hp'
      simp only [passB, h1, h1', if_true] at hb hb'
      have := h.disj _ _ b s s' (ownAt_sub hz hy ho) (ownAt_sub hz hy' ho') hb hb'
      simp only [Prod.mk.injEq, true_and] at this
      exact Prod.ext (h1.trans h1'.symm) (List.append_cancel_left this)
    · obtain ⟨h1, y, hy, ho⟩ := own hp
      simp only [passB, h1, if_true] at hb
      have hi : inh b := ⟨p.2, y, s, hy, ho, hb⟩
      exact ⟨fun hG => (inh_not hi).1 hG, .inr hi⟩
    · exact (h.fr b hb).1
  refine (hc _ vs _ w _ _ hl (fun i hi => by
    have : i ≠ INH := by omega
    simp [this]) hinv).mono fun en w' ⟨v, β', F', he, hi⟩ => ⟨v, ?_⟩
  have hkept : ∀ b, b < w.heap.size → ¬ inh b → w'.heap[b]? = w.heap[b]? := fun b hb hnb => hi.kept b hb hnb
  have hgrow : w.heap.size ≤ w'.heap.size := hi.grow
  have oldnot : ∀ {p b s}, OwnAt (hole σ q) p → β p = some (b, s) → ¬ inh b := fun {p b s} hp hb hi => (inh_not hi).2.2 p s hp hb
  have hF' : ∀ b, F' b → F b ∨ w.heap.size ≤ b := fun b hb => by
    rcases Nat.lt_or_ge b w.heap.size with hlt | hge
    · exact .inl ((hi.fr b hb).2 hlt)
    · exact .inr hge
  let F2 : Nat → Prop := fun b => F b ∨ F' b
  have hH0 : Inv e (hole σ q) val w' β F := hh.ext (fun b hb => hkept b (h.fr b hb).1 (fun hi => (inh_not hi).1 hb)) (fun p b s hp hb => hkept b (hh.own_lt hp hb) (oldnot hp hb))
    (fun b hb hni => hkept b (Nat.lt_of_lt_of_le hb h.grow) (fun hi => by
      rcases (inh_not hi).2.1 with h1 | h1
      · omega
      · exact hni h1)) hgrow (h.tame.trans' hi.tame hkept)
  have hH : Inv e (hole σ q) val w' β F2 := hH0.moreF (fun b hb => .inl hb) (fun b hb => by
    rcases hb with hb | hb
    · exact hH0.fr b hb
    · refine ⟨(hi.fr b hb).1, fun hlt => ?_⟩
      rcases hF' b hb with hb | hge
      · exact (h.fr b hb).2 hlt
      · have := h.grow; omega) (fun p b s hp hb hF => by
    rcases hF with hF | hF
    · exact (hH0.sep p b s hp hb).1 hF
    · rcases hF' b hF with hF | hge
      · exact (hH0.sep p b s hp hb).1 hF
      · have := hh.own_lt hp hb; omega)
  have hres : argSig [res] [x1] 0 = res := argSig_zero _ _
  have hobj : argSig [res] [x1] INH = x1 := argSig_inh _ _
  have newb : ∀ {p b s}, OwnAt (argSig [res] [x1]) p → β' p = some (b, s) → ¬ F2 b ∧ (e.w0.heap.size ≤ b ∨ e.inh b) ∧ ∀ p' s', OwnAt (hole σ q) p' → β p' ≠ some (b, s') := fun {p b s} hp hb => by
    have hnF : ¬ F' b := (hi.sep p b s hp hb).1
    rcases (hi.sep p b s hp hb).2 with hge | hin
    · have hge : w.heap.size ≤ b := hge
      exact ⟨fun hF => by rcases hF with hF | hF; have := (h.fr b hF).1; omega; exact hnF hF, .inl (Nat.le_trans h.grow hge), fun p' s' hp' hb' => by have := hh.own_lt hp' hb'; omega⟩
    · exact ⟨fun hF => by rcases hF with hF | hF; exact (inh_not hin).1 hF; exact hnF hF, (inh_not hin).2⟩
  have d0 : Det e (hole σ q) w' β F2 res v (fun r => β' (0, r)) := by
    refine ⟨?_, refs_of_noRef res hr, fun r r' y y' b s s' hy ho hy' ho' hb hb' => ?_, fun r y b s hy ho hb => newb (p := (0, r)) ⟨y, by rw [hres]; exact hy, ho⟩ hb⟩
    · have := hi.rep 0
      rw [hres, upd_same] at this
      exact this.tr _ (fun b hb => ⟨.inr hb, rfl⟩) (fun r y _ _ => ⟨by simp, fun _ _ _ => rfl⟩) (fun p hp => by rw [refs_of_noRef res hr] at hp; cases hp)
    · have := hi.disj (0, r) (0, r') b s s' ⟨y, by rw [hres]; exact hy, ho⟩ ⟨y', by rw [hres]; exact hy', ho'⟩ hb hb'
      simpa using this
  have I1 := hH.attach d d0
  have hINH0 : (INH : Nat) ≠ 0 := by decide
  have repX := hi.rep INH
  rw [hobj, upd_other _ _ hINH0] at repX
  simp only [if_true] at repX
  have d1 : Det e (upd (fun i => purgeV d (hole σ q i)) d res) w' (fun p => if p.1 = d then β' (0, p.2) else β p) F2 x1 u (fun r => β' (INH, r)) := by
    refine ⟨?_, refs_of_noRef x1 hr1, fun r r' y y' b s s' hy ho hy' ho' hb hb' => ?_, fun r y b s hy ho hb => ⟨(newb (p := (INH, r)) ⟨y, by rw [hobj]; exact hy, ho⟩ hb).1, (newb (p := (INH, r)) ⟨y, by rw [hobj]; exact hy, ho⟩ hb).2.1, fun p s' hp hb' => ?_⟩⟩
    · exact repX.tr _ (fun b hb => ⟨.inr hb, rfl⟩) (fun r y _ _ => ⟨by simp, fun _ _ _ => rfl⟩) (fun p hp => by rw [refs_of_noRef x1 hr1] at hp; cases hp)
    · have := hi.disj (INH, r) (INH, r') b s s' ⟨y, by rw [hobj]; exact hy, ho⟩ ⟨y', by rw [hobj]; exact hy', ho'⟩ hb hb'
      simpa using this
    · by_cases hpd : p.1 = d
      · obtain ⟨y', hy', ho'⟩ := hp
        rw [hpd, upd_same] at hy'
        simp only [hpd, if_true] at hb'
        have := hi.disj (INH, r) (0, p.2) b s s' ⟨y, by rw [hobj]; exact hy, ho⟩ ⟨y', by rw [hres]; exact hy', ho'⟩ hb hb'
        simp [hINH0] at this
      · simp only [hpd, if_false] at hb'
        have hp' := (own_upd_other hpd).1 hp
        have : OwnAt (hole σ q) p := by
          obtain ⟨z, hz', hoz⟩ := hp'
          dsimp only at hz'
          rcases purgeV_or d (hole σ q p.1) with hp | hp
          · rw [hp] at hz'; exact ⟨z, hz', hoz⟩
          · rw [hp] at hz'; exact (undef_node hz' hoz).elim
        exact (newb (p := (INH, r)) ⟨y, by rw [hobj]; exact hy, ho⟩ hb).2.2 p s' this hb'
  have hs1 : upd (fun i => purgeV d (hole σ q i)) d res q.1 = setNode (σ q.1) q.2 .undef := by
    rw [upd_other _ _ (Ne.symm hds)]
    have : hole σ q q.1 = setNode (σ q.1) q.2 .undef := by simp [hole, upd]
    rw [this]
    exact purge_id fun p hp => (hrs p (refs_setNode (by simp [refs]) hz p hp)).2
  have hval : upd val d v q.1 = val q.1 := upd_other _ _ (Ne.symm hds)
  have hnz : node (upd (fun i => purgeV d (hole σ q i)) d res q.1) q.2 = some .undef := by rw [hs1]; exact node_set_self hz
  obtain ⟨b0, s0, hbq, hu0⟩ : ∃ b s, β q = some (b, s) ∧ u = .pointer (some ⟨b, 0, none⟩) := by
    obtain ⟨cs, rfl⟩ := hop0
    have hu' : Rep β F w (.op cs) q u := by simpa using hu
    simp only [Rep] at hu'
    obtain ⟨_, b, arr, t, h1, h2, _⟩ := hu'
    exact ⟨b, _, h1, h2⟩
  obtain ⟨s1, hbX⟩ : ∃ s, β' (INH, []) = some (b0, s) := by
    obtain ⟨cs, rfl⟩ := hop1
    have hx := repX
    simp only [Rep] at hx
    obtain ⟨_, b, arr, t, h1, h2, _⟩ := hx
    rw [hu0] at h2
    simp only [Value.pointer.injEq, Option.some.injEq, Addr.mk.injEq] at h2
    obtain ⟨rfl, _⟩ := h2
    exact ⟨_, h1⟩
  have hno1 : ¬ OwnAt (upd (fun i => purgeV d (hole σ q i)) d res) q := by
    rintro ⟨y, hy, ho⟩
    rw [hnz] at hy; cases hy; simp [AV.isOwn] at ho
  have hq1d : q.1 ≠ d := Ne.symm hds
  have I2 := I1.rebetaK (q := q) (b := b0) (s := s0) s1 (by simp only [hq1d, if_false]; exact hbq) hno1 (τ := fun i => if i = q.1 then upd (fun i => purgeV d (hole σ q i)) d res q.1 else if i = d then res else τ i) (fun i => by
    by_cases h1 : i = q.1
    · subst h1; left; simp
    · simp only [h1, if_false]
      by_cases hid : i = d
      · subst hid; left; simp [upd_same]
      · simp only [hid, if_false]
        rw [upd_other _ _ hid]
        have : hole σ q i = σ i := by simp [hole, upd, h1]
        rw [this]
        exact hτ i h1) (fun i p hp hpq => by
    by_cases h1 : i = q.1
    · subst h1
      simp only [if_true] at hp
      rw [hs1] at hp
      exact absurd (by rw [hpq]) (hrs p (refs_setNode (by simp [refs]) hz p hp)).1
    · simp only [h1, if_false] at hp ⊢
      by_cases hid : i = d
      · simp only [hid, if_true] at hp
        rw [refs_of_noRef res hr] at hp; cases hp
      · simp only [hid, if_false] at hp ⊢
        exact (hτr i h1 p hp (by rw [hpq])).2)
  have own21 : ∀ p, OwnAt (fun i => if i = q.1 then upd (fun i => purgeV d (hole σ q i)) d res q.1 else if i = d then res else τ i) p → OwnAt (upd (fun i => purgeV d (hole σ q i)) d res) p := by
    rintro ⟨i, r⟩ ⟨y, hy, ho⟩
    dsimp only at hy
    by_cases h1 : i = q.1
    · subst h1; simp only [if_true] at hy; exact ⟨y, hy, ho⟩
    · simp only [h1, if_false] at hy
      by_cases hid : i = d
      · subst hid; simp only [if_true] at hy; exact ⟨y, by dsimp only; rw [upd_same]; exact hy, ho⟩
      · simp only [hid, if_false] at hy
        rcases hτ i h1 with ht | ht
        · refine ⟨y, ?_, ho⟩
          dsimp only
          rw [upd_other _ _ hid]
          have : hole σ q i = σ i := by simp [hole, upd, h1]
          rw [this, ← ht]; exact hy
        · rw [ht] at hy; exact (undef_node hy ho).elim
  have d2 : Det e (fun i => if i = q.1 then upd (fun i => purgeV d (hole σ q i)) d res q.1 else if i = d then res else τ i) w' (fun p => if p = q then some (b0, s1) else (if p.1 = d then β' (0, p.2) else β p)) F2 x1 u (fun r => β' (INH, r)) :=
    ⟨d1.rep, d1.nr, d1.inj, fun r y b s hy ho hb => ⟨(d1.sep r y b s hy ho hb).1, (d1.sep r y b s hy ho hb).2.1, fun p s' hp hb' => by
      have hp1 := own21 p hp
      have hne : p ≠ q := fun he => hno1 (by have h9 := hp1; rw [he] at h9; exact h9)
      simp only [hne, if_false] at hb'
      exact (d1.sep r y b s hy ho hb).2.2 p s' hp1 hb'⟩⟩
  have hs2 : (fun i => if i = q.1 then upd (fun i => purgeV d (hole σ q i)) d res q.1 else if i = d then res else τ i) q.1 = setNode (σ q.1) q.2 .undef := by simp only [if_true]; exact hs1
  have hnz2 : node ((fun i => if i = q.1 then upd (fun i => purgeV d (hole σ q i)) d res q.1 else if i = d then res else τ i) q.1) q.2 = some .undef := by rw [hs2]; exact node_set_self hz
  have fin := I2.put (τ := fun i => if i = d then res else τ i) hnz2 d2 (by
    rw [if_pos rfl, hs1, setNode_setNode hz, hval]
    have hs0 : setNode (σ q.1) q.2 x1 = x1 := by rw [hq2]; rfl
    have hu1 : val q.1 = u := hue
    rw [hs0, hu1]
    exact repX.tr _ (fun b hb => ⟨.inr hb, rfl⟩) (fun r y _ _ => ⟨by
        have := glueAt_in (β := fun p => if p = q then some (b0, s1) else (if p.1 = d then β' (0, p.2) else β p)) (t := q.1) (r := q.2) (s := r) (δ := fun r => β' (INH, r))
        rw [hq2] at this ⊢
        simpa using this, fun _ _ _ => rfl⟩) (fun p hp => by rw [refs_of_noRef x1 hr1] at hp; cases hp)) (fun i hiq => by
    simp only [hiq, if_false]
    left; trivial) (fun i hiq p hp => by
    by_cases hid : i = d
    · subst hid
      simp only [if_true] at hp
      rw [refs_of_noRef res hr] at hp; cases hp
    · simp only [hid, if_false] at hp
      by_cases hpq : p.1 = q.1
      · obtain ⟨hpe, _⟩ := hτr i hiq p hp hpq
        subst hpe
        have h1 := glueAt_in (β := fun r => if r = p then some (b0, s1) else (if r.1 = d then β' (0, r.2) else β r)) (t := p.1) (r := p.2) (s := []) (δ := fun r => β' (INH, r))
        rw [List.append_nil] at h1
        refine h1.trans ?_
        simp only [if_true]
        exact hbX
      · exact glueAt_out (fun hh => hpq hh.1))
  rw [if_pos rfl, hs1, setNode_setNode hz] at fin
  have e1 : upd (fun i => if i = d then res else τ i) q.1 (setNode (σ q.1) q.2 x1) = upd (upd τ q.1 (setNode (σ q.1) q.2 x1)) d res := by
    funext i
    by_cases h1 : i = q.1
    · subst h1; rw [upd_same, upd_other _ _ (Ne.symm hds), upd_same]
    · by_cases h2 : i = d
      · subst h2; rw [upd_other _ _ h1, upd_same]; simp
      · rw [upd_other _ _ h1, upd_other _ _ h2, upd_other _ _ h1]; simp [h2]
  rw [e1] at fin
  exact ⟨_, _, he, fin⟩
end
section
variable {P : Program} {N : Nat} {σ τ : Sig} {o : Oper} {d : Nat}
theorem step_IOK {f : FuncId} {args vs : List AV} {res x0 x1 : AV} {q : Place} {us : Act → List Value} (hc : ACall P f args [x0] res [x1]) (hd : o.dst = some d) (hN : d < N)
    (hrun : ∀ a w gv e β F, All N gv e σ a w → Inv e σ (valOf N gv a) w β F → (execOp a.eval o).run P w = .ok (.enter f (us a).toArray) w ∧ RepL β F w vs (0, []) 0 (us a) ∧ (us a).length = vs.length ∧ ∀ c ∈ vs, NoOwn c)
    (hz : node (σ q.1) q.2 = some x0) (hs : passL q (fun _ => .undef) vs = args) (hq2 : q.2 = []) (hr0 : refs x0 = []) (hr : noRef res = true) (hr1 : noRef x1 = true)
    (hlen : args.length < INH) (hds : d ≠ q.1) (hrs : (refs (σ q.1)).all (fun p => p.1 != q.1 && p.1 != d) = true) (hop0 : ∃ cs, x0 = .op cs) (hop1 : ∃ cs, x1 = .op cs)
    (hτ : ∀ i, i ≠ q.1 → τ i = purgeV d (σ i) ∨ τ i = .undef)
    (hτr : ∀ i, i ≠ q.1 → ∀ p ∈ refs (τ i), p.1 = q.1 → p = q ∧ rpOk q (τ i)) :
    OStep P N o σ (upd (upd τ q.1 (setNode (σ q.1) q.2 x1)) d res) := by
  intro gv e a w ha K Q hK
  have ha0 := ha
  obtain ⟨hdf, hsz, β, F, hi⟩ := ha
  obtain ⟨h1, h2, h3, hno⟩ := hrun a w gv e β F ha0 hi
  have hi0 : Inv e (fun _ => .undef) (valOf N gv a) w β F := hi.weak (fun i => by simp [Rep]) (fun q ⟨y, hy, hoy⟩ => by
    cases hr : q.2 with
    | nil => rw [hr] at hy; simp [node] at hy; subst hy; simp [AV.isOwn] at hoy
    | cons j r => rw [hr] at hy; simp [node, kids] at hy)
  have hlent : ∀ b, lent (fun _ => .undef) β F b → F b := fun b hb => by
    rcases hb with hb | ⟨q, s, ⟨y, hy, hoy⟩, _⟩
    · exact hb
    · cases hr : q.2 with
      | nil => rw [hr] at hy; simp [node] at hy; subst hy; simp [AV.isOwn] at hoy
      | cons j r => rw [hr] at hy; simp [node, kids] at hy
  have hpass0 := hi0.passL q vs (p' := (0, [])) h2 (fun i c hc => hno c (List.mem_of_getElem? hc))
  rw [hs] at hpass0
  have hnoa : ∀ c ∈ args, NoOwn c := by rw [← hs]; exact noOwn_passL _ _ _ hno
  have hpass : RepL (passB q β) F w args (0, []) 0 (us a) := hpass0.tr _ (fun b hb => ⟨hlent b hb, rfl⟩) (fun i c r y hc hy ho => by
    rw [hnoa c (List.mem_of_getElem? hc) r y hy] at ho; cases ho) (fun _ _ _ _ => rfl)
  have hl : (us a).length = args.length := by rw [h3, ← hs, passL_eq]; simp
  have hrs' : ∀ p ∈ refs (σ q.1), p.1 ≠ q.1 ∧ p.1 ≠ d := fun p hp => by
    have := List.all_eq_true.1 hrs p hp
    simpa using this
  obtain ⟨vz, hvz⟩ := (hi.rep q.1).sub hz
  simp only [List.nil_append] at hvz
  refine upon_enter' h1 ((callIO_coreK hc hr hr1 hi hz hr0 (fun b arr t fz ⟨r, y, s, hy, ho, hb⟩ hh => own_fz hvz hy ho hb hh) hl hpass hq2 hnoa hlen hds hrs' hτ hτr hop0 hop1 (vs' := vs)).mono fun en w' ⟨v, β', F', he, hi'⟩ => ⟨v, he, hK _ _ ⟨?_, ?_, β', F', ?_⟩⟩)
  · rw [hd]; exact hdf
  · rw [hd, size_put]; exact hsz
  · rw [hd, valOf_put hsz hN]; exact hi'
theorem o_callIOKc {f : FuncId} {xs : List Operand} {tys : Array TypeId} {vs args : List AV} {res : AV} {cs0 cs1 : List AV} {q : Place} (ho : o.op = fnCall f xs tys) (hf : hasBody P f = true) (hd : o.dst = some d) (hN : d < N) (hx : RdL N true σ xs vs)
    (hz : node (σ q.1) q.2 = some (.op cs0)) (hs : passL q (fun _ => .undef) vs = args) (hc : ACall P f args [.op cs0] res [.op cs1])
    (hq2 : q.2 = []) (hr0 : refs (.op cs0) = []) (hr : noRef res = true) (hr1 : noRef (.op cs1) = true) (hlen : args.length < INH) (hds : d ≠ q.1) (hrs : (refs (σ q.1)).all (fun p => p.1 != q.1 && p.1 != d) = true) :
    OStep P N o σ (upd (upd (fun i => keepK q (purgeV d (σ i))) q.1 (setNode (σ q.1) q.2 (.op cs1))) d res) :=
  step_IOK (us := fun a => xs.map a.eval) hc hd hN (fun a w gv e β F _ hi => run_fnCall ho hf hx hi) hz hs hq2 hr0 hr hr1 hlen hds hrs ⟨_, rfl⟩ ⟨_, rfl⟩
    (fun i _ => by
      rcases keepK_or q (purgeV d (σ i)) with h | h
      · exact .inl h
      · exact .inr h) (fun i _ p hp hpq => keepK_refs hp hpq)
theorem o_cloIOKc {f : FuncId} {c : Operand} {xs : List Operand} {tys : Array TypeId} {first caps vs args : List AV} {res : AV} {cs0 cs1 : List AV} {q : Place} (ho : o.op = cloCall c xs tys) (hf : hasBody P f = true) (hd : o.dst = some d) (hN : d < N)
    (hcl : RdTo N true σ c (.fn f first caps)) (hx : RdL N true σ xs vs) (hz : node (σ q.1) q.2 = some (.op cs0)) (hs : passL q (fun _ => .undef) (first ++ vs ++ caps) = args) (hc : ACall P f args [.op cs0] res [.op cs1])
    (hq2 : q.2 = []) (hr0 : refs (.op cs0) = []) (hr : noRef res = true) (hr1 : noRef (.op cs1) = true) (hlen : args.length < INH) (hds : d ≠ q.1) (hrs : (refs (σ q.1)).all (fun p => p.1 != q.1 && p.1 != d) = true) :
    OStep P N o σ (upd (upd (fun i => keepK q (purgeV d (σ i))) q.1 (setNode (σ q.1) q.2 (.op cs1))) d res) :=
  step_IOK (us := fun a => cloArgs a.eval c xs) hc hd hN (fun a w gv e β F _ hi => run_cloCall ho hf hcl hx hi) hz hs hq2 hr0 hr hr1 hlen hds hrs ⟨_, rfl⟩ ⟨_, rfl⟩
    (fun i _ => by
      rcases keepK_or q (purgeV d (σ i)) with h | h
      · exact .inl h
      · exact .inr h) (fun i _ p hp hpq => keepK_refs hp hpq)
end
end Go.Av
namespace Go.Av
open Go Go.Proofs Go.Sort
theorem hb121 : hasBody Tryz.prog 121 = true := by kernel_rfl
theorem allCl_c (vars : Int) (L : List (List Int)) (w : Int) (hcl : ∀ i, i < L.length → clB vars (gl L i) = true) (hL : L.length ≤ 1048576) (hw : 0 ≤ w ∧ w ≤ 6) (hv6 : 0 ≤ vars ∧ vars ≤ 6) (v : Int) (c : List Int) (d : Nat) (ih : ∀ v1 c1 R, (vars + 1 - v1).toNat < (vars + 1 - v).toNat → (vars + 1 - v1).toNat ≤ d → 1 ≤ v1 ∧ v1 ≤ 7 → c1.length = c.length + 1 → R.length + 3 ^ (vars + 1 - v1).toNat ≤ 100000 → ACall Tryz.prog 121 [.int .i64 vars, .int .i64 v1, .sl (icells c1) c1.length, .fn 122 [] [.pp [.int .i64 vars, .sl (sls L) L.length] 0, .pp [.int .i64 w] 0, .rp (INH, []) 0]] [.op [.osl 1 (sls R) R.length none]] (.tup []) [.op [.osl 1 (sls (allG L w vars d v1 c1 R)) (allG L w vars d v1 c1 R).length none]]) (R : List (List Int)) (hdv : (vars + 1 - v).toNat ≤ d + 1) (hv : 1 ≤ v ∧ v ≤ 7) (hc : c.length ≤ 1000) (hR : R.length + 3 ^ (vars + 1 - v).toNat ≤ 100000) : ACall Tryz.prog 121 [.int .i64 vars, .int .i64 v, .sl (icells c) c.length, .fn 122 [] [.pp [.int .i64 vars, .sl (sls L) L.length] 0, .pp [.int .i64 w] 0, .rp (INH, []) 0]] [.op [.osl 1 (sls R) R.length none]] (.tup []) [.op [.osl 1 (sls (allG L w vars (d + 1) v c R)) (allG L w vars (d + 1) v c R).length none]] := by
 have hbQ := hb122
 have hbS := hb121
 have hra := aapp_length L w R c
 have hp1 := Nat.one_le_pow (vars + 1 - v).toNat 3 (by decide)
 refine ACall.intro Tryz.func121 rfl (N := 39) rfl (by decide) (by simp) ?_
 refine aq ?_
 refine rv (v := .fn _ _ _) (v_mv rfl) ?_
 refine rm (.sl _ _) ?_
 refine r_step rfl (o_cloIOKc (q := (INH, [])) (vs := [.sl _ _]) (args := [.sl _ _, .pp [.int .i64 vars, .sl (sls L) L.length] 0, .pp [.int .i64 w] 0, .rp (INH, []) 0]) (res := .tup []) rfl hbQ rfl (by decide) (.inl rfl) ⟨.inl rfl, trivial⟩ rfl rfl (allA1_c vars L w hcl hL hw c R (by omega) (by omega)) rfl rfl rfl (by simp [noRef, noRefL, sls_noRef]) (Nat.le_of_ble_eq_true rfl) (by decide) rfl) ?_
 refine r_nil ?_
 refine aq ?_
 refine rm (.int _ _) ?_
 refine ra (.int _ _) ?_
 refine r_nil ?_
 refine a_block ?_
 refine a_loop (X := Nat) (fun k => look [(0, .int .i64 vars), (2, .sl (icells c) c.length), (3, .fn 122 [] [.pp [.int .i64 vars, .sl (sls L) L.length] 0, .pp [.int .i64 w] 0, .rp (INH, []) 0]), (8, .int .i64 (v + (k : Int))), (INH, .op [.osl 1 (sls (allL (allG L w vars d) v c k (aapp L w R c))) (allL (allG L w vars d) v c k (aapp L w R c)).length none])]) (fun k => k ≤ (vars + 1 - v).toNat) (fun k => (vars + 1 - v).toNat - k) 0 (ent_look ⟨wr, wr, wr, Weak.of_eq (int_eq (by omega)), wr, trivial⟩) (Nat.zero_le _) (fun k hG => ?_)
 refine a_seq ?_
 refine aq ?_
 refine rm (.int _ _) ?_
 refine rm (.int _ _) ?_
 refine rv (v := .bool _) (v_leq il il) ?_
 refine r_nil ?_
 refine a_cond rfl (fun ht15 => ?_) (fun ht15 => ?_)
 ·
  refine a_skip ?_
  refine a_seq ?_
  refine a_block ?_
  refine a_seq ?_
  have hk : k < (vars + 1 - v).toNat := (by simp at ht15; omega)
  have hbd := all_bound L w vars d v c R hk
  refine a_region ?_
  refine rm (.int _ _) ?_
  refine rm (.int _ _) ?_
  refine rv (v := .int _ _) (v_add il il (fun _ => by omega)) ?_
  refine rm (.sl _ _) ?_
  refine f_call (cs := icells c) (sz := 1) (n := c.length) (cap := none) (vs := [.sl _ _]) (args := [.sl _ _]) rfl hb43 ⟨.inl rfl, trivial⟩ rfl (cloneI_c c c.length ⟨rfl, by omega⟩) rfl rfl (by decide) (ic_noSh _) (ic_noRef _) ?_
  refine f_val (v := .int .i64 (v + (k : Int))) (v_move (.inl rfl) nf) rfl rfl (by decide) (by decide) ?_
  refine f_new (v := .osl 1 (icells [(v + (k : Int))]) 1 (some 1)) (q_sliceLit (n := 1) (parts := [(0, .tmp 23)]) lt25 rfl rfl rfl rfl) rfl rfl (by decide) (by decide) ?_
  refine f_append rfl ap25 rfl rfl (by decide) (by decide) rfl (src_lit (.inl rfl) rfl rfl (ic_pureL _)) (ic_cell _) (by rw [icells_length, Nat.mul_one]) (ic_pureL _) (by rw [← icells_append]; exact ic_pure _) (by omega) (by omega) ?_
  refine r_pre (ent_eq (t := 25) (v' := .sl (icells (c ++ [(v + (k : Int))])) (c ++ [(v + (k : Int))]).length) (Weak.of_eq (sl_eq2 (icells_append _ _).symm (by simp)))) ?_
  refine rv (v := .fn _ _ _) (v_mv rfl) ?_
  refine r_step rfl (o_callIOKc (q := (INH, [])) (vs := [.int _ _, .int _ _, .sl _ _, .fn _ _ _]) (args := [.int .i64 vars, .int .i64 (v + (k : Int) + 1), .sl (icells (c ++ [v + (k : Int)])) (c ++ [v + (k : Int)]).length, .fn 122 [] [.pp [.int .i64 vars, .sl (sls L) L.length] 0, .pp [.int .i64 w] 0, .rp (INH, []) 0]]) (res := .tup []) rfl hbS rfl (by decide) ⟨.inl rfl, .inl rfl, .inl rfl, .inl rfl, trivial⟩ rfl rfl (ih (v + (k : Int) + 1) (c ++ [v + (k : Int)]) (allL (allG L w vars d) v c k (aapp L w R c)) (by omega) (by omega) (by omega) (by simp) (by omega)) rfl rfl rfl (by simp [noRef, noRefL, sls_noRef]) (Nat.le_of_ble_eq_true rfl) (by decide) rfl) ?_
  refine r_nil ?_
  refine a_region ?_
  refine rm (.int _ _) ?_
  refine rm (.int _ _) ?_
  refine rv (v := .int _ _) (v_add il il (fun _ => by omega)) ?_
  refine rm (.sl _ _) ?_
  refine f_call (cs := icells c) (sz := 1) (n := c.length) (cap := none) (vs := [.sl _ _]) (args := [.sl _ _]) rfl hb43 ⟨.inl rfl, trivial⟩ rfl (cloneI_c c c.length ⟨rfl, by omega⟩) rfl rfl (by decide) (ic_noSh _) (ic_noRef _) ?_
  refine f_val (v := .int .i64 (v + (k : Int))) (v_move (.inl rfl) nf) rfl rfl (by decide) (by decide) ?_
  refine f_val (v := .int .i64 (-(v + (k : Int)))) (v_neg (.inl rfl) (fun _ => by omega)) rfl rfl (by decide) (by decide) ?_
  refine f_new (v := .osl 1 (icells [(-(v + (k : Int)))]) 1 (some 1)) (q_sliceLit (n := 1) (parts := [(0, .tmp 34)]) lt25 rfl rfl rfl rfl) rfl rfl (by decide) (by decide) ?_
  refine f_append rfl ap25 rfl rfl (by decide) (by decide) rfl (src_lit (.inl rfl) rfl rfl (ic_pureL _)) (ic_cell _) (by rw [icells_length, Nat.mul_one]) (ic_pureL _) (by rw [← icells_append]; exact ic_pure _) (by omega) (by omega) ?_
  refine r_pre (ent_eq (t := 36) (v' := .sl (icells (c ++ [(-(v + (k : Int)))])) (c ++ [(-(v + (k : Int)))]).length) (Weak.of_eq (sl_eq2 (icells_append _ _).symm (by simp)))) ?_
  refine rv (v := .fn _ _ _) (v_mv rfl) ?_
  refine r_step rfl (o_callIOKc (q := (INH, [])) (vs := [.int _ _, .int _ _, .sl _ _, .fn _ _ _]) (args := [.int .i64 vars, .int .i64 (v + (k : Int) + 1), .sl (icells (c ++ [-(v + (k : Int))])) (c ++ [-(v + (k : Int))]).length, .fn 122 [] [.pp [.int .i64 vars, .sl (sls L) L.length] 0, .pp [.int .i64 w] 0, .rp (INH, []) 0]]) (res := .tup []) rfl hbS rfl (by decide) ⟨.inl rfl, .inl rfl, .inl rfl, .inl rfl, trivial⟩ rfl rfl (ih (v + (k : Int) + 1) (c ++ [-(v + (k : Int))]) (allG L w vars d (v + (k : Int) + 1) (c ++ [v + (k : Int)]) (allL (allG L w vars d) v c k (aapp L w R c))) (by omega) (by omega) (by omega) (by simp) (by omega)) rfl rfl rfl (by simp [noRef, noRefL, sls_noRef]) (Nat.le_of_ble_eq_true rfl) (by decide) rfl) ?_
  refine r_nil ?_
  refine a_region ?_
  refine rm (.int _ _) ?_
  refine rv (v := .int _ _) (v_add il il (fun _ => by omega)) ?_
  refine ra (.int _ _) ?_
  refine r_nil ?_
  refine ⟨k + 1, ent_look ⟨wr, wr, wr, Weak.of_eq (int_eq (by omega)), wr, trivial⟩, by omega, by omega⟩
 ·
  refine a_exit ?_
  refine ret0_look Tryz.results121 (by decide) ?_ rfl
  have hke : k = (vars + 1 - v).toNat := (by simp at ht15; omega); exact Weak.of_eq (by rw [hke]; rfl)
end Go.Av
namespace Go.Av
open Go Go.Proofs
theorem allClR_c (vars : Int) (L : List (List Int)) (w : Int) (hcl : ∀ i, i < L.length → clB vars (gl L i) = true) (hL : L.length ≤ 1048576) (hw : 0 ≤ w ∧ w ≤ 6) (hv6 : 0 ≤ vars ∧ vars ≤ 6) : ∀ (d : Nat) (v : Int) (c : List Int) (R : List (List Int)), (vars + 1 - v).toNat ≤ d → 1 ≤ v ∧ v ≤ 7 → c.length + d ≤ 1000 → R.length + 3 ^ (vars + 1 - v).toNat ≤ 100000 → ACall Tryz.prog 121 [.int .i64 vars, .int .i64 v, .sl (icells c) c.length, .fn 122 [] [.pp [.int .i64 vars, .sl (sls L) L.length] 0, .pp [.int .i64 w] 0, .rp (INH, []) 0]] [.op [.osl 1 (sls R) R.length none]] (.tup []) [.op [.osl 1 (sls (allG L w vars d v c R)) (allG L w vars d v c R).length none]]
 | 0, v, c, R, h1, h2, h3, h4 => by
  have h := allCl_c vars L w hcl hL hw hv6 v c 0 (fun v1 c1 R1 hlt => by omega) R (by omega) h2 (by omega) h4
  have e : allG L w vars (0 + 1) v c R = allG L w vars 0 v c R := by
   show allL _ v c (vars + 1 - v).toNat _ = _
   rw [show (vars + 1 - v).toNat = 0 by omega]; rfl
  rw [e] at h; exact h
 | d + 1, v, c, R, h1, h2, h3, h4 => allCl_c vars L w hcl hL hw hv6 v c d (fun v1 c1 R1 _ g1 g2 g3 g4 => allClR_c vars L w hcl hL hw hv6 d v1 c1 R1 g1 g2 (by omega) g4) R h1 h2 (by omega) h4
end Go.Av
namespace Go.Av
open Go
theorem asc_ext {lt : List Int → List Int → Bool} (hirr : ∀ a, lt a a = false) (htr : ∀ {a b c}, lt a b = true → lt b c = true → lt a c = true) :
    ∀ {M N : List (List Int)}, M.Pairwise (fun a b => lt a b = true) → N.Pairwise (fun a b => lt a b = true) → (∀ x, x ∈ M ↔ x ∈ N) → M = N
  | [], [], _, _, _ => rfl
  | [], y :: N, _, _, h => absurd ((h y).2 (List.mem_cons_self ..)) (by simp)
  | x :: M, [], _, _, h => absurd ((h x).1 (List.mem_cons_self ..)) (by simp)
  | x :: M, y :: N, h1, h2, h => by
    obtain ⟨a1, a2⟩ := List.pairwise_cons.1 h1
    obtain ⟨b1, b2⟩ := List.pairwise_cons.1 h2
    have hxy : x = y := by
      rcases List.mem_cons.1 ((h x).1 (List.mem_cons_self ..)) with hx | hx
      · exact hx
      · rcases List.mem_cons.1 ((h y).2 (List.mem_cons_self ..)) with hy | hy
        · exact hy.symm
        · have := htr (b1 x hx) (a1 y hy)
          rw [hirr] at this; cases this
    subst hxy
    have hne : ∀ {z}, lt x z = true → z ≠ x := fun hz he => by rw [he, hirr] at hz; cases hz
    rw [asc_ext hirr htr a2 b2 (fun z => ⟨fun hz => by
      rcases List.mem_cons.1 ((h z).1 (List.mem_cons_of_mem _ hz)) with he | he
      · exact absurd he (hne (a1 z hz))
      · exact he, fun hz => by
      rcases List.mem_cons.1 ((h z).2 (List.mem_cons_of_mem _ hz)) with he | he
      · exact absurd he (hne (b1 z hz))
      · exact he⟩)]
theorem aapp_hom (L : List (List Int)) (w : Int) (R : List (List Int)) (a : List Int) : aapp L w R a = R ++ aapp L w [] a := by
  unfold aapp; split <;> simp
theorem allL_hom {f : Int → List Int → List (List Int) → List (List Int)} (hf : ∀ u c R, f u c R = R ++ f u c []) (v : Int) (c : List Int) : ∀ k R, allL f v c k R = R ++ allL f v c k []
  | 0, R => by simp [allL]
  | k + 1, R => by
    simp only [allL]
    rw [hf _ _ (f _ _ (allL f v c k R)), hf _ _ (allL f v c k R), allL_hom hf v c k R, hf _ _ (f _ _ (allL f v c k [])), hf _ _ (allL f v c k [])]
    simp [List.append_assoc]
theorem allG_hom (L : List (List Int)) (w vars : Int) : ∀ (d : Nat) (v : Int) (c : List Int) (R : List (List Int)), allG L w vars d v c R = R ++ allG L w vars d v c []
  | 0, v, c, R => aapp_hom L w R c
  | d + 1, v, c, R => by
    simp only [allG]
    rw [allL_hom (fun u c R => allG_hom L w vars d u c R) v c _ (aapp L w R c), allL_hom (fun u c R => allG_hom L w vars d u c R) v c _ (aapp L w [] c), aapp_hom L w R c, List.append_assoc]
theorem allL_snoc {f : Int → List Int → List (List Int) → List (List Int)} (hf : ∀ u c R, f u c R = R ++ f u c []) (v : Int) (c : List Int) (k : Nat) :
    allL f v c (k + 1) [] = allL f v c k [] ++ (f (v + (k : Int) + 1) (c ++ [v + (k : Int)]) [] ++ f (v + (k : Int) + 1) (c ++ [-(v + (k : Int))]) []) := by
  simp only [allL]
  rw [hf _ _ (f _ _ (allL f v c k [])), hf _ _ (allL f v c k []), List.append_assoc]
theorem allG_pre (L : List (List Int)) (w vars : Int) : ∀ (d : Nat) (v : Int) (c x : List Int), 1 ≤ v → x ∈ allG L w vars d v c [] → ∃ t, x = c ++ t ∧ alB L w x = true ∧ (∀ l ∈ t, v ≤ vr l ∧ vr l ≤ vars) ∧ t.Pairwise fun l m => vr l < vr m := by
  have one : ∀ (v : Int) (c x : List Int), x ∈ aapp L w [] c → ∃ t, x = c ++ t ∧ alB L w x = true ∧ (∀ l ∈ t, v ≤ vr l ∧ vr l ≤ vars) ∧ t.Pairwise fun l m => vr l < vr m := fun v c x h => by
    unfold aapp at h
    split at h
    · rename_i ha
      simp at h; subst h
      exact ⟨[], by simp, ha, (fun l hl => by cases hl), List.Pairwise.nil⟩
    · cases h
  intro d
  induction d with
  | zero => exact fun v c x _ h => one v c x h
  | succ d ih =>
    intro v c x hv h
    simp only [allG] at h
    rw [allL_hom (fun u c R => allG_hom L w vars d u c R)] at h
    rcases List.mem_append.1 h with h | h
    · exact one v c x h
    · have key : ∀ k, k ≤ (vars + 1 - v).toNat → x ∈ allL (allG L w vars d) v c k [] → ∃ t, x = c ++ t ∧ alB L w x = true ∧ (∀ l ∈ t, v ≤ vr l ∧ vr l ≤ vars) ∧ t.Pairwise fun l m => vr l < vr m := by
        intro k
        induction k with
        | zero => intro _ h; simp [allL] at h
        | succ k ihk =>
          intro hk h
          rw [allL_snoc (fun u c R => allG_hom L w vars d u c R)] at h
          rcases List.mem_append.1 h with h | h
          · exact ihk (by omega) h
          · rcases List.mem_append.1 h with h | h
            · obtain ⟨t, rfl, ha, ht, hw⟩ := ih _ _ _ (by omega) h
              have hx : vr (v + (k : Int)) = v + (k : Int) := (by unfold vr; split <;> omega)
              refine ⟨(v + (k : Int)) :: t, by simp, ha, fun l hl => ?_, List.pairwise_cons.2 ⟨fun m hm => by have := ht m hm; omega, hw⟩⟩
              rcases List.mem_cons.1 hl with rfl | hl
              · unfold vr; split <;> omega
              · have := ht l hl; omega
            · obtain ⟨t, rfl, ha, ht, hw⟩ := ih _ _ _ (by omega) h
              have hx : vr (-(v + (k : Int))) = v + (k : Int) := (by unfold vr; split <;> omega)
              refine ⟨(-(v + (k : Int))) :: t, by simp, ha, fun l hl => ?_, List.pairwise_cons.2 ⟨fun m hm => by have := ht m hm; omega, hw⟩⟩
              rcases List.mem_cons.1 hl with rfl | hl
              · unfold vr; split <;> omega
              · have := ht l hl; omega
      exact key _ (Nat.le_refl _) h
theorem all_cl {vars : Int} (hv : 0 ≤ vars ∧ vars ≤ 6) (L : List (List Int)) (w : Int) {x : List Int} (h : x ∈ allG L w vars vars.toNat 1 [] []) : clB vars x = true ∧ alB L w x = true := by
  obtain ⟨t, rfl, ha, ht, hp⟩ := allG_pre L w vars _ _ _ _ (by omega) h
  refine ⟨clB_of (by omega) hp fun l hl => litB_spec.2 ?_, ha⟩
  have := ht l hl
  unfold vr at this
  split at this <;> omega
theorem all_lc {vars : Int} (hv : 0 ≤ vars ∧ vars ≤ 6) (L : List (List Int)) (w : Int) : AllA vars (allG L w vars vars.toNat 1 [] []) := fun i hi => by
  have h : gl (allG L w vars vars.toNat 1 [] []) i ∈ allG L w vars vars.toNat 1 [] [] := by
    have : (allG L w vars vars.toNat 1 [] [])[i]? = some (gl (allG L w vars vars.toNat 1 [] []) i) := by simp [gl, List.getElem?_eq_getElem hi]
    exact List.mem_of_getElem? this
  exact (all_cl hv L w h).1
theorem allG_nodup (L : List (List Int)) (w vars : Int) : ∀ (d : Nat) (v : Int) (c : List Int), 1 ≤ v → (allG L w vars d v c []).Nodup := by
  have one : ∀ c : List Int, (aapp L w [] c).Nodup ∧ ∀ x ∈ aapp L w [] c, x = c := fun c => by unfold aapp; split <;> simp
  intro d
  induction d with
  | zero => exact fun v c _ => (one c).1
  | succ d ih =>
    intro v c hv
    simp only [allG]
    rw [allL_hom (fun u c R => allG_hom L w vars d u c R)]
    have key : ∀ k, (allL (allG L w vars d) v c k []).Nodup ∧ ∀ x ∈ allL (allG L w vars d) v c k [], ∃ l t, x = c ++ l :: t ∧ vr l < v + (k : Int) := by
      intro k
      induction k with
      | zero => simp [allL]
      | succ k ihk =>
        rw [allL_snoc (fun u c R => allG_hom L w vars d u c R)]
        have hA : ∀ x ∈ allG L w vars d (v + (k : Int) + 1) (c ++ [v + (k : Int)]) [], ∃ t, x = c ++ (v + (k : Int)) :: t := fun x hx => by
          obtain ⟨t, rfl, _⟩ := allG_pre L w vars _ _ _ _ (by omega) hx; exact ⟨t, by simp⟩
        have hB : ∀ x ∈ allG L w vars d (v + (k : Int) + 1) (c ++ [-(v + (k : Int))]) [], ∃ t, x = c ++ (-(v + (k : Int))) :: t := fun x hx => by
          obtain ⟨t, rfl, _⟩ := allG_pre L w vars _ _ _ _ (by omega) hx; exact ⟨t, by simp⟩
        have e1 : vr (v + (k : Int)) = v + (k : Int) := by unfold vr; split <;> omega
        have e2 : vr (-(v + (k : Int))) = v + (k : Int) := by unfold vr; split <;> omega
        refine ⟨List.nodup_append.2 ⟨ihk.1, List.nodup_append.2 ⟨ih _ _ (by omega), ih _ _ (by omega), fun x hx y hy he => ?_⟩, fun x hx y hy he => ?_⟩, fun x hx => ?_⟩
        · obtain ⟨t, h1⟩ := hA x hx
          obtain ⟨t', h2⟩ := hB y hy
          rw [he, h2] at h1
          have := List.append_cancel_left h1
          simp at this; omega
        · obtain ⟨l, t, h1, h3⟩ := ihk.2 x hx
          rcases List.mem_append.1 hy with hy | hy
          · obtain ⟨t', h2⟩ := hA y hy
            rw [he, h2] at h1
            have := (List.cons.inj (List.append_cancel_left h1)).1
            rw [← this] at h3; omega
          · obtain ⟨t', h2⟩ := hB y hy
            rw [he, h2] at h1
            have := (List.cons.inj (List.append_cancel_left h1)).1
            rw [← this] at h3; omega
        · rcases List.mem_append.1 hx with hx | hx
          · obtain ⟨l, t, h1, h3⟩ := ihk.2 x hx
            exact ⟨l, t, h1, by omega⟩
          · rcases List.mem_append.1 hx with hx | hx
            · obtain ⟨t, h1⟩ := hA x hx
              exact ⟨_, t, h1, by omega⟩
            · obtain ⟨t, h1⟩ := hB x hx
              exact ⟨_, t, h1, by omega⟩
    refine List.nodup_append.2 ⟨(one c).1, (key _).1, fun x hx y hy he => ?_⟩
    obtain ⟨l, t, h1, _⟩ := (key _).2 y hy
    rw [← he, (one c).2 x hx] at h1
    have := congrArg List.length h1
    simp at this
theorem mem_allL {f : Int → List Int → List (List Int) → List (List Int)} (hf : ∀ u c R, f u c R = R ++ f u c []) (v : Int) (c x : List Int) {k : Nat} (h : x ∈ f (v + (k : Int) + 1) (c ++ [v + (k : Int)]) [] ∨ x ∈ f (v + (k : Int) + 1) (c ++ [-(v + (k : Int))]) []) :
    ∀ n, k < n → x ∈ allL f v c n []
  | 0, hn => by omega
  | n + 1, hn => by
    rw [allL_snoc hf]
    by_cases hk : k = n
    · subst hk
      rcases h with h | h <;> simp [h]
    · exact List.mem_append_left _ (mem_allL hf v c x h n (by omega))
theorem allG_mem (L : List (List Int)) (w vars : Int) : ∀ (d : Nat) (v : Int) (c t : List Int), 1 ≤ v → (vars + 1 - v).toNat ≤ d → alB L w (c ++ t) = true → (∀ l ∈ t, v ≤ vr l ∧ vr l ≤ vars ∧ l ≠ 0) → (t.Pairwise fun l m => vr l < vr m) → c ++ t ∈ allG L w vars d v c [] := by
  have one : ∀ c : List Int, alB L w c = true → c ∈ aapp L w [] c := fun c h => by unfold aapp; rw [if_pos h]; simp
  intro d
  induction d with
  | zero =>
    intro v c t hv hd ha ht hp
    cases t with
    | nil => rw [List.append_nil] at ha ⊢; exact one c ha
    | cons l t => have := ht l (List.mem_cons_self ..); omega
  | succ d ih =>
    intro v c t hv hd ha ht hp
    simp only [allG]
    rw [allL_hom (fun u c R => allG_hom L w vars d u c R)]
    cases t with
    | nil => rw [List.append_nil] at ha ⊢; exact List.mem_append_left _ (one c ha)
    | cons l t =>
      refine List.mem_append_right _ ?_
      have hl := ht l (List.mem_cons_self ..)
      obtain ⟨h1, h2⟩ := List.pairwise_cons.1 hp
      have hk : v + ((vr l - v).toNat : Int) = vr l := by omega
      have hrec : c ++ l :: t ∈ allG L w vars d (vr l + 1) (c ++ [l]) [] := by
        have := ih (vr l + 1) (c ++ [l]) t (by omega) (by omega) (by simpa using ha) (fun m hm => by have := h1 m hm; have := ht m (List.mem_cons_of_mem _ hm); omega) h2
        simpa using this
      refine mem_allL (fun u c R => allG_hom L w vars d u c R) v c _ (k := (vr l - v).toNat) ?_ _ (by omega)
      rw [hk]
      have hc : l = vr l ∨ l = -(vr l) := by unfold vr; split <;> omega
      rcases hc with hc | hc
      · left
        have e : c ++ [vr l] = c ++ [l] := by rw [← hc]
        rw [e]; exact hrec
      · right
        have e : c ++ [-(vr l)] = c ++ [l] := by rw [← hc]
        rw [e]; exact hrec
theorem cval_pre {c a t : List Int} (h : (a ++ t).Pairwise fun l m => vr l < vr m) (hc : cval c a < 0) : cval c (a ++ t) < 0 := by
  unfold cval at hc ⊢
  by_cases h1 : (c.any fun l => decide (l ∈ a)) = true
  · rw [if_pos h1] at hc; omega
  rw [if_neg h1] at hc
  by_cases h2 : (c.all fun l => decide (-l ∈ a)) = true
  · have hall : ∀ l ∈ c, -l ∈ a := fun l hl => by simpa using List.all_eq_true.1 h2 l hl
    rw [if_neg, if_pos]
    · omega
    · refine List.all_eq_true.2 fun l hl => ?_
      simp [hall l hl]
    · intro h3
      obtain ⟨l, hl, hm⟩ := List.any_eq_true.1 h3
      simp only [decide_eq_true_eq] at hm
      rcases List.mem_append.1 hm with hm | hm
      · exact h1 (List.any_eq_true.2 ⟨l, hl, by simpa using hm⟩)
      · have := (List.pairwise_append.1 h).2.2 _ (hall l hl) _ hm
        rw [vr_neg] at this; omega
  · rw [if_neg h2] at hc; omega
theorem alB_pre {L : List (List Int)} {w : Int} {a t : List Int} (h : (a ++ t).Pairwise fun l m => vr l < vr m) (ha : alB L w (a ++ t) = true) : alB L w a = true := by
  unfold alB at ha ⊢
  rw [Bool.and_eq_true, decide_eq_true_iff] at ha ⊢
  refine ⟨by have := ha.1; simp at this; omega, ?_⟩
  have h2 := ha.2
  rw [Bool.not_eq_true', List.any_eq_false] at h2 ⊢
  intro i hi hc
  refine h2 i hi ?_
  unfold alC at hc ⊢
  rw [Bool.and_eq_true, decide_eq_true_iff, decide_eq_true_iff] at hc ⊢
  exact ⟨hc.1, cval_pre h hc.2⟩
def LowC (v : Int) (c : List Int) : Prop := (c.Pairwise fun l m => vr l < vr m) ∧ ∀ l ∈ c, vr l < v
theorem LowC.nil (v : Int) : LowC v [] := ⟨List.Pairwise.nil, fun l h => by cases h⟩
theorem LowC.snoc {v u l : Int} {c : List Int} (h : LowC v c) (hv : v ≤ u) (hl : vr l = u) : LowC (u + 1) (c ++ [l]) := by
  refine ⟨List.pairwise_append.2 ⟨h.1, by simp, fun x hx y hy => ?_⟩, fun x hx => ?_⟩
  · simp only [List.mem_singleton] at hy; subst hy
    have := h.2 x hx; omega
  · rcases List.mem_append.1 hx with hx | hx
    · have := h.2 x hx; omega
    · simp only [List.mem_singleton] at hx; subst hx; omega
theorem allG_stop {L : List (List Int)} {w vars : Int} {d : Nat} {v : Int} {c : List Int} (hv : 1 ≤ v) (hc : LowC v c) (h : alB L w c = false) : allG L w vars d v c [] = [] := by
  rw [List.eq_nil_iff_forall_not_mem]
  intro x hx
  obtain ⟨t, rfl, ha, ht, hp⟩ := allG_pre L w vars d v c x hv hx
  rw [alB_pre (List.pairwise_append.2 ⟨hc.1, hp, fun l hl m hm => by have := hc.2 l hl; have := (ht m hm).1; omega⟩) ha] at h
  cases h
theorem allL_step {L : List (List Int)} {w vars : Int} {d : Nat} (v : Int) (c : List Int) (R : List (List Int)) (k : Nat) :
    allL (allG L w vars d) v c (k + 1) R = (allL (allG L w vars d) v c k R ++ allG L w vars d (v + (k : Int) + 1) (c ++ [v + (k : Int)]) []) ++ allG L w vars d (v + (k : Int) + 1) (c ++ [-(v + (k : Int))]) [] := by
  simp only [allL]
  rw [allG_hom L w vars d _ _ (allG L w vars d _ _ _), allG_hom L w vars d _ _ (allL _ _ _ _ _)]
end Go.Av
namespace Go.Av
open Go
section
variable {P : Program} {N : Nat} {A : Bool} {σ : Sig} {ops : Array Oper} {l rest : List Oper} {efs : EffsX} {o : Oper} {K : Sig → Prop} {jj t jf ja : Nat} {x : Operand}
theorem put_valOf {gv : Nat → Value} {a : Act} {d : Option Nat} {v : Value} (h : d ≠ some t) : valOf N gv (a.put d v) t = valOf N gv a t := by
  cases d with
  | none => rfl
  | some d =>
    have hd : d ≠ t := fun h' => h (by rw [h'])
    simp [valOf, Act.put, Array.getElem?_setIfInBounds, hd]
theorem wp_keeps {gv : Nat → Value} {a : Act} {w : World} {K' : Act → World → Prop} {Q : Exit → Act → World → Prop} (hd : o.dst ≠ some t) (h : o.wp P a w K' Q) : o.wp P a w (fun a' w' => K' a' w' ∧ valOf N gv a' t = valOf N gv a t) Q := by
  unfold Oper.wp at h ⊢
  revert h
  generalize (execOp a.eval o).run P w = r
  intro h
  unfold Oper.upon at h ⊢
  split at h
  · exact ⟨h, put_valOf hd⟩
  · exact ⟨h, put_valOf hd⟩
  · exact ⟨h, put_valOf hd⟩
  · refine Calls.mono h fun en w' hh => ?_
    cases en with
    | returned v => exact ⟨hh, put_valOf hd⟩
    | panicked c => exact hh
    | outgrown => exact hh
  · exact Rows.mono h fun v w' hh => ⟨hh, put_valOf hd⟩
  · exact h
  · exact h.elim
theorem zf_nil (h : K σ) : AQf P N t jf ja ops l efs [] jj σ K := h
theorem zf_op (hd : o.dst ≠ some t) (h1 : jj ≠ jf) (h2 : jj ≠ ja) (h : AQz P N ops l efs [o] jj σ (fun s => AQf P N t jf ja ops l efs rest (jj + 1) s K)) : AQf P N t jf ja ops l efs (o :: rest) jj σ K := by
  obtain ⟨us, D, e1, e2, e3, e4⟩ := h
  refine ⟨us, D, e1, fun σ' hD gv e a w ha _ K' Q hK => ?_, e3, e4⟩
  have hy := e2 σ' hD gv e a w ha (fun a' w' => All N gv e (updL (fun i => purgeD (pursX efs jj) (σ' i)) us) a' w') Q (fun a' w' h => h)
  split at hy
  · rename_i hw
    rw [if_pos hw]
    have := wp_keeps (N := N) (gv := gv) hd hy
    unfold Oper.wp at this ⊢
    revert this
    generalize (execOp a.eval o).run P w = r
    intro h
    have hfin : ∀ a' w', (All N gv e (updL (fun i => purgeD (pursX efs jj) (σ' i)) us) a' w' ∧ valOf N gv a' t = valOf N gv a t) → K' a' w' := fun a' w' h => hK a' w' h.1 (fun hk => (h1 hk).elim) (fun _ _ => h.2)
    unfold Oper.upon at h ⊢
    split at h
    · exact hfin _ _ h
    · exact hfin _ _ h
    · exact hfin _ _ h
    · refine Calls.mono h fun en w' hh => ?_
      cases en with
      | returned v => exact hfin _ _ hh
      | panicked c => exact hh
      | outgrown => exact hh
    · exact Rows.mono h fun v w' hh => hfin _ _ hh
    · exact h
    · exact h.elim
  · rename_i hw
    rw [if_neg hw]
    exact hK _ _ hy (fun hk => (h1 hk).elim) (fun _ _ => put_valOf hd)
theorem zf_call {f : FuncId} {xs : List Operand} {tys : Array TypeId} {vs args : List AV} {sz n : Nat} {cs : List AV} {cap : Option Nat} (hne : jf ≠ ja) (ho : o.op = fnCall f xs tys) (hf : hasBody P f = true) (hx : RdL N true σ xs vs) (hs : snapL σ vs = args) (hc : ACall P f args [] (.osl sz cs n cap) [])
    (hg : o.guard = none) (hd : o.dst = some t) (hN : t < N) (hn : noSh (.osl sz cs n cap) = true) (hr : noRef (.osl sz cs n cap) = true) (he : effX efs jf = [(t, true)]) (hok : opOkX l efs jf (slotsL xs ++ refRoots vs) [] = true)
    (h : AQf P N t jf ja ops l efs rest (jf + 1) (upd σ t (.osl sz cs n cap)) K) : AQf P N t jf ja ops l efs (o :: rest) jf σ K := by
  refine ⟨[(t, .osl sz cs n cap)], slotsL xs ++ refRoots vs, by simp [slotsX, he], fun σ' hD gv e a w ⟨hdf, hsz, β, F, hi⟩ _ K' Q hK => ?_, by simpa [rootsU, roots, refs_of_noRef _ hr] using hok, h⟩
  have hw : Region.wanted o (yielded ops a.tmps) = true := by simp [Region.wanted, hg]
  rw [if_pos hw]
  have hp : pureL args = true := by rw [← hs]; exact pure_snapL σ _
  obtain ⟨hrep, hlen, hno⟩ := RdL.rep rfl hi (0, []) (j := 0) hx (agree_l hD)
  have hsn := hi.snapL (β0 := fun _ => none) _ (p' := (0, [])) hrep (fun i c hc => hno c (List.mem_of_getElem? hc))
  have e2 : snapL σ' vs = args := by rw [← hs]; exact snapL_congr _ fun q hq => hD q.1 (List.mem_append_right _ (refRoots_mem hq))
  rw [e2] at hsn
  have hl : (xs.map a.eval).length = args.length := by rw [← e2, snapL_eq, hlen]; simp
  refine upon_enter' (f := f) (args := (xs.map a.eval).toArray) ?_ ((call_coreV hc hp hn hr hi hl hsn t).mono fun en w' ⟨v, β', he', hi', hfr⟩ => ⟨v, he', hK _ _ ⟨?_, ?_, β', F, ?_⟩ (fun _ => ?_) (fun h => absurd rfl h)⟩)
  · simp [execOp, ho, fnCall, resolve, Deferred.ofValue, Act.eval, invoke, run_callFunc_body hf]
  · rw [hd]; exact hdf
  · rw [hd, size_put]; exact hsz
  · rw [hd, valOf_put hsz hN]
    have e1 : pursX efs jf = [t] := by simp [pursX, he]
    simp only [updL, e1, purge1]; exact hi'
  · rw [hd, valOf_put hsz hN, upd_same]; exact hfr
theorem zf_append {d t' sz bytes n m : Nat} {cap : Option Nat} {cs ns : List AV} {D : List Nat} (hne : jf ≠ ja) (hg : o.guard = none) (ho : o.op = appCall (.tmp t) x t') (ht : appTy P t' = some (sz, bytes)) (hd : o.dst = some d) (hN : d < N) (hsN : t < N) (hsd : t ≠ d)
    (hs0 : σ t = .osl sz cs n cap) (hx0 : SrcIs N true (upd σ t .undef) x sz m ns D) (hc : cellL ns = true) (hcl : cs.length = n * sz) (hcs : pureL cs = true) (hps : pureL (cs ++ ns) = true ∧ noNilL (cs ++ ns) = true) (hm : 0 < n + m)
    (hb : n + m ≤ 9223372036854775807 ∧ (n + m) * bytes ≤ 140737488355328) {y : AV} (hy : AV.sl (cs ++ ns) (n + m) = y) (he : effX efs ja = [(t, false), (d, true)]) (hok : opOkX l efs ja (t :: D) [] = true)
    (h : AQf P N t jf ja ops l efs rest (ja + 1) (updL σ [(t, .undef), (d, y)]) K) : AQf P N t jf ja ops l efs (o :: rest) ja σ K := by
  subst hy
  refine ⟨[(t, .undef), (d, .sl (cs ++ ns) (n + m))], t :: D, by simp [slotsX, he], fun σ' hD gv e a w ⟨hdf, hsz, β, F, hi⟩ hfv K' Q hK => ?_, by simpa [rootsU, roots, refs] using hok, h⟩
  have hw : Region.wanted o (yielded ops a.tmps) = true := by simp [Region.wanted, hg]
  rw [if_pos hw]
  have hs : σ' t = .osl sz cs n cap := by rw [hD t (by simp)]; exact hs0
  have hx : SrcIs N true (upd σ' t .undef) x sz m ns D := ⟨hx0.1, fun hA τ hτ => hx0.2 hA τ (fun i hi => by
    rw [hτ i hi]; simp only [upd]; split
    · rfl
    · exact hD i (List.mem_cons_of_mem _ hi))⟩
  obtain ⟨v, w', β', F', hrun, h10⟩ := append_fresh (d := d) ho ht hsN hi (hfv rfl) hs hx hc hcl hcs hps hm hb
  refine wp_value hrun (hK _ _ ⟨by rw [hd]; exact hdf, by rw [hd, size_put]; exact hsz, ?_⟩ (fun h => absurd h.symm hne) (fun _ h => absurd rfl h))
  have e1 : pursX efs ja = [d] := by simp [pursX, he]
  rw [← upd_purge2 hsd] at h10
  rw [hd, valOf_put hsz hN, e1]
  exact ⟨_, _, h10⟩
end
end Go.Av
namespace Go.Av
open Go
def ACodeF (P : Program) (N : Nat) (c : Code) (σ : Sig) (Φ : Exit → Sig → Prop) : Prop :=
  ∀ (gv : Nat → Value) (e : Ctx) (a : Act) (w : World), (∀ b, ¬ e.inh b) → All N gv e σ a w → ∀ Q : Exit → Act → World → Prop, (∀ x a' w' σ', Φ x σ' → All N gv e σ' a' w' → Q x a' w') → SWp P c Q a w
section
variable {P : Program} {N : Nat} {σ σ' : Sig} {Φ : Exit → Sig → Prop} {c c' : Code}
theorem af_all (h : ACode P N c σ Φ) : ACodeF P N c σ Φ := fun gv e a w _ ha Q hQ => h gv e a w ha Q hQ
theorem af_of (h : ACode P N c σ Φ) : ACodeF P N c σ Φ := af_all h
theorem af_pre (h : Ent σ σ') (hc : ACodeF P N c σ' Φ) : ACodeF P N c σ Φ := fun gv e a w hh ha Q hQ => hc gv e a w hh (h.all ha) Q hQ
theorem af_seq (h : ACodeF P N c σ (fun x s => match x with | .normal => ACodeF P N c' s Φ | x => Φ x s)) : ACodeF P N (.seq c c') σ Φ := fun gv e a w hh ha Q hQ =>
  sw_seq (h gv e a w hh ha _ fun x a' w' s hx ha' => by
    cases x <;> simp only [Exit.then] <;> first | exact hx gv e a' w' hh ha' Q hQ | exact hQ _ _ _ _ hx ha')
theorem af_skip (h : Φ .normal σ) : ACodeF P N .skip σ Φ := af_all (a_skip h)
theorem af_ret (h : Φ .ret σ) : ACodeF P N .ret σ Φ := af_all (a_ret h)
theorem af_exit {id : Nat} (h : Φ (.exit id) σ) : ACodeF P N (.exit id) σ Φ := af_all (a_exit h)
theorem af_cond {t : Nat} {b : Bool} (hb : rd N σ (.tmp t) = .bool b) (h1 : b = true → ACodeF P N c σ Φ) (h2 : b = false → ACodeF P N c' σ Φ) : ACodeF P N (.cond (.tmp t) c c') σ Φ := fun gv e a w hh ha Q hQ => by
  obtain ⟨hdf, hsz, β, F, hi⟩ := ha
  have hr := rd_rep hi (.tmp t) (0, [])
  rw [hb] at hr
  simp only [Rep] at hr
  exact sw_cond_split hr (fun h => h1 h gv e a w hh ⟨hdf, hsz, β, F, hi⟩ Q hQ) (fun h => h2 h gv e a w hh ⟨hdf, hsz, β, F, hi⟩ Q hQ)
theorem af_block {id : Nat} (h : ACodeF P N c σ (fun x s => match x with | .exit i => if i = id then Φ .normal s else Φ (.exit i) s | x => Φ x s)) : ACodeF P N (.block id c) σ Φ := fun gv e a w hh ha Q hQ =>
  sw_block (h gv e a w hh ha _ fun x a' w' s hx ha' => by
    cases x <;> simp only [Exit.inBlock] <;> try exact hQ _ _ _ _ hx ha'
    dsimp only at hx
    split
    · rename_i h; rw [if_pos h] at hx; exact hQ _ _ _ _ hx ha'
    · rename_i h; rw [if_neg h] at hx; exact hQ _ _ _ _ hx ha')
theorem af_loop {X : Type} (lift : X → Sig) (G : X → Prop) (μ : X → Nat) (x0 : X) (h0 : Ent σ (lift x0)) (hG : G x0)
    (round : ∀ x, G x → ACodeF P N c (lift x) (fun ex s => match ex with | .normal => ∃ x', Ent s (lift x') ∧ G x' ∧ μ x' < μ x | ex => Φ ex s)) : ACodeF P N (.loop c) σ Φ := fun gv e a w hh ha Q hQ => by
  obtain ⟨leastOf, leastOf_spec⟩ := least_fun
  let J : Act → World → Nat → Prop := fun a w n => ∃ x, G x ∧ μ x = n ∧ All N gv e (lift x) a w
  refine sw_loop (fun a w => ∃ n, J a w n) (fun a w => leastOf (J a w)) ⟨_, x0, hG, rfl, h0.all ha⟩ fun a w hJ => ?_
  obtain ⟨x, hx, hn, hax⟩ := (leastOf_spec _ hJ).1
  refine round x hx gv e a w hh hax _ fun ex a' w' s hex' ha' => ?_
  cases ex <;> simp only [Exit.then] <;> try exact hQ _ _ _ _ hex' ha'
  obtain ⟨x', hent, hG', hlt⟩ := hex'
  have hJ' : J a' w' (μ x') := ⟨x', hG', rfl, hent.all ha'⟩
  have := (leastOf_spec _ ⟨_, hJ'⟩).2 _ hJ'
  exact ⟨⟨_, hJ'⟩, by omega⟩
theorem af_freeze {t : Nat} {x y : AV} (hx : σ t = x) (hs : sh x = y) (hc : ACodeF P N c (upd σ t y) Φ) : ACodeF P N c σ Φ := fun gv e a w hh ha Q hQ => by
  obtain ⟨hdf, hsz, β, F, hi⟩ := ha
  have e1 : upd σ t x = σ := by
    funext i
    by_cases h : i = t
    · subst h; rw [upd_same, hx]
    · rw [upd_other _ _ h]
  have hz := Inv.freeze (τ := σ) (d := t) (x := x) (by rw [e1]; exact hi) fun r z b s hz ho hb => by
    rcases (hi.sep (t, r) b s ⟨z, by rw [hx]; exact hz, ho⟩ hb).2 with h | h
    · exact h
    · exact (hh b h).elim
  rw [hs] at hz
  exact hc gv e a w hh ⟨hdf, hsz, β, _, hz⟩ Q hQ
theorem ACall.introF {f : FuncId} {fn : Func} {args : List AV} {res : AV} (hf : P.funcs[f]? = some fn) (hb : fn.body = some c) (hN : fn.ntmps = N) (hNI : N < INH) (ha : args.length ≤ N) (hp : pureL args = true)
    (h : ACodeF P N c (argSig args []) (fun x s => match x with | .normal => Returns P fn N s res [] | .ret => Returns P fn N s res [] | _ => False)) : ACall P f args [] res [] := by
  intro e vs val w β F hl hval hi0
  have hi : Inv ⟨w, fun _ => False, F, []⟩ (argSig args []) val w β F :=
    ⟨hi0.rep, fun q q' b s s' hq => (noOwn_argSig hp q hq).elim, fun q b s hq => (noOwn_argSig hp q hq).elim, fun b hb => ⟨(hi0.fr b hb).1, fun _ => hb⟩, fun _ _ _ => rfl, Nat.le_refl _, Tame.refl _⟩
  refine calls_of_wp hf hb ?_
  have hsz : (vs.toArray ++ Array.replicate (fn.ntmps - vs.toArray.size) undef).size = N := by simp [hN]; omega
  refine SWp.wp (h (fun i => val i) ⟨w, fun _ => False, F, []⟩ _ w (fun _ h => h) ⟨rfl, hsz, β, F, ?_⟩ _ fun x a' w' s hx ha' => ?_)
  · refine ⟨fun i => ?_, hi.disj, hi.sep, hi.fr, hi.kept, hi.grow, hi.tame⟩
    by_cases hlt : i < vs.length
    · have := hi.rep i
      rw [hval i hlt] at this
      have e1 : valOf N (fun i => val i) { tmps := vs.toArray ++ Array.replicate (fn.ntmps - vs.toArray.size) undef, defers := [] } i = vs.getD i undef := by
        have : i < N := by omega
        simp only [valOf, this, if_true]
        rw [Array.getD_eq_getD_getElem?, Array.getElem?_append_left (by simpa using hlt)]
        simp
      rw [e1]; exact this
    · by_cases hN' : i < N
      · have : argSig args [] i = .undef := by
          have h1 : i < INH := by omega
          have h2 : args[i]? = none := List.getElem?_eq_none (by omega)
          simp [argSig, h1, h2]
        rw [this]; simp [Rep]
      · have := hi.rep i
        simpa [valOf, hN'] using this
  · cases x <;> simp only at hx
    all_goals
      obtain ⟨v, hr, β', F', hi'⟩ := hx _ _ a' w' ha'
      have hkept : ∀ b, b < w.heap.size → w'.heap[b]? = w.heap[b]? := fun b hb => hi'.kept b hb (fun h => h)
      exact ⟨ha'.defers, v, hr, v, β', F', rfl, ⟨hi'.rep, hi'.disj, fun q b s hq hb => ⟨(hi'.sep q b s hq hb).1, .inl (by
          rcases (hi'.sep q b s hq hb).2 with h | h
          · exact Nat.le_trans hi0.grow h
          · exact h.elim)⟩, fun b hb => ⟨(hi'.fr b hb).1, fun hlt => (hi0.fr b ((hi'.fr b hb).2 (Nat.lt_of_lt_of_le hlt hi0.grow))).2 hlt⟩, fun b hb hn => by
          rw [hkept b (Nat.lt_of_lt_of_le hb hi0.grow)]; exact hi0.kept b hb hn, Nat.le_trans hi0.grow hi'.grow, hi0.tame.trans hi'.tame hkept⟩⟩
end
end Go.Av
namespace Go.Av
open Go
variable {P : Program} {N : Nat} {σ : Sig}
theorem fq {id : Nat} {m : List Oper} {c : Code} {Φ : Exit → Sig → Prop} (h : ARun P N m.toArray m σ (fun s => ACodeF P N c s Φ)) (hnd : noDefer m = true := by kernel_rfl) : ACodeF P N (.seq (.region id m.toArray false) c) σ Φ := af_seq (af_of (a_region h hnd))
end Go.Av
namespace Go.Av
open Go Go.Proofs Go.Sort
theorem hb115 : hasBody Tryz.prog 115 = true := by kernel_rfl
theorem hb29 : hasBody Tryz.prog 29 = true := by kernel_rfl
theorem l13A1_c (vars : Int) (L : List (List Int)) (w : Int) (hcl : ∀ i, i < L.length → clB vars (gl L i) = true) (hL : L.length ≤ 1048576) (hw : 0 ≤ w ∧ w ≤ 6) (hv6 : 0 ≤ vars ∧ vars ≤ 6) (u : Int) (a : List Int) (d : Nat) (ih : ∀ u1 c1, (vars - u1).toNat < (vars - u).toNat → (vars - u1).toNat ≤ d → 0 ≤ u1 ∧ u1 ≤ 6 → LowC (u1 + 1) c1 → c1.length = a.length + 1 → ACall Tryz.prog 115 [.agg [.int .i64 vars, .sl (sls L) L.length], .int .i64 w, .sl (icells c1) c1.length, .int .i64 u1] [] (.osl 1 (sls (allG L w vars d (u1 + 1) c1 [])) (allG L w vars d (u1 + 1) c1 []).length none) []) (hdv : (vars - u).toNat ≤ d + 1) (hu : 0 ≤ u ∧ u ≤ 6) (hc : a.length ≤ 1000) (hlow : LowC (u + 1) a) : ACall Tryz.prog 115 [.agg [.int .i64 vars, .sl (sls L) L.length], .int .i64 w, .sl (icells a) a.length, .int .i64 u] [] (.osl 1 (sls (allG L w vars (d + 1) (u + 1) a [])) (allG L w vars (d + 1) (u + 1) a []).length none) [] := by
  have hbS := hb115
  have hra := aapp_length L w [] a
  have hp1 := Nat.pow_le_pow_right (n := 3) (by decide) (show (vars + 1 - (u + 1)).toNat ≤ 6 by omega)
  refine ACall.intro Tryz.func115 rfl (N := 54) rfl (by decide) (by simp) ?_
  refine aq ?_
  refine rn (v := .op [.int _ _, .sl _ _]) (q_box il rfl rfl) ?_
  refine ra .nils ?_
  refine r_nil ?_
  refine aq ?_
  refine rn (v := .osl _ _ _ _) (q_sliceLit (n := 0) (parts := []) lt22 rfl rfl rfl rfl) ?_
  refine ra (.rsl _ _ _ _ _) ?_
  refine r_pre (ent_reloc_sl (t := 9) rfl rfl) ?_
  refine r_nil ?_
  refine a_seq ?_
  refine aq ?_
  refine rv (v := .agg [.int _ _, .sl _ _]) (v_load_rpa1 ta29 il rfl rfl (fun _ => rfl) rfl) ?_
  refine rm (.int _ _) ?_
  refine rm (.sl _ _) ?_
  refine rn (v := .bool _) (q_call (vs := [.agg [.int _ _, .sl _ _], .int _ _, .sl _ _]) (args := [.agg [.int .i64 _, .sl _ _], .int .i64 _, .sl _ _]) hb29 ⟨il, il, il, trivial⟩ rfl (fun hA => allow13_c vars L a w hcl hL (by omega) hw) rfl rfl) ?_
  refine rv (v := .bool _) (v_not il) ?_
  refine r_nil ?_
  refine a_cond rfl (fun ht16 => ?_) (fun ht16 => ?_)
  ·
    refine aq ?_
    refine rm (.rsl _ _ _ _ _) ?_
    refine ra (.rsl _ _ _ _ _) ?_
    refine r_pre (ent_reloc_sl (t := 8) rfl rfl) ?_
    refine r_nil ?_
    refine a_ret ?_
    refine ret1 Tryz.results115 (by decide) (by decide) (Weak.osl ?_ ?_) rfl Leaves.nil
    · rw [allG_stop (by omega) hlow (by simpa using ht16)]; rfl
    · rw [allG_stop (by omega) hlow (by simpa using ht16)]; rfl
  ·
    refine a_skip ?_
    refine a_seq ?_
    have hal : alB L w a = true := (by simpa using ht16)
    have hae : aapp L w [] a = [a] := (by unfold aapp; rw [if_pos hal]; rfl)
    refine a_region ?_
    refine rm (.rsl _ _ _ _ _) ?_
    refine rm (.sl _ _) ?_
    refine rn (v := .osl _ _ _ _) (q_sliceLit (n := 1) (parts := [(0, .tmp 19)]) lt22 rfl rfl rfl rfl) ?_
    refine r_pre (ent_reloc_sl (t := 18) rfl rfl) ?_
    refine r_step rfl (o_append rfl ap22 rfl (by decide) (by decide) rfl (src_lit (.inl rfl) rfl rfl rfl) rfl rfl (by omega)) ?_
    refine ra (.rsl _ _ _ _ _) ?_
    refine r_pre (ent_reloc_sl (t := 9) rfl rfl) ?_
    refine r_nil ?_
    refine a_seq ?_
    refine aq ?_
    refine rm (.int _ _) ?_
    refine rv (v := .int _ _) (v_add il il (fun _ => by omega)) ?_
    refine ra (.int _ _) ?_
    refine r_nil ?_
    refine a_block ?_
    refine a_loop (X := Nat) (fun k => look [(1, .int .i64 w), (2, .sl (icells a) a.length), (4, .op [.int .i64 vars, .sl (sls L) L.length]), (9, .osl 1 (sls (allL (allG L w vars d) (u + 1) a k (aapp L w [] a))) (allL (allG L w vars d) (u + 1) a k (aapp L w [] a)).length none), (10, .int .i64 (u + 1 + (k : Int)))]) (fun k => k ≤ (vars + 1 - (u + 1)).toNat) (fun k => (vars + 1 - (u + 1)).toNat - k) 0 (ent_look ⟨wr, wr, wr, Weak.osl (by show _ = sls (aapp L w [] a); rw [hae]; rfl) (by show _ = (aapp L w [] a).length; rw [hae]; rfl), Weak.of_eq (int_eq (by omega)), trivial⟩) (Nat.zero_le _) (fun k hG => ?_)
    refine a_seq ?_
    refine aq ?_
    refine rm (.int _ _) ?_
    refine rv (v := .rp _ _) (v_fieldAddr_rp fo29_0 il) ?_
    refine rv (v := .int _ _) (v_load_rp1 ta3 il rfl (fun _ => rfl) rfl) ?_
    refine rv (v := .bool _) (v_leq il il) ?_
    refine r_nil ?_
    refine a_cond rfl (fun ht27 => ?_) (fun ht27 => ?_)
    ·
      refine a_skip ?_
      refine a_seq ?_
      refine a_block ?_
      refine a_seq ?_
      have hk : k < (vars + 1 - (u + 1)).toNat := (by simp at ht27; omega)
      have hbd := all_bound L w vars d (u + 1) a [] hk
      have hgg := allG_length L w vars d ((u + 1 + (k : Int)) + 1) (a ++ [(u + 1 + (k : Int))]) []
      have hgm := allG_length L w vars d ((u + 1 + (k : Int)) + 1) (a ++ [-(u + 1 + (k : Int))]) []
      have hlp : LowC ((u + 1 + (k : Int)) + 1) (a ++ [(u + 1 + (k : Int))]) := hlow.snoc (by omega) (by unfold vr; split <;> omega)
      have hlm : LowC ((u + 1 + (k : Int)) + 1) (a ++ [-(u + 1 + (k : Int))]) := hlow.snoc (by omega) (by unfold vr; split <;> omega)
      have hp2 := Nat.pow_le_pow_right (n := 3) (by decide) (show (vars + 1 - ((u + 1 + (k : Int)) + 1)).toNat ≤ 6 by omega)
      simp only [List.length_nil, Nat.zero_add] at hbd hgg hgm
      refine a_region_zf (n := 10) (t := 34) (jf := 4) (ja := 7) [[(30, true)], [(31, true)], [(32, true)], [(33, true)], [(34, true)], [(35, true)], [(36, true)], [(34, false), (37, true)], [(38, true)], [(39, true)]] mixed (by kernel_rfl) ?_
      refine zf_op (by decide) (by decide) (by decide) ?_
      refine z_val (v := .rsl _ _ _ _ _) (v_move il nf) rfl rfl (by decide) rfl (by kernel_rfl) ?_
      refine z_nil ?_
      refine zf_op (by decide) (by decide) (by decide) ?_
      refine z_val (v := .agg [.int _ _, .sl _ _]) (v_load_rpa1 ta29 il rfl rfl (fun _ => rfl) rfl) rfl rfl (by decide) rfl (by kernel_rfl) ?_
      refine z_nil ?_
      refine zf_op (by decide) (by decide) (by decide) ?_
      refine z_val (v := .int _ _) (v_move il nf) rfl rfl (by decide) rfl (by kernel_rfl) ?_
      refine z_nil ?_
      refine zf_op (by decide) (by decide) (by decide) ?_
      refine z_val (v := .sl _ _) (v_move il nf) rfl rfl (by decide) rfl (by kernel_rfl) ?_
      refine z_nil ?_
      refine zf_call (vs := [.sl _ _]) (args := [.sl _ _]) (sz := 1) (cs := icells a) (n := a.length) (cap := none) (by decide) rfl hb32 ⟨.inl rfl, trivial⟩ rfl (l1Own_c a a.length ⟨rfl, by omega⟩) rfl rfl (by decide) (ic_noSh _) (ic_noRef _) rfl (by kernel_rfl) ?_
      refine zf_op (by decide) (by decide) (by decide) ?_
      refine z_val (v := .int _ _) (v_move il nf) rfl rfl (by decide) rfl (by kernel_rfl) ?_
      refine z_nil ?_
      refine zf_op (by decide) (by decide) (by decide) ?_
      refine z_new (v := .osl 1 (icells [(u + 1 + (k : Int))]) 1 (some 1)) (q_sliceLit (n := 1) (parts := [(0, .tmp 35)]) lt25 rfl rfl rfl rfl) rfl rfl (by decide) rfl (by kernel_rfl) ?_
      refine z_nil ?_
      refine zf_append (by decide) rfl rfl ap25 rfl (by decide) (by decide) (by decide) rfl (src_lit (.inl rfl) rfl rfl (ic_pureL _)) (ic_cell _) (by rw [icells_length, Nat.mul_one]) (ic_pureL _) (by rw [← icells_append]; exact ic_pure _) (by omega) (by omega) (y := .sl (icells (a ++ [(u + 1 + (k : Int))])) (a ++ [(u + 1 + (k : Int))]).length) (sl_eq2 (icells_append _ _).symm (by simp)) rfl (by kernel_rfl) ?_
      refine zf_op (by decide) (by decide) (by decide) ?_
      refine z_val (v := .int _ _) (v_move il nf) rfl rfl (by decide) rfl (by kernel_rfl) ?_
      refine z_nil ?_
      refine zf_op (by decide) (by decide) (by decide) ?_
      refine z_new (v := .osl _ _ _ _) (q_callF (vs := [.agg [.int _ _, .sl _ _], .int _ _, .sl _ _, .int _ _]) (args := [.agg [.int .i64 _, .sl _ _], .int .i64 _, .sl _ _, .int .i64 _]) hb115 ⟨il, il, il, il, trivial⟩ rfl (fun hA => ih (u + 1 + (k : Int)) (a ++ [(u + 1 + (k : Int))]) (by omega) (by omega) (by omega) hlp (by simp)) rfl (by simp [noRef, noRefL, sls_noRef])) rfl rfl (by decide) rfl (by kernel_rfl) ?_
      refine z_nil ?_
      refine zf_nil ?_
      refine r_pre (ent_reloc_sl (t := 30) rfl rfl) ?_
      refine r_step rfl (o_append_own rfl ap22 rfl (by decide) (by decide) (by decide) (by decide) rfl rfl (sls_cell _) (by rw [sls_length, Nat.mul_one]) (by rw [sls_length, Nat.mul_one]) (by omega)) ?_
      refine ra (.rsl _ _ _ _ _) ?_
      refine r_pre (ent_reloc_sl (t := 9) rfl rfl) ?_
      refine r_nil ?_
      refine a_region_zf (n := 11) (t := 45) (jf := 4) (ja := 8) [[(41, true)], [(42, true)], [(43, true)], [(44, true)], [(45, true)], [(46, true)], [(47, true)], [(48, true)], [(45, false), (49, true)], [(50, true)], [(51, true)]] mixed (by kernel_rfl) ?_
      refine zf_op (by decide) (by decide) (by decide) ?_
      refine z_val (v := .rsl _ _ _ _ _) (v_move il nf) rfl rfl (by decide) rfl (by kernel_rfl) ?_
      refine z_nil ?_
      refine zf_op (by decide) (by decide) (by decide) ?_
      refine z_val (v := .agg [.int _ _, .sl _ _]) (v_load_rpa1 ta29 il rfl rfl (fun _ => rfl) rfl) rfl rfl (by decide) rfl (by kernel_rfl) ?_
      refine z_nil ?_
      refine zf_op (by decide) (by decide) (by decide) ?_
      refine z_val (v := .int _ _) (v_move il nf) rfl rfl (by decide) rfl (by kernel_rfl) ?_
      refine z_nil ?_
      refine zf_op (by decide) (by decide) (by decide) ?_
      refine z_val (v := .sl _ _) (v_move il nf) rfl rfl (by decide) rfl (by kernel_rfl) ?_
      refine z_nil ?_
      refine zf_call (vs := [.sl _ _]) (args := [.sl _ _]) (sz := 1) (cs := icells a) (n := a.length) (cap := none) (by decide) rfl hb32 ⟨.inl rfl, trivial⟩ rfl (l1Own_c a a.length ⟨rfl, by omega⟩) rfl rfl (by decide) (ic_noSh _) (ic_noRef _) rfl (by kernel_rfl) ?_
      refine zf_op (by decide) (by decide) (by decide) ?_
      refine z_val (v := .int _ _) (v_move il nf) rfl rfl (by decide) rfl (by kernel_rfl) ?_
      refine z_nil ?_
      refine zf_op (by decide) (by decide) (by decide) ?_
      refine z_val (v := .int _ _) (v_neg il (fun _ => by omega)) rfl rfl (by decide) rfl (by kernel_rfl) ?_
      refine z_nil ?_
      refine zf_op (by decide) (by decide) (by decide) ?_
      refine z_new (v := .osl 1 (icells [-(u + 1 + (k : Int))]) 1 (some 1)) (q_sliceLit (n := 1) (parts := [(0, .tmp 47)]) lt25 rfl rfl rfl rfl) rfl rfl (by decide) rfl (by kernel_rfl) ?_
      refine z_nil ?_
      refine zf_append (by decide) rfl rfl ap25 rfl (by decide) (by decide) (by decide) rfl (src_lit (.inl rfl) rfl rfl (ic_pureL _)) (ic_cell _) (by rw [icells_length, Nat.mul_one]) (ic_pureL _) (by rw [← icells_append]; exact ic_pure _) (by omega) (by omega) (y := .sl (icells (a ++ [-(u + 1 + (k : Int))])) (a ++ [-(u + 1 + (k : Int))]).length) (sl_eq2 (icells_append _ _).symm (by simp)) rfl (by kernel_rfl) ?_
      refine zf_op (by decide) (by decide) (by decide) ?_
      refine z_val (v := .int _ _) (v_move il nf) rfl rfl (by decide) rfl (by kernel_rfl) ?_
      refine z_nil ?_
      refine zf_op (by decide) (by decide) (by decide) ?_
      refine z_new (v := .osl _ _ _ _) (q_callF (vs := [.agg [.int _ _, .sl _ _], .int _ _, .sl _ _, .int _ _]) (args := [.agg [.int .i64 _, .sl _ _], .int .i64 _, .sl _ _, .int .i64 _]) hb115 ⟨il, il, il, il, trivial⟩ rfl (fun hA => ih (u + 1 + (k : Int)) (a ++ [-(u + 1 + (k : Int))]) (by omega) (by omega) (by omega) hlm (by simp)) rfl (by simp [noRef, noRefL, sls_noRef])) rfl rfl (by decide) rfl (by kernel_rfl) ?_
      refine z_nil ?_
      refine zf_nil ?_
      refine r_pre (ent_reloc_sl (t := 41) rfl rfl) ?_
      refine r_step rfl (o_append_own rfl ap22 rfl (by decide) (by decide) (by decide) (by decide) rfl rfl (sls_cell _) (by rw [List.length_append, sls_length, sls_length]; omega) (by rw [sls_length, Nat.mul_one]) (by omega)) ?_
      refine ra (.rsl _ _ _ _ _) ?_
      refine r_pre (ent_reloc_sl (t := 9) rfl rfl) ?_
      refine r_nil ?_
      refine a_region ?_
      refine rm (.int _ _) ?_
      refine rv (v := .int _ _) (v_add il il (fun _ => by omega)) ?_
      refine ra (.int _ _) ?_
      refine r_nil ?_
      refine ⟨k + 1, ent_look ⟨wr, wr, wr, Weak.osl (by rw [allL_step, sls_append, sls_append]) (by rw [allL_step]; simp only [List.length_append]), Weak.of_eq (int_eq (by omega)), trivial⟩, by omega, by omega⟩
    ·
      refine a_exit ?_
      refine aq ?_
      refine rm (.rsl _ _ _ _ _) ?_
      refine ra (.rsl _ _ _ _ _) ?_
      refine r_pre (ent_reloc_sl (t := 8) rfl rfl) ?_
      refine r_nil ?_
      refine a_ret ?_
      refine ret1 Tryz.results115 (by decide) (by decide) (Weak.osl ?_ ?_) rfl Leaves.nil
      all_goals (have hke : k = (vars + 1 - (u + 1)).toNat := (by simp at ht27; omega); rw [hke]; rfl)
end Go.Av
namespace Go.Av
open Go Go.Proofs
theorem l13A_c (vars : Int) (L : List (List Int)) (w : Int) (hcl : ∀ i, i < L.length → clB vars (gl L i) = true) (hL : L.length ≤ 1048576) (hw : 0 ≤ w ∧ w ≤ 6) (hv6 : 0 ≤ vars ∧ vars ≤ 6) : ∀ (d : Nat) (u : Int) (a : List Int), (vars - u).toNat ≤ d → 0 ≤ u ∧ u ≤ 6 → LowC (u + 1) a → a.length + d ≤ 1000 → ACall Tryz.prog 115 [.agg [.int .i64 vars, .sl (sls L) L.length], .int .i64 w, .sl (icells a) a.length, .int .i64 u] [] (.osl 1 (sls (allG L w vars d (u + 1) a [])) (allG L w vars d (u + 1) a []).length none) []
 | 0, u, a, h1, h2, h3, h4 => by
  have h := l13A1_c vars L w hcl hL hw hv6 u a 0 (fun u1 c1 hlt => by omega) (by omega) h2 (by omega) h3
  have e : allG L w vars (0 + 1) (u + 1) a [] = allG L w vars 0 (u + 1) a [] := by
   show allL _ (u + 1) a (vars + 1 - (u + 1)).toNat _ = _
   rw [show (vars + 1 - (u + 1)).toNat = 0 by omega]; rfl
  rw [e] at h; exact h
 | d + 1, u, a, h1, h2, h3, h4 => l13A1_c vars L w hcl hL hw hv6 u a d (fun u1 c1 _ g1 g2 g3 g4 => l13A_c vars L w hcl hL hw hv6 d u1 c1 g1 g2 g3 (by omega)) h1 h2 (by omega) h3
end Go.Av
namespace Go.Av
open Go
def ascP (M : List (List Int)) : Prop := M.Pairwise fun a b => bfL a b = true
theorem ascP_M {M : List (List Int)} (h : ascP M) : ascM M := fun i hi => by
  have h1 := (List.pairwise_iff_getElem.1 h) i (i + 1) (by omega) hi (by omega)
  unfold gl
  rw [List.getElem?_eq_getElem (by omega), List.getElem?_eq_getElem hi]; exact h1
def putM (M : List (List Int)) (c : List Int) : List (List Int) := M.take (plc M c) ++ c :: M.drop (plc M c)
def insM (M : List (List Int)) (c : List Int) : List (List Int) := if c ∈ M then M else putM M c
theorem plc_in {M : List (List Int)} (h : ascM M) {c : List Int} : (plc M c < M.length ∧ gl M (plc M c) = c) ↔ c ∈ M := by
  have h1 := atL_mem h c
  rw [decide_eq_decide] at h1
  rw [← h1]
  unfold atL
  split
  · rename_i h2; exact ⟨fun _ => by omega, fun _ => h2⟩
  · rename_i h2; exact ⟨fun h3 => absurd h3 h2, fun h3 => by omega⟩
theorem insM_in {M : List (List Int)} {c : List Int} (h : c ∈ M) : insM M c = M := by unfold insM; rw [if_pos h]
theorem insM_out {M : List (List Int)} {c : List Int} (h : ¬ c ∈ M) : insM M c = putM M c := by unfold insM; rw [if_neg h]
theorem putM_mem (M : List (List Int)) (c y : List Int) : y ∈ putM M c ↔ y = c ∨ y ∈ M := by
  unfold putM
  have h := List.take_append_drop (plc M c) M
  rw [List.mem_append, List.mem_cons]
  constructor
  · rintro (h1 | h1 | h1)
    · exact .inr (List.mem_of_mem_take h1)
    · exact .inl h1
    · exact .inr (List.mem_of_mem_drop h1)
  · rintro (h1 | h1)
    · exact .inr (.inl h1)
    · rw [← h, List.mem_append] at h1
      rcases h1 with h1 | h1
      · exact .inl h1
      · exact .inr (.inr h1)
theorem putM_len (M : List (List Int)) (c : List Int) : (putM M c).length = M.length + 1 := by
  have := plc_le M c
  unfold putM; simp; omega
theorem bfL_of {x c : List Int} (h : bfL x c = false) (hne : x ≠ c) : bfL c x = true := by
  cases h1 : bfL c x with
  | true => rfl
  | false => exact absurd (bfL_tot h h1) hne
theorem putM_asc (c : List Int) : ∀ {M : List (List Int)}, ascP M → c ∉ M → ascP (putM M c)
  | [], _, _ => by simp [putM, ascP, plc]
  | x :: M, h, hn => by
    obtain ⟨h1, h2⟩ := List.pairwise_cons.1 h
    have hx : x ≠ c := fun e => hn (by rw [e]; exact List.mem_cons_self ..)
    have hM : c ∉ M := fun e => hn (List.mem_cons_of_mem _ e)
    cases hb : bfL x c with
    | true =>
      have e : putM (x :: M) c = x :: putM M c := by simp [putM, plc, hb]
      rw [e]
      refine List.pairwise_cons.2 ⟨fun y hy => ?_, putM_asc c h2 hM⟩
      rcases (putM_mem M c y).1 hy with hy | hy
      · rw [hy]; exact hb
      · exact h1 y hy
    | false =>
      have e : putM (x :: M) c = c :: x :: M := by simp [putM, plc, hb]
      rw [e]
      have hc := bfL_of hb hx
      refine List.pairwise_cons.2 ⟨fun y hy => ?_, h⟩
      rcases List.mem_cons.1 hy with hy | hy
      · rw [hy]; exact hc
      · exact bfL_trans hc (h1 y hy)
theorem insM_mem (M : List (List Int)) (c y : List Int) : y ∈ insM M c ↔ y = c ∨ y ∈ M := by
  unfold insM
  split
  · rename_i h
    exact ⟨.inr, fun h1 => by rcases h1 with h1 | h1; (rw [h1]; exact h); exact h1⟩
  · exact putM_mem M c y
theorem insM_asc {M : List (List Int)} {c : List Int} (h : ascP M) : ascP (insM M c) := by
  unfold insM
  split
  · exact h
  · rename_i hn; exact putM_asc c h hn
theorem insM_len (M : List (List Int)) (c : List Int) : (insM M c).length ≤ M.length + 1 := by
  unfold insM; split
  · omega
  · rw [putM_len]; omega
def sortI (R : List (List Int)) (k : Nat) : List (List Int) := (R.take k).foldl insM []
theorem sortI_succ {R : List (List Int)} {k : Nat} (h : k < R.length) : sortI R (k + 1) = insM (sortI R k) (gl R k) := by
  unfold sortI
  rw [List.take_succ_eq_append_getElem h, List.foldl_append]
  unfold gl
  rw [List.getElem?_eq_getElem h]; rfl
theorem foldl_ins (M : List (List Int)) : ∀ (R : List (List Int)), ascP M → ascP (R.foldl insM M) ∧ (∀ y, y ∈ R.foldl insM M ↔ y ∈ M ∨ y ∈ R) ∧ (R.foldl insM M).length ≤ M.length + R.length := fun R => by
  induction R generalizing M with
  | nil => exact fun h => ⟨h, by simp, by simp⟩
  | cons c R ih =>
    intro h
    obtain ⟨h1, h2, h3⟩ := ih (insM M c) (insM_asc h)
    refine ⟨h1, fun y => ?_, ?_⟩
    · rw [List.foldl_cons, h2, insM_mem, List.mem_cons]
      constructor
      · rintro ((h | h) | h)
        · exact .inr (.inl h)
        · exact .inl h
        · exact .inr (.inr h)
      · rintro (h | h | h)
        · exact .inl (.inr h)
        · exact .inl (.inl h)
        · exact .inr h
    · have := insM_len M c
      rw [List.foldl_cons]
      simp only [List.length_cons]; omega
theorem sortI_spec (R : List (List Int)) (k : Nat) : ascP (sortI R k) ∧ (∀ y, y ∈ sortI R k ↔ y ∈ R.take k) ∧ (sortI R k).length ≤ R.length := by
  obtain ⟨h1, h2, h3⟩ := foldl_ins [] (R.take k) List.Pairwise.nil
  refine ⟨h1, fun y => ?_, ?_⟩
  · unfold sortI; rw [h2]; simp
  · unfold sortI
    simp at h3 ⊢; omega
def srtB (R : List (List Int)) : List (List Int) := R.mergeSort fun x y => !bfL y x
theorem srtB_spec {R : List (List Int)} (hn : R.Nodup) : ascP (srtB R) ∧ ∀ y, y ∈ srtB R ↔ y ∈ R := by
  have hs : (srtB R).Pairwise fun a b => (!bfL b a) = true := by
    refine List.pairwise_mergeSort (fun a b c h1 h2 => ?_) (fun a b => ?_) R
    · simp only [Bool.not_eq_true'] at h1 h2 ⊢
      cases h3 : bfL c a with
      | false => rfl
      | true =>
        by_cases e : b = c
        · subst e; rw [h1] at h3; exact h3.symm
        · have h4 := bfL_of h2 (fun h => e h.symm)
          have := bfL_trans h4 h3
          rw [h1] at this; exact this.symm
    · simp only [Bool.or_eq_true, Bool.not_eq_true']
      cases h1 : bfL b a with
      | false => exact .inl rfl
      | true =>
        right
        cases h2 : bfL a b with
        | false => rfl
        | true => have := bfL_trans h1 h2; rw [bfL_irr] at this; cases this
  have hp : (srtB R).Perm R := List.mergeSort_perm R _
  refine ⟨?_, fun y => hp.mem_iff⟩
  have hn' : (srtB R).Nodup := hp.nodup_iff.2 hn
  refine (hs.and hn').imp fun {a b} h => ?_
  have h1 := h.1
  simp only [Bool.not_eq_true'] at h1
  exact bfL_of h1 (Ne.symm h.2)
theorem sortI_eq {R : List (List Int)} (hn : R.Nodup) : sortI R R.length = srtB R := by
  obtain ⟨h1, h2, _⟩ := sortI_spec R R.length
  obtain ⟨h3, h4⟩ := srtB_spec hn
  refine asc_ext bfL_irr bfL_trans h1 h3 fun y => ?_
  rw [h2, h4, List.take_length]
theorem AllA_mem {vars : Int} {M : List (List Int)} : AllA vars M ↔ ∀ c ∈ M, clB vars c = true := by
  constructor
  · intro h c hc
    obtain ⟨i, hi, e⟩ := gl_ix hc
    rw [← e]; exact h i hi
  · intro h i hi
    exact h _ (gl_mem hi)
end Go.Av
namespace Go.Av
open Go Go.Proofs Go.Sort
theorem hb35 : hasBody Tryz.prog 35 = true := by kernel_rfl
theorem ins2_c (vars : Int) (M : List (List Int)) (c : List Int) (hMl : M.length ≤ 1048576) (hM : AllA vars M) (has : ascM M) (hca : clB vars c = true) : ACall Tryz.prog 35 [.sl (sls M) M.length, .sl (icells c) c.length] [] (.sl (sls (insM M c)) (insM M c).length) [] := by
  have hlc := clB_len hca
  have hpl := plc_le M c
  refine ACall.introF Tryz.func35 rfl (N := 34) rfl (by decide) (by simp) (by simp [pureL, pureV, sls_pureL, ic_pureL]) ?_
  refine fq ?_
  refine ra .nils ?_
  refine r_nil ?_
  refine fq ?_
  refine rm (.sl _ _) ?_
  refine rm (.sl _ _) ?_
  refine rn (v := .int _ _) (q_call (vs := [.sl _ _, .sl _ _]) (args := [.sl _ _, .sl _ _]) hb79 ⟨il, il, trivial⟩ rfl (fun hA => plc_c vars M c hMl hM has hca) rfl rfl) ?_
  refine ra (.int _ _) ?_
  refine r_nil ?_
  refine af_seq ?_
  refine fq ?_
  refine rm (.int _ _) ?_
  refine rm (.sl _ _) ?_
  refine rv (v := .int _ _) (v_len_sl sl22 il) ?_
  refine rv (v := .bool _) (v_lss il il) ?_
  refine rm (.bool _) ?_
  refine rg (v := .sl _ _) (v_move il nf) ?_
  refine rg (v := .int _ _) (v_move il nf) ?_
  refine r_gval (v := .pp _ _) (v_indexAddr_sl es22 (.inr ⟨_, rfl, fun h => h⟩) (.inr ⟨_, rfl, fun h => h⟩) (fun hA => by have h9 : plc M c < M.length := (by simpa using hA); exact ⟨by omega, by omega, sls_ne h9⟩)) rfl rfl rfl (by decide) (.inl ⟨_, rfl, rfl⟩) rfl (by decide) ?_
  refine r_gval (v := .sl (icells (gl M (plc M c))) (gl M (plc M c)).length) (v_load_pp ta25 (.inr ⟨_, rfl, fun h => h⟩) (fun hA => by rw [Nat.mul_one]; exact sls_get (by simpa using hA)) rfl) rfl rfl rfl (by decide) (.inl ⟨_, rfl, rfl⟩) rfl (by decide) ?_
  refine rg (v := .sl _ _) (v_move il nf) ?_
  refine r_guard (v := .bool _) (q_call (vs := [.sl _ _, .sl _ _]) (args := [.sl _ _, .sl _ _]) hb80 ⟨.inr ⟨_, rfl, fun h => h⟩, .inr ⟨_, rfl, fun h => h⟩, trivial⟩ rfl (fun hA => same_c (gl M (plc M c)) c (by have := clB_len (hM _ (show plc M c < M.length by simpa using hA)); omega) (by omega)) rfl rfl) rfl rfl rfl (by decide) (.inl ⟨_, rfl, rfl⟩) rfl (by decide) ?_
  refine rv (v := .bool _) (v_pick (.inl rfl) (.inr ⟨_, rfl, fun h h2 => by simp_all⟩) (.inl rfl)) ?_
  refine r_nil ?_
  refine af_cond rfl (fun ht20 => ?_) (fun ht20 => ?_)
  ·
    refine af_seq ?_
    have hin : c ∈ M := (plc_in has).1 (by simpa using ht20)
    refine af_of ?_
    refine a_region ?_
    refine rm (.sl _ _) ?_
    refine ra (.sl _ _) ?_
    refine r_nil ?_
    refine af_ret ?_
    refine ret1 Tryz.results35 (by decide) (by decide) (Weak.of_eq (sl_eq2 ?_ ?_)) rfl Leaves.nil
    · rw [insM_in hin]
    · rw [insM_in hin]
  ·
    refine af_skip ?_
    refine af_seq ?_
    have hni : ¬ c ∈ M := fun h => by have h9 := (plc_in has).2 h; simp at ht20; exact ht20 h9.1 h9.2
    refine af_of ?_
    refine a_region_x [[(22, true)], [(23, true)], [(24, true)], [(25, true)], [(22, false), (26, true)], [(27, true)], [(28, true)], [(26, false), (29, true)], [(30, true)], [(31, true)], [(32, true)], [(29, false), (33, true)], [(4, true)]] mixed (by kernel_rfl) ?_
    refine z_new (v := .osl 1 [] 0 (some 0)) (q_sliceLit (n := 0) (parts := []) lt22 rfl rfl rfl rfl) rfl rfl (by decide) rfl (by kernel_rfl) ?_
    refine z_val (v := .sl _ _) (v_move il nf) rfl rfl (by decide) rfl (by kernel_rfl) ?_
    refine z_val (v := .int _ _) (v_move il nf) rfl rfl (by decide) rfl (by kernel_rfl) ?_
    refine z_val (v := .sl (sls (M.take (plc M c))) (plc M c)) ((v_slice_sl (l := 0) (h := (plc M c)) es22 il (.inl ⟨rfl, rfl⟩) (.inr ⟨_, _, rfl, il⟩) (fun _ => by omega)).cast (sl_eq2 (by simp [sls_take]) (by omega))) rfl rfl (by decide) rfl (by kernel_rfl) ?_
    refine z_append rfl rfl ap22 rfl (by decide) (by decide) (by decide) rfl (src_sl (.inl rfl) (fun _ => by rw [sls_length, List.length_take]; omega) (sls_pure _).1) (sls_cell _) rfl (by omega) rfl (by kernel_rfl) ?_
    refine z_val (v := .sl _ _) (v_move il nf) rfl rfl (by decide) rfl (by kernel_rfl) ?_
    refine z_new (v := .osl 1 [.sl (icells c) c.length] 1 (some 1)) (q_sliceLit (n := 1) (parts := [(0, .tmp 27)]) lt22 rfl rfl rfl rfl) rfl rfl (by decide) rfl (by kernel_rfl) ?_
    refine z_append rfl rfl ap22 rfl (by decide) (by decide) (by decide) rfl (src_lit (.inl rfl) rfl rfl rfl) rfl (by rw [List.nil_append, sls_length, List.length_take]; omega) (by omega) rfl (by kernel_rfl) ?_
    refine z_val (v := .sl _ _) (v_move il nf) rfl rfl (by decide) rfl (by kernel_rfl) ?_
    refine z_val (v := .int _ _) (v_move il nf) rfl rfl (by decide) rfl (by kernel_rfl) ?_
    refine z_val (v := .sl (sls (M.drop (plc M c))) (M.length - plc M c)) ((v_slice_sl (l := (plc M c)) (h := M.length) es22 il (.inr ⟨_, _, rfl, il⟩) (.inl ⟨rfl, rfl⟩) (fun _ => by omega)).cast (sl_eq2 (by rw [Nat.mul_one, Nat.mul_one, sls_drop]; exact List.take_of_length_le (by rw [sls_length, List.length_drop]; omega)) rfl)) rfl rfl (by decide) rfl (by kernel_rfl) ?_
    refine z_append rfl rfl ap22 rfl (by decide) (by decide) (by decide) rfl (src_sl (.inl rfl) (fun _ => by rw [sls_length, List.length_drop]; omega) (sls_pure _).1) (sls_cell _) (by rw [List.nil_append, List.length_append, sls_length, List.length_take]; simp; omega) (by omega) rfl (by kernel_rfl) ?_
    refine z_val (v := .rsl _ _ _ _ _) (v_assign il nf) rfl rfl (by decide) rfl (by kernel_rfl) ?_
    refine z_nil ?_
    refine af_pre (ent_reloc_sl (t := 4) rfl rfl) ?_
    refine af_pre (ent_eq (t := 4) (v' := .osl 1 (sls (insM M c)) (insM M c).length none) (Weak.osl (by rw [insM_out hni]; unfold putM; simp [sls]) (by rw [insM_out hni, putM_len]; omega))) ?_
    refine af_freeze (t := 4) rfl (sl_shZ (sls_pure _)) ?_
    refine af_ret ?_
    refine ret1 Tryz.results35 (by decide) (by decide) (Weak.of_eq (sl_eq2 ?_ ?_)) rfl Leaves.nil
    all_goals rfl
theorem sorted13_c (vars : Int) (L : List (List Int)) (w : Int) (hcl : ∀ i, i < L.length → clB vars (gl L i) = true) (hL : L.length ≤ 1048576) (hw : 0 ≤ w ∧ w ≤ 6) (hv6 : 0 ≤ vars ∧ vars ≤ 6) : ACall Tryz.prog 73 [.agg [.int .i64 vars, .sl (sls L) L.length], .int .i64 w] [] (.sl (sls (srtB (allG L w vars vars.toNat 1 [] []))) (srtB (allG L w vars vars.toNat 1 [] [])).length) [] := by
  have hp8 := Nat.pow_le_pow_right (n := 3) (by decide) (show (vars + 1 - 1).toNat ≤ 6 by omega)
  have hal := allG_length L w vars vars.toNat 1 [] []
  simp only [List.length_nil, Nat.zero_add] at hal
  have hlc := all_lc hv6 L w
  have hnd := allG_nodup L w vars vars.toNat 1 [] (by omega)
  have hso := fun k => sortI_spec (allG L w vars vars.toNat 1 [] []) k
  have hsa : ∀ k, AllA vars (sortI (allG L w vars vars.toNat 1 [] []) k) := fun k => AllA_mem.2 fun c hc => AllA_mem.1 hlc c (List.mem_of_mem_take (((hso k).2.1 c).1 hc))
  refine ACall.intro Tryz.func73 rfl (N := 26) rfl (by decide) (by simp) ?_
  refine aq ?_
  refine rn (v := .op [.int _ _, .sl _ _]) (q_box il rfl rfl) ?_
  refine ra .nils ?_
  refine r_nil ?_
  refine aq ?_
  refine rv (v := .agg [.int _ _, .sl _ _]) (v_load_rpa1 ta29 il rfl rfl (fun _ => rfl) rfl) ?_
  refine rm (.int _ _) ?_
  refine rn (v := .sl (icells []) ([] : List Int).length) ((q_sliceLitZ (n := 0) (parts := []) lt25 rfl rfl rfl rfl).cast (by first | rfl | rw [shL_id _ (ic_pure _).1 (ic_pure _).2])) ?_
  refine rn (v := .sl (sls (allG L w vars vars.toNat 1 [] [])) (allG L w vars vars.toNat 1 [] []).length) (QSem.cast (QSem.cast (q_callFZ (vs := [.agg [.int _ _, .sl _ _], .int _ _, .sl _ _, .int _ _]) (args := [.agg [.int .i64 _, .sl _ _], .int .i64 _, .sl _ _, .int .i64 _]) hb115 ⟨il, il, il, il, trivial⟩ rfl (fun hA => l13A_c vars L w hcl hL hw hv6 vars.toNat 0 [] (by omega) (by omega) (LowC.nil _) (by simp; omega)) rfl (by simp [noRef, noRefL, sls_noRef])) (sl_shZ (m := 1) (c := none) (sls_pure _))) (sl_eq2 rfl rfl)) ?_
  refine rn (v := .sl (sls []) ([] : List (List Int)).length) ((q_sliceLitZ (n := 0) (parts := []) lt22 rfl rfl rfl rfl).cast (by first | rfl | rw [shL_id _ (ic_pure _).1 (ic_pure _).2])) ?_
  refine ra (.sl _ _) ?_
  refine ra (.sl _ _) ?_
  refine r_nil ?_
  refine a_seq ?_
  refine aq ?_
  refine ra (.int _ _) ?_
  refine r_nil ?_
  refine a_block ?_
  refine a_loop (X := Nat) (fun i => look [(5, .sl (sls (allG L w vars vars.toNat 1 [] [])) (allG L w vars vars.toNat 1 [] []).length), (6, .sl (sls (sortI (allG L w vars vars.toNat 1 [] []) i)) (sortI (allG L w vars vars.toNat 1 [] []) i).length), (7, .int .i64 ((i : Nat) : Int))]) (fun i => i ≤ (allG L w vars vars.toNat 1 [] []).length) (fun i => (allG L w vars vars.toNat 1 [] []).length - i) 0 (ent_look ⟨wr, wr, wr, trivial⟩) (Nat.zero_le _) (fun i hG => ?_)
  refine a_seq ?_
  refine aq ?_
  refine rm (.int _ _) ?_
  refine rm (.sl _ _) ?_
  refine rv (v := .int _ _) (v_len_sl sl22 il) ?_
  refine rv (v := .bool _) (v_lss il il) ?_
  refine r_nil ?_
  refine a_cond rfl (fun ht16 => ?_) (fun ht16 => ?_)
  ·
    refine a_skip ?_
    refine a_seq ?_
    refine a_block ?_
    have hi : i < (allG L w vars vars.toNat 1 [] []).length := (by simp at ht16; omega)
    refine a_region ?_
    refine rm (.sl _ _) ?_
    refine rm (.sl _ _) ?_
    refine rm (.int _ _) ?_
    refine rv (v := .pp _ _) (v_indexAddr_sl es22 il il (fun _ => ⟨by omega, by omega, sls_ne hi⟩)) ?_
    refine rv (v := .sl (icells (gl (allG L w vars vars.toNat 1 [] []) i)) (gl (allG L w vars vars.toNat 1 [] []) i).length) (v_load_pp ta25 il (fun _ => by rw [Nat.mul_one]; exact sls_get hi) rfl) ?_
    refine rn (v := .sl _ _) (q_callF (vs := [.sl _ _, .sl _ _]) (args := [.sl _ _, .sl _ _]) hb35 ⟨il, il, trivial⟩ rfl (fun hA => ins2_c vars (sortI (allG L w vars vars.toNat 1 [] []) i) (gl (allG L w vars vars.toNat 1 [] []) i) (by have := (hso i).2.2; omega) (hsa i) (ascP_M (hso i).1) (hlc i hi)) rfl rfl) ?_
    refine ra (.sl _ _) ?_
    refine r_nil ?_
    refine a_region ?_
    refine rm (.int _ _) ?_
    refine rv (v := .int _ _) (v_add il il (fun _ => by omega)) ?_
    refine ra (.int _ _) ?_
    refine r_nil ?_
    refine ⟨i + 1, ent_look ⟨wr, Weak.of_eq (by rw [sortI_succ hi]; rfl), Weak.of_eq (int_eq (by omega)), trivial⟩, by omega, by omega⟩
  ·
    refine a_exit ?_
    refine aq ?_
    refine rm (.sl _ _) ?_
    refine ra (.sl _ _) ?_
    refine r_nil ?_
    refine a_ret ?_
    refine ret1 Tryz.results73 (by decide) (by decide) (Weak.of_eq (sl_eq2 ?_ ?_)) rfl Leaves.nil
    all_goals (have hie : i = (allG L w vars vars.toNat 1 [] []).length := (by simp at ht16; omega); rw [hie, sortI_eq hnd])
end Go.Av
namespace Go.Av
open Go
def stayB (vars w : Int) (M : List (List Int)) (a : List Int) : Bool := decide (a ∈ M) && keepsB vars w M a
def outB (vars w : Int) (M : List (List Int)) (a : List Int) : Bool := decide (a ∈ M) && !keepsB vars w M a
def shN (vars w : Int) (A : List (List Int)) : Nat → List (List Int)
  | 0 => A
  | n + 1 => A.filter (stayB vars w (shN vars w A n))
def rdN (vars w : Int) (A : List (List Int)) : Nat → List Int → Int
  | 0, _ => 0
  | n + 1, a => if outB vars w (shN vars w A n) a then ((n + 1 : Nat) : Int) else rdN vars w A n a
section
variable {vars w : Int} {A : List (List Int)}
theorem shN_sub : ∀ n a, a ∈ shN vars w A n → a ∈ A
  | 0, _, h => h
  | _ + 1, _, h => (List.mem_filter.1 h).1
theorem shN_succ (n : Nat) (a : List Int) : a ∈ shN vars w A (n + 1) ↔ a ∈ shN vars w A n ∧ keepsB vars w (shN vars w A n) a = true := by
  show a ∈ A.filter _ ↔ _
  rw [List.mem_filter]
  unfold stayB
  rw [Bool.and_eq_true, decide_eq_true_iff]
  exact ⟨fun h => h.2, fun h => ⟨shN_sub n a h.1, h⟩⟩
theorem shN_asc (h : ascP A) : ∀ n, ascP (shN vars w A n)
  | 0 => h
  | _ + 1 => List.Pairwise.filter _ h
theorem shN_len : ∀ n, (shN vars w A n).length ≤ A.length
  | 0 => Nat.le_refl _
  | _ + 1 => List.length_filter_le _ _
theorem shN_all (h : AllA vars A) (n : Nat) : AllA vars (shN vars w A n) := AllA_mem.2 fun c hc => AllA_mem.1 h c (shN_sub n c hc)
theorem outB_iff {M : List (List Int)} {a : List Int} : outB vars w M a = true ↔ a ∈ M ∧ keepsB vars w M a = false := by
  unfold outB
  rw [Bool.and_eq_true, decide_eq_true_iff, Bool.not_eq_true']
theorem rd_bound (a : List Int) : ∀ n, 0 ≤ rdN vars w A n a ∧ rdN vars w A n a ≤ n
  | 0 => by simp [rdN]
  | n + 1 => by
    have := rd_bound a n
    simp only [rdN]; split <;> omega
theorem rd_zero {a : List Int} (ha : a ∈ A) : ∀ n, rdN vars w A n a = 0 ↔ a ∈ shN vars w A n
  | 0 => by simp [rdN, shN, ha]
  | n + 1 => by
    have ih := rd_zero ha n
    rw [shN_succ]
    simp only [rdN]
    split
    · rename_i h
      have := (outB_iff.1 h).2
      constructor
      · intro h; omega
      · intro h; rw [this] at h; exact absurd h.2 (by simp)
    · rename_i h
      rw [ih]
      constructor
      · intro h1
        refine ⟨h1, ?_⟩
        cases hk : keepsB vars w (shN vars w A n) a with
        | true => rfl
        | false => exact absurd (outB_iff.2 ⟨h1, hk⟩) h
      · exact fun h => h.1
theorem rd_pos {a : List Int} (ha : a ∈ A) (n : Nat) : decide (rdN vars w A n a > 0) = !decide (a ∈ shN vars w A n) := by
  have h1 := rd_zero (vars := vars) (w := w) ha n
  have h2 := (rd_bound (vars := vars) (w := w) (A := A) a n).1
  by_cases h : a ∈ shN vars w A n
  · rw [decide_eq_true h]; have := h1.2 h; simp; omega
  · rw [decide_eq_false h]; have : ¬ rdN vars w A n a = 0 := fun h3 => h (h1.1 h3); simp; omega
def Stop (vars w : Int) (A : List (List Int)) (n : Nat) : Prop := ∀ a, outB vars w (shN vars w A n) a = false
theorem stop_of {n : Nat} (h : ∀ a ∈ A, outB vars w (shN vars w A n) a = false) : Stop vars w A n := fun a => by
  cases hg : outB vars w (shN vars w A n) a with
  | false => rfl
  | true => rw [h a (shN_sub n a (outB_iff.1 hg).1)] at hg; exact hg.symm
theorem stop_next (hA : ascP A) {n : Nat} (h : Stop vars w A n) : shN vars w A (n + 1) = shN vars w A n := by
  refine asc_ext bfL_irr bfL_trans (shN_asc hA _) (shN_asc hA _) fun a => ?_
  rw [shN_succ]
  refine ⟨fun h => h.1, fun h1 => ⟨h1, ?_⟩⟩
  cases hk : keepsB vars w (shN vars w A n) a with
  | true => rfl
  | false => have := h a; rw [outB_iff.2 ⟨h1, hk⟩] at this; cases this
theorem stop_stay (hA : ascP A) {n : Nat} (h : Stop vars w A n) : ∀ j, shN vars w A (n + j) = shN vars w A n
  | 0 => rfl
  | j + 1 => by
    have ih := stop_stay hA h j
    show A.filter (stayB vars w (shN vars w A (n + j))) = _
    rw [ih]; exact stop_next hA h
theorem stop_rd (hA : ascP A) {n : Nat} (h : Stop vars w A n) (a : List Int) : ∀ j, rdN vars w A (n + j) a = rdN vars w A n a
  | 0 => rfl
  | j + 1 => by
    show (if outB vars w (shN vars w A (n + j)) a then _ else _) = _
    rw [stop_stay hA h j, h a]
    exact stop_rd hA h a j
def rdE (vars w : Int) (A : List (List Int)) (a : List Int) : Int := rdN vars w A 1000 a
theorem rdE_of (hA : ascP A) {n : Nat} (hn : n ≤ 1000) (h : Stop vars w A n) (a : List Int) : rdE vars w A a = rdN vars w A n a := by
  have := stop_rd hA h a (1000 - n)
  rw [show n + (1000 - n) = 1000 by omega] at this; exact this
theorem out_less (hA : ascP A) {n : Nat} {a : List Int} (h : outB vars w (shN vars w A n) a = true) : (shN vars w A (n + 1)).length + 1 ≤ (shN vars w A n).length := by
  have e : shN vars w A (n + 1) = (shN vars w A n).filter (keepsB vars w (shN vars w A n)) := by
    refine asc_ext bfL_irr bfL_trans (shN_asc hA _) (List.Pairwise.filter _ (shN_asc hA _)) fun a => ?_
    rw [shN_succ, List.mem_filter]
  obtain ⟨h1, h2⟩ := outB_iff.1 h
  rw [e]
  exact List.length_filter_lt_length_iff_exists.2 ⟨a, h1, by rw [h2]; simp⟩
def rsI (vars w : Int) (A : List (List Int)) (n i : Nat) : List Int := (A.take i).map (rdN vars w A (n + 1)) ++ (A.drop i).map (rdN vars w A n)
def nxI (vars w : Int) (A : List (List Int)) (n i : Nat) : List (List Int) := (A.take i).filter (stayB vars w (shN vars w A n))
def gnI (vars w : Int) (A : List (List Int)) (n i : Nat) : List (List Int) := (A.take i).filter (outB vars w (shN vars w A n))
theorem rsI_len (n i : Nat) : (rsI vars w A n i).length = A.length := by
  unfold rsI; simp; omega
theorem take_gl {i : Nat} (h : i < A.length) : A.take (i + 1) = A.take i ++ [gl A i] := by
  rw [List.take_succ_eq_append_getElem h]; unfold gl; rw [List.getElem?_eq_getElem h]; rfl
theorem drop_gl {i : Nat} (h : i < A.length) : A.drop i = gl A i :: A.drop (i + 1) := by
  rw [List.drop_eq_getElem_cons h]; unfold gl; rw [List.getElem?_eq_getElem h]; rfl
theorem rsI_gd {n i : Nat} (h : i < A.length) : gd (rsI vars w A n i) i = rdN vars w A n (gl A i) := by
  unfold rsI gd
  rw [drop_gl h, List.getElem?_append_right (by simp; omega)]
  simp [Nat.min_eq_left (Nat.le_of_lt h)]
theorem rsI_go {n i : Nat} (h : i < A.length) (hg : outB vars w (shN vars w A n) (gl A i) = true) : (rsI vars w A n i).set i ((n + 1 : Nat) : Int) = rsI vars w A n (i + 1) := by
  have e : rdN vars w A (n + 1) (gl A i) = ((n + 1 : Nat) : Int) := by simp only [rdN]; rw [if_pos hg]
  unfold rsI
  rw [take_gl h, drop_gl h, List.map_append, List.map_cons, List.set_append_right _ _ (by simp; omega), List.append_assoc]
  simp [Nat.min_eq_left (Nat.le_of_lt h), e]
theorem rsI_stay {n i : Nat} (h : i < A.length) (hg : outB vars w (shN vars w A n) (gl A i) = false) : rsI vars w A n i = rsI vars w A n (i + 1) := by
  have e : rdN vars w A (n + 1) (gl A i) = rdN vars w A n (gl A i) := by simp only [rdN]; rw [if_neg (by rw [hg]; simp)]
  unfold rsI
  rw [take_gl h, drop_gl h, List.map_append, List.map_cons, List.append_assoc, List.map_cons, e]; rfl
theorem rsI_zero (n : Nat) : rsI vars w A n 0 = A.map (rdN vars w A n) := by simp [rsI]
theorem rsI_end (n : Nat) : rsI vars w A n A.length = A.map (rdN vars w A (n + 1)) := by simp [rsI]
theorem nxI_succ {n i : Nat} (h : i < A.length) : nxI vars w A n (i + 1) = if stayB vars w (shN vars w A n) (gl A i) then nxI vars w A n i ++ [gl A i] else nxI vars w A n i := by
  unfold nxI
  rw [take_gl h, List.filter_append, List.filter_cons]
  split <;> simp
theorem gnI_succ {n i : Nat} (h : i < A.length) : gnI vars w A n (i + 1) = if outB vars w (shN vars w A n) (gl A i) then gnI vars w A n i ++ [gl A i] else gnI vars w A n i := by
  unfold gnI
  rw [take_gl h, List.filter_append, List.filter_cons]
  split <;> simp
theorem gnI_len (n i : Nat) : (gnI vars w A n i).length ≤ A.length := by
  unfold gnI
  refine Nat.le_trans (List.length_filter_le _ _) ?_
  simp; omega
theorem nxI_len (n i : Nat) : (nxI vars w A n i).length ≤ A.length := by
  unfold nxI
  refine Nat.le_trans (List.length_filter_le _ _) ?_
  simp; omega
theorem nxI_end (n : Nat) : nxI vars w A n A.length = shN vars w A (n + 1) := by unfold nxI; rw [List.take_length]; rfl
theorem gnI_stop {n : Nat} (h : (gnI vars w A n A.length).length = 0) : Stop vars w A n := stop_of fun a ha => by
  have h1 := List.eq_nil_of_length_eq_zero h
  unfold gnI at h1
  rw [List.take_length, List.filter_eq_nil_iff] at h1
  simpa using h1 a ha
theorem gnI_go {n : Nat} (h : (gnI vars w A n A.length).length ≠ 0) : ∃ a, outB vars w (shN vars w A n) a = true := by
  cases hl : gnI vars w A n A.length with
  | nil => rw [hl] at h; exact absurd rfl h
  | cons a l =>
    refine ⟨a, ?_⟩
    have : a ∈ gnI vars w A n A.length := by rw [hl]; exact List.mem_cons_self ..
    exact (List.mem_filter.1 this).2
def setAll {α : Type} (B : List α) (x : α) (cs : List Int) : List α := cs.foldl (fun B c => B.set c.toNat x) B
theorem setAll_len {α : Type} (x : α) : ∀ (cs : List Int) (B : List α), (setAll B x cs).length = B.length
  | [], _ => rfl
  | c :: cs, B => by
    show (setAll (B.set c.toNat x) x cs).length = _
    rw [setAll_len x cs]; simp
theorem setAll_get {α : Type} (x : α) {i : Nat} : ∀ (cs : List Int) (B : List α), (∀ c ∈ cs, 0 ≤ c) → i < B.length → (setAll B x cs)[i]? = if (i : Int) ∈ cs then some x else B[i]?
  | [], _, _, _ => by simp [setAll]
  | c :: cs, B, hc, hi => by
    show (setAll (B.set c.toNat x) x cs)[i]? = _
    rw [setAll_get x cs _ (fun y hy => hc y (List.mem_cons_of_mem _ hy)) (by simpa using hi)]
    have h0 := hc c (List.mem_cons_self ..)
    by_cases h1 : (i : Int) ∈ cs
    · rw [if_pos h1, if_pos (List.mem_cons_of_mem _ h1)]
    · rw [if_neg h1]
      by_cases h2 : c.toNat = i
      · rw [if_pos (by have : (i : Int) = c := by omega
                       rw [this]; exact List.mem_cons_self ..), h2, List.getElem?_set_self hi]
      · rw [if_neg, List.getElem?_set_ne h2]
        intro h3
        rcases List.mem_cons.1 h3 with h3 | h3
        · exact h2 (by omega)
        · exact h1 h3
theorem setAll_snoc {α : Type} (B : List α) (x : α) (cs : List Int) (c : Int) : setAll B x (cs ++ [c]) = (setAll B x cs).set c.toNat x := by
  unfold setAll; rw [List.foldl_append]; rfl
def codesL (M : List (List Int)) : List Int := M.map fun a => ((codeA a : Nat) : Int)
theorem codesL_nn (M : List (List Int)) : ∀ c ∈ codesL M, 0 ≤ c := fun c hc => by
  obtain ⟨a, _, rfl⟩ := List.mem_map.1 hc; omega
theorem codesL_app (M : List (List Int)) (a : List Int) : codesL (M ++ [a]) = codesL M ++ [((codeA a : Nat) : Int)] := by simp [codesL]
theorem code_cl {a b : List Int} (ha : clB vars a = true) (hb : clB vars b = true) (h : codeA a = codeA b) : a = b :=
  codeA_inj (clB_strict ha) (clB_strict hb) (nz_cl ha) (nz_cl hb) h
def rdA (vars w : Int) (A : List (List Int)) : Nat → List Int
  | 0 => List.replicate (3 ^ vars.toNat) 0
  | n + 1 => setAll (rdA vars w A n) ((n + 1 : Nat) : Int) (codesL (gnI vars w A n A.length))
theorem rdA_len : ∀ n, (rdA vars w A n).length = 3 ^ vars.toNat
  | 0 => by simp [rdA]
  | n + 1 => by simp only [rdA]; rw [setAll_len]; exact rdA_len n
theorem gn_mem (hA : AllA vars A) {n : Nat} {a : List Int} (ha : clB vars a = true) : ((codeA a : Nat) : Int) ∈ codesL (gnI vars w A n A.length) ↔ outB vars w (shN vars w A n) a = true := by
  unfold codesL gnI
  rw [List.take_length]
  constructor
  · intro h
    obtain ⟨b, hb, he⟩ := List.mem_map.1 h
    obtain ⟨h1, h2⟩ := List.mem_filter.1 hb
    rw [← code_cl (AllA_mem.1 hA b h1) ha (by omega)]; exact h2
  · intro h
    exact List.mem_map.2 ⟨a, List.mem_filter.2 ⟨shN_sub n a (outB_iff.1 h).1, h⟩, rfl⟩
theorem rdA_gd (hA : AllA vars A) {a : List Int} (ha : clB vars a = true) : ∀ n, gd (rdA vars w A n) (codeA a) = rdN vars w A n a
  | 0 => by simp [rdA, rdN, gd, codeA_cl ha]
  | n + 1 => by
    have ih := rdA_gd hA ha n
    have hl := codeA_cl ha
    unfold gd at ih ⊢
    simp only [rdA, rdN]
    rw [setAll_get _ _ _ (codesL_nn _) (by rw [rdA_len]; exact hl)]
    by_cases h : outB vars w (shN vars w A n) a = true
    · rw [if_pos ((gn_mem hA ha).2 h), if_pos h]; rfl
    · rw [if_neg (fun h1 => h ((gn_mem hA ha).1 h1)), if_neg h]; exact ih
theorem isA_next (hA : AllA vars A) (n : Nat) : setAll (mkB vars.toNat (shN vars w A n) (shN vars w A n).length) false (codesL (gnI vars w A n A.length)) = mkB vars.toNat (shN vars w A (n + 1)) (shN vars w A (n + 1)).length := by
  have hcl := fun m => shN_all (w := w) hA m
  have key : ∀ m c, gB (mkB vars.toNat (shN vars w A m) (shN vars w A m).length) c = true ↔ ∃ a ∈ shN vars w A m, codeA a = c := fun m c => by
    rw [mkB_gB (fun j hj => codeA_cl (hcl m j hj))]
    constructor
    · rintro ⟨j, hj, e⟩; exact ⟨_, gl_mem hj, e⟩
    · rintro ⟨a, ha, e⟩
      obtain ⟨i, hi, e2⟩ := gl_ix ha
      exact ⟨i, hi, by rw [e2]; exact e⟩
  refine List.ext_getElem? fun c => ?_
  by_cases hc : c < 3 ^ vars.toNat
  · rw [setAll_get _ _ _ (codesL_nn _) (by rw [mkB_len]; exact hc), gB_get (by rw [mkB_len]; exact hc), gB_get (by rw [mkB_len]; exact hc)]
    have h1 := key n c
    have h2 := key (n + 1) c
    have h3 : (c : Int) ∈ codesL (gnI vars w A n A.length) ↔ ∃ b, outB vars w (shN vars w A n) b = true ∧ codeA b = c := by
      constructor
      · intro h
        obtain ⟨b, hb, he⟩ := List.mem_map.1 h
        exact ⟨b, (List.mem_filter.1 hb).2, by omega⟩
      · rintro ⟨b, hb, rfl⟩
        exact (gn_mem hA (AllA_mem.1 hA b (shN_sub n b (outB_iff.1 hb).1))).2 hb
    by_cases h : (c : Int) ∈ codesL (gnI vars w A n A.length)
    · rw [if_pos h]
      obtain ⟨b, hb, rfl⟩ := h3.1 h
      obtain ⟨q1, q2⟩ := outB_iff.1 hb
      have : gB (mkB vars.toNat (shN vars w A (n + 1)) (shN vars w A (n + 1)).length) (codeA b) ≠ true := fun h4 => by
        obtain ⟨a, ha, e⟩ := h2.1 h4
        have e2 := code_cl (AllA_mem.1 hA a (shN_sub _ a ha)) (AllA_mem.1 hA b (shN_sub _ b q1)) e
        subst e2
        have := ((shN_succ n a).1 ha).2
        rw [q2] at this; cases this
      simp only [Bool.not_eq_true] at this
      rw [this]
    · rw [if_neg h]
      congr 1
      rw [Bool.eq_iff_iff, h1, h2]
      constructor
      · rintro ⟨a, ha, e⟩
        refine ⟨a, (shN_succ n a).2 ⟨ha, ?_⟩, e⟩
        cases hk : keepsB vars w (shN vars w A n) a with
        | true => rfl
        | false => exact absurd (h3.2 ⟨a, outB_iff.2 ⟨ha, hk⟩, e⟩) h
      · rintro ⟨a, ha, e⟩
        exact ⟨a, ((shN_succ n a).1 ha).1, e⟩
  · rw [List.getElem?_eq_none (by rw [setAll_len, mkB_len]; omega), List.getElem?_eq_none (by rw [mkB_len]; omega)]
theorem stop_A {n : Nat} (hA : ascP A) (h : Stop vars w A n) : ∀ j, rdA vars w A (n + j) = rdA vars w A n
  | 0 => rfl
  | j + 1 => by
    have e : gnI vars w A (n + j) A.length = [] := by
      unfold gnI
      rw [List.filter_eq_nil_iff]
      intro a _
      rw [stop_stay hA h j, h a]; simp
    show setAll (rdA vars w A (n + j)) _ (codesL (gnI vars w A (n + j) A.length)) = _
    rw [e]; exact stop_A hA h j
theorem setAll_take {α : Type} (B : List α) (x : α) {cs : List Int} {j c : Nat} (hj : j < cs.length) (hc : gd cs j = (c : Int)) : setAll B x (cs.take (j + 1)) = (setAll B x (cs.take j)).set c x := by
  rw [List.take_succ_eq_append_getElem hj, setAll_snoc]
  have : cs[j] = (c : Int) := by unfold gd at hc; rw [List.getElem?_eq_getElem hj] at hc; exact hc
  rw [this]; rfl
theorem codesL_gd {M : List (List Int)} {j : Nat} (h : j < M.length) : gd (codesL M) j = ((codeA (gl M j) : Nat) : Int) := by
  unfold gd codesL gl
  rw [List.getElem?_map, List.getElem?_eq_getElem h]; rfl
theorem codesL_len (M : List (List Int)) : (codesL M).length = M.length := by simp [codesL]
theorem gnI_cl (hA : AllA vars A) (n i : Nat) : AllA vars (gnI vars w A n i) := AllA_mem.2 fun c hc => AllA_mem.1 hA c (List.mem_of_mem_take (List.mem_filter.1 hc).1)
def rdFA (vars w : Int) (A : List (List Int)) : List Int := rdA vars w A 1000
theorem rdFA_of (hA : ascP A) {n : Nat} (hn : n ≤ 1000) (h : Stop vars w A n) : rdFA vars w A = rdA vars w A n := by
  have := stop_A hA h (1000 - n)
  rw [show n + (1000 - n) = 1000 by omega] at this; exact this
theorem rdFA_gd (hA : AllA vars A) {a : List Int} (ha : clB vars a = true) : gd (rdFA vars w A) (codeA a) = rdE vars w A a := rdA_gd hA ha 1000
theorem rd0_rep : A.map (rdN vars w A 0) = List.replicate A.length 0 := (List.map_congr_left (fun a _ => rfl)).trans (List.map_const' ..)
def ctN (vars w : Int) (A : List (List Int)) : Nat → List Int
  | 0 => []
  | n + 1 => if (gnI vars w A n A.length).length = 0 then ctN vars w A n else ctN vars w A n ++ [((gnI vars w A n A.length).length : Int)]
theorem ctN_len : ∀ n, (ctN vars w A n).length ≤ n
  | 0 => Nat.le_refl _
  | n + 1 => by
    have := ctN_len n
    simp only [ctN]; split
    · omega
    · simp; omega
theorem stop_gn {n : Nat} (hA : ascP A) (h : Stop vars w A n) (j : Nat) : gnI vars w A (n + j) A.length = [] := by
  unfold gnI
  rw [List.filter_eq_nil_iff]
  intro a _
  rw [stop_stay hA h j, h a]; simp
theorem stop_ct {n : Nat} (hA : ascP A) (h : Stop vars w A n) : ∀ j, ctN vars w A (n + j) = ctN vars w A n
  | 0 => rfl
  | j + 1 => by
    show (if (gnI vars w A (n + j) A.length).length = 0 then _ else _) = _
    rw [if_pos (by rw [stop_gn hA h j]; rfl)]; exact stop_ct hA h j
def ctE (vars w : Int) (A : List (List Int)) : List Int := ctN vars w A 1000
def shE (vars w : Int) (A : List (List Int)) : List (List Int) := shN vars w A 1000
theorem ctE_of (hA : ascP A) {n : Nat} (hn : n ≤ 1000) (h : Stop vars w A n) : ctE vars w A = ctN vars w A n := by
  have := stop_ct hA h (1000 - n)
  rw [show n + (1000 - n) = 1000 by omega] at this; exact this
theorem shE_of (hA : ascP A) {n : Nat} (hn : n ≤ 1000) (h : Stop vars w A n) : shE vars w A = shN vars w A n := by
  have := stop_stay hA h (1000 - n)
  rw [show n + (1000 - n) = 1000 by omega] at this; exact this
theorem rs_final (hA : ascP A) {n : Nat} (hn : n ≤ 1000) (h : Stop vars w A n) : rsI vars w A n A.length = A.map (rdE vars w A) := by
  rw [rsI_end]
  refine List.map_congr_left fun a _ => ?_
  rw [rdE_of hA hn h, stop_rd hA h a 1]
end
end Go.Av
namespace Go.Av
open Go Go.Proofs Go.Sort
theorem fo55_0 : fieldOff Tryz.prog 55 0 = some 0 := by kernel_rfl
theorem fo55_1 : fieldOff Tryz.prog 55 1 = some 1 := by kernel_rfl
theorem fo55_2 : fieldOff Tryz.prog 55 2 = some 2 := by kernel_rfl
theorem fo55_3 : fieldOff Tryz.prog 55 3 = some 3 := by kernel_rfl
theorem hb73 : hasBody Tryz.prog 73 = true := by kernel_rfl
theorem hb74 : hasBody Tryz.prog 74 = true := by kernel_rfl
theorem sp55 : structPl Tryz.prog 55 = some ([.nils, .nils, .nils, .nils], [(0, 1), (1, 1), (2, 1), (3, 1)]) := by kernel_rfl
theorem ta55 : tyAgg Tryz.prog 55 = some (true, 4) := by kernel_rfl
theorem zc55 : zeroCells Tryz.prog 55 = some [.nils, .nils, .nils, .nils] := by kernel_rfl
theorem shrink13_c (vars : Int) (L : List (List Int)) (w : Int) (hcl : ∀ i, i < L.length → clB vars (gl L i) = true) (hL : L.length ≤ 1048576) (hw : 0 ≤ w ∧ w ≤ 6) (hv6 : 0 ≤ vars ∧ vars ≤ 6) : ACall Tryz.prog 30 [.agg [.int .i64 vars, .sl (sls L) L.length], .int .i64 w] [] (.agg [.sl (sls (srtB (allG L w vars vars.toNat 1 [] []))) (srtB (allG L w vars vars.toNat 1 [] [])).length, .sl (icells ((srtB (allG L w vars vars.toNat 1 [] [])).map (rdE vars w (srtB (allG L w vars vars.toNat 1 [] []))))) (srtB (allG L w vars vars.toNat 1 [] [])).length, .sl (icells (ctE vars w (srtB (allG L w vars vars.toNat 1 [] [])))) (ctE vars w (srtB (allG L w vars vars.toNat 1 [] []))).length, .sl (sls (shE vars w (srtB (allG L w vars vars.toNat 1 [] [])))) (shE vars w (srtB (allG L w vars vars.toNat 1 [] []))).length]) [] := by
 have hp8 := Nat.pow_le_pow_right (n := 3) (by decide) (show (vars + 1 - 1).toNat ≤ 6 by omega)
 have hal := allG_length L w vars vars.toNat 1 [] []
 simp only [List.length_nil, Nat.zero_add] at hal
 have hlc := all_lc hv6 L w
 have hnd := allG_nodup L w vars vars.toNat 1 [] (by omega)
 have hsp := srtB_spec hnd
 have hAs : ascP (srtB (allG L w vars vars.toNat 1 [] [])) := hsp.1
 have hA : AllA vars (srtB (allG L w vars vars.toNat 1 [] [])) := AllA_mem.2 fun c hc => AllA_mem.1 hlc c ((hsp.2 c).1 hc)
 have hAl := fam_len hv6 hA (ascP_M hAs)
 have hq := sorted13_c vars L w hcl hL hw hv6
 clear hsp hal hlc hnd
 generalize (srtB (allG L w vars vars.toNat 1 [] [])) = A at hq hA hAs hAl ⊢
 have hAM := ascP_M hAs
 have hA2 := hA
 refine ACall.introF Tryz.func30 rfl (N := 75) rfl (by decide) (by simp) (by simp [pureL, pureV, sls_pureL, ic_pureL]) ?_
 refine fq ?_
 refine rn (v := .op [.int _ _, .sl _ _]) (q_box il rfl rfl) ?_
 refine rn (v := .op [.nils, .nils, .nils, .nils]) (q_alloc zc55) ?_
 refine r_nil ?_
 refine fq ?_
 refine rv (v := .agg [.int _ _, .sl _ _]) (v_load_rpa1 ta29 il rfl rfl (fun _ => rfl) rfl) ?_
 refine rm (.int _ _) ?_
 refine rn (v := .sl _ _) (q_callF (vs := [.agg [.int _ _, .sl _ _], .int _ _]) (args := [.agg [.int .i64 _, .sl _ _], .int .i64 _]) hb73 ⟨il, il, trivial⟩ rfl (fun hA => hq) rfl rfl) ?_
 refine rn (v := .osl _ _ _ _) (q_sliceLit (n := 0) (parts := []) lt25 rfl rfl rfl rfl) ?_
 refine r_pre (ent_eq (t := 13) (v' := .osl 1 (icells ([] : List Int)) ([] : List Int).length none) (Weak.osl rfl rfl)) ?_
 refine rv (v := .agg [.sl _ _, .nils, .rsl _ _ _ _ _, .nils]) (v_build sp55 rfl rfl) ?_
 refine rn (v := .op [.nils, .nils, .nils, .nils]) (q_alloc zc55) ?_
 refine r_pre (ent_reloc_at_sl (t := 14) (r := [2]) rfl (by decide) rfl rfl) ?_
 refine r_step rfl (o_store_own (v := .agg [.sl _ _, .nils, .osl _ _ _ _, .nils]) (y' := .op [.sl _ _, .nils, .osl _ _ _ _, .nils]) rfl rfl ta55 (.inl rfl) (by decide) rfl (by decide) rfl rfl rfl rfl rfl rfl rfl (Nat.le_of_ble_eq_true rfl) rfl rfl) ?_
 refine r_nil ?_
 refine fq ?_
 refine rv (v := .rp _ _) (v_fieldAddr_rp fo55_0 il) ?_
 refine rv (v := .sl _ _) (v_load_rp1 ta22 il rfl (fun _ => rfl) rfl) ?_
 refine rv (v := .int _ _) (v_len_sl sl22 il) ?_
 refine rn (v := .osl _ _ _ _) (q_makeSlice us25 sb3 zc3 rfl (by decide) il il (fun _ => by omega)) ?_
 refine rv (v := .rp _ _) (v_fieldAddr_rp fo55_1 il) ?_
 refine r_pre (ent_eq (t := 18) (v' := .osl 1 (icells (A.map (rdN vars w A 0))) A.length none) (Weak.osl (by rw [rd0_rep]; exact icells_rep _) rfl)) ?_
 refine r_step rfl (o_store_own (v := .osl _ _ _ _) (y' := .op [.sl _ _, .osl _ _ _ _, .osl _ _ _ _, .nils]) rfl rfl ta25 (.inl rfl) (by decide) rfl (by decide) rfl (by simp [cellsOf, noRefL, noRef, ic_noRef]) rfl rfl rfl rfl rfl (Nat.le_of_ble_eq_true rfl) rfl rfl) ?_
 refine r_nil ?_
 refine fq ?_
 refine rv (v := .rp _ _) (v_fieldAddr_rp fo55_0 il) ?_
 refine rv (v := .sl _ _) (v_load_rp1 ta22 il rfl (fun _ => rfl) rfl) ?_
 refine rv (v := .rp _ _) (v_fieldAddr_rp fo55_3 il) ?_
 refine r_step rfl (o_store (v := .sl _ _) (y' := .op [.sl _ _, .osl _ _ _ _, .osl _ _ _ _, .sl _ _]) rfl rfl ta22 il il rfl rfl rfl rfl rfl rfl (Nat.le_of_ble_eq_true rfl) (by decide) rfl rfl) ?_
 refine r_nil ?_
 refine fq ?_
 refine ra (.int _ _) ?_
 refine r_nil ?_
 refine af_block ?_
 refine af_loop (X := Nat) (fun n => look [(1, .int .i64 w), (2, .op [.int .i64 vars, .sl (sls L) L.length]), (4, .op [.nils, .nils, .nils, .nils]), (5, .op [.sl (sls A) A.length, .osl 1 (icells (A.map (rdN vars w A n))) A.length none, .osl 1 (icells (ctN vars w A n)) (ctN vars w A n).length none, .sl (sls (shN vars w A n)) (shN vars w A n).length]), (6, .int .i64 (((n + 1) : Nat) : Int))]) (fun n => n + (shN vars w A n).length ≤ A.length) (fun n => (shN vars w A n).length) 0 (ent_look ⟨wr, wr, wr, wr, wr, trivial⟩) (by show 0 + A.length ≤ _; omega) (fun n hG => ?_)
 have g1 := hG
 have g2 := ctN_len (vars := vars) (w := w) (A := A) n
 have hll := shN_len (vars := vars) (w := w) (A := A) n
 refine af_seq ?_
 refine af_block ?_
 refine fq ?_
 refine rn (v := .osl _ _ _ _) (q_sliceLit (n := 0) (parts := []) lt22 rfl rfl rfl rfl) ?_
 refine ra (.rsl _ _ _ _ _) ?_
 refine r_pre (ent_reloc_sl (t := 7) rfl rfl) ?_
 refine ra (.int _ _) ?_
 refine r_nil ?_
 refine af_seq ?_
 refine fq ?_
 refine ra (.int _ _) ?_
 refine r_nil ?_
 refine af_block ?_
 refine af_loop (X := Nat) (fun i => look [(1, .int .i64 w), (2, .op [.int .i64 vars, .sl (sls L) L.length]), (4, .op [.nils, .nils, .nils, .nils]), (5, .op [.sl (sls A) A.length, .osl 1 (icells (rsI vars w A n i)) A.length none, .osl 1 (icells (ctN vars w A n)) (ctN vars w A n).length none, .sl (sls (shN vars w A n)) (shN vars w A n).length]), (6, .int .i64 (((n + 1) : Nat) : Int)), (7, .osl 1 (sls (nxI vars w A n i)) (nxI vars w A n i).length none), (8, .int .i64 (((gnI vars w A n i).length : Nat) : Int)), (9, .int .i64 ((i : Nat) : Int))]) (fun i => i ≤ A.length) (fun i => A.length - i) 0 (ent_look ⟨wr, wr, wr, Weak.of_eq (by rw [rsI_zero]; rfl), wr, Weak.osl rfl rfl, wr, wr, trivial⟩) (Nat.zero_le _) (fun i hG => ?_)
 refine af_seq ?_
 refine fq ?_
 refine rm (.int _ _) ?_
 refine rv (v := .rp _ _) (v_fieldAddr_rp fo55_0 il) ?_
 refine rv (v := .sl _ _) (v_load_rp1 ta22 il rfl (fun _ => rfl) rfl) ?_
 refine rv (v := .int _ _) (v_len_sl sl22 il) ?_
 refine rv (v := .bool _) (v_lss il il) ?_
 refine r_nil ?_
 refine af_cond rfl (fun ht30 => ?_) (fun ht30 => ?_)
 ·
  refine af_skip ?_
  refine af_seq ?_
  refine af_block ?_
  refine af_seq ?_
  refine af_seq ?_
  have hi : i < A.length := (by simp at ht30; omega)
  have hrl := rsI_len (vars := vars) (w := w) (A := A) n i
  have hil : i < (rsI vars w A n i).length := (by omega)
  have hnl := nxI_len (vars := vars) (w := w) (A := A) n i
  have hgl := gnI_len (vars := vars) (w := w) (A := A) n i
  refine af_of ?_
  refine a_region ?_
  refine rv (v := .rp _ _) (v_fieldAddr_rp fo55_1 il) ?_
  refine rv (v := .rsl _ _ _ _ _) (v_load_rp (c := .osl _ _ _ _) ta25 il rfl (fun _ => rfl)) ?_
  refine rm (.int _ _) ?_
  refine rv (v := .rp _ _) (v_indexAddr_rsl0 es25 il il (fun _ => by omega)) ?_
  refine rv (v := .int .i64 (gd (rsI vars w A n i) i)) (v_load_rp1 ta3 il rfl (fun _ => by rw [Nat.mul_one]; exact icells_get (gd_get hil)) rfl) ?_
  refine rv (v := .bool _) (v_gtr il il) ?_
  refine r_nil ?_
  refine af_cond rfl (fun ht38 => ?_) (fun ht38 => ?_)
  ·
   refine af_exit ?_
   refine af_of ?_
   refine a_region ?_
   refine rm (.int _ _) ?_
   refine rv (v := .int _ _) (v_add il il (fun _ => by omega)) ?_
   refine ra (.int _ _) ?_
   refine r_nil ?_
   have hrd := rsI_gd (vars := vars) (w := w) (n := n) hi
   have hrp := rd_pos (vars := vars) (w := w) (gl_mem hi) n
   rw [hrd, hrp] at ht38
   have hns : ¬ gl A i ∈ shN vars w A n := (by simpa using ht38)
   have hou : outB vars w (shN vars w A n) (gl A i) = false := (by unfold outB; rw [decide_eq_false hns]; rfl)
   have hst : ¬ stayB vars w (shN vars w A n) (gl A i) = true := (by unfold stayB; rw [decide_eq_false hns]; simp)
   refine ⟨i + 1, ent_look ⟨wr, wr, wr, Weak.of_eq (by rw [← rsI_stay hi hou]; rfl), wr, Weak.osl (by rw [nxI_succ hi, if_neg hst]) (by rw [nxI_succ hi, if_neg hst]), Weak.of_eq (int_eq (by rw [gnI_succ hi, if_neg (by rw [hou]; simp)])), Weak.of_eq (int_eq (by omega)), trivial⟩, by omega, by omega⟩
  ·
   refine af_skip ?_
   refine af_seq ?_
   refine af_of ?_
   refine a_region_any mixed (by kernel_rfl) ?_
   refine yv (v := .agg [.int _ _, .sl _ _]) (v_load_rpa1 ta29 il rfl rfl (fun _ => rfl) rfl) ?_
   refine yv (v := .int _ _) (v_move il nf) ?_
   refine yv (v := .rp _ _) (v_fieldAddr_rp fo55_3 il) ?_
   refine yv (v := .sl _ _) (v_load_rp1 ta22 il rfl (fun _ => rfl) rfl) ?_
   refine yv (v := .rp _ _) (v_fieldAddr_rp fo55_0 il) ?_
   refine yv (v := .sl _ _) (v_load_rp1 ta22 il rfl (fun _ => rfl) rfl) ?_
   refine yv (v := .int _ _) (v_move il nf) ?_
   refine yv (v := .pp _ _) (v_indexAddr_sl es22 il il (fun _ => ⟨by omega, by omega, sls_ne hi⟩)) ?_
   refine yv (v := .sl (icells (gl A i)) (gl A i).length) (v_load_pp ta25 il (fun _ => by rw [Nat.mul_one]; exact sls_get hi) rfl) ?_
   refine y_new (v := .bool _) (q_call (vs := [.agg [.int _ _, .sl _ _], .int _ _, .sl _ _, .sl _ _]) (args := [.agg [.int .i64 _, .sl _ _], .int .i64 _, .sl _ _, .sl _ _]) hb74 ⟨.inl rfl, .inl rfl, .inl rfl, .inl rfl, trivial⟩ rfl (fun hA => keeps13_c vars L (shN vars w A n) w (gl A i) (by omega) (shN_all hA2 n) (ascP_M (shN_asc hAs n)) (hA2 i hi)) rfl rfl) rfl rfl (by decide) (by kernel_rfl) ?_
   refine y_nil ?_
   refine af_cond rfl (fun ht48 => ?_) (fun ht48 => ?_)
   ·
    refine af_of ?_
    refine a_region ?_
    refine rm (.rsl _ _ _ _ _) ?_
    refine rv (v := .rp _ _) (v_fieldAddr_rp fo55_0 il) ?_
    refine rv (v := .sl _ _) (v_load_rp1 ta22 il rfl (fun _ => rfl) rfl) ?_
    refine rm (.int _ _) ?_
    refine rv (v := .pp _ _) (v_indexAddr_sl es22 il il (fun _ => ⟨by omega, by omega, sls_ne hi⟩)) ?_
    refine rv (v := .sl (icells (gl A i)) (gl A i).length) (v_load_pp ta25 il (fun _ => by rw [Nat.mul_one]; exact sls_get hi) rfl) ?_
    refine rn (v := .osl _ _ _ _) (q_sliceLit (n := 1) (parts := [(0, .tmp 54)]) lt22 rfl rfl rfl rfl) ?_
    refine r_pre (ent_reloc_sl (t := 49) rfl rfl) ?_
    refine r_step rfl (o_append rfl ap22 rfl (by decide) (by decide) rfl (src_lit (.inl rfl) rfl rfl rfl) rfl (by rw [sls_length]; omega) (by omega)) ?_
    refine ra (.rsl _ _ _ _ _) ?_
    refine r_pre (ent_reloc_sl (t := 7) rfl rfl) ?_
    refine r_nil ?_
    refine af_pre (ent_look (L := [(1, .int _ _), (2, .op [.int _ _, .sl _ _]), (4, .op [.nils, .nils, .nils, .nils]), (5, .op [.sl _ _, .osl _ _ _ _, .osl _ _ _ _, .sl _ _]), (6, .int _ _), (7, .osl _ _ _ _), (8, .int _ _), (9, .int _ _)]) ⟨wr, wr, wr, wr, wr, wr, wr, wr, trivial⟩) ?_
    refine af_of ?_
    refine a_region ?_
    refine rm (.int _ _) ?_
    refine rv (v := .int _ _) (v_add il il (fun _ => by omega)) ?_
    refine ra (.int _ _) ?_
    refine r_nil ?_
    have hrd := rsI_gd (vars := vars) (w := w) (n := n) hi
    have hrp := rd_pos (vars := vars) (w := w) (gl_mem hi) n
    rw [hrd, hrp] at ht38
    have his : gl A i ∈ shN vars w A n := (by simpa using ht38)
    have hou : outB vars w (shN vars w A n) (gl A i) = false := (by unfold outB; rw [ht48]; simp)
    have hst : stayB vars w (shN vars w A n) (gl A i) = true := (by unfold stayB; rw [decide_eq_true his, ht48]; rfl)
    refine ⟨i + 1, ent_look ⟨wr, wr, wr, Weak.of_eq (by rw [← rsI_stay hi hou]; rfl), wr, Weak.osl (by rw [nxI_succ hi, if_pos hst, sls_append]; rfl) (by rw [nxI_succ hi, if_pos hst]; simp), Weak.of_eq (int_eq (by rw [gnI_succ hi, if_neg (by rw [hou]; simp)])), Weak.of_eq (int_eq (by omega)), trivial⟩, by omega, by omega⟩
   ·
    refine af_seq ?_
    have hrd := rsI_gd (vars := vars) (w := w) (n := n) hi
    have hrp := rd_pos (vars := vars) (w := w) (gl_mem hi) n
    rw [hrd, hrp] at ht38
    have his : gl A i ∈ shN vars w A n := (by simpa using ht38)
    have hou : outB vars w (shN vars w A n) (gl A i) = true := (by unfold outB; rw [decide_eq_true his, ht48]; rfl)
    have hpl : i * 1 + 1 ≤ (icells (rsI vars w A n i)).length := (by rw [icells_length]; omega)
    have hs5 : (icells (rsI vars w A n i)).set (i * 1) (.int .i64 ((n + 1 : Nat) : Int)) = icells (rsI vars w A n (i + 1)) := (by rw [Nat.mul_one, icells_set, rsI_go hi hou])
    refine af_of ?_
    refine a_region ?_
    refine rv (v := .rp _ _) (v_fieldAddr_rp fo55_1 il) ?_
    refine rv (v := .rsl _ _ _ _ _) (v_load_rp (c := .osl _ _ _ _) ta25 il rfl (fun _ => rfl)) ?_
    refine rm (.int _ _) ?_
    refine rm (.int _ _) ?_
    refine rv (v := .rp _ _) (v_indexAddr_rsl0 es25 il il (fun _ => by omega)) ?_
    refine r_step rfl (o_store (v := .int _ _) (y' := .op [.sl _ _, .osl _ _ _ _, .osl _ _ _ _, .sl _ _]) rfl rfl ta3 il il rfl rfl rfl rfl rfl rfl hpl (by decide) rfl (congrArg (fun c => AV.op [.sl (sls A) A.length, .osl 1 c A.length none, .osl 1 (icells (ctN vars w A n)) (ctN vars w A n).length none, .sl (sls (shN vars w A n)) (shN vars w A n).length]) hs5)) ?_
    refine r_nil ?_
    refine af_pre (ent_look (L := [(1, .int _ _), (2, .op [.int _ _, .sl _ _]), (4, .op [.nils, .nils, .nils, .nils]), (5, .op [.sl _ _, .osl _ _ _ _, .osl _ _ _ _, .sl _ _]), (6, .int _ _), (7, .osl _ _ _ _), (8, .int _ _), (9, .int _ _)]) ⟨wr, wr, wr, wr, wr, wr, wr, wr, trivial⟩) ?_
    refine af_of ?_
    refine a_region ?_
    refine rm (.int _ _) ?_
    refine rv (v := .int _ _) (v_add il il (fun _ => by omega)) ?_
    refine ra (.int _ _) ?_
    refine r_nil ?_
    refine af_of ?_
    refine a_region ?_
    refine rm (.int _ _) ?_
    refine rv (v := .int _ _) (v_add il il (fun _ => by omega)) ?_
    refine ra (.int _ _) ?_
    refine r_nil ?_
    have hst : ¬ stayB vars w (shN vars w A n) (gl A i) = true := (by unfold stayB; rw [ht48]; simp)
    refine ⟨i + 1, ent_look ⟨wr, wr, wr, Weak.of_eq (by rw [← rsI_go hi hou]; rfl), wr, Weak.osl (by rw [nxI_succ hi, if_neg hst]) (by rw [nxI_succ hi, if_neg hst]), Weak.of_eq (int_eq (by rw [gnI_succ hi, if_pos hou]; simp)), Weak.of_eq (int_eq (by omega)), trivial⟩, by omega, by omega⟩
 ·
  refine af_exit ?_
  refine af_seq ?_
  refine af_seq ?_
  have hie : i = A.length := (by simp at ht30; omega)
  subst hie
  have hgl := gnI_len (vars := vars) (w := w) (A := A) n A.length
  refine af_of ?_
  refine a_region ?_
  refine rm (.int _ _) ?_
  refine rv (v := .bool _) (v_eql il il) ?_
  refine r_nil ?_
  refine af_cond rfl (fun ht65 => ?_) (fun ht65 => ?_)
  ·
   refine af_seq ?_
   have hst := gnI_stop (vars := vars) (w := w) (A := A) (n := n) (by simpa using ht65)
   have hfin := rs_final hAs (by omega) hst
   have hf2 := shE_of hAs (by omega) hst
   have hf3 := ctE_of hAs (by omega) hst
   refine af_freeze (t := 5) (x := .op [.sl (sls A) A.length, .osl 1 (icells (rsI vars w A n A.length)) A.length none, .osl 1 (icells (ctN vars w A n)) (ctN vars w A n).length none, .sl (sls (shN vars w A n)) (shN vars w A n).length]) (y := .pp [.sl (sls A) A.length, .sl (icells (A.map (rdE vars w A))) A.length, .sl (icells (ctE vars w A)) (ctE vars w A).length, .sl (sls (shE vars w A)) (shE vars w A).length] 0) rfl (by rw [← hfin, hf2, hf3]; simp [sh, shL, shL_id _ (ic_pure _).1 (ic_pure _).2]) ?_
   refine af_of ?_
   refine a_region ?_
   refine rv (v := .agg [.sl _ _, .sl _ _, .sl _ _, .sl _ _]) (v_load_ppa1 ta55 il rfl (fun _ => rfl) rfl) ?_
   refine r_step rfl (o_store (v := .agg [.sl _ _, .sl _ _, .sl _ _, .sl _ _]) (y' := .op [.sl _ _, .sl _ _, .sl _ _, .sl _ _]) rfl rfl ta55 il il rfl rfl rfl rfl rfl rfl (Nat.le_of_ble_eq_true rfl) (by decide) rfl rfl) ?_
   refine r_nil ?_
   refine af_ret ?_
   refine retC1 (r := .cell 4 55) Tryz.results30 ⟨by decide, _, cell_agg rfl ta55, rfl⟩ (by decide) (Weak.of_eq (agg_eq (l4_eq (sl_eq2 ?_ ?_) (sl_eq2 ?_ ?_) (sl_eq2 ?_ ?_) (sl_eq2 ?_ ?_)))) rfl Leaves.nil
   all_goals rfl
  ·
   refine af_skip ?_
   refine af_seq ?_
   refine af_pre (ent_eq (t := 7) (v' := .osl 1 (sls (shN vars w A (n + 1))) (shN vars w A (n + 1)).length none) (Weak.osl (by rw [← nxI_end]) (by rw [← nxI_end]))) ?_
   refine af_freeze (t := 7) rfl (sl_shZ (sls_pure _)) ?_
   refine af_of ?_
   refine a_region ?_
   refine rv (v := .rp _ _) (v_fieldAddr_rp fo55_2 il) ?_
   refine rv (v := .rsl _ _ _ _ _) (v_load_rp (c := .osl _ _ _ _) ta25 il rfl (fun _ => rfl)) ?_
   refine rm (.int _ _) ?_
   refine rn (v := .osl _ _ _ _) (q_sliceLit (n := 1) (parts := [(0, .tmp 69)]) lt25 rfl rfl rfl rfl) ?_
   refine r_pre (ent_reloc_sl (t := 68) rfl rfl) ?_
   refine r_step rfl (o_append rfl ap25 rfl (by decide) (by decide) rfl (src_lit (.inl rfl) rfl rfl rfl) rfl (by rw [icells_length]; omega) (by omega)) ?_
   refine r_pre (ent_eq (t := 71) (v' := .osl 1 (icells (ctN vars w A (n + 1))) (ctN vars w A (n + 1)).length none) (Weak.osl (by simp only [ctN]; rw [if_neg (by simpa using ht65), icells_append]; rfl) (by simp only [ctN]; rw [if_neg (by simpa using ht65)]; simp))) ?_
   refine rv (v := .rp _ _) (v_fieldAddr_rp fo55_2 il) ?_
   refine r_step rfl (o_store_own (v := .osl _ _ _ _) (y' := .op [.sl _ _, .osl _ _ _ _, .osl _ _ _ _, .sl _ _]) rfl rfl ta25 (.inl rfl) (by decide) rfl (by decide) rfl (by simp [cellsOf, noRefL, noRef, ic_noRef]) rfl rfl rfl rfl rfl (Nat.le_of_ble_eq_true rfl) rfl rfl) ?_
   refine r_nil ?_
   refine af_of ?_
   refine a_region ?_
   refine rm (.sl _ _) ?_
   refine rv (v := .rp _ _) (v_fieldAddr_rp fo55_3 il) ?_
   refine r_step rfl (o_store (v := .sl _ _) (y' := .op [.sl _ _, .osl _ _ _ _, .osl _ _ _ _, .sl _ _]) rfl rfl ta22 il il rfl rfl rfl rfl rfl rfl (Nat.le_of_ble_eq_true rfl) (by decide) rfl rfl) ?_
   refine r_nil ?_
   refine af_of ?_
   refine a_region ?_
   refine rm (.int _ _) ?_
   refine rv (v := .int _ _) (v_add il il (fun _ => by omega)) ?_
   refine ra (.int _ _) ?_
   refine r_nil ?_
   obtain ⟨b, hb⟩ := gnI_go (n := n) (by simpa using ht65)
   have hlt := out_less hAs hb
   refine ⟨n + 1, ent_look ⟨wr, wr, wr, Weak.of_eq (by rw [rsI_end]; rfl), Weak.of_eq (int_eq (by push_cast; omega)), trivial⟩, by omega, by omega⟩
end Go.Av
namespace Go.Av
open Go
def rnR (vars w : Int) (A : List (List Int)) (a : List Int) : Int := if a ∈ A then rdE vars w A a else -1
def erl (vars w : Int) (A : List (List Int)) (r : Int) (a : List Int) : Bool := decide (rnR vars w A a < 0) || (decide (rnR vars w A a > 0) && decide (rnR vars w A a < r))
theorem rdE_bd (vars w : Int) (A : List (List Int)) (a : List Int) : 0 ≤ rdE vars w A a ∧ rdE vars w A a ≤ 1000 := rd_bound a 1000
theorem rnR_in {vars w : Int} {A : List (List Int)} {a : List Int} (h : a ∈ A) : rnR vars w A a = rdE vars w A a := by unfold rnR; rw [if_pos h]
theorem rnR_out {vars w : Int} {A : List (List Int)} {a : List Int} (h : ¬ a ∈ A) : rnR vars w A a = -1 := by unfold rnR; rw [if_neg h]
theorem rnR_neg (vars w : Int) (A : List (List Int)) (a : List Int) : decide (rnR vars w A a < 0) = !decide (a ∈ A) := by
  have := rdE_bd vars w A a
  by_cases h : a ∈ A
  · rw [rnR_in h, decide_eq_true h]; simp; omega
  · rw [rnR_out h, decide_eq_false h]; rfl
theorem rnR_nn (vars w : Int) (A : List (List Int)) (a : List Int) : decide (0 ≤ rnR vars w A a) = decide (a ∈ A) := by
  have h1 := rnR_neg vars w A a
  by_cases h : a ∈ A
  · rw [decide_eq_true h] at h1 ⊢
    simp at h1 ⊢; omega
  · rw [decide_eq_false h] at h1 ⊢
    simp at h1 ⊢; omega
theorem atL_gl {M : List (List Int)} {c : List Int} (h : ¬ atL M c < 0) : ∃ k : Nat, atL M c = k ∧ k < M.length ∧ gl M k = c := by
  unfold atL at h ⊢
  split
  · rename_i h1; exact ⟨plc M c, rfl, h1.1, h1.2⟩
  · rename_i h1; rw [if_neg h1] at h; omega
theorem map_gd {M : List (List Int)} {f : List Int → Int} {k : Nat} (h : k < M.length) : (icells (M.map f))[k]? = some (.int .i64 (f (gl M k))) := by
  refine icells_get ?_
  rw [List.getElem?_map]
  unfold gl
  rw [List.getElem?_eq_getElem h]; rfl
def inA (A : List (List Int)) (l : List (List Int)) : List (List Int) := l.filter fun b => decide (b ∈ A)
def lessA (a : List Int) (k : Nat) : List Int := woS a (vr (gd a k))
def fndA (vars w : Int) (A : List (List Int)) (r : Int) (a : List Int) : Option Nat := (List.range a.length).find? fun k => erl vars w A r (lessA a k)
def bothA (vars w : Int) (A : List (List Int)) (r : Int) (a : List Int) (v : Int) : Bool := erl vars w A r (putL a v) && erl vars w A r (putL a (-v))
def fndV (vars w : Int) (A : List (List Int)) (r : Int) (a : List Int) : Option Int := (opensL vars a).find? (bothA vars w A r a)
def whyR (vars w : Int) (A : List (List Int)) (r : Int) (a : List Int) : List (List Int) := match fndA vars w A r a with
  | some k => inA A [lessA a k]
  | none => if (a.length : Int) ≤ w then match fndV vars w A r a with
    | some v => inA A [putL a v, putL a (-v)]
    | none => []
    else []
theorem find_ix {α : Type} {l : List α} {p : α → Bool} {i : Nat} {b : α} (hi : l[i]? = some b) (h1 : p b = true) (h2 : ∀ j x, j < i → l[j]? = some x → p x = false) : l.find? p = some b := by
  rw [List.find?_eq_some_iff_getElem]
  have hl : i < l.length := by
    rcases Nat.lt_or_ge i l.length with h | h
    · exact h
    · rw [List.getElem?_eq_none h] at hi; cases hi
  refine ⟨h1, i, hl, ?_, fun j hj => ?_⟩
  · rw [List.getElem?_eq_getElem hl] at hi; exact Option.some.inj hi
  · have := h2 j l[j] hj (List.getElem?_eq_getElem (by omega))
    rw [this]; rfl
theorem find_no {α : Type} {l : List α} {p : α → Bool} (h : ∀ x ∈ l, p x = false) : l.find? p = none := by
  rw [List.find?_eq_none]
  intro x hx; rw [h x hx]; simp
section
variable {vars w : Int} {A : List (List Int)} {r : Int} {a : List Int}
theorem fndA_some {i : Nat} (hi : i < a.length) (h1 : erl vars w A r (lessA a i) = true) (h2 : ∀ j, j < i → erl vars w A r (lessA a j) = false) : fndA vars w A r a = some i := by
  refine find_ix (i := i) (by simp [hi]) h1 fun j x hj hx => ?_
  have : x = j := by
    rw [List.getElem?_range (by omega)] at hx; exact (Option.some.inj hx).symm
  rw [this]; exact h2 j hj
theorem fndA_none (h : ∀ j, j < a.length → erl vars w A r (lessA a j) = false) : fndA vars w A r a = none := find_no fun x hx => h x (List.mem_range.1 hx)
theorem upL_getE {n : Int} {j : Nat} {x : Int} (h : (upL n)[j]? = some x) : x = (j : Int) + 1 := by
  unfold upL at h
  rw [List.getElem?_map] at h
  cases hr : (List.range n.toNat)[j]? with
  | none => rw [hr] at h; cases h
  | some y =>
    rw [hr] at h
    have hj : j < n.toNat := by
      rcases Nat.lt_or_ge j n.toNat with h1 | h1
      · exact h1
      · rw [List.getElem?_eq_none (by simpa using h1)] at hr; cases hr
    rw [List.getElem?_range hj] at hr
    cases hr
    exact (Option.some.inj h).symm
theorem fndV_some {k : Nat} (hk : (k : Int) + 1 ≤ vars) (ho : opB a ((k : Int) + 1) = true) (h1 : bothA vars w A r a ((k : Int) + 1) = true) (h2 : ∀ v, 1 ≤ v → v ≤ (k : Int) → opB a v = true → bothA vars w A r a v = false) : fndV vars w A r a = some ((k : Int) + 1) := by
  unfold fndV opensL
  rw [List.find?_filter]
  refine find_ix (i := k) ?_ ?_ fun j x hj hx => ?_
  · unfold upL
    rw [List.getElem?_map, List.getElem?_range (by omega)]; rfl
  · simp [ho, h1]
  · have hx := upL_getE hx
    cases hb : opB a x with
    | false => simp
    | true => simp [h2 x (by omega) (by omega) hb]
theorem fndV_none (h : ∀ v, 1 ≤ v → v ≤ vars → opB a v = true → bothA vars w A r a v = false) : fndV vars w A r a = none := by
  refine find_no fun x hx => ?_
  unfold opensL at hx
  obtain ⟨h1, h2⟩ := List.mem_filter.1 hx
  have := mem_upL.1 h1
  exact h x this.1 this.2 (by simpa using h2)
theorem fndV_ix {k : Nat} (hk : k < (opensL vars a).length) (h1 : bothA vars w A r a (gd (opensL vars a) k) = true) (h2 : ∀ j, j < k → bothA vars w A r a (gd (opensL vars a) j) = false) : fndV vars w A r a = some (gd (opensL vars a) k) := by
  refine find_ix (i := k) (gd_get hk) h1 fun j x hj hx => ?_
  have : x = gd (opensL vars a) j := by unfold gd; rw [hx]; rfl
  rw [this]; exact h2 j hj
theorem fndV_no {k : Nat} (hk : k = (opensL vars a).length) (h2 : ∀ j, j < k → bothA vars w A r a (gd (opensL vars a) j) = false) : fndV vars w A r a = none := by
  refine find_no fun x hx => ?_
  obtain ⟨i, hi, e⟩ := List.mem_iff_getElem.1 hx
  have := h2 i (by omega)
  unfold gd at this
  rw [List.getElem?_eq_getElem hi, e] at this; exact this
theorem whyR_a {k : Nat} (h : fndA vars w A r a = some k) : whyR vars w A r a = inA A [lessA a k] := by unfold whyR; rw [h]
theorem whyR_v {v : Int} (h : fndA vars w A r a = none) (hl : (a.length : Int) ≤ w) (hv : fndV vars w A r a = some v) : whyR vars w A r a = inA A [putL a v, putL a (-v)] := by unfold whyR; rw [h]; simp only []; rw [if_pos hl, hv]
theorem whyR_0 (h : fndA vars w A r a = none) (hv : (a.length : Int) ≤ w → fndV vars w A r a = none) : whyR vars w A r a = [] := by
  unfold whyR; rw [h]; simp only []
  split
  · rename_i hl; rw [hv hl]
  · rfl
theorem inA_one (A : List (List Int)) (c : List Int) : inA A [c] = if c ∈ A then [c] else [] := by unfold inA; by_cases h : c ∈ A <;> simp [h]
theorem inA_two (A : List (List Int)) (c d : List Int) : inA A [c, d] = (if c ∈ A then [c] else []) ++ if d ∈ A then [d] else [] := by unfold inA; by_cases h : c ∈ A <;> by_cases h2 : d ∈ A <;> simp [h, h2]
theorem whyR_len : (whyR vars w A r a).length ≤ 2 := by
  have h2 : ∀ l : List (List Int), (inA A l).length ≤ l.length := fun l => List.length_filter_le _ _
  unfold whyR
  split
  · exact Nat.le_trans (h2 _) (by simp)
  · split
    · split
      · exact h2 _
      · simp
    · simp
theorem whyR_mem {b : List Int} (h : b ∈ whyR vars w A r a) : b ∈ A := by
  have h2 : ∀ l : List (List Int), b ∈ inA A l → b ∈ A := fun l hb => by
    have := (List.mem_filter.1 hb).2
    simpa using this
  unfold whyR at h
  split at h
  · exact h2 _ h
  · split at h
    · split at h
      · exact h2 _ h
      · cases h
    · cases h
end
end Go.Av
namespace Go.Av
open Go Go.Proofs Go.Sort
theorem hb31 : hasBody Tryz.prog 31 = true := by kernel_rfl
theorem hb77 : hasBody Tryz.prog 77 = true := by kernel_rfl
theorem round13_c (vars w : Int) (A : List (List Int)) (hAA : AllA vars A) (hAs : ascP A) (hAl : A.length ≤ 729) (a : List Int) (hca : clB vars a = true) : ACall Tryz.prog 31 [.agg [.sl (sls A) A.length, .sl (icells (A.map (rdE vars w A))) A.length, .sl (icells (ctE vars w A)) (ctE vars w A).length, .sl (sls (shE vars w A)) (shE vars w A).length], .sl (icells a) a.length] [] (.int .i64 (rnR vars w A a)) [] := by
 refine ACall.intro Tryz.func31 rfl (N := 17) rfl (by decide) (by simp) ?_
 refine aq ?_
 refine rn (v := .op [.sl _ _, .sl _ _, .sl _ _, .sl _ _]) (q_box il rfl rfl) ?_
 refine ra (.int _ _) ?_
 refine r_nil ?_
 refine aq ?_
 refine rv (v := .rp _ _) (v_fieldAddr_rp fo55_0 il) ?_
 refine rv (v := .sl _ _) (v_load_rp1 ta22 il rfl (fun _ => rfl) rfl) ?_
 refine rm (.sl _ _) ?_
 refine rn (v := .int _ _) (q_call (vs := [.sl _ _, .sl _ _]) (args := [.sl _ _, .sl _ _]) hb34 ⟨il, il, trivial⟩ rfl (fun hA => at2_c vars A a (by omega) hAA (ascP_M hAs) hca) rfl rfl) ?_
 refine ra (.int _ _) ?_
 refine r_nil ?_
 refine a_seq ?_
 refine aq ?_
 refine rm (.int _ _) ?_
 refine rv (v := .bool _) (v_lss il il) ?_
 refine r_nil ?_
 refine a_cond rfl (fun ht11 => ?_) (fun ht11 => ?_)
 ·
  refine aq ?_
  refine ra (.int _ _) ?_
  refine r_nil ?_
  refine a_ret ?_
  refine ret1 Tryz.results31 (by decide) (by decide) (Weak.of_eq (int_eq ?_)) rfl Leaves.nil
  have h1 := atL_neg (ascP_M hAs) a; rw [ht11] at h1; exact (rnR_out (by simpa using h1.symm)).symm
 ·
  refine a_skip ?_
  refine a_seq ?_
  obtain ⟨k, hk1, hk2, hk3⟩ := atL_gl (by simpa using ht11)
  have hga : a ∈ A := (by rw [← hk3]; exact gl_mem hk2)
  refine a_region ?_
  refine rv (v := .rp _ _) (v_fieldAddr_rp fo55_1 il) ?_
  refine rv (v := .sl _ _) (v_load_rp1 ta25 il rfl (fun _ => rfl) rfl) ?_
  refine rm (.int _ _) ?_
  refine rv (v := .pp _ _) (v_indexAddr_sl es25 il il (fun _ => ⟨by omega, by rw [hk1]; omega, icells_ne (i := k) (by rw [List.length_map]; exact hk2)⟩)) ?_
  refine rv (v := .int .i64 (rdE vars w A (gl A k))) (v_load_pp ta3 il (fun _ => by rw [hk1, Nat.mul_one]; exact map_gd hk2) rfl) ?_
  refine ra (.int _ _) ?_
  refine r_nil ?_
  refine a_ret ?_
  refine ret1 Tryz.results31 (by decide) (by decide) (Weak.of_eq (int_eq ?_)) rfl Leaves.nil
  rw [rnR_in hga, hk3]
theorem earl13_c (vars w : Int) (A : List (List Int)) (hAA : AllA vars A) (hAs : ascP A) (hAl : A.length ≤ 729) (a : List Int) (hca : clB vars a = true) (r : Int) : ACall Tryz.prog 77 [.agg [.sl (sls A) A.length, .sl (icells (A.map (rdE vars w A))) A.length, .sl (icells (ctE vars w A)) (ctE vars w A).length, .sl (sls (shE vars w A)) (shE vars w A).length], .sl (icells a) a.length, .int .i64 r] [] (.bool (erl vars w A r a)) [] := by
 refine ACall.intro Tryz.func77 rfl (N := 22) rfl (by decide) (by simp) ?_
 refine aq ?_
 refine rn (v := .op [.sl _ _, .sl _ _, .sl _ _, .sl _ _]) (q_box il rfl rfl) ?_
 refine ra (.bool _) ?_
 refine r_nil ?_
 refine aq ?_
 refine rv (v := .agg [.sl _ _, .sl _ _, .sl _ _, .sl _ _]) (v_load_rpa1 ta55 il rfl rfl (fun _ => rfl) rfl) ?_
 refine rm (.sl _ _) ?_
 refine rn (v := .int _ _) (q_call (vs := [.agg [.sl _ _, .sl _ _, .sl _ _, .sl _ _], .sl _ _]) (args := [.agg [.sl _ _, .sl _ _, .sl _ _, .sl _ _], .sl _ _]) hb31 ⟨il, il, trivial⟩ rfl (fun hA => round13_c vars w A hAA hAs hAl a hca) rfl rfl) ?_
 refine ra (.int _ _) ?_
 refine r_nil ?_
 refine aq ?_
 refine rm (.int _ _) ?_
 refine rv (v := .bool _) (v_lss il il) ?_
 refine rm (.bool _) ?_
 refine rg (v := .int _ _) (v_move il nf) ?_
 refine r_gval (v := .bool _) (v_gtr (.inr ⟨_, rfl, fun h => h⟩) il) rfl rfl rfl (by decide) (.inl ⟨_, rfl, rfl⟩) rfl (by decide) ?_
 refine r_gval (v := .bool _) (v_move (.inr ⟨_, rfl, fun h => h⟩) nf) rfl rfl rfl (by decide) (.inl ⟨_, rfl, rfl⟩) rfl (by decide) ?_
 refine r_gval (v := .int _ _) (v_move il nf) rfl rfl rfl (by decide) (.inr ⟨_, _, rfl, rfl⟩) rfl (by decide) ?_
 refine r_gval (v := .int _ _) (v_move il nf) rfl rfl rfl (by decide) (.inr ⟨_, _, rfl, rfl⟩) rfl (by decide) ?_
 refine r_gval (v := .bool _) (v_lss (.inr ⟨_, rfl, fun h => h⟩) (.inr ⟨_, rfl, fun h => h⟩)) rfl rfl rfl (by decide) (.inr ⟨_, _, rfl, rfl⟩) rfl (by decide) ?_
 refine r_gval (v := .bool _) (v_pick (.inr ⟨_, rfl, fun h => h⟩) (.inr ⟨_, rfl, fun h h2 => by simp_all⟩) (.inl rfl)) rfl rfl rfl (by decide) (.inl ⟨_, rfl, rfl⟩) rfl (by decide) ?_
 refine rv (v := .bool _) (v_pick (.inl rfl) (.inl rfl) (.inr ⟨_, rfl, fun h h2 => by simp_all⟩)) ?_
 refine ra (.bool _) ?_
 refine r_nil ?_
 refine a_ret ?_
 refine ret1 Tryz.results77 (by decide) (by decide) (Weak.of_eq (bool_eq ?_)) rfl Leaves.nil
 unfold erl; cases decide (rnR vars w A a < 0) <;> cases decide (rnR vars w A a > 0) <;> simp_all
theorem why13_c (L : List (List Int)) (vars w : Int) (A : List (List Int)) (hAA : AllA vars A) (hAs : ascP A) (hAl : A.length ≤ 729) (a : List Int) (hca : clB vars a = true) (r : Int) : ACall Tryz.prog 33 [.agg [.int .i64 vars, .sl (sls L) L.length], .int .i64 w, .agg [.sl (sls A) A.length, .sl (icells (A.map (rdE vars w A))) A.length, .sl (icells (ctE vars w A)) (ctE vars w A).length, .sl (sls (shE vars w A)) (shE vars w A).length], .sl (icells a) a.length, .int .i64 r] [] (.osl 1 (sls (whyR vars w A r a)) (whyR vars w A r a).length none) [] := by
 have hla := clB_len hca
 have hsm := clB_sm hca
 have hv12 := (clB_spec hca).1
 refine ACall.intro Tryz.func33 rfl (N := 102) rfl (by decide) (by simp) ?_
 refine aq ?_
 refine rn (v := .op [.int _ _, .sl _ _]) (q_box il rfl rfl) ?_
 refine rn (v := .op [.sl _ _, .sl _ _, .sl _ _, .sl _ _]) (q_box il rfl rfl) ?_
 refine ra .nils ?_
 refine r_nil ?_
 refine aq ?_
 refine rn (v := .osl _ _ _ _) (q_sliceLit (n := 0) (parts := []) lt22 rfl rfl rfl rfl) ?_
 refine ra (.rsl _ _ _ _ _) ?_
 refine r_pre (ent_reloc_sl (t := 11) rfl rfl) ?_
 refine r_nil ?_
 refine a_seq ?_
 refine aq ?_
 refine ra (.int _ _) ?_
 refine r_nil ?_
 refine a_block ?_
 refine a_loop (X := Nat) (fun i => look [(1, .int .i64 w), (3, .sl (icells a) a.length), (4, .int .i64 r), (5, .op [.int .i64 vars, .sl (sls L) L.length]), (7, .op [.sl (sls A) A.length, .sl (icells (A.map (rdE vars w A))) A.length, .sl (icells (ctE vars w A)) (ctE vars w A).length, .sl (sls (shE vars w A)) (shE vars w A).length]), (11, .osl 1 (sls []) 0 none), (12, .int .i64 ((i : Nat) : Int))]) (fun i => i ≤ a.length ∧ ∀ j, j < i → erl vars w A r (lessA a j) = false) (fun i => a.length - i) 0 (ent_look ⟨wr, wr, wr, wr, wr, Weak.osl rfl rfl, wr, trivial⟩) ⟨Nat.zero_le _, fun j h => by omega⟩ (fun i hG => ?_)
 obtain ⟨g1, g2⟩ := hG
 refine a_seq ?_
 refine aq ?_
 refine rm (.int _ _) ?_
 refine rm (.sl _ _) ?_
 refine rv (v := .int _ _) (v_len_sl sl25 il) ?_
 refine rv (v := .bool _) (v_lss il il) ?_
 refine r_nil ?_
 refine a_cond rfl (fun ht21 => ?_) (fun ht21 => ?_)
 ·
  refine a_skip ?_
  refine a_seq ?_
  refine a_block ?_
  refine a_seq ?_
  have hi : i < a.length := (by simp at ht21; omega)
  have hsi := hsm i
  have hwc : clB vars (lessA a i) = true := wo_cl hca (vr (gd a i))
  refine a_region ?_
  refine rm (.sl _ _) ?_
  refine rm (.sl _ _) ?_
  refine rm (.int _ _) ?_
  refine rv (v := .pp _ _) (v_indexAddr_sl es25 il il (fun _ => ⟨by omega, by omega, icells_ne hi⟩)) ?_
  refine rv (v := .int .i64 (gd a i)) (v_load_pp ta3 il (fun _ => by rw [Nat.mul_one]; exact icells_get (gd_get hi)) rfl) ?_
  refine rn (v := .int _ _) (q_call (vs := [.int _ _]) (args := [.int .i64 _]) hb76 ⟨il, trivial⟩ rfl (fun hA => l2Var_c _ (by omega)) rfl rfl) ?_
  refine rn (v := .sl (icells (lessA a i)) (lessA a i).length) (QSem.cast (q_callZ (vs := [.sl _ _, .int _ _]) (args := [.sl _ _, .int .i64 _]) hb75 ⟨il, il, trivial⟩ rfl (fun hA => l2Without_c a (vr (gd a i)) (by omega) hsm) (ic_noSh _) (ic_noRef _)) (sl_shZ (ic_pure _))) ?_
  refine ra (.sl _ _) ?_
  refine r_nil ?_
  refine aq ?_
  refine rv (v := .agg [.sl _ _, .sl _ _, .sl _ _, .sl _ _]) (v_load_rpa1 ta55 il rfl rfl (fun _ => rfl) rfl) ?_
  refine rm (.sl _ _) ?_
  refine rm (.int _ _) ?_
  refine rn (v := .bool _) (q_call (vs := [.agg [.sl _ _, .sl _ _, .sl _ _, .sl _ _], .sl _ _, .int _ _]) (args := [.agg [.sl _ _, .sl _ _, .sl _ _, .sl _ _], .sl _ _, .int .i64 _]) hb77 ⟨il, il, il, trivial⟩ rfl (fun hA => earl13_c vars w A hAA hAs hAl (lessA a i) hwc r) rfl rfl) ?_
  refine r_nil ?_
  refine a_cond rfl (fun ht34 => ?_) (fun ht34 => ?_)
  ·
   refine a_seq ?_
   refine a_seq ?_
   have hw1 := fndA_some hi ht34 g2
   have hnn := rnR_nn vars w A (lessA a i)
   refine a_region ?_
   refine rv (v := .agg [.sl _ _, .sl _ _, .sl _ _, .sl _ _]) (v_load_rpa1 ta55 il rfl rfl (fun _ => rfl) rfl) ?_
   refine rm (.sl _ _) ?_
   refine rn (v := .int _ _) (q_call (vs := [.agg [.sl _ _, .sl _ _, .sl _ _, .sl _ _], .sl _ _]) (args := [.agg [.sl _ _, .sl _ _, .sl _ _, .sl _ _], .sl _ _]) hb31 ⟨il, il, trivial⟩ rfl (fun hA => round13_c vars w A hAA hAs hAl (lessA a i) hwc) rfl rfl) ?_
   refine rv (v := .bool _) (v_geq il il) ?_
   refine r_nil ?_
   refine a_cond rfl (fun ht38 => ?_) (fun ht38 => ?_)
   ·
    refine a_region ?_
    refine rm (.rsl _ _ _ _ _) ?_
    refine rm (.sl _ _) ?_
    refine rn (v := .osl 1 [.sl (icells (lessA a i)) (lessA a i).length] 1 (some 1)) (q_sliceLit (n := 1) (parts := [(0, .tmp 40)]) lt22 rfl rfl rfl rfl) ?_
    refine r_pre (ent_reloc_sl (t := 39) rfl rfl) ?_
    refine r_step rfl (o_append rfl ap22 rfl (by decide) (by decide) rfl (src_lit (.inl rfl) rfl rfl rfl) rfl (by simp [sls]) (by simp)) ?_
    refine ra (.rsl _ _ _ _ _) ?_
    refine r_pre (ent_reloc_sl (t := 11) rfl rfl) ?_
    refine r_nil ?_
    refine aq ?_
    refine rm (.rsl _ _ _ _ _) ?_
    refine ra (.rsl _ _ _ _ _) ?_
    refine r_pre (ent_reloc_sl (t := 10) rfl rfl) ?_
    refine r_nil ?_
    refine a_ret ?_
    refine ret1 Tryz.results33 (by decide) (by decide) (Weak.osl ?_ ?_) rfl Leaves.nil
    all_goals (have hm : lessA a i ∈ A := (by rw [ht38] at hnn; simpa using hnn.symm); rw [whyR_a hw1, inA_one, if_pos hm]; try rfl)
   ·
    refine a_skip ?_
    refine aq ?_
    refine rm (.rsl _ _ _ _ _) ?_
    refine ra (.rsl _ _ _ _ _) ?_
    refine r_pre (ent_reloc_sl (t := 10) rfl rfl) ?_
    refine r_nil ?_
    refine a_ret ?_
    refine ret1 Tryz.results33 (by decide) (by decide) (Weak.osl ?_ ?_) rfl Leaves.nil
    all_goals (have hm : ¬ lessA a i ∈ A := (by rw [ht38] at hnn; simpa using hnn.symm); rw [whyR_a hw1, inA_one, if_neg hm]; try rfl)
  ·
   refine a_skip ?_
   refine a_region ?_
   refine rm (.int _ _) ?_
   refine rv (v := .int _ _) (v_add il il (fun _ => by omega)) ?_
   refine ra (.int _ _) ?_
   refine r_nil ?_
   refine ⟨i + 1, ent_look ⟨wr, wr, wr, wr, wr, wr, Weak.of_eq (int_eq (by omega)), trivial⟩, ⟨by omega, fun j h1 => by rcases Nat.lt_or_ge j i with h | h; exact g2 j h; (obtain rfl : j = i := by omega); simpa using ht34⟩, by omega⟩
 ·
  refine a_exit ?_
  refine a_seq ?_
  refine a_seq ?_
  have hfa := fndA_none (vars := vars) (w := w) (A := A) (r := r) (a := a) fun k hk => g2 k (by simp at ht21; omega)
  refine a_region ?_
  refine ra (.int _ _) ?_
  refine r_nil ?_
  refine a_block ?_
  refine a_loop (X := Nat) (fun k => look [(1, .int .i64 w), (3, .sl (icells a) a.length), (4, .int .i64 r), (5, .op [.int .i64 vars, .sl (sls L) L.length]), (7, .op [.sl (sls A) A.length, .sl (icells (A.map (rdE vars w A))) A.length, .sl (icells (ctE vars w A)) (ctE vars w A).length, .sl (sls (shE vars w A)) (shE vars w A).length]), (11, .osl 1 (sls []) 0 none), (14, .int .i64 ((k : Int) + 1))]) (fun k => (k : Int) ≤ vars ∧ ∀ v, 1 ≤ v → v ≤ (k : Int) → opB a v = true → bothA vars w A r a v = false) (fun k => vars.toNat - k) 0 (ent_look ⟨wr, wr, wr, wr, wr, wr, Weak.of_eq (int_eq (by omega)), trivial⟩) ⟨by omega, fun j h1 h2 => by omega⟩ (fun k hG => ?_)
  obtain ⟨k1, k2⟩ := hG
  refine a_seq ?_
  refine aq ?_
  refine rm (.int _ _) ?_
  refine rv (v := .rp _ _) (v_fieldAddr_rp fo29_0 il) ?_
  refine rv (v := .int _ _) (v_load_rp1 ta3 il rfl (fun _ => rfl) rfl) ?_
  refine rv (v := .bool _) (v_leq il il) ?_
  refine rm (.bool _) ?_
  refine rg (v := .sl _ _) (v_move il nf) ?_
  refine r_gval (v := .int _ _) (v_len_sl sl25 (.inr ⟨_, rfl, fun h => h⟩)) rfl rfl rfl (by decide) (.inl ⟨_, rfl, rfl⟩) rfl (by decide) ?_
  refine rg (v := .int _ _) (v_move il nf) ?_
  refine r_gval (v := .bool _) (v_leq (.inr ⟨_, rfl, fun h => h⟩) (.inr ⟨_, rfl, fun h => h⟩)) rfl rfl rfl (by decide) (.inl ⟨_, rfl, rfl⟩) rfl (by decide) ?_
  refine rv (v := .bool _) (v_pick (.inl rfl) (.inr ⟨_, rfl, fun h h2 => by simp_all⟩) (.inl rfl)) ?_
  refine r_nil ?_
  refine a_cond rfl (fun ht53 => ?_) (fun ht53 => ?_)
  ·
   refine a_skip ?_
   refine a_seq ?_
   refine a_block ?_
   refine a_seq ?_
   refine a_seq ?_
   have hkk : ((k : Int) + 1) ≤ vars ∧ (a.length : Int) ≤ w := (by simpa using ht53)
   refine a_region ?_
   refine rm (.sl _ _) ?_
   refine rm (.int _ _) ?_
   refine rn (v := .bool _) (q_call (vs := [.sl _ _, .int _ _]) (args := [.sl _ _, .int .i64 _]) hb50 ⟨il, il, trivial⟩ rfl (fun hA => has2_c _ _ _ ⟨rfl, by omega⟩) rfl rfl) ?_
   refine rm (.bool _) ?_
   refine rg (v := .sl _ _) (v_move il nf) ?_
   refine rg (v := .int _ _) (v_move il nf) ?_
   refine r_gval (v := .int _ _) (v_neg (.inr ⟨_, rfl, fun h => h⟩) (fun hA => by simp at hA; omega)) rfl rfl rfl (by decide) (.inl ⟨_, rfl, rfl⟩) rfl (by decide) ?_
   refine r_guard (v := .bool _) (q_call (vs := [.sl _ _, .int _ _]) (args := [.sl _ _, .int .i64 _]) hb50 ⟨.inr ⟨_, rfl, fun h => h⟩, .inr ⟨_, rfl, fun h => h⟩, trivial⟩ rfl (fun hA => has2_c _ _ _ ⟨rfl, by omega⟩) rfl rfl) rfl rfl rfl (by decide) (.inl ⟨_, rfl, rfl⟩) rfl (by decide) ?_
   refine rv (v := .bool _) (v_pick (.inl rfl) (.inl rfl) (.inr ⟨_, rfl, fun h h2 => by simp_all⟩)) ?_
   refine r_nil ?_
   refine a_cond rfl (fun ht64 => ?_) (fun ht64 => ?_)
   ·
    refine a_exit ?_
    refine a_region ?_
    refine rm (.int _ _) ?_
    refine rv (v := .int _ _) (v_add il il (fun _ => by omega)) ?_
    refine ra (.int _ _) ?_
    refine r_nil ?_
    refine ⟨k + 1, ent_look ⟨wr, wr, wr, wr, wr, wr, Weak.of_eq (int_eq (by omega)), trivial⟩, ⟨by omega, fun v h1 h2 ho => by rcases Int.lt_or_le (k : Int) v with h | h; (obtain rfl : v = (k : Int) + 1 := by omega); (exfalso; unfold opB at ho; revert ht64; revert ho; cases decide ((k : Int) + 1 ∈ a) <;> cases decide (-((k : Int) + 1) ∈ a) <;> simp); exact k2 v h1 h ho⟩, by omega⟩
   ·
    refine a_skip ?_
    refine a_seq ?_
    have hop : opB a ((k : Int) + 1) = true := (by unfold opB; revert ht64; cases decide (((k : Int) + 1) ∈ a) <;> cases decide (-((k : Int) + 1) ∈ a) <;> simp)
    have hpc := put_cl hca (v := ((k : Int) + 1)) ⟨by omega, hkk.1⟩ hop
    refine a_region ?_
    refine rm (.sl _ _) ?_
    refine rm (.int _ _) ?_
    refine rn (v := .sl (icells (putL a ((k : Int) + 1))) (putL a ((k : Int) + 1)).length) (QSem.cast (QSem.cast (q_callZ (vs := [.sl _ _, .int _ _]) (args := [.sl _ _, .int .i64 _]) hb78 ⟨il, il, trivial⟩ rfl (fun hA => put_c a a.length _ ⟨rfl, by omega⟩ hsm (by omega)) (ic_noSh _) (ic_noRef _)) (sl_shZ (ic_pure _))) (sl_eq2 rfl (putL_length _ _).symm)) ?_
    refine rm (.sl _ _) ?_
    refine rm (.int _ _) ?_
    refine rv (v := .int _ _) (v_neg il (fun _ => by omega)) ?_
    refine rn (v := .sl (icells (putL a (-((k : Int) + 1)))) (putL a (-((k : Int) + 1))).length) (QSem.cast (QSem.cast (q_callZ (vs := [.sl _ _, .int _ _]) (args := [.sl _ _, .int .i64 _]) hb78 ⟨il, il, trivial⟩ rfl (fun hA => put_c a a.length _ ⟨rfl, by omega⟩ hsm (by omega)) (ic_noSh _) (ic_noRef _)) (sl_shZ (ic_pure _))) (sl_eq2 rfl (putL_length _ _).symm)) ?_
    refine ra (.sl _ _) ?_
    refine ra (.sl _ _) ?_
    refine r_nil ?_
    refine a_seq ?_
    refine aq ?_
    refine rv (v := .agg [.sl _ _, .sl _ _, .sl _ _, .sl _ _]) (v_load_rpa1 ta55 il rfl rfl (fun _ => rfl) rfl) ?_
    refine rm (.sl _ _) ?_
    refine rm (.int _ _) ?_
    refine rn (v := .bool _) (q_call (vs := [.agg [.sl _ _, .sl _ _, .sl _ _, .sl _ _], .sl _ _, .int _ _]) (args := [.agg [.sl _ _, .sl _ _, .sl _ _, .sl _ _], .sl _ _, .int .i64 _]) hb77 ⟨il, il, il, trivial⟩ rfl (fun hA => earl13_c vars w A hAA hAs hAl (putL a ((k : Int) + 1)) hpc.1 r) rfl rfl) ?_
    refine rv (v := .bool _) (v_not il) ?_
    refine rm (.bool _) ?_
    refine rg (v := .agg [.sl _ _, .sl _ _, .sl _ _, .sl _ _]) (v_load_rpa1 ta55 il rfl rfl (fun _ => rfl) rfl) ?_
    refine rg (v := .sl _ _) (v_move il nf) ?_
    refine rg (v := .int _ _) (v_move il nf) ?_
    refine r_guard (v := .bool _) (q_call (vs := [.agg [.sl _ _, .sl _ _, .sl _ _, .sl _ _], .sl _ _, .int _ _]) (args := [.agg [.sl _ _, .sl _ _, .sl _ _, .sl _ _], .sl _ _, .int .i64 _]) hb77 ⟨.inr ⟨_, rfl, fun h => h⟩, .inr ⟨_, rfl, fun h => h⟩, .inr ⟨_, rfl, fun h => h⟩, trivial⟩ rfl (fun hA => earl13_c vars w A hAA hAs hAl (putL a (-((k : Int) + 1))) hpc.2 r) rfl rfl) rfl rfl rfl (by decide) (.inl ⟨_, rfl, rfl⟩) rfl (by decide) ?_
    refine r_gval (v := .bool _) (v_not (.inr ⟨_, rfl, fun h => h⟩)) rfl rfl rfl (by decide) (.inl ⟨_, rfl, rfl⟩) rfl (by decide) ?_
    refine rv (v := .bool _) (v_pick (.inl rfl) (.inl rfl) (.inr ⟨_, rfl, fun h h2 => by simp_all⟩)) ?_
    refine r_nil ?_
    refine a_cond rfl (fun ht83 => ?_) (fun ht83 => ?_)
    ·
     refine a_exit ?_
     refine a_pre (ent_look (L := [(1, .int _ _), (3, .sl _ _), (4, .int _ _), (5, .op [.int _ _, .sl _ _]), (7, .op [.sl _ _, .sl _ _, .sl _ _, .sl _ _]), (11, .osl _ _ _ _), (14, .int _ _)]) ⟨wr, wr, wr, wr, wr, wr, wr, trivial⟩) ?_
     refine a_region ?_
     refine rm (.int _ _) ?_
     refine rv (v := .int _ _) (v_add il il (fun _ => by omega)) ?_
     refine ra (.int _ _) ?_
     refine r_nil ?_
     refine ⟨k + 1, ent_look ⟨wr, wr, wr, wr, wr, wr, Weak.of_eq (int_eq (by omega)), trivial⟩, ⟨by omega, fun v h1 h2 ho => by rcases Int.lt_or_le (k : Int) v with h | h; (obtain rfl : v = (k : Int) + 1 := by omega); (unfold bothA; revert ht83; cases erl vars w A r (putL a ((k : Int) + 1)) <;> cases erl vars w A r (putL a (-((k : Int) + 1))) <;> simp); exact k2 v h1 h ho⟩, by omega⟩
    ·
     refine a_skip ?_
     refine a_seq ?_
     refine a_seq ?_
     refine a_pre (ent_look (L := [(1, .int _ _), (3, .sl _ _), (4, .int _ _), (5, .op [.int _ _, .sl _ _]), (7, .op [.sl _ _, .sl _ _, .sl _ _, .sl _ _]), (11, .osl _ _ _ _), (14, .int _ _), (15, .sl _ _), (16, .sl _ _)]) ⟨wr, wr, wr, wr, wr, wr, wr, wr, wr, trivial⟩) ?_
     have hbo : bothA vars w A r a ((k : Int) + 1) = true := (by unfold bothA; revert ht83; cases erl vars w A r (putL a ((k : Int) + 1)) <;> cases erl vars w A r (putL a (-((k : Int) + 1))) <;> simp)
     have hw2 := whyR_v (w := w) hfa hkk.2 (fndV_some hkk.1 hop hbo k2)
     rw [inA_two] at hw2
     have hn1 := rnR_nn vars w A (putL a ((k : Int) + 1))
     have hn2 := rnR_nn vars w A (putL a (-((k : Int) + 1)))
     refine a_region ?_
     refine rv (v := .agg [.sl _ _, .sl _ _, .sl _ _, .sl _ _]) (v_load_rpa1 ta55 il rfl rfl (fun _ => rfl) rfl) ?_
     refine rm (.sl _ _) ?_
     refine rn (v := .int _ _) (q_call (vs := [.agg [.sl _ _, .sl _ _, .sl _ _, .sl _ _], .sl _ _]) (args := [.agg [.sl _ _, .sl _ _, .sl _ _, .sl _ _], .sl _ _]) hb31 ⟨il, il, trivial⟩ rfl (fun hA => round13_c vars w A hAA hAs hAl (putL a ((k : Int) + 1)) hpc.1) rfl rfl) ?_
     refine rv (v := .bool _) (v_geq il il) ?_
     refine r_nil ?_
     refine a_cond rfl (fun ht87 => ?_) (fun ht87 => ?_)
     ·
      refine a_region ?_
      refine rm (.rsl _ _ _ _ _) ?_
      refine rm (.sl _ _) ?_
      refine rn (v := .osl 1 [.sl (icells (putL a ((k : Int) + 1))) (putL a ((k : Int) + 1)).length] 1 (some 1)) (q_sliceLit (n := 1) (parts := [(0, .tmp 89)]) lt22 rfl rfl rfl rfl) ?_
      refine r_pre (ent_reloc_sl (t := 88) rfl rfl) ?_
      refine r_step rfl (o_append rfl ap22 rfl (by decide) (by decide) rfl (src_lit (.inl rfl) rfl rfl rfl) rfl (by simp [sls]) (by simp)) ?_
      refine ra (.rsl _ _ _ _ _) ?_
      refine r_pre (ent_reloc_sl (t := 11) rfl rfl) ?_
      refine r_nil ?_
      refine a_seq ?_
      refine aq ?_
      refine rv (v := .agg [.sl _ _, .sl _ _, .sl _ _, .sl _ _]) (v_load_rpa1 ta55 il rfl rfl (fun _ => rfl) rfl) ?_
      refine rm (.sl _ _) ?_
      refine rn (v := .int _ _) (q_call (vs := [.agg [.sl _ _, .sl _ _, .sl _ _, .sl _ _], .sl _ _]) (args := [.agg [.sl _ _, .sl _ _, .sl _ _, .sl _ _], .sl _ _]) hb31 ⟨il, il, trivial⟩ rfl (fun hA => round13_c vars w A hAA hAs hAl (putL a (-((k : Int) + 1))) hpc.2) rfl rfl) ?_
      refine rv (v := .bool _) (v_geq il il) ?_
      refine r_nil ?_
      refine a_cond rfl (fun ht95 => ?_) (fun ht95 => ?_)
      ·
       refine a_region ?_
       refine rm (.rsl _ _ _ _ _) ?_
       refine rm (.sl _ _) ?_
       refine rn (v := .osl 1 [.sl (icells (putL a (-((k : Int) + 1)))) (putL a (-((k : Int) + 1))).length] 1 (some 1)) (q_sliceLit (n := 1) (parts := [(0, .tmp 97)]) lt22 rfl rfl rfl rfl) ?_
       refine r_pre (ent_reloc_sl (t := 96) rfl rfl) ?_
       refine r_step rfl (o_append rfl ap22 rfl (by decide) (by decide) rfl (src_lit (.inl rfl) rfl rfl rfl) rfl (by simp [sls]) (by simp)) ?_
       refine ra (.rsl _ _ _ _ _) ?_
       refine r_pre (ent_reloc_sl (t := 11) rfl rfl) ?_
       refine r_nil ?_
       refine aq ?_
       refine rm (.rsl _ _ _ _ _) ?_
       refine ra (.rsl _ _ _ _ _) ?_
       refine r_pre (ent_reloc_sl (t := 10) rfl rfl) ?_
       refine r_nil ?_
       refine a_ret ?_
       refine ret1 Tryz.results33 (by decide) (by decide) (Weak.osl ?_ ?_) rfl Leaves.nil
       all_goals (have hm1 : (putL a ((k : Int) + 1)) ∈ A := (by rw [ht87] at hn1; simpa using hn1.symm); have hm2 : (putL a (-((k : Int) + 1))) ∈ A := (by rw [ht95] at hn2; simpa using hn2.symm); rw [hw2, if_pos hm1, if_pos hm2]; try rfl)
      ·
       refine a_skip ?_
       refine aq ?_
       refine rm (.rsl _ _ _ _ _) ?_
       refine ra (.rsl _ _ _ _ _) ?_
       refine r_pre (ent_reloc_sl (t := 10) rfl rfl) ?_
       refine r_nil ?_
       refine a_ret ?_
       refine ret1 Tryz.results33 (by decide) (by decide) (Weak.osl ?_ ?_) rfl Leaves.nil
       all_goals (have hm1 : (putL a ((k : Int) + 1)) ∈ A := (by rw [ht87] at hn1; simpa using hn1.symm); have hm2 : ¬ (putL a (-((k : Int) + 1))) ∈ A := (by rw [ht95] at hn2; simpa using hn2.symm); rw [hw2, if_pos hm1, if_neg hm2]; try rfl)
     ·
      refine a_skip ?_
      refine a_seq ?_
      refine aq ?_
      refine rv (v := .agg [.sl _ _, .sl _ _, .sl _ _, .sl _ _]) (v_load_rpa1 ta55 il rfl rfl (fun _ => rfl) rfl) ?_
      refine rm (.sl _ _) ?_
      refine rn (v := .int _ _) (q_call (vs := [.agg [.sl _ _, .sl _ _, .sl _ _, .sl _ _], .sl _ _]) (args := [.agg [.sl _ _, .sl _ _, .sl _ _, .sl _ _], .sl _ _]) hb31 ⟨il, il, trivial⟩ rfl (fun hA => round13_c vars w A hAA hAs hAl (putL a (-((k : Int) + 1))) hpc.2) rfl rfl) ?_
      refine rv (v := .bool _) (v_geq il il) ?_
      refine r_nil ?_
      refine a_cond rfl (fun ht95 => ?_) (fun ht95 => ?_)
      ·
       refine a_region ?_
       refine rm (.rsl _ _ _ _ _) ?_
       refine rm (.sl _ _) ?_
       refine rn (v := .osl 1 [.sl (icells (putL a (-((k : Int) + 1)))) (putL a (-((k : Int) + 1))).length] 1 (some 1)) (q_sliceLit (n := 1) (parts := [(0, .tmp 97)]) lt22 rfl rfl rfl rfl) ?_
       refine r_pre (ent_reloc_sl (t := 96) rfl rfl) ?_
       refine r_step rfl (o_append rfl ap22 rfl (by decide) (by decide) rfl (src_lit (.inl rfl) rfl rfl rfl) rfl (by simp [sls]) (by simp)) ?_
       refine ra (.rsl _ _ _ _ _) ?_
       refine r_pre (ent_reloc_sl (t := 11) rfl rfl) ?_
       refine r_nil ?_
       refine aq ?_
       refine rm (.rsl _ _ _ _ _) ?_
       refine ra (.rsl _ _ _ _ _) ?_
       refine r_pre (ent_reloc_sl (t := 10) rfl rfl) ?_
       refine r_nil ?_
       refine a_ret ?_
       refine ret1 Tryz.results33 (by decide) (by decide) (Weak.osl ?_ ?_) rfl Leaves.nil
       all_goals (have hm1 : ¬ (putL a ((k : Int) + 1)) ∈ A := (by rw [ht87] at hn1; simpa using hn1.symm); have hm2 : (putL a (-((k : Int) + 1))) ∈ A := (by rw [ht95] at hn2; simpa using hn2.symm); rw [hw2, if_neg hm1, if_pos hm2]; try rfl)
      ·
       refine a_skip ?_
       refine aq ?_
       refine rm (.rsl _ _ _ _ _) ?_
       refine ra (.rsl _ _ _ _ _) ?_
       refine r_pre (ent_reloc_sl (t := 10) rfl rfl) ?_
       refine r_nil ?_
       refine a_ret ?_
       refine ret1 Tryz.results33 (by decide) (by decide) (Weak.osl ?_ ?_) rfl Leaves.nil
       all_goals (have hm1 : ¬ (putL a ((k : Int) + 1)) ∈ A := (by rw [ht87] at hn1; simpa using hn1.symm); have hm2 : ¬ (putL a (-((k : Int) + 1))) ∈ A := (by rw [ht95] at hn2; simpa using hn2.symm); rw [hw2, if_neg hm1, if_neg hm2]; try rfl)
  ·
   refine a_exit ?_
   refine aq ?_
   refine rm (.rsl _ _ _ _ _) ?_
   refine ra (.rsl _ _ _ _ _) ?_
   refine r_pre (ent_reloc_sl (t := 10) rfl rfl) ?_
   refine r_nil ?_
   refine a_ret ?_
   refine ret1 Tryz.results33 (by decide) (by decide) (Weak.osl ?_ ?_) rfl Leaves.nil
   all_goals (rw [whyR_0 hfa (fun hl => fndV_none fun v h1 h2 => k2 v h1 (by have h8 : ¬ ((k : Int) + 1 ≤ vars) := (fun h9 => by simp [h9, hl] at ht53); omega))]; try rfl)
end Go.Av
namespace Go.Av
open Go
def addN (o : List (List Int)) (b : List Int) : List (List Int) := if b ∈ o then o else o ++ [b]
def adI (W o : List (List Int)) (i : Nat) : List (List Int) := (W.take i).foldl addN o
theorem adI_zero (W o : List (List Int)) : adI W o 0 = o := by simp [adI]
theorem adI_succ {W o : List (List Int)} {i : Nat} (h : i < W.length) : adI W o (i + 1) = addN (adI W o i) (gl W i) := by
  unfold adI
  rw [take_gl h, List.foldl_append]; rfl
theorem adI_end (W o : List (List Int)) : adI W o W.length = W.foldl addN o := by simp [adI]
theorem addN_in {o : List (List Int)} {b : List Int} (h : b ∈ o) : addN o b = o := by unfold addN; rw [if_pos h]
theorem addN_out {o : List (List Int)} {b : List Int} (h : ¬ b ∈ o) : addN o b = o ++ [b] := by unfold addN; rw [if_neg h]
def GoodN (A o : List (List Int)) : Prop := o.Nodup ∧ ∀ x ∈ o, x ∈ A
theorem GoodN.add {A o : List (List Int)} {b : List Int} (h : GoodN A o) (hb : b ∈ A) : GoodN A (addN o b) := by
  unfold addN
  split
  · exact h
  · rename_i hn
    refine ⟨List.nodup_append.2 ⟨h.1, by simp, fun x hx y hy he => ?_⟩, fun x hx => ?_⟩
    · simp only [List.mem_singleton] at hy
      rw [he, hy] at hx; exact hn hx
    · rcases List.mem_append.1 hx with hx | hx
      · exact h.2 x hx
      · simp only [List.mem_singleton] at hx; rw [hx]; exact hb
theorem GoodN.fold {A : List (List Int)} : ∀ {W o : List (List Int)}, GoodN A o → (∀ b ∈ W, b ∈ A) → GoodN A (W.foldl addN o)
  | [], _, h, _ => h
  | b :: W, o, h, hW => by
    rw [List.foldl_cons]
    exact GoodN.fold (h.add (hW b (List.mem_cons_self ..))) fun x hx => hW x (List.mem_cons_of_mem _ hx)
theorem GoodN.ad {A W o : List (List Int)} (h : GoodN A o) (hW : ∀ b ∈ W, b ∈ A) (i : Nat) : GoodN A (adI W o i) := h.fold fun b hb => hW b (List.mem_of_mem_take hb)
theorem GoodN.len {vars : Int} {A o : List (List Int)} (hv : 0 ≤ vars ∧ vars ≤ 6) (hA : AllA vars A) (h : GoodN A o) : o.length ≤ 729 := by
  have hcl : ∀ x ∈ o, clB vars x = true := fun x hx => AllA_mem.1 hA x (h.2 x hx)
  have h3 := nodup_le (3 ^ vars.toNat) (o.map codeA) (by
    rw [List.nodup_iff_pairwise_ne, List.pairwise_map]
    refine List.Pairwise.imp_of_mem ?_ (List.nodup_iff_pairwise_ne.1 h.1)
    intro x y hx hy hne he
    exact hne (code_cl (hcl x hx) (hcl y hy) he)) fun x hx => by
      obtain ⟨y, hy, rfl⟩ := List.mem_map.1 hx
      exact codeA_cl (hcl y hy)
  rw [List.length_map] at h3
  have h4 : 3 ^ vars.toNat ≤ 3 ^ 6 := Nat.pow_le_pow_right (by decide) (by omega)
  omega
def bfS (vars w : Int) (A : List (List Int)) (a : List Int) : Nat → List (List Int)
  | 0 => [a]
  | n + 1 => if n < (bfS vars w A a n).length then (whyR vars w A (rnR vars w A (gl (bfS vars w A a n) n)) (gl (bfS vars w A a n) n)).foldl addN (bfS vars w A a n) else bfS vars w A a n
section
variable {vars w : Int} {A : List (List Int)} {a : List Int}
theorem bfS_good (ha : a ∈ A) : ∀ n, GoodN A (bfS vars w A a n)
  | 0 => ⟨by simp [bfS], fun x hx => by simp [bfS] at hx; rw [hx]; exact ha⟩
  | n + 1 => by
    have ih := bfS_good ha n
    simp only [bfS]
    split
    · exact ih.fold fun b hb => whyR_mem hb
    · exact ih
theorem bfS_step {n : Nat} (h : n < (bfS vars w A a n).length) : bfS vars w A a (n + 1) = (whyR vars w A (rnR vars w A (gl (bfS vars w A a n) n)) (gl (bfS vars w A a n) n)).foldl addN (bfS vars w A a n) := by
  simp only [bfS]; rw [if_pos h]
theorem bfS_stay {n : Nat} (h : (bfS vars w A a n).length ≤ n) : ∀ j, bfS vars w A a (n + j) = bfS vars w A a n
  | 0 => rfl
  | j + 1 => by
    have ih := bfS_stay h j
    show (if n + j < (bfS vars w A a (n + j)).length then _ else bfS vars w A a (n + j)) = _
    rw [if_neg (by rw [ih]; omega), ih]
def bfE (vars w : Int) (A : List (List Int)) (a : List Int) : List (List Int) := bfS vars w A a 1000
theorem bfE_of {n : Nat} (hn : n ≤ 1000) (h : (bfS vars w A a n).length ≤ n) : bfE vars w A a = bfS vars w A a n := by
  have e : (1000 : Nat) = n + (1000 - n) := by omega
  unfold bfE
  rw [e]; exact bfS_stay h (1000 - n)
theorem bfE_good (ha : a ∈ A) : GoodN A (bfE vars w A a) := bfS_good ha _
def seenM (o : List (List Int)) : List (List Int) := o.foldl insM []
theorem seenM_spec (o : List (List Int)) : ascP (seenM o) ∧ (∀ y, y ∈ seenM o ↔ y ∈ o) ∧ (seenM o).length ≤ o.length := by
  obtain ⟨h1, h2, h3⟩ := foldl_ins [] o List.Pairwise.nil
  exact ⟨h1, fun y => by unfold seenM; rw [h2]; simp, by unfold seenM; simp at h3; exact h3⟩
theorem seenM_add (o : List (List Int)) (b : List Int) : seenM (o ++ [b]) = insM (seenM o) b := by unfold seenM; rw [List.foldl_append]; rfl
theorem seenM_one (a : List Int) : seenM [a] = [a] := by simp [seenM, insM, putM, plc]
end
def alwL (vars w : Int) (L : List (List Int)) : List (List Int) := srtB (allG L w vars vars.toNat 1 [] [])
section
variable {vars w : Int} {L : List (List Int)} {a : List Int}
theorem alwL_in (hv : 0 ≤ vars ∧ vars ≤ 6) : a ∈ alwL vars w L ↔ clB vars a = true ∧ alB L w a = true := by
  unfold alwL
  rw [(srtB_spec (allG_nodup L w vars vars.toNat 1 [] (by omega))).2]
  constructor
  · exact all_cl hv L w
  · rintro ⟨h1, h2⟩
    have := allG_mem L w vars vars.toNat 1 [] a (by omega) (by omega) h2 (fun l hl => by
      have h3 := clB_mem h1 hl
      have h4 := litB_spec.1 h3.1
      unfold vr; split <;> omega) (clB_strict h1)
    simpa using this
theorem alwL_spec (hv : 0 ≤ vars ∧ vars ≤ 6) : AllA vars (alwL vars w L) ∧ ascP (alwL vars w L) ∧ (alwL vars w L).length ≤ 729 := by
  have h1 : AllA vars (alwL vars w L) := AllA_mem.2 fun c hc => ((alwL_in hv).1 hc).1
  have h2 := (srtB_spec (allG_nodup L w vars vars.toNat 1 [] (by omega))).1
  exact ⟨h1, h2, fam_len hv h1 (ascP_M h2)⟩
theorem alwL_len : (alwL vars w L).length = (allG L w vars vars.toNat 1 [] []).length := by unfold alwL srtB; rw [List.length_mergeSort]
def qtOk (vars : Int) (L : List (List Int)) (w : Int) (a : List Int) : Bool := nwB vars L w && clB vars a && alB L w a && !decide (rnR vars w (alwL vars w L) a = 0)
def qtR (vars : Int) (L : List (List Int)) (w : Int) (a : List Int) : List (List Int) := if qtOk vars L w a then bfE vars w (alwL vars w L) a else []
theorem qtR_no (h : qtOk vars L w a = false) : qtR vars L w a = [] := by unfold qtR; rw [if_neg (by rw [h]; simp)]
theorem qtR_yes (h : qtOk vars L w a = true) : qtR vars L w a = bfE vars w (alwL vars w L) a := by unfold qtR; rw [if_pos h]
theorem qtOk_spec (h : qtOk vars L w a = true) : nwB vars L w = true ∧ clB vars a = true ∧ alB L w a = true := by
  unfold qtOk at h
  simp only [Bool.and_eq_true] at h
  exact ⟨h.1.1.1, h.1.1.2, h.1.2⟩
theorem qtR_good : (qtR vars L w a).length ≤ 729 ∧ ∀ x ∈ qtR vars L w a, clB vars x = true := by
  cases h : qtOk vars L w a with
  | false => rw [qtR_no h]; simp
  | true =>
    obtain ⟨h1, h2, h3⟩ := qtOk_spec h
    obtain ⟨h4, h5, h6, h7⟩ := nwB_spec h1
    have hv : 0 ≤ vars ∧ vars ≤ 6 := ⟨(cnfB_spec h4).1.1, h5⟩
    have hA := (alwL_spec (L := L) (w := w) hv).1
    have hg := bfE_good (vars := vars) (w := w) ((alwL_in hv).2 ⟨h2, h3⟩)
    rw [qtR_yes h]
    exact ⟨hg.len hv hA, fun x hx => AllA_mem.1 hA x (hg.2 x hx)⟩
theorem qtR_rows (vars : Int) (L : List (List Int)) (w : Int) (a : List Int) (i : Nat) : (gl (qtR vars L w a) i).length ≤ 12 := by
  rcases Nat.lt_or_ge i (qtR vars L w a).length with h | h
  · exact clB_len (qtR_good.2 _ (gl_mem h))
  · have e : gl (qtR vars L w a) i = [] := by unfold gl; rw [List.getElem?_eq_none h]; rfl
    rw [e]; simp
theorem tot_rows {M : List (List Int)} {b : Nat} (h : ∀ i, (gl M i).length ≤ b) : ∀ n, n ≤ M.length → tot M n ≤ n * b
  | 0, _ => by rw [tot_zero]; omega
  | n + 1, hn => by
    have := tot_rows h n (by omega)
    have := h n
    rw [tot_more (by omega), Nat.succ_mul]; omega
theorem qtR_tot (vars : Int) (L : List (List Int)) (w : Int) (a : List Int) : tot (qtR vars L w a) (qtR vars L w a).length ≤ 8748 := by
  have h1 := tot_rows (qtR_rows vars L w a) _ (Nat.le_refl _)
  have h2 := (qtR_good (vars := vars) (L := L) (w := w) (a := a)).1
  omega
theorem qtR_len (vars : Int) (L : List (List Int)) (w : Int) (a : List Int) : (qtR vars L w a).length ≤ 729 := qtR_good.1
end
end Go.Av
namespace Go.Av
open Go Go.Proofs Go.Sort
theorem hb27 : hasBody Tryz.prog 27 = true := by kernel_rfl
theorem hb28 : hasBody Tryz.prog 28 = true := by kernel_rfl
theorem hb30 : hasBody Tryz.prog 30 = true := by kernel_rfl
theorem hb33 : hasBody Tryz.prog 33 = true := by kernel_rfl
theorem hb36 : hasBody Tryz.prog 36 = true := by kernel_rfl
theorem copy10_c (M : List (List Int)) (hMl : M.length ≤ 1048576) (hrow : ∀ i, i < M.length → (gl M i).length ≤ 1048576) : ACall Tryz.prog 36 [.sl (sls M) M.length] [] (.osl 1 (osls M) M.length none) [] := by
 refine ACall.intro Tryz.func36 rfl (N := 21) rfl (by decide) (by simp) ?_
 refine aq ?_
 refine ra .nils ?_
 refine r_nil ?_
 refine aq ?_
 refine rn (v := .osl _ _ _ _) (q_sliceLit (n := 0) (parts := []) lt22 rfl rfl rfl rfl) ?_
 refine ra (.rsl _ _ _ _ _) ?_
 refine r_pre (ent_reloc_sl (t := 3) rfl rfl) ?_
 refine r_nil ?_
 refine a_seq ?_
 refine aq ?_
 refine ra (.int _ _) ?_
 refine r_nil ?_
 refine a_block ?_
 refine a_loop (X := Nat) (fun i => look [(0, .sl (sls M) M.length), (3, .osl 1 (osls (M.take i)) i none), (4, .int .i64 ((i : Nat) : Int))]) (fun i => i ≤ M.length) (fun i => M.length - i) 0 (ent_look ⟨wr, Weak.osl rfl rfl, wr, trivial⟩) (Nat.zero_le _) (fun i hG => ?_)
 refine a_seq ?_
 refine aq ?_
 refine rm (.int _ _) ?_
 refine rm (.sl _ _) ?_
 refine rv (v := .int _ _) (v_len_sl sl22 il) ?_
 refine rv (v := .bool _) (v_lss il il) ?_
 refine r_nil ?_
 refine a_cond rfl (fun ht9 => ?_) (fun ht9 => ?_)
 ·
  refine a_skip ?_
  refine a_seq ?_
  refine a_block ?_
  have hi : i < M.length := (by simp at ht9; omega)
  have hri := hrow i hi
  refine a_region ?_
  refine rm (.rsl _ _ _ _ _) ?_
  refine rm (.sl _ _) ?_
  refine rm (.int _ _) ?_
  refine rv (v := .pp _ _) (v_indexAddr_sl es22 il il (fun _ => ⟨by omega, by omega, sls_ne hi⟩)) ?_
  refine rv (v := .sl (icells (gl M i)) (gl M i).length) (v_load_pp ta25 il (fun _ => by rw [Nat.mul_one]; exact sls_get hi) rfl) ?_
  refine rn (v := .osl _ _ _ _) (q_call (vs := [.sl _ _]) (args := [.sl _ _]) hb32 ⟨il, trivial⟩ rfl (fun hA => l1Own_c (gl M i) (gl M i).length ⟨rfl, by omega⟩) (ic_noSh _) (ic_noRef _)) ?_
  refine r_step rfl (o_sliceLit1 (v := .osl _ _ _ _) rfl lt22 rfl rfl (by decide) (by decide) rfl rfl (by simp [cellsOf, noRefL, noRef, ic_noRef]) rfl rfl) ?_
  refine r_pre (ent_reloc_sl (t := 12) rfl rfl) ?_
  refine r_step rfl (o_append_own rfl ap22 rfl (by decide) (by decide) (by decide) (by decide) rfl rfl rfl (by rw [osls_length, List.length_take]; omega) rfl (by omega)) ?_
  refine ra (.rsl _ _ _ _ _) ?_
  refine r_pre (ent_reloc_sl (t := 3) rfl rfl) ?_
  refine r_nil ?_
  refine a_region ?_
  refine rm (.int _ _) ?_
  refine rv (v := .int _ _) (v_add il il (fun _ => by omega)) ?_
  refine ra (.int _ _) ?_
  refine r_nil ?_
  refine ⟨i + 1, ent_look ⟨wr, Weak.osl (by rw [take_gl hi, osls_append]; rfl) rfl, Weak.of_eq (int_eq (by omega)), trivial⟩, by omega, by omega⟩
 ·
  refine a_exit ?_
  refine aq ?_
  refine rm (.rsl _ _ _ _ _) ?_
  refine ra (.rsl _ _ _ _ _) ?_
  refine r_pre (ent_reloc_sl (t := 2) rfl rfl) ?_
  refine r_nil ?_
  refine a_ret ?_
  refine ret1 Tryz.results36 (by decide) (by decide) (Weak.osl ?_ ?_) rfl Leaves.nil
  all_goals (have hie : i = M.length := (by simp at ht9; omega); subst hie; first | rfl | rw [List.take_length])
theorem sQt_c (vars : Int) (L : List (List Int)) (hk : CnfOk vars L) (w : Int) (a : List Int) (hla : a.length ≤ 1048576) (hba : ∀ j, -9223372036854775808 ≤ gd a j ∧ gd a j ≤ 9223372036854775807) : ACall Tryz.prog 6 [.agg [.int .i64 vars, .sl (sls L) L.length], .int .i64 w, .sl (icells a) a.length] [] (.tup [.osl 1 (osls (qtR vars L w a)) (qtR vars L w a).length none, .bool (qtOk vars L w a)]) [] := by
 have hk2 := hk.2.1
 have hk1 := hk.1
 refine ACall.intro Tryz.func6 rfl (N := 95) rfl (by decide) (by simp) ?_
 refine aq ?_
 refine rn (v := .op [.int _ _, .sl _ _]) (q_box il rfl rfl) ?_
 refine ra .nils ?_
 refine ra (.bool _) ?_
 refine r_nil ?_
 refine a_seq ?_
 refine aq ?_
 refine rv (v := .agg [.int _ _, .sl _ _]) (v_load_rpa1 ta29 il rfl rfl (fun _ => rfl) rfl) ?_
 refine rm (.int _ _) ?_
 refine rn (v := .bool _) (q_call (vs := [.agg [.int _ _, .sl _ _], .int _ _]) (args := [.agg [.int .i64 _, .sl _ _], .int .i64 _]) hb27 ⟨il, il, trivial⟩ rfl (fun hA => asked13_c vars L hk w) rfl rfl) ?_
 refine rv (v := .bool _) (v_not il) ?_
 refine rm (.bool _) ?_
 refine rg (v := .rp _ _) (v_fieldAddr_rp fo29_0 il) ?_
 refine r_gval (v := .int _ _) (v_load_rp1 ta3 (.inr ⟨_, rfl, fun h => h⟩) rfl (fun _ => rfl) rfl) rfl rfl rfl (by decide) (.inl ⟨_, rfl, rfl⟩) rfl (by decide) ?_
 refine rg (v := .sl _ _) (v_move il nf) ?_
 refine r_guard (v := .bool _) (q_call (vs := [.int _ _, .sl _ _]) (args := [.int .i64 _, .sl _ _]) hb28 ⟨.inr ⟨_, rfl, fun h => h⟩, .inr ⟨_, rfl, fun h => h⟩, trivial⟩ rfl (fun hA => l3Good_c _ _ (by omega) (by omega) hba) rfl rfl) rfl rfl rfl (by decide) (.inl ⟨_, rfl, rfl⟩) rfl (by decide) ?_
 refine r_gval (v := .bool _) (v_not (.inr ⟨_, rfl, fun h => h⟩)) rfl rfl rfl (by decide) (.inl ⟨_, rfl, rfl⟩) rfl (by decide) ?_
 refine rv (v := .bool _) (v_pick (.inl rfl) (.inl rfl) (.inr ⟨_, rfl, fun h h2 => by simp_all⟩)) ?_
 refine rm (.bool _) ?_
 refine rg (v := .agg [.int _ _, .sl _ _]) (v_load_rpa1 ta29 il rfl rfl (fun _ => rfl) rfl) ?_
 refine rg (v := .int _ _) (v_move il nf) ?_
 refine rg (v := .sl _ _) (v_move il nf) ?_
 refine r_guard (v := .bool _) (q_call (vs := [.agg [.int _ _, .sl _ _], .int _ _, .sl _ _]) (args := [.agg [.int .i64 _, .sl _ _], .int .i64 _, .sl _ _]) hb29 ⟨.inr ⟨_, rfl, fun h => h⟩, .inr ⟨_, rfl, fun h => h⟩, .inr ⟨_, rfl, fun h => h⟩, trivial⟩ rfl (fun hA => allow13_c vars L a w (cnfB_spec (nwB_spec (show nwB vars L w = true by revert hA; cases nwB vars L w <;> simp)).1).2.2 hk2 hla (nwB_spec (show nwB vars L w = true by revert hA; cases nwB vars L w <;> simp)).2.2) rfl rfl) rfl rfl rfl (by decide) (.inl ⟨_, rfl, rfl⟩) rfl (by decide) ?_
 refine r_gval (v := .bool _) (v_not (.inr ⟨_, rfl, fun h => h⟩)) rfl rfl rfl (by decide) (.inl ⟨_, rfl, rfl⟩) rfl (by decide) ?_
 refine rv (v := .bool _) (v_pick (.inl rfl) (.inl rfl) (.inr ⟨_, rfl, fun h h2 => by simp_all⟩)) ?_
 refine r_nil ?_
 refine a_cond rfl (fun ht31 => ?_) (fun ht31 => ?_)
 ·
  refine aq ?_
  refine rn (v := .osl _ _ _ _) (q_sliceLit (n := 0) (parts := []) lt22 rfl rfl rfl rfl) ?_
  refine ra (.rsl _ _ _ _ _) ?_
  refine r_pre (ent_reloc_sl (t := 6) rfl rfl) ?_
  refine ra (.bool _) ?_
  refine r_nil ?_
  refine a_ret ?_
  refine retL (rs := [.tmp 6, .tmp 7]) [(6, .osl _ _ _ none), (7, _)] ⟨Weak.osl rfl rfl, wr, trivial⟩ rfl Tryz.results6 (by decide) ⟨by decide, by decide, rfl⟩ (by decide) (by decide) (l2_eq (osl_eq2 ?_ ?_) (bool_eq ?_)) (by simp [refsL, refs])
  all_goals (have hf : qtOk vars L w a = false := (by unfold qtOk; revert ht31; cases nwB vars L w <;> cases clB vars a <;> cases alB L w a <;> simp); first | exact hf.symm | (rw [qtR_no hf]; rfl))
 ·
  refine a_skip ?_
  refine a_seq ?_
  have hq3 : nwB vars L w = true ∧ clB vars a = true ∧ alB L w a = true := (by revert ht31; cases nwB vars L w <;> cases clB vars a <;> cases alB L w a <;> simp)
  obtain ⟨q1, q2, q3⟩ := hq3
  have q8 := nwB_spec q1
  have q9 := cnfB_spec q8.1
  have hv6 : 0 ≤ vars ∧ vars ≤ 6 := ⟨q9.1.1, q8.2.1⟩
  obtain ⟨hAA, hAs, hAl⟩ := alwL_spec (L := L) (w := w) hv6
  have haA := (alwL_in hv6).2 ⟨q2, q3⟩
  have hqo : qtOk vars L w a = !decide (rnR vars w (alwL vars w L) a = 0) := (by unfold qtOk; rw [q1, q2, q3]; rfl)
  have hqy : qtOk vars L w a = true → qtR vars L w a = bfE vars w (alwL vars w L) a := qtR_yes
  have hsh : ACall Tryz.prog 30 [.agg [.int .i64 vars, .sl (sls L) L.length], .int .i64 w] [] (.agg [.sl (sls (alwL vars w L)) (alwL vars w L).length, .sl (icells ((alwL vars w L).map (rdE vars w (alwL vars w L)))) (alwL vars w L).length, .sl (icells (ctE vars w (alwL vars w L))) (ctE vars w (alwL vars w L)).length, .sl (sls (shE vars w (alwL vars w L))) (shE vars w (alwL vars w L)).length]) [] := shrink13_c vars L w q9.2.2 hk2 q8.2.2 hv6
  generalize alwL vars w L = A at hAA hAs hAl haA hqo hqy hsh
  refine a_region ?_
  refine rv (v := .agg [.int _ _, .sl _ _]) (v_load_rpa1 ta29 il rfl rfl (fun _ => rfl) rfl) ?_
  refine rm (.int _ _) ?_
  refine rn (v := .agg [.sl _ _, .sl _ _, .sl _ _, .sl _ _]) (q_callF (vs := [.agg [.int _ _, .sl _ _], .int _ _]) (args := [.agg [.int .i64 _, .sl _ _], .int .i64 _]) hb30 ⟨il, il, trivial⟩ rfl (fun hA => hsh) rfl (by simp [noRef, noRefL])) ?_
  refine rn (v := .op [.nils, .nils, .nils, .nils]) (q_alloc zc55) ?_
  refine r_step rfl (o_store (v := .agg [.sl _ _, .sl _ _, .sl _ _, .sl _ _]) (y' := .op [.sl _ _, .sl _ _, .sl _ _, .sl _ _]) rfl rfl ta55 il il rfl rfl rfl rfl rfl rfl (Nat.le_of_ble_eq_true rfl) (by decide) rfl rfl) ?_
  refine r_nil ?_
  refine a_seq ?_
  refine aq ?_
  refine rv (v := .agg [.sl _ _, .sl _ _, .sl _ _, .sl _ _]) (v_load_rpa1 ta55 il rfl rfl (fun _ => rfl) rfl) ?_
  refine rm (.sl _ _) ?_
  refine rn (v := .int _ _) (q_call (vs := [.agg [.sl _ _, .sl _ _, .sl _ _, .sl _ _], .sl _ _]) (args := [.agg [.sl _ _, .sl _ _, .sl _ _, .sl _ _], .sl _ _]) hb31 ⟨il, il, trivial⟩ rfl (fun hA => round13_c vars w A hAA hAs hAl a q2) rfl rfl) ?_
  refine rv (v := .bool _) (v_eql il il) ?_
  refine r_nil ?_
  refine a_cond rfl (fun ht39 => ?_) (fun ht39 => ?_)
  ·
   refine aq ?_
   refine rn (v := .osl _ _ _ _) (q_sliceLit (n := 0) (parts := []) lt22 rfl rfl rfl rfl) ?_
   refine ra (.rsl _ _ _ _ _) ?_
   refine r_pre (ent_reloc_sl (t := 6) rfl rfl) ?_
   refine ra (.bool _) ?_
   refine r_nil ?_
   refine a_ret ?_
   refine retL (rs := [.tmp 6, .tmp 7]) [(6, .osl _ _ _ none), (7, _)] ⟨Weak.osl rfl rfl, wr, trivial⟩ rfl Tryz.results6 (by decide) ⟨by decide, by decide, rfl⟩ (by decide) (by decide) (l2_eq (osl_eq2 ?_ ?_) (bool_eq ?_)) (by simp [refsL, refs])
   all_goals (have hf : qtOk vars L w a = false := (by rw [hqo, show decide (rnR vars w A a = 0) = true by simpa using ht39]; rfl); first | exact hf.symm | (rw [qtR_no hf]; rfl))
  ·
   refine a_skip ?_
   refine a_seq ?_
   have hok : qtOk vars L w a = true := (by rw [hqo]; simpa using ht39)
   refine a_region ?_
   refine rm (.sl _ _) ?_
   refine rn (v := .sl (icells a) a.length) (QSem.cast (q_callZ (vs := [.sl _ _]) (args := [.sl _ _]) hb32 ⟨il, trivial⟩ rfl (fun hA => l1Own_c a a.length ⟨rfl, by omega⟩) (ic_noSh _) (ic_noRef _)) (sl_shZ (ic_pure _))) ?_
   refine rn (v := .osl _ _ _ _) (q_sliceLit (n := 1) (parts := [(0, .tmp 42)]) lt22 rfl rfl rfl rfl) ?_
   refine rm (.sl _ _) ?_
   refine rn (v := .sl (icells a) a.length) (QSem.cast (q_callZ (vs := [.sl _ _]) (args := [.sl _ _]) hb32 ⟨il, trivial⟩ rfl (fun hA => l1Own_c a a.length ⟨rfl, by omega⟩) (ic_noSh _) (ic_noRef _)) (sl_shZ (ic_pure _))) ?_
   refine rn (v := .sl (sls [a]) [a].length) ((q_sliceLitZ (n := 1) (parts := [(0, .tmp 45)]) lt22 rfl rfl rfl rfl).cast (by first | rfl | rw [shL_id _ (ic_pure _).1 (ic_pure _).2])) ?_
   refine ra (.rsl _ _ _ _ _) ?_
   refine r_pre (ent_reloc_sl (t := 9) rfl rfl) ?_
   refine ra (.sl _ _) ?_
   refine r_nil ?_
   refine a_seq ?_
   refine aq ?_
   refine ra (.int _ _) ?_
   refine r_nil ?_
   refine a_block ?_
   refine a_loop (X := Nat) (fun n => look [(1, .int .i64 w), (3, .op [.int .i64 vars, .sl (sls L) L.length]), (8, .op [.sl (sls A) A.length, .sl (icells (A.map (rdE vars w A))) A.length, .sl (icells (ctE vars w A)) (ctE vars w A).length, .sl (sls (shE vars w A)) (shE vars w A).length]), (9, .osl 1 (sls (bfS vars w A a n)) (bfS vars w A a n).length none), (10, .sl (sls (seenM (bfS vars w A a n))) (seenM (bfS vars w A a n)).length), (11, .int .i64 ((n : Nat) : Int))]) (fun n => n ≤ 730) (fun n => 730 - n) 0 (ent_look ⟨wr, wr, wr, Weak.osl rfl rfl, Weak.of_eq (by show _ = AV.sl (sls (seenM [a])) (seenM [a]).length; rw [seenM_one]; rfl), wr, trivial⟩) (Nat.zero_le _) (fun n hG => ?_)
   have hog := bfS_good (vars := vars) (w := w) haA n
   have hol := hog.len hv6 hAA
   have hsl := (seenM_spec (bfS vars w A a n)).2.2
   refine a_seq ?_
   refine aq ?_
   refine rm (.int _ _) ?_
   refine rm (.rsl _ _ _ _ _) ?_
   refine rv (v := .int _ _) (v_len_rsl sl22 il) ?_
   refine rv (v := .bool _) (v_lss il il) ?_
   refine r_nil ?_
   refine a_cond rfl (fun ht50 => ?_) (fun ht50 => ?_)
   ·
    refine a_skip ?_
    refine a_seq ?_
    refine a_block ?_
    refine a_seq ?_
    have hn : n < (bfS vars w A a n).length := (by simp at ht50; omega)
    have hbA := hog.2 _ (gl_mem hn)
    have hbc := AllA_mem.1 hAA _ hbA
    have hwl := whyR_len (vars := vars) (w := w) (A := A) (r := rnR vars w A (gl (bfS vars w A a n) n)) (a := (gl (bfS vars w A a n) n))
    refine a_region_any mixed (by kernel_rfl) ?_
    refine yv (v := .agg [.int _ _, .sl _ _]) (v_load_rpa1 ta29 il rfl rfl (fun _ => rfl) rfl) ?_
    refine yv (v := .int _ _) (v_move il nf) ?_
    refine yv (v := .agg [.sl _ _, .sl _ _, .sl _ _, .sl _ _]) (v_load_rpa1 ta55 il rfl rfl (fun _ => rfl) rfl) ?_
    refine yv (v := .rsl _ _ _ _ _) (v_move il nf) ?_
    refine yv (v := .int _ _) (v_move il nf) ?_
    refine yv (v := .rp _ _) (v_indexAddr_rsl0 es22 il il (fun _ => by omega)) ?_
    refine yv (v := .sl (icells (gl (bfS vars w A a n) n)) (gl (bfS vars w A a n) n).length) (v_load_rp1 ta25 il rfl (fun _ => by rw [Nat.mul_one]; exact sls_get hn) rfl) ?_
    refine yv (v := .agg [.sl _ _, .sl _ _, .sl _ _, .sl _ _]) (v_load_rpa1 ta55 il rfl rfl (fun _ => rfl) rfl) ?_
    refine yv (v := .rsl _ _ _ _ _) (v_move il nf) ?_
    refine yv (v := .int _ _) (v_move il nf) ?_
    refine yv (v := .rp _ _) (v_indexAddr_rsl0 es22 il il (fun _ => by omega)) ?_
    refine yv (v := .sl (icells (gl (bfS vars w A a n) n)) (gl (bfS vars w A a n) n).length) (v_load_rp1 ta25 il rfl (fun _ => by rw [Nat.mul_one]; exact sls_get hn) rfl) ?_
    refine y_new (v := .int _ _) (q_call (vs := [.agg [.sl _ _, .sl _ _, .sl _ _, .sl _ _], .sl _ _]) (args := [.agg [.sl _ _, .sl _ _, .sl _ _, .sl _ _], .sl _ _]) hb31 ⟨.inl rfl, .inl rfl, trivial⟩ rfl (fun hA => round13_c vars w A hAA hAs hAl (gl (bfS vars w A a n) n) hbc) rfl rfl) rfl rfl (by decide) (by kernel_rfl) ?_
    refine y_new (v := .sl _ _) (QSem.cast (q_callFZ (vs := [.agg [.int _ _, .sl _ _], .int _ _, .agg [.sl _ _, .sl _ _, .sl _ _, .sl _ _], .sl _ _, .int _ _]) (args := [.agg [.int .i64 _, .sl _ _], .int .i64 _, .agg [.sl _ _, .sl _ _, .sl _ _, .sl _ _], .sl _ _, .int .i64 _]) hb33 ⟨.inl rfl, .inl rfl, .inl rfl, .inl rfl, .inl rfl, trivial⟩ rfl (fun hA => why13_c L vars w A hAA hAs hAl (gl (bfS vars w A a n) n) hbc (rnR vars w A (gl (bfS vars w A a n) n))) rfl (by simp [noRef, noRefL, sls_noRef])) (sl_shZ (m := 1) (c := none) (sls_pure _))) rfl rfl (by decide) (by kernel_rfl) ?_
    refine yv (v := .sl _ _) (v_assign il nf) ?_
    refine y_nil ?_
    refine aq ?_
    refine ra (.int _ _) ?_
    refine r_nil ?_
    refine a_block ?_
    refine a_loop (X := Nat) (fun i => look [(1, .int .i64 w), (3, .op [.int .i64 vars, .sl (sls L) L.length]), (8, .op [.sl (sls A) A.length, .sl (icells (A.map (rdE vars w A))) A.length, .sl (icells (ctE vars w A)) (ctE vars w A).length, .sl (sls (shE vars w A)) (shE vars w A).length]), (9, .osl 1 (sls (adI (whyR vars w A (rnR vars w A (gl (bfS vars w A a n) n)) (gl (bfS vars w A a n) n)) (bfS vars w A a n) i)) (adI (whyR vars w A (rnR vars w A (gl (bfS vars w A a n) n)) (gl (bfS vars w A a n) n)) (bfS vars w A a n) i).length none), (10, .sl (sls (seenM (adI (whyR vars w A (rnR vars w A (gl (bfS vars w A a n) n)) (gl (bfS vars w A a n) n)) (bfS vars w A a n) i))) (seenM (adI (whyR vars w A (rnR vars w A (gl (bfS vars w A a n) n)) (gl (bfS vars w A a n) n)) (bfS vars w A a n) i)).length), (11, .int .i64 ((n : Nat) : Int)), (12, .sl (sls (whyR vars w A (rnR vars w A (gl (bfS vars w A a n) n)) (gl (bfS vars w A a n) n))) (whyR vars w A (rnR vars w A (gl (bfS vars w A a n) n)) (gl (bfS vars w A a n) n)).length), (13, .int .i64 ((i : Nat) : Int))]) (fun i => i ≤ (whyR vars w A (rnR vars w A (gl (bfS vars w A a n) n)) (gl (bfS vars w A a n) n)).length) (fun i => (whyR vars w A (rnR vars w A (gl (bfS vars w A a n) n)) (gl (bfS vars w A a n) n)).length - i) 0 (ent_look ⟨wr, wr, wr, Weak.osl (by rw [adI_zero]) (by rw [adI_zero]), Weak.of_eq (by rw [adI_zero]; rfl), wr, wr, wr, trivial⟩) (Nat.zero_le _) (fun i hG => ?_)
    refine a_seq ?_
    refine aq ?_
    refine rm (.int _ _) ?_
    refine rm (.sl _ _) ?_
    refine rv (v := .int _ _) (v_len_sl sl22 il) ?_
    refine rv (v := .bool _) (v_lss il il) ?_
    refine r_nil ?_
    refine a_cond rfl (fun ht70 => ?_) (fun ht70 => ?_)
    ·
     refine a_skip ?_
     refine a_seq ?_
     refine a_block ?_
     refine a_seq ?_
     have hi : i < (whyR vars w A (rnR vars w A (gl (bfS vars w A a n) n)) (gl (bfS vars w A a n) n)).length := (by simp at ht70; omega)
     have hbm : (gl (whyR vars w A (rnR vars w A (gl (bfS vars w A a n) n)) (gl (bfS vars w A a n) n)) i) ∈ A := whyR_mem (gl_mem hi)
     have hbk := AllA_mem.1 hAA _ hbm
     have hgo := hog.ad (fun b hb => whyR_mem hb) (W := (whyR vars w A (rnR vars w A (gl (bfS vars w A a n) n)) (gl (bfS vars w A a n) n))) i
     have hgl := hgo.len hv6 hAA
     have hse := seenM_spec (adI (whyR vars w A (rnR vars w A (gl (bfS vars w A a n) n)) (gl (bfS vars w A a n) n)) (bfS vars w A a n) i)
     have hse3 := hse.2.2
     have hsA : AllA vars (seenM (adI (whyR vars w A (rnR vars w A (gl (bfS vars w A a n) n)) (gl (bfS vars w A a n) n)) (bfS vars w A a n) i)) := AllA_mem.2 fun c hc => AllA_mem.1 hAA c (hgo.2 c ((hse.2.1 c).1 hc))
     refine a_region ?_
     refine rm (.sl _ _) ?_
     refine rm (.sl _ _) ?_
     refine rm (.int _ _) ?_
     refine rv (v := .pp _ _) (v_indexAddr_sl es22 il il (fun _ => ⟨by omega, by omega, sls_ne hi⟩)) ?_
     refine rv (v := .sl (icells (gl (whyR vars w A (rnR vars w A (gl (bfS vars w A a n) n)) (gl (bfS vars w A a n) n)) i)) (gl (whyR vars w A (rnR vars w A (gl (bfS vars w A a n) n)) (gl (bfS vars w A a n) n)) i).length) (v_load_pp ta25 il (fun _ => by rw [Nat.mul_one]; exact sls_get hi) rfl) ?_
     refine rn (v := .int _ _) (q_call (vs := [.sl _ _, .sl _ _]) (args := [.sl _ _, .sl _ _]) hb34 ⟨il, il, trivial⟩ rfl (fun hA => at2_c vars (seenM (adI (whyR vars w A (rnR vars w A (gl (bfS vars w A a n) n)) (gl (bfS vars w A a n) n)) (bfS vars w A a n) i)) (gl (whyR vars w A (rnR vars w A (gl (bfS vars w A a n) n)) (gl (bfS vars w A a n) n)) i) (by omega) hsA (ascP_M hse.1) hbk) rfl rfl) ?_
     refine rv (v := .bool _) (v_lss il il) ?_
     refine r_nil ?_
     refine a_cond rfl (fun ht79 => ?_) (fun ht79 => ?_)
     ·
      refine aq ?_
      refine rm (.sl _ _) ?_
      refine rm (.sl _ _) ?_
      refine rm (.int _ _) ?_
      refine rv (v := .pp _ _) (v_indexAddr_sl es22 il il (fun _ => ⟨by omega, by omega, sls_ne hi⟩)) ?_
      refine rv (v := .sl (icells (gl (whyR vars w A (rnR vars w A (gl (bfS vars w A a n) n)) (gl (bfS vars w A a n) n)) i)) (gl (whyR vars w A (rnR vars w A (gl (bfS vars w A a n) n)) (gl (bfS vars w A a n) n)) i).length) (v_load_pp ta25 il (fun _ => by rw [Nat.mul_one]; exact sls_get hi) rfl) ?_
      refine rn (v := .sl _ _) (q_callF (vs := [.sl _ _, .sl _ _]) (args := [.sl _ _, .sl _ _]) hb35 ⟨il, il, trivial⟩ rfl (fun hA => ins2_c vars (seenM (adI (whyR vars w A (rnR vars w A (gl (bfS vars w A a n) n)) (gl (bfS vars w A a n) n)) (bfS vars w A a n) i)) (gl (whyR vars w A (rnR vars w A (gl (bfS vars w A a n) n)) (gl (bfS vars w A a n) n)) i) (by omega) hsA (ascP_M hse.1) hbk) rfl rfl) ?_
      refine ra (.sl _ _) ?_
      refine r_nil ?_
      refine a_region ?_
      refine rm (.rsl _ _ _ _ _) ?_
      refine rm (.sl _ _) ?_
      refine rm (.int _ _) ?_
      refine rv (v := .pp _ _) (v_indexAddr_sl es22 il il (fun _ => ⟨by omega, by omega, sls_ne hi⟩)) ?_
      refine rv (v := .sl (icells (gl (whyR vars w A (rnR vars w A (gl (bfS vars w A a n) n)) (gl (bfS vars w A a n) n)) i)) (gl (whyR vars w A (rnR vars w A (gl (bfS vars w A a n) n)) (gl (bfS vars w A a n) n)) i).length) (v_load_pp ta25 il (fun _ => by rw [Nat.mul_one]; exact sls_get hi) rfl) ?_
      refine rn (v := .osl 1 [.sl (icells (gl (whyR vars w A (rnR vars w A (gl (bfS vars w A a n) n)) (gl (bfS vars w A a n) n)) i)) (gl (whyR vars w A (rnR vars w A (gl (bfS vars w A a n) n)) (gl (bfS vars w A a n) n)) i).length] 1 (some 1)) (q_sliceLit (n := 1) (parts := [(0, .tmp 90)]) lt22 rfl rfl rfl rfl) ?_
      refine r_pre (ent_reloc_sl (t := 86) rfl rfl) ?_
      refine r_step rfl (o_append rfl ap22 rfl (by decide) (by decide) rfl (src_lit (.inl rfl) rfl rfl rfl) rfl (by rw [sls_length]; omega) (by omega)) ?_
      refine ra (.rsl _ _ _ _ _) ?_
      refine r_pre (ent_reloc_sl (t := 9) rfl rfl) ?_
      refine r_nil ?_
      refine a_region ?_
      refine rm (.int _ _) ?_
      refine rv (v := .int _ _) (v_add il il (fun _ => by omega)) ?_
      refine ra (.int _ _) ?_
      refine r_nil ?_
      have hnm : ¬ (gl (whyR vars w A (rnR vars w A (gl (bfS vars w A a n) n)) (gl (bfS vars w A a n) n)) i) ∈ (adI (whyR vars w A (rnR vars w A (gl (bfS vars w A a n) n)) (gl (bfS vars w A a n) n)) (bfS vars w A a n) i) := (by rw [atL_neg (ascP_M hse.1)] at ht79; intro h; have := (hse.2.1 _).2 h; simp [this] at ht79)
      refine ⟨i + 1, ent_look ⟨wr, wr, wr, Weak.osl (by rw [adI_succ hi, addN_out hnm, sls_append]; rfl) (by rw [adI_succ hi, addN_out hnm]; simp), Weak.of_eq (by rw [adI_succ hi, addN_out hnm, seenM_add]; rfl), wr, wr, Weak.of_eq (int_eq (by omega)), trivial⟩, by omega, by omega⟩
     ·
      refine a_skip ?_
      refine a_region ?_
      refine rm (.int _ _) ?_
      refine rv (v := .int _ _) (v_add il il (fun _ => by omega)) ?_
      refine ra (.int _ _) ?_
      refine r_nil ?_
      have hmm : (gl (whyR vars w A (rnR vars w A (gl (bfS vars w A a n) n)) (gl (bfS vars w A a n) n)) i) ∈ (adI (whyR vars w A (rnR vars w A (gl (bfS vars w A a n) n)) (gl (bfS vars w A a n) n)) (bfS vars w A a n) i) := (by rw [atL_neg (ascP_M hse.1)] at ht79; refine (hse.2.1 _).1 ?_; simpa using ht79)
      refine ⟨i + 1, ent_look ⟨wr, wr, wr, Weak.osl (by rw [adI_succ hi, addN_in hmm]) (by rw [adI_succ hi, addN_in hmm]), Weak.of_eq (by rw [adI_succ hi, addN_in hmm]; rfl), wr, wr, Weak.of_eq (int_eq (by omega)), trivial⟩, by omega, by omega⟩
    ·
     refine a_exit ?_
     have hie : i = (whyR vars w A (rnR vars w A (gl (bfS vars w A a n) n)) (gl (bfS vars w A a n) n)).length := (by simp at ht70; omega)
     subst hie
     refine a_region ?_
     refine rm (.int _ _) ?_
     refine rv (v := .int _ _) (v_add il il (fun _ => by omega)) ?_
     refine ra (.int _ _) ?_
     refine r_nil ?_
     refine ⟨n + 1, ent_look ⟨wr, wr, wr, Weak.osl (by rw [bfS_step hn, ← adI_end]) (by rw [bfS_step hn, ← adI_end]), Weak.of_eq (by rw [bfS_step hn, ← adI_end]; rfl), Weak.of_eq (int_eq (by omega)), trivial⟩, by omega, by omega⟩
   ·
    refine a_exit ?_
    refine a_seq ?_
    have hln : (bfS vars w A a n).length ≤ n := (by simp at ht50; omega)
    have hfin := bfE_of (by omega) hln
    have hfg := hog
    refine a_region ?_
    refine rm (.rsl _ _ _ _ _) ?_
    refine rn (v := .osl _ _ _ _) (q_call (vs := [.rsl _ _ _ _ _]) (args := [.sl _ _]) hb36 ⟨il, trivial⟩ (l1_eq (sl_sh (sls_pure _))) (fun hA => copy10_c (bfS vars w A a n) (by omega) (fun i hi => by have := clB_len (AllA_mem.1 hAA _ (hfg.2 _ (gl_mem hi))); omega)) (by simp [noSh, noShL, osls_noSh]) (by simp [noRef, noRefL, osls_noRef])) ?_
    refine ra (.rsl _ _ _ _ _) ?_
    refine r_pre (ent_reloc_sl (t := 6) rfl rfl) ?_
    refine ra (.bool _) ?_
    refine r_nil ?_
    refine a_ret ?_
    refine retL (rs := [.tmp 6, .tmp 7]) [(6, .osl _ _ _ none), (7, _)] ⟨Weak.osl rfl rfl, wr, trivial⟩ rfl Tryz.results6 (by decide) ⟨by decide, by decide, rfl⟩ (by decide) (by decide) (l2_eq (osl_eq2 ?_ ?_) (bool_eq ?_)) (by simp [refsL, refs])
    all_goals (first | exact hok.symm | (rw [hqy hok, hfin]))
end Go.Av
