/- Lemmas, part 6. -/
import Derived.Test.YtmoncdcidlinfaaGreatA5
import Derived.RangeFuncLeaves
import Derived.RangeFuncRecord
import Derived.RangeFuncSeq
import Derived.RangeFuncBound
import Derived.RangeFuncBox
import Derived.Shelf.Abstract
import Derived.WalkKit
import Derived.OwnWalkIn
import Derived.TacticsInMore
import Derived.LoopNIn
import Derived.LoopIn
import Derived.Test.YtmoncdcidlinfaaGreatProg
set_option linter.unusedVariables false
set_option linter.unusedSimpArgs false
namespace Go.Av
open Go
section
variable {e : Ctx} {σ σ' : Sig} {val val' : Nat → Value} {w w' : World} {β β' : Place → Option (Nat × Nat)} {F F' : Nat → Prop} {ds : List Deferred}
def Ctx.here (w : World) (σ : Sig) (β : Place → Option (Nat × Nat)) (F : Nat → Prop) (ds : List Deferred) : Ctx := ⟨w, fun b => ∃ q s, OwnAt σ q ∧ β q = some (b, s), F, ds⟩
theorem Inv.here (h : Inv e σ val w β F) (ds : List Deferred) : Inv (Ctx.here w σ β F ds) σ val w β F where
  rep := h.rep
  disj := h.disj
  sep q b s hq hb := ⟨(h.sep q b s hq hb).1, .inr ⟨q, s, hq, hb⟩⟩
  fr b hb := ⟨(h.fr b hb).1, fun _ => hb⟩
  kept _ _ _ := rfl
  grow := Nat.le_refl _
  tame := Tame.refl' w fun b arr t fz ⟨q, s, hq, hb⟩ hh => h.tame.2.2 b arr t fz (h.sep q b s hq hb).2 hh
theorem Inv.unbase (h : Inv e σ val w β F) (h' : Inv (Ctx.here w σ β F ds) σ' val' w' β' F') : Inv e σ' val' w' β' F' where
  rep := h'.rep
  disj := h'.disj
  sep q b s hq hb := ⟨(h'.sep q b s hq hb).1, by
    rcases (h'.sep q b s hq hb).2 with hl | ⟨q0, s0, ho, hb0⟩
    · exact .inl (Nat.le_trans h.grow hl)
    · exact (h.sep q0 b s0 ho hb0).2⟩
  fr b hb := ⟨(h'.fr b hb).1, fun hlt => (h.fr b ((h'.fr b hb).2 (Nat.lt_of_lt_of_le hlt h.grow))).2 hlt⟩
  kept b hb hi := (h'.kept b (Nat.lt_of_lt_of_le hb h.grow) fun ⟨q, s, ho, hb0⟩ => by
    rcases (h.sep q b s ho hb0).2 with hl | hl
    · omega
    · exact hi hl).trans (h.kept b hb hi)
  grow := Nat.le_trans h.grow h'.grow
  tame := h.tame.trans' h'.tame fun b hb hn => h'.kept b hb hn
theorem Inv.own_cells (h : Inv e σ val w β F) {q : Place} {b s : Nat} (ho : OwnAt σ q) (hb : β q = some (b, s)) : ∃ arr t fz, w.heap[b]? = some (.cells arr t fz) := by
  obtain ⟨x, hx, ho⟩ := ho
  obtain ⟨u, hu⟩ := (h.rep q.1).sub hx
  have hb' : β (q.1, [] ++ q.2) = some (b, s) := by simpa using hb
  cases x <;> simp [AV.isOwn] at ho <;> simp only [Rep] at hu
  · rcases hu with ⟨h0, _⟩ | ⟨_, b', _, _, _, h0, _, _, _, hh, _⟩
    · rw [h0] at hb'; cases hb'
    · rw [h0] at hb'; cases hb'; exact ⟨_, _, _, hh⟩
  · obtain ⟨_, b', _, _, h0, _, hh, _⟩ := hu
    rw [h0] at hb'; cases hb'; exact ⟨_, _, _, hh⟩
def nonCells : Obj → Prop
  | .cells .. => False
  | _ => True
theorem Inv.kept_other (h : Inv e σ val w β F) (h' : Inv (Ctx.here w σ β F ds) σ' val' w' β' F') {b : Nat} {o : Obj} (ho : w.heap[b]? = some o) (hc : nonCells o) : w'.heap[b]? = some o := by
  have hlt : b < w.heap.size := (Array.getElem?_eq_some_iff.1 ho).1
  refine (h'.kept b hlt fun ⟨q, s, hq, hb⟩ => ?_).trans ho
  obtain ⟨arr, t, fz, hh⟩ := h.own_cells hq hb
  rw [ho] at hh; cases hh; exact hc
theorem Inv.kept_fr (h : Inv e σ val w β F) (h' : Inv (Ctx.here w σ β F ds) σ' val' w' β' F') {b : Nat} (hF : F b) : w'.heap[b]? = w.heap[b]? :=
  h'.kept b (h.fr b hF).1 fun ⟨q, s, hq, hb⟩ => (h.sep q b s hq hb).1 hF
theorem Inv.unionF (h : Inv e σ val w β F) (h' : Inv (Ctx.here w σ β F ds) σ' val' w' β' F') : Inv (Ctx.here w σ β F ds) σ' val' w' β' (fun b => F' b ∨ F b) :=
  h'.moreF (fun b hb => .inl hb) (fun b hb => by
    rcases hb with hb | hb
    · exact h'.fr b hb
    · exact ⟨Nat.lt_of_lt_of_le (h.fr b hb).1 h'.grow, fun _ => hb⟩) (fun q b s hq hb hF => by
    rcases hF with hF | hF
    · exact (h'.sep q b s hq hb).1 hF
    · rcases (h'.sep q b s hq hb).2 with hl | ⟨q0, s0, ho, hb0⟩
      · have := (h.fr b hF).1
        exact Nat.lt_irrefl _ (Nat.lt_of_lt_of_le this hl)
      · exact (h.sep q0 b s0 ho hb0).1 hF)
theorem here_fr (h' : Inv (Ctx.here w σ β F ds) σ' val' w' β' F') {b : Nat} (hlt : b < w.heap.size) (hF : ¬ F b) : ¬ F' b := fun hb => hF ((h'.fr b hb).2 hlt)
theorem Inv.putObj (h : Inv e σ val w β F) {l : Nat} {o o' : Obj} (hl : w.heap[l]? = some o) (hc : nonCells o) (hc' : nonCells o') (hF : ¬ F l) (hk : e.w0.heap.size ≤ l) : Inv e σ val (w.putObj l o') β F := by
  have hlt : l < w.heap.size := (Array.getElem?_eq_some_iff.1 hl).1
  refine h.ext (fun b hb => World.putObj_heap_other (fun e => by subst e; exact hF hb)) (fun q b s hq hb => World.putObj_heap_other fun e => ?_) (fun b hb _ => World.putObj_heap_other (by omega)) (by simp) ?_
  · subst e
    obtain ⟨arr, t, fz, hh⟩ := h.own_cells hq hb
    rw [hl] at hh; cases hh; exact hc
  · refine ⟨h.tame.1, h.tame.2.1, fun b arr t fz hb hh => ?_⟩
    by_cases hbl : b = l
    · subst hbl
      rw [World.putObj_heap_same hlt] at hh
      cases hh; exact hc'.elim
    · rw [World.putObj_heap_other hbl] at hh
      exact h.tame.2.2 b arr t fz hb hh
def mvSig (s d : Nat) (σ : Sig) : Sig := fun i => if i = d then σ s else if i = s then refd (d, []) (σ s) else purgeV s (purgeV d (σ i))
theorem purge_own {d : Nat} {x : AV} {r : List Nat} {y : AV} (hy : node (purgeV d x) r = some y) (ho : y.isOwn = true) : node x r = some y := by
  rw [purgeV_eq] at hy
  split at hy
  · cases r with
    | nil => simp [node] at hy; subst hy; simp [AV.isOwn] at ho
    | cons j r => simp [node, kids] at hy
  · exact hy
theorem Inv.mv (h : Inv e σ val w β F) {s d : Nat} (hne : s ≠ d) (hv : val d = val s) (hnr : noRef (σ s) = true) : ∃ β', Inv e (mvSig s d σ) val w β' F := by
  have hφ : ∀ q, OwnAt (mvSig s d σ) q → OwnAt σ (if q.1 = d then (s, q.2) else q) ∧ (q.1 ≠ s) := fun q ⟨y, hy, ho⟩ => by
    unfold mvSig at hy
    by_cases h1 : q.1 = d
    · rw [if_pos h1] at hy ⊢; exact ⟨⟨y, hy, ho⟩, by omega⟩
    · rw [if_neg h1] at hy ⊢
      by_cases h2 : q.1 = s
      · rw [if_pos h2] at hy; rw [noOwn_refd _ _ _ _ hy] at ho; cases ho
      · rw [if_neg h2] at hy; exact ⟨⟨y, purge_own (purge_own hy ho) ho, ho⟩, h2⟩
  refine ⟨fun q => β (if q.1 = d then (s, q.2) else q), fun i => ?_, fun q q' b m m' hq hq' hb hb' => ?_, fun q b m hq hb => h.sep _ b m (hφ q hq).1 hb, h.fr, h.kept, h.grow, h.tame⟩
  · have hd : Rep (fun q => β (if q.1 = d then (s, q.2) else q)) F w (σ s) (d, []) (val s) := by
      refine (h.rep s).tr _ (fun b hb => ⟨hb, rfl⟩) (fun r y _ _ => ⟨by simp, fun _ _ _ => rfl⟩) (fun q hq => by rw [refs_of_noRef _ hnr] at hq; cases hq)
    unfold mvSig
    by_cases h1 : i = d
    · subst h1; rw [if_pos rfl, hv]; exact hd
    · rw [if_neg h1]
      by_cases h2 : i = s
      · subst h2; rw [if_pos rfl]; exact hd.refd
      · rw [if_neg h2]
        have h3 : Rep β F w (purgeV s (purgeV d (σ i))) (i, []) (val i) := ((h.purge d).purge s).rep i
        refine h3.tr _ (fun b hb => ⟨hb, rfl⟩) (fun r y _ _ => ⟨by simp [h1], fun _ _ _ => rfl⟩) (fun q hq => ?_)
        have h4 : q.1 ≠ d := by
          rw [purgeV_eq] at hq
          split at hq
          · simp [refs] at hq
          · exact refs_purge q hq
        simp [h4]
  · have h1 := h.disj _ _ b m m' (hφ q hq).1 (hφ q' hq').1 hb hb'
    have h2 := (hφ q hq).2
    have h3 := (hφ q' hq').2
    obtain ⟨q1, q2⟩ := q
    obtain ⟨p1, p2⟩ := q'
    dsimp only at h1 h2 h3
    by_cases ha : q1 = d <;> by_cases hb : p1 = d
    · rw [if_pos ha, if_pos hb] at h1; rw [ha, hb]; exact congrArg (Prod.mk d) (congrArg Prod.snd h1)
    · rw [if_pos ha, if_neg hb] at h1; exact absurd (congrArg Prod.fst h1).symm h3
    · rw [if_neg ha, if_pos hb] at h1; exact absurd (congrArg Prod.fst h1) h2
    · rw [if_neg ha, if_neg hb] at h1; exact h1
end
def LND : Nat := 2000000
def cutS (σ : Sig) : Sig := fun i => if i < LND then σ i else .undef
def lendS : List Nat → Sig → Sig
  | [], σ => σ
  | s :: S, σ => lendS S (mvSig s (LND + s) σ)
def lendOk (N : Nat) : List Nat → Sig → Bool
  | [], _ => true
  | s :: S, σ => decide (s < N) && noRef (σ s) && lendOk N S (mvSig s (LND + s) σ)
def unlendS : List Nat → Sig → Sig
  | [], σ => σ
  | s :: S, σ => unlendS S (mvSig (LND + s) s σ)
def unlendOk (N : Nat) : List Nat → Sig → Bool
  | [], _ => true
  | s :: S, σ => decide (s < N) && noRef (σ (LND + s)) && unlendOk N S (mvSig (LND + s) s σ)
def gvL (N : Nat) (gv : Nat → Value) (a : Act) : Nat → Value := fun j => if LND ≤ j ∧ j - LND < N then a.tmps.getD (j - LND) undef else gv j
section
variable {N : Nat} {e : Ctx} {σ σ' : Sig} {w w' : World} {β β' : Place → Option (Nat × Nat)} {F F' : Nat → Prop} {gv : Nat → Value} {a a' : Act}
theorem gvL_link (hN : N ≤ INH) {s : Nat} (hs : s < N) : valOf N (gvL N gv a) a (LND + s) = valOf N (gvL N gv a) a s := by
  have h1 : ¬ LND + s < N := by simp [LND, INH] at *; omega
  simp only [valOf, if_neg h1, if_pos hs, gvL, Nat.le_add_right, Nat.add_sub_cancel_left, hs, and_self, if_true]
theorem own_cut {q : Place} (h : OwnAt (cutS σ) q) : OwnAt σ q := by
  obtain ⟨y, hy, ho⟩ := h
  unfold cutS at hy
  split at hy
  · exact ⟨y, hy, ho⟩
  · cases hr : q.2 with
    | nil => rw [hr] at hy; simp [node] at hy; subst hy; simp [AV.isOwn] at ho
    | cons j r => rw [hr] at hy; simp [node, kids] at hy
theorem Inv.cutG (h : Inv e σ (valOf N gv a) w β F) {gv' : Nat → Value} (hg : ∀ i, i < LND → gv' i = gv i) : Inv e (cutS σ) (valOf N gv' a) w β F := by
  refine ⟨fun i => ?_, fun q q' b s s' hq hq' => h.disj q q' b s s' (own_cut hq) (own_cut hq'), fun q b s hq => h.sep q b s (own_cut hq), h.fr, h.kept, h.grow, h.tame⟩
  unfold cutS
  by_cases hi : i < LND
  · rw [if_pos hi]
    have : valOf N gv' a i = valOf N gv a i := by
      simp only [valOf]; split
      · rfl
      · exact hg i hi
    rw [this]; exact h.rep i
  · rw [if_neg hi]; simp [Rep]
theorem gvL_lt {i : Nat} (h : i < LND) : gvL N gv a i = gv i := by unfold gvL; rw [if_neg (by omega)]
theorem Inv.lend (hN : N ≤ INH) : ∀ {S : List Nat} {σ : Sig} {β : Place → Option (Nat × Nat)}, lendOk N S σ = true → Inv e σ (valOf N (gvL N gv a) a) w β F → ∃ β', Inv e (lendS S σ) (valOf N (gvL N gv a) a) w β' F
  | [], _, β, _, h => ⟨β, h⟩
  | s :: S, σ, β, hk, h => by
    simp only [lendOk, Bool.and_eq_true, decide_eq_true_eq] at hk
    obtain ⟨β1, h1⟩ := h.mv (s := s) (d := LND + s) (fun h => by unfold LND at h; omega) (gvL_link hN hk.1.1) hk.1.2
    exact Inv.lend (S := S) hN hk.2 h1
theorem Inv.unlend (hN : N ≤ INH) : ∀ {S : List Nat} {σ : Sig} {β : Place → Option (Nat × Nat)}, unlendOk N S σ = true → Inv e σ (valOf N (gvL N gv a) a) w β F → ∃ β', Inv e (unlendS S σ) (valOf N (gvL N gv a) a) w β' F
  | [], _, β, _, h => ⟨β, h⟩
  | s :: S, σ, β, hk, h => by
    simp only [unlendOk, Bool.and_eq_true, decide_eq_true_eq] at hk
    obtain ⟨β1, h1⟩ := h.mv (s := LND + s) (d := s) (fun h => by unfold LND at h; omega) (gvL_link hN hk.1.1).symm hk.1.2
    exact Inv.unlend (S := S) hN hk.2 h1
def BaseOk (N : Nat) (τ : Sig) : List (Nat × AV) → Prop
  | [] => True
  | (i, v) :: L => (i < N ∧ (pureV v = true ∨ v = refd (LND + i, []) (τ (LND + i)))) ∧ BaseOk N τ L
theorem BaseOk.get {τ : Sig} : ∀ {L : List (Nat × AV)}, BaseOk N τ L → ∀ i, (look L i = .undef ∧ True) ∨ (i < N ∧ (pureV (look L i) = true ∨ look L i = refd (LND + i, []) (τ (LND + i))))
  | [], _, i => .inl ⟨rfl, trivial⟩
  | (d, v) :: L, h, i => by
    obtain ⟨⟨h1, h2⟩, h3⟩ := h
    simp only [look, upd]
    split
    · rename_i he; subst he; exact .inr ⟨h1, h2⟩
    · exact h3.get i
def keysFrom (N : Nat) : List (Nat × AV) → Bool
  | [] => true
  | (i, _) :: L => decide (N ≤ i) && keysFrom N L
def keysBelow (N : Nat) : List (Nat × AV) → Bool
  | [] => true
  | (i, _) :: L => decide (i < N) && keysBelow N L
theorem look_from : ∀ {L : List (Nat × AV)}, keysFrom N L = true → ∀ i, i < N → look L i = .undef
  | [], _, _, _ => rfl
  | (d, v) :: L, h, i, hi => by
    simp only [keysFrom, Bool.and_eq_true, decide_eq_true_eq] at h
    simp only [look, upd]
    rw [if_neg (by omega)]
    exact look_from h.2 i hi
theorem BaseOk.below {τ : Sig} : ∀ {L : List (Nat × AV)}, BaseOk N τ L → keysBelow N L = true
  | [], _ => rfl
  | (d, v) :: L, h => by
    obtain ⟨⟨h1, _⟩, h3⟩ := h
    simp only [keysBelow, Bool.and_eq_true, decide_eq_true_eq]
    exact ⟨h1, h3.below⟩
theorem look_app_lt : ∀ {L M : List (Nat × AV)} {i : Nat}, look M i = .undef → look (L ++ M) i = look L i
  | [], _, _, h => h
  | (d, v) :: L, M, i, h => by
    simp only [List.cons_append, look, upd]
    split
    · rfl
    · exact look_app_lt h
theorem look_app_ge : ∀ {L M : List (Nat × AV)} {i : Nat}, keysBelow N L = true → N ≤ i → look (L ++ M) i = look M i
  | [], _, _, _, _ => rfl
  | (d, v) :: L, M, i, h, hi => by
    simp only [keysBelow, Bool.and_eq_true, decide_eq_true_eq] at h
    simp only [List.cons_append, look, upd]
    rw [if_neg (by omega)]
    exact look_app_ge h.2 hi
theorem node_undef {r : List Nat} {y : AV} (h : node .undef r = some y) : y = .undef := by
  cases r with
  | nil => simpa [node] using h.symm
  | cons j r => simp [node, kids] at h
theorem own_base {τ : Sig} {LB LP : List (Nat × AV)} (hB : BaseOk N τ LB) (hP : keysFrom N LP = true) {q : Place} (h : OwnAt (look (LB ++ LP)) q) : OwnAt (look LP) q := by
  obtain ⟨y, hy, ho⟩ := h
  rcases Nat.lt_or_ge q.1 N with hq | hq
  · rw [look_app_lt (look_from hP _ hq)] at hy
    rcases hB.get q.1 with ⟨h1, _⟩ | ⟨_, h1 | h1⟩
    · rw [h1] at hy; rw [node_undef hy] at ho; cases ho
    · rw [pure_own h1 hy] at ho; cases ho
    · rw [h1] at hy; rw [noOwn_refd _ _ _ _ hy] at ho; cases ho
  · rw [look_app_ge hB.below hq] at hy; exact ⟨y, hy, ho⟩
theorem Inv.reframe (hN : N ≤ INH) {LB LP LP' : List (Nat × AV)} (hB : BaseOk N (look LP) LB) (hB' : BaseOk N (look LP') LB) (hP : keysFrom N LP = true) (hP' : keysFrom N LP' = true)
    (h : Inv e (look (LB ++ LP)) (valOf N (gvL N gv a) a) w β F) (h' : Inv e (look LP') (valOf N (gvL N gv a) a') w' β' F') (hF : ∀ b, F b → F' b ∧ w'.heap[b]? = w.heap[b]?) :
    Inv e (look (LB ++ LP')) (valOf N (gvL N gv a) a) w' β' F' := by
  refine ⟨fun i => ?_, fun q q' b s s' hq hq' => h'.disj q q' b s s' (own_base hB' hP' hq) (own_base hB' hP' hq'), fun q b s hq => h'.sep q b s (own_base hB' hP' hq), h'.fr, h'.kept, h'.grow, h'.tame⟩
  rcases Nat.lt_or_ge i N with hi | hi
  · rw [look_app_lt (look_from hP' _ hi)]
    have h1 := h.rep i
    rw [look_app_lt (look_from hP _ hi)] at h1
    rcases hB'.get i with ⟨h2, _⟩ | ⟨_, h2 | h2⟩
    · rw [h2]; simp [Rep]
    · exact h1.tr _ hF (fun r y hy ho => by rw [pure_own h2 hy] at ho; cases ho) (fun q hq => by rw [refs_pure h2] at hq; cases hq)
    · rw [h2]
      have h3 := h'.rep (LND + i)
      have h4 := gvL_link (gv := gv) (a := a) hN hi
      have h5 : valOf N (gvL N gv a) a' (LND + i) = valOf N (gvL N gv a) a (LND + i) := by
        have : ¬ LND + i < N := by simp [LND, INH] at *; omega
        simp only [valOf, if_neg this]
      rw [h5, h4] at h3
      exact h3.refd
  · rw [look_app_ge hB'.below hi]
    have h3 := h'.rep i
    have h5 : valOf N (gvL N gv a) a' i = valOf N (gvL N gv a) a i := by
      have : ¬ i < N := by omega
      simp only [valOf, if_neg this]
    rw [h5] at h3
    exact h3
end
end Go.Av
namespace Go.Av
open Go
def MkOk (e : Ctx) (ds : List Deferred) (w : World) (F : Nat → Prop) : Prop :=
  ds = [] ∨ ∃ D, ds = [{ target := .collected D, args := #[] }] ∧ w.heap[D]? = some (.deferred (some [])) ∧ e.w0.heap.size ≤ D ∧ ¬ F D
structure AllM (N : Nat) (gv : Nat → Value) (e : Ctx) (σ : Sig) (a : Act) (w : World) : Prop where
  size : a.tmps.size = N
  inv : ∃ β F, MkOk e a.defers w F ∧ Inv e σ (valOf N gv a) w β F
def BCode (P : Program) (N : Nat) (m : Bool) (c : Code) (σ : Sig) (Φ : Exit → Sig → Prop) : Prop :=
  ∀ (gv : Nat → Value) (e : Ctx) (a : Act) (w : World), (m = false → a.defers = []) → AllM N gv e σ a w → ∀ Q : Exit → Act → World → Prop, (∀ x a' w' σ', Φ x σ' → AllM N gv e σ' a' w' → Q x a' w') → c.wp P Q a w
section
variable {P : Program} {N : Nat} {m : Bool} {σ σ' : Sig} {Φ : Exit → Sig → Prop} {c c' : Code}
theorem b_pre (h : Ent σ σ') (hc : BCode P N m c σ' Φ) : BCode P N m c σ Φ := fun gv e a w hm ⟨hsz, β, F, hk, hi⟩ Q hQ => by
  obtain ⟨β', hi'⟩ := h _ _ _ _ _ hi
  exact hc gv e a w hm ⟨hsz, β', F, hk, hi'⟩ Q hQ
theorem lift_core (h : ACode P N c σ Φ) {gv : Nat → Value} {e : Ctx} {a : Act} {w : World} (ha : AllM N gv e σ a w) {Q : Exit → Act → World → Prop} (hQ : ∀ x a' w' σ', Φ x σ' → AllM N gv e σ' a' w' → a'.defers = a.defers → Q x a' w') : c.wp P Q a w := by
  obtain ⟨hsz, β, F, hk, hi⟩ := ha
  refine SWp.wp (h gv (Ctx.here w σ β F a.defers) a w ⟨rfl, hsz, β, F, hi.here _⟩ Q fun x a' w' σ' hx ha' => ?_)
  obtain ⟨hdf, hsz', β', F', hi'⟩ := ha'
  have hdf' : a'.defers = a.defers := hdf
  refine hQ x a' w' σ' hx ⟨hsz', β', F', ?_, hi.unbase hi'⟩ hdf'
  rw [hdf']
  rcases hk with hk | ⟨D, h1, h2, h3, h4⟩
  · exact .inl hk
  · exact .inr ⟨D, h1, hi.kept_other hi' h2 trivial, h3, here_fr hi' (Array.getElem?_eq_some_iff.1 h2).1 h4⟩
theorem b_lift (h : ACode P N c σ Φ) : BCode P N m c σ Φ := fun gv e a w _ ha Q hQ => lift_core h ha fun x a' w' σ' hx ha' _ => hQ x a' w' σ' hx ha'
theorem b_seqA (h : ACode P N c σ (fun x s => match x with | .normal => BCode P N m c' s Φ | x => Φ x s)) : BCode P N m (.seq c c') σ Φ := fun gv e a w hm ha Q hQ =>
  wp_seq (lift_core h ha fun x a' w' σ' hx ha' hd => by
    cases x <;> simp only [Exit.then] <;> first | exact hx gv e a' w' (fun h => hd.trans (hm h)) ha' Q hQ | exact hQ _ _ _ _ hx ha')
theorem b_seqB (h : BCode P N m c σ (fun x s => match x with | .normal => BCode P N true c' s Φ | x => Φ x s)) : BCode P N m (.seq c c') σ Φ := fun gv e a w hm ha Q hQ =>
  wp_seq (h gv e a w hm ha _ fun x a' w' σ' hx ha' => by
    cases x <;> simp only [Exit.then] <;> first | exact hx gv e a' w' (fun h => by cases h) ha' Q hQ | exact hQ _ _ _ _ hx ha')
theorem b_block {id : Nat} (h : BCode P N m c σ (fun x s => match x with | .exit i => if i = id then Φ .normal s else Φ (.exit i) s | x => Φ x s)) : BCode P N m (.block id c) σ Φ := fun gv e a w hm ha Q hQ =>
  wp_block (h gv e a w hm ha _ fun x a' w' s hx ha' => by
    cases x <;> simp only [Exit.inBlock] <;> try exact hQ _ _ _ _ hx ha'
    dsimp only at hx
    split
    · rename_i h; rw [if_pos h] at hx; exact hQ _ _ _ _ hx ha'
    · rename_i h; rw [if_neg h] at hx; exact hQ _ _ _ _ hx ha')
theorem BCall.intro {f : FuncId} {fn : Func} {args objs objs2 : List AV} {res : AV} (hf : P.funcs[f]? = some fn) (hb : fn.body = some c) (hN : fn.ntmps = N) (hNI : N < INH) (ha : args.length ≤ N)
    (h : BCode P N false c (argSig args objs) (fun x s => match x with | .normal => Returns P fn N s res objs2 | .ret => Returns P fn N s res objs2 | _ => False)) : ACall P f args objs res objs2 := by
  intro e vs val w β F hl hval hi
  refine (callsIn_wide (n := 1)).1 (callsIn_of_wp_marks hf hb trivial (wpIn_wide.2 ?_))
  have hsz : (vs.toArray ++ Array.replicate (fn.ntmps - vs.toArray.size) undef).size = N := by simp [hN]; omega
  refine h (fun i => val i) e _ w (fun _ => rfl) ⟨hsz, β, F, .inl rfl, ?_⟩ _ fun x a' w' s hx ha' => ?_
  · refine ⟨fun i => ?_, hi.disj, hi.sep, hi.fr, hi.kept, hi.grow, hi.tame⟩
    by_cases hlt : i < vs.length
    · have := hi.rep i
      rw [hval i hlt] at this
      have e1 : valOf N (fun i => val i) { tmps := vs.toArray ++ Array.replicate (fn.ntmps - vs.toArray.size) undef, defers := [] } i = vs.getD i undef := by
        have : i < N := by omega
        simp only [valOf, this, if_true]
        rw [Array.getD_eq_getD_getElem?, Array.getElem?_append_left (by simpa using hlt)]
        simp
      rw [e1]; exact this
    · by_cases hN' : i < N
      · have : argSig args objs i = .undef := by
          have h1 : i < INH := by omega
          have h2 : args[i]? = none := List.getElem?_eq_none (by omega)
          simp [argSig, h1, h2]
        rw [this]; simp [Rep]
      · have := hi.rep i
        simpa [valOf, hN'] using this
  · have key : ∀ (_ : Returns P fn N s res objs2), LeavesInM Fence.wide 1 P fn a'.tmps (fun en w' => ∃ v β' F', en = .returned v ∧ Inv e (argSig [res] objs2) (upd val 0 v) w' β' F') a'.defers .returning w' := by
      intro hret
      obtain ⟨hsz', β', F', hk, hi'⟩ := ha'
      rcases hk with hk | ⟨D, h1, h2, h3, h4⟩
      · obtain ⟨v, hr, β'', F'', hi''⟩ := hret (fun i => val i) { e with ds := [] } a' w' ⟨hk, hsz', β', F', ⟨hi'.rep, hi'.disj, hi'.sep, hi'.fr, hi'.kept, hi'.grow, hi'.tame⟩⟩
        rw [hk]
        exact ⟨v, hr, v, β'', F'', rfl, ⟨hi''.rep, hi''.disj, hi''.sep, hi''.fr, hi''.kept, hi''.grow, hi''.tame⟩⟩
      · rw [h1]
        have hi2 : Inv e s (valOf N (fun i => val i) a') (w'.putObj D (.deferred none)) β' F' := hi'.putObj h2 trivial trivial h4 h3
        obtain ⟨v, hr, β'', F'', hi''⟩ := hret (fun i => val i) { e with ds := a'.defers } a' _ ⟨rfl, hsz', β', F', ⟨hi2.rep, hi2.disj, hi2.sep, hi2.fr, hi2.kept, hi2.grow, hi2.tame⟩⟩
        refine ⟨by simp, .inl ⟨D, _, rfl, run_takeDeferred h2, ?_⟩⟩
        exact ⟨v, hr, v, β'', F'', rfl, ⟨hi''.rep, hi''.disj, hi''.sep, hi''.fr, hi''.kept, hi''.grow, hi''.tame⟩⟩
    cases x <;> simp only at hx
    · exact key hx
    · exact key hx
end
end Go.Av
namespace Go.Av
open Go
def BackIter (P : Program) (gf : FuncId) (lb : Array Value) (w1 : World) (Fz : Nat → Prop) (n : Nat) (ev : Nat → Value) : Prop :=
  ∀ (l : Nat) (J : Nat → World → Prop) (Jx : World → Prop),
    (∀ k W, J k W → ∀ b, Fz b → W.heap[b]? = w1.heap[b]?) →
    (∀ k W, k < n → J (k + 1) W → ∀ m, YieldAt Fence.wide m P l #[.int .i64 (k : Int), ev k] W fun e W' => (e = .returned (.bool true) ∧ J k W') ∨ (e = .returned (.bool false) ∧ Jx W')) →
    ∀ W, J n W → Calls P gf (#[.func (.yield l) #[] #[]] ++ lb) W fun e W' => (∃ v, e = .returned v) ∧ (J 0 W' ∨ Jx W')
def endSig (S : List Nat) (LB LP : List (Nat × AV)) : Sig := cutS (unlendS S (look (LB ++ LP)))
def NrAll (τ : Sig) : List Nat → Prop
  | [] => True
  | s :: S => noRef (τ (LND + s)) = true ∧ NrAll τ S
theorem NrAll.get {τ : Sig} : ∀ {S : List Nat}, NrAll τ S → ∀ s ∈ S, noRef (τ (LND + s)) = true
  | [], _, s, hs => by cases hs
  | x :: S, h, s, hs => by
    rcases List.mem_cons.1 hs with rfl | hs
    · exact h.1
    · exact h.2.get s hs
def lentB (N : Nat) : List Nat → Bool
  | [] => true
  | s :: S => decide (s < N) && !S.contains s && lentB N S
structure LpOk (N : Nat) (S : List Nat) (LB LP : List (Nat × AV)) : Prop where
  keys : keysFrom N LP = true
  base : BaseOk N (look LP) LB
  nr : NrAll (look LP) S
theorem purge_noRef {d : Nat} {x : AV} (h : noRef x = true) : purgeV d x = x := by rw [purgeV_eq, refs_of_noRef x h]; rfl
theorem unlend_ok {N : Nat} (hN : N ≤ INH) : ∀ {S : List Nat} {σ : Sig}, lentB N S = true → (∀ s ∈ S, noRef (σ (LND + s)) = true) → unlendOk N S σ = true
  | [], _, _, _ => rfl
  | s :: S, σ, h, hn => by
    simp only [lentB, Bool.and_eq_true, decide_eq_true_eq, Bool.not_eq_true'] at h
    simp only [unlendOk, Bool.and_eq_true, decide_eq_true_eq]
    refine ⟨⟨h.1.1, hn s (by simp)⟩, unlend_ok hN h.2 fun s' hs' => ?_⟩
    have h1 : s' ≠ s := fun e => by subst e; have := h.1.2; rw [List.contains_iff_mem.2 hs'] at this; cases this
    have h2 := hn s' (by simp [hs'])
    have h3 : s < LND := by have := h.1.1; unfold LND; unfold INH at hN; omega
    unfold mvSig
    rw [if_neg (by omega), if_neg (by omega), purge_noRef h2, purge_noRef h2]
    exact h2
theorem lend_ok {N : Nat} (hN : N ≤ INH) : ∀ {S : List Nat} {σ : Sig}, lentB N S = true → (∀ s ∈ S, noRef (σ s) = true) → lendOk N S σ = true
  | [], _, _, _ => rfl
  | s :: S, σ, h, hn => by
    simp only [lentB, Bool.and_eq_true, decide_eq_true_eq, Bool.not_eq_true'] at h
    simp only [lendOk, Bool.and_eq_true, decide_eq_true_eq]
    refine ⟨⟨h.1.1, hn s (by simp)⟩, lend_ok hN h.2 fun s' hs' => ?_⟩
    have h1 : s' ≠ s := fun e => by subst e; have := h.1.2; rw [List.contains_iff_mem.2 hs'] at this; cases this
    have h2 := hn s' (by simp [hs'])
    have h3 : ∀ (S : List Nat), lentB N S = true → ∀ s ∈ S, s < N := fun S => by
      induction S with
      | nil => intro _ s hs; cases hs
      | cons x S ih =>
        intro h s hs
        simp only [lentB, Bool.and_eq_true, decide_eq_true_eq] at h
        rcases List.mem_cons.1 hs with rfl | hs
        · exact h.1.1
        · exact ih h.2 s hs
    have h4 := h3 S h.2 s' hs'
    have h5 : N ≤ LND := by unfold LND; unfold INH at hN; omega
    unfold mvSig
    rw [if_neg (by omega), if_neg h1, purge_noRef h2, purge_noRef h2]
    exact h2
def NrFr (τ : Sig) : List Nat → Prop
  | [] => True
  | s :: S => noRef (τ s) = true ∧ NrFr τ S
theorem NrFr.get {τ : Sig} : ∀ {S : List Nat}, NrFr τ S → ∀ s ∈ S, noRef (τ s) = true
  | [], _, s, hs => by cases hs
  | x :: S, h, s, hs => by
    rcases List.mem_cons.1 hs with rfl | hs
    · exact h.1
    · exact h.2.get s hs
theorem Returns.pre {P : Program} {fn : Func} {N : Nat} {σ σ' : Sig} {res : AV} {objs2 : List AV} (h : Ent σ σ') (hr : Returns P fn N σ' res objs2) : Returns P fn N σ res objs2 :=
  fun gv e a w ha => hr gv e a w (h.all ha)
section
variable {P : Program} {N : Nat} {σ : Sig} {Φ : Exit → Sig → Prop}
theorem b_range {assign body : Code} {g p0 p1 : Nat} {gf : FuncId} {caps : List AV} {n : Nat} {ev : Nat → Value} (el : Nat → AV) (S : List Nat) (LB : List (Nat × AV)) (LP : Nat → List (Nat × AV)) (G : Nat → Prop)
    (hN : N ≤ INH) (hg : g < N) (hσ : σ g = .fn gf [] caps) (hb : hasBody P gf = true)
    (hit : ∀ β F w v p, Rep β F w (.fn gf [] caps) p v → ∃ lb, v = .func (.func gf) #[] lb ∧ BackIter P gf lb w F n ev)
    (hel : ∀ k, k < n → pureV (el k) = true ∧ ∀ β F w p, Rep β F w (el k) p (ev k)) (hp : p0 < N ∧ p1 < N ∧ p0 ≠ p1)
    (hS : lentB N S = true) (hlend : NrFr (cutS σ) S) (h0 : Ent (lendS S (cutS σ)) (look (LB ++ LP n))) (hG : G n) (hLP : ∀ k, k ≤ n → LpOk N S LB (LP k))
    (round : ∀ k, k < n → G (k + 1) → ACode P N assign (look ((p1, el k) :: (p0, .int .i64 (k : Int)) :: (LB ++ LP (k + 1)))) fun x s => x = .normal ∧
      ACode P N body s fun x s => match x with
        | .normal => Ent s (look (LP k)) ∧ G k
        | .ret => ∃ L, Ent s (look L) ∧ LpOk N S LB L ∧ Φ .ret (endSig S LB L)
        | _ => False)
    (done : G 0 → Φ .normal (endSig S LB (LP 0))) : BCode P N false (.rangeFunc (.tmp g) #[p0, p1] assign body) σ Φ := by
  intro gv e a w hm ⟨hsz, β, F, hk, hi⟩ Q hQ
  have hdf := hm rfl
  have hNL : N ≤ LND := by unfold LND; unfold INH at hN; omega
  -- the iterator's value
  have hgr := hi.rep g
  rw [hσ] at hgr
  obtain ⟨lb, hgv, hiter⟩ := hit _ _ _ _ _ hgr
  have hge : a.eval (.tmp g) = .func (.func gf) #[] lb := by rw [← hgv]; simp [Act.eval, valOf, hg]
  -- the frame's variables are lent
  have hc0 := hi.cutG (gv' := gvL N gv a) (fun i h => gvL_lt h)
  obtain ⟨β1, hl1⟩ := Inv.lend hN (lend_ok hN hS hlend.get) hc0
  obtain ⟨β2, hb2⟩ := h0 _ _ _ _ _ hl1
  have hend : ∀ (D : Nat) (L : List (Nat × AV)) (β' : Place → Option (Nat × Nat)) (F' : Nat → Prop) (W : World), w.heap.size ≤ D → LpOk N S LB L → Inv (Ctx.here w (look (LB ++ LP n)) β2 F []) (look (LB ++ L)) (valOf N (gvL N gv a) a) W β' F' → ¬ F' D → W.heap[D]? = some (.deferred (some [])) →
      AllM N gv e (endSig S LB L) { a with defers := [{ target := .collected D, args := #[] }] } W := fun D L β' F' W hD hL h hFD hWD => by
    have h1 := hb2.unbase h
    have hback : ∀ s ∈ S, noRef (look (LB ++ L) (LND + s)) = true := fun s hs => by rw [look_app_ge hL.base.below (by omega)]; exact hL.nr.get s hs
    obtain ⟨β3, h3⟩ := Inv.unlend hN (unlend_ok hN hS hback) h1
    have h4 := h3.cutG (gv' := gv) (fun i h => (gvL_lt h).symm)
    exact ⟨hsz, β3, F', .inr ⟨D, rfl, hWD, Nat.le_trans hi.grow hD, hFD⟩, h4⟩
  refine (wpIn_wide (n := 2)).1 (wpIn_rangeFunc ?_)
  intro fn hfn
  obtain ⟨rec, hrec⟩ : ∃ rec : LoopState → Option Code → Loop, rec = fun st pe => { state := st, pending := pe, fn, tmps := a.tmps, params := #[p0, p1], assign, body, defers := w.heap.size } := ⟨_, rfl⟩
  obtain ⟨W1, hW1⟩ : ∃ W1, (w.alloc (.deferred (some []))).alloc (.loop (rec .ready none)) = W1 := ⟨_, rfl⟩
  have hL1 : W1.heap[w.heap.size + 1]? = some (.loop (rec .ready none)) := by
    rw [← hW1]; have := World.alloc_heap_new (w.alloc (.deferred (some []))) (.loop (rec .ready none)); rwa [World.size_alloc] at this
  have hK1 : W1.heap[w.heap.size]? = some (.deferred (some [])) := by
    rw [← hW1, heap_alloc_lt (by simp)]; exact World.alloc_heap_new w _
  -- between two rounds
  obtain ⟨I, hI⟩ : ∃ I : List (Nat × AV) → LoopState → Option Code → World → Prop, I = fun L st pe W => ∃ β' F', Inv (Ctx.here w (look (LB ++ LP n)) β2 F []) (look (LB ++ L)) (valOf N (gvL N gv a) a) W β' F' ∧ (∀ b, F b → F' b) ∧ ¬ F' w.heap.size ∧ ¬ F' (w.heap.size + 1) ∧
      W.heap[w.heap.size + 1]? = some (.loop (rec st pe)) ∧ W.heap[w.heap.size]? = some (.deferred (some [])) ∧ (∀ b, F b → W.heap[b]? = w.heap[b]?) := ⟨_, rfl⟩
  have hFn : ∀ b, F b → b < w.heap.size := fun b hb => (hi.fr b hb).1
  have hI0 : I (LP n) .ready none W1 := by
    rw [hI]
    have h1 := (hb2.here []).alloc (.deferred (some [])) (fun _ _ _ h => by cases h)
    have h2 := h1.alloc (.loop (rec .ready none)) (fun _ _ _ h => by cases h)
    rw [hW1] at h2
    refine ⟨β2, F, h2, fun b hb => hb, fun h => by have := hFn _ h; omega, fun h => by have := hFn _ h; omega, hL1, hK1, fun b hb => ?_⟩
    rw [← hW1, heap_alloc_lt (by simp; have := hFn b hb; omega), heap_alloc_lt (hFn b hb)]
  refine ⟨w.heap.size + 1, [{ target := .collected w.heap.size, args := #[] }], W1, { target := .fn (.func gf) lb, args := #[.func (.yield (w.heap.size + 1)) #[] #[]] }, W1, gf,
    #[.func (.yield (w.heap.size + 1)) #[] #[]] ++ lb, W1, ?_, ?_, fun _ _ => trivial, ?_, fun h => by simp [Fence.wide] at h, ?_⟩
  · rw [← hW1, hrec]; exact run_enterLoop_outer _ _ _ _ _
  · simp only [resolve, hge]
    simp [go_sem]
  · simp [invoke, go_sem, run_callFunc_body hb]
  · refine callsIn_wide.2 ((hiter (w.heap.size + 1) (fun k W => G k ∧ k ≤ n ∧ I (LP k) .ready none W) (fun W => ∃ L, LpOk N S LB L ∧ Φ .ret (endSig S LB L) ∧ I L .done (some .ret) W)
      (fun k W ⟨_, _, h⟩ b hb => by rw [hI] at h; obtain ⟨_, _, _, _, _, _, _, _, h⟩ := h; exact h b hb) (fun k W hk ⟨hGk, hkn, hIk⟩ m => ?_) W1 ⟨hG, Nat.le_refl _, hI0⟩).mono ?_)
    · -- one round
      have hIk0 := hIk
      rw [hI] at hIk
      obtain ⟨β3, F3, h3, hF3, hD3, hl3, hrl, hrd, hkp3⟩ := hIk
      have hltD : w.heap.size < W.heap.size := (Array.getElem?_eq_some_iff.1 hrd).1
      have hltl : w.heap.size + 1 < W.heap.size := (Array.getElem?_eq_some_iff.1 hrl).1
      have hy := run_yield (P := P) (args := #[.int .i64 (k : Int), ev k]) hrl (by rw [hrec]; rfl)
      rw [hrec] at hy
      refine ⟨fn, _, assign, body, hy, roundIn_of_wpIn hfn ?_⟩
      have htm : ((#[p0, p1] : Array Tmp).zip #[.int .i64 (k : Int), ev k]).foldl (fun t (p, v) => t.setIfInBounds p v) a.tmps = (a.tmps.setIfInBounds p0 (.int .i64 (k : Int))).setIfInBounds p1 (ev k) := by simp
      dsimp only
      rw [htm]
      obtain ⟨ar, har⟩ : ∃ ar : Act, ar = { tmps := (a.tmps.setIfInBounds p0 (.int .i64 (k : Int))).setIfInBounds p1 (ev k), defers := [] } := ⟨_, rfl⟩
      rw [← har]
      have har0 : ar = ({ a with defers := [] }.put (some p0) (.int .i64 (k : Int))).put (some p1) (ev k) := har
      have hszr : ar.tmps.size = N := by rw [har]; simp [hsz]
      have hval : valOf N (gvL N gv a) ar = upd (upd (valOf N (gvL N gv a) a) p0 (.int .i64 (k : Int))) p1 (ev k) := by
        rw [har0, valOf_put (by rw [size_put]; exact hsz) hp.2.1, valOf_put (a := { a with defers := [] }) hsz hp.1]; rfl
      have hst : Inv (Ctx.here w (look (LB ++ LP n)) β2 F []) (look ((p1, el k) :: (p0, .int .i64 (k : Int)) :: (LB ++ LP (k + 1)))) (valOf N (gvL N gv a) ar) W β3 F3 := by
        rw [hval]
        exact (h3.set p0 (by simp [Rep]) (noOwn_scalar rfl)).set p1 ((hel k hk).2 _ _ _ _) (fun r y hy => pure_own (hel k hk).1 hy)
      refine round k hk hGk (gvL N gv a) (Ctx.here W _ β3 F3 []) ar W ⟨by rw [har]; rfl, hszr, β3, F3, hst.here []⟩ _ (fun x a1 w1 s1 hx ha1 => ?_) (some (w.heap.size + 1)) m
      obtain ⟨rfl, hbody⟩ := hx
      obtain ⟨hdf1, hsz1, β4, F4, h4⟩ := ha1
      have h4u := hst.unionF h4
      have hrl4 := hst.kept_other h4 hrl trivial
      have hrd4 := hst.kept_other h4 hrd trivial
      have hu4 := hst.unbase h4u
      have hl4 : ¬ (F4 (w.heap.size + 1) ∨ F3 (w.heap.size + 1)) := fun h => h.elim (here_fr h4 hltl hl3) hl3
      have hD4 : ¬ (F4 w.heap.size ∨ F3 w.heap.size) := fun h => h.elim (here_fr h4 hltD hD3) hD3
      refine ⟨_, run_beginRound hrl4 (by rw [hrec]), ?_⟩
      obtain ⟨w2, hw2⟩ : ∃ w2, w2 = w1.putObj (w.heap.size + 1) (.loop { rec .ready none with state := .busy }) := ⟨_, rfl⟩
      rw [← hw2]
      have hlt1 : w.heap.size + 1 < w1.heap.size := (Array.getElem?_eq_some_iff.1 hrl4).1
      have hu5 : Inv (Ctx.here w (look (LB ++ LP n)) β2 F []) s1 (valOf N (gvL N gv a) a1) w2 β4 (fun b => F4 b ∨ F3 b) := by
        rw [hw2]; exact hu4.putObj hrl4 trivial trivial hl4 (by show w.heap.size ≤ _; omega)
      have hrl5 : w2.heap[w.heap.size + 1]? = some (.loop { rec .ready none with state := .busy }) := by rw [hw2]; exact World.putObj_heap_same hlt1
      have hrd5 : w2.heap[w.heap.size]? = some (.deferred (some [])) := by rw [hw2]; exact (World.putObj_heap_other (by omega)).trans hrd4
      have hlt2 : w.heap.size + 1 < w2.heap.size := (Array.getElem?_eq_some_iff.1 hrl5).1
      refine hbody (gvL N gv a) (Ctx.here w2 _ β4 (fun b => F4 b ∨ F3 b) []) a1 w2 ⟨hdf1, hsz1, β4, _, hu5.here []⟩ _ (fun x a3 w3 s3 hx ha3 => ?_) (some (w.heap.size + 1)) m
      obtain ⟨hdf3, hsz3, β6, F6, h6⟩ := ha3
      have hrl6 := hu5.kept_other h6 hrl5 trivial
      have hrd6 := hu5.kept_other h6 hrd5 trivial
      have hkk : ∀ b, F3 b → w3.heap[b]? = W.heap[b]? := fun b hb => by
        have e1 := hst.kept_fr h4 hb
        have e3 := hu5.kept_fr h6 (b := b) (.inr hb)
        have hne : b ≠ w.heap.size + 1 := fun h => by subst h; exact hl3 hb
        have e2 : w2.heap[b]? = w1.heap[b]? := by rw [hw2]; exact World.putObj_heap_other hne
        exact e3.trans (e2.trans e1)
      have fin : ∀ (st : LoopState) (jump : Option Code) (L : List (Nat × AV)), LpOk N S LB L → Ent s3 (look L) → I L st jump (w3.putObj (w.heap.size + 1) (.loop (rec st jump))) := fun st jump L hL hent => by
        obtain ⟨β7, h7⟩ := hent _ _ _ _ _ h6
        have h7u := hu5.unionF h7
        have h8 := hu5.unbase h7u
        have hl8 : ¬ (F6 (w.heap.size + 1) ∨ F4 (w.heap.size + 1) ∨ F3 (w.heap.size + 1)) := fun h => h.elim (here_fr h6 hlt2 hl4) hl4
        have hD8 : ¬ (F6 w.heap.size ∨ F4 w.heap.size ∨ F3 w.heap.size) := fun h => h.elim (here_fr h6 (by omega) hD4) hD4
        have h9 := Inv.reframe hN (hLP (k + 1) hk).base hL.base (hLP (k + 1) hk).keys hL.keys h3 h8 (fun b hb => ⟨.inr (.inr hb), hkk b hb⟩)
        have hlt3 : w.heap.size + 1 < w3.heap.size := (Array.getElem?_eq_some_iff.1 hrl6).1
        rw [hI]
        refine ⟨β7, _, h9.putObj hrl6 trivial trivial hl8 (by show w.heap.size ≤ _; omega), fun b hb => .inr (.inr (hF3 b hb)), hD8, hl8, World.putObj_heap_same hlt3, (World.putObj_heap_other (by omega)).trans hrd6, fun b hb => ?_⟩
        have hne : b ≠ w.heap.size + 1 := fun h => by subst h; have := hFn _ hb; omega
        exact (World.putObj_heap_other hne).trans ((hkk b (hF3 b hb)).trans (hkp3 b hb))
      have erun : ∀ jump : Option Code, (Instr.endRound (w.heap.size + 1) jump).run P w3 = .ok (.bool jump.isNone) (w3.putObj (w.heap.size + 1) (.loop (rec (if jump.isNone then .ready else .done) jump))) := fun jump => by
        have := run_endRound (P := P) jump hrl6
        rw [hrec] at this ⊢
        exact this
      cases x with
      | normal =>
        obtain ⟨hent, hG'⟩ := hx
        exact ⟨_, _, erun none, .inl ⟨rfl, hG', by omega, fin .ready none (LP k) (hLP k (by omega)) hent⟩⟩
      | ret =>
        obtain ⟨L, hent, hL, hΦ⟩ := hx
        exact ⟨_, _, erun (some .ret), .inr ⟨rfl, L, hL, hΦ, fin .done (some .ret) L hL hent⟩⟩
      | exit id => exact hx.elim
      | goto t => exact hx.elim
      | panic ch => exact hx.elim
      | outgrown => exact hx.elim
    · -- behind the iterator
      have close : ∀ (st : LoopState) (pe : Option Code) (L : List (Nat × AV)) (W : World), st ≠ .busy → LpOk N S LB L → I L st pe W → ∃ W', (Instr.endLoop (w.heap.size + 1)).run P W = .ok pe W' ∧ AllM N gv e (endSig S LB L) { a with defers := [{ target := .collected w.heap.size, args := #[] }] ++ a.defers } W' := fun st pe L W hst hL h => by
        rw [hI] at h
        obtain ⟨β3, F3, h3, hF3, hD3, hl3, hrl, hrd, _⟩ := h
        have hlt : w.heap.size + 1 < W.heap.size := (Array.getElem?_eq_some_iff.1 hrl).1
        have := run_endLoop (P := P) hrl (by rw [hrec]; exact hst)
        rw [hrec] at this
        refine ⟨_, this, ?_⟩
        rw [hdf]
        have h4 := h3.putObj hrl (o' := .loop { rec st pe with state := .exhausted }) trivial trivial hl3 (by show w.heap.size ≤ _; omega)
        rw [hrec] at h4
        exact hend _ L _ _ _ (Nat.le_refl _) hL h4 hD3 ((World.putObj_heap_other (by omega)).trans hrd)
      rintro en W2 ⟨⟨v, rfl⟩, (⟨hG0, _, h⟩ | ⟨L, hL, hΦ, h⟩)⟩
      · obtain ⟨W', h1, h2⟩ := close _ _ _ _ (by simp) (hLP 0 (Nat.zero_le _)) h
        exact ⟨none, W', h1, hQ _ _ _ _ (done hG0) h2⟩
      · obtain ⟨W', h1, h2⟩ := close _ _ _ _ (by simp) hL h
        exact ⟨some .ret, W', h1, wpIn_ret (hQ _ _ _ _ hΦ h2)⟩
end
end Go.Av
namespace Go.Av
open Go
section
variable {P : Program} {N : Nat} {A : Bool} {σ : Sig} {ty : TypeId} {x : Operand}
theorem q_boxZ {t : Nat} {v : AV} (hx : RdTo N A σ x v) (hb : boxable v = true) (hp : pureL (cellsOf v) = true) : QSem P N A (.box t x) ty σ (slots x) (.pp (shL (cellsOf v)) 0) := by
  intro hA σ' hD gv e a w β F hi d o ho hty K Q hK
  have ex := hx.rep hA hD hi (0, [])
  obtain ⟨hl, hr⟩ := cells_of ex hb hp
  obtain ⟨β', h'⟩ := hi.new_op hl hr hp t d
  have hfz := h'.freeze (fun r y b s hy hyo hb => by
    cases r with
    | nil =>
      have hrep := h'.rep d
      rw [upd_same, upd_same] at hrep
      simp only [Rep] at hrep
      obtain ⟨_, b', _, _, h1, h2, _⟩ := hrep
      rw [h1] at hb; cases hb
      simp only [Value.pointer.injEq, Option.some.injEq, Addr.mk.injEq] at h2
      have := hi.grow
      omega
    | cons j r =>
      simp only [node, kids] at hy
      cases hc : (cellsOf v)[j]? with
      | none => rw [hc] at hy; cases hy
      | some c =>
        rw [hc] at hy
        rw [pure_own (pureL_mem hp (List.mem_of_getElem? hc)) hy] at hyo; cases hyo)
  refine wp_value (v := .pointer (some ⟨w.heap.size, 0, none⟩)) (w' := w.alloc (.cells (a.eval x).cells t)) ?_ (hK _ _ ⟨β', _, by simpa [sh] using hfz⟩)
  simp [execOp, ho, Instr.box, newVar, newRow]
end
end Go.Av
namespace Go.Av
open Go
section
variable {P : Program} {N : Nat} {A : Bool} {σ : Sig} {ty : TypeId} {x : Operand}
theorem q_sliceLit1Z {t sz : Nat} {zs cs : List AV} {v : AV} (hx : RdTo N A σ x v) (hno : NoOwn v) (h : litTy P t = some (sz, zs)) (hsm : Nat.ble (1 * sz) 16777216 = true)
    (hf : fillA (fun i => some (i * sz, sz)) (rep 1 zs) [(0, v)] = some cs) (hl : Nat.beq cs.length (1 * sz) = true) (hp : pureL cs = true) :
    QSem P N A (sliceLit t 1 [(0, x)]) ty σ (slotsL [x]) (.sl (shL cs) 1) := by
  intro hA σ' hD gv e a w β F hi d o ho hty K Q hK
  obtain ⟨el, arr0, harr, hrun⟩ := run_lit h (Nat.le_of_ble_eq_true hsm)
  have ex := hx.rep hA (fun i hi' => hD i (by simpa [slotsL] using hi')) hi (0, [])
  obtain ⟨cells, he, hc1, hc2, hc3⟩ := fill_spec (β := β) (F := F) (w := w) [(0, v)] [(0, a.eval x)] _ arr0 cs (harr β F w) (by simp)
      (fun j i u hj => by
        cases j with
        | zero => simp at hj; obtain ⟨rfl, rfl⟩ := hj; exact ⟨hno, a.eval x, (0, []), rfl, ex⟩
        | succ j => simp at hj) hf
  have hr := hrun [(0, a.eval x)].toArray cells w (by simpa using he)
  obtain ⟨β', h'⟩ := hi.new_osl (us := cells.toList) (by simpa using hc1) hc3 hp el d (arr := cells) (sz := sz) (n := 1) (capv := 1) (cap := some 1) (fun j x hx => hx) (by rw [hc1]; exact Nat.eq_of_beq_eq_true hl) (Nat.le_refl _) (fun c hc => by cases hc; rfl)
  have hfz := h'.freeze (fun r y b s hy hyo hb => by
    cases r with
    | nil =>
      have hrep := h'.rep d
      rw [upd_same, upd_same] at hrep
      simp only [Rep] at hrep
      rcases hrep with ⟨h1, _⟩ | ⟨_, b', _, _, _, h1, h2, _⟩
      · rw [h1] at hb; cases hb
      · rw [h1] at hb; cases hb
        simp only [Value.slice.injEq, Option.some.injEq, Addr.mk.injEq] at h2
        have := hi.grow
        omega
    | cons j r =>
      simp only [node, kids] at hy
      cases hc : cs[j]? with
      | none => rw [hc] at hy; cases hy
      | some c =>
        rw [hc] at hy
        rw [pure_own (pureL_mem hp (List.mem_of_getElem? hc)) hy] at hyo; cases hyo)
  refine wp_value (v := .slice (some ⟨w.heap.size, 0, none⟩) 1 1) (w' := w.alloc (.cells cells el)) ?_ (hK _ _ ⟨β', _, hfz⟩)
  simp only [execOp, ho, sliceLit, List.map_toArray, List.map_cons, List.map_nil, hr, Sem.run_bind, Sem.run_pure, Result.andThen_ok]
end
end Go.Av
namespace Go.Av
open Go Go.Sort
def trP (xs : List TN) (k : Nat) : List (List Int) := (trI xs k).getD []
def trQ (xs : List TN) (k : Nat) : List (List Int) := (trS xs k).getD []
section
variable {vars m : Int} {xs : List TN} {k : Nat}
theorem tr_get (h : (trI xs k).isSome = true) : trI xs k = some (trP xs k) := by
  unfold trP; cases he : trI xs k with
  | none => rw [he] at h; cases h
  | some P => rfl
theorem tr_ok (hv : 0 ≤ vars ∧ vars ≤ 12) (ha : allN vars m xs = true) (h : (trI xs k).isSome = true) : PathsOk vars xs (trP xs k) := trI_ok hv ha (tr_get h)
theorem tr_next (hk : k < xs.length) (h : (trI xs (k + 1)).isSome = true) : trI xs k = stepI xs k (trP xs (k + 1)) := by rw [trI_step hk, tr_get h]; rfl
theorem tr_top (xs : List TN) : trP xs xs.length = List.replicate xs.length [] := by unfold trP; rw [trI_top]; rfl
theorem tr_none (hk : k < xs.length) (h : (trI xs (k + 1)).isSome = true) (hs : stepI xs k (trP xs (k + 1)) = none) : (trI xs 0).isSome = false := by
  rw [trI_none (k := k) (by omega) (by rw [tr_next hk h, hs])]; rfl
theorem tr_unseen (hk : k < xs.length) (h : (trI xs (k + 1)).isSome = true) (hs : seenB xs (k + 1) k = false) : (trI xs 0).isSome = false :=
  tr_none hk h (by unfold stepI; rw [if_pos hs])
theorem tr_leaf (hk : k < xs.length) (h : (trI xs (k + 1)).isSome = true) (hs : seenB xs (k + 1) k = true) (hv : nV xs k = 0) : trP xs k = trP xs (k + 1) ∧ (trI xs k).isSome = true := by
  have e : trI xs k = some (trP xs (k + 1)) := by rw [tr_next hk h]; unfold stepI; rw [hs, if_neg (by simp), if_pos hv]
  exact ⟨by unfold trP; rw [e]; rfl, by rw [e]; rfl⟩
theorem tr_bad (hk : k < xs.length) (h : (trI xs (k + 1)).isSome = true) (hv : nV xs k ≠ 0)
    (hb : (seenB xs (k + 1) (nLo xs k) || seenB xs (k + 1) (nHi xs k) || trOn xs k (trP xs (k + 1))) = true) : (trI xs 0).isSome = false :=
  tr_none hk h (by unfold stepI; rw [if_neg hv, if_pos hb]; split <;> rfl)
theorem tr_good (hk : k < xs.length) (h : (trI xs (k + 1)).isSome = true) (hs : seenB xs (k + 1) k = true) (hv : nV xs k ≠ 0)
    (hb : (seenB xs (k + 1) (nLo xs k) || seenB xs (k + 1) (nHi xs k) || trOn xs k (trP xs (k + 1))) = false) : trP xs k = trPut xs k (trP xs (k + 1)) ∧ (trI xs k).isSome = true := by
  have e : trI xs k = some (trPut xs k (trP xs (k + 1))) := by rw [tr_next hk h]; unfold stepI; rw [hs, if_neg (by simp), if_neg hv, hb]; rfl
  exact ⟨by unfold trP; rw [e]; rfl, by rw [e]; rfl⟩
theorem ts_get (h : (trS xs k).isSome = true) : trS xs k = some (trQ xs k) := by
  unfold trQ; cases he : trS xs k with
  | none => rw [he] at h; cases h
  | some P => rfl
theorem ts_ok (hv : 0 ≤ vars ∧ vars ≤ 12) (ha : allN vars m xs = true) (h : (trS xs k).isSome = true) : PathsOk vars xs (trQ xs k) := trS_ok hv ha (ts_get h)
theorem ts_next (hk : k < xs.length) (h : (trS xs (k + 1)).isSome = true) : trS xs k = stepP xs k (trQ xs (k + 1)) := by rw [trS_step hk, ts_get h]; rfl
theorem ts_top (xs : List TN) : trQ xs xs.length = List.replicate xs.length [] := by unfold trQ; rw [trS_top]; rfl
theorem ts_leaf (hk : k < xs.length) (h : (trS xs (k + 1)).isSome = true) (hv : nV xs k = 0) : trQ xs k = trQ xs (k + 1) ∧ (trS xs k).isSome = true := by
  have e : trS xs k = some (trQ xs (k + 1)) := by rw [ts_next hk h]; unfold stepP; rw [if_pos hv]
  exact ⟨by unfold trQ; rw [e]; rfl, by rw [e]; rfl⟩
theorem ts_bad (hk : k < xs.length) (h : (trS xs (k + 1)).isSome = true) (hv : nV xs k ≠ 0) (hb : trOn xs k (trQ xs (k + 1)) = true) : (trS xs 0).isSome = false := by
  rw [trS_none (k := k) (by omega) (by rw [ts_next hk h]; unfold stepP; rw [if_neg hv, if_pos hb])]; rfl
theorem ts_good (hk : k < xs.length) (h : (trS xs (k + 1)).isSome = true) (hv : nV xs k ≠ 0) (hb : trOn xs k (trQ xs (k + 1)) = false) : trQ xs k = trPut xs k (trQ xs (k + 1)) ∧ (trS xs k).isSome = true := by
  have e : trS xs k = some (trPut xs k (trQ xs (k + 1))) := by rw [ts_next hk h]; unfold stepP; rw [if_neg hv, hb]; rfl
  exact ⟨by unfold trQ; rw [e]; rfl, by rw [e]; rfl⟩
theorem tr_isSome (ha : allN vars m xs = true) (h0 : 0 < xs.length) : (trI xs 0).isSome = (onceB xs && (trS xs 0).isSome) := by
  rw [trI_eq ha h0]; cases onceB xs <;> rfl
theorem tr_val (ha : allN vars m xs = true) (h0 : 0 < xs.length) (h : (trI xs 0).isSome = true) : trP xs 0 = trQ xs 0 := by
  have h1 := h
  rw [tr_isSome ha h0] at h1
  simp only [Bool.and_eq_true] at h1
  unfold trP trQ; rw [trI_eq ha h0, if_pos h1.1]
end
theorem ded_on {p : List Int} {v : Int} (hv : 1 ≤ v) : decide (v ∈ dedN (insertionSort (fun x y : Int => decide (x < y)) (p.map fun x => max x (-x)).toArray 0 (p.map fun x => max x (-x)).length) (p.map fun x => max x (-x)).length) = (decide (v ∈ p) || decide (-v ∈ p)) := by
  have h := (ins_facts (p.map fun x => max x (-x))).1 v
  rw [Bool.eq_iff_iff]
  simp only [decide_eq_true_eq, Bool.or_eq_true]
  rw [h, List.mem_map]
  constructor
  · rintro ⟨x, hx, he⟩
    by_cases h2 : x = v
    · exact .inl (h2 ▸ hx)
    · have : x = -v := by omega
      exact .inr (this ▸ hx)
  · rintro (hx | hx)
    · exact ⟨v, hx, by omega⟩
    · exact ⟨-v, hx, by omega⟩
theorem ded_few9 {p : List Int} (h : p.length ≤ 12) : (dedN (insertionSort (fun x y : Int => decide (x < y)) (p.map fun x => max x (-x)).toArray 0 (p.map fun x => max x (-x)).length) (p.map fun x => max x (-x)).length).length ≤ 1048576 :=
  Nat.le_trans (dedN_le _ _) (by simp; omega)
theorem weakL_nils : ∀ (n : Nat), WeakL (rep n [.nils]) (rep n [.sl [] 0])
  | 0 => trivial
  | n + 1 => by
    have e1 : rep (n + 1) [AV.nils] = .nils :: rep n [.nils] := by simp [rep, List.replicate_succ]
    have e2 : rep (n + 1) [AV.sl [] 0] = .sl [] 0 :: rep n [.sl [] 0] := by simp [rep, List.replicate_succ]
    rw [e1, e2]; exact ⟨Weak.nils_sl, weakL_nils n⟩
theorem weak_rows {n : Nat} {cap : Option Nat} : Weak (.osl 1 (rep n [.nils]) n cap) (.osl 1 (sls (List.replicate n [])) n none) := by
  rw [rep_nils]
  exact Weak.oslL (weakL_nils n) (by rw [← rep_nils]; exact noRefL_pure _ (sls_pureL _)) rfl
theorem nr_rows {L : List (List Int)} {n : Nat} {cap : Option Nat} : noRef (.op [.osl 1 (sls L) n cap]) = true := by simp [noRef, noRefL, sls_noRef]
theorem nr_bools {B : List Bool} {n : Nat} {cap : Option Nat} : noRef (.op [.osl 1 (blcells B) n cap]) = true := by simp [noRef, noRefL, bl_noRef]
end Go.Av
namespace Go.Av
open Go
def pthL (xs : List TN) : List (List Int) := trP xs 0
theorem pth_none {xs : List TN} (h : (trI xs 0).isSome = false) : pthL xs = [] := by
  unfold pthL trP; cases he : trI xs 0 with
  | none => rfl
  | some P => rw [he] at h; cases h
end Go.Av
namespace Go.Proofs
open Go.RowKit Go.Shelf
attribute [local go_sem] Oper.semAt_some
set_option maxRecDepth 100000 in
set_option maxHeartbeats 2000000 in
theorem back_loop (F : Fence) (n : Nat) (h7 : F.fn 66) (hro : F.round = none) (hn : 1 ≤ n) (l Bs Bo b off len cap : Nat) (f0 f1 f2 f3 : Nat → Int) (hreach : len ≤ 1000000) (J : Nat → World → Prop) (Jx : World → Prop)
    (hBs : ∀ k W, J k W → W.cell? ⟨Bs, Bo, none⟩ = some (.slice (some ⟨b, off, none⟩) len cap))
    (hc : ∀ k W, J k W → ∀ j, j < len → W.cell? ⟨b, off + j * 4, none⟩ = some (.int .i64 (f0 j)) ∧ W.cell? ⟨b, off + j * 4 + 1, none⟩ = some (.int .i64 (f1 j)) ∧ W.cell? ⟨b, off + j * 4 + 2, none⟩ = some (.int .i64 (f2 j)) ∧ W.cell? ⟨b, off + j * 4 + 3, none⟩ = some (.int .i64 (f3 j)))
    (hY : ∀ k W, k < len → J (k + 1) W → YieldAt F (n - 1) Tryz.prog l #[.int .i64 (k : Int), .agg #[.int .i64 (f0 k), .int .i64 (f1 k), .int .i64 (f2 k), .int .i64 (f3 k)]] W fun e W' =>
      (e = .returned (.bool true) ∧ J k W') ∨ (e = .returned (.bool false) ∧ Jx W'))
    (W : World) (h0 : J len W) :
    CallsIn F n Tryz.prog 66 #[.func (.yield l) #[] #[], .pointer (some ⟨Bs, Bo, none⟩)] W fun e W' => (∃ v, e = .returned v) ∧ (J 0 W' ∨ Jx W') := by
  refine callsIn_of_wp Tryz.func66 rfl h7 ?_ hro
  simp only [Tryz.ntmps66, List.size_toArray, List.length_cons, List.length_nil, Nat.reduceAdd, Nat.reduceSub, Array.replicate_succ, Array.replicate_zero, List.push_toArray, List.append_toArray, List.nil_append, List.cons_append]
  have hB0 := hBs _ _ h0
  gi_wp2
  gi_loopw [3] (fun i wr => ∃ k : Nat, k ≤ len ∧ i = .int .i64 ((k : Int) - 1) ∧ J k wr)
    (fun i _ => (intOf i + 1).toNat)
  case atStart => exact ⟨len, Nat.le_refl _, rfl, h0⟩
  case round =>
    obtain ⟨k, hk, rfl, hJs⟩ := hrel
    by_cases hlt : 0 < k
    · obtain ⟨m, rfl⟩ : ∃ m, k = m + 1 := ⟨k - 1, by omega⟩
      obtain ⟨fn, tmps, assign, body, hy, hR⟩ := hY m wr (by omega) hJs
      have hBk := hBs _ _ hJs
      obtain ⟨c0, c1, c2, c3⟩ := hc _ _ hJs m (by omega)
      gi_wp2
      refine hR.mono ?_
      rintro e W3 (⟨rfl, hJ3⟩ | ⟨rfl, hJx3⟩)
      · gi_wp2
        go_roundw
        case rel => exact ⟨m, by omega, by simp, hJ3⟩
        case measure => simp [intOf]
      · gi_wp2
        refine bodyPost_ret (results_none rfl _ _ _) rfl ?_
        exact ⟨⟨_, rfl⟩, .inr hJx3⟩
    · obtain rfl : k = 0 := by omega
      gi_wp2
      go_end0
      exact ⟨⟨_, rfl⟩, .inl hJs⟩
end Go.Proofs
namespace Go.Av
open Go Go.Proofs
theorem repL_at {β : Place → Option (Nat × Nat)} {F : Nat → Prop} {w : World} {cs : List AV} {p : Place} {vs : List Value} (h : RepL β F w cs p 0 vs) {i : Nat} {n : Int} (hi : cs[i]? = some (.int .i64 n)) : vs[i]? = some (.int .i64 n) := by
  obtain ⟨u, hu, hr⟩ := RepL_iff.1 h i _ hi
  simp only [Rep] at hr
  rw [hu, hr]
theorem back_it {xs : List TN} (h0 : 0 < xs.length) (hl : xs.length ≤ 1000000) (β : Place → Option (Nat × Nat)) (F : Nat → Prop) (w : World) (v : Value) (p : Place) (h : Rep β F w (.fn 66 [] [.pp [.sl (tncells xs) xs.length] 0]) p v) :
    ∃ lb, v = .func (.func 66) #[] lb ∧ BackIter Tryz.prog 66 lb w F xs.length (fun k => tnv (gn xs k)) := by
  simp only [Rep] at h
  obtain ⟨us, vs, rfl, hu, hv, _, _, _, h⟩ := h
  obtain rfl : us = [] := by simpa using hu
  obtain ⟨vp, rfl⟩ : ∃ vp, vs = [vp] := by
    match vs, hv with
    | [x], _ => exact ⟨x, rfl⟩
  simp only [RepL, Rep] at h
  obtain ⟨⟨_, b, o, arr, t, fz, rfl, hFb, hh, hr⟩, _⟩ := h
  refine ⟨_, rfl, ?_⟩
  cases hd : arr.toList.drop o with
  | nil => rw [hd] at hr; simp [RepL] at hr
  | cons sv rest =>
    rw [hd] at hr
    simp only [RepL, Rep] at hr
    obtain ⟨⟨_, a, cap, rfl, hn, hc⟩, _⟩ := hr
    obtain ⟨b2, off, arr2, t2, fz2, rfl, hF2, hh2, hr2⟩ := hc (by intro h; have := tncells_length xs; rw [h] at this; simp at this; omega)
    intro l J Jx hFz hY W hJ
    have hs : arr[o]? = some (.slice (some ⟨b2, off, none⟩) xs.length cap) := by
      have : (arr.toList.drop o)[0]? = some (.slice (some ⟨b2, off, none⟩) xs.length cap) := by rw [hd]; rfl
      simpa using this
    have e1 : ∀ k W, J k W → W.heap[b]? = some (.cells arr t fz) := fun k W h => (hFz k W h b hFb).trans hh
    have e2 : ∀ k W, J k W → W.heap[b2]? = some (.cells arr2 t2 fz2) := fun k W h => (hFz k W h b2 hF2).trans hh2
    have hg : ∀ (i : Nat) (n : Int), (tncells xs)[i]? = some (.int .i64 n) → ∀ k W, J k W → W.cell? ⟨b2, off + i, none⟩ = some (.int .i64 n) := fun i n hi k W h => by
      have := repL_at hr2 hi
      rw [List.getElem?_drop] at this
      simp only [World.cell?, e2 k W h]
      simpa using this
    refine callsIn_wide.1 (Go.Proofs.back_loop Fence.wide 1 trivial rfl (Nat.le_refl _) l b (o + 0) b2 off xs.length cap (fun k => (gn xs k).1) (fun k => (gn xs k).2.1) (fun k => (gn xs k).2.2.1) (fun k => (gn xs k).2.2.2) hl J Jx
      (fun k W h => by simp only [World.cell?, e1 k W h]; simpa using hs) (fun k W h j hj => ?_) (fun k W hk h => hY k W hk h _) W hJ)
    obtain ⟨g0, g1, g2, g3⟩ := tncells_get hj
    exact ⟨hg _ _ g0 k W h, hg _ _ g1 k W h, hg _ _ g2 k W h, hg _ _ g3 k W h⟩
end Go.Av
namespace Go.Av
open Go Go.Proofs Go.Sort
set_option maxRecDepth 10000
theorem hb67 : hasBody Tryz.prog 67 = true := by kernel_rfl
theorem iFal_c (vars : Int) (L : List (List Int)) (a : List Int) (hcl : ∀ i, i < L.length → clB vars (gl L i) = true) (hL : L.length ≤ 1048576) (ha : a.length ≤ 1048576) : ACall Tryz.prog 42 [.sl (sls L) L.length, .sl (icells a) a.length] [] (.osl 1 (icells (falP L a L.length)) (falP L a L.length).length none) [] := by
  refine ACall.intro Tryz.func42 rfl (N := 25) rfl (by decide) (by simp) ?_
  refine a_seq ?_
  refine a_region ?_
  refine rv (v := .nils) (v_assign (.inl rfl) nf) ?_
  refine r_nil ?_
  refine a_seq ?_
  refine a_region ?_
  refine rv (v := .nils) (v_assign (.inl rfl) nf) ?_
  refine r_nil ?_
  refine a_seq ?_
  refine a_seq ?_
  refine a_region ?_
  refine rv (v := .sl _ _) (v_move (.inl rfl) nf) ?_
  refine rv (v := .int _ _) (v_len_sl sl22 (.inl rfl)) ?_
  refine rv (v := .int _ _) (v_move (.inl rfl) nf) ?_
  refine r_nil ?_
  refine a_block ?_
  refine a_pre (ent_nil (t := 5) (sz := 1) (cap := none) (.inl rfl) (fun _ h => by cases h)) ?_
  refine a_loop (X := Nat) (fun i => look [(1, .sl (icells a) a.length), (5, .osl 1 (icells (falP L a i)) (falP L a i).length none), (8, .sl (sls L) L.length), (9, .int .i64 (L.length : Int)), (10, .int .i64 ((i : Nat) : Int))]) (fun i => i ≤ L.length) (fun i => L.length - i) 0 (ent_look ⟨Weak.of_eq rfl, Weak.osl rfl rfl, Weak.of_eq rfl, Weak.of_eq rfl, Weak.of_eq rfl, trivial⟩) (Nat.zero_le _) (fun i hG => ?_)
  have hfl := falP_len L a i
  refine a_seq ?_
  refine a_region ?_
  refine rv (v := .bool _) (v_lss (.inl rfl) (.inl rfl)) ?_
  refine r_nil ?_
  refine a_seq ?_
  refine a_cond rfl (fun ht11 => ?_) (fun ht11 => ?_)
  ·
    skip
    refine a_skip ?_
    refine a_seq ?_
    refine a_block ?_
    refine a_seq ?_
    have hi : i < L.length := (by simp at ht11; omega)
    have hci := hcl i hi
    have hln := clB_len hci
    refine a_region ?_
    refine rv (v := .int _ _) (v_move (.inl rfl) nf) ?_
    refine rv (v := .pp _ _) (v_indexAddr_sl es22 (.inl rfl) (.inl rfl) (fun _ => ⟨by omega, by omega, sls_ne hi⟩)) ?_
    refine rv (v := .sl (icells (gl L i)) (gl L i).length) (v_load_pp ta25 (.inl rfl) (fun _ => by rw [Nat.mul_one]; exact sls_get hi) rfl) ?_
    refine rv (v := .int _ _) (v_assign (.inl rfl) nf) ?_
    refine rv (v := .sl _ _) (v_assign (.inl rfl) nf) ?_
    refine r_nil ?_
    refine a_seq ?_
    refine a_region ?_
    refine rv (v := .sl _ _) (v_move (.inl rfl) nf) ?_
    refine rv (v := .sl _ _) (v_move (.inl rfl) nf) ?_
    refine rn (v := .int _ _) (q_call (vs := [.sl _ _, .sl _ _]) (args := [.sl _ _, .sl _ _]) hb67 ⟨.inl rfl, .inl rfl, trivial⟩ rfl (fun hA => iClv_c (gl L i) a (clB_sm hci) (by omega) ha) rfl rfl) ?_
    refine rv (v := .bool _) (v_lss (.inl rfl) (.inl rfl)) ?_
    refine r_nil ?_
    refine a_cond rfl (fun ht18 => ?_) (fun ht18 => ?_)
    ·
      skip
      refine a_region ?_
      refine rv (v := .rsl _ _ _ _ _) (v_move (.inl rfl) nf) ?_
      refine rv (v := .int _ _) (v_move (.inl rfl) nf) ?_
      refine rn (v := .osl 1 (icells [(i : Int)]) 1 (some 1)) (q_sliceLit (n := 1) (parts := [(0, .tmp 20)]) lt25 rfl rfl rfl rfl) ?_
      refine r_pre (ent_reloc_sl (t := 19) rfl rfl) ?_
      refine r_step rfl (o_append rfl ap25 rfl (by decide) (by decide) rfl (src_lit (.inl rfl) rfl rfl (ic_pureL _)) (ic_cell _) (by rw [icells_length]; omega) (by omega)) ?_
      refine rv (v := .rsl _ _ _ _ _) (v_assign (.inl rfl) nf) ?_
      refine r_pre (ent_reloc_sl (t := 5) rfl rfl) ?_
      refine r_nil ?_
      refine a_region ?_
      refine rv (v := .int _ _) (v_add (.inl rfl) (.inl rfl) (fun _ => by omega)) ?_
      refine rv (v := .int _ _) (v_move (.inl rfl) nf) ?_
      refine r_nil ?_
      refine ⟨i + 1, ent_look ⟨Weak.of_eq rfl, Weak.osl (by rw [falP_succ, if_pos (by simpa using ht18), icells_append] <;> rfl) (by rw [falP_succ, if_pos (by simpa using ht18)]; simp), Weak.of_eq rfl, Weak.of_eq rfl, Weak.of_eq (int_eq (by omega)), trivial⟩, by omega, by omega⟩
    ·
      skip
      refine a_skip ?_
      refine a_region ?_
      refine rv (v := .int _ _) (v_add (.inl rfl) (.inl rfl) (fun _ => by omega)) ?_
      refine rv (v := .int _ _) (v_move (.inl rfl) nf) ?_
      refine r_nil ?_
      refine ⟨i + 1, ent_look ⟨Weak.of_eq rfl, Weak.osl (by rw [falP_succ, if_neg (by simpa using ht18)]) (by rw [falP_succ, if_neg (by simpa using ht18)]), Weak.of_eq rfl, Weak.of_eq rfl, Weak.of_eq (int_eq (by omega)), trivial⟩, by omega, by omega⟩
  ·
    skip
    refine a_exit ?_
    refine a_seq ?_
    refine a_region ?_
    refine rv (v := .rsl _ _ _ _ _) (v_move (.inl rfl) nf) ?_
    refine rv (v := .rsl _ _ _ _ _) (v_assign (.inl rfl) nf) ?_
    refine r_pre (ent_reloc_sl (t := 4) rfl rfl) ?_
    refine r_nil ?_
    refine a_ret ?_
    refine ret1 Tryz.results42 (by decide) (by decide) (Weak.osl ?_ ?_) rfl Leaves.nil
    · simp at ht11; rw [show i = L.length by omega]
    · simp at ht11; rw [show i = L.length by omega]
end Go.Av
namespace Go.Av
open Go Go.Proofs Go.Sort
set_option maxRecDepth 10000
theorem es59 : elemSize Tryz.prog 59 = some 1 := by kernel_rfl
theorem hb34 : hasBody Tryz.prog 34 = true := by kernel_rfl
theorem hb41 : hasBody Tryz.prog 41 = true := by kernel_rfl
theorem hb65 : hasBody Tryz.prog 65 = true := by kernel_rfl
theorem hb66 : hasBody Tryz.prog 66 = true := by kernel_rfl
theorem lt22 : litTy Tryz.prog 22 = some (1, [.nils]) := by kernel_rfl
theorem sb4 : (Tryz.prog.info? 4).map (fun i => (i.size, i.bytes)) = some (1, 1) := by kernel_rfl
theorem ta4 : tyAgg Tryz.prog 4 = some (false, 1) := by kernel_rfl
theorem ta59 : tyAgg Tryz.prog 59 = some (false, 1) := by kernel_rfl
theorem us59 : Tryz.prog.underlying 59 = some (.slice 4) := by kernel_rfl
theorem zc22 : zeroCells Tryz.prog 22 = some [.nils] := by kernel_rfl
theorem zc4 : zeroCells Tryz.prog 4 = some [.bool false] := by kernel_rfl
theorem zc59 : zeroCells Tryz.prog 59 = some [.nils] := by kernel_rfl
theorem back_c (xs : List TN) : ACall Tryz.prog 41 [.sl (tncells xs) xs.length] [] (.fn 66 [] [.pp [.sl (tncells xs) xs.length] 0]) [] := by
 refine ACall.intro Tryz.func41 rfl (N := 4) rfl (by decide) (by simp) ?_
 refine a_seq ?_
 refine a_region ?_
 refine rn (v := .pp _ _) (QSem.cast (q_boxZ (.inl rfl) rfl rfl) (rfl)) ?_
 refine rv (v := .undef) (v_assign (.inl rfl) nf) ?_
 refine r_nil ?_
 refine a_seq ?_
 refine a_region ?_
 refine rv (v := .fn _ _ _) (v_makeFunc (first := []) (caps := [.tmp 1]) rfl rfl) ?_
 refine rv (v := .fn _ _ _) (v_as rfl) ?_
 refine r_nil ?_
 refine a_ret ?_
 refine ret1 Tryz.results41 (by decide) (by decide) (Weak.of_eq ?_) rfl Leaves.nil
 rfl
theorem iPaths_c (vars m : Int) (xs : List TN) (hv : 0 ≤ vars ∧ vars ≤ 12) (h0 : 0 < xs.length) (hl : xs.length ≤ 199) (ha : allN vars m xs = true) : ACall Tryz.prog 40 [.sl (tncells xs) xs.length] [] (.tup [.osl 1 (sls (pthL xs)) (pthL xs).length none, .bool (trI xs 0).isSome]) [] := by
 refine BCall.intro Tryz.func40 rfl (N := 86) rfl (by decide) (by simp) ?_
 refine b_seqA ?_
 refine a_region ?_
 refine rn (v := .op [.nils]) (q_alloc zc22) ?_
 refine rn (v := .op [.bool _]) (q_alloc zc4) ?_
 refine r_nil ?_
 refine b_seqA ?_
 refine a_region ?_
 refine rv (v := .sl _ _) (v_move (.inl rfl) nf) ?_
 refine rv (v := .int _ _) (v_len_sl sl42 (.inl rfl)) ?_
 refine rn (v := .osl _ _ _ _) (q_makeSlice us22 sb25 zc25 rfl (by decide) (.inl rfl) (.inl rfl) (fun _ => by omega)) ?_
 refine rn (v := .op [.nils]) (q_alloc zc22) ?_
 refine r_pre (ent_eq (t := 10) (v' := .osl 1 (sls (List.replicate xs.length [])) xs.length none) weak_rows) ?_
 refine r_step rfl (o_store_own (v := .osl _ _ _ _) (y' := .op [.osl _ _ _ _]) rfl rfl ta22 (.inl rfl) (by decide) rfl (by decide) rfl (by simp [cellsOf, noRefL, noRef, sls_noRef]) rfl rfl rfl rfl rfl (Nat.le_of_ble_eq_true rfl) rfl rfl) ?_
 refine r_nil ?_
 refine b_seqA ?_
 refine a_region ?_
 refine rv (v := .sl _ _) (v_move (.inl rfl) nf) ?_
 refine rv (v := .int _ _) (v_len_sl sl42 (.inl rfl)) ?_
 refine rn (v := .osl _ _ _ _) (q_makeSlice us59 sb4 zc4 rfl (by decide) (.inl rfl) (.inl rfl) (fun _ => by omega)) ?_
 refine rn (v := .op [.nils]) (q_alloc zc59) ?_
 refine r_pre (ent_eq (t := 13) (v' := .osl 1 (blcells (List.replicate xs.length false)) xs.length none) (Weak.osl (bl_rep _).symm rfl)) ?_
 refine r_step rfl (o_store_own (v := .osl _ _ _ _) (y' := .op [.osl _ _ _ _]) rfl rfl ta59 (.inl rfl) (by decide) rfl (by decide) rfl (by simp [cellsOf, noRefL, noRef, bl_noRef]) rfl rfl rfl rfl rfl (Nat.le_of_ble_eq_true rfl) rfl rfl) ?_
 refine r_nil ?_
 refine b_seqA ?_
 have hpl : (((xs.length : Int) - 1).toNat) * 1 + 1 ≤ (blcells (List.replicate xs.length false)).length := (by rw [bl_len]; simp; omega)
 have hset : (blcells (List.replicate xs.length false)).set (((xs.length : Int) - 1).toNat * 1) (.bool true) = blcells (seenL xs xs.length) := (by rw [Nat.mul_one, bl_set, seen_top, show ((xs.length : Int) - 1).toNat = xs.length - 1 by omega])
 refine a_region ?_
 refine rv (v := .rsl _ _ _ _ _) (v_load_rp (c := .osl _ _ _ _) ta59 (.inl rfl) rfl (fun _ => rfl)) ?_
 refine rv (v := .sl _ _) (v_move (.inl rfl) nf) ?_
 refine rv (v := .int _ _) (v_len_sl sl42 (.inl rfl)) ?_
 refine rv (v := .int _ _) (v_sub (.inl rfl) (.inl rfl) (fun _ => by omega)) ?_
 refine rv (v := .rp _ _) (v_indexAddr_rsl0 es59 (.inl rfl) (.inl rfl) (fun _ => by omega)) ?_
 refine r_step rfl (o_store (v := .bool _) (y' := .op [.osl _ _ _ _]) rfl rfl ta4 (.inl rfl) (.inl rfl) rfl rfl rfl rfl rfl rfl hpl (by decide) rfl (congrArg (fun c => AV.op [AV.osl 1 c xs.length none]) hset)) ?_
 refine r_nil ?_
 refine b_seqB ?_
 refine b_seqA ?_
 refine a_region ?_
 refine rv (v := .sl _ _) (v_move (.inl rfl) nf) ?_
 refine rn (v := .fn _ _ _) (q_callF (vs := [.sl _ _]) (args := [.sl _ _]) hb41 ⟨.inl rfl, trivial⟩ rfl (fun hA => back_c xs) rfl rfl) ?_
 refine r_nil ?_
 refine b_block ?_
 refine b_pre (ent_look (L := [(2, .op [.nils]), (3, .op [.bool _]), (4, .op [.osl _ _ _ _]), (5, .op [.osl _ _ _ _]), (20, .fn _ _ _)]) ⟨Weak.rfl, Weak.rfl, Weak.rfl, Weak.rfl, Weak.rfl, trivial⟩) ?_
 refine b_range (fun k => .agg [.int .i64 (gn xs k).1, .int .i64 (gn xs k).2.1, .int .i64 (gn xs k).2.2.1, .int .i64 (gn xs k).2.2.2]) [2, 3, 4, 5] [(2, .rp (2000002, []) 0), (3, .rp (2000003, []) 0), (4, .rp (2000004, []) 0), (5, .rp (2000005, []) 0)] (fun k => [(2000002, .op [.nils]), (2000003, .op [.bool false]), (2000004, .op [.osl 1 (sls (trP xs k)) xs.length none]), (2000005, .op [.osl 1 (blcells (seenL xs k)) xs.length none])]) (fun k => (trI xs k).isSome = true) (by decide) (by decide) rfl hb66 (back_it h0 (by omega)) (fun k hk => ⟨rfl, fun β F w p => tn_rep β F w p⟩) ⟨by decide, by decide, by decide⟩ rfl ⟨rfl, rfl, nr_rows, nr_bools, trivial⟩ (ent_look ⟨Weak.rfl, Weak.rfl, Weak.rfl, Weak.rfl, Weak.rfl, Weak.rfl, Weak.of_eq (congrArg (fun P => AV.op [AV.osl 1 (sls P) xs.length none]) (tr_top xs).symm), Weak.rfl, trivial⟩) (by rw [trI_top]; rfl) (fun k hk => ⟨rfl, ⟨⟨by decide, .inr rfl⟩, ⟨by decide, .inr rfl⟩, ⟨by decide, .inr rfl⟩, ⟨by decide, .inr rfl⟩, trivial⟩, ⟨rfl, rfl, nr_rows, nr_bools, trivial⟩⟩) (fun k hk hG => ?_) (fun hG => ?_)
 ·
  skip
  have hPo := tr_ok hv ha hG
  refine a_pre (ent_look (L := [(22, .agg [.int .i64 (gn xs k).1, .int .i64 (gn xs k).2.1, .int .i64 (gn xs k).2.2.1, .int .i64 (gn xs k).2.2.2]), (21, .int .i64 ((k : Nat) : Int)), (2, .rp (2000002, []) 0), (3, .rp (2000003, []) 0), (4, .rp (2000004, []) 0), (5, .rp (2000005, []) 0), (2000002, .op [.nils]), (2000003, .op [.bool false]), (2000004, .op [.osl 1 (sls (trP xs (k + 1))) xs.length none]), (2000005, .op [.osl 1 (blcells (seenL xs (k + 1))) xs.length none])]) ⟨Weak.rfl, Weak.rfl, Weak.rfl, Weak.rfl, Weak.rfl, Weak.rfl, Weak.rfl, Weak.rfl, Weak.rfl, Weak.rfl, trivial⟩) ?_
  refine a_seq ?_
  refine a_region ?_
  refine rv (v := .int _ _) (v_assign (.inl rfl) nf) ?_
  refine r_nil ?_
  refine a_region ?_
  refine rn (v := .op [.int _ _, .int _ _, .int _ _, .int _ _]) (q_alloc zc62) ?_
  refine r_step rfl (o_store (v := .agg [.int _ _, .int _ _, .int _ _, .int _ _]) (y' := .op [.int _ _, .int _ _, .int _ _, .int _ _]) rfl rfl ta62 (.inl rfl) (.inl rfl) rfl rfl rfl rfl rfl rfl (Nat.le_of_ble_eq_true rfl) (by decide) rfl rfl) ?_
  refine r_nil ?_
  refine ⟨rfl, ?_⟩
  refine a_block ?_
  refine a_seq ?_
  refine a_seq ?_
  refine a_region ?_
  refine rv (v := .rsl _ _ _ _ _) (v_load_rp (c := .osl _ _ _ _) ta59 (.inl rfl) rfl (fun _ => rfl)) ?_
  refine rv (v := .int _ _) (v_move (.inl rfl) nf) ?_
  refine rv (v := .rp _ _) (v_indexAddr_rsl0 es59 (.inl rfl) (.inl rfl) (fun _ => by omega)) ?_
  refine rv (v := .bool (seenB xs (k + 1) k)) (v_load_rp1 ta4 (.inl rfl) rfl (fun _ => by rw [Nat.mul_one]; exact bl_get (seenL_get hk)) rfl) ?_
  refine rv (v := .bool _) (v_not (.inl rfl)) ?_
  refine r_nil ?_
  refine a_cond rfl (fun ht27 => ?_) (fun ht27 => ?_)
  ·
   skip
   refine a_seq ?_
   have hun := tr_unseen hk hG (by simpa using ht27)
   refine a_region ?_
   refine r_step rfl (o_store (v := .nils) (y' := .op [.nils]) rfl rfl ta22 (.inl rfl) (.inl rfl) rfl rfl rfl rfl rfl rfl (Nat.le_of_ble_eq_true rfl) (by decide) rfl rfl) ?_
   refine r_step rfl (o_store (v := .bool _) (y' := .op [.bool _]) rfl rfl ta4 (.inl rfl) (.inl rfl) rfl rfl rfl rfl rfl rfl (Nat.le_of_ble_eq_true rfl) (by decide) rfl rfl) ?_
   refine r_nil ?_
   refine a_pre (ent_nil_at (t := 2000002) (r := [0]) (sz := 1) rfl (.inl rfl) rfl rfl) ?_
   refine a_ret ?_
   refine ⟨[(2000002, .op [.osl 1 [] 0 none]), (2000003, .op [.bool false]), (2000004, .op [.osl 1 (sls (trP xs (k + 1))) xs.length none]), (2000005, .op [.osl 1 (blcells (seenL xs (k + 1))) xs.length none])], ent_look ⟨Weak.rfl, Weak.rfl, Weak.rfl, Weak.rfl, trivial⟩, ⟨rfl, ⟨⟨by decide, .inr rfl⟩, ⟨by decide, .inr rfl⟩, ⟨by decide, .inr rfl⟩, ⟨by decide, .inr rfl⟩, trivial⟩, ⟨rfl, rfl, nr_rows, nr_bools, trivial⟩⟩, ?_⟩
   refine Returns.pre (ent_look (L := [(2, .op [.osl 1 [] 0 none]), (3, .op [.bool false]), (4, .op [.osl 1 (sls (trP xs (k + 1))) xs.length none]), (5, .op [.osl 1 (blcells (seenL xs (k + 1))) xs.length none])]) ⟨Weak.rfl, Weak.rfl, Weak.rfl, Weak.rfl, trivial⟩) ?_
   refine retL (rs := [.cell 2 22, .cell 3 4]) [(2, .op [.osl _ _ _ none]), (3, .op [.bool _])] ⟨Weak.rfl, Weak.rfl, trivial⟩ rfl Tryz.results40 (by decide) ⟨by decide, .osl _ _ _ none, cell_one rfl ta22, by decide, .bool _, cell_one rfl ta4, rfl⟩ (by decide) (by decide) (l2_eq (osl_eq2 ?_ ?_) (bool_eq ?_)) rfl
   all_goals (first | exact hun.symm | (rw [pth_none hun]; rfl))
  ·
   skip
   refine a_skip ?_
   refine a_seq ?_
   refine a_seq ?_
   have hse : seenB xs (k + 1) k = true := (by simpa using ht27)
   refine a_region ?_
   refine rv (v := .rp _ _) (v_fieldAddr_rp fo62_0 (.inl rfl)) ?_
   refine rv (v := .int _ _) (v_load_rp1 ta3 (.inl rfl) rfl (fun _ => rfl) rfl) ?_
   refine rv (v := .bool _) (v_eql (.inl rfl) (.inl rfl)) ?_
   refine r_nil ?_
   refine a_cond rfl (fun ht30 => ?_) (fun ht30 => ?_)
   ·
    skip
    refine a_exit ?_
    exact ⟨ent_look ⟨Weak.of_eq rfl, Weak.of_eq rfl, Weak.of_eq (congrArg (fun P => AV.op [AV.osl 1 (sls P) xs.length none]) (tr_leaf hk hG hse (by simpa [nV] using ht30)).1.symm), Weak.of_eq (congrArg (fun B => AV.op [AV.osl 1 (blcells B) xs.length none]) (seen_leaf hk (by simpa [nV] using ht30)).symm), trivial⟩, (tr_leaf hk hG hse (by simpa [nV] using ht30)).2⟩
   ·
    skip
    refine a_skip ?_
    refine a_seq ?_
    refine a_seq ?_
    have hvn : nV xs k ≠ 0 := (by simpa [nV] using ht30)
    have hin := inner_spec (allN_spec ha k hk) hvn
    have hde := ded_on (p := gl (trP xs (k + 1)) k) (v := (gn xs k).1) (by unfold nV at hin; omega)
    have hpc := clB_len (hPo.2 k)
    have hps := clB_sm (hPo.2 k)
    refine a_region_any mixed (by kernel_rfl) ?_
    refine yv (v := .rsl _ _ _ _ _) (v_load_rp (c := .osl _ _ _ _) ta59 (.inl rfl) rfl (fun _ => rfl)) ?_
    refine yv (v := .rp _ _) (v_fieldAddr_rp fo62_1 (.inl rfl)) ?_
    refine yv (v := .int _ _) (v_load_rp1 ta3 (.inl rfl) rfl (fun _ => rfl) rfl) ?_
    refine yv (v := .rp _ _) (v_indexAddr_rsl0 es59 (.inl rfl) (.inl rfl) (fun _ => by omega)) ?_
    refine yv (v := .bool (seenB xs (k + 1) (nLo xs k))) (v_load_rp1 ta4 (.inl rfl) rfl (fun _ => by rw [Nat.mul_one]; exact bl_get (seenL_get (show nLo xs k < xs.length by omega))) rfl) ?_
    refine yv (v := .bool _) (v_move (.inl rfl) nf) ?_
    refine yg (v := .rsl _ _ _ _ _) (v_load_rp (c := .osl _ _ _ _) ta59 (.inl rfl) rfl (fun _ => rfl)).quiet rfl rfl rfl (by decide) (.inl ⟨_, rfl, rfl⟩) ?_
    refine yg (v := .rp _ _) (v_fieldAddr_rp fo62_2 (.inl rfl)).quiet rfl rfl rfl (by decide) (.inl ⟨_, rfl, rfl⟩) ?_
    refine yg (v := .int _ _) (v_load_rp1 ta3 (.inr ⟨_, rfl, fun h => h⟩) rfl (fun _ => rfl) rfl).quiet rfl rfl rfl (by decide) (.inl ⟨_, rfl, rfl⟩) ?_
    refine yg (v := .rp _ _) (v_indexAddr_rsl0 es59 (.inr ⟨_, rfl, fun h => h⟩) (.inr ⟨_, rfl, fun h => h⟩) (fun _ => by omega)).quiet rfl rfl rfl (by decide) (.inl ⟨_, rfl, rfl⟩) ?_
    refine yg (v := .bool (seenB xs (k + 1) (nHi xs k))) (v_load_rp1 ta4 (.inr ⟨_, rfl, fun h => h⟩) rfl (fun _ => by rw [Nat.mul_one]; exact bl_get (seenL_get (show nHi xs k < xs.length by omega))) rfl).quiet rfl rfl rfl (by decide) (.inl ⟨_, rfl, rfl⟩) ?_
    refine yv (v := .bool _) (v_pick (.inl rfl) (.inl rfl) (.inr ⟨_, rfl, fun h h2 => by simp_all⟩)) ?_
    refine yv (v := .bool _) (v_move (.inl rfl) nf) ?_
    refine yg (v := .rsl _ _ _ _ _) (v_load_rp (c := .osl _ _ _ _) ta22 (.inl rfl) rfl (fun _ => rfl)).quiet rfl rfl rfl (by decide) (.inl ⟨_, rfl, rfl⟩) ?_
    refine yg (v := .int _ _) (v_move (.inl rfl) nf).quiet rfl rfl rfl (by decide) (.inl ⟨_, rfl, rfl⟩) ?_
    refine yg (v := .rp _ _) (v_indexAddr_rsl0 es22 (.inr ⟨_, rfl, fun h => h⟩) (.inr ⟨_, rfl, fun h => h⟩) (fun _ => by omega)).quiet rfl rfl rfl (by decide) (.inl ⟨_, rfl, rfl⟩) ?_
    refine yg (v := .sl (icells (gl (trP xs (k + 1)) k)) (gl (trP xs (k + 1)) k).length) (v_load_rp1 ta25 (.inr ⟨_, rfl, fun h => h⟩) rfl (fun _ => by rw [Nat.mul_one]; exact sls_get (show k < (trP xs (k + 1)).length by rw [hPo.1]; exact hk)) rfl).quiet rfl rfl rfl (by decide) (.inl ⟨_, rfl, rfl⟩) ?_
    refine yg (v := .sl [.sl (icells (gl (trP xs (k + 1)) k)) (gl (trP xs (k + 1)) k).length] 1) ((q_sliceLit1Z (v := .sl _ _) (cs := [.sl (icells (gl (trP xs (k + 1)) k)) (gl (trP xs (k + 1)) k).length]) (.inr ⟨_, rfl, fun h => h⟩) nf lt22 rfl rfl rfl rfl).cast (by first | rfl | rw [shL_id _ (ic_pure _).1 (ic_pure _).2])) rfl rfl rfl (by decide) (.inl ⟨_, rfl, rfl⟩) ?_
    refine yg (v := .sl _ _) (QSem.cast (q_callZ (vs := [.sl _ _]) (args := [.sl _ _]) hb65 ⟨.inr ⟨_, rfl, fun h => h⟩, trivial⟩ rfl (fun hA => varsOf1_c (gl (trP xs (k + 1)) k) hpc hps) (ic_noSh _) (ic_noRef _)) (sl_shZ (ic_pure _))) rfl rfl rfl (by decide) (.inl ⟨_, rfl, rfl⟩) ?_
    refine yg (v := .rp _ _) (v_fieldAddr_rp fo62_0 (.inl rfl)).quiet rfl rfl rfl (by decide) (.inl ⟨_, rfl, rfl⟩) ?_
    refine yg (v := .int _ _) (v_load_rp1 ta3 (.inr ⟨_, rfl, fun h => h⟩) rfl (fun _ => rfl) rfl).quiet rfl rfl rfl (by decide) (.inl ⟨_, rfl, rfl⟩) ?_
    refine yg (v := .bool _) (q_call (vs := [.sl _ _, .int _ _]) (args := [.sl _ _, .int .i64 _]) hb56 ⟨.inr ⟨_, rfl, fun h => h⟩, .inr ⟨_, rfl, fun h => h⟩, trivial⟩ rfl (fun hA => contains_c (dedN (insertionSort (fun x y : Int => decide (x < y)) ((gl (trP xs (k + 1)) k).map fun x => max x (-x)).toArray 0 ((gl (trP xs (k + 1)) k).map fun x => max x (-x)).length) ((gl (trP xs (k + 1)) k).map fun x => max x (-x)).length) _ (ded_few9 hpc)) rfl rfl) rfl rfl rfl (by decide) (.inl ⟨_, rfl, rfl⟩) ?_
    refine yv (v := .bool _) (v_pick (.inl rfl) (.inl rfl) (.inr ⟨_, rfl, fun h h2 => by simp_all⟩)) ?_
    refine y_nil ?_
    refine a_cond rfl (fun ht53 => ?_) (fun ht53 => ?_)
    ·
     skip
     refine a_seq ?_
     refine a_pre (ent_look (L := [(2, .rp _ _), (3, .rp _ _), (4, .rp _ _), (5, .rp _ _), (6, .int _ _), (7, .op [.int _ _, .int _ _, .int _ _, .int _ _]), (2000002, .op [.nils]), (2000003, .op [.bool _]), (2000004, .op [.osl _ _ _ _]), (2000005, .op [.osl _ _ _ _])]) ⟨Weak.rfl, Weak.rfl, Weak.rfl, Weak.rfl, Weak.rfl, Weak.rfl, Weak.rfl, Weak.rfl, Weak.rfl, Weak.rfl, trivial⟩) ?_
     have hbad := tr_bad hk hG hvn (by rw [hde] at ht53; unfold trOn nV; revert ht53; cases seenB xs (k + 1) (nLo xs k) <;> cases seenB xs (k + 1) (nHi xs k) <;> simp)
     refine a_region ?_
     refine r_step rfl (o_store (v := .nils) (y' := .op [.nils]) rfl rfl ta22 (.inl rfl) (.inl rfl) rfl rfl rfl rfl rfl rfl (Nat.le_of_ble_eq_true rfl) (by decide) rfl rfl) ?_
     refine r_step rfl (o_store (v := .bool _) (y' := .op [.bool _]) rfl rfl ta4 (.inl rfl) (.inl rfl) rfl rfl rfl rfl rfl rfl (Nat.le_of_ble_eq_true rfl) (by decide) rfl rfl) ?_
     refine r_nil ?_
     refine a_pre (ent_nil_at (t := 2000002) (r := [0]) (sz := 1) rfl (.inl rfl) rfl rfl) ?_
     refine a_ret ?_
     refine ⟨[(2000002, .op [.osl 1 [] 0 none]), (2000003, .op [.bool false]), (2000004, .op [.osl 1 (sls (trP xs (k + 1))) xs.length none]), (2000005, .op [.osl 1 (blcells (seenL xs (k + 1))) xs.length none])], ent_look ⟨Weak.rfl, Weak.rfl, Weak.rfl, Weak.rfl, trivial⟩, ⟨rfl, ⟨⟨by decide, .inr rfl⟩, ⟨by decide, .inr rfl⟩, ⟨by decide, .inr rfl⟩, ⟨by decide, .inr rfl⟩, trivial⟩, ⟨rfl, rfl, nr_rows, nr_bools, trivial⟩⟩, ?_⟩
     refine Returns.pre (ent_look (L := [(2, .op [.osl 1 [] 0 none]), (3, .op [.bool false]), (4, .op [.osl 1 (sls (trP xs (k + 1))) xs.length none]), (5, .op [.osl 1 (blcells (seenL xs (k + 1))) xs.length none])]) ⟨Weak.rfl, Weak.rfl, Weak.rfl, Weak.rfl, trivial⟩) ?_
     refine retL (rs := [.cell 2 22, .cell 3 4]) [(2, .op [.osl _ _ _ none]), (3, .op [.bool _])] ⟨Weak.rfl, Weak.rfl, trivial⟩ rfl Tryz.results40 (by decide) ⟨by decide, .osl _ _ _ none, cell_one rfl ta22, by decide, .bool _, cell_one rfl ta4, rfl⟩ (by decide) (by decide) (l2_eq (osl_eq2 ?_ ?_) (bool_eq ?_)) rfl
     all_goals (first | exact hbad.symm | (rw [pth_none hbad]; rfl))
    ·
     skip
     refine a_skip ?_
     refine a_seq ?_
     refine a_pre (ent_look (L := [(2, .rp _ _), (3, .rp _ _), (4, .rp _ _), (5, .rp _ _), (6, .int _ _), (7, .op [.int _ _, .int _ _, .int _ _, .int _ _]), (2000002, .op [.nils]), (2000003, .op [.bool _]), (2000004, .op [.osl _ _ _ _]), (2000005, .op [.osl _ _ _ _])]) ⟨Weak.rfl, Weak.rfl, Weak.rfl, Weak.rfl, Weak.rfl, Weak.rfl, Weak.rfl, Weak.rfl, Weak.rfl, Weak.rfl, trivial⟩) ?_
     have hgo : (seenB xs (k + 1) (nLo xs k) || seenB xs (k + 1) (nHi xs k) || trOn xs k (trP xs (k + 1))) = false := (by rw [hde] at ht53; unfold trOn nV; revert ht53; cases seenB xs (k + 1) (nLo xs k) <;> cases seenB xs (k + 1) (nHi xs k) <;> simp)
     have hgood := tr_good hk hG hse hvn hgo
     have hon := trOn_no (by simp at hgo; exact hgo.2)
     have hl1 : litB vars (nV xs k) = true := litB_spec.2 ⟨by omega, by omega⟩
     have hl2 : litB vars (-(nV xs k)) = true := litB_spec.2 ⟨by omega, by omega⟩
     have hp1 : (nLo xs k) * 1 + 1 ≤ (blcells (seenL xs (k + 1))).length := (by rw [bl_len]; simp [seenL_len]; omega)
     have hs1 : (blcells (seenL xs (k + 1))).set ((nLo xs k) * 1) (.bool true) = blcells ((seenL xs (k + 1)).set (nLo xs k) true) := (by rw [Nat.mul_one, bl_set])
     have hp2 : (nHi xs k) * 1 + 1 ≤ (blcells ((seenL xs (k + 1)).set (nLo xs k) true)).length := (by rw [bl_len]; simp [seenL_len]; omega)
     have hs2 : (blcells ((seenL xs (k + 1)).set (nLo xs k) true)).set ((nHi xs k) * 1) (.bool true) = blcells (((seenL xs (k + 1)).set (nLo xs k) true).set (nHi xs k) true) := (by rw [Nat.mul_one, bl_set])
     have hp3 : (nLo xs k) * 1 + 1 ≤ (sls (trP xs (k + 1))).length := (by rw [sls_length]; simp [hPo.1]; omega)
     have hs3 : (sls (trP xs (k + 1))).set ((nLo xs k) * 1) (.sl (icells (setLit (gl (trP xs (k + 1)) k) (-(nV xs k)))) (setLit (gl (trP xs (k + 1)) k) (-(nV xs k))).length) = sls ((trP xs (k + 1)).set (nLo xs k) (setLit (gl (trP xs (k + 1)) k) (-(nV xs k)))) := (by rw [Nat.mul_one, sls_set])
     have hp4 : (nHi xs k) * 1 + 1 ≤ (sls ((trP xs (k + 1)).set (nLo xs k) (setLit (gl (trP xs (k + 1)) k) (-(nV xs k))))).length := (by rw [sls_length]; simp [hPo.1]; omega)
     have hs4 : (sls ((trP xs (k + 1)).set (nLo xs k) (setLit (gl (trP xs (k + 1)) k) (-(nV xs k))))).set ((nHi xs k) * 1) (.sl (icells (setLit (gl (trP xs (k + 1)) k) (nV xs k))) (setLit (gl (trP xs (k + 1)) k) (nV xs k)).length) = sls (((trP xs (k + 1)).set (nLo xs k) (setLit (gl (trP xs (k + 1)) k) (-(nV xs k)))).set (nHi xs k) (setLit (gl (trP xs (k + 1)) k) (nV xs k))) := (by rw [Nat.mul_one, sls_set])
     have hrow : gl ((trP xs (k + 1)).set (nLo xs k) (setLit (gl (trP xs (k + 1)) k) (-(nV xs k)))) k = gl (trP xs (k + 1)) k := (by rw [gl_set, if_neg (by omega)])
     have hPf : ((trP xs (k + 1)).set (nLo xs k) (setLit (gl (trP xs (k + 1)) k) (-(nV xs k)))).set (nHi xs k) (setLit (gl (trP xs (k + 1)) k) (nV xs k)) = trP xs k := (by rw [hgood.1]; unfold trPut; rw [set_put hon.1 hon.2, set_put hon.2 (by rw [Int.neg_neg]; exact hon.1)])
     refine a_region ?_
     refine rv (v := .rsl _ _ _ _ _) (v_load_rp (c := .osl _ _ _ _) ta59 (.inl rfl) rfl (fun _ => rfl)) ?_
     refine rv (v := .rp _ _) (v_fieldAddr_rp fo62_1 (.inl rfl)) ?_
     refine rv (v := .int _ _) (v_load_rp1 ta3 (.inl rfl) rfl (fun _ => rfl) rfl) ?_
     refine rv (v := .rp _ _) (v_indexAddr_rsl0 es59 (.inl rfl) (.inl rfl) (fun _ => by omega)) ?_
     refine r_step rfl (o_store (v := .bool _) (y' := .op [.osl _ _ _ _]) rfl rfl ta4 (.inl rfl) (.inl rfl) rfl rfl rfl rfl rfl rfl hp1 (by decide) rfl (congrArg (fun c => AV.op [AV.osl 1 c xs.length none]) hs1)) ?_
     refine r_nil ?_
     refine a_seq ?_
     refine a_region ?_
     refine rv (v := .rsl _ _ _ _ _) (v_load_rp (c := .osl _ _ _ _) ta59 (.inl rfl) rfl (fun _ => rfl)) ?_
     refine rv (v := .rp _ _) (v_fieldAddr_rp fo62_2 (.inl rfl)) ?_
     refine rv (v := .int _ _) (v_load_rp1 ta3 (.inl rfl) rfl (fun _ => rfl) rfl) ?_
     refine rv (v := .rp _ _) (v_indexAddr_rsl0 es59 (.inl rfl) (.inl rfl) (fun _ => by omega)) ?_
     refine r_step rfl (o_store (v := .bool _) (y' := .op [.osl _ _ _ _]) rfl rfl ta4 (.inl rfl) (.inl rfl) rfl rfl rfl rfl rfl rfl hp2 (by decide) rfl (congrArg (fun c => AV.op [AV.osl 1 c xs.length none]) hs2)) ?_
     refine r_nil ?_
     refine a_seq ?_
     refine a_region_z (n := 12) [[(62, true)], [(63, true)], [(64, true)], [(65, true)], [(66, true)], [(67, true)], [(68, true)], [(69, true)], [(70, true)], [(71, true)], [(72, true)], [(73, true)]] mixed (by kernel_rfl) ?_
     refine z_val (v := .rsl _ _ _ _ _) (v_load_rp (c := .osl _ _ _ _) ta22 (.inl rfl) rfl (fun _ => rfl)) rfl rfl (by decide) rfl (by kernel_rfl) ?_
     refine z_val (v := .rp _ _) (v_fieldAddr_rp fo62_1 (.inl rfl)) rfl rfl (by decide) rfl (by kernel_rfl) ?_
     refine z_val (v := .int _ _) (v_load_rp1 ta3 (.inl rfl) rfl (fun _ => rfl) rfl) rfl rfl (by decide) rfl (by kernel_rfl) ?_
     refine z_val (v := .rsl _ _ _ _ _) (v_load_rp (c := .osl _ _ _ _) ta22 (.inl rfl) rfl (fun _ => rfl)) rfl rfl (by decide) rfl (by kernel_rfl) ?_
     refine z_val (v := .int _ _) (v_move (.inl rfl) nf) rfl rfl (by decide) rfl (by kernel_rfl) ?_
     refine z_val (v := .rp _ _) (v_indexAddr_rsl0 es22 (.inl rfl) (.inl rfl) (fun _ => by omega)) rfl rfl (by decide) rfl (by kernel_rfl) ?_
     refine z_val (v := .sl (icells (gl (trP xs (k + 1)) k)) (gl (trP xs (k + 1)) k).length) (v_load_rp1 ta25 (.inl rfl) rfl (fun _ => by rw [Nat.mul_one]; exact sls_get (show k < (trP xs (k + 1)).length by rw [hPo.1]; exact hk)) rfl) rfl rfl (by decide) rfl (by kernel_rfl) ?_
     refine z_val (v := .rp _ _) (v_fieldAddr_rp fo62_0 (.inl rfl)) rfl rfl (by decide) rfl (by kernel_rfl) ?_
     refine z_val (v := .int _ _) (v_load_rp1 ta3 (.inl rfl) rfl (fun _ => rfl) rfl) rfl rfl (by decide) rfl (by kernel_rfl) ?_
     refine z_val (v := .int _ _) (v_neg (.inl rfl) (fun _ => by unfold nV at hin; omega)) rfl rfl (by decide) rfl (by kernel_rfl) ?_
     refine z_new (v := .sl _ _) (QSem.cast (q_callZ (vs := [.sl _ _, .int _ _]) (args := [.sl _ _, .int .i64 _]) hb34 ⟨.inl rfl, .inl rfl, trivial⟩ rfl (fun hA => set_c vars (gl (trP xs (k + 1)) k) (-(nV xs k)) (hPo.2 k) hl2) (ic_noSh _) (ic_noRef _)) (sl_shZ (ic_pure _))) rfl rfl (by decide) rfl (by kernel_rfl) ?_
     refine z_val (v := .rp _ _) (v_indexAddr_rsl0 es22 (.inl rfl) (.inl rfl) (fun _ => by omega)) rfl rfl (by decide) rfl (by kernel_rfl) ?_
     refine z_nil ?_
     refine r_step rfl (o_store (v := .sl _ _) (y' := .op [.osl _ _ _ _]) rfl rfl ta25 (.inl rfl) (.inl rfl) rfl rfl rfl rfl rfl rfl hp3 (by decide) rfl (congrArg (fun c => AV.op [AV.osl 1 c xs.length none]) hs3)) ?_
     refine r_nil ?_
     refine a_pre (ent_look (L := [(2, .rp _ _), (3, .rp _ _), (4, .rp _ _), (5, .rp _ _), (6, .int _ _), (7, .op [.int _ _, .int _ _, .int _ _, .int _ _]), (2000002, .op [.nils]), (2000003, .op [.bool _]), (2000004, .op [.osl _ _ _ _]), (2000005, .op [.osl _ _ _ _])]) ⟨Weak.rfl, Weak.rfl, Weak.rfl, Weak.rfl, Weak.rfl, Weak.rfl, Weak.rfl, Weak.rfl, Weak.rfl, Weak.rfl, trivial⟩) ?_
     refine a_region_z (n := 11) [[(74, true)], [(75, true)], [(76, true)], [(77, true)], [(78, true)], [(79, true)], [(80, true)], [(81, true)], [(82, true)], [(83, true)], [(84, true)]] mixed (by kernel_rfl) ?_
     refine z_val (v := .rsl _ _ _ _ _) (v_load_rp (c := .osl _ _ _ _) ta22 (.inl rfl) rfl (fun _ => rfl)) rfl rfl (by decide) rfl (by kernel_rfl) ?_
     refine z_val (v := .rp _ _) (v_fieldAddr_rp fo62_2 (.inl rfl)) rfl rfl (by decide) rfl (by kernel_rfl) ?_
     refine z_val (v := .int _ _) (v_load_rp1 ta3 (.inl rfl) rfl (fun _ => rfl) rfl) rfl rfl (by decide) rfl (by kernel_rfl) ?_
     refine z_val (v := .rsl _ _ _ _ _) (v_load_rp (c := .osl _ _ _ _) ta22 (.inl rfl) rfl (fun _ => rfl)) rfl rfl (by decide) rfl (by kernel_rfl) ?_
     refine z_val (v := .int _ _) (v_move (.inl rfl) nf) rfl rfl (by decide) rfl (by kernel_rfl) ?_
     refine z_val (v := .rp _ _) (v_indexAddr_rsl0 es22 (.inl rfl) (.inl rfl) (fun _ => by omega)) rfl rfl (by decide) rfl (by kernel_rfl) ?_
     refine z_val (v := .sl (icells (gl (trP xs (k + 1)) k)) (gl (trP xs (k + 1)) k).length) (v_load_rp1 ta25 (.inl rfl) rfl (fun _ => by rw [Nat.mul_one]; have := sls_get (L := ((trP xs (k + 1)).set (nLo xs k) (setLit (gl (trP xs (k + 1)) k) (-(nV xs k))))) (i := k) (by rw [List.length_set, hPo.1]; exact hk); rw [hrow] at this; exact this) rfl) rfl rfl (by decide) rfl (by kernel_rfl) ?_
     refine z_val (v := .rp _ _) (v_fieldAddr_rp fo62_0 (.inl rfl)) rfl rfl (by decide) rfl (by kernel_rfl) ?_
     refine z_val (v := .int _ _) (v_load_rp1 ta3 (.inl rfl) rfl (fun _ => rfl) rfl) rfl rfl (by decide) rfl (by kernel_rfl) ?_
     refine z_new (v := .sl _ _) (QSem.cast (q_callZ (vs := [.sl _ _, .int _ _]) (args := [.sl _ _, .int .i64 _]) hb34 ⟨.inl rfl, .inl rfl, trivial⟩ rfl (fun hA => set_c vars (gl (trP xs (k + 1)) k) (nV xs k) (hPo.2 k) hl1) (ic_noSh _) (ic_noRef _)) (sl_shZ (ic_pure _))) rfl rfl (by decide) rfl (by kernel_rfl) ?_
     refine z_val (v := .rp _ _) (v_indexAddr_rsl0 es22 (.inl rfl) (.inl rfl) (fun _ => by omega)) rfl rfl (by decide) rfl (by kernel_rfl) ?_
     refine z_nil ?_
     refine r_step rfl (o_store (v := .sl _ _) (y' := .op [.osl _ _ _ _]) rfl rfl ta25 (.inl rfl) (.inl rfl) rfl rfl rfl rfl rfl rfl hp4 (by decide) rfl (congrArg (fun c => AV.op [AV.osl 1 c xs.length none]) hs4)) ?_
     refine r_nil ?_
     exact ⟨ent_look ⟨Weak.of_eq rfl, Weak.of_eq rfl, Weak.of_eq (congrArg (fun P => AV.op [AV.osl 1 (sls P) xs.length none]) hPf), Weak.of_eq (congrArg (fun B => AV.op [AV.osl 1 (blcells B) xs.length none]) (seen_inner hk hvn)), trivial⟩, hgood.2⟩
 ·
  skip
  refine b_pre (ent_look (L := [(2, .op [.nils]), (3, .op [.bool false]), (4, .op [.osl 1 (sls (trP xs 0)) xs.length none]), (5, .op [.osl 1 (blcells (seenL xs 0)) xs.length none])]) ⟨Weak.rfl, Weak.rfl, Weak.rfl, Weak.rfl, trivial⟩) ?_
  refine b_lift ?_
  refine a_seq ?_
  refine a_region ?_
  refine rv (v := .rsl _ _ _ _ _) (v_load_rp (c := .osl _ _ _ _) ta22 (.inl rfl) rfl (fun _ => rfl)) ?_
  refine r_pre (ent_reloc_sl (t := 85) rfl rfl) ?_
  refine r_step rfl (o_store_own (v := .osl _ _ _ _) (y' := .op [.osl _ _ _ _]) rfl rfl ta22 (.inl rfl) (by decide) rfl (by decide) rfl (by simp [cellsOf, noRefL, noRef, sls_noRef]) rfl rfl rfl rfl rfl (Nat.le_of_ble_eq_true rfl) rfl rfl) ?_
  refine r_step rfl (o_store (v := .bool _) (y' := .op [.bool _]) rfl rfl ta4 (.inl rfl) (.inl rfl) rfl rfl rfl rfl rfl rfl (Nat.le_of_ble_eq_true rfl) (by decide) rfl rfl) ?_
  refine r_nil ?_
  refine a_ret ?_
  refine retL (rs := [.cell 2 22, .cell 3 4]) [(2, .op [.osl _ _ _ none]), (3, .op [.bool _])] ⟨Weak.rfl, Weak.rfl, trivial⟩ rfl Tryz.results40 (by decide) ⟨by decide, .osl _ _ _ none, cell_one rfl ta22, by decide, .bool _, cell_one rfl ta4, rfl⟩ (by decide) (by decide) (l2_eq (osl_eq2 ?_ ?_) (bool_eq ?_)) rfl
  all_goals (first | rfl | exact hG.symm | exact (tr_ok hv ha hG).1.symm)
end Go.Av
namespace Go.Av
open Go Go.Sort
def treeB (vars : Int) (L : List (List Int)) (xs : List TN) : Bool := cnfB vars L && inR xs.length 1 199 && allN vars L.length xs && (trI xs 0).isSome
def pthT (vars : Int) (L : List (List Int)) (xs : List TN) : List (List Int) := if treeB vars L xs then trP xs 0 else []
section
variable {vars : Int} {L : List (List Int)} {xs : List TN}
theorem treeB_spec (h : treeB vars L xs = true) : cnfB vars L = true ∧ (0 < xs.length ∧ xs.length ≤ 199) ∧ allN vars L.length xs = true ∧ (trI xs 0).isSome = true := by
  unfold treeB at h
  simp only [Bool.and_eq_true, inR, decide_eq_true_eq] at h
  exact ⟨h.1.1.1, by omega, h.1.2, h.2⟩
theorem treeB_len (h : (cnfB vars L && inR xs.length 1 199) = false) : treeB vars L xs = false := by unfold treeB; rw [h]; rfl
theorem treeB_node (h : allN vars L.length xs = false) : treeB vars L xs = false := by unfold treeB; rw [h]; simp
theorem treeB_yes (h1 : cnfB vars L = true) (h2 : 0 < xs.length ∧ xs.length ≤ 199) (h3 : allN vars L.length xs = true) : treeB vars L xs = (trI xs 0).isSome := by
  unfold treeB; rw [h1, h3]; simp [inR]; omega
theorem treeB_once (h2 : 0 < xs.length ∧ xs.length ≤ 199) (h3 : allN vars L.length xs = true) (h : onceB xs = false) : treeB vars L xs = false := by
  unfold treeB; rw [tr_isSome h3 h2.1, h]; simp
theorem treeB_path (h2 : 0 < xs.length ∧ xs.length ≤ 199) (h3 : allN vars L.length xs = true) (h : (trS xs 0).isSome = false) : treeB vars L xs = false := by
  unfold treeB; rw [tr_isSome h3 h2.1, h]; simp
theorem treeB_ok (h1 : cnfB vars L = true) (h2 : 0 < xs.length ∧ xs.length ≤ 199) (h3 : allN vars L.length xs = true) (ho : onceB xs = true) (h : (trS xs 0).isSome = true) : treeB vars L xs = true ∧ pthT vars L xs = trQ xs 0 := by
  have h4 : treeB vars L xs = true := by rw [treeB_yes h1 h2 h3, tr_isSome h3 h2.1, ho, h]; rfl
  refine ⟨h4, ?_⟩
  unfold pthT; rw [h4, if_pos rfl]
  exact tr_val h3 h2.1 (treeB_spec h4).2.2.2
theorem pthT_no (h : treeB vars L xs = false) : pthT vars L xs = [] := by unfold pthT; rw [h]; rfl
theorem pthT_yes (h : treeB vars L xs = true) : pthT vars L xs = pthL xs := by unfold pthT; rw [h]; rfl
theorem pth_ok (h : treeB vars L xs = true) : PathsOk vars xs (pthL xs) := by
  obtain ⟨h1, _, h3, h4⟩ := treeB_spec h
  exact tr_ok (cnfB_spec h1).1 h3 h4
theorem rep_set {n i : Nat} : (List.replicate n ([] : List Int)).set i [] = List.replicate n [] := by
  apply List.ext_getElem
  · simp
  · intro j h1 h2; simp [List.getElem_set]
end
def badB (L : List (List Int)) (xs : List TN) (P : List (List Int)) (i : Nat) : Bool := decide (nV xs i = 0) && decide (0 ≤ cval (gl L (gn xs i).2.2.2.toNat) (gl P i))
def badI (L : List (List Int)) (xs : List TN) (P : List (List Int)) : Int := fidx (badB L xs P) xs.length
end Go.Av
namespace Go.Av
open Go Go.Proofs Go.Sort
set_option maxRecDepth 10000
theorem hb114 : hasBody Tryz.prog 114 = true := by kernel_rfl
theorem hb40 : hasBody Tryz.prog 40 = true := by kernel_rfl
theorem hb74 : hasBody Tryz.prog 74 = true := by kernel_rfl
theorem isTree_c (vars : Int) (L : List (List Int)) (xs : List TN) (hk : CnfOk vars L) (hl : xs.length ≤ 1048576) : ACall Tryz.prog 93 [.agg [.int .i64 vars, .sl (sls L) L.length], .sl (tncells xs) xs.length] [] (.bool (treeB vars L xs)) [] := by
 refine ACall.intro Tryz.func93 rfl (N := 37) rfl (by decide) (by simp) ?_
 refine a_seq ?_
 refine a_region ?_
 refine rn (v := .op [.int _ _, .sl _ _]) (q_box (.inl rfl) rfl rfl) ?_
 refine rv (v := .bool _) (v_assign (.inl rfl) nf) ?_
 refine r_nil ?_
 refine a_seq ?_
 refine a_seq ?_
 refine a_region ?_
 refine rv (v := .agg [.int _ _, .sl _ _]) (v_load_rpa1 ta30 (.inl rfl) rfl rfl (fun _ => rfl) rfl) ?_
 refine rn (v := .bool _) (q_call (vs := [.agg [.int _ _, .sl _ _]]) (args := [.agg [.int .i64 _, .sl _ _]]) hb74 ⟨.inl rfl, trivial⟩ rfl (fun hA => isCnf_c vars L hk) rfl rfl) ?_
 refine rv (v := .bool _) (v_not (.inl rfl)) ?_
 refine rv (v := .bool _) (v_move (.inl rfl) nf) ?_
 refine r_gval (v := .sl _ _) (v_move (.inl rfl) nf) rfl rfl rfl (by decide) (.inl ⟨_, rfl, rfl⟩) rfl (by decide) ?_
 refine r_gval (v := .int _ _) (v_len_sl sl42 (.inr ⟨_, rfl, fun h => h⟩)) rfl rfl rfl (by decide) (.inl ⟨_, rfl, rfl⟩) rfl (by decide) ?_
 refine r_guard (v := .bool _) (q_call (vs := [.int _ _, .int _ _, .int _ _]) (args := [.int .i64 _, .int .i64 _, .int .i64 _]) hb55 ⟨.inr ⟨_, rfl, fun h => h⟩, .inl rfl, .inl rfl, trivial⟩ rfl (fun hA => within_c _ _ _) rfl rfl) rfl rfl rfl (by decide) (.inl ⟨_, rfl, rfl⟩) rfl (by decide) ?_
 refine r_gval (v := .bool _) (v_not (.inr ⟨_, rfl, fun h => h⟩)) rfl rfl rfl (by decide) (.inl ⟨_, rfl, rfl⟩) rfl (by decide) ?_
 refine rv (v := .bool _) (v_pick (.inl rfl) (.inl rfl) (.inr ⟨_, rfl, fun h h2 => by simp_all⟩)) ?_
 refine r_nil ?_
 refine a_cond rfl (fun ht17 => ?_) (fun ht17 => ?_)
 ·
  skip
  refine a_seq ?_
  have hno : (cnfB vars L && inR xs.length 1 199) = false := (by cases h1 : cnfB vars L <;> cases h2 : inR xs.length 1 199 <;> simp_all)
  have htn := treeB_len hno
  refine a_region ?_
  refine rv (v := .bool _) (v_assign (.inl rfl) nf) ?_
  refine r_nil ?_
  refine a_ret ?_
  refine ret1 Tryz.results93 (by decide) (by decide) (Weak.of_eq (bool_eq ?_)) rfl Leaves.nil
  exact htn.symm
 ·
  skip
  refine a_skip ?_
  refine a_seq ?_
  refine a_seq ?_
  have hyes : cnfB vars L = true ∧ inR xs.length 1 199 = true := (by cases h1 : cnfB vars L <;> cases h2 : inR xs.length 1 199 <;> simp_all)
  have hcs := cnfB_spec hyes.1
  have hrg : 0 < xs.length ∧ xs.length ≤ 199 := (by have := hyes.2; simp [inR] at this; omega)
  have hLl : (L.length : Int) ≤ 1000000 := (by omega)
  refine a_region ?_
  refine rv (v := .sl _ _) (v_move (.inl rfl) nf) ?_
  refine rv (v := .int _ _) (v_len_sl sl42 (.inl rfl)) ?_
  refine rv (v := .int _ _) (v_move (.inl rfl) nf) ?_
  refine r_nil ?_
  refine a_block ?_
  refine a_loop (X := Nat) (fun i => look [(1, .sl (tncells xs) xs.length), (2, .op [.int .i64 vars, .sl (sls L) L.length]), (18, .sl (tncells xs) xs.length), (19, .int .i64 ((xs.length : Nat) : Int)), (20, .int .i64 ((i : Nat) : Int))]) (fun i => i ≤ xs.length ∧ ∀ j : Nat, j < i → nodeB vars L.length j (gn xs j) = true) (fun i => xs.length - i) 0 (ent_look ⟨Weak.of_eq rfl, Weak.of_eq rfl, Weak.of_eq rfl, Weak.of_eq rfl, Weak.of_eq rfl, trivial⟩) ⟨Nat.zero_le _, fun j h => by omega⟩ (fun i hG => ?_)
  obtain ⟨g1, g2⟩ := hG
  refine a_seq ?_
  refine a_region ?_
  refine rv (v := .bool _) (v_lss (.inl rfl) (.inl rfl)) ?_
  refine r_nil ?_
  refine a_seq ?_
  refine a_cond rfl (fun ht21 => ?_) (fun ht21 => ?_)
  ·
   skip
   refine a_skip ?_
   refine a_seq ?_
   refine a_block ?_
   refine a_seq ?_
   have hi : i < xs.length := (by simp at ht21; omega)
   refine a_region ?_
   refine rv (v := .int _ _) (v_move (.inl rfl) nf) ?_
   refine rv (v := .pp _ _) (v_indexAddr_sl es42 (.inl rfl) (.inl rfl) (fun _ => ⟨by omega, by omega, tn_ne hi⟩)) ?_
   refine rv (v := .agg [.int .i64 (gn xs i).1, .int .i64 (gn xs i).2.1, .int .i64 (gn xs i).2.2.1, .int .i64 (gn xs i).2.2.2]) (v_load_ppa1 ta62 (.inl rfl) rfl (fun _ => tn_four hi) rfl) ?_
   refine rn (v := .op [.int _ _, .int _ _, .int _ _, .int _ _]) (q_alloc zc62) ?_
   refine rv (v := .int _ _) (v_assign (.inl rfl) nf) ?_
   refine r_step rfl (o_store (v := .agg [.int _ _, .int _ _, .int _ _, .int _ _]) (y' := .op [.int _ _, .int _ _, .int _ _, .int _ _]) rfl rfl ta62 (.inl rfl) (.inl rfl) rfl rfl rfl rfl rfl rfl (Nat.le_of_ble_eq_true rfl) (by decide) rfl rfl) ?_
   refine r_nil ?_
   refine a_seq ?_
   refine a_region ?_
   refine rv (v := .agg [.int _ _, .sl _ _]) (v_load_rpa1 ta30 (.inl rfl) rfl rfl (fun _ => rfl) rfl) ?_
   refine rv (v := .int _ _) (v_move (.inl rfl) nf) ?_
   refine rv (v := .agg [.int _ _, .int _ _, .int _ _, .int _ _]) (v_load_rpa1 ta62 (.inl rfl) rfl rfl (fun _ => rfl) rfl) ?_
   refine rn (v := .bool _) (q_call (vs := [.agg [.int _ _, .sl _ _], .int _ _, .agg [.int _ _, .int _ _, .int _ _, .int _ _]]) (args := [.agg [.int .i64 _, .sl _ _], .int .i64 _, .agg [.int .i64 _, .int .i64 _, .int .i64 _, .int .i64 _]]) hb114 ⟨.inl rfl, .inl rfl, .inl rfl, trivial⟩ rfl (fun hA => nodeOk_c vars L (gn xs i) i hLl (by omega)) rfl rfl) ?_
   refine rv (v := .bool _) (v_not (.inl rfl)) ?_
   refine r_nil ?_
   refine a_cond rfl (fun ht29 => ?_) (fun ht29 => ?_)
   ·
    skip
    refine a_seq ?_
    have htn := treeB_node (L := L) (allN_no hi (by simpa using ht29))
    refine a_region ?_
    refine rv (v := .bool _) (v_assign (.inl rfl) nf) ?_
    refine r_nil ?_
    refine a_ret ?_
    refine ret1 Tryz.results93 (by decide) (by decide) (Weak.of_eq (bool_eq ?_)) rfl Leaves.nil
    exact htn.symm
   ·
    skip
    refine a_skip ?_
    refine a_region ?_
    refine rv (v := .int _ _) (v_add (.inl rfl) (.inl rfl) (fun _ => by omega)) ?_
    refine rv (v := .int _ _) (v_move (.inl rfl) nf) ?_
    refine r_nil ?_
    refine ⟨i + 1, ent_look ⟨Weak.of_eq rfl, Weak.of_eq rfl, Weak.of_eq rfl, Weak.of_eq rfl, Weak.of_eq (int_eq (by omega)), trivial⟩, ⟨by omega, fun j h1 => by rcases Nat.lt_or_ge j i with h | h; exact g2 j h; (obtain rfl : j = i := by omega); simpa using ht29⟩, by omega⟩
  ·
   skip
   refine a_exit ?_
   refine a_seq ?_
   have hie : i = xs.length := (by simp at ht21; omega)
   have hall : allN vars L.length xs = true := allN_yes (fun j hj => g2 j (by omega))
   refine a_region ?_
   refine rv (v := .sl _ _) (v_move (.inl rfl) nf) ?_
   refine rn (v := .tup [.osl _ _ _ _, .bool _]) (q_callF (vs := [.sl _ _]) (args := [.sl _ _]) hb40 ⟨.inl rfl, trivial⟩ rfl (fun hA => iPaths_c vars L.length xs hcs.1 hrg.1 hrg.2 hall) rfl (by simp [noRef, noRefL, sls_noRef])) ?_
   refine rv (v := .tup [.rsl _ _ _ _ _, .bool _]) (v_mv rfl) ?_
   refine rv (v := .rsl _ _ _ _ _) (v_extract rfl rfl) ?_
   refine rv (v := .bool _) (v_extract rfl rfl) ?_
   refine rv (v := .rsl _ _ _ _ _) (v_assign (.inl rfl) nf) ?_
   refine r_pre (ent_reloc_sl (t := 7) rfl rfl) ?_
   refine rv (v := .bool _) (v_assign (.inl rfl) nf) ?_
   refine r_nil ?_
   refine a_seq ?_
   refine a_region ?_
   refine rv (v := .bool _) (v_move (.inl rfl) nf) ?_
   refine rv (v := .bool _) (v_assign (.inl rfl) nf) ?_
   refine r_nil ?_
   refine a_ret ?_
   refine ret1 Tryz.results93 (by decide) (by decide) (Weak.of_eq (bool_eq ?_)) rfl Leaves.nil
   exact (treeB_yes hyes.1 hrg hall).symm
end Go.Av
namespace Go.Av
open Go Go.Proofs Go.Sort
set_option maxRecDepth 10000
theorem hb29 : hasBody Tryz.prog 29 = true := by kernel_rfl
theorem hb90 : hasBody Tryz.prog 90 = true := by kernel_rfl
theorem hb91 : hasBody Tryz.prog 91 = true := by kernel_rfl
theorem paths9_c (vars : Int) (L : List (List Int)) (xs : List TN) (hk : CnfOk vars L) (hl : xs.length ≤ 1048576) : ACall Tryz.prog 61 [.agg [.int .i64 vars, .sl (sls L) L.length], .sl (tncells xs) xs.length] [] (.tup [.osl 1 (sls (pthT vars L xs)) (pthT vars L xs).length none, .bool (treeB vars L xs)]) [] := by
 refine ACall.intro Tryz.func61 rfl (N := 155) rfl (by decide) (by simp) ?_
 refine a_seq ?_
 refine a_region ?_
 refine rn (v := .op [.int _ _, .sl _ _]) (q_box (.inl rfl) rfl rfl) ?_
 refine rv (v := .nils) (v_assign (.inl rfl) nf) ?_
 refine rv (v := .bool _) (v_assign (.inl rfl) nf) ?_
 refine r_nil ?_
 refine a_seq ?_
 refine a_seq ?_
 refine a_region ?_
 refine rv (v := .agg [.int _ _, .sl _ _]) (v_load_rpa1 ta30 (.inl rfl) rfl rfl (fun _ => rfl) rfl) ?_
 refine rn (v := .bool _) (q_call (vs := [.agg [.int _ _, .sl _ _]]) (args := [.agg [.int .i64 _, .sl _ _]]) hb90 ⟨.inl rfl, trivial⟩ rfl (fun hA => l2Good_c vars L hk) rfl rfl) ?_
 refine rv (v := .bool _) (v_not (.inl rfl)) ?_
 refine rv (v := .bool _) (v_move (.inl rfl) nf) ?_
 refine r_gval (v := .sl _ _) (v_move (.inl rfl) nf) rfl rfl rfl (by decide) (.inl ⟨_, rfl, rfl⟩) rfl (by decide) ?_
 refine r_gval (v := .int _ _) (v_len_sl sl42 (.inr ⟨_, rfl, fun h => h⟩)) rfl rfl rfl (by decide) (.inl ⟨_, rfl, rfl⟩) rfl (by decide) ?_
 refine r_guard (v := .bool _) (q_call (vs := [.int _ _, .int _ _, .int _ _]) (args := [.int .i64 _, .int .i64 _, .int .i64 _]) hb47 ⟨.inr ⟨_, rfl, fun h => h⟩, .inl rfl, .inl rfl, trivial⟩ rfl (fun hA => l1In_c _ _ _) rfl rfl) rfl rfl rfl (by decide) (.inl ⟨_, rfl, rfl⟩) rfl (by decide) ?_
 refine r_gval (v := .bool _) (v_not (.inr ⟨_, rfl, fun h => h⟩)) rfl rfl rfl (by decide) (.inl ⟨_, rfl, rfl⟩) rfl (by decide) ?_
 refine rv (v := .bool _) (v_pick (.inl rfl) (.inl rfl) (.inr ⟨_, rfl, fun h h2 => by simp_all⟩)) ?_
 refine r_nil ?_
 refine a_cond rfl (fun ht20 => ?_) (fun ht20 => ?_)
 ·
  skip
  refine a_seq ?_
  have hno : (cnfB vars L && inR xs.length 1 199) = false := (by cases h1 : cnfB vars L <;> cases h2 : inR xs.length 1 199 <;> simp_all)
  have htn := treeB_len hno
  refine a_region ?_
  refine rn (v := .osl _ _ _ _) (q_sliceLit (n := 0) (parts := []) lt22 rfl rfl rfl rfl) ?_
  refine rv (v := .rsl _ _ _ _ _) (v_assign (.inl rfl) nf) ?_
  refine r_pre (ent_reloc_sl (t := 4) rfl rfl) ?_
  refine rv (v := .bool _) (v_assign (.inl rfl) nf) ?_
  refine r_nil ?_
  refine a_ret ?_
  refine retL (rs := [.tmp 4, .tmp 5]) [(4, .osl _ _ _ none), (5, _)] ⟨Weak.osl rfl rfl, Weak.rfl, trivial⟩ rfl Tryz.results61 (by decide) ⟨by decide, by decide, rfl⟩ (by decide) (by decide) (l2_eq (osl_eq2 ?_ ?_) (bool_eq ?_)) rfl
  all_goals (first | exact htn.symm | (rw [pthT_no htn]; rfl))
 ·
  skip
  refine a_skip ?_
  refine a_seq ?_
  have hyes : cnfB vars L = true ∧ inR xs.length 1 199 = true := (by cases h1 : cnfB vars L <;> cases h2 : inR xs.length 1 199 <;> simp_all)
  have hcs := cnfB_spec hyes.1
  have hrg : 0 < xs.length ∧ xs.length ≤ 199 := (by have := hyes.2; simp [inR] at this; omega)
  have hLl : (L.length : Int) ≤ 1000000 := (by omega)
  refine a_region ?_
  refine rv (v := .sl _ _) (v_move (.inl rfl) nf) ?_
  refine rv (v := .int _ _) (v_len_sl sl42 (.inl rfl)) ?_
  refine rn (v := .osl _ _ _ _) (q_makeSlice us25 sb3 zc3 rfl (by decide) (.inl rfl) (.inl rfl) (fun _ => by omega)) ?_
  refine rv (v := .rsl _ _ _ _ _) (v_assign (.inl rfl) nf) ?_
  refine r_pre (ent_reloc_sl (t := 6) rfl rfl) ?_
  refine r_nil ?_
  refine a_seq ?_
  refine a_seq ?_
  refine a_region ?_
  refine rv (v := .int _ _) (v_assign (.inl rfl) nf) ?_
  refine r_nil ?_
  refine a_block ?_
  refine a_loop (X := Nat) (fun i => look [(1, .sl (tncells xs) xs.length), (2, .op [.int .i64 vars, .sl (sls L) L.length]), (6, .osl 1 (icells (nCntL xs i)) xs.length none), (7, .int .i64 ((i : Nat) : Int))]) (fun i => i ≤ xs.length ∧ ∀ j : Nat, j < i → nodeB vars L.length j (gn xs j) = true) (fun i => xs.length - i) 0 (ent_look ⟨Weak.of_eq rfl, Weak.of_eq rfl, Weak.osl (by rw [nCntL_zero, icells_rep]) rfl, Weak.of_eq rfl, trivial⟩) ⟨Nat.zero_le _, fun j h => by omega⟩ (fun i hG => ?_)
  obtain ⟨g1, g2⟩ := hG
  refine a_seq ?_
  refine a_seq ?_
  refine a_region ?_
  refine rv (v := .int _ _) (v_move (.inl rfl) nf) ?_
  refine rv (v := .sl _ _) (v_move (.inl rfl) nf) ?_
  refine rv (v := .int _ _) (v_len_sl sl42 (.inl rfl)) ?_
  refine rv (v := .bool _) (v_lss (.inl rfl) (.inl rfl)) ?_
  refine r_nil ?_
  refine a_cond rfl (fun ht28 => ?_) (fun ht28 => ?_)
  ·
   skip
   refine a_skip ?_
   refine a_seq ?_
   refine a_block ?_
   refine a_seq ?_
   refine a_seq ?_
   have hi : i < xs.length := (by simp at ht28; omega)
   refine a_region_any mixed (by kernel_rfl) ?_
   refine yv (v := .agg [.int _ _, .sl _ _]) (v_load_rpa1 ta30 (.inl rfl) rfl rfl (fun _ => rfl) rfl) ?_
   refine yv (v := .sl _ _) (v_move (.inl rfl) nf) ?_
   refine yv (v := .int _ _) (v_move (.inl rfl) nf) ?_
   refine yv (v := .pp _ _) (v_indexAddr_sl es42 (.inl rfl) (.inl rfl) (fun _ => ⟨by omega, by omega, tn_ne hi⟩)) ?_
   refine yv (v := .agg [.int .i64 (gn xs i).1, .int .i64 (gn xs i).2.1, .int .i64 (gn xs i).2.2.1, .int .i64 (gn xs i).2.2.2]) (v_load_ppa1 ta62 (.inl rfl) rfl (fun _ => tn_four hi) rfl) ?_
   refine yv (v := .int _ _) (v_move (.inl rfl) nf) ?_
   refine y_new (v := .bool _) (q_call (vs := [.agg [.int _ _, .sl _ _], .agg [.int _ _, .int _ _, .int _ _, .int _ _], .int _ _]) (args := [.agg [.int .i64 _, .sl _ _], .agg [.int .i64 _, .int .i64 _, .int .i64 _, .int .i64 _], .int .i64 _]) hb91 ⟨.inl rfl, .inl rfl, .inl rfl, trivial⟩ rfl (fun hA => node9_c vars L (gn xs i) i hLl (by omega)) rfl rfl) rfl rfl (by decide) (by kernel_rfl) ?_
   refine yv (v := .bool _) (v_not (.inl rfl)) ?_
   refine y_nil ?_
   refine a_cond rfl (fun ht38 => ?_) (fun ht38 => ?_)
   ·
    skip
    refine a_seq ?_
    have htn := treeB_node (L := L) (allN_no hi (by simpa using ht38))
    refine a_region ?_
    refine rn (v := .osl _ _ _ _) (q_sliceLit (n := 0) (parts := []) lt22 rfl rfl rfl rfl) ?_
    refine rv (v := .rsl _ _ _ _ _) (v_assign (.inl rfl) nf) ?_
    refine r_pre (ent_reloc_sl (t := 4) rfl rfl) ?_
    refine rv (v := .bool _) (v_assign (.inl rfl) nf) ?_
    refine r_nil ?_
    refine a_ret ?_
    refine retL (rs := [.tmp 4, .tmp 5]) [(4, .osl _ _ _ none), (5, _)] ⟨Weak.osl rfl rfl, Weak.rfl, trivial⟩ rfl Tryz.results61 (by decide) ⟨by decide, by decide, rfl⟩ (by decide) (by decide) (l2_eq (osl_eq2 ?_ ?_) (bool_eq ?_)) rfl
    all_goals (first | exact htn.symm | (rw [pthT_no htn]; rfl))
   ·
    skip
    refine a_skip ?_
    refine a_seq ?_
    have hnd : nodeB vars L.length i (gn xs i) = true := (by simpa using ht38)
    refine a_region ?_
    refine rv (v := .sl _ _) (v_move (.inl rfl) nf) ?_
    refine rv (v := .int _ _) (v_move (.inl rfl) nf) ?_
    refine rv (v := .pp _ _) (v_indexAddr_sl es42 (.inl rfl) (.inl rfl) (fun _ => ⟨by omega, by omega, tn_ne hi⟩)) ?_
    refine rv (v := .agg [.int .i64 (gn xs i).1, .int .i64 (gn xs i).2.1, .int .i64 (gn xs i).2.2.1, .int .i64 (gn xs i).2.2.2]) (v_load_ppa1 ta62 (.inl rfl) rfl (fun _ => tn_four hi) rfl) ?_
    refine rn (v := .bool _) (q_call (vs := [.agg [.int _ _, .int _ _, .int _ _, .int _ _]]) (args := [.agg [.int .i64 _, .int .i64 _, .int .i64 _, .int .i64 _]]) hb92 ⟨.inl rfl, trivial⟩ rfl (fun hA => leaf_c _) rfl rfl) ?_
    refine rv (v := .bool _) (v_not (.inl rfl)) ?_
    refine r_nil ?_
    refine a_cond rfl (fun ht45 => ?_) (fun ht45 => ?_)
    ·
     skip
     refine a_seq ?_
     have hvn : nV xs i ≠ 0 := (by simpa [nV] using ht45)
     have hin := inner_spec hnd hvn
     have hcb := nCnt_le xs (nLo xs i) i
     have hcb2 := nCnt_le xs (nHi xs i) i
     have hp1 : (nLo xs i) * 1 + 1 ≤ (icells (nCntL xs i)).length := (by rw [icells_length]; simp [nCntL_len]; omega)
     have hs1 : (icells (nCntL xs i)).set ((nLo xs i) * 1) (.int .i64 (gd (nCntL xs i) (nLo xs i) + 1)) = icells ((nCntL xs i).set (nLo xs i) (gd (nCntL xs i) (nLo xs i) + 1)) := (by rw [Nat.mul_one, icells_set])
     have hp2 : (nHi xs i) * 1 + 1 ≤ (icells ((nCntL xs i).set (nLo xs i) (gd (nCntL xs i) (nLo xs i) + 1))).length := (by rw [icells_length]; simp [nCntL_len]; omega)
     have hs2 : (icells ((nCntL xs i).set (nLo xs i) (gd (nCntL xs i) (nLo xs i) + 1))).set ((nHi xs i) * 1) (.int .i64 (gd ((nCntL xs i).set (nLo xs i) (gd (nCntL xs i) (nLo xs i) + 1)) (nHi xs i) + 1)) = icells (((nCntL xs i).set (nLo xs i) (gd (nCntL xs i) (nLo xs i) + 1)).set (nHi xs i) (gd ((nCntL xs i).set (nLo xs i) (gd (nCntL xs i) (nLo xs i) + 1)) (nHi xs i) + 1)) := (by rw [Nat.mul_one, icells_set])
     have hg1 : gd (nCntL xs i) (nLo xs i) = nCnt xs i (nLo xs i) := nCntL_gd (by omega)
     have hg2 : gd ((nCntL xs i).set (nLo xs i) (gd (nCntL xs i) (nLo xs i) + 1)) (nHi xs i) = nCnt xs i (nHi xs i) := (by rw [gd_setc, if_neg (fun h => hin.2.2.2.1 h.1)]; exact nCntL_gd (by omega))
     have hs2e : ((nCntL xs i).set (nLo xs i) (gd (nCntL xs i) (nLo xs i) + 1)).set (nHi xs i) (gd ((nCntL xs i).set (nLo xs i) (gd (nCntL xs i) (nLo xs i) + 1)) (nHi xs i) + 1) = ((nCntL xs i).set (nLo xs i) (gd (nCntL xs i) (nLo xs i) + 1)).set (nHi xs i) (gd ((nCntL xs i).set (nLo xs i) (gd (nCntL xs i) (nLo xs i) + 1)) (nHi xs i) + 1) := rfl
     refine a_region_z (n := 16) [[(46, true)], [(47, true)], [(48, true)], [(49, true)], [(50, true)], [(51, true)], [(52, true)], [(53, true)], [(54, true)], [(55, true)], [(56, true)], [(57, true)], [(58, true)], [(59, true)], [(60, true)], [(61, true)]] mixed (by kernel_rfl) ?_
     refine z_val (v := .rsl _ _ _ _ _) (v_move (.inl rfl) nf) rfl rfl (by decide) rfl (by kernel_rfl) ?_
     refine z_val (v := .sl _ _) (v_move (.inl rfl) nf) rfl rfl (by decide) rfl (by kernel_rfl) ?_
     refine z_val (v := .int _ _) (v_move (.inl rfl) nf) rfl rfl (by decide) rfl (by kernel_rfl) ?_
     refine z_val (v := .pp _ _) (v_indexAddr_sl es42 (.inl rfl) (.inl rfl) (fun _ => ⟨by omega, by omega, tn_ne hi⟩)) rfl rfl (by decide) rfl (by kernel_rfl) ?_
     refine z_val (v := .pp _ _) (v_fieldAddr_pp fo62_1 (.inl rfl)) rfl rfl (by decide) rfl (by kernel_rfl) ?_
     refine z_val (v := .int .i64 (gn xs i).2.1) (v_load_pp ta3 (.inl rfl) (fun _ => by have := tn_at (j := 1) hi (by omega); exact this) rfl) rfl rfl (by decide) rfl (by kernel_rfl) ?_
     refine z_val (v := .rsl _ _ _ _ _) (v_move (.inl rfl) nf) rfl rfl (by decide) rfl (by kernel_rfl) ?_
     refine z_val (v := .sl _ _) (v_move (.inl rfl) nf) rfl rfl (by decide) rfl (by kernel_rfl) ?_
     refine z_val (v := .int _ _) (v_move (.inl rfl) nf) rfl rfl (by decide) rfl (by kernel_rfl) ?_
     refine z_val (v := .pp _ _) (v_indexAddr_sl es42 (.inl rfl) (.inl rfl) (fun _ => ⟨by omega, by omega, tn_ne hi⟩)) rfl rfl (by decide) rfl (by kernel_rfl) ?_
     refine z_val (v := .pp _ _) (v_fieldAddr_pp fo62_1 (.inl rfl)) rfl rfl (by decide) rfl (by kernel_rfl) ?_
     refine z_val (v := .int .i64 (gn xs i).2.1) (v_load_pp ta3 (.inl rfl) (fun _ => by have := tn_at (j := 1) hi (by omega); exact this) rfl) rfl rfl (by decide) rfl (by kernel_rfl) ?_
     refine z_val (v := .rp _ _) (v_indexAddr_rsl0 es25 (.inl rfl) (.inl rfl) (fun _ => by omega)) rfl rfl (by decide) rfl (by kernel_rfl) ?_
     refine z_val (v := .int .i64 (gd (nCntL xs i) (nLo xs i))) (v_load_rp1 ta3 (.inl rfl) rfl (fun _ => by rw [Nat.mul_one]; exact icells_get (gd_get (show nLo xs i < _ by simp [nCntL_len]; omega))) rfl) rfl rfl (by decide) rfl (by kernel_rfl) ?_
     refine z_val (v := .int _ _) (v_add (.inl rfl) (.inl rfl) (fun _ => by omega)) rfl rfl (by decide) rfl (by kernel_rfl) ?_
     refine z_val (v := .rp _ _) (v_indexAddr_rsl0 es25 (.inl rfl) (.inl rfl) (fun _ => by omega)) rfl rfl (by decide) rfl (by kernel_rfl) ?_
     refine z_nil ?_
     refine r_step rfl (o_store (v := .int _ _) (y' := .osl _ _ _ _) rfl rfl ta3 (.inl rfl) (.inl rfl) rfl rfl rfl rfl rfl rfl hp1 (by decide) rfl (congrArg (fun c => AV.osl 1 c xs.length none) hs1)) ?_
     refine r_nil ?_
     refine a_pre (ent_look (L := [(1, .sl _ _), (2, .op [.int _ _, .sl _ _]), (6, .osl _ _ _ _), (7, .int _ _)]) ⟨Weak.rfl, Weak.rfl, Weak.rfl, Weak.rfl, trivial⟩) ?_
     refine a_region_z (n := 16) [[(62, true)], [(63, true)], [(64, true)], [(65, true)], [(66, true)], [(67, true)], [(68, true)], [(69, true)], [(70, true)], [(71, true)], [(72, true)], [(73, true)], [(74, true)], [(75, true)], [(76, true)], [(77, true)]] mixed (by kernel_rfl) ?_
     refine z_val (v := .rsl _ _ _ _ _) (v_move (.inl rfl) nf) rfl rfl (by decide) rfl (by kernel_rfl) ?_
     refine z_val (v := .sl _ _) (v_move (.inl rfl) nf) rfl rfl (by decide) rfl (by kernel_rfl) ?_
     refine z_val (v := .int _ _) (v_move (.inl rfl) nf) rfl rfl (by decide) rfl (by kernel_rfl) ?_
     refine z_val (v := .pp _ _) (v_indexAddr_sl es42 (.inl rfl) (.inl rfl) (fun _ => ⟨by omega, by omega, tn_ne hi⟩)) rfl rfl (by decide) rfl (by kernel_rfl) ?_
     refine z_val (v := .pp _ _) (v_fieldAddr_pp fo62_2 (.inl rfl)) rfl rfl (by decide) rfl (by kernel_rfl) ?_
     refine z_val (v := .int .i64 (gn xs i).2.2.1) (v_load_pp ta3 (.inl rfl) (fun _ => by have := tn_at (j := 2) hi (by omega); exact this) rfl) rfl rfl (by decide) rfl (by kernel_rfl) ?_
     refine z_val (v := .rsl _ _ _ _ _) (v_move (.inl rfl) nf) rfl rfl (by decide) rfl (by kernel_rfl) ?_
     refine z_val (v := .sl _ _) (v_move (.inl rfl) nf) rfl rfl (by decide) rfl (by kernel_rfl) ?_
     refine z_val (v := .int _ _) (v_move (.inl rfl) nf) rfl rfl (by decide) rfl (by kernel_rfl) ?_
     refine z_val (v := .pp _ _) (v_indexAddr_sl es42 (.inl rfl) (.inl rfl) (fun _ => ⟨by omega, by omega, tn_ne hi⟩)) rfl rfl (by decide) rfl (by kernel_rfl) ?_
     refine z_val (v := .pp _ _) (v_fieldAddr_pp fo62_2 (.inl rfl)) rfl rfl (by decide) rfl (by kernel_rfl) ?_
     refine z_val (v := .int .i64 (gn xs i).2.2.1) (v_load_pp ta3 (.inl rfl) (fun _ => by have := tn_at (j := 2) hi (by omega); exact this) rfl) rfl rfl (by decide) rfl (by kernel_rfl) ?_
     refine z_val (v := .rp _ _) (v_indexAddr_rsl0 es25 (.inl rfl) (.inl rfl) (fun _ => by omega)) rfl rfl (by decide) rfl (by kernel_rfl) ?_
     refine z_val (v := .int .i64 (gd ((nCntL xs i).set (nLo xs i) (gd (nCntL xs i) (nLo xs i) + 1)) (nHi xs i))) (v_load_rp1 ta3 (.inl rfl) rfl (fun _ => by rw [Nat.mul_one]; exact icells_get (gd_get (show nHi xs i < _ by simp [nCntL_len]; omega))) rfl) rfl rfl (by decide) rfl (by kernel_rfl) ?_
     refine z_val (v := .int _ _) (v_add (.inl rfl) (.inl rfl) (fun _ => by omega)) rfl rfl (by decide) rfl (by kernel_rfl) ?_
     refine z_val (v := .rp _ _) (v_indexAddr_rsl0 es25 (.inl rfl) (.inl rfl) (fun _ => by omega)) rfl rfl (by decide) rfl (by kernel_rfl) ?_
     refine z_nil ?_
     refine r_step rfl (o_store (v := .int _ _) (y' := .osl _ _ _ _) rfl rfl ta3 (.inl rfl) (.inl rfl) rfl rfl rfl rfl rfl rfl hp2 (by decide) rfl (congrArg (fun c => AV.osl 1 c xs.length none) hs2)) ?_
     refine r_nil ?_
     refine a_region ?_
     refine rv (v := .int _ _) (v_move (.inl rfl) nf) ?_
     refine rv (v := .int _ _) (v_add (.inl rfl) (.inl rfl) (fun _ => by omega)) ?_
     refine rv (v := .int _ _) (v_assign (.inl rfl) nf) ?_
     refine r_nil ?_
     refine ⟨i + 1, ent_look ⟨Weak.of_eq rfl, Weak.of_eq rfl, Weak.osl (by rw [hs2e, nCntL_inner hvn hi hin.2.1.2 hin.2.2.1.2 hin.2.2.2.1]) rfl, Weak.of_eq (int_eq (by omega)), trivial⟩, ⟨by omega, fun j h1 => by rcases Nat.lt_or_ge j i with h | h; exact g2 j h; (obtain rfl : j = i := by omega); simpa using ht38⟩, by omega⟩
    ·
     skip
     refine a_skip ?_
     refine a_region ?_
     refine rv (v := .int _ _) (v_move (.inl rfl) nf) ?_
     refine rv (v := .int _ _) (v_add (.inl rfl) (.inl rfl) (fun _ => by omega)) ?_
     refine rv (v := .int _ _) (v_assign (.inl rfl) nf) ?_
     refine r_nil ?_
     refine ⟨i + 1, ent_look ⟨Weak.of_eq rfl, Weak.of_eq rfl, Weak.osl (by rw [nCntL_leaf (by simpa [nV] using ht45)]) rfl, Weak.of_eq (int_eq (by omega)), trivial⟩, ⟨by omega, fun j h1 => by rcases Nat.lt_or_ge j i with h | h; exact g2 j h; (obtain rfl : j = i := by omega); simpa using ht38⟩, by omega⟩
  ·
   skip
   refine a_exit ?_
   refine a_seq ?_
   refine a_seq ?_
   have hie : i = xs.length := (by simp at ht28; omega)
   have hall : allN vars L.length xs = true := allN_yes (fun j hj => g2 j (by omega))
   refine a_region ?_
   refine rv (v := .int _ _) (v_assign (.inl rfl) nf) ?_
   refine r_nil ?_
   refine a_block ?_
   refine a_loop (X := Nat) (fun i => look [(1, .sl (tncells xs) xs.length), (6, .osl 1 (icells (nCntL xs xs.length)) xs.length none), (8, .int .i64 ((i : Nat) : Int))]) (fun i => i ≤ xs.length - 1 ∧ ∀ j, j < i → nCnt xs xs.length j = 1) (fun i => xs.length - i) 0 (ent_look ⟨Weak.of_eq rfl, Weak.osl (by rw [hie]) rfl, Weak.of_eq rfl, trivial⟩) ⟨Nat.zero_le _, fun j h => by omega⟩ (fun i hG => ?_)
   obtain ⟨c1, c2⟩ := hG
   refine a_seq ?_
   refine a_seq ?_
   refine a_region ?_
   refine rv (v := .int _ _) (v_move (.inl rfl) nf) ?_
   refine rv (v := .sl _ _) (v_move (.inl rfl) nf) ?_
   refine rv (v := .int _ _) (v_len_sl sl42 (.inl rfl)) ?_
   refine rv (v := .int _ _) (v_sub (.inl rfl) (.inl rfl) (fun _ => by omega)) ?_
   refine rv (v := .bool _) (v_lss (.inl rfl) (.inl rfl)) ?_
   refine r_nil ?_
   refine a_cond rfl (fun ht82 => ?_) (fun ht82 => ?_)
   ·
    skip
    refine a_skip ?_
    refine a_seq ?_
    refine a_block ?_
    refine a_seq ?_
    have hi1 : i < xs.length - 1 := (by simp at ht82; omega)
    have hi2 : i < xs.length := (by omega)
    refine a_region ?_
    refine rv (v := .rsl _ _ _ _ _) (v_move (.inl rfl) nf) ?_
    refine rv (v := .int _ _) (v_move (.inl rfl) nf) ?_
    refine rv (v := .rp _ _) (v_indexAddr_rsl0 es25 (.inl rfl) (.inl rfl) (fun _ => by omega)) ?_
    refine rv (v := .int .i64 (gd (nCntL xs xs.length) i)) (v_load_rp1 ta3 (.inl rfl) rfl (fun _ => by rw [Nat.mul_one]; exact icells_get (gd_get (show i < _ by simp [nCntL_len]; omega))) rfl) ?_
    refine rv (v := .bool _) (v_neq (.inl rfl) (.inl rfl)) ?_
    refine r_nil ?_
    refine a_cond rfl (fun ht89 => ?_) (fun ht89 => ?_)
    ·
     skip
     refine a_seq ?_
     have htn := treeB_once (vars := vars) (L := L) hrg hall (onceB_no hi1 (by simp [nCntL_gd hi2] at ht89; omega))
     refine a_region ?_
     refine rn (v := .osl _ _ _ _) (q_sliceLit (n := 0) (parts := []) lt22 rfl rfl rfl rfl) ?_
     refine rv (v := .rsl _ _ _ _ _) (v_assign (.inl rfl) nf) ?_
     refine r_pre (ent_reloc_sl (t := 4) rfl rfl) ?_
     refine rv (v := .bool _) (v_assign (.inl rfl) nf) ?_
     refine r_nil ?_
     refine a_ret ?_
     refine retL (rs := [.tmp 4, .tmp 5]) [(4, .osl _ _ _ none), (5, _)] ⟨Weak.osl rfl rfl, Weak.rfl, trivial⟩ rfl Tryz.results61 (by decide) ⟨by decide, by decide, rfl⟩ (by decide) (by decide) (l2_eq (osl_eq2 ?_ ?_) (bool_eq ?_)) rfl
     all_goals (first | exact htn.symm | (rw [pthT_no htn]; rfl))
    ·
     skip
     refine a_skip ?_
     refine a_region ?_
     refine rv (v := .int _ _) (v_move (.inl rfl) nf) ?_
     refine rv (v := .int _ _) (v_add (.inl rfl) (.inl rfl) (fun _ => by omega)) ?_
     refine rv (v := .int _ _) (v_assign (.inl rfl) nf) ?_
     refine r_nil ?_
     refine ⟨i + 1, ent_look ⟨Weak.of_eq rfl, Weak.of_eq rfl, Weak.of_eq (int_eq (by omega)), trivial⟩, ⟨by omega, fun j h1 => by rcases Nat.lt_or_ge j i with h | h; exact c2 j h; (obtain rfl : j = i := by omega); simp [nCntL_gd hi2] at ht89; omega⟩, by omega⟩
   ·
    skip
    refine a_exit ?_
    refine a_seq ?_
    have honce : onceB xs = true := onceB_yes (fun j hj => c2 j (by simp at ht82; omega))
    refine a_region ?_
    refine rv (v := .sl _ _) (v_move (.inl rfl) nf) ?_
    refine rv (v := .int _ _) (v_len_sl sl42 (.inl rfl)) ?_
    refine rn (v := .osl _ _ _ _) (q_makeSlice us22 sb25 zc25 rfl (by decide) (.inl rfl) (.inl rfl) (fun _ => by omega)) ?_
    refine rv (v := .rsl _ _ _ _ _) (v_assign (.inl rfl) nf) ?_
    refine r_pre (ent_reloc_sl (t := 9) rfl rfl) ?_
    refine r_nil ?_
    refine a_seq ?_
    have hpl : (((xs.length : Int) - 1).toNat) * 1 + 1 ≤ (sls (List.replicate xs.length [])).length := (by rw [sls_length]; simp; omega)
    have hset : (sls (List.replicate xs.length [])).set (((xs.length : Int) - 1).toNat * 1) (.sl [] 0) = sls (List.replicate xs.length []) := (by rw [Nat.mul_one]; have := sls_set (List.replicate xs.length []) (((xs.length : Int) - 1).toNat) []; rw [rep_set] at this; exact this)
    refine a_region ?_
    refine r_pre (ent_eq (t := 9) (v' := .osl 1 (sls (List.replicate xs.length [])) xs.length none) weak_rows) ?_
    refine rv (v := .rsl _ _ _ _ _) (v_move (.inl rfl) nf) ?_
    refine rv (v := .sl _ _) (v_move (.inl rfl) nf) ?_
    refine rv (v := .int _ _) (v_len_sl sl42 (.inl rfl)) ?_
    refine rv (v := .int _ _) (v_sub (.inl rfl) (.inl rfl) (fun _ => by omega)) ?_
    refine rn (v := .sl _ _) ((q_sliceLitZ (n := 0) (parts := []) lt25 rfl rfl rfl rfl).cast (by first | rfl | rw [shL_id _ (ic_pure _).1 (ic_pure _).2])) ?_
    refine rv (v := .rp _ _) (v_indexAddr_rsl0 es22 (.inl rfl) (.inl rfl) (fun _ => by omega)) ?_
    refine r_step rfl (o_store (v := .sl _ _) (y' := .osl _ _ _ _) rfl rfl ta25 (.inl rfl) (.inl rfl) rfl rfl rfl rfl rfl rfl hpl (by decide) rfl (congrArg (fun c => AV.osl 1 c xs.length none) hset)) ?_
    refine r_nil ?_
    refine a_seq ?_
    refine a_seq ?_
    refine a_region ?_
    refine rv (v := .sl _ _) (v_move (.inl rfl) nf) ?_
    refine rv (v := .int _ _) (v_len_sl sl42 (.inl rfl)) ?_
    refine rv (v := .int _ _) (v_sub (.inl rfl) (.inl rfl) (fun _ => by omega)) ?_
    refine rv (v := .int _ _) (v_assign (.inl rfl) nf) ?_
    refine r_nil ?_
    refine a_block ?_
    refine a_loop (X := Nat) (fun k => look [(1, .sl (tncells xs) xs.length), (9, .osl 1 (sls (trQ xs k)) xs.length none), (10, .int .i64 (((k : Nat) : Int) - 1))]) (fun k => k ≤ xs.length ∧ (trS xs k).isSome = true) (fun k => k) xs.length (ent_look ⟨Weak.of_eq rfl, Weak.osl (by rw [ts_top]) rfl, Weak.of_eq rfl, trivial⟩) ⟨Nat.le_refl _, by rw [trS_top]; rfl⟩ (fun k hG => ?_)
    obtain ⟨d1, d2⟩ := hG
    refine a_seq ?_
    refine a_seq ?_
    refine a_region ?_
    refine rv (v := .int _ _) (v_move (.inl rfl) nf) ?_
    refine rv (v := .bool _) (v_geq (.inl rfl) (.inl rfl)) ?_
    refine r_nil ?_
    refine a_cond rfl (fun ht104 => ?_) (fun ht104 => ?_)
    ·
     skip
     refine a_skip ?_
     refine a_seq ?_
     refine a_block ?_
     refine a_seq ?_
     obtain ⟨m, rfl⟩ : ∃ m, k = m + 1 := ⟨k - 1, by simp at ht104; omega⟩
     have hm : m < xs.length := (by omega)
     have hPo := ts_ok hcs.1 hall d2
     have hnd := allN_spec hall m hm
     have hms : (((m + 1 : Nat) : Int) - 1).toNat = m := (by omega)
     refine a_region ?_
     refine rv (v := .sl _ _) (v_move (.inl rfl) nf) ?_
     refine rv (v := .int _ _) (v_move (.inl rfl) nf) ?_
     refine rv (v := .pp _ _) (v_indexAddr_sl es42 (.inl rfl) (.inl rfl) (fun _ => ⟨by omega, by omega, tn_ne hm⟩)) ?_
     refine rv (v := .agg [.int .i64 (gn xs m).1, .int .i64 (gn xs m).2.1, .int .i64 (gn xs m).2.2.1, .int .i64 (gn xs m).2.2.2]) (v_load_ppa1 ta62 (.inl rfl) rfl (fun _ => by rw [hms]; exact tn_four hm) rfl) ?_
     refine rn (v := .op [.int _ _, .int _ _, .int _ _, .int _ _]) (q_alloc zc62) ?_
     refine r_step rfl (o_store (v := .agg [.int _ _, .int _ _, .int _ _, .int _ _]) (y' := .op [.int _ _, .int _ _, .int _ _, .int _ _]) rfl rfl ta62 (.inl rfl) (.inl rfl) rfl rfl rfl rfl rfl rfl (Nat.le_of_ble_eq_true rfl) (by decide) rfl rfl) ?_
     refine r_nil ?_
     refine a_seq ?_
     refine a_seq ?_
     refine a_region ?_
     refine rv (v := .agg [.int _ _, .int _ _, .int _ _, .int _ _]) (v_load_rpa1 ta62 (.inl rfl) rfl rfl (fun _ => rfl) rfl) ?_
     refine rn (v := .bool _) (q_call (vs := [.agg [.int _ _, .int _ _, .int _ _, .int _ _]]) (args := [.agg [.int .i64 _, .int .i64 _, .int .i64 _, .int .i64 _]]) hb92 ⟨.inl rfl, trivial⟩ rfl (fun hA => leaf_c _) rfl rfl) ?_
     refine r_nil ?_
     refine a_cond rfl (fun ht112 => ?_) (fun ht112 => ?_)
     ·
      skip
      refine a_exit ?_
      refine a_region ?_
      refine rv (v := .int _ _) (v_move (.inl rfl) nf) ?_
      refine rv (v := .int _ _) (v_sub (.inl rfl) (.inl rfl) (fun _ => by omega)) ?_
      refine rv (v := .int _ _) (v_assign (.inl rfl) nf) ?_
      refine r_nil ?_
      have hlf := ts_leaf hm d2 (by simpa [nV] using ht112)
      refine ⟨m, ent_look ⟨Weak.of_eq rfl, Weak.osl (by rw [hlf.1]) rfl, Weak.of_eq (int_eq (by omega)), trivial⟩, ⟨by omega, hlf.2⟩, by omega⟩
     ·
      skip
      refine a_skip ?_
      refine a_seq ?_
      refine a_seq ?_
      have hvn : nV xs m ≠ 0 := (by simpa [nV] using ht112)
      have hin := inner_spec hnd hvn
      have hpc := clB_len (hPo.2 m)
      have hps := clB_sm (hPo.2 m)
      refine a_region_any mixed (by kernel_rfl) ?_
      refine yv (v := .rsl _ _ _ _ _) (v_move (.inl rfl) nf) ?_
      refine yv (v := .int _ _) (v_move (.inl rfl) nf) ?_
      refine yv (v := .rp _ _) (v_indexAddr_rsl0 es22 (.inl rfl) (.inl rfl) (fun _ => by omega)) ?_
      refine yv (v := .sl (icells (gl (trQ xs (m + 1)) m)) (gl (trQ xs (m + 1)) m).length) (v_load_rp1 ta25 (.inl rfl) rfl (fun _ => by rw [hms, Nat.mul_one]; exact sls_get (show m < (trQ xs (m + 1)).length by rw [hPo.1]; exact hm)) rfl) ?_
      refine yv (v := .rp _ _) (v_fieldAddr_rp fo62_0 (.inl rfl)) ?_
      refine yv (v := .int _ _) (v_load_rp1 ta3 (.inl rfl) rfl (fun _ => rfl) rfl) ?_
      refine y_new (v := .bool _) (q_call (vs := [.sl _ _, .int _ _]) (args := [.sl _ _, .int .i64 _]) hb28 ⟨.inl rfl, .inl rfl, trivial⟩ rfl (fun hA => has2_c _ _ _ ⟨rfl, by omega⟩) rfl rfl) rfl rfl (by decide) (by kernel_rfl) ?_
      refine yv (v := .bool _) (v_move (.inl rfl) nf) ?_
      refine yg (v := .rsl _ _ _ _ _) (v_move (.inl rfl) nf).quiet rfl rfl rfl (by decide) (.inl ⟨_, rfl, rfl⟩) ?_
      refine yg (v := .int _ _) (v_move (.inl rfl) nf).quiet rfl rfl rfl (by decide) (.inl ⟨_, rfl, rfl⟩) ?_
      refine yg (v := .rp _ _) (v_indexAddr_rsl0 es22 (.inr ⟨_, rfl, fun h => h⟩) (.inr ⟨_, rfl, fun h => h⟩) (fun _ => by omega)).quiet rfl rfl rfl (by decide) (.inl ⟨_, rfl, rfl⟩) ?_
      refine yg (v := .sl (icells (gl (trQ xs (m + 1)) m)) (gl (trQ xs (m + 1)) m).length) (v_load_rp1 ta25 (.inr ⟨_, rfl, fun h => h⟩) rfl (fun _ => by rw [hms, Nat.mul_one]; exact sls_get (show m < (trQ xs (m + 1)).length by rw [hPo.1]; exact hm)) rfl).quiet rfl rfl rfl (by decide) (.inl ⟨_, rfl, rfl⟩) ?_
      refine yg (v := .rp _ _) (v_fieldAddr_rp fo62_0 (.inl rfl)).quiet rfl rfl rfl (by decide) (.inl ⟨_, rfl, rfl⟩) ?_
      refine yg (v := .int _ _) (v_load_rp1 ta3 (.inr ⟨_, rfl, fun h => h⟩) rfl (fun _ => rfl) rfl).quiet rfl rfl rfl (by decide) (.inl ⟨_, rfl, rfl⟩) ?_
      refine yg (v := .int _ _) (v_neg (.inr ⟨_, rfl, fun h => h⟩) (fun _ => by unfold nV at hin; omega)).quiet rfl rfl rfl (by decide) (.inl ⟨_, rfl, rfl⟩) ?_
      refine yg (v := .bool _) (q_call (vs := [.sl _ _, .int _ _]) (args := [.sl _ _, .int .i64 _]) hb28 ⟨.inr ⟨_, rfl, fun h => h⟩, .inr ⟨_, rfl, fun h => h⟩, trivial⟩ rfl (fun hA => has2_c _ _ _ ⟨rfl, by omega⟩) rfl rfl) rfl rfl rfl (by decide) (.inl ⟨_, rfl, rfl⟩) ?_
      refine yv (v := .bool _) (v_pick (.inl rfl) (.inl rfl) (.inr ⟨_, rfl, fun h h2 => by simp_all⟩)) ?_
      refine y_nil ?_
      refine a_cond rfl (fun ht129 => ?_) (fun ht129 => ?_)
      ·
       skip
       refine a_seq ?_
       refine a_pre (ent_look (L := [(1, .sl _ _), (9, .osl _ _ _ _), (10, .int _ _), (11, .op [.int _ _, .int _ _, .int _ _, .int _ _])]) ⟨Weak.rfl, Weak.rfl, Weak.rfl, Weak.rfl, trivial⟩) ?_
       have hbad := ts_bad hm d2 hvn (by unfold trOn nV; simpa using ht129)
       have htn := treeB_path (vars := vars) (L := L) hrg hall hbad
       refine a_region ?_
       refine rn (v := .osl _ _ _ _) (q_sliceLit (n := 0) (parts := []) lt22 rfl rfl rfl rfl) ?_
       refine rv (v := .rsl _ _ _ _ _) (v_assign (.inl rfl) nf) ?_
       refine r_pre (ent_reloc_sl (t := 4) rfl rfl) ?_
       refine rv (v := .bool _) (v_assign (.inl rfl) nf) ?_
       refine r_nil ?_
       refine a_ret ?_
       refine retL (rs := [.tmp 4, .tmp 5]) [(4, .osl _ _ _ none), (5, _)] ⟨Weak.osl rfl rfl, Weak.rfl, trivial⟩ rfl Tryz.results61 (by decide) ⟨by decide, by decide, rfl⟩ (by decide) (by decide) (l2_eq (osl_eq2 ?_ ?_) (bool_eq ?_)) rfl
       all_goals (first | exact htn.symm | (rw [pthT_no htn]; rfl))
      ·
       skip
       refine a_skip ?_
       refine a_seq ?_
       refine a_pre (ent_look (L := [(1, .sl _ _), (9, .osl _ _ _ _), (10, .int _ _), (11, .op [.int _ _, .int _ _, .int _ _, .int _ _])]) ⟨Weak.rfl, Weak.rfl, Weak.rfl, Weak.rfl, trivial⟩) ?_
       have hno : trOn xs m (trQ xs (m + 1)) = false := (by unfold trOn nV; simpa using ht129)
       have hgood := ts_good hm d2 hvn hno
       have hp3 : (nLo xs m) * 1 + 1 ≤ (sls (trQ xs (m + 1))).length := (by rw [sls_length]; simp [hPo.1]; omega)
       have hs3 : (sls (trQ xs (m + 1))).set ((nLo xs m) * 1) (.sl (icells (putL (gl (trQ xs (m + 1)) m) (-(nV xs m)))) (putL (gl (trQ xs (m + 1)) m) (-(nV xs m))).length) = sls ((trQ xs (m + 1)).set (nLo xs m) (putL (gl (trQ xs (m + 1)) m) (-(nV xs m)))) := (by rw [Nat.mul_one, sls_set])
       have hp4 : (nHi xs m) * 1 + 1 ≤ (sls ((trQ xs (m + 1)).set (nLo xs m) (putL (gl (trQ xs (m + 1)) m) (-(nV xs m))))).length := (by rw [sls_length]; simp [hPo.1]; omega)
       have hs4 : (sls ((trQ xs (m + 1)).set (nLo xs m) (putL (gl (trQ xs (m + 1)) m) (-(nV xs m))))).set ((nHi xs m) * 1) (.sl (icells (putL (gl (trQ xs (m + 1)) m) (nV xs m))) (putL (gl (trQ xs (m + 1)) m) (nV xs m)).length) = sls (((trQ xs (m + 1)).set (nLo xs m) (putL (gl (trQ xs (m + 1)) m) (-(nV xs m)))).set (nHi xs m) (putL (gl (trQ xs (m + 1)) m) (nV xs m))) := (by rw [Nat.mul_one, sls_set])
       have hrow : gl ((trQ xs (m + 1)).set (nLo xs m) (putL (gl (trQ xs (m + 1)) m) (-(nV xs m)))) m = gl (trQ xs (m + 1)) m := (by rw [gl_set, if_neg (by omega)])
       have hPf : ((trQ xs (m + 1)).set (nLo xs m) (putL (gl (trQ xs (m + 1)) m) (-(nV xs m)))).set (nHi xs m) (putL (gl (trQ xs (m + 1)) m) (nV xs m)) = trQ xs m := (by rw [hgood.1]; rfl)
       refine a_region_z (n := 12) [[(131, true)], [(132, true)], [(133, true)], [(134, true)], [(135, true)], [(136, true)], [(137, true)], [(138, true)], [(139, true)], [(140, true)], [(141, true)], [(142, true)]] mixed (by kernel_rfl) ?_
       refine z_val (v := .rsl _ _ _ _ _) (v_move (.inl rfl) nf) rfl rfl (by decide) rfl (by kernel_rfl) ?_
       refine z_val (v := .rp _ _) (v_fieldAddr_rp fo62_1 (.inl rfl)) rfl rfl (by decide) rfl (by kernel_rfl) ?_
       refine z_val (v := .int _ _) (v_load_rp1 ta3 (.inl rfl) rfl (fun _ => rfl) rfl) rfl rfl (by decide) rfl (by kernel_rfl) ?_
       refine z_val (v := .rsl _ _ _ _ _) (v_move (.inl rfl) nf) rfl rfl (by decide) rfl (by kernel_rfl) ?_
       refine z_val (v := .int _ _) (v_move (.inl rfl) nf) rfl rfl (by decide) rfl (by kernel_rfl) ?_
       refine z_val (v := .rp _ _) (v_indexAddr_rsl0 es22 (.inl rfl) (.inl rfl) (fun _ => by omega)) rfl rfl (by decide) rfl (by kernel_rfl) ?_
       refine z_val (v := .sl (icells (gl (trQ xs (m + 1)) m)) (gl (trQ xs (m + 1)) m).length) (v_load_rp1 ta25 (.inl rfl) rfl (fun _ => by rw [hms, Nat.mul_one]; exact sls_get (show m < (trQ xs (m + 1)).length by rw [hPo.1]; exact hm)) rfl) rfl rfl (by decide) rfl (by kernel_rfl) ?_
       refine z_val (v := .rp _ _) (v_fieldAddr_rp fo62_0 (.inl rfl)) rfl rfl (by decide) rfl (by kernel_rfl) ?_
       refine z_val (v := .int _ _) (v_load_rp1 ta3 (.inl rfl) rfl (fun _ => rfl) rfl) rfl rfl (by decide) rfl (by kernel_rfl) ?_
       refine z_val (v := .int _ _) (v_neg (.inl rfl) (fun _ => by unfold nV at hin; omega)) rfl rfl (by decide) rfl (by kernel_rfl) ?_
       refine z_new (v := .sl (icells (putL (gl (trQ xs (m + 1)) m) (-(nV xs m)))) (putL (gl (trQ xs (m + 1)) m) (-(nV xs m))).length) (QSem.cast (QSem.cast (q_callZ (vs := [.sl _ _, .int _ _]) (args := [.sl _ _, .int .i64 _]) hb29 ⟨.inl rfl, .inl rfl, trivial⟩ rfl (fun hA => put_c (gl (trQ xs (m + 1)) m) _ (-(nV xs m)) ⟨rfl, by omega⟩ hps (by omega)) (ic_noSh _) (ic_noRef _)) (sl_shZ (ic_pure _))) (sl_eq2 rfl (putL_length _ _).symm)) rfl rfl (by decide) rfl (by kernel_rfl) ?_
       refine z_val (v := .rp _ _) (v_indexAddr_rsl0 es22 (.inl rfl) (.inl rfl) (fun _ => by omega)) rfl rfl (by decide) rfl (by kernel_rfl) ?_
       refine z_nil ?_
       refine r_step rfl (o_store (v := .sl _ _) (y' := .osl _ _ _ _) rfl rfl ta25 (.inl rfl) (.inl rfl) rfl rfl rfl rfl rfl rfl hp3 (by decide) rfl (congrArg (fun c => AV.osl 1 c xs.length none) hs3)) ?_
       refine r_nil ?_
       refine a_region_z (n := 11) [[(143, true)], [(144, true)], [(145, true)], [(146, true)], [(147, true)], [(148, true)], [(149, true)], [(150, true)], [(151, true)], [(152, true)], [(153, true)]] mixed (by kernel_rfl) ?_
       refine z_val (v := .rsl _ _ _ _ _) (v_move (.inl rfl) nf) rfl rfl (by decide) rfl (by kernel_rfl) ?_
       refine z_val (v := .rp _ _) (v_fieldAddr_rp fo62_2 (.inl rfl)) rfl rfl (by decide) rfl (by kernel_rfl) ?_
       refine z_val (v := .int _ _) (v_load_rp1 ta3 (.inl rfl) rfl (fun _ => rfl) rfl) rfl rfl (by decide) rfl (by kernel_rfl) ?_
       refine z_val (v := .rsl _ _ _ _ _) (v_move (.inl rfl) nf) rfl rfl (by decide) rfl (by kernel_rfl) ?_
       refine z_val (v := .int _ _) (v_move (.inl rfl) nf) rfl rfl (by decide) rfl (by kernel_rfl) ?_
       refine z_val (v := .rp _ _) (v_indexAddr_rsl0 es22 (.inl rfl) (.inl rfl) (fun _ => by omega)) rfl rfl (by decide) rfl (by kernel_rfl) ?_
       refine z_val (v := .sl (icells (gl (trQ xs (m + 1)) m)) (gl (trQ xs (m + 1)) m).length) (v_load_rp1 ta25 (.inl rfl) rfl (fun _ => by rw [hms, Nat.mul_one]; have := sls_get (L := ((trQ xs (m + 1)).set (nLo xs m) (putL (gl (trQ xs (m + 1)) m) (-(nV xs m))))) (i := m) (by rw [List.length_set, hPo.1]; exact hm); rw [hrow] at this; exact this) rfl) rfl rfl (by decide) rfl (by kernel_rfl) ?_
       refine z_val (v := .rp _ _) (v_fieldAddr_rp fo62_0 (.inl rfl)) rfl rfl (by decide) rfl (by kernel_rfl) ?_
       refine z_val (v := .int _ _) (v_load_rp1 ta3 (.inl rfl) rfl (fun _ => rfl) rfl) rfl rfl (by decide) rfl (by kernel_rfl) ?_
       refine z_new (v := .sl (icells (putL (gl (trQ xs (m + 1)) m) (nV xs m))) (putL (gl (trQ xs (m + 1)) m) (nV xs m)).length) (QSem.cast (QSem.cast (q_callZ (vs := [.sl _ _, .int _ _]) (args := [.sl _ _, .int .i64 _]) hb29 ⟨.inl rfl, .inl rfl, trivial⟩ rfl (fun hA => put_c (gl (trQ xs (m + 1)) m) _ (nV xs m) ⟨rfl, by omega⟩ hps (by omega)) (ic_noSh _) (ic_noRef _)) (sl_shZ (ic_pure _))) (sl_eq2 rfl (putL_length _ _).symm)) rfl rfl (by decide) rfl (by kernel_rfl) ?_
       refine z_val (v := .rp _ _) (v_indexAddr_rsl0 es22 (.inl rfl) (.inl rfl) (fun _ => by omega)) rfl rfl (by decide) rfl (by kernel_rfl) ?_
       refine z_nil ?_
       refine r_step rfl (o_store (v := .sl _ _) (y' := .osl _ _ _ _) rfl rfl ta25 (.inl rfl) (.inl rfl) rfl rfl rfl rfl rfl rfl hp4 (by decide) rfl (congrArg (fun c => AV.osl 1 c xs.length none) hs4)) ?_
       refine r_nil ?_
       refine a_region ?_
       refine rv (v := .int _ _) (v_move (.inl rfl) nf) ?_
       refine rv (v := .int _ _) (v_sub (.inl rfl) (.inl rfl) (fun _ => by omega)) ?_
       refine rv (v := .int _ _) (v_assign (.inl rfl) nf) ?_
       refine r_nil ?_
       refine ⟨m, ent_look ⟨Weak.of_eq rfl, Weak.osl (by rw [hPf]) rfl, Weak.of_eq (int_eq (by omega)), trivial⟩, ⟨by omega, hgood.2⟩, by omega⟩
    ·
     skip
     refine a_exit ?_
     refine a_seq ?_
     have hke : k = 0 := (by simp at ht104; omega)
     subst hke
     have hok := treeB_ok hyes.1 hrg hall honce d2
     refine a_region ?_
     refine rv (v := .rsl _ _ _ _ _) (v_move (.inl rfl) nf) ?_
     refine rv (v := .rsl _ _ _ _ _) (v_assign (.inl rfl) nf) ?_
     refine r_pre (ent_reloc_sl (t := 4) rfl rfl) ?_
     refine rv (v := .bool _) (v_assign (.inl rfl) nf) ?_
     refine r_nil ?_
     refine a_ret ?_
     refine retL (rs := [.tmp 4, .tmp 5]) [(4, .osl _ _ _ none), (5, _)] ⟨Weak.osl rfl rfl, Weak.rfl, trivial⟩ rfl Tryz.results61 (by decide) ⟨by decide, by decide, rfl⟩ (by decide) (by decide) (l2_eq (osl_eq2 ?_ ?_) (bool_eq ?_)) rfl
     all_goals (first | exact hok.1.symm | (rw [hok.2]; exact (ts_ok hcs.1 hall d2).1.symm) | (rw [hok.2]))
end Go.Av
namespace Go.Av
open Go Go.Proofs Go.Sort
set_option maxRecDepth 10000
end Go.Av
namespace Go.Av
open Go Go.Proofs Go.Sort
set_option maxRecDepth 10000
end Go.Av
namespace Go.Av
open Go Go.Sort
theorem pth_shT {P : List (List Int)} {n : Nat} {b : Bool} : shT (.tup [.osl 1 (sls P) n none, .bool b]) = .tup [.sl (sls P) n, .bool b] := by
 show AV.tup [.sl (shL (sls P)) n, .bool b] = _
 rw [shL_id _ (sls_pure P).1 (sls_pure P).2]
def upT (n : Nat) : List Int := (List.range n).map fun (i : Nat) => ((i : Int) + 1)
theorem upT_len (n : Nat) : (upT n).length = n := by simp [upT]
theorem upT_gd {n i : Nat} (h : i < n) : gd (upT n) i = i + 1 := by simp [gd, upT, h]
theorem upT_succ (n : Nat) : upT (n + 1) = upT n ++ [((n : Int) + 1)] := by simp [upT, List.range_succ]
end Go.Av
namespace Go.Av
open Go Go.Proofs Go.Sort
set_option maxRecDepth 10000
theorem hb115 : hasBody Tryz.prog 115 = true := by kernel_rfl
theorem hb116 : hasBody Tryz.prog 116 = true := by kernel_rfl
theorem hb63 : hasBody Tryz.prog 63 = true := by kernel_rfl
theorem ta42 : tyAgg Tryz.prog 42 = some (false, 1) := by kernel_rfl
theorem upTo_c (n : Nat) (h : n ≤ 1048576) : ACall Tryz.prog 115 [.int .i64 ((n : Nat) : Int)] [] (.osl 1 (icells (upT n)) (upT n).length none) [] := by
  refine ACall.intro Tryz.func115 rfl (N := 15) rfl (by decide) (by simp) ?_
  refine a_seq ?_
  refine a_region ?_
  refine rv (v := .nils) (v_assign (.inl rfl) nf) ?_
  refine r_nil ?_
  refine a_seq ?_
  refine a_region ?_
  refine rv (v := .nils) (v_assign (.inl rfl) nf) ?_
  refine r_nil ?_
  refine a_seq ?_
  refine a_seq ?_
  refine a_region ?_
  refine rv (v := .int _ _) (v_assign (.inl rfl) nf) ?_
  refine r_nil ?_
  refine a_block ?_
  refine a_pre (ent_nil (t := 3) (sz := 1) (cap := none) (.inl rfl) (fun _ h => by cases h)) ?_
  refine a_loop (X := Nat) (fun i => look [(0, .int .i64 ((n : Nat) : Int)), (3, .osl 1 (icells (upT i)) (upT i).length none), (4, .int .i64 (((i : Nat) : Int) + 1))]) (fun i => i ≤ n) (fun i => n - i) 0 (ent_look ⟨Weak.of_eq rfl, Weak.osl rfl rfl, Weak.of_eq (int_eq (by omega)), trivial⟩) (Nat.zero_le _) (fun i hG => ?_)
  refine a_seq ?_
  refine a_seq ?_
  refine a_region ?_
  refine rv (v := .int _ _) (v_move (.inl rfl) nf) ?_
  refine rv (v := .int _ _) (v_move (.inl rfl) nf) ?_
  refine rv (v := .bool _) (v_leq (.inl rfl) (.inl rfl)) ?_
  refine r_nil ?_
  refine a_cond rfl (fun ht7 => ?_) (fun ht7 => ?_)
  ·
    skip
    refine a_skip ?_
    refine a_seq ?_
    refine a_block ?_
    refine a_region ?_
    refine rv (v := .rsl _ _ _ _ _) (v_move (.inl rfl) nf) ?_
    refine rv (v := .int _ _) (v_move (.inl rfl) nf) ?_
    refine rn (v := .osl _ _ _ _) (q_sliceLit (n := 1) (parts := [(0, .tmp 11)]) lt25 rfl rfl rfl rfl) ?_
    refine r_pre (ent_reloc_sl (t := 10) rfl rfl) ?_
    refine r_step rfl (o_append rfl ap25 rfl (by decide) (by decide) rfl (src_lit (.inl rfl) rfl rfl rfl) rfl (by rw [icells_length, Nat.mul_one]) (by rw [upT_len]; simp at ht7; omega)) ?_
    refine rv (v := .rsl _ _ _ _ _) (v_assign (.inl rfl) nf) ?_
    refine r_pre (ent_reloc_sl (t := 3) rfl rfl) ?_
    refine r_nil ?_
    refine a_region ?_
    refine rv (v := .int _ _) (v_move (.inl rfl) nf) ?_
    refine rv (v := .int _ _) (v_add (.inl rfl) (.inl rfl) (fun _ => by simp at ht7; omega)) ?_
    refine rv (v := .int _ _) (v_assign (.inl rfl) nf) ?_
    refine r_nil ?_
    refine ⟨i + 1, ent_look ⟨Weak.of_eq rfl, Weak.osl (by rw [upT_succ, icells_append]; rfl) (by rw [upT_len, upT_len]), Weak.of_eq (int_eq (by omega)), trivial⟩, (by simp at ht7; omega), (by simp at ht7; omega)⟩
  ·
    skip
    refine a_exit ?_
    refine a_seq ?_
    refine a_region ?_
    refine rv (v := .rsl _ _ _ _ _) (v_move (.inl rfl) nf) ?_
    refine rv (v := .rsl _ _ _ _ _) (v_assign (.inl rfl) nf) ?_
    refine r_pre (ent_reloc_sl (t := 2) rfl rfl) ?_
    refine r_nil ?_
    refine a_ret ?_
    refine ret1 Tryz.results115 (by decide) (by decide) (Weak.osl ?_ ?_) rfl Leaves.nil
    · simp at ht7; rw [show i = n by omega]
    · simp at ht7; rw [show i = n by omega]
theorem badL1_c (vars : Int) (L : List (List Int)) (xs : List TN) (P : List (List Int)) (i : Nat) (v : Int) (he : v = i + 1) (hi : i < xs.length) (hxl : xs.length ≤ 199) (hcl : ∀ j, j < L.length → clB vars (gl L j) = true) (hall : allN vars L.length xs = true) (hpok : PathsOk vars xs P) : ACall Tryz.prog 116 [.int .i64 v, .pp [.sl (tncells xs) xs.length] 0, .pp [.int .i64 vars, .sl (sls L) L.length] 0, .pp [.sl (sls P) P.length] 0] [] (.bool (badB L xs P i)) [] := by
  have hpl := hpok.1
  have hpc := clB_len (hpok.2 i)
  have hvi : (v - 1).toNat = i := (by omega)
  refine ACall.intro Tryz.func116 rfl (N := 30) rfl (by decide) (by simp) ?_
  refine a_seq ?_
  refine a_region ?_
  refine rv (v := .bool _) (v_assign (.inl rfl) nf) ?_
  refine r_nil ?_
  refine a_seq ?_
  refine a_region ?_
  refine rv (v := .sl _ _) (v_load_pp ta42 (.inl rfl) (fun _ => rfl) rfl) ?_
  refine rv (v := .int _ _) (v_move (.inl rfl) nf) ?_
  refine rv (v := .int _ _) (v_sub (.inl rfl) (.inl rfl) (fun _ => by omega)) ?_
  refine rv (v := .pp _ _) (v_indexAddr_sl es42 (.inl rfl) (.inl rfl) (fun _ => ⟨by omega, by omega, tn_ne hi⟩)) ?_
  refine rv (v := .agg [.int .i64 (gn xs i).1, .int .i64 (gn xs i).2.1, .int .i64 (gn xs i).2.2.1, .int .i64 (gn xs i).2.2.2]) (v_load_ppa1 ta62 (.inl rfl) rfl (fun _ => by rw [hvi]; exact tn_four hi) rfl) ?_
  refine rn (v := .op [.int _ _, .int _ _, .int _ _, .int _ _]) (q_alloc zc62) ?_
  refine r_step rfl (o_store (v := .agg [.int _ _, .int _ _, .int _ _, .int _ _]) (y' := .op [.int _ _, .int _ _, .int _ _, .int _ _]) rfl rfl ta62 (.inl rfl) (.inl rfl) rfl rfl rfl rfl rfl rfl (Nat.le_of_ble_eq_true rfl) (by decide) rfl rfl) ?_
  refine r_nil ?_
  refine a_seq ?_
  refine a_region_any mixed (by kernel_rfl) ?_
  refine yv (v := .rp _ _) (v_fieldAddr_rp fo62_0 (.inl rfl)) ?_
  refine yv (v := .int _ _) (v_load_rp1 ta3 (.inl rfl) rfl (fun _ => rfl) rfl) ?_
  refine yv (v := .bool _) (v_eql (.inl rfl) (.inl rfl)) ?_
  refine yv (v := .bool _) (v_move (.inl rfl) nf) ?_
  refine yg (v := .pp _ _) (v_fieldAddr_pp fo30_1 (.inl rfl)).quiet rfl rfl rfl (by decide) (.inl ⟨_, rfl, rfl⟩) ?_
  refine yg (v := .sl _ _) (v_load_pp ta22 (.inr ⟨_, rfl, fun h => h⟩) (fun _ => rfl) rfl).quiet rfl rfl rfl (by decide) (.inl ⟨_, rfl, rfl⟩) ?_
  refine yg (v := .rp _ _) (v_fieldAddr_rp fo62_3 (.inl rfl)).quiet rfl rfl rfl (by decide) (.inl ⟨_, rfl, rfl⟩) ?_
  refine yg (v := .int _ _) (v_load_rp1 ta3 (.inr ⟨_, rfl, fun h => h⟩) rfl (fun _ => rfl) rfl).quiet rfl rfl rfl (by decide) (.inl ⟨_, rfl, rfl⟩) ?_
  refine yg (v := .pp _ _) (v_indexAddr_sl es22 (.inr ⟨_, rfl, fun h => h⟩) (.inr ⟨_, rfl, fun h => h⟩) (fun hA => by have hlf := leaf_spec (allN_spec hall i hi) (by simpa [nV] using hA); exact ⟨by omega, by omega, sls_ne (show (gn xs i).2.2.2.toNat < L.length by omega)⟩)).quiet rfl rfl rfl (by decide) (.inl ⟨_, rfl, rfl⟩) ?_
  refine yg (v := .sl (icells (gl L (gn xs i).2.2.2.toNat)) (gl L (gn xs i).2.2.2.toNat).length) (v_load_pp ta25 (.inr ⟨_, rfl, fun h => h⟩) (fun hA => by have hlf := leaf_spec (allN_spec hall i hi) (by simpa [nV] using hA); rw [Nat.mul_one]; exact sls_get (show (gn xs i).2.2.2.toNat < L.length by omega)) rfl).quiet rfl rfl rfl (by decide) (.inl ⟨_, rfl, rfl⟩) ?_
  refine yg (v := .sl _ _) (v_load_pp ta22 (.inl rfl) (fun _ => rfl) rfl).quiet rfl rfl rfl (by decide) (.inl ⟨_, rfl, rfl⟩) ?_
  refine yg (v := .int _ _) (v_move (.inl rfl) nf).quiet rfl rfl rfl (by decide) (.inl ⟨_, rfl, rfl⟩) ?_
  refine yg (v := .int _ _) (v_sub (.inr ⟨_, rfl, fun h => h⟩) (.inl rfl) (fun _ => by omega)).quiet rfl rfl rfl (by decide) (.inl ⟨_, rfl, rfl⟩) ?_
  refine yg (v := .pp _ _) (v_indexAddr_sl es22 (.inr ⟨_, rfl, fun h => h⟩) (.inr ⟨_, rfl, fun h => h⟩) (fun _ => ⟨by omega, by omega, sls_ne (show i < P.length by omega)⟩)).quiet rfl rfl rfl (by decide) (.inl ⟨_, rfl, rfl⟩) ?_
  refine yg (v := .sl (icells (gl P i)) (gl P i).length) (v_load_pp ta25 (.inr ⟨_, rfl, fun h => h⟩) (fun _ => by rw [hvi, Nat.mul_one]; exact sls_get (show i < P.length by omega)) rfl).quiet rfl rfl rfl (by decide) (.inl ⟨_, rfl, rfl⟩) ?_
  refine yg (v := .int _ _) (q_call (vs := [.sl _ _, .sl _ _]) (args := [.sl _ _, .sl _ _]) hb67 ⟨.inr ⟨_, rfl, fun h => h⟩, .inr ⟨_, rfl, fun h => h⟩, trivial⟩ rfl (fun hA => iClv_c (gl L (gn xs i).2.2.2.toNat) (gl P i) (clB_sm (hcl _ (by have hlf := leaf_spec (allN_spec hall i hi) (by simpa [nV] using hA); omega))) (by have hlf := leaf_spec (allN_spec hall i hi) (by simpa [nV] using hA); have := clB_len (hcl (gn xs i).2.2.2.toNat (by omega)); omega) (by omega)) rfl rfl) rfl rfl rfl (by decide) (.inl ⟨_, rfl, rfl⟩) ?_
  refine yg (v := .bool _) (v_geq (.inr ⟨_, rfl, fun h => h⟩) (.inl rfl)).quiet rfl rfl rfl (by decide) (.inl ⟨_, rfl, rfl⟩) ?_
  refine yv (v := .bool _) (v_pick (.inl rfl) (.inr ⟨_, rfl, fun h h2 => by simp_all⟩) (.inl rfl)) ?_
  refine yv (v := .bool _) (v_assign (.inl rfl) nf) ?_
  refine y_nil ?_
  refine a_ret ?_
  refine ret1 Tryz.results116 (by decide) (by decide) (Weak.of_eq (bool_eq ?_)) rfl Leaves.nil
  unfold badB nV; cases h1 : decide ((gn xs i).1 = 0) <;> simp
theorem badLeaf_c (vars : Int) (L : List (List Int)) (xs : List TN) (hcf : cnfB vars L = true) (hrg : 0 < xs.length ∧ xs.length ≤ 199) (hall : allN vars L.length xs = true) (hsm : (trI xs 0).isSome = true) : ACall Tryz.prog 94 [.agg [.int .i64 vars, .sl (sls L) L.length], .sl (tncells xs) xs.length] [] (.int .i64 (badI L xs (pthL xs))) [] := by
  have hbB := hb116
  have hpok : PathsOk vars xs (pthL xs) := tr_ok (cnfB_spec hcf).1 hall hsm
  have hpn := hpok.1
  have hcp : capOk [.pp [.sl (tncells xs) xs.length] 0, .pp [.int .i64 vars, .sl (sls L) L.length] 0, .pp [.sl (sls (pthL xs)) (pthL xs).length] 0] = true := (by simp [capOk, pureL, pureV, noNilL, noNil, scalarL, scalar, tn_pure, sls_pure])
  refine ACall.intro Tryz.func94 rfl (N := 17) rfl (by decide) (by simp) ?_
  refine a_seq ?_
  refine a_region ?_
  refine rn (v := .op [.int _ _, .sl _ _]) (q_box (.inl rfl) rfl rfl) ?_
  refine rn (v := .op [.sl _ _]) (q_box (.inl rfl) rfl rfl) ?_
  refine rv (v := .int _ _) (v_assign (.inl rfl) nf) ?_
  refine r_nil ?_
  refine a_seq ?_
  refine a_region ?_
  refine rv (v := .sl _ _) (v_load_rp1 ta42 (.inl rfl) rfl (fun _ => rfl) rfl) ?_
  refine rn (v := .tup [.sl _ _, .bool _]) (QSem.cast (q_callFZ (vs := [.sl _ _]) (args := [.sl _ _]) hb40 ⟨.inl rfl, trivial⟩ rfl (fun hA => iPaths_c vars L.length xs (cnfB_spec hcf).1 hrg.1 hrg.2 hall) rfl (by simp [noRef, noRefL, sls_noRef])) (pth_shT)) ?_
  refine rv (v := .tup [.sl _ _, .bool _]) (v_mv rfl) ?_
  refine rv (v := .sl _ _) (v_extract rfl rfl) ?_
  refine rv (v := .bool _) (v_extract rfl rfl) ?_
  refine rn (v := .op [.nils]) (q_alloc zc22) ?_
  refine r_step rfl (o_store (v := .sl _ _) (y' := .op [.sl _ _]) rfl rfl ta22 (.inl rfl) (.inl rfl) rfl rfl rfl rfl rfl rfl (Nat.le_of_ble_eq_true rfl) (by decide) rfl rfl) ?_
  refine rv (v := .bool _) (v_assign (.inl rfl) nf) ?_
  refine r_nil ?_
  refine a_seq ?_
  refine a_region ?_
  refine rv (v := .sl _ _) (v_load_rp1 ta42 (.inl rfl) rfl (fun _ => rfl) rfl) ?_
  refine rv (v := .int _ _) (v_len_sl sl42 (.inl rfl)) ?_
  refine rn (v := .osl _ _ _ _) (q_call (vs := [.int _ _]) (args := [.int .i64 _]) hb115 ⟨.inl rfl, trivial⟩ rfl (fun hA => upTo_c xs.length (by omega)) (ic_noSh _) (ic_noRef _)) ?_
  refine rv (v := .fn _ _ _) (v_makeFunc (first := []) (caps := [.tmp 3, .tmp 2, .tmp 5]) rfl rfl) ?_
  refine rn (v := .int _ _) (q_call (vs := [.rsl _ _ _ _ _, .fn _ _ _]) (args := [.sl _ _, .fn _ _ _]) hb113 ⟨.inl rfl, .inl rfl, trivial⟩ (l2_eq (sl_sh (ic_pure _)) rfl) (fun hA => idxI_c 116 [.pp [.sl (tncells xs) xs.length] 0, .pp [.int .i64 vars, .sl (sls L) L.length] 0, .pp [.sl (sls (pthL xs)) (pthL xs).length] 0] hbB hcp (upT xs.length) (badB L xs (pthL xs)) (by rw [upT_len]; omega) (fun i hi => badL1_c vars L xs (pthL xs) i _ (upT_gd (by rw [upT_len] at hi; exact hi)) (by rw [upT_len] at hi; exact hi) hrg.2 (cnfB_spec hcf).2.2 hall hpok)) rfl rfl) ?_
  refine rv (v := .int _ _) (v_assign (.inl rfl) nf) ?_
  refine r_nil ?_
  refine a_ret ?_
  refine ret1 Tryz.results94 (by decide) (by decide) (Weak.of_eq (int_eq ?_)) rfl Leaves.nil
  unfold badI; rw [upT_len]
theorem bad9_c (vars : Int) (L : List (List Int)) (xs : List TN) (P : List (List Int)) (hcf : cnfB vars L = true) (hrg : 0 < xs.length ∧ xs.length ≤ 199) (hall : allN vars L.length xs = true) (hpok : PathsOk vars xs P) : ACall Tryz.prog 62 [.agg [.int .i64 vars, .sl (sls L) L.length], .sl (tncells xs) xs.length, .sl (sls P) P.length] [] (.int .i64 (badI L xs P)) [] := by
  have hcs := cnfB_spec hcf
  have hpl := hpok.1
  refine ACall.intro Tryz.func62 rfl (N := 37) rfl (by decide) (by simp) ?_
  refine a_seq ?_
  refine a_region ?_
  refine rn (v := .op [.int _ _, .sl _ _]) (q_box (.inl rfl) rfl rfl) ?_
  refine rv (v := .int _ _) (v_assign (.inl rfl) nf) ?_
  refine r_nil ?_
  refine a_seq ?_
  refine a_seq ?_
  refine a_region ?_
  refine rv (v := .int _ _) (v_assign (.inl rfl) nf) ?_
  refine r_nil ?_
  refine a_block ?_
  refine a_loop (X := Nat) (fun i => look [(1, .sl (tncells xs) xs.length), (2, .sl (sls P) P.length), (3, .op [.int .i64 vars, .sl (sls L) L.length]), (7, .int .i64 ((i : Nat) : Int))]) (fun i => i ≤ xs.length ∧ ∀ j, j < i → badB L xs P j = false) (fun i => xs.length - i) 0 (ent_look ⟨Weak.of_eq rfl, Weak.of_eq rfl, Weak.of_eq rfl, Weak.of_eq rfl, trivial⟩) ⟨Nat.zero_le _, fun j h => by omega⟩ (fun i hG => ?_)
  obtain ⟨g1, g2⟩ := hG
  have hpc := clB_len (hpok.2 i)
  refine a_seq ?_
  refine a_seq ?_
  refine a_region ?_
  refine rv (v := .int _ _) (v_move (.inl rfl) nf) ?_
  refine rv (v := .sl _ _) (v_move (.inl rfl) nf) ?_
  refine rv (v := .int _ _) (v_len_sl sl42 (.inl rfl)) ?_
  refine rv (v := .bool _) (v_lss (.inl rfl) (.inl rfl)) ?_
  refine r_nil ?_
  refine a_cond rfl (fun ht11 => ?_) (fun ht11 => ?_)
  ·
    skip
    refine a_skip ?_
    refine a_seq ?_
    refine a_block ?_
    refine a_seq ?_
    have hi : i < xs.length := (by simp at ht11; omega)
    refine a_region_any mixed (by kernel_rfl) ?_
    refine yv (v := .sl _ _) (v_move (.inl rfl) nf) ?_
    refine yv (v := .int _ _) (v_move (.inl rfl) nf) ?_
    refine yv (v := .pp _ _) (v_indexAddr_sl es42 (.inl rfl) (.inl rfl) (fun _ => ⟨by omega, by omega, tn_ne hi⟩)) ?_
    refine yv (v := .agg [.int .i64 (gn xs i).1, .int .i64 (gn xs i).2.1, .int .i64 (gn xs i).2.2.1, .int .i64 (gn xs i).2.2.2]) (v_load_ppa1 ta62 (.inl rfl) rfl (fun _ => tn_four hi) rfl) ?_
    refine y_new (v := .bool _) (q_call (vs := [.agg [.int _ _, .int _ _, .int _ _, .int _ _]]) (args := [.agg [.int .i64 _, .int .i64 _, .int .i64 _, .int .i64 _]]) hb92 ⟨.inl rfl, trivial⟩ rfl (fun hA => leaf_c _) rfl rfl) rfl rfl (by decide) (by kernel_rfl) ?_
    refine yv (v := .bool _) (v_move (.inl rfl) nf) ?_
    refine yg (v := .rp _ _) (v_fieldAddr_rp fo30_1 (.inl rfl)).quiet rfl rfl rfl (by decide) (.inl ⟨_, rfl, rfl⟩) ?_
    refine yg (v := .sl _ _) (v_load_rp1 ta22 (.inr ⟨_, rfl, fun h => h⟩) rfl (fun _ => rfl) rfl).quiet rfl rfl rfl (by decide) (.inl ⟨_, rfl, rfl⟩) ?_
    refine yg (v := .sl _ _) (v_move (.inl rfl) nf).quiet rfl rfl rfl (by decide) (.inl ⟨_, rfl, rfl⟩) ?_
    refine yg (v := .int _ _) (v_move (.inl rfl) nf).quiet rfl rfl rfl (by decide) (.inl ⟨_, rfl, rfl⟩) ?_
    refine yg (v := .pp _ _) (v_indexAddr_sl es42 (.inr ⟨_, rfl, fun h => h⟩) (.inr ⟨_, rfl, fun h => h⟩) (fun _ => ⟨by omega, by omega, tn_ne hi⟩)).quiet rfl rfl rfl (by decide) (.inl ⟨_, rfl, rfl⟩) ?_
    refine yg (v := .pp _ _) (v_fieldAddr_pp fo62_3 (.inr ⟨_, rfl, fun h => h⟩)).quiet rfl rfl rfl (by decide) (.inl ⟨_, rfl, rfl⟩) ?_
    refine yg (v := .int .i64 (gn xs i).2.2.2) (v_load_pp ta3 (.inr ⟨_, rfl, fun h => h⟩) (fun _ => by have := tn_at (j := 3) hi (by omega); exact this) rfl).quiet rfl rfl rfl (by decide) (.inl ⟨_, rfl, rfl⟩) ?_
    refine yg (v := .pp _ _) (v_indexAddr_sl es22 (.inr ⟨_, rfl, fun h => h⟩) (.inr ⟨_, rfl, fun h => h⟩) (fun hA => by have hlf := leaf_spec (allN_spec hall i hi) (by simpa [nV] using hA); exact ⟨by omega, by omega, sls_ne (show (gn xs i).2.2.2.toNat < L.length by omega)⟩)).quiet rfl rfl rfl (by decide) (.inl ⟨_, rfl, rfl⟩) ?_
    refine yg (v := .sl (icells (gl L (gn xs i).2.2.2.toNat)) (gl L (gn xs i).2.2.2.toNat).length) (v_load_pp ta25 (.inr ⟨_, rfl, fun h => h⟩) (fun hA => by have hlf := leaf_spec (allN_spec hall i hi) (by simpa [nV] using hA); rw [Nat.mul_one]; exact sls_get (show (gn xs i).2.2.2.toNat < L.length by omega)) rfl).quiet rfl rfl rfl (by decide) (.inl ⟨_, rfl, rfl⟩) ?_
    refine yg (v := .sl _ _) (v_move (.inl rfl) nf).quiet rfl rfl rfl (by decide) (.inl ⟨_, rfl, rfl⟩) ?_
    refine yg (v := .int _ _) (v_move (.inl rfl) nf).quiet rfl rfl rfl (by decide) (.inl ⟨_, rfl, rfl⟩) ?_
    refine yg (v := .pp _ _) (v_indexAddr_sl es22 (.inr ⟨_, rfl, fun h => h⟩) (.inr ⟨_, rfl, fun h => h⟩) (fun _ => ⟨by omega, by omega, sls_ne (show i < P.length by omega)⟩)).quiet rfl rfl rfl (by decide) (.inl ⟨_, rfl, rfl⟩) ?_
    refine yg (v := .sl (icells (gl P i)) (gl P i).length) (v_load_pp ta25 (.inr ⟨_, rfl, fun h => h⟩) (fun _ => by rw [Nat.mul_one]; exact sls_get (show i < P.length by omega)) rfl).quiet rfl rfl rfl (by decide) (.inl ⟨_, rfl, rfl⟩) ?_
    refine yg (v := .int _ _) (q_call (vs := [.sl _ _, .sl _ _]) (args := [.sl _ _, .sl _ _]) hb63 ⟨.inr ⟨_, rfl, fun h => h⟩, .inr ⟨_, rfl, fun h => h⟩, trivial⟩ rfl (fun hA => sClv_c (gl L (gn xs i).2.2.2.toNat) (gl P i) (clB_sm (hcs.2.2 _ (by have hlf := leaf_spec (allN_spec hall i hi) (by simpa [nV] using hA); omega))) (by have hlf := leaf_spec (allN_spec hall i hi) (by simpa [nV] using hA); have := clB_len (hcs.2.2 (gn xs i).2.2.2.toNat (by omega)); omega) (by omega)) rfl rfl) rfl rfl rfl (by decide) (.inl ⟨_, rfl, rfl⟩) ?_
    refine yg (v := .bool _) (v_geq (.inr ⟨_, rfl, fun h => h⟩) (.inl rfl)).quiet rfl rfl rfl (by decide) (.inl ⟨_, rfl, rfl⟩) ?_
    refine yv (v := .bool _) (v_pick (.inl rfl) (.inr ⟨_, rfl, fun h h2 => by simp_all⟩) (.inl rfl)) ?_
    refine y_nil ?_
    refine a_cond rfl (fun ht35 => ?_) (fun ht35 => ?_)
    ·
      skip
      refine a_seq ?_
      refine a_pre (ent_look (L := [(1, .sl _ _), (2, .sl _ _), (3, .op [.int _ _, .sl _ _]), (7, .int _ _)]) ⟨Weak.rfl, Weak.rfl, Weak.rfl, Weak.rfl, trivial⟩) ?_
      have hbb : (bif decide ((gn xs i).1 = 0) then decide (cval (gl L (gn xs i).2.2.2.toNat) (gl P i) ≥ 0) else false) = badB L xs P i := (by unfold badB nV; cases h1 : decide ((gn xs i).1 = 0) <;> simp)
      refine a_region ?_
      refine rv (v := .int _ _) (v_move (.inl rfl) nf) ?_
      refine rv (v := .int _ _) (v_assign (.inl rfl) nf) ?_
      refine r_nil ?_
      refine a_ret ?_
      refine ret1 Tryz.results62 (by decide) (by decide) (Weak.of_eq (int_eq ?_)) rfl Leaves.nil
      exact (fidx_found hi (by rw [← hbb]; exact ht35) g2).symm
    ·
      skip
      refine a_skip ?_
      refine a_pre (ent_look (L := [(1, .sl _ _), (2, .sl _ _), (3, .op [.int _ _, .sl _ _]), (7, .int _ _)]) ⟨Weak.rfl, Weak.rfl, Weak.rfl, Weak.rfl, trivial⟩) ?_
      refine a_region ?_
      refine rv (v := .int _ _) (v_move (.inl rfl) nf) ?_
      refine rv (v := .int _ _) (v_add (.inl rfl) (.inl rfl) (fun _ => by omega)) ?_
      refine rv (v := .int _ _) (v_assign (.inl rfl) nf) ?_
      refine r_nil ?_
      have hbb : (bif decide ((gn xs i).1 = 0) then decide (cval (gl L (gn xs i).2.2.2.toNat) (gl P i) ≥ 0) else false) = badB L xs P i := (by unfold badB nV; cases h1 : decide ((gn xs i).1 = 0) <;> simp)
      refine ⟨i + 1, ent_look ⟨Weak.of_eq rfl, Weak.of_eq rfl, Weak.of_eq rfl, Weak.of_eq (int_eq (by omega)), trivial⟩, ⟨by omega, ok_stepF g2 (by rw [← hbb]; exact ht35)⟩, by omega⟩
  ·
    skip
    refine a_exit ?_
    refine a_seq ?_
    refine a_region ?_
    refine rv (v := .int _ _) (v_assign (.inl rfl) nf) ?_
    refine r_nil ?_
    refine a_ret ?_
    refine ret1 Tryz.results62 (by decide) (by decide) (Weak.of_eq (int_eq ?_)) rfl Leaves.nil
    simp at ht11; exact (fidx_none (fun j hj => g2 j (by omega))).symm
end Go.Av
namespace Go.Av
open Go Go.Proofs Go.Sort
set_option maxRecDepth 10000
theorem hb93 : hasBody Tryz.prog 93 = true := by kernel_rfl
theorem hb94 : hasBody Tryz.prog 94 = true := by kernel_rfl
theorem iIst_c (vars : Int) (L : List (List Int)) (xs : List TN) (hk : CnfOk vars L) (hl : xs.length ≤ 1048576) : ACall Tryz.prog 64 [.agg [.int .i64 vars, .sl (sls L) L.length], .sl (tncells xs) xs.length] [] (.tup [.bool ((treeB vars L xs) && decide ((badI L xs (pthL xs)) < 0)), .bool (treeB vars L xs)]) [] := by
 refine ACall.intro Tryz.func64 rfl (N := 14) rfl (by decide) (by simp) ?_
 refine a_seq ?_
 refine a_region ?_
 refine rn (v := .op [.int _ _, .sl _ _]) (q_box (.inl rfl) rfl rfl) ?_
 refine rv (v := .bool _) (v_assign (.inl rfl) nf) ?_
 refine rv (v := .bool _) (v_assign (.inl rfl) nf) ?_
 refine r_nil ?_
 refine a_seq ?_
 refine a_seq ?_
 refine a_region ?_
 refine rv (v := .agg [.int _ _, .sl _ _]) (v_load_rpa1 ta30 (.inl rfl) rfl rfl (fun _ => rfl) rfl) ?_
 refine rv (v := .sl _ _) (v_move (.inl rfl) nf) ?_
 refine rn (v := .bool _) (q_call (vs := [.agg [.int _ _, .sl _ _], .sl _ _]) (args := [.agg [.int .i64 _, .sl _ _], .sl _ _]) hb93 ⟨.inl rfl, .inl rfl, trivial⟩ rfl (fun hA => isTree_c vars L xs hk hl) rfl rfl) ?_
 refine rv (v := .bool _) (v_not (.inl rfl)) ?_
 refine r_nil ?_
 refine a_cond rfl (fun ht9 => ?_) (fun ht9 => ?_)
 ·
  skip
  refine a_seq ?_
  have htn : (treeB vars L xs) = false := (by simpa using ht9)
  refine a_region ?_
  refine rv (v := .bool _) (v_assign (.inl rfl) nf) ?_
  refine rv (v := .bool _) (v_assign (.inl rfl) nf) ?_
  refine r_nil ?_
  refine a_ret ?_
  refine retL (rs := [.tmp 4, .tmp 5]) [(4, _), (5, _)] ⟨Weak.rfl, Weak.rfl, trivial⟩ rfl Tryz.results64 (by decide) ⟨by decide, by decide, rfl⟩ (by decide) (by decide) (l2_eq (bool_eq ?_) (bool_eq ?_)) rfl
  all_goals (first | exact htn.symm | (rw [htn]; rfl))
 ·
  skip
  refine a_skip ?_
  refine a_seq ?_
  have hty : (treeB vars L xs) = true := (by simpa using ht9)
  obtain ⟨hcf, hrg, hall, hsm⟩ := treeB_spec hty
  have hpok := pth_ok hty
  refine a_region ?_
  refine rv (v := .agg [.int _ _, .sl _ _]) (v_load_rpa1 ta30 (.inl rfl) rfl rfl (fun _ => rfl) rfl) ?_
  refine rv (v := .sl _ _) (v_move (.inl rfl) nf) ?_
  refine rn (v := .int _ _) (q_call (vs := [.agg [.int _ _, .sl _ _], .sl _ _]) (args := [.agg [.int .i64 _, .sl _ _], .sl _ _]) hb94 ⟨.inl rfl, .inl rfl, trivial⟩ rfl (fun hA => badLeaf_c vars L xs hcf hrg hall hsm) rfl rfl) ?_
  refine rv (v := .bool _) (v_lss (.inl rfl) (.inl rfl)) ?_
  refine rv (v := .bool _) (v_assign (.inl rfl) nf) ?_
  refine rv (v := .bool _) (v_assign (.inl rfl) nf) ?_
  refine r_nil ?_
  refine a_ret ?_
  refine retL (rs := [.tmp 4, .tmp 5]) [(4, _), (5, _)] ⟨Weak.rfl, Weak.rfl, trivial⟩ rfl Tryz.results64 (by decide) ⟨by decide, by decide, rfl⟩ (by decide) (by decide) (l2_eq (bool_eq ?_) (bool_eq ?_)) rfl
  all_goals (first | exact hty.symm | (rw [hty]; rfl))
end Go.Av
namespace Go.Av
open Go Go.Sort
def falI (L : List (List Int)) (P : List (List Int)) (i : Nat) : Int := fidx (fun c => decide (cval (gl L c) (gl P i) < 0)) L.length
theorem falP_fidx {L : List (List Int)} {a : List Int} : ∀ (n : Nat), (falP L a n = [] ∧ ∀ c, c < n → ¬ cval (gl L c) a < 0) ∨ ∃ c : Nat, c < n ∧ cval (gl L c) a < 0 ∧ (∀ d, d < c → ¬ cval (gl L d) a < 0) ∧ gd (falP L a n) 0 = c ∧ 0 < (falP L a n).length
  | 0 => .inl ⟨rfl, fun c h => by omega⟩
  | n + 1 => by
    rcases falP_fidx (L := L) (a := a) n with ⟨h1, h2⟩ | ⟨c, h1, h2, h3, h4, h5⟩
    · by_cases h : cval (gl L n) a < 0
      · refine .inr ⟨n, by omega, h, h2, ?_, ?_⟩
        · rw [falP_succ, if_pos h, h1]; rfl
        · rw [falP_succ, if_pos h, h1]; simp
      · refine .inl ⟨by rw [falP_succ, if_neg h, h1], fun c hc => ?_⟩
        rcases Nat.lt_or_ge c n with hlt | hge
        · exact h2 c hlt
        · obtain rfl : c = n := by omega
          exact h
    · refine .inr ⟨c, by omega, h2, h3, ?_, ?_⟩
      · rw [falP_succ]; split
        · unfold gd at h4 ⊢; rw [List.getElem?_append_left h5]; exact h4
        · exact h4
      · rw [falP_succ]; split
        · simp
        · exact h5
theorem falI_list {L P : List (List Int)} {i : Nat} : (falP L (gl P i) L.length = [] ∧ falI L P i = -1) ∨ (0 < (falP L (gl P i) L.length).length ∧ falI L P i = gd (falP L (gl P i) L.length) 0 ∧ 0 ≤ falI L P i) := by
  rcases falP_fidx (L := L) (a := gl P i) L.length with ⟨h1, h2⟩ | ⟨c, h1, h2, h3, h4, h5⟩
  · exact .inl ⟨h1, fidx_none fun j hj => by simpa using h2 j hj⟩
  · have : falI L P i = c := fidx_found h1 (by simpa using h2) (fun j hj => by simpa using h3 j hj)
    exact .inr ⟨h5, by rw [this, h4], by omega⟩
def gStep (xs : List TN) (F : Nat → Int) (k : Nat) (G : List Bool) : List Bool :=
  if nV xs k ≠ 0 ∧ (G.getD k false = true ∨ 0 ≤ F k) then (G.set (nLo xs k) true).set (nHi xs k) true else G
def lStep (xs : List TN) (F : Nat → Int) (k : Nat) (B : List Bool) : List Bool :=
  if B.getD k false = true ∧ F k < 0 then (B.set (nLo xs k) true).set (nHi xs k) true else B
def bG (st : Nat → List Bool → List Bool) (B0 : List Bool) (n : Nat) : Nat → List Bool
  | 0 => B0
  | d + 1 => st (n - 1 - d) (bG st B0 n d)
def goB (xs : List TN) (F : Nat → Int) (k : Nat) : List Bool := bG (gStep xs F) (List.replicate xs.length false) xs.length (xs.length - k)
def leB (xs : List TN) (F : Nat → Int) (k : Nat) : List Bool := bG (lStep xs F) ((List.replicate xs.length false).set (xs.length - 1) true) xs.length (xs.length - k)
theorem bG_step {st : Nat → List Bool → List Bool} {B0 : List Bool} {n k : Nat} (h : k < n) : bG st B0 n (n - k) = st k (bG st B0 n (n - (k + 1))) := by
  rw [show n - k = (n - (k + 1)) + 1 by omega, bG, show n - 1 - (n - (k + 1)) = k by omega]
theorem goB_step {xs : List TN} {F : Nat → Int} {k : Nat} (h : k < xs.length) : goB xs F k = gStep xs F k (goB xs F (k + 1)) := bG_step h
theorem leB_step {xs : List TN} {F : Nat → Int} {k : Nat} (h : k < xs.length) : leB xs F k = lStep xs F k (leB xs F (k + 1)) := bG_step h
theorem goB_top (xs : List TN) (F : Nat → Int) : goB xs F xs.length = List.replicate xs.length false := by unfold goB; rw [Nat.sub_self]; rfl
theorem leB_top (xs : List TN) (F : Nat → Int) : leB xs F xs.length = (List.replicate xs.length false).set (xs.length - 1) true := by unfold leB; rw [Nat.sub_self]; rfl
theorem gStep_len (xs : List TN) (F : Nat → Int) (k : Nat) (G : List Bool) : (gStep xs F k G).length = G.length := by unfold gStep; split <;> simp
theorem lStep_len (xs : List TN) (F : Nat → Int) (k : Nat) (G : List Bool) : (lStep xs F k G).length = G.length := by unfold lStep; split <;> simp
theorem bG_len {st : Nat → List Bool → List Bool} {B0 : List Bool} {n : Nat} (h : ∀ k B, (st k B).length = B.length) : ∀ d, (bG st B0 n d).length = B0.length
  | 0 => rfl
  | d + 1 => by rw [bG, h]; exact bG_len h d
theorem goB_len (xs : List TN) (F : Nat → Int) (k : Nat) : (goB xs F k).length = xs.length := by unfold goB; rw [bG_len (gStep_len xs F)]; simp
theorem leB_len (xs : List TN) (F : Nat → Int) (k : Nat) : (leB xs F k).length = xs.length := by unfold leB; rw [bG_len (lStep_len xs F)]; simp
theorem getD_set {B : List Bool} {i j : Nat} {b : Bool} : (B.set i b).getD j false = if i = j ∧ i < B.length then b else B.getD j false := by
  rw [List.getD_eq_getElem?_getD, List.getD_eq_getElem?_getD, List.getElem?_set]
  by_cases h : i = j
  · subst h
    by_cases h2 : i < B.length
    · simp [h2]
    · simp [h2]
  · simp [h]
section
variable {vars m : Int} {xs : List TN} {F : Nat → Int}
theorem left_gone (ha : allN vars m xs = true) (h0 : 0 < xs.length) (hs : (trI xs 0).isSome = true) (hF : ∀ i, i < xs.length → nV xs i = 0 → 0 ≤ F i) : ∀ (d k : Nat), k + d = xs.length →
    ∀ j, j < xs.length → (leB xs F k).getD j false = (seenB xs k j && !(goB xs F k).getD j false) ∧ ((goB xs F k).getD j false = true → seenB xs k j = true)
  | 0, k, h, j, hj => by
    obtain rfl : k = xs.length := by omega
    rw [leB_top, goB_top]
    have e1 : (List.replicate xs.length false).getD j false = false := by rw [List.getD_eq_getElem?_getD, List.getElem?_replicate]; split <;> rfl
    rw [e1]
    refine ⟨?_, fun h => by cases h⟩
    rw [getD_set, e1]
    unfold seenB
    by_cases h2 : xs.length - 1 = j
    · subst h2; simp; omega
    · simp [h2]; omega
  | d + 1, k, h, j, hj => by
    have ih := left_gone ha h0 hs hF d (k + 1) (by omega)
    have hk : k < xs.length := by omega
    have ho := trI_once ha h0 hs
    have hsk : seenB xs (k + 1) k = true := by
      unfold seenB
      rcases Nat.lt_or_ge k (xs.length - 1) with h2 | h2
      · rw [nCnt_low ha (by omega) (by omega), onceB_spec ho k h2]; simp
      · simp; omega
    have hLk : (leB xs F (k + 1)).getD k false = !(goB xs F (k + 1)).getD k false := by rw [(ih k hk).1, hsk]; rfl
    rw [leB_step hk, goB_step hk, seen_more hk]
    unfold gStep lStep
    by_cases hv : nV xs k = 0
    · have hFk := hF k hk hv
      rw [if_neg (by omega), if_neg (fun h => h.1 hv)]
      have : nHit xs k j = 0 := by simp [nHit, hv]
      rw [this]; simpa using ih j hj
    · have hin := inner_spec (allN_spec ha k hk) hv
      have key : ∀ i, i < k → 0 < nHit xs k i → seenB xs (k + 1) i = false := fun i hi hh => by
        have h1 := onceB_spec ho i (by omega)
        have h2 : nCnt xs (k + 1) i = nCnt xs k i + nHit xs k i := rfl
        unfold seenB
        simp; omega
      have hnew : 0 < nHit xs k j ↔ (nLo xs k = j ∨ nHi xs k = j) := by
        unfold nHit; rw [if_neg hv]
        by_cases h3 : nLo xs k = j <;> by_cases h4 : nHi xs k = j <;> simp [h3, h4]
      by_cases hc : (goB xs F (k + 1)).getD k false = true ∨ 0 ≤ F k
      · rw [if_neg (by rw [hLk]; rintro ⟨h1, h2⟩; rcases hc with hc | hc; rw [hc] at h1; cases h1; omega), if_pos ⟨hv, hc⟩]
        rw [getD_set, getD_set]
        simp only [List.length_set, goB_len]
        by_cases hj2 : nLo xs k = j ∨ nHi xs k = j
        · have hsj := key j (by omega) (hnew.2 hj2)
          have h5 := (ih j hj).1
          rw [hsj] at h5
          rw [h5]
          rcases hj2 with rfl | rfl
          · by_cases h6 : nHi xs k = nLo xs k
            · omega
            · simp [h6, hj, decide_eq_true (hnew.2 (.inl rfl))]
          · simp [hj, decide_eq_true (hnew.2 (.inr rfl))]
        · have h6 : ¬ nLo xs k = j := fun h => hj2 (.inl h)
          have h7 : ¬ nHi xs k = j := fun h => hj2 (.inr h)
          have h8 : ¬ 0 < nHit xs k j := fun h => hj2 (hnew.1 h)
          simp only [h6, h7, false_and, if_false, decide_eq_false h8, Bool.or_false]
          exact ih j hj
      · have hG : (goB xs F (k + 1)).getD k false = false := by cases h9 : (goB xs F (k + 1)).getD k false with
          | false => rfl
          | true => exact absurd (.inl h9) hc
        rw [if_pos ⟨by rw [hLk, hG]; rfl, by omega⟩, if_neg (fun h => hc h.2)]
        rw [getD_set, getD_set]
        simp only [List.length_set, leB_len]
        by_cases hj2 : nLo xs k = j ∨ nHi xs k = j
        · have hsj := key j (by omega) (hnew.2 hj2)
          have h5 : (goB xs F (k + 1)).getD j false = false := by
            cases h9 : (goB xs F (k + 1)).getD j false with
            | false => rfl
            | true => rw [(ih j hj).2 h9] at hsj; cases hsj
          rw [h5, decide_eq_true (hnew.2 hj2)]
          rcases hj2 with rfl | rfl
          · by_cases h6 : nHi xs k = nLo xs k
            · omega
            · simp [h6, hj]
          · simp [hj]
        · have h6 : ¬ nLo xs k = j := fun h => hj2 (.inl h)
          have h7 : ¬ nHi xs k = j := fun h => hj2 (.inr h)
          have h8 : ¬ 0 < nHit xs k j := fun h => hj2 (hnew.1 h)
          simp only [h6, h7, false_and, if_false, decide_eq_false h8, Bool.or_false]
          exact ih j hj
theorem left_all (ha : allN vars m xs = true) (h0 : 0 < xs.length) (hs : (trI xs 0).isSome = true) (hF : ∀ i, i < xs.length → nV xs i = 0 → 0 ≤ F i) {j : Nat} (hj : j < xs.length) : (leB xs F 0).getD j false = !(goB xs F 0).getD j false := by
  rw [(left_gone ha h0 hs hF xs.length 0 (by omega) j hj).1]
  have ho := trI_once ha h0 hs
  have : seenB xs 0 j = true := by
    unfold seenB
    rcases Nat.lt_or_ge j (xs.length - 1) with h2 | h2
    · rw [onceB_spec ho j h2]; simp [nCnt]
    · simp; omega
  rw [this]; rfl
end
def prN (xs : List TN) (F : Nat → Int) (b : List Int) (i : Nat) : TN := if 0 ≤ F i then (0, 0, 0, F i) else (nV xs i, gd b (nLo xs i), gd b (nHi xs i), 0)
def prS (xs : List TN) (F : Nat → Int) (G : List Bool) : Nat → List TN × List Int
  | 0 => ([], List.replicate xs.length 0)
  | i + 1 => if G.getD i false = true then prS xs F G i else ((prS xs F G i).1 ++ [prN xs F (prS xs F G i).2 i], (prS xs F G i).2.set i ((prS xs F G i).1.length : Nat))
theorem prS_len (xs : List TN) (F : Nat → Int) (G : List Bool) : ∀ i, (prS xs F G i).1.length ≤ i ∧ (prS xs F G i).2.length = xs.length
  | 0 => by simp [prS]
  | i + 1 => by
    have := prS_len xs F G i
    simp only [prS]
    split
    · exact ⟨by omega, this.2⟩
    · exact ⟨by rw [List.length_append]; simp; omega, by rw [List.length_set]; exact this.2⟩
theorem prS_gone {xs : List TN} {F : Nat → Int} {G : List Bool} {i : Nat} (h : G.getD i false = true) : prS xs F G (i + 1) = prS xs F G i := by simp only [prS]; rw [if_pos h]
theorem prS_left {xs : List TN} {F : Nat → Int} {G : List Bool} {i : Nat} (h : G.getD i false = false) :
    prS xs F G (i + 1) = ((prS xs F G i).1 ++ [prN xs F (prS xs F G i).2 i], (prS xs F G i).2.set i ((prS xs F G i).1.length : Nat)) := by simp only [prS]; rw [if_neg (by rw [h]; simp)]
def prnB (vars : Int) (L : List (List Int)) (xs : List TN) : Bool := treeB vars L xs && decide (badI L xs (pthL xs) < 0)
def prnR (vars : Int) (L : List (List Int)) (xs : List TN) : List TN := if prnB vars L xs then (prS xs (falI L (pthL xs)) (goB xs (falI L (pthL xs)) 0) xs.length).1 else []
theorem leaf_fal {vars : Int} {L : List (List Int)} {xs : List TN} {P : List (List Int)} (ha : allN vars L.length xs = true) (hb : badI L xs P < 0) {i : Nat} (hi : i < xs.length) (hv : nV xs i = 0) : 0 ≤ falI L P i := by
  have hlf := leaf_spec (allN_spec ha i hi) hv
  have hnb : badB L xs P i = false := by
    cases hh : badB L xs P i with
    | false => rfl
    | true =>
      exfalso
      unfold badI fidx at hb
      split at hb
      · omega
      · rename_i hn
        have := List.find?_eq_none.1 hn i (List.mem_range.2 hi)
        exact this hh
  unfold badB at hnb
  rw [decide_eq_true hv, Bool.true_and, decide_eq_false_iff_not] at hnb
  rcases falP_fidx (L := L) (a := gl P i) L.length with ⟨_, h2⟩ | ⟨c, h1, h2, h3, _, _⟩
  · exact absurd (by omega) (h2 (gn xs i).2.2.2.toNat (by omega))
  · have : falI L P i = c := fidx_found h1 (by simpa using h2) (fun j hj => by simpa using h3 j hj)
    omega
end Go.Av
namespace Go.Av
open Go Go.Proofs Go.Sort
set_option maxRecDepth 10000
end Go.Av
namespace Go.Av
open Go Go.Proofs Go.Sort
set_option maxRecDepth 10000
end Go.Av
namespace Go.Av
open Go Go.Proofs Go.Sort
set_option maxRecDepth 10000
theorem mkC_full {k : Int} {cs : List AV} {m : Nat} (h : cs.length = m) : mkC k cs m = icells (mkI k m) := by
 subst h
 simp [mkC, mkI, icells]
end Go.Av
namespace Go.Av
open Go Go.Proofs Go.Sort
set_option maxRecDepth 10000
theorem markTN_c (xs : List TN) (k : Int) (h : -9000000000000000000 ≤ k ∧ k + 4 * xs.length ≤ 9223372036854775807) : ACall Tryz.prog 24 [.rsl (INH, []) 4 0 xs.length none, .int .i64 k] [.osl 4 (tncells xs) xs.length none] (.int .i64 (k + 4 * xs.length)) [.osl 4 (icells (mkI k (xs.length * 4))) xs.length none] := by
 refine ACall.intro Tryz.func24 rfl (N := 41) rfl (by decide) (by simp) ?_
 refine a_seq ?_
 refine a_region ?_
 refine rv (v := .int _ _) (v_assign (.inl rfl) nf) ?_
 refine r_nil ?_
 refine a_seq ?_
 refine a_seq ?_
 refine a_region ?_
 refine rv (v := .int _ _) (v_assign (.inl rfl) nf) ?_
 refine r_nil ?_
 refine a_block ?_
 refine a_loop (X := Nat) (fun i => look [(0, .rsl (INH, []) 4 0 xs.length none), (1, .int .i64 (k + 4 * (i : Nat))), (5, .int .i64 ((i : Nat) : Int)), (INH, .osl 4 (mkC k (tncells xs) (i * 4)) xs.length none)]) (fun i => i ≤ xs.length) (fun i => xs.length - i) 0 (ent_look ⟨Weak.of_eq rfl, Weak.of_eq (int_eq (by omega)), Weak.of_eq rfl, Weak.of_eq (osl_eq (by rw [Nat.zero_mul, mkC_zero])), trivial⟩) (Nat.zero_le _) (fun i hG => ?_)
 refine a_seq ?_
 refine a_seq ?_
 refine a_region ?_
 refine rv (v := .int _ _) (v_move (.inl rfl) nf) ?_
 refine rv (v := .rsl _ _ _ _ _) (v_move (.inl rfl) nf) ?_
 refine rv (v := .int _ _) (v_len_rsl sl42 (.inl rfl)) ?_
 refine rv (v := .bool _) (v_lss (.inl rfl) (.inl rfl)) ?_
 refine r_nil ?_
 refine a_cond rfl (fun ht9 => ?_) (fun ht9 => ?_)
 ·
  skip
  refine a_skip ?_
  refine a_seq ?_
  refine a_block ?_
  refine a_seq ?_
  have hi : i < xs.length := (by simp at ht9; omega)
  have hp0 : i * 4 + 0 + 1 ≤ (mkC k (tncells xs) (i * 4 + 0)).length := (by rw [mkC_length (by rw [tncells_length]; omega), tncells_length]; omega)
  have hs0 : (mkC k (tncells xs) (i * 4 + 0)).set (i * 4 + 0) (.int .i64 (k + 4 * (i : Nat))) = mkC k (tncells xs) (i * 4 + 1) := (by have h9 := mkC_set (k := k) (cs := tncells xs) (m := i * 4 + 0) (by rw [tncells_length]; omega); rw [show k + ((i * 4 + 0 : Nat) : Int) = (k + 4 * (i : Nat)) by omega] at h9; exact h9)
  have hp1 : i * 4 + 1 + 1 ≤ (mkC k (tncells xs) (i * 4 + 1)).length := (by rw [mkC_length (by rw [tncells_length]; omega), tncells_length]; omega)
  have hs1 : (mkC k (tncells xs) (i * 4 + 1)).set (i * 4 + 1) (.int .i64 (k + 4 * (i : Nat) + 1)) = mkC k (tncells xs) (i * 4 + 2) := (by have h9 := mkC_set (k := k) (cs := tncells xs) (m := i * 4 + 1) (by rw [tncells_length]; omega); rw [show k + ((i * 4 + 1 : Nat) : Int) = (k + 4 * (i : Nat) + 1) by omega] at h9; exact h9)
  have hp2 : i * 4 + 2 + 1 ≤ (mkC k (tncells xs) (i * 4 + 2)).length := (by rw [mkC_length (by rw [tncells_length]; omega), tncells_length]; omega)
  have hs2 : (mkC k (tncells xs) (i * 4 + 2)).set (i * 4 + 2) (.int .i64 (k + 4 * (i : Nat) + 1 + 1)) = mkC k (tncells xs) (i * 4 + 3) := (by have h9 := mkC_set (k := k) (cs := tncells xs) (m := i * 4 + 2) (by rw [tncells_length]; omega); rw [show k + ((i * 4 + 2 : Nat) : Int) = (k + 4 * (i : Nat) + 1 + 1) by omega] at h9; exact h9)
  have hp3 : i * 4 + 3 + 1 ≤ (mkC k (tncells xs) (i * 4 + 3)).length := (by rw [mkC_length (by rw [tncells_length]; omega), tncells_length]; omega)
  have hs3 : (mkC k (tncells xs) (i * 4 + 3)).set (i * 4 + 3) (.int .i64 (k + 4 * (i : Nat) + 1 + 1 + 1)) = mkC k (tncells xs) (i * 4 + 4) := (by have h9 := mkC_set (k := k) (cs := tncells xs) (m := i * 4 + 3) (by rw [tncells_length]; omega); rw [show k + ((i * 4 + 3 : Nat) : Int) = (k + 4 * (i : Nat) + 1 + 1 + 1) by omega] at h9; exact h9)
  refine a_region ?_
  refine rv (v := .rsl _ _ _ _ _) (v_move (.inl rfl) nf) ?_
  refine rv (v := .int _ _) (v_move (.inl rfl) nf) ?_
  refine rv (v := .int _ _) (v_move (.inl rfl) nf) ?_
  refine rv (v := .rp _ _) (v_indexAddr_rsl0 es42 (.inl rfl) (.inl rfl) (fun _ => by omega)) ?_
  refine rv (v := .rp _ _) (v_fieldAddr_rp fo62_0 (.inl rfl)) ?_
  refine r_step rfl (o_store (v := .int _ _) (y' := .osl _ _ _ _) rfl rfl ta3 (.inl rfl) (.inl rfl) rfl rfl rfl rfl rfl rfl hp0 (by decide) rfl (congrArg (fun c => AV.osl 4 c xs.length none) hs0)) ?_
  refine r_nil ?_
  refine a_seq ?_
  refine a_region ?_
  refine rv (v := .int _ _) (v_move (.inl rfl) nf) ?_
  refine rv (v := .int _ _) (v_add (.inl rfl) (.inl rfl) (fun _ => by omega)) ?_
  refine rv (v := .int _ _) (v_assign (.inl rfl) nf) ?_
  refine r_nil ?_
  refine a_seq ?_
  refine a_region ?_
  refine rv (v := .rsl _ _ _ _ _) (v_move (.inl rfl) nf) ?_
  refine rv (v := .int _ _) (v_move (.inl rfl) nf) ?_
  refine rv (v := .int _ _) (v_move (.inl rfl) nf) ?_
  refine rv (v := .rp _ _) (v_indexAddr_rsl0 es42 (.inl rfl) (.inl rfl) (fun _ => by omega)) ?_
  refine rv (v := .rp _ _) (v_fieldAddr_rp fo62_1 (.inl rfl)) ?_
  refine r_step rfl (o_store (v := .int _ _) (y' := .osl _ _ _ _) rfl rfl ta3 (.inl rfl) (.inl rfl) rfl rfl rfl rfl rfl rfl hp1 (by decide) rfl (congrArg (fun c => AV.osl 4 c xs.length none) hs1)) ?_
  refine r_nil ?_
  refine a_seq ?_
  refine a_region ?_
  refine rv (v := .int _ _) (v_move (.inl rfl) nf) ?_
  refine rv (v := .int _ _) (v_add (.inl rfl) (.inl rfl) (fun _ => by omega)) ?_
  refine rv (v := .int _ _) (v_assign (.inl rfl) nf) ?_
  refine r_nil ?_
  refine a_seq ?_
  refine a_region ?_
  refine rv (v := .rsl _ _ _ _ _) (v_move (.inl rfl) nf) ?_
  refine rv (v := .int _ _) (v_move (.inl rfl) nf) ?_
  refine rv (v := .int _ _) (v_move (.inl rfl) nf) ?_
  refine rv (v := .rp _ _) (v_indexAddr_rsl0 es42 (.inl rfl) (.inl rfl) (fun _ => by omega)) ?_
  refine rv (v := .rp _ _) (v_fieldAddr_rp fo62_2 (.inl rfl)) ?_
  refine r_step rfl (o_store (v := .int _ _) (y' := .osl _ _ _ _) rfl rfl ta3 (.inl rfl) (.inl rfl) rfl rfl rfl rfl rfl rfl hp2 (by decide) rfl (congrArg (fun c => AV.osl 4 c xs.length none) hs2)) ?_
  refine r_nil ?_
  refine a_seq ?_
  refine a_pre (ent_look (L := [(0, .rsl _ _ _ _ _), (1, .int _ _), (5, .int _ _), (INH, .osl _ _ _ _)]) ⟨Weak.rfl, Weak.rfl, Weak.rfl, Weak.rfl, trivial⟩) ?_
  refine a_region ?_
  refine rv (v := .int _ _) (v_move (.inl rfl) nf) ?_
  refine rv (v := .int _ _) (v_add (.inl rfl) (.inl rfl) (fun _ => by omega)) ?_
  refine rv (v := .int _ _) (v_assign (.inl rfl) nf) ?_
  refine r_nil ?_
  refine a_seq ?_
  refine a_region ?_
  refine rv (v := .rsl _ _ _ _ _) (v_move (.inl rfl) nf) ?_
  refine rv (v := .int _ _) (v_move (.inl rfl) nf) ?_
  refine rv (v := .int _ _) (v_move (.inl rfl) nf) ?_
  refine rv (v := .rp _ _) (v_indexAddr_rsl0 es42 (.inl rfl) (.inl rfl) (fun _ => by omega)) ?_
  refine rv (v := .rp _ _) (v_fieldAddr_rp fo62_3 (.inl rfl)) ?_
  refine r_step rfl (o_store (v := .int _ _) (y' := .osl _ _ _ _) rfl rfl ta3 (.inl rfl) (.inl rfl) rfl rfl rfl rfl rfl rfl hp3 (by decide) rfl (congrArg (fun c => AV.osl 4 c xs.length none) hs3)) ?_
  refine r_nil ?_
  refine a_region ?_
  refine rv (v := .int _ _) (v_move (.inl rfl) nf) ?_
  refine rv (v := .int _ _) (v_add (.inl rfl) (.inl rfl) (fun _ => by omega)) ?_
  refine rv (v := .int _ _) (v_assign (.inl rfl) nf) ?_
  refine r_nil ?_
  refine a_region ?_
  refine rv (v := .int _ _) (v_move (.inl rfl) nf) ?_
  refine rv (v := .int _ _) (v_add (.inl rfl) (.inl rfl) (fun _ => by omega)) ?_
  refine rv (v := .int _ _) (v_assign (.inl rfl) nf) ?_
  refine r_nil ?_
  refine ⟨i + 1, ent_look ⟨Weak.of_eq rfl, Weak.of_eq (int_eq (by omega)), Weak.of_eq (int_eq (by omega)), Weak.of_eq (osl_eq (by rw [show (i + 1) * 4 = i * 4 + 4 by omega])), trivial⟩, by omega, by omega⟩
 ·
  skip
  refine a_exit ?_
  refine a_seq ?_
  refine a_region ?_
  refine rv (v := .int _ _) (v_move (.inl rfl) nf) ?_
  refine rv (v := .int _ _) (v_assign (.inl rfl) nf) ?_
  refine r_nil ?_
  refine a_ret ?_
  refine ret1 Tryz.results24 (by decide) (by decide) (Weak.of_eq (int_eq ?_)) rfl (Leaves.one (Weak.of_eq (osl_eq (by simp at ht9; rw [show i = xs.length by omega, mkC_full (tncells_length xs)]))) rfl)
  simp at ht9; omega
theorem heldTN_c (n : Nat) (k : Int) (h : -9000000000000000000 ≤ k ∧ k + 4 * n ≤ 9223372036854775807) : ACall Tryz.prog 25 [.sl (icells (mkI k (n * 4))) n, .int .i64 k] [] (.int .i64 (k + 4 * n)) [] := by
 refine ACall.intro Tryz.func25 rfl (N := 49) rfl (by decide) (by simp) ?_
 refine a_seq ?_
 refine a_region ?_
 refine rv (v := .int _ _) (v_assign (.inl rfl) nf) ?_
 refine r_nil ?_
 refine a_seq ?_
 refine a_seq ?_
 refine a_region ?_
 refine rv (v := .int _ _) (v_assign (.inl rfl) nf) ?_
 refine r_nil ?_
 refine a_block ?_
 refine a_loop (X := Nat) (fun i => look [(0, .sl (icells (mkI k (n * 4))) n), (1, .int .i64 (k + 4 * (i : Nat))), (5, .int .i64 ((i : Nat) : Int))]) (fun i => i ≤ n) (fun i => n - i) 0 (ent_look ⟨Weak.of_eq rfl, Weak.of_eq (int_eq (by omega)), Weak.of_eq rfl, trivial⟩) (Nat.zero_le _) (fun i hG => ?_)
 refine a_seq ?_
 refine a_seq ?_
 refine a_region ?_
 refine rv (v := .int _ _) (v_move (.inl rfl) nf) ?_
 refine rv (v := .sl _ _) (v_move (.inl rfl) nf) ?_
 refine rv (v := .int _ _) (v_len_sl sl42 (.inl rfl)) ?_
 refine rv (v := .bool _) (v_lss (.inl rfl) (.inl rfl)) ?_
 refine r_nil ?_
 refine a_cond rfl (fun ht9 => ?_) (fun ht9 => ?_)
 ·
  skip
  refine a_skip ?_
  refine a_seq ?_
  refine a_block ?_
  refine a_seq ?_
  refine a_seq ?_
  have hi : i < n := (by simp at ht9; omega)
  have hm0 : (icells (mkI k (n * 4)))[i * 4 + 0]? = some (.int .i64 (k + 4 * (i : Nat))) := (by have h9 := icells_get (gd_get (show i * 4 + 0 < (mkI k (n * 4)).length by rw [mkI_length]; omega)); rw [mkI_get (by omega)] at h9; exact h9.trans (congrArg (fun z => some (AV.int .i64 z)) (by omega)))
  have hm1 : (icells (mkI k (n * 4)))[i * 4 + 1]? = some (.int .i64 (k + 4 * (i : Nat) + 1)) := (by have h9 := icells_get (gd_get (show i * 4 + 1 < (mkI k (n * 4)).length by rw [mkI_length]; omega)); rw [mkI_get (by omega)] at h9; exact h9.trans (congrArg (fun z => some (AV.int .i64 z)) (by omega)))
  have hm2 : (icells (mkI k (n * 4)))[i * 4 + 2]? = some (.int .i64 (k + 4 * (i : Nat) + 1 + 1)) := (by have h9 := icells_get (gd_get (show i * 4 + 2 < (mkI k (n * 4)).length by rw [mkI_length]; omega)); rw [mkI_get (by omega)] at h9; exact h9.trans (congrArg (fun z => some (AV.int .i64 z)) (by omega)))
  have hm3 : (icells (mkI k (n * 4)))[i * 4 + 3]? = some (.int .i64 (k + 4 * (i : Nat) + 1 + 1 + 1)) := (by have h9 := icells_get (gd_get (show i * 4 + 3 < (mkI k (n * 4)).length by rw [mkI_length]; omega)); rw [mkI_get (by omega)] at h9; exact h9.trans (congrArg (fun z => some (AV.int .i64 z)) (by omega)))
  refine a_region ?_
  refine rv (v := .sl _ _) (v_move (.inl rfl) nf) ?_
  refine rv (v := .int _ _) (v_move (.inl rfl) nf) ?_
  refine rv (v := .pp _ _) (v_indexAddr_sl es42 (.inl rfl) (.inl rfl) (fun _ => ⟨by omega, by omega, icells_ne (show i * 4 < (mkI k (n * 4)).length by rw [mkI_length]; omega)⟩)) ?_
  refine rv (v := .pp _ _) (v_fieldAddr_pp fo62_0 (.inl rfl)) ?_
  refine rv (v := .int .i64 (k + 4 * (i : Nat))) (v_load_pp ta3 (.inl rfl) (fun _ => hm0) rfl) ?_
  refine rv (v := .int _ _) (v_move (.inl rfl) nf) ?_
  refine rv (v := .bool _) (v_neq (.inl rfl) (.inl rfl)) ?_
  refine r_nil ?_
  refine a_cond rfl (fun ht18 => ?_) (fun ht18 => ?_)
  ·
   skip
   refine a_seq ?_
   refine a_region ?_
   refine rv (v := .int _ _) (v_assign (.inl rfl) nf) ?_
   refine r_nil ?_
   refine a_ret ?_
   refine ret1 Tryz.results25 (by decide) (by decide) (Weak.of_eq (int_eq ?_)) rfl Leaves.nil
   exfalso; simp at ht18
  ·
   skip
   refine a_skip ?_
   refine a_seq ?_
   refine a_region ?_
   refine rv (v := .int _ _) (v_move (.inl rfl) nf) ?_
   refine rv (v := .int _ _) (v_add (.inl rfl) (.inl rfl) (fun _ => by omega)) ?_
   refine rv (v := .int _ _) (v_assign (.inl rfl) nf) ?_
   refine r_nil ?_
   refine a_seq ?_
   refine a_seq ?_
   refine a_region ?_
   refine rv (v := .sl _ _) (v_move (.inl rfl) nf) ?_
   refine rv (v := .int _ _) (v_move (.inl rfl) nf) ?_
   refine rv (v := .pp _ _) (v_indexAddr_sl es42 (.inl rfl) (.inl rfl) (fun _ => ⟨by omega, by omega, icells_ne (show i * 4 < (mkI k (n * 4)).length by rw [mkI_length]; omega)⟩)) ?_
   refine rv (v := .pp _ _) (v_fieldAddr_pp fo62_1 (.inl rfl)) ?_
   refine rv (v := .int .i64 (k + 4 * (i : Nat) + 1)) (v_load_pp ta3 (.inl rfl) (fun _ => hm1) rfl) ?_
   refine rv (v := .int _ _) (v_move (.inl rfl) nf) ?_
   refine rv (v := .bool _) (v_neq (.inl rfl) (.inl rfl)) ?_
   refine r_nil ?_
   refine a_cond rfl (fun ht27 => ?_) (fun ht27 => ?_)
   ·
    skip
    refine a_seq ?_
    refine a_region ?_
    refine rv (v := .int _ _) (v_assign (.inl rfl) nf) ?_
    refine r_nil ?_
    refine a_ret ?_
    refine ret1 Tryz.results25 (by decide) (by decide) (Weak.of_eq (int_eq ?_)) rfl Leaves.nil
    exfalso; simp at ht27
   ·
    skip
    refine a_skip ?_
    refine a_seq ?_
    refine a_region ?_
    refine rv (v := .int _ _) (v_move (.inl rfl) nf) ?_
    refine rv (v := .int _ _) (v_add (.inl rfl) (.inl rfl) (fun _ => by omega)) ?_
    refine rv (v := .int _ _) (v_assign (.inl rfl) nf) ?_
    refine r_nil ?_
    refine a_seq ?_
    refine a_seq ?_
    refine a_region ?_
    refine rv (v := .sl _ _) (v_move (.inl rfl) nf) ?_
    refine rv (v := .int _ _) (v_move (.inl rfl) nf) ?_
    refine rv (v := .pp _ _) (v_indexAddr_sl es42 (.inl rfl) (.inl rfl) (fun _ => ⟨by omega, by omega, icells_ne (show i * 4 < (mkI k (n * 4)).length by rw [mkI_length]; omega)⟩)) ?_
    refine rv (v := .pp _ _) (v_fieldAddr_pp fo62_2 (.inl rfl)) ?_
    refine rv (v := .int .i64 (k + 4 * (i : Nat) + 1 + 1)) (v_load_pp ta3 (.inl rfl) (fun _ => hm2) rfl) ?_
    refine rv (v := .int _ _) (v_move (.inl rfl) nf) ?_
    refine rv (v := .bool _) (v_neq (.inl rfl) (.inl rfl)) ?_
    refine r_nil ?_
    refine a_cond rfl (fun ht36 => ?_) (fun ht36 => ?_)
    ·
     skip
     refine a_seq ?_
     refine a_pre (ent_look (L := [(0, .sl _ _), (1, .int _ _), (5, .int _ _)]) ⟨Weak.rfl, Weak.rfl, Weak.rfl, trivial⟩) ?_
     refine a_region ?_
     refine rv (v := .int _ _) (v_assign (.inl rfl) nf) ?_
     refine r_nil ?_
     refine a_ret ?_
     refine ret1 Tryz.results25 (by decide) (by decide) (Weak.of_eq (int_eq ?_)) rfl Leaves.nil
     exfalso; simp at ht36
    ·
     skip
     refine a_skip ?_
     refine a_seq ?_
     refine a_pre (ent_look (L := [(0, .sl _ _), (1, .int _ _), (5, .int _ _)]) ⟨Weak.rfl, Weak.rfl, Weak.rfl, trivial⟩) ?_
     refine a_region ?_
     refine rv (v := .int _ _) (v_move (.inl rfl) nf) ?_
     refine rv (v := .int _ _) (v_add (.inl rfl) (.inl rfl) (fun _ => by omega)) ?_
     refine rv (v := .int _ _) (v_assign (.inl rfl) nf) ?_
     refine r_nil ?_
     refine a_seq ?_
     refine a_seq ?_
     refine a_region ?_
     refine rv (v := .sl _ _) (v_move (.inl rfl) nf) ?_
     refine rv (v := .int _ _) (v_move (.inl rfl) nf) ?_
     refine rv (v := .pp _ _) (v_indexAddr_sl es42 (.inl rfl) (.inl rfl) (fun _ => ⟨by omega, by omega, icells_ne (show i * 4 < (mkI k (n * 4)).length by rw [mkI_length]; omega)⟩)) ?_
     refine rv (v := .pp _ _) (v_fieldAddr_pp fo62_3 (.inl rfl)) ?_
     refine rv (v := .int .i64 (k + 4 * (i : Nat) + 1 + 1 + 1)) (v_load_pp ta3 (.inl rfl) (fun _ => hm3) rfl) ?_
     refine rv (v := .int _ _) (v_move (.inl rfl) nf) ?_
     refine rv (v := .bool _) (v_neq (.inl rfl) (.inl rfl)) ?_
     refine r_nil ?_
     refine a_cond rfl (fun ht45 => ?_) (fun ht45 => ?_)
     ·
      skip
      refine a_seq ?_
      refine a_region ?_
      refine rv (v := .int _ _) (v_assign (.inl rfl) nf) ?_
      refine r_nil ?_
      refine a_ret ?_
      refine ret1 Tryz.results25 (by decide) (by decide) (Weak.of_eq (int_eq ?_)) rfl Leaves.nil
      exfalso; simp at ht45
     ·
      skip
      refine a_skip ?_
      refine a_region ?_
      refine rv (v := .int _ _) (v_move (.inl rfl) nf) ?_
      refine rv (v := .int _ _) (v_add (.inl rfl) (.inl rfl) (fun _ => by omega)) ?_
      refine rv (v := .int _ _) (v_assign (.inl rfl) nf) ?_
      refine r_nil ?_
      refine a_region ?_
      refine rv (v := .int _ _) (v_move (.inl rfl) nf) ?_
      refine rv (v := .int _ _) (v_add (.inl rfl) (.inl rfl) (fun _ => by omega)) ?_
      refine rv (v := .int _ _) (v_assign (.inl rfl) nf) ?_
      refine r_nil ?_
      refine ⟨i + 1, ent_look ⟨Weak.of_eq rfl, Weak.of_eq (int_eq (by omega)), Weak.of_eq (int_eq (by omega)), trivial⟩, by omega, by omega⟩
 ·
  skip
  refine a_exit ?_
  refine a_seq ?_
  refine a_region ?_
  refine rv (v := .int _ _) (v_move (.inl rfl) nf) ?_
  refine rv (v := .int _ _) (v_assign (.inl rfl) nf) ?_
  refine r_nil ?_
  refine a_ret ?_
  refine ret1 Tryz.results25 (by decide) (by decide) (Weak.of_eq (int_eq ?_)) rfl Leaves.nil
  simp at ht9; omega
end Go.Av
namespace Go.Av
open Go Go.Sort
def frL (F : Nat → Int) (n k : Nat) : List Int := (List.range n).map fun j => if k ≤ j then F j else 0
theorem frL_len (F : Nat → Int) (n k : Nat) : (frL F n k).length = n := by simp [frL]
theorem frL_top (F : Nat → Int) (n : Nat) : frL F n n = List.replicate n 0 := by
  apply List.ext_getElem
  · simp [frL]
  · intro j h1 h2; simp [frL] at h1 ⊢; omega
theorem frL_set {F : Nat → Int} {n k : Nat} (hk : k < n) : (frL F n (k + 1)).set k (F k) = frL F n k := by
  apply List.ext_getElem
  · simp [frL]
  · intro j h1 h2
    simp only [frL, List.getElem_set, List.getElem_map, List.getElem_range]
    split
    · rename_i h; subst h; simp
    · by_cases h : k ≤ j
      · rw [if_pos (by omega), if_pos h]
      · rw [if_neg (by omega), if_neg h]
theorem frL_set2 {F : Nat → Int} {n k : Nat} {x : Int} (hk : k < n) : ((frL F n (k + 1)).set k x).set k (F k) = frL F n k := by rw [List.set_set, frL_set hk]
theorem frL_gd {F : Nat → Int} {n i : Nat} (h : i < n) : gd (frL F n 0) i = F i := by simp [gd, frL, h]
section
variable {xs : List TN} {F : Nat → Int} {k : Nat}
theorem go_yes (hk : k < xs.length) (hv : nV xs k ≠ 0) (hc : (goB xs F (k + 1)).getD k false = true ∨ 0 ≤ F k) : ((goB xs F (k + 1)).set (nLo xs k) true).set (nHi xs k) true = goB xs F k := by
  rw [goB_step hk, gStep, if_pos ⟨hv, hc⟩]
theorem go_no (hk : k < xs.length) (h : ¬ (nV xs k ≠ 0 ∧ ((goB xs F (k + 1)).getD k false = true ∨ 0 ≤ F k))) : goB xs F (k + 1) = goB xs F k := by
  rw [goB_step hk, gStep, if_neg h]
theorem go_get {i : Nat} (h : i < xs.length) : (goB xs F k)[i]? = some ((goB xs F k).getD i false) := by
  rw [List.getD_eq_getElem?_getD, List.getElem?_eq_getElem (by rw [goB_len]; exact h)]; rfl
theorem le_get {i : Nat} (h : i < xs.length) : (leB xs F k)[i]? = some ((leB xs F k).getD i false) := by
  rw [List.getD_eq_getElem?_getD, List.getElem?_eq_getElem (by rw [leB_len]; exact h)]; rfl
theorem le_yes (hk : k < xs.length) (hc : (leB xs F (k + 1)).getD k false = true ∧ F k < 0) : ((leB xs F (k + 1)).set (nLo xs k) true).set (nHi xs k) true = leB xs F k := by
  rw [leB_step hk, lStep, if_pos hc]
theorem le_no (hk : k < xs.length) (h : ¬ ((leB xs F (k + 1)).getD k false = true ∧ F k < 0)) : leB xs F (k + 1) = leB xs F k := by
  rw [leB_step hk, lStep, if_neg h]
end
theorem nV_pos {vars m : Int} {xs : List TN} (ha : allN vars m xs = true) {i : Nat} (hi : i < xs.length) : 0 ≤ nV xs i ∧ (nV xs i ≠ 0 ↔ 0 < nV xs i) := by
  by_cases h : nV xs i = 0
  · omega
  · have := inner_spec (allN_spec ha i hi) h; omega
theorem nr_ints {L : List Int} {n : Nat} {cap : Option Nat} : noRef (.op [.osl 1 (icells L) n cap]) = true := by simp [noRef, noRefL, ic_noRef]
theorem prnB_spec {vars : Int} {L : List (List Int)} {xs : List TN} (h : prnB vars L xs = true) : treeB vars L xs = true ∧ badI L xs (pthL xs) < 0 := by unfold prnB at h; simpa using h
theorem prnR_yes {vars : Int} {L : List (List Int)} {xs : List TN} (h : prnB vars L xs = true) : prnR vars L xs = (prS xs (falI L (pthL xs)) (goB xs (falI L (pthL xs)) 0) xs.length).1 := by unfold prnR; rw [h]; rfl
theorem prnR_no {vars : Int} {L : List (List Int)} {xs : List TN} (h : prnB vars L xs = false) : prnR vars L xs = [] := by unfold prnR; rw [h]; rfl
theorem prnR_le (vars : Int) (L : List (List Int)) (xs : List TN) : (prnR vars L xs).length ≤ xs.length := by
  unfold prnR; split
  · exact (prS_len xs (falI L (pthL xs)) (goB xs (falI L (pthL xs)) 0) xs.length).1
  · simp
end Go.Av
namespace Go.Av
open Go Go.Proofs Go.Sort
set_option maxRecDepth 10000
theorem hb61 : hasBody Tryz.prog 61 = true := by kernel_rfl
theorem hb62 : hasBody Tryz.prog 62 = true := by kernel_rfl
theorem hb64 : hasBody Tryz.prog 64 = true := by kernel_rfl
theorem searchT_c (vars : Int) (L : List (List Int)) (xs : List TN) (hk : CnfOk vars L) (hl : xs.length ≤ 1048576) : ACall Tryz.prog 39 [.agg [.int .i64 vars, .sl (sls L) L.length], .sl (tncells xs) xs.length] [] (.bool (prnB vars L xs)) [] := by
  refine ACall.intro Tryz.func39 rfl (N := 14) rfl (by decide) (by simp) ?_
  refine a_seq ?_
  refine a_region ?_
  refine rn (v := .op [.int _ _, .sl _ _]) (q_box (.inl rfl) rfl rfl) ?_
  refine rv (v := .bool _) (v_assign (.inl rfl) nf) ?_
  refine r_nil ?_
  refine a_seq ?_
  refine a_region ?_
  refine rv (v := .agg [.int _ _, .sl _ _]) (v_load_rpa1 ta30 (.inl rfl) rfl rfl (fun _ => rfl) rfl) ?_
  refine rv (v := .sl _ _) (v_move (.inl rfl) nf) ?_
  refine rn (v := .tup [.bool _, .bool _]) (q_call (vs := [.agg [.int _ _, .sl _ _], .sl _ _]) (args := [.agg [.int .i64 _, .sl _ _], .sl _ _]) hb64 ⟨.inl rfl, .inl rfl, trivial⟩ rfl (fun hA => iIst_c vars L xs hk hl) rfl rfl) ?_
  refine rv (v := .tup [.bool _, .bool _]) (v_mv rfl) ?_
  refine rv (v := .bool _) (v_extract rfl rfl) ?_
  refine rv (v := .bool _) (v_extract rfl rfl) ?_
  refine rv (v := .bool _) (v_assign (.inl rfl) nf) ?_
  refine rv (v := .bool _) (v_assign (.inl rfl) nf) ?_
  refine r_nil ?_
  refine a_seq ?_
  refine a_region ?_
  refine rv (v := .bool _) (v_move (.inl rfl) nf) ?_
  refine rv (v := .bool _) (v_assign (.inl rfl) nf) ?_
  refine r_nil ?_
  refine a_ret ?_
  refine ret1 Tryz.results39 (by decide) (by decide) (Weak.of_eq (bool_eq ?_)) rfl Leaves.nil
  rfl
theorem false9_c (vars : Int) (L : List (List Int)) (a : List Int) (hcl : ∀ j, j < L.length → clB vars (gl L j) = true) (hL : L.length ≤ 60) (ha : a.length ≤ 12) : ACall Tryz.prog 37 [.agg [.int .i64 vars, .sl (sls L) L.length], .sl (icells a) a.length] [] (.int .i64 (fidx (fun c => decide (cval (gl L c) a < 0)) L.length)) [] := by
  refine ACall.intro Tryz.func37 rfl (N := 22) rfl (by decide) (by simp) ?_
  refine a_seq ?_
  refine a_region ?_
  refine rn (v := .op [.int _ _, .sl _ _]) (q_box (.inl rfl) rfl rfl) ?_
  refine rv (v := .int _ _) (v_assign (.inl rfl) nf) ?_
  refine r_nil ?_
  refine a_seq ?_
  refine a_seq ?_
  refine a_region ?_
  refine rv (v := .int _ _) (v_assign (.inl rfl) nf) ?_
  refine r_nil ?_
  refine a_block ?_
  refine a_loop (X := Nat) (fun i => look [(1, .sl (icells a) a.length), (2, .op [.int .i64 vars, .sl (sls L) L.length]), (5, .int .i64 ((i : Nat) : Int))]) (fun i => i ≤ L.length ∧ ∀ j, j < i → decide (cval (gl L j) a < 0) = false) (fun i => L.length - i) 0 (ent_look ⟨Weak.of_eq rfl, Weak.of_eq rfl, Weak.of_eq rfl, trivial⟩) ⟨Nat.zero_le _, fun j h => by omega⟩ (fun i hG => ?_)
  obtain ⟨g1, g2⟩ := hG
  refine a_seq ?_
  refine a_seq ?_
  refine a_region ?_
  refine rv (v := .int _ _) (v_move (.inl rfl) nf) ?_
  refine rv (v := .rp _ _) (v_fieldAddr_rp fo30_1 (.inl rfl)) ?_
  refine rv (v := .sl _ _) (v_load_rp1 ta22 (.inl rfl) rfl (fun _ => rfl) rfl) ?_
  refine rv (v := .int _ _) (v_len_sl sl22 (.inl rfl)) ?_
  refine rv (v := .bool _) (v_lss (.inl rfl) (.inl rfl)) ?_
  refine r_nil ?_
  refine a_cond rfl (fun ht10 => ?_) (fun ht10 => ?_)
  ·
    skip
    refine a_skip ?_
    refine a_seq ?_
    refine a_block ?_
    refine a_seq ?_
    have hi : i < L.length := (by simp at ht10; omega)
    have hcl9 := clB_len (hcl i hi)
    refine a_region ?_
    refine rv (v := .rp _ _) (v_fieldAddr_rp fo30_1 (.inl rfl)) ?_
    refine rv (v := .sl _ _) (v_load_rp1 ta22 (.inl rfl) rfl (fun _ => rfl) rfl) ?_
    refine rv (v := .int _ _) (v_move (.inl rfl) nf) ?_
    refine rv (v := .pp _ _) (v_indexAddr_sl es22 (.inl rfl) (.inl rfl) (fun _ => ⟨by omega, by omega, sls_ne hi⟩)) ?_
    refine rv (v := .sl (icells (gl L i)) (gl L i).length) (v_load_pp ta25 (.inl rfl) (fun _ => by rw [Nat.mul_one]; exact sls_get hi) rfl) ?_
    refine rv (v := .sl _ _) (v_move (.inl rfl) nf) ?_
    refine rn (v := .int _ _) (q_call (vs := [.sl _ _, .sl _ _]) (args := [.sl _ _, .sl _ _]) hb63 ⟨.inl rfl, .inl rfl, trivial⟩ rfl (fun hA => sClv_c (gl L i) a (clB_sm (hcl i hi)) (by omega) (by omega)) rfl rfl) ?_
    refine rv (v := .bool _) (v_lss (.inl rfl) (.inl rfl)) ?_
    refine r_nil ?_
    refine a_cond rfl (fun ht20 => ?_) (fun ht20 => ?_)
    ·
      skip
      refine a_seq ?_
      refine a_region ?_
      refine rv (v := .int _ _) (v_move (.inl rfl) nf) ?_
      refine rv (v := .int _ _) (v_assign (.inl rfl) nf) ?_
      refine r_nil ?_
      refine a_ret ?_
      refine ret1 Tryz.results37 (by decide) (by decide) (Weak.of_eq (int_eq ?_)) rfl Leaves.nil
      exact (fidx_found (p := fun c => decide (cval (gl L c) a < 0)) hi ht20 g2).symm
    ·
      skip
      refine a_skip ?_
      refine a_region ?_
      refine rv (v := .int _ _) (v_move (.inl rfl) nf) ?_
      refine rv (v := .int _ _) (v_add (.inl rfl) (.inl rfl) (fun _ => by omega)) ?_
      refine rv (v := .int _ _) (v_assign (.inl rfl) nf) ?_
      refine r_nil ?_
      refine ⟨i + 1, ent_look ⟨Weak.of_eq rfl, Weak.of_eq rfl, Weak.of_eq (int_eq (by omega)), trivial⟩, ⟨by omega, ok_stepF (p := fun c => decide (cval (gl L c) a < 0)) g2 ht20⟩, by omega⟩
  ·
    skip
    refine a_exit ?_
    refine a_seq ?_
    refine a_region ?_
    refine rv (v := .int _ _) (v_assign (.inl rfl) nf) ?_
    refine r_nil ?_
    refine a_ret ?_
    refine ret1 Tryz.results37 (by decide) (by decide) (Weak.of_eq (int_eq ?_)) rfl Leaves.nil
    simp at ht10; exact (fidx_none (p := fun c => decide (cval (gl L c) a < 0)) (fun j hj => g2 j (by omega))).symm
theorem search9_c (vars : Int) (L : List (List Int)) (xs : List TN) (hk : CnfOk vars L) (hl : xs.length ≤ 1048576) : ACall Tryz.prog 36 [.agg [.int .i64 vars, .sl (sls L) L.length], .sl (tncells xs) xs.length] [] (.tup [.osl 1 (sls (pthT vars L xs)) (pthT vars L xs).length none, .bool (prnB vars L xs)]) [] := by
  refine ACall.intro Tryz.func36 rfl (N := 23) rfl (by decide) (by simp) ?_
  refine a_seq ?_
  refine a_region ?_
  refine rn (v := .op [.int _ _, .sl _ _]) (q_box (.inl rfl) rfl rfl) ?_
  refine rv (v := .nils) (v_assign (.inl rfl) nf) ?_
  refine rv (v := .bool _) (v_assign (.inl rfl) nf) ?_
  refine r_nil ?_
  refine a_seq ?_
  refine a_region ?_
  refine rv (v := .agg [.int _ _, .sl _ _]) (v_load_rpa1 ta30 (.inl rfl) rfl rfl (fun _ => rfl) rfl) ?_
  refine rv (v := .sl _ _) (v_move (.inl rfl) nf) ?_
  refine rn (v := .tup [.osl _ _ _ _, .bool _]) (q_callF (vs := [.agg [.int _ _, .sl _ _], .sl _ _]) (args := [.agg [.int .i64 _, .sl _ _], .sl _ _]) hb61 ⟨.inl rfl, .inl rfl, trivial⟩ rfl (fun hA => paths9_c vars L xs hk hl) rfl (by simp [noRef, noRefL, sls_noRef])) ?_
  refine rv (v := .tup [.rsl _ _ _ _ _, .bool _]) (v_mv rfl) ?_
  refine rv (v := .rsl _ _ _ _ _) (v_extract rfl rfl) ?_
  refine rv (v := .bool _) (v_extract rfl rfl) ?_
  refine rv (v := .rsl _ _ _ _ _) (v_assign (.inl rfl) nf) ?_
  refine r_pre (ent_reloc_sl (t := 6) rfl rfl) ?_
  refine rv (v := .bool _) (v_assign (.inl rfl) nf) ?_
  refine r_nil ?_
  refine a_seq ?_
  refine a_region ?_
  refine rv (v := .rsl _ _ _ _ _) (v_move (.inl rfl) nf) ?_
  refine rv (v := .bool _) (v_move (.inl rfl) nf) ?_
  refine rv (v := .bool _) (v_move (.inl rfl) nf) ?_
  refine r_gval (v := .agg [.int _ _, .sl _ _]) (v_load_rpa1 ta30 (.inl rfl) rfl rfl (fun _ => rfl) rfl) rfl rfl rfl (by decide) (.inl ⟨_, rfl, rfl⟩) rfl (by decide) ?_
  refine r_gval (v := .sl _ _) (v_move (.inl rfl) nf) rfl rfl rfl (by decide) (.inl ⟨_, rfl, rfl⟩) rfl (by decide) ?_
  refine r_gval (v := .rsl _ _ _ _ _) (v_move (.inl rfl) nf) rfl rfl rfl (by decide) (.inl ⟨_, rfl, rfl⟩) rfl (by decide) ?_
  refine r_guard (v := .int _ _) (q_call (vs := [.agg [.int _ _, .sl _ _], .sl _ _, .rsl _ _ _ _ _]) (args := [.agg [.int .i64 _, .sl _ _], .sl _ _, .sl _ _]) hb62 ⟨.inr ⟨_, rfl, fun h => h⟩, .inr ⟨_, rfl, fun h => h⟩, .inr ⟨_, rfl, fun h => h⟩, trivial⟩ (l3_eq rfl rfl (sl_sh (sls_pure _))) (fun hA => bad9_c vars L xs (pthT vars L xs) (treeB_spec (by simpa using hA)).1 (treeB_spec (by simpa using hA)).2.1 (treeB_spec (by simpa using hA)).2.2.1 (by rw [pthT_yes (by simpa using hA)]; exact pth_ok (by simpa using hA))) rfl rfl) rfl rfl rfl (by decide) (.inl ⟨_, rfl, rfl⟩) rfl (by decide) ?_
  refine r_gval (v := .bool _) (v_lss (.inr ⟨_, rfl, fun h => h⟩) (.inl rfl)) rfl rfl rfl (by decide) (.inl ⟨_, rfl, rfl⟩) rfl (by decide) ?_
  refine rv (v := .bool _) (v_pick (.inl rfl) (.inr ⟨_, rfl, fun h h2 => by simp_all⟩) (.inl rfl)) ?_
  refine rv (v := .rsl _ _ _ _ _) (v_assign (.inl rfl) nf) ?_
  refine r_pre (ent_reloc_sl (t := 4) rfl rfl) ?_
  refine rv (v := .bool _) (v_assign (.inl rfl) nf) ?_
  refine r_nil ?_
  refine a_ret ?_
  refine retL (rs := [.tmp 4, .tmp 5]) [(4, .osl _ _ _ none), (5, _)] ⟨Weak.osl rfl rfl, Weak.rfl, trivial⟩ rfl Tryz.results36 (by decide) ⟨by decide, by decide, rfl⟩ (by decide) (by decide) (l2_eq (osl_eq2 ?_ ?_) (bool_eq ?_)) rfl
  · rfl
  · rfl
  · unfold prnB; cases h9 : treeB vars L xs with
    | false => rfl
    | true => rw [pthT_yes h9]; rfl
end Go.Av
