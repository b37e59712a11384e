/- Lemmas, part 7. -/
import Derived.Test.YtflabfgegbccjaaGreatB6
import Derived.Ground.SlsfProg
import Derived.Shelf.SlSortCmp.NoneTotal
import Derived.Test.YtflabfgegbccjaaGreatProg
import Derived.Shelf.SlSortCmp.Kit1
import Derived.Test.YtflabfgegbccjaaGreatRows
set_option linter.unusedVariables false
set_option linter.unusedSimpArgs false
set_option maxRecDepth 10000
namespace Go.Proofs
open Go.Shelf
def Tryz.laysSlF6_f123_ren : Go.Shelf.Ren := ⟨fun | 6 => 123 | 15 => 142 | 14 => 141 | 28 => 161 | 29 => 162 | 20 => 153 | 21 => 154 | 22 => 155 | 23 => 156 | 24 => 157 | 25 => 158 | 26 => 159 | 27 => 160 | 46 => 175 | 47 => 176 | 48 => 177 | 49 => 178 | 50 => 179 | 57 => 184 | n => n, fun | 22 => 22 | 24 => 25 | 25 => 102 | 3 => 3 | 39 => 146 | 0 => 0 | 53 => 164 | 55 => 166 | 4 => 4 | 46 => 157 | 45 => 156 | 50 => 161 | 5 => 5 | 9 => 9 | 66 => 173 | 70 => 177 | 76 => 182 | 77 => 183 | n => n, fun | n => n⟩
theorem Tryz.laysSlF6_f123 : Go.Proofs.SlLaysF.n6 Tryz.prog Tryz.laysSlF6_f123_ren := {
 mixed := by kernel_rfl
 f6 := ⟨Tryz.f123.name, by decide, Tryz.func123.trans (congrArg some (by kernel_rfl))⟩
 f14 := ⟨Tryz.f141.name, by decide, Tryz.func141.trans (congrArg some (by kernel_rfl))⟩
 f15 := Tryz.func142.trans (congrArg some (by kernel_rfl))
 f20 := ⟨Tryz.f153.name, by decide, Tryz.func153.trans (congrArg some (by kernel_rfl))⟩
 f21 := ⟨Tryz.f154.name, by decide, Tryz.func154.trans (congrArg some (by kernel_rfl))⟩
 f22 := ⟨Tryz.f155.name, by decide, Tryz.func155.trans (congrArg some (by kernel_rfl))⟩
 f23 := ⟨Tryz.f156.name, by decide, Tryz.func156.trans (congrArg some (by kernel_rfl))⟩
 f24 := ⟨Tryz.f157.name, by decide, Tryz.func157.trans (congrArg some (by kernel_rfl))⟩
 f25 := ⟨Tryz.f158.name, by decide, Tryz.func158.trans (congrArg some (by kernel_rfl))⟩
 f26 := ⟨Tryz.f159.name, by decide, Tryz.func159.trans (congrArg some (by kernel_rfl))⟩
 f27 := ⟨Tryz.f160.name, by decide, Tryz.func160.trans (congrArg some (by kernel_rfl))⟩
 f28 := Tryz.func161.trans (congrArg some (by kernel_rfl))
 f29 := Tryz.func162.trans (congrArg some (by kernel_rfl))
 f46 := ⟨Tryz.f175.name, by decide, Tryz.func175.trans (congrArg some (by kernel_rfl))⟩
 f47 := Tryz.func176.trans (congrArg some (by kernel_rfl))
 f48 := Tryz.func177.trans (congrArg some (by kernel_rfl))
 f49 := ⟨Tryz.f178.name, by decide, Tryz.func178.trans (congrArg some (by kernel_rfl))⟩
 f50 := ⟨Tryz.f179.name, by decide, Tryz.func179.trans (congrArg some (by kernel_rfl))⟩
 f57 := ⟨Tryz.f184.name, by decide, Tryz.func184.trans (congrArg some (by kernel_rfl))⟩
 t0 := Tryz.underlying0
 a0 := Tryz.isAgg0
 z0 := Tryz.sizeOf0
 v0 := Tryz.zeroValue0
 t3 := Tryz.underlying3
 a3 := Tryz.isAgg3
 z3 := Tryz.sizeOf3
 v3 := Tryz.zeroValue3
 t4 := Tryz.underlying4
 a4 := Tryz.isAgg4
 z4 := Tryz.sizeOf4
 v4 := Tryz.zeroValue4
 t5 := Tryz.underlying5
 a5 := Tryz.isAgg5
 z5 := Tryz.sizeOf5
 v5 := Tryz.zeroValue5
 t9 := Tryz.underlying9
 a9 := Tryz.isAgg9
 z9 := Tryz.sizeOf9
 v9 := Tryz.zeroValue9
 t22 := Tryz.underlying22
 a22 := Tryz.isAgg22
 z22 := Tryz.sizeOf22
 v22 := Tryz.zeroValue22
 a24 := Tryz.isAgg25
 z24 := Tryz.sizeOf25
 t25 := Tryz.underlying102
 a25 := Tryz.isAgg102
 z25 := Tryz.sizeOf102
 v25 := Tryz.zeroValue102
 t39 := Tryz.underlying146
 a39 := Tryz.isAgg146
 z39 := Tryz.sizeOf146
 v39 := Tryz.zeroValue146
 t45 := Tryz.underlying156
 a45 := Tryz.isAgg156
 z45 := Tryz.sizeOf156
 v45 := Tryz.zeroValue156
 t46 := Tryz.underlying157
 a46 := Tryz.isAgg157
 z46 := Tryz.sizeOf157
 v46 := Tryz.zeroValue157
 t50 := Tryz.underlying161
 a50 := Tryz.isAgg161
 z50 := Tryz.sizeOf161
 v50 := Tryz.zeroValue161
 t53 := Tryz.underlying164
 a53 := Tryz.isAgg164
 z53 := Tryz.sizeOf164
 v53 := Tryz.zeroValue164
 t55 := Tryz.underlying166
 a55 := Tryz.isAgg166
 z55 := Tryz.sizeOf166
 v55 := Tryz.zeroValue166
 t66 := Tryz.underlying173
 a66 := Tryz.isAgg173
 z66 := Tryz.sizeOf173
 v66 := Tryz.zeroValue173
 t70 := Tryz.underlying177
 a70 := Tryz.isAgg177
 z70 := Tryz.sizeOf177
 v70 := Tryz.zeroValue177
 t76 := Tryz.underlying182
 a76 := Tryz.isAgg182
 z76 := Tryz.sizeOf182
 v76 := Tryz.zeroValue182
 t77 := Tryz.underlying183
 a77 := Tryz.isAgg183
 z77 := Tryz.sizeOf183
 v77 := Tryz.zeroValue183 }
def Tryz.laysSlF06_f123_ren : Go.Shelf.Ren := ⟨fun | 6 => 123 | 15 => 142 | 14 => 141 | 28 => 161 | 29 => 162 | 20 => 153 | 21 => 154 | 22 => 155 | 23 => 156 | 24 => 157 | 25 => 158 | 26 => 159 | 27 => 160 | 46 => 175 | 47 => 176 | 48 => 177 | 49 => 178 | 50 => 179 | 57 => 184 | n => n, fun | 22 => 22 | 24 => 25 | 25 => 102 | 3 => 3 | 39 => 146 | 0 => 0 | 53 => 164 | 55 => 166 | 4 => 4 | 46 => 157 | 45 => 156 | 50 => 161 | 5 => 5 | 9 => 9 | 66 => 173 | 70 => 177 | 76 => 182 | 77 => 183 | n => n, fun | n => n⟩
theorem Tryz.laysSlF06_f123 : Go.Proofs.SlLaysF0.n6 Tryz.prog Tryz.laysSlF06_f123_ren := {
 mixed := by kernel_rfl
 f6 := ⟨Tryz.f123.name, by decide, Tryz.func123.trans (congrArg some (by kernel_rfl))⟩
 f14 := ⟨Tryz.f141.name, by decide, Tryz.func141.trans (congrArg some (by kernel_rfl))⟩
 f15 := Tryz.func142.trans (congrArg some (by kernel_rfl))
 f20 := ⟨Tryz.f153.name, by decide, Tryz.func153.trans (congrArg some (by kernel_rfl))⟩
 f21 := ⟨Tryz.f154.name, by decide, Tryz.func154.trans (congrArg some (by kernel_rfl))⟩
 f22 := ⟨Tryz.f155.name, by decide, Tryz.func155.trans (congrArg some (by kernel_rfl))⟩
 f23 := ⟨Tryz.f156.name, by decide, Tryz.func156.trans (congrArg some (by kernel_rfl))⟩
 f24 := ⟨Tryz.f157.name, by decide, Tryz.func157.trans (congrArg some (by kernel_rfl))⟩
 f25 := ⟨Tryz.f158.name, by decide, Tryz.func158.trans (congrArg some (by kernel_rfl))⟩
 f26 := ⟨Tryz.f159.name, by decide, Tryz.func159.trans (congrArg some (by kernel_rfl))⟩
 f27 := ⟨Tryz.f160.name, by decide, Tryz.func160.trans (congrArg some (by kernel_rfl))⟩
 f28 := Tryz.func161.trans (congrArg some (by kernel_rfl))
 f29 := Tryz.func162.trans (congrArg some (by kernel_rfl))
 f46 := ⟨Tryz.f175.name, by decide, Tryz.func175.trans (congrArg some (by kernel_rfl))⟩
 f47 := Tryz.func176.trans (congrArg some (by kernel_rfl))
 f48 := Tryz.func177.trans (congrArg some (by kernel_rfl))
 f49 := ⟨Tryz.f178.name, by decide, Tryz.func178.trans (congrArg some (by kernel_rfl))⟩
 f50 := ⟨Tryz.f179.name, by decide, Tryz.func179.trans (congrArg some (by kernel_rfl))⟩
 f57 := ⟨Tryz.f184.name, by decide, Tryz.func184.trans (congrArg some (by kernel_rfl))⟩
 t0 := Tryz.underlying0
 a0 := Tryz.isAgg0
 z0 := Tryz.sizeOf0
 v0 := Tryz.zeroValue0
 t3 := Tryz.underlying3
 a3 := Tryz.isAgg3
 z3 := Tryz.sizeOf3
 v3 := Tryz.zeroValue3
 t4 := Tryz.underlying4
 a4 := Tryz.isAgg4
 z4 := Tryz.sizeOf4
 v4 := Tryz.zeroValue4
 t5 := Tryz.underlying5
 a5 := Tryz.isAgg5
 z5 := Tryz.sizeOf5
 v5 := Tryz.zeroValue5
 t9 := Tryz.underlying9
 a9 := Tryz.isAgg9
 z9 := Tryz.sizeOf9
 v9 := Tryz.zeroValue9
 t22 := Tryz.underlying22
 a22 := Tryz.isAgg22
 z22 := Tryz.sizeOf22
 v22 := Tryz.zeroValue22
 t25 := Tryz.underlying102
 a25 := Tryz.isAgg102
 z25 := Tryz.sizeOf102
 v25 := Tryz.zeroValue102
 t39 := Tryz.underlying146
 a39 := Tryz.isAgg146
 z39 := Tryz.sizeOf146
 v39 := Tryz.zeroValue146
 t45 := Tryz.underlying156
 a45 := Tryz.isAgg156
 z45 := Tryz.sizeOf156
 v45 := Tryz.zeroValue156
 t46 := Tryz.underlying157
 a46 := Tryz.isAgg157
 z46 := Tryz.sizeOf157
 v46 := Tryz.zeroValue157
 t50 := Tryz.underlying161
 a50 := Tryz.isAgg161
 z50 := Tryz.sizeOf161
 v50 := Tryz.zeroValue161
 t53 := Tryz.underlying164
 a53 := Tryz.isAgg164
 z53 := Tryz.sizeOf164
 v53 := Tryz.zeroValue164
 t55 := Tryz.underlying166
 a55 := Tryz.isAgg166
 z55 := Tryz.sizeOf166
 v55 := Tryz.zeroValue166
 t66 := Tryz.underlying173
 a66 := Tryz.isAgg173
 z66 := Tryz.sizeOf173
 v66 := Tryz.zeroValue173
 t70 := Tryz.underlying177
 a70 := Tryz.isAgg177
 z70 := Tryz.sizeOf177
 v70 := Tryz.zeroValue177
 t76 := Tryz.underlying182
 a76 := Tryz.isAgg182
 z76 := Tryz.sizeOf182
 v76 := Tryz.zeroValue182
 t77 := Tryz.underlying183
 a77 := Tryz.isAgg183
 z77 := Tryz.sizeOf183
 v77 := Tryz.zeroValue183 }
open Go.RowKit Go.Lib Go.Sort in
theorem Tryz.slices_SortFunc_none_f123 {α : Type} [Inhabited α] (p : Option Addr) (cap : Nat) (fv : Value) (w : World) :
  Calls Tryz.prog 123 #[.slice p 0 cap, fv] w fun e w' => e = .returned (.tuple #[]) ∧ w' = w := AnyF.slices_SortFunc_none Tryz.laysSlF06_f123 p cap fv w
open Go.RowKit Go.Lib Go.Sort in
theorem Tryz.slices_SortFunc_total_f123 {α : Type} [Inhabited α] (enc : α → Value) (h1 : OneCell enc) (cf : α → α → Int) (hO : SWO (ltOf cf)) (g : Nat) (cb : Array Value) (blk off cap : Nat) (d : Array α) (w : World) (eg : ∀ args w, (callFunc g args).run Tryz.prog w = .ok (.enter g args) w) (hcmp : CmpLays1 Tryz.prog g cb enc cf blk off d.size w) (hH : Holds enc w blk off d) (hblk : blk < w.heap.size) (hsz : d.size < 4611686018427387904) (hT : ∀ x y, (ltOf cf) x y = false → (ltOf cf) y x = false → x = y) :
  Calls Tryz.prog 123 #[.slice (some ⟨blk, off, none⟩) d.size cap, .func (.func g) #[] cb] w fun e w' =>
   e = .returned (.tuple #[]) ∧ ∃ n os, w' = sortWorld enc w blk off n (d.toList.mergeSort fun x y => !(ltOf cf) y x).toArray os := Any.slices_SortFunc_total Tryz.laysSlF6_f123 enc h1 cf hO g cb blk off cap d w eg hcmp hH hblk hsz hT
end Go.Proofs
namespace Go.Av
open Go Go.Proofs Go.Sort
theorem world_grow {W W' : World} (hos : W'.os = W.os) (hout : W'.output = W.output) (ht : W'.tape = W.tape) (hd : W.drawn ≤ W'.drawn) (hs : W.heap.size ≤ W'.heap.size) (hk : ∀ b, b < W.heap.size → W'.heap[b]? = W.heap[b]?) :
    ∃ q os', W' = grow (W.drewN q) os' := by
  refine ⟨W'.drawn - W.drawn, W'.heap.extract W.heap.size W'.heap.size, ?_⟩
  cases W'; cases W
  simp only [grow, World.drewN] at *
  subst hos hout ht
  simp only [World.mk.injEq, true_and, and_true]
  refine ⟨Array.ext_getElem? fun i => ?_, by omega⟩
  rw [Array.getElem?_append]
  split
  · exact hk i (by assumption)
  · rename_i h1
    rw [Array.getElem?_extract]
    split
    · congr 1; omega
    · rw [Array.getElem?_eq_none (by omega)]
theorem acall_grows {P : Program} {f : FuncId} {args : List AV} {res : AV} {vs : List Value} {W : World} {F : Nat → Prop} (hc : ACall P f args [] res []) (hp : pureL args = true) (hl : vs.length = args.length) (hF : ∀ b, F b → b < W.heap.size)
    (ha : RepL (fun _ => none) F W args (0, []) 0 vs) :
    Calls P f vs.toArray W fun e W' => ∃ v, e = .returned v ∧ (∃ β F, Rep β F W' res (0, []) v) ∧ ∃ q os', W' = grow (W.drewN q) os' := by
  have hinv : Inv ⟨W, fun _ => False, F, []⟩ (argSig args []) (fun i => vs.getD i undef) W (fun _ => none) F := by
    refine ⟨fun i => ?_, fun q q' b s s' hq => (noOwn_argSig hp q hq).elim, fun q b s hq => (noOwn_argSig hp q hq).elim, fun b hb => ⟨hF b hb, fun _ => hb⟩, fun _ _ _ => rfl, Nat.le_refl _, Tame.refl _⟩
    unfold argSig
    split
    · cases hx : args[i]? with
      | none => simp [Rep]
      | some c =>
        obtain ⟨u, hu, hru⟩ := RepL_iff.1 ha i c hx
        rw [List.getD_eq_getElem?_getD, hu]
        exact hru.pure_any (pureL_mem hp (List.mem_of_getElem? hx))
    · simp [Rep]
  refine (hc _ vs _ W _ _ hl (fun _ _ => rfl) hinv).mono fun en w' ⟨v, β', F', he, hi⟩ => ⟨v, he, ?_, world_grow hi.tame.1 hi.tame.2.1 hi.tame.2.2.1 hi.tame.2.2.2 hi.grow fun b hb => hi.kept b hb (fun h => h)⟩
  have := hi.rep 0
  rw [argSig_zero, upd_same] at this
  exact ⟨β', F', this⟩
section
variable {α : Type} [Inhabited α] {enc : α → Value} {w : World} {b m : Nat} {d : Array α} {os : Array Obj} {arr : Array Value} {t : TypeId} {fz : Nat × Nat}
theorem sortWorld_size : w.heap.size ≤ (sortWorld enc w b 0 m d os).heap.size := by
  simp [sortWorld, grow, putRow, mapBlock, Sort.ahead]
theorem sortWorld_same (hb : w.heap[b]? = some (.cells arr t fz)) : (sortWorld enc w b 0 m d os).heap[b]? = some (.cells (putCells enc 0 d arr) t fz) := by
  have hlt : b < w.heap.size := (Array.getElem?_eq_some_iff.1 hb).1
  show ((w.heap.modify b (onCells (putCells enc 0 d))) ++ os)[b]? = _
  rw [Array.getElem?_append_left (by simpa using hlt), Array.getElem?_modify, if_pos rfl, hb]
  rfl
theorem sortWorld_other {c : Nat} (hc : c < w.heap.size) (hn : c ≠ b) : (sortWorld enc w b 0 m d os).heap[c]? = w.heap[c]? := by
  show ((w.heap.modify b (onCells (putCells enc 0 d))) ++ os)[c]? = _
  rw [Array.getElem?_append_left (by simpa using hc), Array.getElem?_modify, if_neg (Ne.symm hn)]
theorem putCells_size : (putCells enc 0 d arr).size = arr.size := by simp [putCells]
theorem putCells_get {i : Nat} (h : i < arr.size) (hd : i < d.size) : (putCells enc 0 d arr)[i]? = some (enc d[i]!) := by
  simp [putCells, Array.getElem?_mapIdx, h, hd]
end
end Go.Av
namespace Go.Av
open Go Go.Proofs Go.Sort
theorem own_inh2 {cs : List AV} {n : Nat} {q : Place} (hp : pureL cs = true) (h : OwnAt (argSig [.tup []] [.op [.osl 1 cs n none]]) q) : q = (INH, []) ∨ q = (INH, [0]) := by
  obtain ⟨i, r⟩ := q
  obtain ⟨y, hy, ho⟩ := h
  simp only at hy
  unfold argSig at hy
  split at hy
  · match i, r with
    | 0, [] => simp [node] at hy; subst hy; simp [AV.isOwn] at ho
    | 0, j :: r => simp [node, kids] at hy
    | i + 1, [] => simp [node] at hy; subst hy; simp [AV.isOwn] at ho
    | i + 1, j :: r => simp [node, kids] at hy
  · rcases Nat.lt_or_ge (i - INH) 1 with h1 | h1
    · have hi : i = INH := by omega
      subst hi
      match r with
      | [] => exact .inl rfl
      | [0] => exact .inr rfl
      | (j + 1) :: r => simp [node, kids] at hy
      | 0 :: j :: r =>
        simp [node, kids] at hy
        cases hc : cs[j]? with
        | none => rw [hc] at hy; simp at hy
        | some c =>
          rw [hc] at hy
          simp at hy
          rw [noOwn_pure (pureL_mem hp (List.mem_of_getElem? hc)) hy] at ho; cases ho
    · rw [List.getElem?_eq_none (by simpa using h1)] at hy
      match r with
      | [] => simp [node] at hy; subst hy; simp [AV.isOwn] at ho
      | j :: r => simp [node, kids] at hy
theorem inv_row2 {e : Ctx} {A0 A1 : AV} {cs cs' : List AV} {n : Nat} {val : Nat → Value} {w w' : World} {β : Place → Option (Nat × Nat)} {F : Nat → Prop} (hi : Inv e (argSig [A0, A1] [.op [.osl 1 cs n none]]) val w β F) (hp : pureL cs' = true)
    (hr : Rep β F w' (.op [.osl 1 cs' n none]) (INH, []) (val INH)) (hs : w.heap.size ≤ w'.heap.size) (hk : ∀ b, b < e.w0.heap.size → ¬ e.inh b → w'.heap[b]? = w.heap[b]?) (ht : Tame w (fun _ => False) w') :
    Inv e (argSig [.tup []] [.op [.osl 1 cs' n none]]) (upd val 0 (.tuple #[])) w' β F := by
  have old : ∀ q, OwnAt (argSig [.tup []] [.op [.osl 1 cs' n none]]) q → OwnAt (argSig [A0, A1] [.op [.osl 1 cs n none]]) q := fun q h => by
    rcases own_inh2 hp h with rfl | rfl
    · exact ⟨.op [.osl 1 cs n none], by simp [argSig, node], rfl⟩
    · exact ⟨.osl 1 cs n none, by simp [argSig, node, kids], rfl⟩
  refine ⟨fun i => ?_, fun q q' b s s' h h' hb hb' => hi.disj q q' b s s' (old q h) (old q' h') hb hb', fun q b s h hb => hi.sep q b s (old q h) hb, fun b hb => ⟨Nat.lt_of_lt_of_le (hi.fr b hb).1 hs, (hi.fr b hb).2⟩, fun b hb hn => (hk b hb hn).trans (hi.kept b hb hn), Nat.le_trans hi.grow hs,
    ⟨ht.1.trans hi.tame.1, ht.2.1.trans hi.tame.2.1, ht.2.2.1.trans hi.tame.2.2.1, Nat.le_trans hi.tame.2.2.2 ht.2.2.2⟩⟩
  by_cases h0 : i = 0
  · subst h0
    rw [argSig_zero, upd_same]; simp [Rep, RepL]
  · rw [show upd val 0 (Value.tuple #[]) i = val i by simp [upd, h0]]
    by_cases hI : i = INH
    · subst hI
      rw [show argSig [.tup []] [AV.op [.osl 1 cs' n none]] INH = .op [.osl 1 cs' n none] by simp [argSig]]
      exact hr
    · unfold argSig
      split
      · rw [List.getElem?_eq_none (by simp; omega)]; simp [Rep]
      · rw [List.getElem?_eq_none (by simp; omega)]; simp [Rep]
theorem acall_sort2 {P : Program} {f g : FuncId} (L : List (List Int)) (hn : L.length < 4611686018427387904) (hnd : L.Nodup) (cfr : List Int → List Int → Int) (lt : List Int → List Int → Bool)
    (hirr : ∀ a, lt a a = false) (htr : ∀ {a b c}, lt a b = true → lt b c = true → lt a c = true) (htot : ∀ {a b}, lt a b = false → lt b a = false → a = b)
    (hb : ∀ i j, i < L.length → j < L.length → decide (cfr (gl L i) (gl L j) < 0) = lt (gl L i) (gl L j))
    (hc : ∀ i j, i < L.length → j < L.length → ACall P g [.sl (icells (gl L i)) (gl L i).length, .sl (icells (gl L j)) (gl L j).length] [] (.int .i64 (cfr (gl L i) (gl L j))) [])
    (hS : ∀ {k : Nat} (enc : Fin (k + 1) → Value) (_ : OneCell enc) (cf : Fin (k + 1) → Fin (k + 1) → Int) (_ : SWO (ltOf cf)) (blk cap : Nat) (d : Array (Fin (k + 1))) (w : World), CmpLays1 P g #[] enc cf blk 0 d.size w → Holds enc w blk 0 d → blk < w.heap.size → d.size < 4611686018427387904 →
      (∀ x y, ltOf cf x y = false → ltOf cf y x = false → x = y) → Calls P f #[.slice (some ⟨blk, 0, none⟩) d.size cap, .func (.func g) #[] #[]] w fun e w' => e = .returned (.tuple #[]) ∧ ∃ n os, w' = sortWorld enc w blk 0 n (d.toList.mergeSort fun x y => !(ltOf cf) y x).toArray os)
    (hN : ∀ (p : Option Addr) (cap : Nat) (fv : Value) (w : World), Calls P f #[.slice p 0 cap, fv] w fun e w' => e = .returned (.tuple #[]) ∧ w' = w) :
    ACall P f [.rsl (INH, [0]) 1 0 L.length none, .fn g [] []] [.op [.osl 1 (sls L) L.length none]] (.tup []) [.op [.osl 1 (sls (L.mergeSort fun x y => !lt y x)) L.length none]] := by
  intro e vs val w β F hl hv hi
  match vs, hl with
  | [v0, v1], _ =>
    have r0 := hi.rep 0
    have r1 := hi.rep 1
    have rI := hi.rep INH
    rw [show argSig [AV.rsl (INH, [0]) 1 0 L.length none, .fn g [] []] [.op [.osl 1 (sls L) L.length none]] 0 = .rsl (INH, [0]) 1 0 L.length none by simp [argSig, INH], hv 0 (by simp)] at r0
    rw [show argSig [AV.rsl (INH, [0]) 1 0 L.length none, .fn g [] []] [.op [.osl 1 (sls L) L.length none]] 1 = .fn g [] [] by simp [argSig, INH], hv 1 (by simp)] at r1
    rw [show argSig [AV.rsl (INH, [0]) 1 0 L.length none, .fn g [] []] [.op [.osl 1 (sls L) L.length none]] INH = .op [.osl 1 (sls L) L.length none] by simp [argSig]] at rI
    have rI0 := rI
    simp only [Rep, List.getD_cons_zero, List.getD_cons_succ] at r0 r1
    simp only [Rep] at rI
    obtain ⟨_, b0, arr0, t0, hβ0, hval0, hh0, hrow0⟩ := rI
    obtain ⟨u0, hu0, rI⟩ := RepL_iff.1 hrow0 0 _ rfl
    simp only [Rep, List.nil_append, Nat.zero_add] at rI
    obtain ⟨us, ws, rfl, hus, hws, _⟩ := r1
    obtain rfl : us = [] := List.eq_nil_of_length_eq_zero hus
    obtain rfl : ws = [] := List.eq_nil_of_length_eq_zero hws
    rcases Nat.eq_zero_or_pos L.length with hk | hpos
    · obtain rfl : L = [] := List.eq_nil_of_length_eq_zero hk
      have hcase : ∃ p cap, v0 = .slice p 0 cap := by
        rcases r0 with ⟨_, ⟨a, h⟩, _⟩ | ⟨b, c, _, h, _⟩
        · exact ⟨a, 0, h⟩
        · exact ⟨_, c, h⟩
      obtain ⟨p, cap, rfl⟩ := hcase
      refine (hN p cap _ w).mono fun en w' ⟨he, hw⟩ => ⟨.tuple #[], β, F, he, ?_⟩
      subst hw
      rw [show (([] : List (List Int)).mergeSort fun x y => !lt y x) = [] by simp]
      exact inv_row2 hi rfl rI0 (Nat.le_refl _) (fun _ _ _ => rfl) (Tame.refl _)
    · obtain ⟨k, hk⟩ : ∃ k, L.length = k + 1 := ⟨L.length - 1, by omega⟩
      rcases rI with ⟨_, _, h, _⟩ | ⟨_, b, capv, arr, t, hβ, hval, hcap, _, hh, hsz, hr⟩
      · have := sls_length L; rw [h] at this; simp at this; omega
      rcases r0 with ⟨h, _⟩ | ⟨b', capv', hβ', rfl, _⟩
      · rw [hβ] at h; cases h
      rw [hβ] at hβ'
      simp only [Option.some.injEq, Prod.mk.injEq] at hβ'
      obtain ⟨rfl, hcc⟩ := hβ'
      obtain rfl : capv = capv' := by omega
      have hsep := hi.sep (INH, [0]) b (capv * 1) ⟨.osl 1 (sls L) L.length none, by simp [argSig, node, kids], rfl⟩ hβ
      have hb0 : b0 ≠ b := fun h => by
        subst h
        have := hi.disj (INH, []) (INH, [0]) b0 _ _ ⟨.op [.osl 1 (sls L) L.length none], by simp [argSig, node], rfl⟩ ⟨.osl 1 (sls L) L.length none, by simp [argSig, node, kids], rfl⟩ hβ0 hβ
        simp at this
      have hb0lt : b0 < w.heap.size := (Array.getElem?_eq_some_iff.1 hh0).1
      have hblt : b < w.heap.size := (Array.getElem?_eq_some_iff.1 hh).1
      let enc : Fin (k + 1) → Value := fun i => (arr[i.val]?).getD undef
      have hcell : ∀ i, i < L.length → ∃ u, arr[i]? = some u ∧ Rep β F w (.sl (icells (gl L i)) (gl L i).length) (INH, [0, i]) u := fun i hi' => by
        obtain ⟨u, hu, hru⟩ := RepL_iff.1 hr i _ (sls_get hi')
        exact ⟨u, by simpa using hu, by simpa using hru⟩
      have henc : ∀ i : Fin (k + 1), arr[i.val]? = some (enc i) ∧ Rep β F w (.sl (icells (gl L i)) (gl L i).length) (INH, [0, i.val]) (enc i) := fun i => by
        obtain ⟨u, hu, hru⟩ := hcell i.val (by omega)
        have : enc i = u := by show (arr[i.val]?).getD undef = u; rw [hu]; rfl
        rw [this]; exact ⟨hu, hru⟩
      have hpsl : ∀ a : List Int, pureV (.sl (icells a) a.length) = true := fun a => by simp [pureV, ic_pureL]
      have hmove : ∀ {W : World} (i : Fin (k + 1)) (β' : Place → Option (Nat × Nat)) (p : Place), (∀ c, F c → W.heap[c]? = w.heap[c]?) → Rep β' F W (.sl (icells (gl L i)) (gl L i).length) p (enc i) := fun {W} i β' p hW => by
        have h1 : Rep β F W (.sl (icells (gl L i)) (gl L i).length) (INH, [0, i.val]) (enc i) := (henc i).2.tr _ (fun c hc' => ⟨hc', hW c hc'⟩) (fun r y hy ho => by rw [noOwn_pure (hpsl _) hy] at ho; cases ho) (fun q hq => by simp [refs] at hq)
        exact h1.pure_any (hpsl _)
      have hFb : ∀ c, F c → c < w.heap.size ∧ c ≠ b := fun c hc' => ⟨(hi.fr c hc').1, fun h => by subst h; exact hsep.1 hc'⟩
      let cf : Fin (k + 1) → Fin (k + 1) → Int := fun i j => cfr (gl L i) (gl L j)
      have hlt : ∀ x y : Fin (k + 1), ltOf cf x y = lt (gl L x) (gl L y) := fun x y => hb x y (by omega) (by omega)
      have hO : SWO (ltOf cf) := by
        refine ⟨fun x => by rw [hlt]; exact hirr _, fun x y z h1 h2 => ?_, fun x y z h1 h2 => ?_⟩
        · rw [hlt] at h1 h2 ⊢; exact htr h1 h2
        · rw [hlt] at h1 h2 ⊢
          cases h3 : lt (gl L x) (gl L z) with
          | false => rfl
          | true =>
            cases h4 : lt (gl L y) (gl L x) with
            | false => rw [htot h1 h4] at h3; rw [h2] at h3; cases h3
            | true => rw [htr h4 h3] at h2; cases h2
      have hT : ∀ x y, ltOf cf x y = false → ltOf cf y x = false → x = y := fun x y h1 h2 => by
        rw [hlt] at h1 h2
        have := htot h1 h2
        have hx : L[x.val]'(by omega) = gl L x := by simp [gl, List.getElem?_eq_getElem (show x.val < L.length by omega)]
        have hy : L[y.val]'(by omega) = gl L y := by simp [gl, List.getElem?_eq_getElem (show y.val < L.length by omega)]
        have hne := List.pairwise_iff_getElem.1 hnd
        rcases Nat.lt_trichotomy x.val y.val with h | h | h
        · exact absurd (by rw [hx, hy]; exact this) (hne _ _ (by omega) (by omega) h)
        · exact Fin.ext h
        · exact absurd (by rw [hx, hy]; exact this.symm) (hne _ _ (by omega) (by omega) h)
      let d : Array (Fin (k + 1)) := (List.finRange (k + 1)).toArray
      have hds : d.size = k + 1 := by simp [d]
      have hdg : ∀ j (h : j < k + 1), d[j]! = ⟨j, h⟩ := fun j h => by
        rw [getElem!_pos d j (by omega)]; simp [d]
      have h1 : OneCell enc := fun i => by
        have := (henc i).2
        simp only [Rep] at this
        obtain ⟨_, a, cap, h, _⟩ := this
        rw [h]; rfl
      have hH : Holds enc w b 0 d := fun j hj => by
        have hj' : j < k + 1 := by omega
        rw [hdg j hj']
        have := (henc ⟨j, hj'⟩).1
        exact ⟨by simp [World.cell?, hh]; simpa using this, by simp [World.frozen?, hh]⟩
      have hcmp : CmpLays1 P g #[] enc cf b 0 d.size w := fun m os dk hdk x y => by
        have hW : ∀ c, F c → (sortWorld enc w b 0 m dk os).heap[c]? = w.heap[c]? := fun c hc' => sortWorld_other (hFb c hc').1 (hFb c hc').2
        refine (acall_grows (hc x y (by omega) (by omega)) (by simp [pureL, hpsl]) (vs := [enc x, enc y]) rfl (fun c hc' => Nat.lt_of_lt_of_le (hFb c hc').1 sortWorld_size) ?_).mono fun en w' ⟨v, he, ⟨β', F', hrv⟩, hw⟩ => ?_
        · simp only [RepL]
          exact ⟨hmove x _ _ hW, hmove y _ _ hW, trivial⟩
        · simp only [Rep] at hrv
          subst hrv
          exact ⟨he, hw⟩
      have hcall := hS enc h1 cf hO b capv d w hcmp hH hblt (by omega) hT
      rw [show d.size = L.length by omega] at hcall
      refine hcall.mono fun en w' ⟨he, m, os, hw⟩ => ⟨.tuple #[], β, F, he, ?_⟩
      generalize hd' : (d.toList.mergeSort fun x y => !(ltOf cf) y x) = D at hw
      have hDlen : D.length = k + 1 := by rw [← hd']; simp [d]
      have hR : (L.mergeSort fun x y => !lt y x) = D.map fun (i : Fin (k + 1)) => gl L i.val := by
        rw [← hd', List.map_mergeSort (s := fun x y => !lt y x) (fun x _ y _ => by rw [hlt])]
        congr 1
        refine List.ext_getElem? fun i => ?_
        simp only [d, List.getElem?_map]
        rcases Nat.lt_or_ge i (k + 1) with h | h
        · simp [List.getElem?_eq_getElem (show i < L.length by omega), gl, h]
        · rw [List.getElem?_eq_none (by omega), List.getElem?_eq_none (by simpa using h)]; rfl
      rw [hR]
      subst hw
      have hkeep : ∀ c, F c → (sortWorld enc w b 0 m D.toArray os).heap[c]? = w.heap[c]? := fun c hc' => sortWorld_other (hFb c hc').1 (hFb c hc').2
      refine inv_row2 hi (sls_pureL _) ?_ sortWorld_size (fun c hc' hn' => sortWorld_other (Nat.lt_of_lt_of_le hc' hi.grow) (fun h => ?_)) ⟨rfl, rfl, rfl, Nat.le_add_right _ _⟩
      · simp only [Rep]
        refine ⟨by simp [noRefL, noRef, noRefL_pure _ (sls_pureL _)], b0, arr0, t0, hβ0, hval0, (sortWorld_other hb0lt hb0).trans hh0, RepL_iff.2 fun i0 c0 hic0 => ?_⟩
        match i0, hic0 with
        | j + 1, h => simp at h
        | 0, hic0 =>
        simp only [List.getElem?_cons_zero, Option.some.injEq] at hic0
        subst hic0
        refine ⟨u0, hu0, ?_⟩
        simp only [Rep, List.nil_append, Nat.zero_add]
        refine .inr ⟨noRefL_pure _ (sls_pureL _), b, capv, _, t, hβ, hval, hcap, by simp, sortWorld_same hh, by rw [putCells_size, hsz], RepL_iff.2 fun i c hic => ?_⟩
        have hi' : i < k + 1 := by
          rcases Nat.lt_or_ge i (k + 1) with h | h
          · exact h
          · rw [List.getElem?_eq_none (by simp [sls_length, hDlen]; omega)] at hic; cases hic
        have hDi : D[i]? = some D[i] := List.getElem?_eq_getElem (by omega)
        have hcR : c = .sl (icells (gl L D[i])) (gl L D[i]).length := by
          simp only [sls, List.map_map, List.getElem?_map, hDi, Option.map_some, Option.some.injEq] at hic
          exact hic.symm
        subst hcR
        refine ⟨enc D[i], ?_, hmove D[i] β _ hkeep⟩
        have := putCells_get (enc := enc) (d := D.toArray) (arr := arr) (i := i) (by omega) (by simpa using by omega)
        rw [Array.getElem?_toList, this]
        simp [hDlen, hi']
      · subst h
        rcases hsep.2 with h | h
        · omega
        · exact hn' h
def srtM (L : List (List Int)) : List (List Int) := L.mergeSort fun x y => !bfL y x
theorem sortRows_c (vars : Int) (L : List (List Int)) (hA : AllA vars L) (hnd : L.Nodup) (hn : L.length ≤ 1048576) :
  ACall Tryz.prog 123 [.rsl (INH, [0]) 1 0 L.length none, .fn 124 [] []] [.op [.osl 1 (sls L) L.length none]] (.tup []) [.op [.osl 1 (sls (srtM L)) L.length none]] :=
 acall_sort2 L (by omega) hnd cC bfL bfL_irr bfL_trans bfL_tot
  (fun i j hi hj => by
   have h := cC_bef (cl_sm6 (hA i hi)) (cl_sm6 (hA j hj))
   cases hb : bfL (gl L i) (gl L j) <;> rw [hb] at h <;> simp at h ⊢ <;> omega)
  (fun i j hi hj => cC_c _ _ (by have := clB_len (hA i hi); omega) (by have := clB_len (hA j hj); omega))
  (fun enc h1 cf hO blk cap d w hc hH hb hz hT => Tryz.slices_SortFunc_total_f123 enc h1 cf hO 124 #[] blk 0 cap d w (enters_of Tryz.func124 (by kernel_rfl) rfl) hc hH hb hz hT)
  (fun p cap fv w => Tryz.slices_SortFunc_none_f123 (α := Nat) p cap fv w)
theorem hb123 : hasBody Tryz.prog 123 = true := by kernel_rfl
theorem allAll_c (vars : Int) (L : List (List Int)) (w : Int) (hcl : ∀ i, i < L.length → clB vars (gl L i) = true) (hL : L.length ≤ 1048576) (hw : 0 ≤ w ∧ w ≤ 6) (hv6 : 0 ≤ vars ∧ vars ≤ 6) (hnd : (allG L w vars vars.toNat 1 [] []).Nodup) (hlc : ∀ i, i < (allG L w vars vars.toNat 1 [] []).length → clB vars (gl (allG L w vars vars.toNat 1 [] []) i) = true) : ACall Tryz.prog 87 [.agg [.int .i64 vars, .sl (sls L) L.length], .int .i64 w] [] (.osl 1 (sls (srtM (allG L w vars vars.toNat 1 [] []))) (allG L w vars vars.toNat 1 [] []).length none) [] := by
 have hbS := hb121
 have hbF := hb123
 have hp7 := Nat.pow_le_pow_right (n := 3) (by decide) (show (vars + 1 - 1).toNat ≤ 6 by omega)
 have hp8 := Nat.pow_le_pow_right (n := 3) (by decide) (show vars.toNat ≤ 6 by omega)
 have hal := allG_length L w vars vars.toNat 1 [] []
 simp only [List.length_nil, Nat.zero_add] at hal
 refine ACall.intro Tryz.func87 rfl (N := 13) rfl (by decide) (by simp) ?_
 refine aq ?_
 refine rn (v := .pp [.int .i64 vars, .sl (sls L) L.length] 0) (QSem.cast (q_boxZ il rfl (show pureL [.int .i64 vars, .sl (sls L) L.length] = true by simp [pureL, pureV, sls_pureL])) (by first | rfl | (simp [cellsOf, rd, argSig, INH, shL, sh]))) ?_
 refine rn (v := .pp [.int .i64 w] 0) (QSem.cast (q_boxZ il rfl rfl) (rfl)) ?_
 refine ra .nils ?_
 refine r_nil ?_
 refine aq ?_
 refine rn (v := .op [.nils]) (q_alloc zc22) ?_
 refine r_nil ?_
 refine a_seq ?_
 refine a_pre (ent_nil_at (t := 5) (r := [0]) (sz := 1) rfl (.inl rfl) rfl rfl) ?_
 refine a_region ?_
 refine rv (v := .pp _ _) (v_fieldAddr_pp fo29_0 il) ?_
 refine rv (v := .int _ _) (v_load_pp ta3 il (fun _ => rfl) rfl) ?_
 refine rv (v := .fn _ _ _) (v_makeFunc (first := []) (caps := [.tmp 2, .tmp 3, .tmp 5]) rfl rfl) ?_
 refine r_step rfl (o_callIOKc (q := (5, [])) (vs := [.int _ _, .int _ _, .nils, .fn _ _ _]) (args := [.int .i64 vars, .int .i64 1, .sl [] 0, .fn 122 [] [.pp [.int .i64 vars, .sl (sls L) L.length] 0, .pp [.int .i64 w] 0, .rp (INH, []) 0]]) (res := .tup []) rfl hbS rfl (by decide) ⟨.inl rfl, .inl rfl, .inl rfl, .inl rfl, trivial⟩ rfl rfl (allClR_c vars L w hcl hL hw hv6 vars.toNat 1 [] [] (by omega) (by omega) (by simp; omega) (by simp; omega)) rfl rfl rfl (by simp [noRef, noRefL, sls_noRef]) (Nat.le_of_ble_eq_true rfl) (by decide) rfl) ?_
 refine r_nil ?_
 refine aq ?_
 refine rv (v := .rsl _ _ _ _ _) (v_load_rp (c := .osl _ _ _ _) ta22 il rfl (fun _ => rfl)) ?_
 refine r_step rfl (o_callIOKc (q := (5, [])) (vs := [.rsl _ _ _ _ _, .fn _ _ _]) (args := [.rsl (INH, [0]) 1 0 _ none, .fn 124 [] []]) (res := .tup []) rfl hbF rfl (by decide) ⟨.inl rfl, .inl rfl, trivial⟩ rfl rfl (sortRows_c vars (allG L w vars vars.toNat 1 [] []) hlc hnd (by omega)) rfl rfl rfl (by simp [noRef, noRefL, sls_noRef]) (Nat.le_of_ble_eq_true rfl) (by decide) rfl) ?_
 refine r_nil ?_
 refine aq ?_
 refine rv (v := .rsl _ _ _ _ _) (v_load_rp (c := .osl _ _ _ _) ta22 il rfl (fun _ => rfl)) ?_
 refine ra (.rsl _ _ _ _ _) ?_
 refine r_pre (ent_reloc_sl (t := 4) rfl rfl) ?_
 refine r_nil ?_
 refine a_ret ?_
 refine ret1 Tryz.results87 (by decide) (by decide) (Weak.osl ?_ ?_) rfl Leaves.nil
 all_goals rfl
theorem fo66_2 : fieldOff Tryz.prog 66 2 = some 3 := by kernel_rfl
theorem fo66_3 : fieldOff Tryz.prog 66 3 = some 4 := by kernel_rfl
theorem fo66_4 : fieldOff Tryz.prog 66 4 = some 5 := by kernel_rfl
theorem hb87 : hasBody Tryz.prog 87 = true := by kernel_rfl
theorem hb88 : hasBody Tryz.prog 88 = true := by kernel_rfl
theorem hb89 : hasBody Tryz.prog 89 = true := by kernel_rfl
theorem sl64 : isSlice Tryz.prog 64 = true := by kernel_rfl
theorem sp66 : structPl Tryz.prog 66 = some ([.int .i64 0, .nils, .int .i64 0, .nils, .nils, .nils], [(0, 2), (2, 1), (3, 1), (4, 1), (5, 1)]) := by kernel_rfl
theorem shrinkI_c (vars : Int) (L : List (List Int)) (w : Int) (hcl : ∀ i, i < L.length → clB vars (gl L i) = true) (hL : L.length ≤ 1048576) (hw : 0 ≤ w ∧ w ≤ 6) (hv6 : 0 ≤ vars ∧ vars ≤ 6) : ACall Tryz.prog 41 [.agg [.int .i64 vars, .sl (sls L) L.length], .int .i64 w] [] (.pp [.int .i64 vars, .sl (sls L) L.length, .int .i64 w, .sl (sls (alwL vars w L)) (alwL vars w L).length, .sl (blcells (mkB vars.toNat (shE vars w (alwL vars w L)) (shE vars w (alwL vars w L)).length)) (3 ^ vars.toNat), .sl (icells (rdFA vars w (alwL vars w L))) (3 ^ vars.toNat)] 0) [] := by
 obtain ⟨hAA, hAs, hAl⟩ := alwL_spec (L := L) (w := w) hv6
 have hq : ACall Tryz.prog 87 [.agg [.int .i64 vars, .sl (sls L) L.length], .int .i64 w] [] (.osl 1 (sls (alwL vars w L)) (alwL vars w L).length none) [] := (by rw [alwL_len]; exact allAll_c vars L w hcl hL hw hv6 (allG_nodup L w vars vars.toNat 1 [] (by omega)) (all_lc hv6 L w))
 generalize alwL vars w L = A at hq hAA hAs hAl ⊢
 have hp3 := pow3_bd (k := vars.toNat) (by omega)
 refine ACall.introF Tryz.func41 rfl (N := 97) rfl (by decide) (by simp) (by simp [pureL, pureV, sls_pureL, ic_pureL]) ?_
 refine fq ?_
 refine rn (v := .op [.int _ _, .sl _ _]) (q_box il rfl rfl) ?_
 refine ra .nilp ?_
 refine r_nil ?_
 refine af_seq ?_
 refine af_of ?_
 refine a_region_any mixed (by kernel_rfl) ?_
 refine yv (v := .agg [.int _ _, .sl _ _]) (v_load_rpa1 ta29 il rfl rfl (fun _ => rfl) rfl) ?_
 refine yv (v := .int _ _) (v_move il nf) ?_
 refine yv (v := .agg [.int _ _, .sl _ _]) (v_load_rpa1 ta29 il rfl rfl (fun _ => rfl) rfl) ?_
 refine yv (v := .int _ _) (v_move il nf) ?_
 refine y_new (v := .sl _ _) (QSem.cast (q_callFZ (vs := [.agg [.int _ _, .sl _ _], .int _ _]) (args := [.agg [.int .i64 _, .sl _ _], .int .i64 _]) hb87 ⟨.inl rfl, .inl rfl, trivial⟩ rfl (fun hA => hq) rfl (by simp [noRef, noRefL, sls_noRef])) (sl_shZ (m := 1) (c := none) (sls_pure _))) rfl rfl (by decide) (by kernel_rfl) ?_
 refine yv (v := .agg [.int _ _, .sl _ _, .int _ _, .sl _ _, .nils, .nils]) (v_build sp66 rfl rfl) ?_
 refine y_new (v := .op [.int _ _, .sl _ _, .int _ _, .sl _ _, .nils, .nils]) (q_box (.inl rfl) rfl rfl) rfl rfl (by decide) (by kernel_rfl) ?_
 refine yv (v := .rp _ _) (v_assign il nf) ?_
 refine y_nil ?_
 refine af_seq ?_
 refine af_pre (ent_reloc_op (t := 5) rfl rfl) ?_
 refine af_of ?_
 refine a_region_z (n := 9) [[(19, true)], [(20, true)], [(21, true)], [(22, true)], [(23, true)], [(24, true)], [(25, true)], [(26, true)], [(27, true)]] mixed (by kernel_rfl) ?_
 refine z_val (v := .rp _ _) (v_move il nf) rfl rfl (by decide) rfl (by kernel_rfl) ?_
 refine z_val (v := .agg [.int _ _, .sl _ _]) (v_load_rpa1 ta29 il rfl rfl (fun _ => rfl) rfl) rfl rfl (by decide) rfl (by kernel_rfl) ?_
 refine z_val (v := .rp _ _) (v_move il nf) rfl rfl (by decide) rfl (by kernel_rfl) ?_
 refine z_val (v := .rp _ _) (v_nilCheck il rfl) rfl rfl (by decide) rfl (by kernel_rfl) ?_
 refine z_val (v := .rp _ _) (v_fieldAddr_rp fo66_2 il) rfl rfl (by decide) rfl (by kernel_rfl) ?_
 refine z_val (v := .sl _ _) (v_load_rp1 ta22 il rfl (fun _ => rfl) rfl) rfl rfl (by decide) rfl (by kernel_rfl) ?_
 refine z_new (v := .osl _ _ _ _) (q_call (vs := [.agg [.int _ _, .sl _ _], .sl _ _]) (args := [.agg [.int .i64 _, .sl _ _], .sl _ _]) hb88 ⟨il, il, trivial⟩ rfl (fun hA => marks_c vars L A hv6 hAA (by omega)) (bl_noSh _) (bl_noRef _)) rfl rfl (by decide) rfl (by kernel_rfl) ?_
 refine z_val (v := .rp _ _) (v_nilCheck il rfl) rfl rfl (by decide) rfl (by kernel_rfl) ?_
 refine z_val (v := .rp _ _) (v_fieldAddr_rp fo66_3 il) rfl rfl (by decide) rfl (by kernel_rfl) ?_
 refine z_nil ?_
 refine r_step rfl (o_store_own (v := .osl _ _ _ _) (y' := .op [.int _ _, .sl _ _, .int _ _, .sl _ _, .osl _ _ _ _, .nils]) rfl rfl ta64 (.inl rfl) (by decide) rfl (by decide) rfl (by simp [cellsOf, noRefL, noRef, bl_noRef]) rfl rfl rfl rfl rfl (Nat.le_of_ble_eq_true rfl) rfl rfl) ?_
 refine r_nil ?_
 refine fq ?_
 refine rm (.rp _ _) ?_
 refine rm (.rp _ _) ?_
 refine rv (v := .rp _ _) (v_nilCheck il rfl) ?_
 refine rv (v := .rp _ _) (v_fieldAddr_rp fo66_3 il) ?_
 refine rv (v := .rsl _ _ _ _ _) (v_load_rp (c := .osl _ _ _ _) ta64 il rfl (fun _ => rfl)) ?_
 refine rv (v := .int _ _) (v_len_rsl sl64 il) ?_
 refine rn (v := .osl _ _ _ _) (q_makeSlice us25 sb3 zc3 rfl (by decide) il il (fun _ => by omega)) ?_
 refine rv (v := .rp _ _) (v_nilCheck il rfl) ?_
 refine rv (v := .rp _ _) (v_fieldAddr_rp fo66_4 il) ?_
 refine r_pre (ent_eq (t := 34) (v' := .osl 1 (icells (rdA vars w A 0)) (3 ^ vars.toNat) none) (Weak.osl (icells_rep _) rfl)) ?_
 refine r_step rfl (o_store_own (v := .osl _ _ _ _) (y' := .op [.int _ _, .sl _ _, .int _ _, .sl _ _, .osl _ _ _ _, .osl _ _ _ _]) rfl rfl ta25 (.inl rfl) (by decide) rfl (by decide) rfl (by simp [cellsOf, noRefL, noRef, ic_noRef]) rfl rfl rfl rfl rfl (Nat.le_of_ble_eq_true rfl) rfl rfl) ?_
 refine r_nil ?_
 refine fq ?_
 refine ra (.int _ _) ?_
 refine r_nil ?_
 refine af_block ?_
 refine af_loop (X := Nat) (fun n => look [(1, .int .i64 w), (2, .op [.int .i64 vars, .sl (sls L) L.length]), (5, .op [.int .i64 vars, .sl (sls L) L.length, .int .i64 w, .sl (sls A) A.length, .osl 1 (blcells (mkB vars.toNat (shN vars w A n) (shN vars w A n).length)) (3 ^ vars.toNat) none, .osl 1 (icells (rdA vars w A n)) (3 ^ vars.toNat) none]), (6, .int .i64 (((n + 1) : Nat) : Int))]) (fun n => n + (shN vars w A n).length ≤ A.length) (fun n => (shN vars w A n).length) 0 (ent_look ⟨wr, wr, wr, wr, trivial⟩) (by show 0 + A.length ≤ _; omega) (fun n hG => ?_)
 have g1 := hG
 have hml := mkB_len vars.toNat (shN vars w A n) (shN vars w A n).length
 have hrl := rdA_len (vars := vars) (w := w) (A := A) n
 have hgl := fun i => gnI_len (vars := vars) (w := w) (A := A) n i
 refine af_seq ?_
 refine af_block ?_
 refine fq ?_
 refine ra .nils ?_
 refine r_nil ?_
 refine af_seq ?_
 refine fq ?_
 refine rm (.rp _ _) ?_
 refine rv (v := .rp _ _) (v_nilCheck il rfl) ?_
 refine rv (v := .rp _ _) (v_fieldAddr_rp fo66_2 il) ?_
 refine rv (v := .sl _ _) (v_load_rp1 ta22 il rfl (fun _ => rfl) rfl) ?_
 refine rv (v := .int _ _) (v_len_sl sl22 il) ?_
 refine rm (.int _ _) ?_
 refine r_nil ?_
 refine af_block ?_
 refine af_pre (ent_nil (t := 7) (sz := 1) (cap := none) (.inl rfl) (fun _ h => by cases h)) ?_
 refine af_loop (X := Nat) (fun i => look [(1, .int .i64 w), (2, .op [.int .i64 vars, .sl (sls L) L.length]), (5, .op [.int .i64 vars, .sl (sls L) L.length, .int .i64 w, .sl (sls A) A.length, .osl 1 (blcells (mkB vars.toNat (shN vars w A n) (shN vars w A n).length)) (3 ^ vars.toNat) none, .osl 1 (icells (rdA vars w A n)) (3 ^ vars.toNat) none]), (6, .int .i64 (((n + 1) : Nat) : Int)), (7, .osl 1 (icells (codesL (gnI vars w A n i))) (gnI vars w A n i).length none), (42, .sl (sls A) A.length), (43, .int .i64 ((A.length : Nat) : Int)), (44, .int .i64 ((i : Nat) : Int))]) (fun i => i ≤ A.length) (fun i => A.length - i) 0 (ent_look ⟨wr, wr, wr, wr, Weak.osl rfl rfl, wr, wr, wr, trivial⟩) (Nat.zero_le _) (fun i hG => ?_)
 refine fq ?_
 refine rv (v := .bool _) (v_lss il il) ?_
 refine r_nil ?_
 refine af_seq ?_
 refine af_cond rfl (fun ht45 => ?_) (fun ht45 => ?_)
 ·
  refine af_skip ?_
  refine af_seq ?_
  refine af_block ?_
  refine af_seq ?_
  have hi : i < A.length := (by simp at ht45; omega)
  have hca := codeA_cl (hAA i hi)
  have hmm := mark_mem (shN_all (w := w) hAA n) (hAA i hi)
  have hob : (bif gB (mkB vars.toNat (shN vars w A n) (shN vars w A n).length) (codeA (gl A i)) then !keepsB vars w (shN vars w A n) (gl A i) else false) = outB vars w (shN vars w A n) (gl A i) := (by rw [hmm]; unfold outB; cases decide (gl A i ∈ (shN vars w A n)) <;> rfl)
  refine af_of ?_
  refine a_region ?_
  refine rv (v := .pp _ _) (v_indexAddr_sl es22 il il (fun _ => ⟨by omega, by omega, sls_ne hi⟩)) ?_
  refine rv (v := .sl (icells (gl A i)) (gl A i).length) (v_load_pp ta25 il (fun _ => by rw [Nat.mul_one]; exact sls_get hi) rfl) ?_
  refine ra (.sl _ _) ?_
  refine r_nil ?_
  refine af_seq ?_
  refine af_of ?_
  refine a_region_any mixed (by kernel_rfl) ?_
  refine yv (v := .rp _ _) (v_move il nf) ?_
  refine yv (v := .rp _ _) (v_nilCheck il rfl) ?_
  refine yv (v := .rp _ _) (v_fieldAddr_rp fo66_3 il) ?_
  refine yv (v := .rsl _ _ _ _ _) (v_load_rp (c := .osl _ _ _ _) ta64 il rfl (fun _ => rfl)) ?_
  refine yv (v := .sl _ _) (v_move il nf) ?_
  refine y_new (v := .int _ _) (q_call (vs := [.sl _ _]) (args := [.sl _ _]) hb42 ⟨.inl rfl, trivial⟩ rfl (fun hA => codeOf_c vars (gl A i) (hAA i hi)) rfl rfl) rfl rfl (by decide) (by kernel_rfl) ?_
  refine yv (v := .rp _ _) (v_indexAddr_rsl0 es64 il il (fun _ => by omega)) ?_
  refine yv (v := .bool (gB (mkB vars.toNat (shN vars w A n) (shN vars w A n).length) (codeA (gl A i)))) (v_load_rp1 ta4 il rfl (fun _ => by rw [Nat.mul_one]; exact bl_get (gB_get (by omega))) rfl) ?_
  refine yv (v := .bool _) (v_move il nf) ?_
  refine yh (v := .agg [.int _ _, .sl _ _]) (VSem.quiet (v_load_rpa1 ta29 il rfl rfl (fun _ => rfl) rfl)) ?_
  refine yh (v := .int _ _) (v_move il nf).quiet ?_
  refine yh (v := .rp _ _) (v_move il nf).quiet ?_
  refine yg (v := .rp _ _) (v_nilCheck (.inr ⟨_, rfl, fun h => h⟩) rfl).quiet rfl rfl rfl (by decide) (.inl ⟨_, rfl, rfl⟩) ?_
  refine yg (v := .rp _ _) (v_fieldAddr_rp fo66_3 (.inr ⟨_, rfl, fun h => h⟩)).quiet rfl rfl rfl (by decide) (.inl ⟨_, rfl, rfl⟩) ?_
  refine yg (v := .rsl _ _ _ _ _) (v_load_rp (c := .osl _ _ _ _) ta64 (.inr ⟨_, rfl, fun h => h⟩) rfl (fun _ => rfl)).quiet rfl rfl rfl (by decide) (.inl ⟨_, rfl, rfl⟩) ?_
  refine yh (v := .sl _ _) (v_move il nf).quiet ?_
  refine yg (v := .bool _) (q_call (vs := [.agg [.int _ _, .sl _ _], .int _ _, .rsl _ _ _ _ _, .sl _ _]) (args := [.agg [.int .i64 _, .sl _ _], .int .i64 _, .sl _ _, .sl _ _]) hb89 ⟨.inr ⟨_, rfl, fun h => h⟩, .inr ⟨_, rfl, fun h => h⟩, .inr ⟨_, rfl, fun h => h⟩, .inr ⟨_, rfl, fun h => h⟩, trivial⟩ (l4_eq rfl rfl (sl_sh (bl_pure _)) rfl) (fun hA => closedAt_c vars L (shN vars w A n) w (gl A i) hv6 (shN_all hAA n) (hAA i hi)) rfl rfl) rfl rfl rfl (by decide) (.inl ⟨_, rfl, rfl⟩) ?_
  refine yg (v := .bool _) (v_not (.inr ⟨_, rfl, fun h => h⟩)).quiet rfl rfl rfl (by decide) (.inl ⟨_, rfl, rfl⟩) ?_
  refine yv (v := .bool _) (v_pick (.inl rfl) (.inr ⟨_, rfl, fun h h2 => by simp_all⟩) (.inl rfl)) ?_
  refine y_nil ?_
  refine af_cond rfl (fun ht66 => ?_) (fun ht66 => ?_)
  ·
   refine af_of ?_
   refine a_region ?_
   refine rm (.rsl _ _ _ _ _) ?_
   refine rm (.sl _ _) ?_
   refine rn (v := .int _ _) (q_call (vs := [.sl _ _]) (args := [.sl _ _]) hb42 ⟨il, trivial⟩ rfl (fun hA => codeOf_c vars (gl A i) (hAA i hi)) rfl rfl) ?_
   refine rn (v := .osl _ _ _ _) (q_sliceLit (n := 1) (parts := [(0, .tmp 69)]) lt25 rfl rfl rfl rfl) ?_
   refine r_pre (ent_reloc_sl (t := 67) rfl rfl) ?_
   refine r_step rfl (o_append rfl ap25 rfl (by decide) (by decide) rfl (src_lit (.inl rfl) rfl rfl rfl) rfl (by rw [icells_length, codesL_len]; omega) (by have := hgl i; omega)) ?_
   refine ra (.rsl _ _ _ _ _) ?_
   refine r_pre (ent_reloc_sl (t := 7) rfl rfl) ?_
   refine r_nil ?_
   refine af_pre (ent_look (L := [(1, .int _ _), (2, .op [.int _ _, .sl _ _]), (5, .op [.int _ _, .sl _ _, .int _ _, .sl _ _, .osl _ _ _ _, .osl _ _ _ _]), (6, .int _ _), (7, .osl _ _ _ _), (42, .sl _ _), (43, .int _ _), (44, .int _ _)]) ⟨wr, wr, wr, wr, wr, wr, wr, wr, trivial⟩) ?_
   refine af_of ?_
   refine a_region ?_
   refine rv (v := .int _ _) (v_add il il (fun _ => by omega)) ?_
   refine rm (.int _ _) ?_
   refine r_nil ?_
   have hou : outB vars w (shN vars w A n) (gl A i) = true := (by rw [← hob]; exact ht66)
   refine ⟨i + 1, ent_look ⟨wr, wr, wr, wr, Weak.osl (by rw [gnI_succ hi, if_pos hou, codesL_app, icells_append]; rfl) (by rw [gnI_succ hi, if_pos hou]; simp), wr, wr, Weak.of_eq (int_eq (by omega)), trivial⟩, by omega, by omega⟩
  ·
   refine af_skip ?_
   refine af_of ?_
   refine a_region ?_
   refine rv (v := .int _ _) (v_add il il (fun _ => by omega)) ?_
   refine rm (.int _ _) ?_
   refine r_nil ?_
   have hou : ¬ outB vars w (shN vars w A n) (gl A i) = true := (by rw [← hob, ht66]; simp)
   refine ⟨i + 1, ent_look ⟨wr, wr, wr, wr, Weak.osl (by rw [gnI_succ hi, if_neg hou]) (by rw [gnI_succ hi, if_neg hou]), wr, wr, Weak.of_eq (int_eq (by omega)), trivial⟩, by omega, by omega⟩
 ·
  refine af_exit ?_
  refine af_seq ?_
  refine af_seq ?_
  have hie : i = A.length := (by simp at ht45; omega)
  subst hie
  have hgA := hgl A.length
  refine af_of ?_
  refine a_region ?_
  refine rm (.rsl _ _ _ _ _) ?_
  refine rv (v := .int _ _) (v_len_rsl sl25 il) ?_
  refine rv (v := .bool _) (v_eql il il) ?_
  refine r_nil ?_
  refine af_cond rfl (fun ht75 => ?_) (fun ht75 => ?_)
  ·
   refine af_seq ?_
   have hst := gnI_stop (vars := vars) (w := w) (A := A) (n := n) (by simpa using ht75)
   have hf2 := shE_of hAs (by omega) hst
   have hf3 := rdFA_of hAs (by omega) hst
   refine af_freeze (t := 5) (x := .op [.int .i64 vars, .sl (sls L) L.length, .int .i64 w, .sl (sls A) A.length, .osl 1 (blcells (mkB vars.toNat (shN vars w A n) (shN vars w A n).length)) (3 ^ vars.toNat) none, .osl 1 (icells (rdA vars w A n)) (3 ^ vars.toNat) none]) (y := .pp [.int .i64 vars, .sl (sls L) L.length, .int .i64 w, .sl (sls A) A.length, .sl (blcells (mkB vars.toNat (shE vars w A) (shE vars w A).length)) (3 ^ vars.toNat), .sl (icells (rdFA vars w A)) (3 ^ vars.toNat)] 0) rfl (by rw [hf2, hf3]; simp [sh, shL, shL_id _ (ic_pure _).1 (ic_pure _).2, shL_id _ (bl_pure _).1 (bl_pure _).2]) ?_
   refine af_of ?_
   refine a_region ?_
   refine rm (.pp _ _) ?_
   refine ra (.pp _ _) ?_
   refine r_nil ?_
   refine af_ret ?_
   refine ret1 Tryz.results41 (by decide) (by decide) (Weak.of_eq ?_) rfl Leaves.nil
   all_goals rfl
  ·
   refine af_skip ?_
   refine fq ?_
   refine rm (.rsl _ _ _ _ _) ?_
   refine rv (v := .int _ _) (v_len_rsl sl25 il) ?_
   refine rm (.int _ _) ?_
   refine r_nil ?_
   refine af_block ?_
   refine af_loop (X := Nat) (fun j => look [(1, .int .i64 w), (2, .op [.int .i64 vars, .sl (sls L) L.length]), (5, .op [.int .i64 vars, .sl (sls L) L.length, .int .i64 w, .sl (sls A) A.length, .osl 1 (blcells (setAll (mkB vars.toNat (shN vars w A n) (shN vars w A n).length) false ((codesL (gnI vars w A n A.length)).take j))) (3 ^ vars.toNat) none, .osl 1 (icells (setAll (rdA vars w A n) ((n + 1 : Nat) : Int) ((codesL (gnI vars w A n A.length)).take j))) (3 ^ vars.toNat) none]), (6, .int .i64 (((n + 1) : Nat) : Int)), (7, .osl 1 (icells (codesL (gnI vars w A n A.length))) (gnI vars w A n A.length).length none), (77, .rsl (7, []) 1 0 (gnI vars w A n A.length).length none), (78, .int .i64 (((gnI vars w A n A.length).length : Nat) : Int)), (79, .int .i64 ((j : Nat) : Int))]) (fun j => j ≤ (gnI vars w A n A.length).length) (fun j => (gnI vars w A n A.length).length - j) 0 (ent_look ⟨wr, wr, wr, wr, wr, wr, wr, wr, trivial⟩) (Nat.zero_le _) (fun j hG => ?_)
   refine fq ?_
   refine rv (v := .bool _) (v_lss il il) ?_
   refine r_nil ?_
   refine af_seq ?_
   refine af_cond rfl (fun ht80 => ?_) (fun ht80 => ?_)
   ·
    refine af_skip ?_
    refine af_seq ?_
    refine af_block ?_
    refine af_seq ?_
    have hj : j < (gnI vars w A n A.length).length := (by simp at ht80; omega)
    have hgj := codesL_gd hj
    have hcj := codeA_cl (gnI_cl (w := w) hAA n A.length j hj)
    have hjc : j < (codesL (gnI vars w A n A.length)).length := (by rw [codesL_len]; exact hj)
    have hlb : (setAll (mkB vars.toNat (shN vars w A n) (shN vars w A n).length) false ((codesL (gnI vars w A n A.length)).take j)).length = 3 ^ vars.toNat := (by rw [setAll_len]; exact hml)
    have hlr : (setAll (rdA vars w A n) ((n + 1 : Nat) : Int) ((codesL (gnI vars w A n A.length)).take j)).length = 3 ^ vars.toNat := (by rw [setAll_len]; exact hrl)
    have hsb : (setAll (mkB vars.toNat (shN vars w A n) (shN vars w A n).length) false ((codesL (gnI vars w A n A.length)).take (j + 1))) = (setAll (mkB vars.toNat (shN vars w A n) (shN vars w A n).length) false ((codesL (gnI vars w A n A.length)).take j)).set (codeA (gl (gnI vars w A n A.length) j)) false := setAll_take _ _ hjc hgj
    have hsr : (setAll (rdA vars w A n) ((n + 1 : Nat) : Int) ((codesL (gnI vars w A n A.length)).take (j + 1))) = (setAll (rdA vars w A n) ((n + 1 : Nat) : Int) ((codesL (gnI vars w A n A.length)).take j)).set (codeA (gl (gnI vars w A n A.length) j)) ((n + 1 : Nat) : Int) := setAll_take _ _ hjc hgj
    refine af_of ?_
    refine a_region ?_
    refine rv (v := .rp _ _) (v_indexAddr_rsl0 es25 il il (fun _ => by omega)) ?_
    refine rv (v := .int .i64 (((codeA (gl (gnI vars w A n A.length) j)) : Nat) : Int)) ((v_load_rp1 ta3 il rfl (fun _ => by rw [Nat.mul_one]; exact icells_get (gd_get hjc)) rfl).cast (int_eq hgj)) ?_
    refine ra (.int _ _) ?_
    refine r_nil ?_
    refine af_seq ?_
    have hp1 : (codeA (gl (gnI vars w A n A.length) j)) * 1 + 1 ≤ (blcells (setAll (mkB vars.toNat (shN vars w A n) (shN vars w A n).length) false ((codesL (gnI vars w A n A.length)).take j))).length := (by rw [bl_len, hlb]; omega)
    have hs1 : (blcells (setAll (mkB vars.toNat (shN vars w A n) (shN vars w A n).length) false ((codesL (gnI vars w A n A.length)).take j))).set ((codeA (gl (gnI vars w A n A.length) j)) * 1) (.bool false) = blcells ((setAll (mkB vars.toNat (shN vars w A n) (shN vars w A n).length) false ((codesL (gnI vars w A n A.length)).take j)).set (codeA (gl (gnI vars w A n A.length) j)) false) := (by rw [Nat.mul_one, bl_set])
    refine af_of ?_
    refine a_region ?_
    refine rm (.rp _ _) ?_
    refine rv (v := .rp _ _) (v_nilCheck il rfl) ?_
    refine rv (v := .rp _ _) (v_fieldAddr_rp fo66_3 il) ?_
    refine rv (v := .rsl _ _ _ _ _) (v_load_rp (c := .osl _ _ _ _) ta64 il rfl (fun _ => rfl)) ?_
    refine rm (.int _ _) ?_
    refine rv (v := .rp _ _) (v_indexAddr_rsl0 es64 il il (fun _ => by omega)) ?_
    refine r_step rfl (o_store (v := .bool _) (y' := .op [.int _ _, .sl _ _, .int _ _, .sl _ _, .osl _ _ _ _, .osl _ _ _ _]) rfl rfl ta4 il il rfl rfl rfl rfl rfl rfl hp1 (by decide) rfl (congrArg (fun c => AV.op [.int .i64 vars, .sl (sls L) L.length, .int .i64 w, .sl (sls A) A.length, .osl 1 c (3 ^ vars.toNat) none, .osl 1 (icells (setAll (rdA vars w A n) ((n + 1 : Nat) : Int) ((codesL (gnI vars w A n A.length)).take j))) (3 ^ vars.toNat) none]) hs1)) ?_
    refine r_nil ?_
    have hp2 : (codeA (gl (gnI vars w A n A.length) j)) * 1 + 1 ≤ (icells (setAll (rdA vars w A n) ((n + 1 : Nat) : Int) ((codesL (gnI vars w A n A.length)).take j))).length := (by rw [icells_length, hlr]; omega)
    have hs2 : (icells (setAll (rdA vars w A n) ((n + 1 : Nat) : Int) ((codesL (gnI vars w A n A.length)).take j))).set ((codeA (gl (gnI vars w A n A.length) j)) * 1) (.int .i64 ((n + 1 : Nat) : Int)) = icells ((setAll (rdA vars w A n) ((n + 1 : Nat) : Int) ((codesL (gnI vars w A n A.length)).take j)).set (codeA (gl (gnI vars w A n A.length) j)) ((n + 1 : Nat) : Int)) := (by rw [Nat.mul_one, icells_set])
    refine af_of ?_
    refine a_region ?_
    refine rm (.rp _ _) ?_
    refine rv (v := .rp _ _) (v_nilCheck il rfl) ?_
    refine rv (v := .rp _ _) (v_fieldAddr_rp fo66_4 il) ?_
    refine rv (v := .rsl _ _ _ _ _) (v_load_rp (c := .osl _ _ _ _) ta25 il rfl (fun _ => rfl)) ?_
    refine rm (.int _ _) ?_
    refine rm (.int _ _) ?_
    refine rv (v := .rp _ _) (v_indexAddr_rsl0 es25 il il (fun _ => by omega)) ?_
    refine r_step rfl (o_store (v := .int _ _) (y' := .op [.int _ _, .sl _ _, .int _ _, .sl _ _, .osl _ _ _ _, .osl _ _ _ _]) rfl rfl ta3 il il rfl rfl rfl rfl rfl rfl hp2 (by decide) rfl (congrArg (fun c => AV.op [.int .i64 vars, .sl (sls L) L.length, .int .i64 w, .sl (sls A) A.length, .osl 1 (blcells ((setAll (mkB vars.toNat (shN vars w A n) (shN vars w A n).length) false ((codesL (gnI vars w A n A.length)).take j)).set (codeA (gl (gnI vars w A n A.length) j)) false)) (3 ^ vars.toNat) none, .osl 1 c (3 ^ vars.toNat) none]) hs2)) ?_
    refine r_nil ?_
    have hje : True := trivial
    refine af_of ?_
    refine a_region ?_
    refine rv (v := .int _ _) (v_add il il (fun _ => by omega)) ?_
    refine rm (.int _ _) ?_
    refine r_nil ?_
    refine ⟨j + 1, ent_look ⟨wr, wr, Weak.of_eq (by rw [hsb, hsr]; rfl), wr, wr, wr, wr, Weak.of_eq (int_eq (by omega)), trivial⟩, by omega, by omega⟩
   ·
    refine af_exit ?_
    refine af_of ?_
    refine a_region ?_
    refine rm (.int _ _) ?_
    refine rv (v := .int _ _) (v_add il il (fun _ => by omega)) ?_
    refine ra (.int _ _) ?_
    refine r_nil ?_
    obtain ⟨b, hb⟩ := gnI_go (n := n) (by simpa using ht75)
    have hlt := out_less hAs hb
    refine ⟨n + 1, ent_look ⟨wr, wr, Weak.of_eq (by have hje : List.take j (codesL (gnI vars w A n A.length)) = (codesL (gnI vars w A n A.length)) := List.take_of_length_le (by rw [codesL_len]; simp at ht80; omega); rw [← isA_next hAA n, hje]; rfl), Weak.of_eq (int_eq (by push_cast; omega)), trivial⟩, by omega, by omega⟩
end Go.Av
namespace Go.Av
open Go
def mvC (l : List (List Int)) (i : Nat) : List AV := List.replicate i .undef ++ osls (l.drop i)
theorem mvC_zero (l : List (List Int)) : mvC l 0 = osls l := by simp [mvC]
theorem mvC_get {l : List (List Int)} {i : Nat} (h : i < l.length) : (mvC l i)[i]? = some (.osl 1 (icells (gl l i)) (gl l i).length none) := by
  unfold mvC
  rw [List.getElem?_append_right (by simp), List.length_replicate, Nat.sub_self, drop_gl h]; rfl
theorem mvC_set {l : List (List Int)} {i : Nat} (h : i < l.length) : (mvC l i).set i .undef = mvC l (i + 1) := by
  unfold mvC
  rw [List.set_append_right _ _ (by simp), List.length_replicate, Nat.sub_self, drop_gl h, List.replicate_succ', List.append_assoc]
  rfl
theorem mvC_len {l : List (List Int)} {i : Nat} (h : i ≤ l.length) : (mvC l i).length = l.length := by
  unfold mvC
  rw [List.length_append, List.length_replicate, osls_length, List.length_drop]; omega
theorem mvC_noRef (l : List (List Int)) (i : Nat) : noRefL (mvC l i) = true := by
  unfold mvC
  induction i with
  | zero => simp [osls_noRef]
  | succ i ih =>
    have h2 : ∀ n, noRefL (List.replicate n AV.undef ++ osls (l.drop (i + 1))) = true := fun n => by
      induction n with
      | zero => simp [osls_noRef]
      | succ n ih => rw [List.replicate_succ, List.cons_append, noRefL, ih]; rfl
    exact h2 _
theorem WeakL.set : ∀ (cs : List AV) (i : Nat), WeakL cs (cs.set i .undef)
  | [], _ => trivial
  | c :: cs, 0 => ⟨Weak.undef, WeakL.refl⟩
  | c :: cs, i + 1 => ⟨Weak.rfl, WeakL.set cs i⟩
theorem mvC_weak {l : List (List Int)} {i n : Nat} {cap : Option Nat} (h : i < l.length) : Weak (.osl 1 (mvC l i) n cap) (.osl 1 (mvC l (i + 1)) n none) :=
  Weak.oslL (by rw [← mvC_set h]; exact WeakL.set _ _) (mvC_noRef _ _) rfl
theorem mvC_node {l : List (List Int)} {i n : Nat} {cap : Option Nat} (h : i < l.length) : node (.osl 1 (mvC l i) n cap) [i] = some (.osl 1 (icells (gl l i)) (gl l i).length none) := by
  show (match (mvC l i)[i]? with | some y => node y [] | none => none) = _
  rw [mvC_get h]; rfl
theorem mvC_hole {l : List (List Int)} {i n : Nat} {cap : Option Nat} (h : i < l.length) : setNode (.osl 1 (mvC l i) n cap) [i] .undef = .osl 1 (mvC l (i + 1)) n cap := by
  simp [setNode, kids, setKids, mvC_get h, mvC_set h]
theorem alB_sub {L : List (List Int)} {w : Int} {a s : List Int} (hs : s.Sublist a) (h : Strict a) (ha : alB L w a = true) : alB L w s = true := by
  unfold alB at ha ⊢
  rw [Bool.and_eq_true, decide_eq_true_iff] at ha ⊢
  refine ⟨by have := hs.length_le; omega, ?_⟩
  have h2 := ha.2
  rw [Bool.not_eq_true', List.any_eq_false] at h2 ⊢
  intro i hi hc
  refine h2 i hi ?_
  unfold alC at hc ⊢
  rw [Bool.and_eq_true, decide_eq_true_iff, decide_eq_true_iff] at hc ⊢
  refine ⟨hc.1, ?_⟩
  have h3 := hc.2
  unfold cval at h3 ⊢
  by_cases h4 : ((gl L i).any fun l => decide (l ∈ s)) = true
  · rw [if_pos h4] at h3; omega
  rw [if_neg h4] at h3
  by_cases h5 : ((gl L i).all fun l => decide (-l ∈ s)) = true
  · have hall : ∀ l ∈ gl L i, -l ∈ s := fun l hl => by simpa using List.all_eq_true.1 h5 l hl
    rw [if_neg, if_pos]
    · omega
    · refine List.all_eq_true.2 fun l hl => ?_
      simp [hs.subset (hall l hl)]
    · intro h6
      obtain ⟨l, hl, hm⟩ := List.any_eq_true.1 h6
      simp only [decide_eq_true_eq] at hm
      have h7 := hs.subset (hall l hl)
      have hne : l ≠ -l ∨ l = 0 := by omega
      obtain ⟨i1, g1, e1⟩ := List.mem_iff_getElem.1 hm
      obtain ⟨i2, g2, e2⟩ := List.mem_iff_getElem.1 h7
      have hp := List.pairwise_iff_getElem.1 h
      rcases Nat.lt_trichotomy i1 i2 with h8 | h8 | h8
      · have := hp i1 i2 g1 g2 h8; rw [e1, e2, vr_neg] at this; omega
      · subst h8
        rw [e1] at e2
        have hl0 : l = 0 := by omega
        subst hl0
        exact h4 (List.any_eq_true.2 ⟨0, hl, by simpa using hall 0 hl⟩)
      · have := hp i2 i1 g2 g1 h8; rw [e1, e2, vr_neg] at this; omega
  · rw [if_neg h5] at h3; omega
theorem gl_small {vars : Int} {o : List (List Int)} (h : ∀ x ∈ o, clB vars x = true) (j : Nat) : (gl o j).length ≤ 1048576 := by
  rcases Nat.lt_or_ge j o.length with h1 | h1
  · have := clB_len (h _ (gl_mem h1)); omega
  · have e : gl o j = [] := by unfold gl; rw [List.getElem?_eq_none h1]; rfl
    rw [e]; simp
def IsAlw (vars w : Int) (L A : List (List Int)) : Prop := ∀ b, b ∈ A ↔ clB vars b = true ∧ alB L w b = true
theorem less_cl {vars : Int} {a : List Int} (h : clB vars a = true) (k : Nat) : clB vars (lessA a k) = true := wo_cl h _
theorem IsAlw.less {vars w : Int} {L A : List (List Int)} {a : List Int} (h : IsAlw vars w L A) (ha : a ∈ A) (k : Nat) : lessA a k ∈ A := by
  obtain ⟨h1, h2⟩ := (h a).1 ha
  exact (h _).2 ⟨less_cl h1 k, alB_sub List.filter_sublist (clB_strict h1) h2⟩
def gnB (vars w : Int) (A : List (List Int)) (r : Int) (a : List Int) : Bool := decide (rdE vars w A a > 0) && decide (rdE vars w A a < r)
theorem erl_in {vars w : Int} {A : List (List Int)} {r : Int} {a : List Int} (h : a ∈ A) : erl vars w A r a = gnB vars w A r a := by
  have := rdE_bd vars w A a
  unfold erl gnB
  rw [rnR_in h, decide_eq_false (show ¬ rdE vars w A a < 0 by omega)]; rfl
theorem erl_out {vars w : Int} {A : List (List Int)} {r : Int} {a : List Int} (h : ¬ a ∈ A) : erl vars w A r a = true := by
  unfold erl
  rw [rnR_out h]; rfl
def shwL (vars w : Int) (A : List (List Int)) (r : Int) (l : List (List Int)) (i : Nat) : List (List Int) := (l.take i).filter fun b => decide (b ∈ A) && gnB vars w A r b
def shwB (vars w : Int) (A : List (List Int)) (r : Int) (l : List (List Int)) (i : Nat) : Bool := (l.take i).all fun b => erl vars w A r b
section
variable {vars w : Int} {A : List (List Int)} {r : Int} {l : List (List Int)} {i : Nat}
theorem shw_zero : shwL vars w A r l 0 = [] ∧ shwB vars w A r l 0 = true := ⟨by simp [shwL], by simp [shwB]⟩
theorem shw_no (h : i < l.length) (hb : ¬ gl l i ∈ A) : shwL vars w A r l (i + 1) = shwL vars w A r l i ∧ shwB vars w A r l (i + 1) = shwB vars w A r l i := by
  unfold shwL shwB
  rw [take_gl h, List.filter_append, List.all_append]
  simp [hb, erl_out hb]
theorem shw_yes (h : i < l.length) (hb : gl l i ∈ A) (hg : gnB vars w A r (gl l i) = true) : shwL vars w A r l (i + 1) = shwL vars w A r l i ++ [gl l i] ∧ shwB vars w A r l (i + 1) = shwB vars w A r l i := by
  unfold shwL shwB
  rw [take_gl h, List.filter_append, List.all_append]
  simp [hb, hg, erl_in hb]
theorem shw_bad (h : i < l.length) (hb : gl l i ∈ A) (hg : gnB vars w A r (gl l i) = false) : shwL vars w A r l (i + 1) = shwL vars w A r l i ∧ shwB vars w A r l (i + 1) = false := by
  unfold shwL shwB
  rw [take_gl h, List.filter_append, List.all_append]
  simp [hb, hg, erl_in hb]
theorem shwL_len : (shwL vars w A r l i).length ≤ l.length := by
  unfold shwL
  refine Nat.le_trans (List.length_filter_le _ _) ?_
  simp; omega
theorem shw_two {a : List Int} {v : Int} : shwB vars w A r [putL a v, putL a (-v)] 2 = bothA vars w A r a v := by simp [shwB, bothA]
theorem shw_in (h : shwB vars w A r l l.length = true) : shwL vars w A r l l.length = inA A l := by
  unfold shwB at h
  unfold shwL inA
  rw [List.take_length] at h ⊢
  refine List.filter_congr fun b hb => ?_
  have h1 := List.all_eq_true.1 h b hb
  by_cases hm : b ∈ A
  · rw [erl_in hm] at h1; simp [hm, h1]
  · simp [hm]
theorem whyR_show {L : List (List Int)} {a : List Int} {k : Nat} (hA : IsAlw vars w L A) (h0 : fndA vars w A r a = none) (hk : k < (opensL vars a).length) (h1 : shwB vars w A r [putL a (gd (opensL vars a) k), putL a (-(gd (opensL vars a) k))] 2 = true)
    (h2 : ∀ j, j < k → bothA vars w A r a (gd (opensL vars a) j) = false) : shwL vars w A r [putL a (gd (opensL vars a) k), putL a (-(gd (opensL vars a) k))] 2 = whyR vars w A r a := by
  have e : shwL vars w A r [putL a (gd (opensL vars a) k), putL a (-(gd (opensL vars a) k))] 2 = inA A [putL a (gd (opensL vars a) k), putL a (-(gd (opensL vars a) k))] := shw_in h1
  rw [e]
  by_cases hl : (a.length : Int) ≤ w
  · exact (whyR_v h0 hl (fndV_ix hk (by rw [← shw_two]; exact h1) h2)).symm
  · rw [whyR_0 h0 (fun h => absurd h hl)]
    have hno : ∀ x, ¬ putL a x ∈ A := fun x hx => by
      have h3 := ((hA _).1 hx).2
      unfold alB at h3
      rw [Bool.and_eq_true, decide_eq_true_iff, putL_length] at h3
      have := h3.1
      omega
    unfold inA
    rw [List.filter_eq_nil_iff]
    intro b hb
    simp only [List.mem_cons, List.not_mem_nil, or_false] at hb
    rcases hb with rfl | rfl <;> simp [hno]
end
end Go.Av
namespace Go.Av
open Go
section
variable {P : Program} {N : Nat} {σ : Sig} {o : Oper} {d : Nat}
theorem o_sliceLit2 {t x y s1 n1 s2 n2 : Nat} {k1 k2 : Option Nat} {c1 c2 zs : List AV} (ho : o.op = sliceLit t 2 [(0, .tmp x), (1, .tmp y)]) (h : litTy P t = some (1, zs)) (hd : o.dst = some d) (hN : d < N) (hxN : x < N) (hyN : y < N)
    (hxy : x ≠ y) (hx : σ x = .osl s1 c1 n1 k1) (hy : σ y = .osl s2 c2 n2 k2) (hn : noRef (.osl s1 c1 n1 k1) = true) (hn2 : noRef (.osl s2 c2 n2 k2) = true) :
    OStep P N o σ (upd (fun i => purgeV d (upd (upd σ x .undef) y .undef i)) d (.osl 1 [.osl s1 c1 n1 k1, .osl s2 c2 n2 k2] 2 (some 2))) := by
  intro gv e a w ⟨hdf, hsz, β, F, hi⟩ K Q hK
  obtain ⟨el, arr0, harr, hrun⟩ := run_lit h (n := 2) (by decide)
  obtain ⟨hi1, hd1⟩ := hi.detach_slot (t := x) (by rw [hx]; rfl)
  rw [hx] at hd1
  have hx1 : upd σ x .undef y = .osl s2 c2 n2 k2 := by rw [upd_other _ _ (Ne.symm hxy)]; exact hy
  obtain ⟨hi2, hd2⟩ := hi1.detach_slot (t := y) (by rw [hx1]; rfl)
  have hd1' := hd1.fewer (σ' := upd (upd σ x .undef) y .undef) (fun q hq => by
    by_cases hi : q.1 = y
    · obtain ⟨z, hz, hoz⟩ := hq
      rw [hi, upd_same] at hz
      cases hr : q.2 with
      | nil => rw [hr] at hz; simp [node] at hz; subst hz; simp [AV.isOwn] at hoz
      | cons j r => rw [hr] at hz; simp [node, kids] at hz
    · exact (own_upd_other hi).1 hq)
  rw [hx1] at hd2
  have hv : valOf N gv a x = a.eval (.tmp x) := by simp [valOf, hxN, Act.eval]
  have hv2 : valOf N gv a y = a.eval (.tmp y) := by simp [valOf, hyN, Act.eval]
  rw [hv] at hd1 hd1'
  rw [hv2] at hd2
  have hha : ∀ r r' y1 y2 b s' s'', node (.osl s1 c1 n1 k1) r = some y1 → y1.isOwn = true → node (.osl s2 c2 n2 k2) r' = some y2 → y2.isOwn = true → β (x, r) = some (b, s') → β (y, r') ≠ some (b, s'') := by
    intro r r' y1 y2 b s' s'' hy1 ho' hy' ho'' hb'
    exact (hd1.sep r y1 b s' hy1 ho' hb').2.2 (y, r') s'' ⟨y2, by show node (upd σ x .undef y) r' = _; rw [hx1]; exact hy', ho''⟩
  have sl : ∀ {s : Nat} {cs : List AV} {n : Nat} {cap : Option Nat} {u : Value} {δ : List Nat → Option (Nat × Nat)} {σ : Sig}, Det e σ w β F (.osl s cs n cap) u δ → ∃ ob capv, u = .slice ob n capv := by
    intro s cs n cap u δ σ h
    have := h.rep
    simp only [Rep] at this
    rcases this with ⟨_, ⟨ob, h⟩, _, hn, _⟩ | ⟨_, b, capv, arr, t, _, h, _⟩
    · exact ⟨ob, 0, by rw [hn]; exact h⟩
    · exact ⟨_, capv, h⟩
  obtain ⟨b1, v1, e1⟩ := sl hd1
  obtain ⟨b2, v2, e2⟩ := sl hd2
  have hs1 := hd1'.single hn
  have hs2 := hd2.single hn2
  have hb := hs1.both hs2 (fun r r' y1 y2 b s s' h1 g1 h2 g2 h3 => by
    cases r with
    | nil => simp [node] at h1; subst h1; simp [AV.isOwn] at g1
    | cons j r =>
      cases r' with
      | nil => simp [node] at h2; subst h2; simp [AV.isOwn] at g2
      | cons j' r' =>
        simp only [node, kids] at h1 h2
        cases j with
        | succ j => simp at h1
        | zero =>
          cases j' with
          | succ j' => simp at h2
          | zero =>
            simp at h1 h2
            exact hha r r' y1 y2 b s s' h1 g1 h2 g2 h3)
  have h0 : arr0.size = 2 := by
    have := (harr β F w).1
    rw [this, rep_length]
    obtain ⟨_, _, z, _, _, _, _, hzs, hz⟩ := litTy_spec h
    rw [hz]; simp [hzs]
  have hfill : Instr.fill (fun i => some (i * 1, 1)) arr0 [(0, a.eval (.tmp x)), (1, a.eval (.tmp y))] = some #[a.eval (.tmp x), a.eval (.tmp y)] := by
    rw [e1, e2]
    have hc : ∀ (ob : Option Addr) (n c : Nat), (Value.slice ob n c).cells = #[.slice ob n c] := fun _ _ _ => rfl
    simp only [Instr.fill, hc]
    simp [h0]
    refine Array.ext_getElem? fun i => ?_
    match i with
    | 0 => simp [Array.getElem?_setIfInBounds, h0]
    | 1 => simp [Array.getElem?_setIfInBounds, h0]
    | i + 2 => rw [Array.getElem?_eq_none (by simp [h0]), Array.getElem?_eq_none (by simp)]
  have hr' := hrun #[(0, a.eval (.tmp x)), (1, a.eval (.tmp y))] _ w (by simpa using hfill)
  obtain ⟨β', h'⟩ := hi2.new_osl_det hb (by simp only [List.cons_append, List.nil_append, noRefL, hn, hn2, Bool.and_self]) el d (arr := #[a.eval (.tmp x), a.eval (.tmp y)]) (sz := 1) (n := 2) (capv := 2) (cap := some 2) (fun j x hx => by simpa using hx) (by simp) (Nat.le_refl _) (fun c hc => by cases hc; rfl)
  refine wp_value (v := .slice (some ⟨w.heap.size, 0, none⟩) 2 2) (w' := w.alloc (.cells #[a.eval (.tmp x), a.eval (.tmp y)] el)) ?_ (hK _ _ ⟨?_, ?_, β', F, ?_⟩)
  · simp only [execOp, ho, sliceLit, List.map_toArray, List.map_cons, List.map_nil, hr', Sem.run_bind, Sem.run_pure, Result.andThen_ok]
  · rw [hd]; exact hdf
  · rw [hd, size_put]; exact hsz
  · rw [hd, valOf_put hsz hN]; exact h'
end
end Go.Av
namespace Go.Av
open Go
theorem snap_row {σ : Sig} {q : Place} {n : Nat} {cs : List AV} (h : node (σ q.1) q.2 = some (.osl 1 cs n none)) (hp : pureL cs = true ∧ noNilL cs = true) : snapV σ (.rsl q 1 0 n none) = .sl cs n := by
 simp only [snapV, blk, h, List.drop_zero, shL_id cs hp.1 hp.2]
end Go.Av
namespace Go.Av
open Go Go.Proofs Go.Sort
theorem fo66_0 : fieldOff Tryz.prog 66 0 = some 0 := by kernel_rfl
theorem fo66_1 : fieldOff Tryz.prog 66 1 = some 2 := by kernel_rfl
theorem hb92 : hasBody Tryz.prog 92 = true := by kernel_rfl
theorem gone_c (vars w : Int) (L A : List (List Int)) (hv : 0 ≤ vars ∧ vars ≤ 12) (hAA : AllA vars A) (a : List Int) (hca : clB vars a = true) (r : Int) : ACall Tryz.prog 92 [.pp [.int .i64 vars, .sl (sls L) L.length, .int .i64 w, .sl (sls A) A.length, .sl (blcells (mkB vars.toNat (shE vars w A) (shE vars w A).length)) (3 ^ vars.toNat), .sl (icells (rdFA vars w A)) (3 ^ vars.toNat)] 0, .sl (icells a) a.length, .int .i64 r] [] (.bool (gnB vars w A r a)) [] := by
 have hlt := codeA_cl hca
 have hrl := rdA_len (vars := vars) (w := w) (A := A) 1000
 have hrf : (rdFA vars w A).length = 3 ^ vars.toNat := hrl
 have hp3 := pow3_bd (k := vars.toNat) (by omega)
 refine ACall.intro Tryz.func92 rfl (N := 23) rfl (by decide) (by simp) ?_
 refine aq ?_
 refine ra (.bool _) ?_
 refine r_nil ?_
 refine a_seq ?_
 refine a_region_any mixed (by kernel_rfl) ?_
 refine yv (v := .pp _ _) (v_move il nf) ?_
 refine yv (v := .pp _ _) (v_nilCheck il rfl) ?_
 refine yv (v := .pp _ _) (v_fieldAddr_pp fo66_4 il) ?_
 refine yv (v := .sl _ _) (v_load_pp ta25 il (fun _ => rfl) rfl) ?_
 refine yv (v := .sl _ _) (v_move il nf) ?_
 refine y_new (v := .int _ _) (q_call (vs := [.sl _ _]) (args := [.sl _ _]) hb42 ⟨.inl rfl, trivial⟩ rfl (fun hA => codeOf_c vars a hca) rfl rfl) rfl rfl (by decide) (by kernel_rfl) ?_
 refine yv (v := .pp _ _) (v_indexAddr_sl es25 il il (fun _ => ⟨by omega, by omega, icells_ne (i := codeA a) (by omega)⟩)) ?_
 refine yv (v := .int .i64 (rdE vars w A a)) (v_load_pp ta3 il (fun _ => by rw [Nat.mul_one, ← rdFA_gd hAA hca]; exact icells_get (gd_get (by omega))) rfl) ?_
 refine yv (v := .int _ _) (v_assign il nf) ?_
 refine y_nil ?_
 refine aq ?_
 refine rm (.int _ _) ?_
 refine rv (v := .bool _) (v_gtr il il) ?_
 refine rm (.bool _) ?_
 refine rg (v := .int _ _) (v_move il nf) ?_
 refine rg (v := .int _ _) (v_move il nf) ?_
 refine r_gval (v := .bool _) (v_lss (.inr ⟨_, rfl, fun h => h⟩) (.inr ⟨_, rfl, fun h => h⟩)) rfl rfl rfl (by decide) (.inl ⟨_, rfl, rfl⟩) rfl (by decide) ?_
 refine rv (v := .bool _) (v_pick (.inl rfl) (.inr ⟨_, rfl, fun h h2 => by simp_all⟩) (.inl rfl)) ?_
 refine ra (.bool _) ?_
 refine r_nil ?_
 refine a_ret ?_
 refine ret1 Tryz.results92 (by decide) (by decide) (Weak.of_eq (bool_eq ?_)) rfl Leaves.nil
 unfold gnB; cases decide ((rdE vars w A a) > 0) <;> simp_all
theorem reas_c (vars : Int) (L : List (List Int)) (w : Int) (hcl : ∀ i, i < L.length → clB vars (gl L i) = true) (hL : L.length ≤ 1048576) (hw : 0 ≤ w ∧ w ≤ 6) (A : List (List Int)) (hv6 : 0 ≤ vars ∧ vars ≤ 6) (hAw : IsAlw vars w L A) (hAA : AllA vars A) (a : List Int) (haA : a ∈ A) : ACall Tryz.prog 44 [.pp [.int .i64 vars, .sl (sls L) L.length, .int .i64 w, .sl (sls A) A.length, .sl (blcells (mkB vars.toNat (shE vars w A) (shE vars w A).length)) (3 ^ vars.toNat), .sl (icells (rdFA vars w A)) (3 ^ vars.toNat)] 0, .sl (icells a) a.length] [] (.osl 1 (osls (whyR vars w A (rdE vars w A a) a)) (whyR vars w A (rdE vars w A a) a).length none) [] := by
 have hca := ((hAw a).1 haA).1
 have hla := clB_len hca
 have hst := clB_strict hca
 have hlt := codeA_cl hca
 have hrf : (rdFA vars w A).length = 3 ^ vars.toNat := rdA_len (vars := vars) (w := w) (A := A) 1000
 have hp3 := pow3_bd (k := vars.toNat) (by omega)
 have hvL := opens_len (vars := vars) (by omega) a
 have hrb := rdE_bd vars w A a
 refine ACall.intro Tryz.func44 rfl (N := 87) rfl (by decide) (by simp) ?_
 refine aq ?_
 refine ra .nils ?_
 refine r_nil ?_
 refine a_seq ?_
 refine a_region_any mixed (by kernel_rfl) ?_
 refine yv (v := .pp _ _) (v_move il nf) ?_
 refine yv (v := .pp _ _) (v_nilCheck il rfl) ?_
 refine yv (v := .pp _ _) (v_fieldAddr_pp fo66_4 il) ?_
 refine yv (v := .sl _ _) (v_load_pp ta25 il (fun _ => rfl) rfl) ?_
 refine yv (v := .sl _ _) (v_move il nf) ?_
 refine y_new (v := .int _ _) (q_call (vs := [.sl _ _]) (args := [.sl _ _]) hb42 ⟨.inl rfl, trivial⟩ rfl (fun hA => codeOf_c vars a hca) rfl rfl) rfl rfl (by decide) (by kernel_rfl) ?_
 refine yv (v := .pp _ _) (v_indexAddr_sl es25 il il (fun _ => ⟨by omega, by omega, icells_ne (i := codeA a) (by omega)⟩)) ?_
 refine yv (v := .int .i64 (rdE vars w A a)) (v_load_pp ta3 il (fun _ => by rw [Nat.mul_one, ← rdFA_gd hAA hca]; exact icells_get (gd_get (by omega))) rfl) ?_
 refine yv (v := .int _ _) (v_assign il nf) ?_
 refine y_nil ?_
 refine a_seq ?_
 refine aq ?_
 refine rm (.sl _ _) ?_
 refine rv (v := .int _ _) (v_len_sl sl25 il) ?_
 refine rm (.int _ _) ?_
 refine r_nil ?_
 refine a_block ?_
 refine a_loop (X := Nat) (fun i => look [(0, .pp [.int .i64 vars, .sl (sls L) L.length, .int .i64 w, .sl (sls A) A.length, .sl (blcells (mkB vars.toNat (shE vars w A) (shE vars w A).length)) (3 ^ vars.toNat), .sl (icells (rdFA vars w A)) (3 ^ vars.toNat)] 0), (1, .sl (icells a) a.length), (5, .int .i64 (rdE vars w A a)), (23, .int .i64 ((a.length : Nat) : Int)), (24, .int .i64 ((i : Nat) : Int))]) (fun i => i ≤ a.length ∧ ∀ j, j < i → erl vars w A (rdE vars w A a) (lessA a j) = false) (fun i => a.length - i) 0 (ent_look ⟨wr, wr, wr, wr, wr, trivial⟩) ⟨Nat.zero_le _, fun j h => by omega⟩ (fun i hG => ?_)
 obtain ⟨g1, g2⟩ := hG
 refine aq ?_
 refine rv (v := .bool _) (v_lss il il) ?_
 refine r_nil ?_
 refine a_seq ?_
 refine a_cond rfl (fun ht25 => ?_) (fun ht25 => ?_)
 ·
  refine a_skip ?_
  refine a_seq ?_
  refine a_block ?_
  refine a_seq ?_
  have hi : i < a.length := (by simp at ht25; omega)
  have hle := hAw.less haA i
  refine a_region ?_
  refine rm (.int _ _) ?_
  refine ra (.int _ _) ?_
  refine r_nil ?_
  refine aq ?_
  refine rm (.sl _ _) ?_
  refine rm (.int _ _) ?_
  refine rn (v := .osl 1 (icells (lessA a i)) (lessA a i).length none) (QSem.cast (q_call (vs := [.sl _ _, .int _ _]) (args := [.sl _ _, .int .i64 _]) hb91 ⟨il, il, trivial⟩ rfl (fun hA => without_c a i hi (by omega)) (ic_noSh _) (ic_noRef _)) (osl_eq2 (by rw [erase_wo hst hi]; rfl) (by unfold lessA; rw [← erase_wo hst hi, List.length_eraseIdx_of_lt hi]))) ?_
  refine ra (.rsl _ _ _ _ _) ?_
  refine r_pre (ent_reloc_sl (t := 7) rfl rfl) ?_
  refine r_nil ?_
  refine aq ?_
  refine rm (.pp _ _) ?_
  refine rm (.rsl _ _ _ _ _) ?_
  refine rm (.int _ _) ?_
  refine rn (v := .bool _) (q_call (vs := [.pp _ _, .rsl _ _ _ _ _, .int _ _]) (args := [.pp _ _, .sl _ _, .int .i64 _]) hb92 ⟨il, il, il, trivial⟩ (l3_eq rfl (sl_sh (ic_pure _)) rfl) (fun hA => gone_c vars w L A (by omega) hAA (lessA a i) (less_cl hca i) (rdE vars w A a)) rfl rfl) ?_
  refine r_nil ?_
  refine a_cond rfl (fun ht33 => ?_) (fun ht33 => ?_)
  ·
   refine a_seq ?_
   have hW := whyR_a (fndA_some hi (by rw [erl_in hle]; exact ht33) g2)
   rw [inA_one, if_pos hle] at hW
   refine a_region ?_
   refine rm (.rsl _ _ _ _ _) ?_
   refine r_pre (ent_reloc_sl (t := 34) rfl rfl) ?_
   refine r_step rfl (o_sliceLit1 (v := .osl _ _ _ _) rfl lt22 rfl rfl (by decide) (by decide) rfl rfl (by simp [cellsOf, noRefL, noRef, ic_noRef]) rfl rfl) ?_
   refine ra (.rsl _ _ _ _ _) ?_
   refine r_pre (ent_reloc_sl (t := 4) rfl rfl) ?_
   refine r_nil ?_
   refine a_ret ?_
   refine ret1 Tryz.results44 (by decide) (by decide) (Weak.osl ?_ ?_) rfl Leaves.nil
   all_goals (rw [hW]; rfl)
  ·
   refine a_skip ?_
   refine a_region ?_
   refine rv (v := .int _ _) (v_add il il (fun _ => by omega)) ?_
   refine rm (.int _ _) ?_
   refine r_nil ?_
   refine ⟨i + 1, ent_look ⟨wr, wr, wr, wr, Weak.of_eq (int_eq (by omega)), trivial⟩, ⟨by omega, fun j h1 => by rcases Nat.lt_or_ge j i with h | h; exact g2 j h; (obtain rfl : j = i := by omega); rw [erl_in hle]; exact ht33⟩, by omega⟩
 ·
  refine a_exit ?_
  refine a_seq ?_
  refine a_seq ?_
  have hfa := fndA_none (vars := vars) (w := w) (A := A) (r := (rdE vars w A a)) (a := a) fun k hk => g2 k (by simp at ht25; omega)
  refine a_region ?_
  refine rm (.pp _ _) ?_
  refine rv (v := .pp _ _) (v_nilCheck il rfl) ?_
  refine rv (v := .pp _ _) (v_fieldAddr_pp fo66_0 il) ?_
  refine rv (v := .pp _ _) (v_fieldAddr_pp fo29_0 il) ?_
  refine rv (v := .int _ _) (v_load_pp ta3 il (fun _ => rfl) rfl) ?_
  refine rm (.sl _ _) ?_
  refine rn (v := .sl _ _) (QSem.cast (q_callZ (vs := [.int _ _, .sl _ _]) (args := [.int .i64 _, .sl _ _]) hb93 ⟨il, il, trivial⟩ rfl (fun hA => openVars_c vars a (by omega) (by omega)) (ic_noSh _) (ic_noRef _)) (sl_shZ (ic_pure _))) ?_
  refine rv (v := .int _ _) (v_len_sl sl25 il) ?_
  refine rm (.int _ _) ?_
  refine r_nil ?_
  refine a_block ?_
  refine a_loop (X := Nat) (fun k => look [(0, .pp [.int .i64 vars, .sl (sls L) L.length, .int .i64 w, .sl (sls A) A.length, .sl (blcells (mkB vars.toNat (shE vars w A) (shE vars w A).length)) (3 ^ vars.toNat), .sl (icells (rdFA vars w A)) (3 ^ vars.toNat)] 0), (1, .sl (icells a) a.length), (5, .int .i64 (rdE vars w A a)), (43, .sl (icells (opensL vars a)) (opensL vars a).length), (44, .int .i64 (((opensL vars a).length : Nat) : Int)), (45, .int .i64 ((k : Nat) : Int))]) (fun k => k ≤ (opensL vars a).length ∧ ∀ j, j < k → bothA vars w A (rdE vars w A a) a (gd (opensL vars a) j) = false) (fun k => (opensL vars a).length - k) 0 (ent_look ⟨wr, wr, wr, wr, wr, wr, trivial⟩) ⟨Nat.zero_le _, fun j h => by omega⟩ (fun k hG => ?_)
  obtain ⟨k1, k2⟩ := hG
  refine aq ?_
  refine rv (v := .bool _) (v_lss il il) ?_
  refine r_nil ?_
  refine a_seq ?_
  refine a_cond rfl (fun ht46 => ?_) (fun ht46 => ?_)
  ·
   refine a_skip ?_
   refine a_seq ?_
   refine a_block ?_
   refine a_seq ?_
   have hk : k < (opensL vars a).length := (by simp at ht46; omega)
   have hov := opens_gd hk
   have hpc := put_cl hca hov.1 hov.2
   have hop := opB_spec.1 hov.2
   have hs1 : setLit a (gd (opensL vars a) k) = putL a (gd (opensL vars a) k) := set_put hop.1 hop.2
   have hs2 : setLit a (-(gd (opensL vars a) k)) = putL a (-(gd (opensL vars a) k)) := set_put hop.2 (by rw [Int.neg_neg]; exact hop.1)
   have hyc : ∀ b ∈ [putL a (gd (opensL vars a) k), putL a (-(gd (opensL vars a) k))], clB vars b = true := (by intro b hb; simp only [List.mem_cons, List.not_mem_nil, or_false] at hb; rcases hb with h | h <;> rw [h]; exact hpc.1; exact hpc.2)
   refine a_region ?_
   refine rv (v := .pp _ _) (v_indexAddr_sl es25 il il (fun _ => ⟨by omega, by omega, icells_ne hk⟩)) ?_
   refine rv (v := .int .i64 (gd (opensL vars a) k)) (v_load_pp ta3 il (fun _ => by rw [Nat.mul_one]; exact icells_get (gd_get hk)) rfl) ?_
   refine ra (.int _ _) ?_
   refine r_nil ?_
   refine aq ?_
   refine ra .nils ?_
   refine r_nil ?_
   refine aq ?_
   refine ra (.bool _) ?_
   refine r_nil ?_
   refine a_seq ?_
   refine aq ?_
   refine rm (.sl _ _) ?_
   refine rm (.int _ _) ?_
   refine rn (v := .osl 1 (icells (putL a (gd (opensL vars a) k))) (putL a (gd (opensL vars a) k)).length none) (QSem.cast (q_call (vs := [.sl _ _, .int _ _]) (args := [.sl _ _, .int .i64 _]) hb94 ⟨il, il, trivial⟩ rfl (fun hA => set_c vars a (gd (opensL vars a) k) hca (litB_spec.2 (by omega))) (ic_noSh _) (ic_noRef _)) (osl_eq2 (by rw [hs1]) (by rw [hs1]))) ?_
   refine rm (.sl _ _) ?_
   refine rm (.int _ _) ?_
   refine rv (v := .int _ _) (v_neg il (fun _ => by omega)) ?_
   refine rn (v := .osl 1 (icells (putL a (-(gd (opensL vars a) k)))) (putL a (-(gd (opensL vars a) k))).length none) (QSem.cast (q_call (vs := [.sl _ _, .int _ _]) (args := [.sl _ _, .int .i64 _]) hb94 ⟨il, il, trivial⟩ rfl (fun hA => set_c vars a (-(gd (opensL vars a) k)) hca (litB_spec.2 (by omega))) (ic_noSh _) (ic_noRef _)) (osl_eq2 (by rw [hs2]) (by rw [hs2]))) ?_
   refine r_step rfl (o_sliceLit2 rfl lt22 rfl (by decide) (by decide) (by decide) (by decide) rfl rfl (by simp [noRef, ic_noRef]) (by simp [noRef, ic_noRef])) ?_
   refine rv (v := .int _ _) (v_len_rsl sl22 il) ?_
   refine rm (.int _ _) ?_
   refine r_nil ?_
   refine a_block ?_
   refine a_pre (ent_nil (t := 10) (sz := 1) (cap := none) (.inl rfl) (fun _ h => by cases h)) ?_
   refine a_loop (X := Nat) (fun i => look [(0, .pp [.int .i64 vars, .sl (sls L) L.length, .int .i64 w, .sl (sls A) A.length, .sl (blcells (mkB vars.toNat (shE vars w A) (shE vars w A).length)) (3 ^ vars.toNat), .sl (icells (rdFA vars w A)) (3 ^ vars.toNat)] 0), (1, .sl (icells a) a.length), (5, .int .i64 (rdE vars w A a)), (10, .osl 1 (osls (shwL vars w A (rdE vars w A a) [putL a (gd (opensL vars a) k), putL a (-(gd (opensL vars a) k))] i)) (shwL vars w A (rdE vars w A a) [putL a (gd (opensL vars a) k), putL a (-(gd (opensL vars a) k))] i).length none), (11, .bool (shwB vars w A (rdE vars w A a) [putL a (gd (opensL vars a) k), putL a (-(gd (opensL vars a) k))] i)), (43, .sl (icells (opensL vars a)) (opensL vars a).length), (44, .int .i64 (((opensL vars a).length : Nat) : Int)), (45, .int .i64 ((k : Nat) : Int)), (56, .osl 1 (mvC [putL a (gd (opensL vars a) k), putL a (-(gd (opensL vars a) k))] i) 2 none), (57, .int .i64 ((2 : Nat) : Int)), (58, .int .i64 ((i : Nat) : Int))]) (fun i => i ≤ 2) (fun i => 2 - i) 0 (ent_look ⟨wr, wr, wr, Weak.osl (by rw [shw_zero.1]; rfl) (by rw [shw_zero.1]; rfl), Weak.of_eq (by rw [shw_zero.2]; rfl), wr, wr, wr, Weak.osl (by rw [mvC_zero]; rfl) rfl, wr, wr, trivial⟩) (Nat.zero_le _) (fun i hG => ?_)
   refine aq ?_
   refine rv (v := .bool _) (v_lss il il) ?_
   refine r_nil ?_
   refine a_seq ?_
   refine a_cond rfl (fun ht59 => ?_) (fun ht59 => ?_)
   ·
    refine a_skip ?_
    refine a_seq ?_
    refine a_block ?_
    refine a_seq ?_
    have hi : i < [putL a (gd (opensL vars a) k), putL a (-(gd (opensL vars a) k))].length := (by simp at ht59; show i < 2; omega)
    have hi2 : i < 2 := hi
    have hbc := hyc _ (gl_mem hi)
    have hin : alB L w (gl [putL a (gd (opensL vars a) k), putL a (-(gd (opensL vars a) k))] i) = true → (gl [putL a (gd (opensL vars a) k), putL a (-(gd (opensL vars a) k))] i) ∈ A := fun h => (hAw _).2 ⟨hbc, h⟩
    have hml := mvC_len (Nat.le_of_lt hi)
    have hsl := shwL_len (vars := vars) (w := w) (A := A) (r := (rdE vars w A a)) (l := [putL a (gd (opensL vars a) k), putL a (-(gd (opensL vars a) k))]) (i := i)
    simp only [List.length_cons, List.length_nil] at hsl
    refine a_region ?_
    refine rv (v := .rp _ _) (v_indexAddr_rsl0 es22 il il (fun _ => by omega)) ?_
    refine rv (v := .rsl (56, [i]) 1 0 (gl [putL a (gd (opensL vars a) k), putL a (-(gd (opensL vars a) k))] i).length none) ((v_load_rp (c := .osl _ _ _ _) ta25 il rfl (fun _ => by rw [Nat.mul_one]; exact mvC_get hi)).cast ((by show AV.rsl (56, [] ++ [(i : Int).toNat * 1]) 1 0 _ none = _; rw [Nat.mul_one]; rfl))) ?_
    refine ra (.rsl _ _ _ _ _) ?_
    refine r_nil ?_
    refine a_block ?_
    refine a_seq ?_
    refine a_region_any mixed (by kernel_rfl) ?_
    refine yv (v := .pp _ _) (v_move il nf) ?_
    refine yv (v := .pp _ _) (v_nilCheck il rfl) ?_
    refine yv (v := .pp _ _) (v_fieldAddr_pp fo66_0 il) ?_
    refine yv (v := .agg [.int _ _, .sl _ _]) (v_load_ppa1 ta29 il rfl (fun _ => rfl) rfl) ?_
    refine yv (v := .pp _ _) (v_move il nf) ?_
    refine yv (v := .pp _ _) (v_nilCheck il rfl) ?_
    refine yv (v := .pp _ _) (v_fieldAddr_pp fo66_1 il) ?_
    refine yv (v := .int _ _) (v_load_pp ta3 il (fun _ => rfl) rfl) ?_
    refine yv (v := .rsl _ _ _ _ _) (v_move il nf) ?_
    refine y_new (v := .bool _) (q_call (vs := [.agg [.int _ _, .sl _ _], .int _ _, .rsl _ _ _ _ _]) (args := [.agg [.int .i64 _, .sl _ _], .int .i64 _, .sl _ _]) hb40 ⟨.inl rfl, .inl rfl, .inl rfl, trivial⟩ (l3_eq rfl rfl (snap_row (q := (56, [i])) (mvC_node (l := [putL a (gd (opensL vars a) k), putL a (-(gd (opensL vars a) k))]) hi) (ic_pure _))) (fun hA => allowed_c vars L (gl [putL a (gd (opensL vars a) k), putL a (-(gd (opensL vars a) k))] i) w hcl hL (by have := clB_len hbc; omega) hw) rfl rfl) rfl rfl (by decide) (by kernel_rfl) ?_
    refine yv (v := .bool _) (v_not il) ?_
    refine yv (v := .bool _) (v_assign il nf) ?_
    refine y_nil ?_
    refine a_cond rfl (fun ht62 => ?_) (fun ht62 => ?_)
    ·
     refine a_skip ?_
     refine a_region ?_
     refine rv (v := .int _ _) (v_add il il (fun _ => by omega)) ?_
     refine rm (.int _ _) ?_
     refine r_nil ?_
     have hsw := shw_no (vars := vars) (w := w) (A := A) (r := (rdE vars w A a)) hi (fun h => by have h9 := ((hAw _).1 h).2; simp [h9] at ht62)
     refine ⟨i + 1, ent_look ⟨wr, wr, wr, Weak.osl (by rw [hsw.1]) (by rw [hsw.1]), Weak.of_eq (by rw [hsw.2]; rfl), wr, wr, wr, mvC_weak hi, wr, Weak.of_eq (int_eq (by omega)), trivial⟩, by omega, by omega⟩
    ·
     refine aq ?_
     refine rm (.pp _ _) ?_
     refine rm (.rsl _ _ _ _ _) ?_
     refine rm (.int _ _) ?_
     refine rn (v := .bool _) (q_call (vs := [.pp _ _, .rsl _ _ _ _ _, .int _ _]) (args := [.pp _ _, .sl _ _, .int .i64 _]) hb92 ⟨il, il, il, trivial⟩ (l3_eq rfl (snap_row (q := (56, [i])) (mvC_node (l := [putL a (gd (opensL vars a) k), putL a (-(gd (opensL vars a) k))]) hi) (ic_pure _)) rfl) (fun hA => gone_c vars w L A (by omega) hAA (gl [putL a (gd (opensL vars a) k), putL a (-(gd (opensL vars a) k))] i) hbc (rdE vars w A a)) rfl rfl) ?_
     refine ra (.bool _) ?_
     refine r_nil ?_
     refine a_cond rfl (fun ht74 => ?_) (fun ht74 => ?_)
     ·
      refine a_region ?_
      refine rm (.rsl _ _ _ _ _) ?_
      refine rm (.rsl _ _ _ _ _) ?_
      refine r_pre (ent_reloc_sl (t := 80) (q := (56, [i])) rfl (mvC_node (l := [putL a (gd (opensL vars a) k), putL a (-(gd (opensL vars a) k))]) hi)) ?_
      refine r_pre (ent_eq (t := 56) (v' := .osl 1 (mvC [putL a (gd (opensL vars a) k), putL a (-(gd (opensL vars a) k))] (i + 1)) 2 none) (Weak.of_eq (by show purgeV 80 (setNode (.osl 1 (mvC [putL a (gd (opensL vars a) k), putL a (-(gd (opensL vars a) k))] i) 2 none) [i] .undef) = _; rw [mvC_hole hi]; rfl))) ?_
      refine r_step rfl (o_sliceLit1 (v := .osl _ _ _ _) rfl lt22 rfl rfl (by decide) (by decide) rfl rfl (by simp [cellsOf, noRefL, noRef, ic_noRef]) rfl rfl) ?_
      refine r_pre (ent_reloc_sl (t := 79) rfl rfl) ?_
      refine r_step rfl (o_append_own rfl ap22 rfl (by decide) (by decide) (by decide) (by decide) rfl rfl rfl (by rw [osls_length]; omega) rfl (by omega)) ?_
      refine ra (.rsl _ _ _ _ _) ?_
      refine r_pre (ent_reloc_sl (t := 10) rfl rfl) ?_
      refine r_nil ?_
      refine a_pre (ent_look (L := [(0, .pp _ _), (1, .sl _ _), (5, .int _ _), (10, .osl _ _ _ _), (11, .bool _), (43, .sl _ _), (44, .int _ _), (45, .int _ _), (56, .osl _ _ _ _), (57, .int _ _), (58, .int _ _)]) ⟨wr, wr, wr, wr, wr, wr, wr, wr, wr, wr, wr, trivial⟩) ?_
      refine a_region ?_
      refine rv (v := .int _ _) (v_add il il (fun _ => by omega)) ?_
      refine rm (.int _ _) ?_
      refine r_nil ?_
      have hsw := shw_yes (vars := vars) (w := w) (r := (rdE vars w A a)) hi (hin (by simpa using ht62)) ht74
      refine ⟨i + 1, ent_look ⟨wr, wr, wr, Weak.osl (by rw [hsw.1, osls_append]; rfl) (by rw [hsw.1]; simp), Weak.of_eq (by rw [hsw.2]; rfl), wr, wr, wr, wr, wr, Weak.of_eq (int_eq (by omega)), trivial⟩, by omega, by omega⟩
     ·
      refine a_region ?_
      refine ra (.bool _) ?_
      refine r_nil ?_
      refine a_region ?_
      refine rv (v := .int _ _) (v_add il il (fun _ => by omega)) ?_
      refine rm (.int _ _) ?_
      refine r_nil ?_
      have hsw := shw_bad (vars := vars) (w := w) (r := (rdE vars w A a)) hi (hin (by simpa using ht62)) ht74
      refine ⟨i + 1, ent_look ⟨wr, wr, wr, Weak.osl (by rw [hsw.1]) (by rw [hsw.1]), Weak.of_eq (by rw [hsw.2]; rfl), wr, wr, wr, mvC_weak hi, wr, Weak.of_eq (int_eq (by omega)), trivial⟩, by omega, by omega⟩
   ·
    refine a_exit ?_
    refine a_seq ?_
    have hie : i = 2 := (by simp at ht59; omega)
    subst hie
    refine a_region ?_
    refine rm (.bool _) ?_
    refine r_nil ?_
    refine a_cond rfl (fun ht84 => ?_) (fun ht84 => ?_)
    ·
     refine a_seq ?_
     have hW := whyR_show hAw hfa hk ht84 k2
     refine a_region ?_
     refine rm (.rsl _ _ _ _ _) ?_
     refine ra (.rsl _ _ _ _ _) ?_
     refine r_pre (ent_reloc_sl (t := 4) rfl rfl) ?_
     refine r_nil ?_
     refine a_ret ?_
     refine ret1 Tryz.results44 (by decide) (by decide) (Weak.osl ?_ ?_) rfl Leaves.nil
     all_goals (rw [← hW])
    ·
     refine a_skip ?_
     refine a_region ?_
     refine rv (v := .int _ _) (v_add il il (fun _ => by omega)) ?_
     refine rm (.int _ _) ?_
     refine r_nil ?_
     refine ⟨k + 1, ent_look ⟨wr, wr, wr, wr, wr, Weak.of_eq (int_eq (by omega)), trivial⟩, ⟨by omega, fun j h1 => by rcases Nat.lt_or_ge j k with h | h; exact k2 j h; (obtain rfl : j = k := by omega); rw [← shw_two]; exact ht84⟩, by omega⟩
  ·
   refine a_exit ?_
   refine aq ?_
   refine ra .nils ?_
   refine r_nil ?_
   refine a_pre (ent_nil (t := 4) (sz := 1) (cap := none) (.inl rfl) (fun _ h => by cases h)) ?_
   refine a_ret ?_
   refine ret1 Tryz.results44 (by decide) (by decide) (Weak.osl ?_ ?_) rfl Leaves.nil
   all_goals (rw [whyR_0 hfa (fun hl => fndV_no (k := k) (by simp at ht46; omega) k2)]; rfl)
theorem hb38 : hasBody Tryz.prog 38 = true := by kernel_rfl
theorem hb39 : hasBody Tryz.prog 39 = true := by kernel_rfl
theorem hb41 : hasBody Tryz.prog 41 = true := by kernel_rfl
theorem hb44 : hasBody Tryz.prog 44 = true := by kernel_rfl
theorem hb45 : hasBody Tryz.prog 45 = true := by kernel_rfl
theorem iQt_c (vars : Int) (L : List (List Int)) (hk : CnfOk vars L) (w : Int) (a : List Int) (hla : a.length ≤ 1048576) (hba : ∀ j, -9223372036854775808 ≤ gd a j ∧ gd a j ≤ 9223372036854775807) : ACall Tryz.prog 9 [.agg [.int .i64 vars, .sl (sls L) L.length], .int .i64 w, .sl (icells a) a.length] [] (.tup [.osl 1 (osls (qtR vars L w a)) (qtR vars L w a).length none, .bool (qtOk vars L w a)]) [] := by
 have hk2 := hk.2.1
 have hk1 := hk.1
 refine ACall.intro Tryz.func9 rfl (N := 73) rfl (by decide) (by simp) ?_
 refine aq ?_
 refine rn (v := .op [.int _ _, .sl _ _]) (q_box il rfl rfl) ?_
 refine ra .nils ?_
 refine ra (.bool _) ?_
 refine r_nil ?_
 refine a_seq ?_
 refine aq ?_
 refine rv (v := .agg [.int _ _, .sl _ _]) (v_load_rpa1 ta29 il rfl rfl (fun _ => rfl) rfl) ?_
 refine rm (.int _ _) ?_
 refine rn (v := .bool _) (q_call (vs := [.agg [.int _ _, .sl _ _], .int _ _]) (args := [.agg [.int .i64 _, .sl _ _], .int .i64 _]) hb38 ⟨il, il, trivial⟩ rfl (fun hA => narrowOk_c vars L hk w) rfl rfl) ?_
 refine rv (v := .bool _) (v_not il) ?_
 refine rm (.bool _) ?_
 refine rg (v := .rp _ _) (v_fieldAddr_rp fo29_0 il) ?_
 refine r_gval (v := .int _ _) (v_load_rp1 ta3 (.inr ⟨_, rfl, fun h => h⟩) rfl (fun _ => rfl) rfl) rfl rfl rfl (by decide) (.inl ⟨_, rfl, rfl⟩) rfl (by decide) ?_
 refine rg (v := .sl _ _) (v_move il nf) ?_
 refine r_guard (v := .bool _) (q_call (vs := [.int _ _, .sl _ _]) (args := [.int .i64 _, .sl _ _]) hb39 ⟨.inr ⟨_, rfl, fun h => h⟩, .inr ⟨_, rfl, fun h => h⟩, trivial⟩ rfl (fun hA => isAsg_c _ _ (by omega) (by omega) hba) rfl rfl) rfl rfl rfl (by decide) (.inl ⟨_, rfl, rfl⟩) rfl (by decide) ?_
 refine r_gval (v := .bool _) (v_not (.inr ⟨_, rfl, fun h => h⟩)) rfl rfl rfl (by decide) (.inl ⟨_, rfl, rfl⟩) rfl (by decide) ?_
 refine rv (v := .bool _) (v_pick (.inl rfl) (.inl rfl) (.inr ⟨_, rfl, fun h h2 => by simp_all⟩)) ?_
 refine rm (.bool _) ?_
 refine rg (v := .agg [.int _ _, .sl _ _]) (v_load_rpa1 ta29 il rfl rfl (fun _ => rfl) rfl) ?_
 refine rg (v := .int _ _) (v_move il nf) ?_
 refine rg (v := .sl _ _) (v_move il nf) ?_
 refine r_guard (v := .bool _) (q_call (vs := [.agg [.int _ _, .sl _ _], .int _ _, .sl _ _]) (args := [.agg [.int .i64 _, .sl _ _], .int .i64 _, .sl _ _]) hb40 ⟨.inr ⟨_, rfl, fun h => h⟩, .inr ⟨_, rfl, fun h => h⟩, .inr ⟨_, rfl, fun h => h⟩, trivial⟩ rfl (fun hA => allowed_c vars L a w (cnfB_spec (nwB_spec (show nwB vars L w = true by revert hA; cases nwB vars L w <;> simp)).1).2.2 hk2 hla (nwB_spec (show nwB vars L w = true by revert hA; cases nwB vars L w <;> simp)).2.2) rfl rfl) rfl rfl rfl (by decide) (.inl ⟨_, rfl, rfl⟩) rfl (by decide) ?_
 refine r_gval (v := .bool _) (v_not (.inr ⟨_, rfl, fun h => h⟩)) rfl rfl rfl (by decide) (.inl ⟨_, rfl, rfl⟩) rfl (by decide) ?_
 refine rv (v := .bool _) (v_pick (.inl rfl) (.inl rfl) (.inr ⟨_, rfl, fun h h2 => by simp_all⟩)) ?_
 refine r_nil ?_
 refine a_cond rfl (fun ht30 => ?_) (fun ht30 => ?_)
 ·
  refine aq ?_
  refine ra .nils ?_
  refine ra (.bool _) ?_
  refine r_nil ?_
  refine a_pre (ent_nil (t := 6) (sz := 1) (cap := none) (.inl rfl) (fun _ h => by cases h)) ?_
  refine a_ret ?_
  refine retL (rs := [.tmp 6, .tmp 7]) [(6, .osl _ _ _ none), (7, _)] ⟨Weak.osl rfl rfl, wr, trivial⟩ rfl Tryz.results9 (by decide) ⟨by decide, by decide, rfl⟩ (by decide) (by decide) (l2_eq (osl_eq2 ?_ ?_) (bool_eq ?_)) (by simp [refsL, refs])
  all_goals (have hf : qtOk vars L w a = false := (by unfold qtOk; revert ht30; cases nwB vars L w <;> cases clB vars a <;> cases alB L w a <;> simp); first | exact hf.symm | (rw [qtR_no hf]; rfl))
 ·
  refine a_skip ?_
  refine a_seq ?_
  have hq3 : nwB vars L w = true ∧ clB vars a = true ∧ alB L w a = true := (by revert ht30; cases nwB vars L w <;> cases clB vars a <;> cases alB L w a <;> simp)
  obtain ⟨q1, q2, q3⟩ := hq3
  have q8 := nwB_spec q1
  have q9 := cnfB_spec q8.1
  have hv6 : 0 ≤ vars ∧ vars ≤ 6 := ⟨q9.1.1, q8.2.1⟩
  obtain ⟨hAA, hAs, hAl⟩ := alwL_spec (L := L) (w := w) hv6
  have haA := (alwL_in hv6).2 ⟨q2, q3⟩
  have hqo : qtOk vars L w a = !decide (rnR vars w (alwL vars w L) a = 0) := (by unfold qtOk; rw [q1, q2, q3]; rfl)
  have hqy : qtOk vars L w a = true → qtR vars L w a = bfE vars w (alwL vars w L) a := qtR_yes
  have hsh : ACall Tryz.prog 41 [.agg [.int .i64 vars, .sl (sls L) L.length], .int .i64 w] [] (.pp [.int .i64 vars, .sl (sls L) L.length, .int .i64 w, .sl (sls (alwL vars w L)) (alwL vars w L).length, .sl (blcells (mkB vars.toNat (shE vars w (alwL vars w L)) (shE vars w (alwL vars w L)).length)) (3 ^ vars.toNat), .sl (icells (rdFA vars w (alwL vars w L))) (3 ^ vars.toNat)] 0) [] := shrinkI_c vars L w q9.2.2 hk2 q8.2.2 hv6
  have hAw : IsAlw vars w L (alwL vars w L) := fun b => alwL_in hv6
  generalize alwL vars w L = A at hAA hAs hAl haA hqo hqy hsh hAw
  have hlt := codeA_cl q2
  have hrf : (rdFA vars w A).length = 3 ^ vars.toNat := rdA_len (vars := vars) (w := w) (A := A) 1000
  have hp3 := pow3_bd (k := vars.toNat) (by omega)
  refine a_region ?_
  refine rv (v := .agg [.int _ _, .sl _ _]) (v_load_rpa1 ta29 il rfl rfl (fun _ => rfl) rfl) ?_
  refine rm (.int _ _) ?_
  refine rn (v := .pp _ _) (q_callF (vs := [.agg [.int _ _, .sl _ _], .int _ _]) (args := [.agg [.int .i64 _, .sl _ _], .int .i64 _]) hb41 ⟨il, il, trivial⟩ rfl (fun hA => hsh) rfl rfl) ?_
  refine ra (.pp _ _) ?_
  refine r_nil ?_
  refine a_seq ?_
  refine a_seq ?_
  refine a_region_any mixed (by kernel_rfl) ?_
  refine yv (v := .pp _ _) (v_move il nf) ?_
  refine yv (v := .pp _ _) (v_nilCheck il rfl) ?_
  refine yv (v := .pp _ _) (v_fieldAddr_pp fo66_4 il) ?_
  refine yv (v := .sl _ _) (v_load_pp ta25 il (fun _ => rfl) rfl) ?_
  refine yv (v := .sl _ _) (v_move il nf) ?_
  refine y_new (v := .int _ _) (q_call (vs := [.sl _ _]) (args := [.sl _ _]) hb42 ⟨.inl rfl, trivial⟩ rfl (fun hA => codeOf_c vars a q2) rfl rfl) rfl rfl (by decide) (by kernel_rfl) ?_
  refine yv (v := .pp _ _) (v_indexAddr_sl es25 il il (fun _ => ⟨by omega, by omega, icells_ne (i := codeA a) (by omega)⟩)) ?_
  refine yv (v := .int .i64 (rdE vars w A a)) (v_load_pp ta3 il (fun _ => by rw [Nat.mul_one, ← rdFA_gd hAA q2]; exact icells_get (gd_get (by omega))) rfl) ?_
  refine yv (v := .bool _) (v_eql il il) ?_
  refine y_nil ?_
  refine a_cond rfl (fun ht42 => ?_) (fun ht42 => ?_)
  ·
   refine aq ?_
   refine ra .nils ?_
   refine ra (.bool _) ?_
   refine r_nil ?_
   refine a_pre (ent_nil (t := 6) (sz := 1) (cap := none) (.inl rfl) (fun _ h => by cases h)) ?_
   refine a_ret ?_
   refine retL (rs := [.tmp 6, .tmp 7]) [(6, .osl _ _ _ none), (7, _)] ⟨Weak.osl rfl rfl, wr, trivial⟩ rfl Tryz.results9 (by decide) ⟨by decide, by decide, rfl⟩ (by decide) (by decide) (l2_eq (osl_eq2 ?_ ?_) (bool_eq ?_)) (by simp [refsL, refs])
   all_goals (have hf : qtOk vars L w a = false := (by rw [hqo, show decide (rnR vars w A a = 0) = true by rw [rnR_in haA]; simpa using ht42]; rfl); first | exact hf.symm | (rw [qtR_no hf]; rfl))
  ·
   refine a_skip ?_
   refine a_seq ?_
   have hok : qtOk vars L w a = true := (by rw [hqo, rnR_in haA]; simpa using ht42)
   have hla2 := clB_len q2
   refine a_region ?_
   refine rm (.sl _ _) ?_
   refine rn (v := .osl 1 (icells a) a.length none) (q_call (vs := [.sl _ _]) (args := [.sl _ _]) hb43 ⟨il, trivial⟩ rfl (fun hA => cloneI_c a a.length ⟨rfl, by omega⟩) (ic_noSh _) (ic_noRef _)) ?_
   refine r_step rfl (o_sliceLit1 (v := .osl _ _ _ _) rfl lt22 rfl rfl (by decide) (by decide) rfl rfl (by simp [cellsOf, noRefL, noRef, ic_noRef]) rfl rfl) ?_
   refine ra (.rsl _ _ _ _ _) ?_
   refine r_pre (ent_reloc_sl (t := 9) rfl rfl) ?_
   refine r_nil ?_
   refine a_seq ?_
   refine aq ?_
   refine ra (.int _ _) ?_
   refine r_nil ?_
   refine a_block ?_
   refine a_loop (X := Nat) (fun n => look [(8, .pp [.int .i64 vars, .sl (sls L) L.length, .int .i64 w, .sl (sls A) A.length, .sl (blcells (mkB vars.toNat (shE vars w A) (shE vars w A).length)) (3 ^ vars.toNat), .sl (icells (rdFA vars w A)) (3 ^ vars.toNat)] 0), (9, .osl 1 (osls (bfS vars w A a n)) (bfS vars w A a n).length none), (10, .int .i64 ((n : Nat) : Int))]) (fun n => n ≤ 730) (fun n => 730 - n) 0 (ent_look ⟨wr, Weak.osl rfl rfl, wr, trivial⟩) (Nat.zero_le _) (fun n hG => ?_)
   have hog := bfS_good (vars := vars) (w := w) haA n
   have hol := hog.len hv6 hAA
   refine a_seq ?_
   refine aq ?_
   refine rm (.int _ _) ?_
   refine rm (.rsl _ _ _ _ _) ?_
   refine rv (v := .int _ _) (v_len_rsl sl22 il) ?_
   refine rv (v := .bool _) (v_lss il il) ?_
   refine r_nil ?_
   refine a_cond rfl (fun ht49 => ?_) (fun ht49 => ?_)
   ·
    refine a_skip ?_
    refine a_seq ?_
    refine a_block ?_
    refine a_seq ?_
    have hn : n < (bfS vars w A a n).length := (by simp at ht49; omega)
    have hbA := hog.2 _ (gl_mem hn)
    have hbc := AllA_mem.1 hAA _ hbA
    have hwl := whyR_len (vars := vars) (w := w) (A := A) (r := rnR vars w A (gl (bfS vars w A a n) n)) (a := (gl (bfS vars w A a n) n))
    refine a_region ?_
    refine rm (.pp _ _) ?_
    refine rm (.rsl _ _ _ _ _) ?_
    refine rm (.int _ _) ?_
    refine rv (v := .rp _ _) (v_indexAddr_rsl0 es22 il il (fun _ => by omega)) ?_
    refine rv (v := .rsl (9, [n]) 1 0 (gl (bfS vars w A a n) n).length none) ((v_load_rp (c := .osl _ _ _ _) ta25 il rfl (fun _ => by rw [Nat.mul_one]; exact osls_get hn)).cast ((by show AV.rsl (9, [] ++ [(n : Int).toNat * 1]) 1 0 _ none = _; rw [Nat.mul_one]; rfl))) ?_
    refine rn (v := .osl 1 (osls (whyR vars w A (rnR vars w A (gl (bfS vars w A a n) n)) (gl (bfS vars w A a n) n))) (whyR vars w A (rnR vars w A (gl (bfS vars w A a n) n)) (gl (bfS vars w A a n) n)).length none) (QSem.cast (q_call (vs := [.pp _ _, .rsl _ _ _ _ _]) (args := [.pp _ _, .sl _ _]) hb44 ⟨il, il, trivial⟩ (l2_eq rfl (snap_row (q := (9, [n])) (by show (match (osls (bfS vars w A a n))[n]? with | some y => node y [] | none => none) = _; rw [osls_get hn]; rfl) (ic_pure _))) (fun hA => reas_c vars L w q9.2.2 hk2 q8.2.2 A hv6 hAw hAA (gl (bfS vars w A a n) n) hbA) (by simp [noSh, noShL, osls_noSh]) (by simp [noRef, noRefL, osls_noRef])) (osl_eq2 (by rw [rnR_in hbA]) (by rw [rnR_in hbA]))) ?_
    refine rv (v := .int _ _) (v_len_rsl sl22 il) ?_
    refine rm (.int _ _) ?_
    refine r_nil ?_
    refine a_block ?_
    refine a_loop (X := Nat) (fun i => look [(8, .pp [.int .i64 vars, .sl (sls L) L.length, .int .i64 w, .sl (sls A) A.length, .sl (blcells (mkB vars.toNat (shE vars w A) (shE vars w A).length)) (3 ^ vars.toNat), .sl (icells (rdFA vars w A)) (3 ^ vars.toNat)] 0), (9, .osl 1 (osls (adI (whyR vars w A (rnR vars w A (gl (bfS vars w A a n) n)) (gl (bfS vars w A a n) n)) (bfS vars w A a n) i)) (adI (whyR vars w A (rnR vars w A (gl (bfS vars w A a n) n)) (gl (bfS vars w A a n) n)) (bfS vars w A a n) i).length none), (10, .int .i64 ((n : Nat) : Int)), (57, .osl 1 (mvC (whyR vars w A (rnR vars w A (gl (bfS vars w A a n) n)) (gl (bfS vars w A a n) n)) i) (whyR vars w A (rnR vars w A (gl (bfS vars w A a n) n)) (gl (bfS vars w A a n) n)).length none), (58, .int .i64 (((whyR vars w A (rnR vars w A (gl (bfS vars w A a n) n)) (gl (bfS vars w A a n) n)).length : Nat) : Int)), (59, .int .i64 ((i : Nat) : Int))]) (fun i => i ≤ (whyR vars w A (rnR vars w A (gl (bfS vars w A a n) n)) (gl (bfS vars w A a n) n)).length) (fun i => (whyR vars w A (rnR vars w A (gl (bfS vars w A a n) n)) (gl (bfS vars w A a n) n)).length - i) 0 (ent_look ⟨wr, Weak.osl (by rw [adI_zero]) (by rw [adI_zero]), wr, Weak.osl (by rw [mvC_zero]) rfl, wr, wr, trivial⟩) (Nat.zero_le _) (fun i hG => ?_)
    refine aq ?_
    refine rv (v := .bool _) (v_lss il il) ?_
    refine r_nil ?_
    refine a_seq ?_
    refine a_cond rfl (fun ht60 => ?_) (fun ht60 => ?_)
    ·
     refine a_skip ?_
     refine a_seq ?_
     refine a_block ?_
     refine a_seq ?_
     have hi : i < (whyR vars w A (rnR vars w A (gl (bfS vars w A a n) n)) (gl (bfS vars w A a n) n)).length := (by simp at ht60; omega)
     have hbm : (gl (whyR vars w A (rnR vars w A (gl (bfS vars w A a n) n)) (gl (bfS vars w A a n) n)) i) ∈ A := whyR_mem (gl_mem hi)
     have hbk := AllA_mem.1 hAA _ hbm
     have hgo := hog.ad (fun b hb => whyR_mem hb) (W := (whyR vars w A (rnR vars w A (gl (bfS vars w A a n) n)) (gl (bfS vars w A a n) n))) i
     have hgl := hgo.len hv6 hAA
     have hml := mvC_len (Nat.le_of_lt hi)
     refine a_region ?_
     refine rv (v := .rp _ _) (v_indexAddr_rsl0 es22 il il (fun _ => by omega)) ?_
     refine rv (v := .rsl (57, [i]) 1 0 (gl (whyR vars w A (rnR vars w A (gl (bfS vars w A a n) n)) (gl (bfS vars w A a n) n)) i).length none) ((v_load_rp (c := .osl _ _ _ _) ta25 il rfl (fun _ => by rw [Nat.mul_one]; exact mvC_get hi)).cast ((by show AV.rsl (57, [] ++ [(i : Int).toNat * 1]) 1 0 _ none = _; rw [Nat.mul_one]; rfl))) ?_
     refine ra (.rsl _ _ _ _ _) ?_
     refine r_nil ?_
     refine aq ?_
     refine rm (.rsl _ _ _ _ _) ?_
     refine rm (.rsl _ _ _ _ _) ?_
     refine rn (v := .bool _) (q_call (vs := [.rsl _ _ _ _ _, .rsl _ _ _ _ _]) (args := [.sl _ _, .sl _ _]) hb45 ⟨il, il, trivial⟩ (l2_eq sl_osls (snap_row (q := (57, [i])) (mvC_node (l := (whyR vars w A (rnR vars w A (gl (bfS vars w A a n) n)) (gl (bfS vars w A a n) n))) hi) (ic_pure _))) (fun hA => hasList_c (adI (whyR vars w A (rnR vars w A (gl (bfS vars w A a n) n)) (gl (bfS vars w A a n) n)) (bfS vars w A a n) i) (gl (whyR vars w A (rnR vars w A (gl (bfS vars w A a n) n)) (gl (bfS vars w A a n) n)) i) (gl_small fun x hx => AllA_mem.1 hAA x (hgo.2 x hx)) (by omega) (by have := clB_len hbk; omega)) rfl rfl) ?_
     refine rv (v := .bool _) (v_not il) ?_
     refine r_nil ?_
     refine a_cond rfl (fun ht66 => ?_) (fun ht66 => ?_)
     ·
      refine a_region ?_
      refine rm (.rsl _ _ _ _ _) ?_
      refine rm (.rsl _ _ _ _ _) ?_
      refine r_pre (ent_reloc_sl (t := 68) (q := (57, [i])) rfl (mvC_node (l := (whyR vars w A (rnR vars w A (gl (bfS vars w A a n) n)) (gl (bfS vars w A a n) n))) hi)) ?_
      refine r_pre (ent_eq (t := 57) (v' := .osl 1 (mvC (whyR vars w A (rnR vars w A (gl (bfS vars w A a n) n)) (gl (bfS vars w A a n) n)) (i + 1)) (whyR vars w A (rnR vars w A (gl (bfS vars w A a n) n)) (gl (bfS vars w A a n) n)).length none) (Weak.of_eq (by show purgeV 68 (setNode (.osl 1 (mvC (whyR vars w A (rnR vars w A (gl (bfS vars w A a n) n)) (gl (bfS vars w A a n) n)) i) (whyR vars w A (rnR vars w A (gl (bfS vars w A a n) n)) (gl (bfS vars w A a n) n)).length none) [i] .undef) = _; rw [mvC_hole hi]; rfl))) ?_
      refine r_step rfl (o_sliceLit1 (v := .osl _ _ _ _) rfl lt22 rfl rfl (by decide) (by decide) rfl rfl (by simp [cellsOf, noRefL, noRef, ic_noRef]) rfl rfl) ?_
      refine r_pre (ent_reloc_sl (t := 67) rfl rfl) ?_
      refine r_step rfl (o_append_own rfl ap22 rfl (by decide) (by decide) (by decide) (by decide) rfl rfl rfl (by rw [osls_length]; omega) rfl (by omega)) ?_
      refine ra (.rsl _ _ _ _ _) ?_
      refine r_pre (ent_reloc_sl (t := 9) rfl rfl) ?_
      refine r_nil ?_
      refine a_region ?_
      refine rv (v := .int _ _) (v_add il il (fun _ => by omega)) ?_
      refine rm (.int _ _) ?_
      refine r_nil ?_
      have hnm : ¬ (gl (whyR vars w A (rnR vars w A (gl (bfS vars w A a n) n)) (gl (bfS vars w A a n) n)) i) ∈ (adI (whyR vars w A (rnR vars w A (gl (bfS vars w A a n) n)) (gl (bfS vars w A a n) n)) (bfS vars w A a n) i) := (by rw [fidx_mem] at ht66; simpa using ht66)
      refine ⟨i + 1, ent_look ⟨wr, Weak.osl (by rw [adI_succ hi, addN_out hnm, osls_append]; rfl) (by rw [adI_succ hi, addN_out hnm]; simp), wr, wr, wr, Weak.of_eq (int_eq (by omega)), trivial⟩, by omega, by omega⟩
     ·
      refine a_skip ?_
      refine a_region ?_
      refine rv (v := .int _ _) (v_add il il (fun _ => by omega)) ?_
      refine rm (.int _ _) ?_
      refine r_nil ?_
      have hmm : (gl (whyR vars w A (rnR vars w A (gl (bfS vars w A a n) n)) (gl (bfS vars w A a n) n)) i) ∈ (adI (whyR vars w A (rnR vars w A (gl (bfS vars w A a n) n)) (gl (bfS vars w A a n) n)) (bfS vars w A a n) i) := (by rw [fidx_mem] at ht66; simpa using ht66)
      refine ⟨i + 1, ent_look ⟨wr, Weak.osl (by rw [adI_succ hi, addN_in hmm]) (by rw [adI_succ hi, addN_in hmm]), wr, mvC_weak hi, wr, Weak.of_eq (int_eq (by omega)), trivial⟩, by omega, by omega⟩
    ·
     refine a_exit ?_
     have hie : i = (whyR vars w A (rnR vars w A (gl (bfS vars w A a n) n)) (gl (bfS vars w A a n) n)).length := (by simp at ht60; omega)
     subst hie
     refine a_region ?_
     refine rm (.int _ _) ?_
     refine rv (v := .int _ _) (v_add il il (fun _ => by omega)) ?_
     refine ra (.int _ _) ?_
     refine r_nil ?_
     refine ⟨n + 1, ent_look ⟨wr, Weak.osl (by rw [bfS_step hn, ← adI_end]) (by rw [bfS_step hn, ← adI_end]), Weak.of_eq (int_eq (by omega)), trivial⟩, by omega, by omega⟩
   ·
    refine a_exit ?_
    refine a_seq ?_
    have hln : (bfS vars w A a n).length ≤ n := (by simp at ht49; omega)
    have hfin := bfE_of (by omega) hln
    refine a_region ?_
    refine rm (.rsl _ _ _ _ _) ?_
    refine ra (.rsl _ _ _ _ _) ?_
    refine r_pre (ent_reloc_sl (t := 6) rfl rfl) ?_
    refine ra (.bool _) ?_
    refine r_nil ?_
    refine a_ret ?_
    refine retL (rs := [.tmp 6, .tmp 7]) [(6, .osl _ _ _ none), (7, _)] ⟨Weak.osl rfl rfl, wr, trivial⟩ rfl Tryz.results9 (by decide) ⟨by decide, by decide, rfl⟩ (by decide) (by decide) (l2_eq (osl_eq2 ?_ ?_) (bool_eq ?_)) (by simp [refsL, refs])
    all_goals (first | exact hok.symm | (rw [hqy hok, hfin]))
theorem hb11 : hasBody Tryz.prog 11 = true := by kernel_rfl
theorem hb13 : hasBody Tryz.prog 13 = true := by kernel_rfl
theorem hb16 : hasBody Tryz.prog 16 = true := by kernel_rfl
theorem hb5 : hasBody Tryz.prog 5 = true := by kernel_rfl
theorem hb6 : hasBody Tryz.prog 6 = true := by kernel_rfl
theorem hb7 : hasBody Tryz.prog 7 = true := by kernel_rfl
theorem hb9 : hasBody Tryz.prog 9 = true := by kernel_rfl
theorem ta24 : tyAgg Tryz.prog 24 = some (true, 2) := by kernel_rfl
theorem un4 : Tryz.prog.underlying 4 = some .bool := by kernel_rfl
theorem lawQuestionTree_c (vars : Int) (L : List (List Int)) (w : Int) (a : List Int) (hl9 : (a.length : Int) ≤ 9223372036854775807) (hv : -9223372036854775808 ≤ vars ∧ vars ≤ 9223372036854775807) (hlen : ∀ i, ((gl L i).length : Int) ≤ 9223372036854775807) (hL : (L.length : Int) ≤ 9223372036854775807) (hbb : ∀ i j, -9223372036854775808 ≤ gd (gl L i) j ∧ gd (gl L i) j ≤ 9223372036854775807) (hba : ∀ j, -9223372036854775808 ≤ gd a j ∧ gd a j ≤ 9223372036854775807) : ACall Tryz.prog 3 [.agg [.int .i64 vars, .sl (sls L) L.length], .int .i64 w, .sl (icells a) a.length] [] (.bool true) [] := by
 have hrL := qtR_len vars L w a
 have hrl := qtR_rows vars L w a
 have hrt := qtR_tot vars L w a
 refine ACall.intro Tryz.func3 rfl (N := 122) rfl (by decide) (by simp) ?_
 refine aq ?_
 refine rn (v := .op [.int _ _, .sl _ _]) (q_box il rfl rfl) ?_
 refine ra (.bool _) ?_
 refine r_nil ?_
 refine a_seq ?_
 refine aq ?_
 refine rm (.sl _ _) ?_
 refine rv (v := .int _ _) (v_len_sl sl25 il) ?_
 refine rv (v := .bool _) (v_gtr il il) ?_
 refine r_nil ?_
 refine a_cond rfl (fun ht21 => ?_) (fun ht21 => ?_)
 ·
  refine aq ?_
  refine ra (.bool _) ?_
  refine r_nil ?_
  refine a_ret ?_
  refine ret1 Tryz.results3 (by decide) (by decide) (Weak.of_eq (bool_eq ?_)) rfl Leaves.nil
  first | rfl | (exfalso; simp at ht21; done) | (exfalso; simp at ht21; omega)
 ·
  refine a_skip ?_
  refine a_seq ?_
  have hle : (a.length : Int) ≤ 1048576 := (by simpa using ht21)
  refine a_region ?_
  refine ra (.int _ _) ?_
  refine r_nil ?_
  refine aq ?_
  refine rv (v := .agg [.int _ _, .sl _ _]) (v_load_rpa1 ta24 il rfl rfl (fun _ => rfl) rfl) ?_
  refine rm (.int _ _) ?_
  refine rn (v := .int _ _) (q_call (vs := [.agg [.int _ _, .sl _ _], .int _ _]) (args := [.agg [.int .i64 _, .sl _ _], .int .i64 _]) hb5 ⟨il, il, trivial⟩ rfl (fun hA => szCnf_c _ _ _ (by omega) hlen hL) rfl rfl) ?_
  refine ra (.int _ _) ?_
  refine r_nil ?_
  refine a_seq ?_
  refine aq ?_
  refine rm (.int _ _) ?_
  refine rv (v := .bool _) (v_lss il il) ?_
  refine r_nil ?_
  refine a_cond rfl (fun ht26 => ?_) (fun ht26 => ?_)
  ·
   refine aq ?_
   refine ra (.bool _) ?_
   refine r_nil ?_
   refine a_ret ?_
   refine ret1 Tryz.results3 (by decide) (by decide) (Weak.of_eq (bool_eq ?_)) rfl Leaves.nil
   first | rfl | (exfalso; simp at ht26; done) | (exfalso; simp at ht26; omega)
  ·
   refine a_skip ?_
   refine a_seq ?_
   have hsz : L.length + tot L L.length ≤ 1048576 := (by have h9 := of_decide_eq_false ht26; unfold szR at h9; split at h9 <;> omega)
   have hk : CnfOk vars L := ⟨hv, by omega, by omega, hbb⟩
   have hll := fun i => len_tot (L := L) (i := i)
   refine a_region ?_
   refine rv (v := .agg [.int _ _, .sl _ _]) (v_load_rpa1 ta24 il rfl rfl (fun _ => rfl) rfl) ?_
   refine rn (v := .agg [.int _ _, .osl _ _ _ _]) (q_call (vs := [.agg [.int _ _, .sl _ _]]) (args := [.agg [.int .i64 _, .sl _ _]]) hb7 ⟨il, trivial⟩ rfl (fun hA => toCnf_c _ _ (by omega) (by omega)) (by simp [noSh, noShL, osls_noSh]) (by simp [noRef, noRefL, osls_noRef])) ?_
   refine rm (.int _ _) ?_
   refine rm (.sl _ _) ?_
   refine rn (v := .osl _ _ _ _) (q_call (vs := [.sl _ _]) (args := [.sl _ _]) hb8 ⟨il, trivial⟩ rfl (fun hA => toIntS_c _ (by omega)) (ic_noSh _) (ic_noRef _)) ?_
   refine rn (v := .tup [.osl _ _ _ _, .bool _]) (q_call (vs := [.agg [.int _ _, .rsl _ _ _ _ _], .int _ _, .rsl _ _ _ _ _]) (args := [.agg [.int .i64 _, .sl _ _], .int .i64 _, .sl _ _]) hb6 ⟨il, il, il, trivial⟩ (l3_eq (agg_eq (l2_eq rfl sl_osls)) rfl (sl_sh (ic_pure _))) (fun hA => sQt_c vars L hk w a (by omega) hba) (by simp [noSh, noShL, osls_noSh]) (by simp [noRef, noRefL, osls_noRef])) ?_
   refine rv (v := .tup [.rsl _ _ _ _ _, .bool _]) (v_mv rfl) ?_
   refine rv (v := .rsl _ _ _ _ _) (v_extract rfl rfl) ?_
   refine rv (v := .bool _) (v_extract rfl rfl) ?_
   refine ra (.rsl _ _ _ _ _) ?_
   refine r_pre (ent_reloc_sl (t := 8) rfl rfl) ?_
   refine ra (.bool _) ?_
   refine r_nil ?_
   refine a_seq ?_
   refine a_pre (ent_look (L := [(1, .int _ _), (2, .sl _ _), (3, .op [.int _ _, .sl _ _]), (6, .bool _), (8, .osl _ _ _ _), (9, .bool _)]) ⟨wr, wr, wr, wr, wr, wr, trivial⟩) ?_
   refine a_region ?_
   refine rv (v := .agg [.int _ _, .sl _ _]) (v_load_rpa1 ta24 il rfl rfl (fun _ => rfl) rfl) ?_
   refine rn (v := .agg [.int _ _, .osl _ _ _ _]) (q_call (vs := [.agg [.int _ _, .sl _ _]]) (args := [.agg [.int .i64 _, .sl _ _]]) hb7 ⟨il, trivial⟩ rfl (fun hA => toCnf_c _ _ (by omega) (by omega)) (by simp [noSh, noShL, osls_noSh]) (by simp [noRef, noRefL, osls_noRef])) ?_
   refine rn (v := .op [.int _ _, .nils]) (q_alloc zc29) ?_
   refine r_step rfl (o_store_own (v := .agg [.int _ _, .osl _ _ _ _]) (y' := .op [.int _ _, .osl _ _ _ _]) rfl rfl ta29 (.inl rfl) (by decide) rfl (by decide) rfl (by simp [cellsOf, noRefL, noRef, osls_noRef]) rfl rfl rfl rfl rfl (Nat.le_of_ble_eq_true rfl) rfl rfl) ?_
   refine r_nil ?_
   refine aq ?_
   refine rm (.sl _ _) ?_
   refine rn (v := .osl _ _ _ _) (q_call (vs := [.sl _ _]) (args := [.sl _ _]) hb8 ⟨il, trivial⟩ rfl (fun hA => toIntS_c _ (by omega)) (ic_noSh _) (ic_noRef _)) ?_
   refine ra (.rsl _ _ _ _ _) ?_
   refine r_pre (ent_reloc_sl (t := 11) rfl rfl) ?_
   refine r_nil ?_
   refine aq ?_
   refine rv (v := .agg [.int _ _, .rsl _ _ _ _ _]) (v_load_rpa (xs := [.int _ _, .osl _ _ _ _]) ta29 il rfl rfl (fun _ => take_get rfl)) ?_
   refine rm (.int _ _) ?_
   refine rm (.rsl _ _ _ _ _) ?_
   refine rn (v := .tup [.osl _ _ _ _, .bool _]) (q_call (vs := [.agg [.int _ _, .rsl _ _ _ _ _], .int _ _, .rsl _ _ _ _ _]) (args := [.agg [.int .i64 _, .sl _ _], .int .i64 _, .sl _ _]) hb9 ⟨il, il, il, trivial⟩ (l3_eq (agg_eq (l2_eq rfl sl_osls)) rfl (sl_sh (ic_pure _))) (fun hA => iQt_c vars L hk w a (by omega) hba) (by simp [noSh, noShL, osls_noSh]) (by simp [noRef, noRefL, osls_noRef])) ?_
   refine rv (v := .tup [.rsl _ _ _ _ _, .bool _]) (v_mv rfl) ?_
   refine rv (v := .rsl _ _ _ _ _) (v_extract rfl rfl) ?_
   refine rv (v := .bool _) (v_extract rfl rfl) ?_
   refine ra (.rsl _ _ _ _ _) ?_
   refine r_pre (ent_reloc_sl (t := 12) rfl rfl) ?_
   refine ra (.bool _) ?_
   refine r_nil ?_
   refine a_seq ?_
   refine a_seq ?_
   refine a_pre (ent_look (L := [(1, .int _ _), (2, .sl _ _), (3, .op [.int _ _, .sl _ _]), (6, .bool _), (8, .osl _ _ _ _), (9, .bool _), (10, .op [.int _ _, .osl _ _ _ _]), (11, .osl _ _ _ _), (12, .osl _ _ _ _), (13, .bool _)]) ⟨wr, wr, wr, wr, wr, wr, wr, wr, wr, wr, trivial⟩) ?_
   refine a_region ?_
   refine rm (.rsl _ _ _ _ _) ?_
   refine rm (.rsl _ _ _ _ _) ?_
   refine rn (v := .bool _) (q_call (vs := [.rsl _ _ _ _ _, .rsl _ _ _ _ _]) (args := [.sl _ _, .sl _ _]) hb10 ⟨il, il, trivial⟩ (l2_eq sl_osls sl_osls) (fun hA => eqIntSS_c _ _ (by omega) (by omega) (fun i => by have := hrl i; omega)) rfl rfl) ?_
   refine rv (v := .bool _) (v_not il) ?_
   refine rm (.bool _) ?_
   refine rg (v := .bool _) (v_move il nf) ?_
   refine rg (v := .bool _) (v_move il nf) ?_
   refine r_gval (v := .bool _) (v_bne un4 (.inr ⟨_, rfl, fun h => h⟩) (.inr ⟨_, rfl, fun h => h⟩)) rfl rfl rfl (by decide) (.inl ⟨_, rfl, rfl⟩) rfl (by decide) ?_
   refine rv (v := .bool _) (v_pick (.inl rfl) (.inl rfl) (.inr ⟨_, rfl, fun h h2 => by simp_all⟩)) ?_
   refine r_nil ?_
   refine a_cond rfl (fun ht55 => ?_) (fun ht55 => ?_)
   ·
    refine a_seq ?_
    refine a_pre (ent_look (L := [(1, .int _ _), (2, .sl _ _), (3, .op [.int _ _, .sl _ _]), (6, .bool _), (8, .osl _ _ _ _), (9, .bool _), (10, .op [.int _ _, .osl _ _ _ _]), (11, .osl _ _ _ _), (12, .osl _ _ _ _), (13, .bool _)]) ⟨wr, wr, wr, wr, wr, wr, wr, wr, wr, wr, trivial⟩) ?_
    refine a_region ?_
    refine ra (.bool _) ?_
    refine r_nil ?_
    refine a_ret ?_
    refine ret1 Tryz.results3 (by decide) (by decide) (Weak.of_eq (bool_eq ?_)) rfl Leaves.nil
    first | rfl | (exfalso; simp at ht55; done) | (exfalso; simp at ht55; omega)
   ·
    refine a_skip ?_
    refine a_seq ?_
    refine a_seq ?_
    refine a_pre (ent_look (L := [(1, .int _ _), (2, .sl _ _), (3, .op [.int _ _, .sl _ _]), (6, .bool _), (8, .osl _ _ _ _), (9, .bool _), (10, .op [.int _ _, .osl _ _ _ _]), (11, .osl _ _ _ _), (12, .osl _ _ _ _), (13, .bool _)]) ⟨wr, wr, wr, wr, wr, wr, wr, wr, wr, wr, trivial⟩) ?_
    refine a_region_any mixed (by kernel_rfl) ?_
    refine yv (v := .agg [.int _ _, .rsl _ _ _ _ _]) (v_load_rpa (xs := [.int _ _, .osl _ _ _ _]) ta29 il rfl rfl (fun _ => take_get rfl)) ?_
    refine yv (v := .agg [.int _ _, .sl _ _]) (v_load_rpa1 ta24 il rfl rfl (fun _ => rfl) rfl) ?_
    refine y_new (v := .agg [.int _ _, .osl _ _ _ _]) (q_call (vs := [.agg [.int _ _, .sl _ _]]) (args := [.agg [.int .i64 _, .sl _ _]]) hb7 ⟨.inl rfl, trivial⟩ rfl (fun hA => toCnf_c _ _ (by omega) (by omega)) (by simp [noSh, noShL, osls_noSh]) (by simp [noRef, noRefL, osls_noRef])) rfl rfl (by decide) (by kernel_rfl) ?_
    refine y_new (v := .bool _) (q_call (vs := [.agg [.int _ _, .rsl _ _ _ _ _], .agg [.int _ _, .rsl _ _ _ _ _]]) (args := [.agg [.int .i64 _, .sl _ _], .agg [.int .i64 _, .sl _ _]]) hb11 ⟨.inl rfl, .inl rfl, trivial⟩ (l2_eq (agg_eq (l2_eq rfl sl_osls)) (agg_eq (l2_eq rfl sl_osls))) (fun hA => eqCnf_c _ _ _ _ (by omega) (by omega) (fun i => by first | (have := hrl i; omega) | (have := hll i; omega))) rfl rfl) rfl rfl (by decide) (by kernel_rfl) ?_
    refine yv (v := .bool _) (v_not il) ?_
    refine y_nil ?_
    refine a_cond rfl (fun ht60 => ?_) (fun ht60 => ?_)
    ·
     refine a_seq ?_
     refine a_pre (ent_look (L := [(1, .int _ _), (2, .sl _ _), (3, .op [.int _ _, .sl _ _]), (6, .bool _), (8, .osl _ _ _ _), (9, .bool _), (10, .op [.int _ _, .osl _ _ _ _]), (11, .osl _ _ _ _), (12, .osl _ _ _ _), (13, .bool _)]) ⟨wr, wr, wr, wr, wr, wr, wr, wr, wr, wr, trivial⟩) ?_
     refine a_region ?_
     refine ra (.bool _) ?_
     refine r_nil ?_
     refine a_ret ?_
     refine ret1 Tryz.results3 (by decide) (by decide) (Weak.of_eq (bool_eq ?_)) rfl Leaves.nil
     first | rfl | (exfalso; simp at ht60; done) | (exfalso; simp at ht60; omega)
    ·
     refine a_skip ?_
     refine a_seq ?_
     refine a_seq ?_
     refine a_pre (ent_look (L := [(1, .int _ _), (2, .sl _ _), (3, .op [.int _ _, .sl _ _]), (6, .bool _), (8, .osl _ _ _ _), (9, .bool _), (10, .op [.int _ _, .osl _ _ _ _]), (11, .osl _ _ _ _), (12, .osl _ _ _ _), (13, .bool _)]) ⟨wr, wr, wr, wr, wr, wr, wr, wr, wr, wr, trivial⟩) ?_
     refine a_region ?_
     refine rm (.rsl _ _ _ _ _) ?_
     refine rm (.sl _ _) ?_
     refine rn (v := .osl _ _ _ _) (q_call (vs := [.sl _ _]) (args := [.sl _ _]) hb8 ⟨il, trivial⟩ rfl (fun hA => toIntS_c _ (by omega)) (ic_noSh _) (ic_noRef _)) ?_
     refine rn (v := .bool _) (q_call (vs := [.rsl _ _ _ _ _, .rsl _ _ _ _ _]) (args := [.sl _ _, .sl _ _]) hb12 ⟨il, il, trivial⟩ (l2_eq (sl_sh (ic_pure _)) (sl_sh (ic_pure _))) (fun hA => eqIntS_c _ _ (by omega)) rfl rfl) ?_
     refine rv (v := .bool _) (v_not il) ?_
     refine r_nil ?_
     refine a_cond rfl (fun ht65 => ?_) (fun ht65 => ?_)
     ·
      refine a_seq ?_
      refine a_pre (ent_look (L := [(1, .int _ _), (2, .sl _ _), (3, .op [.int _ _, .sl _ _]), (6, .bool _), (8, .osl _ _ _ _), (9, .bool _), (10, .op [.int _ _, .osl _ _ _ _]), (11, .osl _ _ _ _), (12, .osl _ _ _ _), (13, .bool _)]) ⟨wr, wr, wr, wr, wr, wr, wr, wr, wr, wr, trivial⟩) ?_
      refine a_region ?_
      refine ra (.bool _) ?_
      refine r_nil ?_
      refine a_ret ?_
      refine ret1 Tryz.results3 (by decide) (by decide) (Weak.of_eq (bool_eq ?_)) rfl Leaves.nil
      first | rfl | (exfalso; simp at ht65; done) | (exfalso; simp at ht65; omega)
     ·
      refine a_skip ?_
      refine a_seq ?_
      refine a_pre (ent_look (L := [(1, .int _ _), (2, .sl _ _), (3, .op [.int _ _, .sl _ _]), (6, .bool _), (8, .osl _ _ _ _), (9, .bool _), (10, .op [.int _ _, .osl _ _ _ _]), (11, .osl _ _ _ _), (12, .osl _ _ _ _), (13, .bool _)]) ⟨wr, wr, wr, wr, wr, wr, wr, wr, wr, wr, trivial⟩) ?_
      refine a_region ?_
      refine ra (.int _ _) ?_
      refine r_nil ?_
      refine aq ?_
      refine rv (v := .agg [.int _ _, .rsl _ _ _ _ _]) (v_load_rpa (xs := [.int _ _, .osl _ _ _ _]) ta29 il rfl rfl (fun _ => take_get rfl)) ?_
      refine rm (.int _ _) ?_
      refine r_step rfl (o_callIO (q := (10, [1])) (vs := [.agg [.int _ _, .rsl _ _ _ _ _], .int _ _]) (args := [.agg [.int .i64 _, .rsl (INH, []) _ _ _ _], .int .i64 _]) (x0 := .osl _ _ _ _) (x1 := .osl _ _ _ _) (res := .int _ _) rfl hb13 rfl (by decide) ⟨.inl rfl, .inl rfl, trivial⟩ rfl rfl (markCnf_c _ _ _ (by omega) (by omega) (by omega)) rfl rfl rfl (osls_noSh _) (osls_noRef _) (Nat.le_of_ble_eq_true rfl) (by decide) rfl) ?_
      refine ra (.int _ _) ?_
      refine r_nil ?_
      refine a_seq ?_
      refine a_pre (ent_look (L := [(1, .int _ _), (2, .sl _ _), (3, .op [.int _ _, .sl _ _]), (6, .bool _), (8, .osl _ _ _ _), (9, .bool _), (11, .osl _ _ _ _), (12, .osl _ _ _ _), (13, .bool _), (14, .int _ _)]) ⟨wr, wr, wr, wr, wr, wr, wr, wr, wr, wr, trivial⟩) ?_
      refine a_region ?_
      refine rm (.rsl _ _ _ _ _) ?_
      refine rm (.int _ _) ?_
      refine r_step rfl (o_callIO (q := (11, [])) (vs := [.rsl _ _ _ _ _, .int _ _]) (args := [.rsl (INH, []) _ _ _ _, .int .i64 _]) (x0 := .osl _ _ _ _) (x1 := .osl _ _ _ _) (res := .int _ _) rfl hb14 rfl (by decide) ⟨.inl rfl, .inl rfl, trivial⟩ rfl rfl (markIntS_c _ _ (by omega)) rfl rfl rfl (ic_noSh _) (ic_noRef _) (Nat.le_of_ble_eq_true rfl) (by decide) rfl) ?_
      refine ra (.int _ _) ?_
      refine r_nil ?_
      refine a_seq ?_
      refine a_seq ?_
      refine a_pre (ent_look (L := [(1, .int _ _), (2, .sl _ _), (3, .op [.int _ _, .sl _ _]), (6, .bool _), (8, .osl _ _ _ _), (9, .bool _), (12, .osl _ _ _ _), (13, .bool _), (14, .int _ _)]) ⟨wr, wr, wr, wr, wr, wr, wr, wr, wr, trivial⟩) ?_
      refine a_region ?_
      refine rm (.int _ _) ?_
      refine rv (v := .bool _) (v_lss il il) ?_
      refine rm (.bool _) ?_
      refine rg (v := .rsl _ _ _ _ _) (v_move il nf) ?_
      refine rg (v := .rsl _ _ _ _ _) (v_move il nf) ?_
      refine r_guard (v := .bool _) (q_call (vs := [.rsl _ _ _ _ _, .rsl _ _ _ _ _]) (args := [.sl _ _, .sl _ _]) hb10 ⟨.inr ⟨_, rfl, fun h => h⟩, .inr ⟨_, rfl, fun h => h⟩, trivial⟩ (l2_eq sl_osls sl_osls) (fun hA => eqIntSS_c _ _ (by omega) (by omega) (fun i => by have := hrl i; omega)) rfl rfl) rfl rfl rfl (by decide) (.inl ⟨_, rfl, rfl⟩) rfl (by decide) ?_
      refine r_gval (v := .bool _) (v_not (.inr ⟨_, rfl, fun h => h⟩)) rfl rfl rfl (by decide) (.inl ⟨_, rfl, rfl⟩) rfl (by decide) ?_
      refine rv (v := .bool _) (v_pick (.inl rfl) (.inl rfl) (.inr ⟨_, rfl, fun h h2 => by simp_all⟩)) ?_
      refine rm (.bool _) ?_
      refine rg (v := .bool _) (v_move il nf) ?_
      refine rg (v := .bool _) (v_move il nf) ?_
      refine r_gval (v := .bool _) (v_bne un4 (.inr ⟨_, rfl, fun h => h⟩) (.inr ⟨_, rfl, fun h => h⟩)) rfl rfl rfl (by decide) (.inl ⟨_, rfl, rfl⟩) rfl (by decide) ?_
      refine rv (v := .bool _) (v_pick (.inl rfl) (.inl rfl) (.inr ⟨_, rfl, fun h h2 => by simp_all⟩)) ?_
      refine r_nil ?_
      refine a_cond rfl (fun ht84 => ?_) (fun ht84 => ?_)
      ·
       refine a_seq ?_
       refine a_pre (ent_look (L := [(1, .int _ _), (2, .sl _ _), (3, .op [.int _ _, .sl _ _]), (6, .bool _), (8, .osl _ _ _ _), (9, .bool _), (12, .osl _ _ _ _)]) ⟨wr, wr, wr, wr, wr, wr, wr, trivial⟩) ?_
       refine a_region ?_
       refine ra (.bool _) ?_
       refine r_nil ?_
       refine a_ret ?_
       refine ret1 Tryz.results3 (by decide) (by decide) (Weak.of_eq (bool_eq ?_)) rfl Leaves.nil
       first | rfl | (exfalso; simp at ht84; done) | (exfalso; simp at ht84; omega)
      ·
       refine a_skip ?_
       refine a_seq ?_
       refine a_pre (ent_look (L := [(1, .int _ _), (2, .sl _ _), (3, .op [.int _ _, .sl _ _]), (6, .bool _), (8, .osl _ _ _ _), (9, .bool _), (12, .osl _ _ _ _)]) ⟨wr, wr, wr, wr, wr, wr, wr, trivial⟩) ?_
       refine a_region ?_
       refine ra (.int _ _) ?_
       refine r_nil ?_
       refine aq ?_
       refine rm (.rsl _ _ _ _ _) ?_
       refine rm (.int _ _) ?_
       refine r_step rfl (o_callIO (q := (12, [])) (vs := [.rsl _ _ _ _ _, .int _ _]) (args := [.rsl (INH, []) _ _ _ _, .int .i64 _]) (x0 := .osl _ _ _ _) (x1 := .osl _ _ _ _) (res := .int _ _) rfl hb15 rfl (by decide) ⟨.inl rfl, .inl rfl, trivial⟩ rfl rfl (markIntSS_c (qtR vars L w a) _ (by omega) (by omega) (by omega)) rfl rfl rfl (osls_noSh _) (osls_noRef _) (Nat.le_of_ble_eq_true rfl) (by decide) rfl) ?_
       refine ra (.int _ _) ?_
       refine r_nil ?_
       refine aq ?_
       refine ra (.int _ _) ?_
       refine r_nil ?_
       refine aq ?_
       refine rm (.rsl _ _ _ _ _) ?_
       refine rm (.int _ _) ?_
       refine rn (v := .int _ _) (q_call (vs := [.rsl _ _ _ _ _, .int _ _]) (args := [.sl _ _, .int .i64 _]) hb16 ⟨il, il, trivial⟩ (l2_eq sl_osls rfl) (fun hA => heldIntSS_c (qtR vars L w a) _ (by omega) (by omega) (by omega)) rfl rfl) ?_
       refine ra (.int _ _) ?_
       refine r_nil ?_
       refine a_seq ?_
       refine a_seq ?_
       refine a_pre (ent_look (L := [(1, .int _ _), (2, .sl _ _), (3, .op [.int _ _, .sl _ _]), (6, .bool _), (8, .osl _ _ _ _), (9, .bool _), (12, .osl _ _ _ _), (15, .int _ _), (16, .int _ _)]) ⟨wr, wr, wr, wr, wr, wr, wr, wr, wr, trivial⟩) ?_
       refine a_region ?_
       refine rm (.int _ _) ?_
       refine rv (v := .bool _) (v_lss il il) ?_
       refine r_nil ?_
       refine a_cond rfl (fun ht92 => ?_) (fun ht92 => ?_)
       ·
        refine aq ?_
        refine ra (.bool _) ?_
        refine r_nil ?_
        refine a_ret ?_
        refine ret1 Tryz.results3 (by decide) (by decide) (Weak.of_eq (bool_eq ?_)) rfl Leaves.nil
        first | rfl | (exfalso; simp at ht92; done) | (exfalso; simp at ht92; omega)
       ·
        refine a_skip ?_
        refine a_seq ?_
        refine aq ?_
        refine rm (.int _ _) ?_
        refine rm (.int _ _) ?_
        refine rv (v := .bool _) (v_neq il il) ?_
        refine r_nil ?_
        refine a_cond rfl (fun ht95 => ?_) (fun ht95 => ?_)
        ·
         refine a_seq ?_
         refine a_pre (ent_look (L := [(1, .int _ _), (2, .sl _ _), (3, .op [.int _ _, .sl _ _]), (6, .bool _), (8, .osl _ _ _ _), (9, .bool _), (12, .osl _ _ _ _), (15, .int _ _), (16, .int _ _)]) ⟨wr, wr, wr, wr, wr, wr, wr, wr, wr, trivial⟩) ?_
         refine a_region ?_
         refine ra (.bool _) ?_
         refine r_nil ?_
         refine a_ret ?_
         refine ret1 Tryz.results3 (by decide) (by decide) (Weak.of_eq (bool_eq ?_)) rfl Leaves.nil
         first | rfl | (exfalso; simp at ht95; done) | (exfalso; simp at ht95; omega)
        ·
         refine a_skip ?_
         refine a_seq ?_
         refine a_pre (ent_look (L := [(1, .int _ _), (2, .sl _ _), (3, .op [.int _ _, .sl _ _]), (6, .bool _), (8, .osl _ _ _ _), (9, .bool _), (12, .osl _ _ _ _), (15, .int _ _), (16, .int _ _)]) ⟨wr, wr, wr, wr, wr, wr, wr, wr, wr, trivial⟩) ?_
         refine a_region ?_
         refine rv (v := .agg [.int _ _, .sl _ _]) (v_load_rpa1 ta24 il rfl rfl (fun _ => rfl) rfl) ?_
         refine rn (v := .agg [.int _ _, .osl _ _ _ _]) (q_call (vs := [.agg [.int _ _, .sl _ _]]) (args := [.agg [.int .i64 _, .sl _ _]]) hb7 ⟨il, trivial⟩ rfl (fun hA => toCnf_c _ _ (by omega) (by omega)) (by simp [noSh, noShL, osls_noSh]) (by simp [noRef, noRefL, osls_noRef])) ?_
         refine rm (.int _ _) ?_
         refine rm (.sl _ _) ?_
         refine rn (v := .osl _ _ _ _) (q_call (vs := [.sl _ _]) (args := [.sl _ _]) hb8 ⟨il, trivial⟩ rfl (fun hA => toIntS_c _ (by omega)) (ic_noSh _) (ic_noRef _)) ?_
         refine rn (v := .tup [.osl _ _ _ _, .bool _]) (q_call (vs := [.agg [.int _ _, .rsl _ _ _ _ _], .int _ _, .rsl _ _ _ _ _]) (args := [.agg [.int .i64 _, .sl _ _], .int .i64 _, .sl _ _]) hb9 ⟨il, il, il, trivial⟩ (l3_eq (agg_eq (l2_eq rfl sl_osls)) rfl (sl_sh (ic_pure _))) (fun hA => iQt_c vars L hk w a (by omega) hba) (by simp [noSh, noShL, osls_noSh]) (by simp [noRef, noRefL, osls_noRef])) ?_
         refine rv (v := .tup [.rsl _ _ _ _ _, .bool _]) (v_mv rfl) ?_
         refine rv (v := .rsl _ _ _ _ _) (v_extract rfl rfl) ?_
         refine rv (v := .bool _) (v_extract rfl rfl) ?_
         refine ra (.rsl _ _ _ _ _) ?_
         refine r_pre (ent_reloc_sl (t := 17) rfl rfl) ?_
         refine ra (.bool _) ?_
         refine r_nil ?_
         refine a_seq ?_
         refine a_seq ?_
         refine a_pre (ent_look (L := [(6, .bool _), (8, .osl _ _ _ _), (9, .bool _), (12, .osl _ _ _ _), (15, .int _ _), (16, .int _ _), (17, .osl _ _ _ _), (18, .bool _)]) ⟨wr, wr, wr, wr, wr, wr, wr, wr, trivial⟩) ?_
         refine a_region ?_
         refine rm (.rsl _ _ _ _ _) ?_
         refine rm (.rsl _ _ _ _ _) ?_
         refine rn (v := .bool _) (q_call (vs := [.rsl _ _ _ _ _, .rsl _ _ _ _ _]) (args := [.sl _ _, .sl _ _]) hb10 ⟨il, il, trivial⟩ (l2_eq sl_osls sl_osls) (fun hA => eqIntSS_c _ _ (by omega) (by omega) (fun i => by have := hrl i; omega)) rfl rfl) ?_
         refine rv (v := .bool _) (v_not il) ?_
         refine rm (.bool _) ?_
         refine rg (v := .bool _) (v_move il nf) ?_
         refine rg (v := .bool _) (v_move il nf) ?_
         refine r_gval (v := .bool _) (v_bne un4 (.inr ⟨_, rfl, fun h => h⟩) (.inr ⟨_, rfl, fun h => h⟩)) rfl rfl rfl (by decide) (.inl ⟨_, rfl, rfl⟩) rfl (by decide) ?_
         refine rv (v := .bool _) (v_pick (.inl rfl) (.inl rfl) (.inr ⟨_, rfl, fun h h2 => by simp_all⟩)) ?_
         refine r_nil ?_
         refine a_cond rfl (fun ht113 => ?_) (fun ht113 => ?_)
         ·
          refine a_seq ?_
          refine a_pre (ent_look (L := [(6, .bool _), (12, .osl _ _ _ _), (15, .int _ _), (16, .int _ _)]) ⟨wr, wr, wr, wr, trivial⟩) ?_
          refine a_region ?_
          refine ra (.bool _) ?_
          refine r_nil ?_
          refine a_ret ?_
          refine ret1 Tryz.results3 (by decide) (by decide) (Weak.of_eq (bool_eq ?_)) rfl Leaves.nil
          first | rfl | (exfalso; simp at ht113; done) | (exfalso; simp at ht113; omega)
         ·
          refine a_skip ?_
          refine a_seq ?_
          refine a_pre (ent_look (L := [(6, .bool _), (12, .osl _ _ _ _), (15, .int _ _), (16, .int _ _)]) ⟨wr, wr, wr, wr, trivial⟩) ?_
          refine a_region ?_
          refine ra (.int _ _) ?_
          refine r_nil ?_
          refine aq ?_
          refine rm (.rsl _ _ _ _ _) ?_
          refine rm (.int _ _) ?_
          refine rn (v := .int _ _) (q_call (vs := [.rsl _ _ _ _ _, .int _ _]) (args := [.sl _ _, .int .i64 _]) hb16 ⟨il, il, trivial⟩ (l2_eq sl_osls rfl) (fun hA => heldIntSS_c (qtR vars L w a) _ (by omega) (by omega) (by omega)) rfl rfl) ?_
          refine ra (.int _ _) ?_
          refine r_nil ?_
          refine a_seq ?_
          refine aq ?_
          refine rm (.int _ _) ?_
          refine rv (v := .bool _) (v_lss il il) ?_
          refine r_nil ?_
          refine a_cond rfl (fun ht118 => ?_) (fun ht118 => ?_)
          ·
           refine aq ?_
           refine ra (.bool _) ?_
           refine r_nil ?_
           refine a_ret ?_
           refine ret1 Tryz.results3 (by decide) (by decide) (Weak.of_eq (bool_eq ?_)) rfl Leaves.nil
           first | rfl | (exfalso; simp at ht118; done) | (exfalso; simp at ht118; omega)
          ·
           refine a_skip ?_
           refine a_seq ?_
           refine aq ?_
           refine rm (.int _ _) ?_
           refine rm (.int _ _) ?_
           refine rv (v := .bool _) (v_neq il il) ?_
           refine r_nil ?_
           refine a_cond rfl (fun ht121 => ?_) (fun ht121 => ?_)
           ·
            refine a_seq ?_
            refine a_pre (ent_look (L := [(6, .bool _)]) ⟨wr, trivial⟩) ?_
            refine a_region ?_
            refine ra (.bool _) ?_
            refine r_nil ?_
            refine a_ret ?_
            refine ret1 Tryz.results3 (by decide) (by decide) (Weak.of_eq (bool_eq ?_)) rfl Leaves.nil
            first | rfl | (exfalso; simp at ht121; done) | (exfalso; simp at ht121; omega)
           ·
            refine a_skip ?_
            refine a_seq ?_
            refine a_pre (ent_look (L := [(6, .bool _)]) ⟨wr, trivial⟩) ?_
            refine a_region ?_
            refine ra (.bool _) ?_
            refine r_nil ?_
            refine a_ret ?_
            refine ret1 Tryz.results3 (by decide) (by decide) (Weak.of_eq (bool_eq ?_)) rfl Leaves.nil
            first | rfl | (exfalso; simp at ht121; done) | (exfalso; simp at ht121; omega)
end Go.Av
namespace Go.Av
open Go
theorem bd64 {n : Int} (h : (Lit.int .i64 n).wf = true) : -9223372036854775808 ≤ n ∧ n ≤ 9223372036854775807 := bounds_i64 h
theorem len64 {n : Nat} (h : n ≤ maxLen) : (n : Int) ≤ 9223372036854775807 := by unfold maxLen at h; omega
theorem icells_flat (xs : List Int) : xs.flatMap (fun n => [AV.int .i64 n]) = icells xs := by
 induction xs with
 | nil => rfl
 | cons x xs ih => rw [List.flatMap_cons, ih]; rfl
theorem sls_flat (L : List (List Int)) : L.flatMap (fun c => [AV.sl (icells c) c.length]) = sls L := by
  induction L with
  | nil => rfl
  | cons c L ih => rw [List.flatMap_cons, ih]; rfl
theorem cnf_hyp {L : List (List Int)} (h : L.length ≤ maxLen ∧ ∀ y ∈ L, (y.length ≤ maxLen ∧ ∀ z ∈ y, (Lit.int .i64 z).wf = true ∧ ([AV.int .i64 z]).length = 1) ∧ ([AV.sl (y.flatMap fun z => [AV.int .i64 z]) y.length]).length = 1) :
    (∀ i, ((gl L i).length : Int) ≤ 9223372036854775807) ∧ (L.length : Int) ≤ 9223372036854775807 ∧ ∀ i j, -9223372036854775808 ≤ gd (gl L i) j ∧ gd (gl L i) j ≤ 9223372036854775807 := by
  refine ⟨fun i => ?_, len64 h.1, fun i => ?_⟩
  · rcases Nat.lt_or_ge i L.length with hi | hi
    · exact len64 (h.2 _ (gl_mem hi)).1.1
    · rw [gl_out hi]; simp
  · rcases Nat.lt_or_ge i L.length with hi | hi
    · exact gd_bd fun x hx => bd64 ((h.2 _ (gl_mem hi)).1.2 x hx).1
    · intro j; rw [gl_out hi]; simp [gd]
end Go.Av
namespace Go.Av
open Go Go.Proofs Go.Proofs.YtflabfgegbccjaaGreat
set_option maxRecDepth 100000
theorem arg3 : OpensV Tryz.prog 3 (fun x : Int => AV.int .i64 x) (fun x => (Lit.int .i64 x).wf = true) :=
 opensV_one (ok_scalar (by rw [Tryz.underlying3])) (opens_int Tryz.underlying3) (fun _ => rfl)
theorem arg24 : OpensV Tryz.prog 24 (fun x : (Int) × (List (List (Int))) => .agg (([AV.int .i64 x.1] ++ [AV.sl (x.2.flatMap fun y2 => [AV.sl (y2.flatMap fun y1 => [AV.int .i64 y1]) y2.length]) x.2.length]))) (fun x => (((Lit.int .i64 x.1).wf = true) ∧ ((x.2.length ≤ maxLen ∧ ∀ y2 ∈ x.2, (y2.length ≤ maxLen ∧ ∀ y1 ∈ y2, (Lit.int .i64 y1).wf = true ∧ ([AV.int .i64 y1]).length = 1) ∧ ([AV.sl (y2.flatMap fun y1 => [AV.int .i64 y1]) y2.length]).length = 1)))) :=
 opensV_agg (ok_agg (by rw [Tryz.underlying24])) (opens_struct Tryz.underlying24 (tot := (1 + 1)) (by kernel_rfl) (opensFs_cons rfl (by kernel_rfl) (opens_int Tryz.underlying3) (opensFs_one rfl (by kernel_rfl) (opens_slice (k := 1) Tryz.underlying22 (by kernel_rfl) (by decide) (opens_slice (k := 1) Tryz.underlying25 (by kernel_rfl) (by decide) (opens_int Tryz.underlying3) (fun _ => rfl)) (fun _ => rfl)))))
theorem arg25 : OpensV Tryz.prog 25 (fun x : List (Int) => AV.sl (x.flatMap fun y3 => [AV.int .i64 y3]) x.length) (fun x => (x.length ≤ maxLen ∧ ∀ y3 ∈ x, (Lit.int .i64 y3).wf = true ∧ ([AV.int .i64 y3]).length = 1)) :=
 opensV_one (ok_scalar (by rw [Tryz.underlying25])) (opens_slice (k := 1) Tryz.underlying25 (by kernel_rfl) (by decide) (opens_int Tryz.underlying3) (fun _ => rfl)) (fun _ => rfl)
theorem rowOwn : ownKnob Tryz.prog.godebug = none := by kernel_rfl
theorem rowLaid : laidOutB Tryz.prog = true := by kernel_rfl
end Go.Av
