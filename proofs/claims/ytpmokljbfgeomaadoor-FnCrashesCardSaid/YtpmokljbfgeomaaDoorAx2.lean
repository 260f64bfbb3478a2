/- What is proved here: that the executor's operations on memory, its calls, regions, loops and functions stand for those of the model, whatever order a region draws; no condition but those written in each theorem. -/
import Derived.Test.YtpmokljbfgeomaaDoorAx1
import Derived.Lib.ConvBytes
import Derived.Laws.BytesString
import Derived.Laws.BytesArg
import Derived.Orders
set_option linter.unusedSimpArgs false
set_option linter.unusedVariables false
namespace Go.AX
open Go.RowKit (Below)

structure SRel (W0 : World) (β : Nat → Loc) (s : St) (a : Act) (w : World) : Prop where
  rel : Rel W0 β s.s w
  tm : TmRel β s.t a
  wft : ∀ n, ∀ l ∈ (tg s.t n).locs, gt s.s l ≠ .free
  wfb : ∀ l b, gt s.s l = .live b → ∀ l' ∈ b.locs, gt s.s l' ≠ .free
  df : a.defers = []

/-- One step of the store, and of the world beneath it; v is what the step hands back. -/
structure Trans (W0 : World) (β : Nat → Loc) (σ : Store) (w : World) (β' : Nat → Loc) (σ' : Store) (w' : World) (v : AV) (u : Value) : Prop where
  rel : Rel W0 β' σ' w'
  agree : ∀ l, gt σ l ≠ .free → β' l = β l
  den : Den β' v u
  keep : Keep (Foot β σ) w w'
  foot : ∀ k, Foot β' σ' k → Foot β σ k ∨ w.heap.size ≤ k
  vl : ∀ l ∈ v.locs, gt σ' l ≠ .free
  wfb : ∀ l b, gt σ' l = .live b → ∀ l' ∈ b.locs, gt σ' l' ≠ .free
  mono : ∀ l, gt σ l ≠ .free → gt σ' l ≠ .free
  len : σ'.length = σ.length

def upβ (β : Nat → Loc) (slot : Nat) (lc : Loc) : Nat → Loc := fun l => if l = slot then lc else β l
theorem upβ_same (β : Nat → Loc) (slot : Nat) (lc : Loc) : upβ β slot lc slot = lc := by simp [upβ]
theorem upβ_other {β : Nat → Loc} {slot : Nat} {lc : Loc} {l : Nat} (h : l ≠ slot) : upβ β slot lc l = β l := by simp [upβ, h]

section
variable {W0 : World} {P : Program} {β : Nat → Loc} {σ : Store} {w : World} {a : Act} {o : Oper} {s : St} {slot : Nat}

theorem Keep.below {ft : Nat → Prop} {w' : World} (h : Keep ft w w') (hb : Below W0.heap.size W0 w) (hf : ∀ k, ft k → W0.heap.size ≤ k) : Below W0.heap.size W0 w' :=
  ⟨h.os.trans hb.os, h.tape.trans hb.tape, h.output.trans hb.output, Nat.le_trans hb.size h.size, fun k hk => (h.block k (Nat.lt_of_lt_of_le hk hb.size) (fun hx => by have := hf k hx; omega)).trans (hb.block k hk)⟩

/-- A new block at a free place. -/
theorem trans_new (hr : Rel W0 β σ w) (wfb : ∀ l b, gt σ l = .live b → ∀ l' ∈ b.locs, gt σ l' ≠ .free) (hfree : gt σ slot = .free) (hlt : slot < σ.length)
    {b : Blk} {lc : Loc} {w' : World} (hk : Keep (fun _ => False) w w') (hb : BlkRel W0 β w' lc b) (hbl : ∀ l ∈ b.locs, gt σ l ≠ .free) (hown : ∀ k, own lc b.kind = some k → w.heap.size ≤ k)
    {v : AV} {u : Value} (hd : Den (upβ β slot lc) v u) (hv : ∀ l ∈ v.locs, l = slot ∨ gt σ l ≠ .free) :
    Trans W0 β σ w (upβ β slot lc) (pt σ slot (.live b)) w' v u := by
  have hne : ∀ l, gt σ l ≠ .free → l ≠ slot := fun l h e => h (e ▸ hfree)
  have hag : ∀ l, gt σ l ≠ .free → upβ β slot lc l = β l := fun l h => upβ_other (hne l h)
  have hg : ∀ l, gt (pt σ slot (.live b)) l = if l = slot then .live b else gt σ l := fun l => gt_pt σ slot l _ hlt
  have hmono : ∀ l, gt σ l ≠ .free → gt (pt σ slot (.live b)) l ≠ .free := fun l h => by rw [hg, if_neg (hne l h)]; exact h
  refine ⟨⟨hk.below hr.base (fun _ h => h.elim), ?_, ?_⟩, hag, hd, hk.mono (fun _ h => h.elim), ?_, ?_, ?_, hmono, length_pt _ _ _⟩
  · intro l b' hl
    rw [hg] at hl
    split at hl
    · rename_i e
      subst e
      simp only [Sl.live.injEq] at hl
      subst hl
      rw [upβ_same]
      exact hb.congr (fun l' hl' => hag l' (hbl l' hl'))
    · rename_i e
      rw [upβ_other e]
      exact ((hr.blk l b' hl).keep hk (fun _ _ h => h)).congr (fun l' hl' => hag l' (wfb l b' hl l' hl'))
  · intro l l' b1 b2 k h1 h2 o1 o2
    rw [hg] at h1 h2
    split at h1 <;> split at h2 <;> rename_i e1 e2
    · rw [e1, e2]
    · exfalso
      subst e1
      simp only [Sl.live.injEq] at h1
      subst h1
      rw [upβ_same] at o1
      rw [upβ_other e2] at o2
      have := (own_size (hr.blk l' b2 h2) o2).2.1
      have := hown k o1
      omega
    · exfalso
      subst e2
      simp only [Sl.live.injEq] at h2
      subst h2
      rw [upβ_same] at o2
      rw [upβ_other e1] at o1
      have := (own_size (hr.blk l b1 h1) o1).2.1
      have := hown k o2
      omega
    · rw [upβ_other e1] at o1
      rw [upβ_other e2] at o2
      exact hr.inj l l' b1 b2 k h1 h2 o1 o2
  · rintro k ⟨l, b', hl, ho⟩
    rw [hg] at hl
    split at hl
    · rename_i e
      subst e
      simp only [Sl.live.injEq] at hl
      subst hl
      rw [upβ_same] at ho
      exact .inr (hown k ho)
    · rename_i e
      rw [upβ_other e] at ho
      exact .inl ⟨l, b', hl, ho⟩
  · intro l hl
    rcases hv l hl with rfl | h
    · rw [hg]; simp
    · exact hmono l h
  · intro l b' hl l' hl'
    rw [hg] at hl
    split at hl
    · simp only [Sl.live.injEq] at hl
      subst hl
      exact hmono l' (hbl l' hl')
    · exact hmono l' (wfb l b' hl l' hl')

theorem flatB_iff {cs : List AV} : flatB cs = true ↔ AV.locsL cs = [] := by simp [flatB]

theorem blkLocs_flatB (k : BK) (cs : List AV) : ∀ l ∈ (⟨k, flatB cs, cs⟩ : Blk).locs, l ∈ AV.locsL cs := by
  intro l hl
  simp only [Blk.locs] at hl
  split at hl
  · cases hl
  · exact hl

/-- A box that has just been laid. -/
theorem box_new (hb : Below W0.heap.size W0 w) {cs : List AV} {vs : List Value} (hd : DenL β cs vs) (e : TypeId) (val : Value) :
    BlkRel W0 β (w.alloc (.cells vs.toArray e)) ⟨w.heap.size, 0, val⟩ ⟨.box, flatB cs, cs⟩ :=
  ⟨fun h => flatB_iff.1 h, rfl, hb.size, vs, [], e, 0, 0, hd, by simpa using heap_alloc_new w _, .inl (Nat.le_refl _)⟩

theorem keep_alloc (w : World) (o : Obj) : Keep (fun _ => False) w (w.alloc o) := Keep.alloc w o

theorem msound_alloc (hs : SRel W0 β s a w) {e : TypeId} (ho : o.op = .alloc e) {zs : List AV} (hz : zsT P e = some zs) (hfree : gt s.s slot = .free) (hlt : slot < s.s.length) :
    ∃ β' u w', (execOp a.eval o).run P w = .ok (.value u) w' ∧ Trans W0 β s.s w β' (pt s.s slot (.live ⟨.box, flatB zs, zs⟩)) w' (.ptr slot 0) u := by
  have hzv : ∃ z, (zeroValue e).run P w = .ok z w ∧ trVs z.cells.toList = some zs := by
    simp only [zsT] at hz
    cases hi : P.info? e with
    | none => simp [hi] at hz
    | some inf =>
      cases hz0 : inf.zero with
      | none => simp [hi, hz0] at hz
      | some z => exact ⟨z, by simp [zeroValue, typeInfo, hi, hz0], by simpa [hi, hz0] using hz⟩
  obtain ⟨z, hz1, hz2⟩ := hzv
  obtain ⟨dz, hzl⟩ := trVs_den (β := β) _ _ hz2
  refine ⟨_, .pointer (some ⟨w.heap.size, 0, none⟩), w.alloc (.cells z.cells e), ?_, trans_new hs.rel hs.wfb hfree hlt (keep_alloc w _) (lc := ⟨w.heap.size, 0, default⟩) (by simpa using box_new hs.rel.base dz e default)
    (fun l hl => by have := blkLocs_flatB _ _ l hl; rw [hzl] at this; cases this) (fun k hk => by simp [own] at hk; omega) ?_ (fun l hl => .inl (by simpa [AV.locs] using hl))⟩
  · simp [execOp, ho, Instr.alloc, hz1, newVar, newRow]
  · simp [Den, upβ_same]

theorem msound_box (hs : SRel W0 β s a w) {e : TypeId} {x : Operand} (ho : o.op = .box e x) {y : Opd} (hx : trOpd x = some y) (hne : (s.get y).cells ≠ []) (hl : ∀ l ∈ (s.get y).locs, gt s.s l ≠ .free) (hfree : gt s.s slot = .free) (hlt : slot < s.s.length) :
    ∃ β' u w', (execOp a.eval o).run P w = .ok (.value u) w' ∧ Trans W0 β s.s w β' (pt s.s slot (.live ⟨.box, flatB (s.get y).cells, (s.get y).cells⟩)) w' (.ptr slot 0) u := by
  have d := Den.cells (get_den hs.tm hx) hne
  refine ⟨_, .pointer (some ⟨w.heap.size, 0, none⟩), w.alloc (.cells (a.eval x).cells e), ?_, trans_new hs.rel hs.wfb hfree hlt (keep_alloc w _) (lc := ⟨w.heap.size, 0, default⟩) (by simpa using box_new hs.rel.base d e default)
    (fun l hl' => hl l (cells_locs _ l (blkLocs_flatB _ _ l hl'))) (fun k hk => by simp [own] at hk; omega) ?_ (fun l hl => .inl (by simpa [AV.locs] using hl))⟩
  · simp [execOp, ho, Instr.box, newVar, newRow]
  · simp [Den, upβ_same]

theorem repZs_den {zs : List AV} {z : Array Value} (h : DenL β zs z.toList) (n : Nat) (h0 : 0 < zs.length) :
    DenL β (repZs zs n) ((Array.range n).map (z[· % z.size]!)).toList := by
  have hl : z.size = zs.length := by simpa using h.length
  have key : ∀ (is : List Nat), DenL β (is.map fun i => nth zs (i % zs.length)) (is.map (z[· % z.size]!)) := by
    intro is
    induction is with
    | nil => simp [DenL]
    | cons i is ih =>
      simp only [List.map_cons]
      refine DenL_cons ?_ ih
      have hlt : i % zs.length < zs.length := Nat.mod_lt _ h0
      obtain ⟨u, hu, hd⟩ := h.get (i % zs.length) zs[i % zs.length] (by simp [hlt])
      rw [nth_eq, List.getElem?_eq_getElem hlt, Option.getD_some]
      have : z[i % z.size]! = u := by
        rw [hl]
        have : z[i % zs.length]? = some u := by simpa using hu
        simp [getElem!_def, this]
      rw [this]
      exact hd
  have := key (List.range n)
  simpa [repZs] using this

theorem repZs_length (zs : List AV) (n : Nat) : (repZs zs n).length = n := by simp [repZs]
theorem repZs_locs {zs : List AV} (h : AV.locsL zs = []) (n : Nat) : AV.locsL (repZs zs n) = [] := by
  apply List.eq_nil_iff_forall_not_mem.2
  intro l hl
  obtain ⟨x, hx, hl'⟩ := mem_locsL.1 hl
  simp only [repZs, List.mem_map] at hx
  obtain ⟨i, _, rfl⟩ := hx
  rw [nth_eq] at hl'
  cases hz : zs[i % zs.length]? with
  | none => simp [hz, AV.locs] at hl'
  | some y =>
    simp only [hz, Option.getD_some] at hl'
    have := locsL_get hz hl'
    rw [h] at this
    cases this

theorem fillA_length : ∀ (ps : List (Nat × Nat)) (vs cs out : List AV), fillA cs ps vs = some out → out.length = cs.length
  | [], [], cs, out, h => by simp only [fillA, Option.some.injEq] at h; rw [h]
  | [], v :: vs, cs, out, h => by simp [fillA] at h
  | p :: ps, [], cs, out, h => by simp [fillA] at h
  | (off, sz) :: ps, v :: vs, cs, out, h => by
    simp only [fillA] at h
    split at h
    · rename_i hc
      rw [fillA_length ps vs _ out h]
      simp [hc.1]
      omega
    · simp at h

theorem placesA_pos {sz : Nat} (h : 0 < sz) : ∀ (l : List (Nat × Operand)), ∀ p ∈ placesA sz l, 0 < p.2
  | [] => by simp [placesA]
  | (i, x) :: l => by
    intro p hp
    simp only [placesA, List.mem_cons] at hp
    rcases hp with rfl | hp
    · exact h
    · exact placesA_pos h l p hp

theorem msound_buildSlice (hs : SRel W0 β s a w) {t e : TypeId} {len : Nat} {parts : Array (Nat × Operand)} (ho : o.op = .buildSlice t len parts) (hT : P.underlying t = some (.slice e)) {xs : List Opd} (hx : trOpds (parts.toList.map (·.2)) = some xs)
    {sz : Nat} (hsz : szT P e = some sz) {zs : List AV} (hz : zsT P e = some zs) (hc : len * sz ≤ 16777216 ∧ zs.length = sz ∧ 0 < sz) {cs : List AV} (hf : fillA (repZs zs (len * sz)) (placesA sz parts.toList) (s.gets xs) = some cs)
    (hl : ∀ l ∈ AV.locsL (s.gets xs), gt s.s l ≠ .free) (hfree : gt s.s slot = .free) (hlt : slot < s.s.length) :
    ∃ β' u w', (execOp a.eval o).run P w = .ok (.value u) w' ∧ Trans W0 β s.s w β' (pt s.s slot (.live ⟨.row e sz, flatB cs, cs⟩)) w' (.row slot len) u := by
  have hzv : ∃ z, (zeroValue e).run P w = .ok z w ∧ trVs z.cells.toList = some zs := by
    simp only [zsT] at hz
    cases hi : P.info? e with
    | none => simp [hi] at hz
    | some inf =>
      cases hz0 : inf.zero with
      | none => simp [hi, hz0] at hz
      | some z => exact ⟨z, by simp [zeroValue, typeInfo, hi, hz0], by simpa [hi, hz0] using hz⟩
  obtain ⟨z, hz1, hz2⟩ := hzv
  obtain ⟨dz, hzl⟩ := trVs_den (β := β) _ _ hz2
  obtain ⟨h1, h2, h3⟩ := hc
  have d := gets_den hs.tm hx
  have hcells0 : DenL β (repZs zs (len * sz)) ((Array.range (len * sz)).map ((if len * sz = 0 then #[] else z.cells)[· % (if len * sz = 0 then #[] else z.cells).size]!)).toList := by
    by_cases h0 : len * sz = 0
    · rw [h0]; simp [repZs, DenL]
    · rw [if_neg h0]; exact repZs_den dz _ (by omega)
  obtain ⟨outv, hfill, hd⟩ := fill_den (fun i => some (i * sz, sz)) (placesA sz parts.toList) (parts.toList.map (·.1)) (s.gets xs) ((parts.toList.map (·.2)).map a.eval) _ _ cs
    (fun j i p q1 q2 => by rw [placesA_sound sz _ j i p q1 q2]) (by simp) (placesA_pos h3 _) d hcells0 hf
  have hlen : outv.length = len * sz := by rw [hd.length, fillA_length _ _ _ _ hf, repZs_length]
  have e1 : (parts.toList.map (·.1)).zip ((parts.toList.map (·.2)).map a.eval) = parts.toList.map fun p => (p.1, a.eval p.2) := by simp [List.zip_map']
  rw [e1] at hfill
  refine ⟨_, .slice (some ⟨w.heap.size, 0, none⟩) len len, w.alloc (.cells outv.toArray e), ?_, trans_new hs.rel hs.wfb hfree hlt (keep_alloc w _) (lc := ⟨w.heap.size, 0, .slice (some ⟨w.heap.size, 0, none⟩) len len⟩) ?_ ?_ ?_ ?_ (fun l hl => .inl (by simpa [AV.locs] using hl))⟩
  · simp only [execOp, ho, Instr.buildSlice, Sem.run_bind, run_underlying hT, Result.andThen_ok, run_szT hsz]
    rw [if_neg (by omega)]
    have e2 : (parts.map fun (x : Nat × Operand) => (x.fst, a.eval x.snd)).toList = parts.toList.map fun p => (p.1, a.eval p.2) := by simp
    rw [Array.toArray_toList] at hfill
    by_cases h0 : len * sz = 0
    · simp only [if_pos h0] at hfill ⊢
      simp only [Sem.run_bind, Sem.run_pure, Result.andThen_ok]
      rw [e2, hfill]
      simp [newRow]
    · simp only [if_neg h0] at hfill ⊢
      simp only [Sem.run_bind, Sem.run_pure, Result.andThen_ok, hz1]
      rw [e2, hfill]
      simp [newRow]
  · refine ⟨fun h => flatB_iff.1 h, rfl, outv, len, _, _, hd, rfl, ⟨hlen, .inr ⟨w.heap.size, len, outv.toArray, rfl, hs.rel.base.size, heap_alloc_new w _, Nat.le_refl _, ?_, by simpa using hlen, ?_⟩⟩, ?_⟩
    · have : len ≤ len * sz := Nat.le_mul_of_pos_right _ h3
      simp only [maxLen]; omega
    · rw [← hlen]; simp
    · simp [Value.ownBlock]
  · intro l hl'
    have := blkLocs_flatB _ _ l hl'
    rcases fillA_locs _ _ _ _ hf l this with q | q
    · rw [repZs_locs hzl] at q; cases q
    · exact hl l q
  · intro k hk; simp [own, Value.ownBlock] at hk; omega
  · refine ⟨by simp [upβ_same], _, _, rfl, Nat.le_refl _, fun _ => ?_⟩
    simp [upβ_same]

/-- A step that turns nothing. -/
theorem trans_same (hs : SRel W0 β s a w) {v : AV} {u : Value} (hd : Den β v u) (hv : ∀ l ∈ v.locs, gt s.s l ≠ .free) : Trans W0 β s.s w β s.s w v u :=
  ⟨hs.rel, fun _ _ => rfl, hd, Keep.refl _ _, fun _ h => .inl h, hv, hs.wfb, fun _ h => h, rfl⟩

/-- The cells of a block, as memory has them. -/
theorem blk_cells (hr : Rel W0 β σ w) {l : Nat} {b : Blk} (hl : gt σ l = .live b) : ∃ vs, DenL β b.cells vs ∧ ∀ j u, vs[j]? = some u → w.cell? ⟨(β l).blk, (β l).base + j, none⟩ = some u := by
  obtain ⟨_, h⟩ := hr.blk l b hl
  cases hk : b.kind with
  | ro =>
    simp only [hk] at h
    obtain ⟨h1, vs, hd, hc⟩ := h
    exact ⟨vs, hd, fun j u hj => by rw [hr.base.cell h1]; exact hc j u hj⟩
  | box =>
    simp only [hk] at h
    obtain ⟨h0, _, vs, sp, e, lo, hi, hd, hh, _⟩ := h
    refine ⟨vs, hd, fun j u hj => ?_⟩
    rw [h0, Nat.zero_add, cell_of_row w _ j _ e (lo, hi) hh]
    have hlt := (List.getElem?_eq_some_iff.1 hj).1
    simp [List.getElem?_append_left hlt, hj]
  | row e sz =>
    simp only [hk] at h
    obtain ⟨h0, vs, n, ad, cap, hd, hv, hown, hblk⟩ := h
    refine ⟨vs, hd, fun j u hj => ?_⟩
    cases hb : (β l).val.ownBlock with
    | none =>
      exfalso
      rcases hown.2 with ⟨_, rfl⟩ | ⟨g, cap', cur, e1, _⟩
      · have := hown.1; simp at this; subst this; simp at hj
      · rw [e1] at hb; simp [Value.ownBlock] at hb
    | some k =>
      have := hown.cells hb j u hj
      rw [addr_add] at this
      rw [h0, ← hblk k hb]
      exact this

/-- A read of a variable. -/
theorem read_den (hs : SRel W0 β s a w) {t : TypeId} {ag : Bool} (hag : aggT P t = some ag) {sz : Nat} (hsz : szT P t = some sz) {l off : Nat} {b : Blk} (hl : gt s.s l = .live b)
    {v : AV} (hv : (if ag then (if off + sz ≤ b.cells.length then some (AV.agg ((b.cells.drop off).take sz)) else none) else b.cells[off]?) = some v) :
    ∃ u, (loadVar t ⟨(β l).blk, (β l).base + off, none⟩).run P w = .ok u w ∧ Den β v u ∧ ∀ l' ∈ v.locs, gt s.s l' ≠ .free := by
  obtain ⟨vs, hd, hc⟩ := blk_cells hs.rel hl
  have hagg : (isAgg t).run P w = .ok ag w := by
    simp only [aggT] at hag
    split at hag <;> simp only [Option.some.injEq, reduceCtorEq] at hag <;> subst hag <;> simp_all [isAgg, run_underlying]
  have hfree : ∀ l' ∈ AV.locsL b.cells, gt s.s l' ≠ .free := by
    intro l' hl'
    cases hf : b.flat with
    | true =>
      have := (hs.rel.blk l b hl).1 hf
      rw [this] at hl'
      cases hl'
    | false => exact hs.wfb l b hl l' (by simpa [Blk.locs, hf] using hl')
  cases ag with
  | true =>
    simp only [if_true] at hv
    split at hv <;> simp only [reduceCtorEq, Option.some.injEq] at hv
    subst hv
    rename_i hle
    have hlv : vs.length = b.cells.length := hd.length
    refine ⟨.agg ((vs.drop off).take sz).toArray, ?_, ⟨_, rfl, DenL_take (DenL_drop hd off) sz⟩, fun l' hl' => hfree l' (locsL_drop (locsL_take (by simpa [AV.locs] using hl')))⟩
    have hload := run_loadCells_list (P := P) w ⟨(β l).blk, (β l).base + off, none⟩ ((vs.drop off).take sz) (fun j u hj => by
      rw [addr_add, Nat.add_assoc]
      refine hc (off + j) u ?_
      rw [List.getElem?_take] at hj
      split at hj
      · simpa using hj
      · simp at hj)
    have hn : ((vs.drop off).take sz).length = sz := by simp; omega
    rw [hn] at hload
    simp [loadVar, hagg, run_szT hsz, hload]
  | false =>
    simp only [Bool.false_eq_true, if_false] at hv
    obtain ⟨u, hu, hdu⟩ := hd.get _ _ hv
    refine ⟨u, ?_, hdu, fun l' hl' => hfree l' (locsL_get hv hl')⟩
    simp [loadVar, hagg, hc off u hu]

theorem msound_load (hs : SRel W0 β s a w) {t : TypeId} {x : Operand} (ho : o.op = .load t x) {ag : Bool} (hag : aggT P t = some ag) {sz : Nat} (hsz : szT P t = some sz) {y : Opd} (hx : trOpd x = some y) {l off : Nat} (hy : s.get y = .ptr l off) {b : Blk} (hl : gt s.s l = .live b)
    {v : AV} (hv : (if ag then (if off + sz ≤ b.cells.length then some (AV.agg ((b.cells.drop off).take sz)) else none) else b.cells[off]?) = some v) :
    ∃ u, (execOp a.eval o).run P w = .ok (.value u) w ∧ Trans W0 β s.s w β s.s w v u := by
  have d := get_den hs.tm hx
  rw [hy] at d
  have ep := d.ptr
  obtain ⟨u, hr, hd, hf⟩ := read_den (P := P) hs hag hsz hl hv
  exact ⟨u, by simp [execOp, ho, Instr.loadAt, ep, Instr.sureAddr, hr], trans_same hs hd hf⟩
end
end Go.AX
namespace Go.AX
open Go.RowKit (Below)
section
variable {W0 : World} {P : Program} {β : Nat → Loc} {σ : Store} {w : World} {a : Act} {o : Oper} {s : St} {slot : Nat}

theorem setCell_row (w : World) (g i : Nat) (cur : Array Value) (e : TypeId) (fr : Nat × Nat) (v : Value) (hg : w.heap[g]? = some (.cells cur e fr)) :
    (w.setCell ⟨g, i, none⟩ v).heap[g]? = some (.cells (cur.setIfInBounds i v) e fr) := by
  simp [World.setCell, Array.getElem?_modify, hg]
theorem keep_setCell (w : World) (g i : Nat) (v : Value) : Keep (fun k => k = g) w (w.setCell ⟨g, i, none⟩ v) :=
  ⟨rfl, rfl, rfl, by simp, fun k _ hn => heap_setCell_other w ⟨g, i, none⟩ k v hn⟩

theorem run_storeCells_ex (P : Program) (g o : Nat) (e : TypeId) (fr : Nat × Nat) : ∀ (vs : List Value) (i : Nat) (cur : Array Value) (w : World), w.heap[g]? = some (.cells cur e fr) → o + i + vs.length ≤ cur.size →
    (∀ j, j < o + i + vs.length → ¬ (fr.1 ≤ j ∧ j < fr.2)) → (∀ v ∈ vs, v.oneCell' = true) →
    ∃ w', (storeCells ⟨g, o, none⟩ vs i).run P w = .ok () w' ∧ w'.heap[g]? = some (.cells (cur.toList.take (o + i) ++ vs ++ cur.toList.drop (o + i + vs.length)).toArray e fr) ∧ Keep (fun k => k = g) w w'
  | [], i, cur, w, hg, _, _, _ => by
    refine ⟨w, by simp [storeCells], ?_, Keep.refl _ _⟩
    simp only [List.append_nil, List.length_nil, Nat.add_zero, List.take_append_drop, Array.toArray_toList]
    exact hg
  | v :: rest, i, cur, w, hg, hl, hfr, h1 => by
    have hi : o + i < cur.size := by simp at hl; omega
    have hcell : w.cell? ⟨g, o + i, none⟩ = some cur[o + i] := by simp [World.cell?, hg, hi]
    have hfro : w.frozen? ⟨g, o + i, none⟩ = false := by
      have := hfr (o + i) (by simp)
      obtain ⟨lo, hi'⟩ := fr
      simp only [World.frozen?, hg]
      simpa using this
    have hst : (store ((⟨g, o, none⟩ : Addr).add i) v).run P w = .ok () (w.setCell ⟨g, o + i, none⟩ v) := by
      rw [addr_add, run_store P w _ v _ (h1 v (by simp)), hcell]
      simp [hfro]
    obtain ⟨w', hr, hh, hk⟩ := run_storeCells_ex P g o e fr rest (i + 1) _ _ (setCell_row w g (o + i) cur e fr v hg) (by simp at hl ⊢; omega) (fun j hj => hfr j (by simp; omega)) (fun x hx => h1 x (by simp [hx]))
    refine ⟨w', by simp only [storeCells, Sem.run_bind, hst, Result.andThen_ok, hr], ?_, (keep_setCell w g (o + i) v).trans hk (fun x hx => .inl hx)⟩
    rw [hh]
    congr 3
    have e1 : (cur.setIfInBounds (o + i) v).toList.take (o + (i + 1)) = cur.toList.take (o + i) ++ [v] := by
      rw [Array.toList_setIfInBounds, ← Nat.add_assoc, List.take_succ_eq_append_getElem (by simpa using hi)]
      simp only [List.take_set, List.getElem_set_self]
      rw [List.set_eq_of_length_le (by simp; omega)]
    have e2 : (cur.setIfInBounds (o + i) v).toList.drop (o + (i + 1) + rest.length) = cur.toList.drop (o + i + (rest.length + 1)) := by
      rw [Array.toList_setIfInBounds, List.drop_set_of_lt (by omega)]
      congr 1
      omega
    rw [e1, e2]
    simp

theorem one_oneCell {x : AV} {v : Value} (h : Den β x v) (h1 : x.one = true) : v.oneCell' = true := by
  cases x <;> simp only [AV.one, Bool.false_eq_true] at h1
  case fn f fs cap => obtain ⟨us, vs, rfl, _⟩ := h; rfl
  case iface t y => obtain ⟨z, rfl, _⟩ := h; rfl
  case row l n => obtain ⟨_, a, c, rfl, _⟩ := h; rfl
  case sl l off n => obtain ⟨a, c, rfl, _⟩ := h; rfl
  all_goals (simp only [Den] at h; subst h; rfl)
theorem all_oneCell : ∀ {xs : List AV} {vs : List Value}, DenL β xs vs → xs.all AV.one = true → ∀ v ∈ vs, v.oneCell' = true
  | [], vs, h, _ => by simp [DenL] at h; simp [h]
  | x :: xs, vs, h, h1 => by
    obtain ⟨u, us, rfl, hd, hds⟩ := h
    simp only [List.all_cons, Bool.and_eq_true] at h1
    intro v hv
    simp only [List.mem_cons] at hv
    rcases hv with rfl | hv
    · exact one_oneCell hd h1.1
    · exact all_oneCell hds h1.2 v hv

/-- A block written in place. -/
theorem trans_put (hr : Rel W0 β σ w) (wfb : ∀ l b, gt σ l = .live b → ∀ l' ∈ b.locs, gt σ l' ≠ .free) {l : Nat} {b b' : Blk} (hl : gt σ l = .live b) {g : Nat} (hg : own (β l) b.kind = some g) (hkind : b'.kind = b.kind) {w' : World} (hk : Keep (fun k => k = g) w w')
    (hb : BlkRel W0 β w' (β l) b') (hbl : ∀ l' ∈ b'.locs, gt σ l' ≠ .free) {v : AV} {u : Value} (hd : Den β v u) (hv : ∀ l ∈ v.locs, gt σ l ≠ .free) : Trans W0 β σ w β (pt σ l (.live b')) w' v u := by
  have hlt : l < σ.length := gt_lt (by rw [hl]; simp)
  have hgt : ∀ l', gt (pt σ l (.live b')) l' = if l' = l then .live b' else gt σ l' := fun l' => gt_pt σ l l' _ hlt
  have hmono : ∀ l', gt σ l' ≠ .free → gt (pt σ l (.live b')) l' ≠ .free := fun l' h => by rw [hgt]; split <;> simp_all
  have hgB : W0.heap.size ≤ g := (own_size (hr.blk l b hl) hg).1
  refine ⟨⟨hk.below hr.base (fun k h => by subst h; exact hgB), ?_, ?_⟩, fun _ _ => rfl, hd, hk.mono (fun k h => ⟨l, b, hl, by rw [h]; exact hg⟩), ?_, fun x hx => hmono x (hv x hx), ?_, hmono, length_pt _ _ _⟩
  · intro l' b2 h2
    rw [hgt] at h2
    split at h2
    · rename_i e
      subst e
      simp only [Sl.live.injEq] at h2
      subst h2
      exact hb
    · rename_i e
      exact (hr.blk l' b2 h2).keep hk (fun k hk' e' => e (hr.inj l' l b2 b k h2 hl hk' (by rw [e']; exact hg)))
  · intro l1 l2 b1 b2 k h1 h2 o1 o2
    rw [hgt] at h1 h2
    have fix : ∀ {l' : Nat} {b1 : Blk}, (if l' = l then Sl.live b' else gt σ l') = .live b1 → own (β l') b1.kind = some k → ∃ b2, gt σ l' = .live b2 ∧ own (β l') b2.kind = some k := by
      intro l' b1 h ho
      split at h
      · rename_i e
        subst e
        simp only [Sl.live.injEq] at h
        subst h
        exact ⟨b, hl, by rw [← hkind]; exact ho⟩
      · exact ⟨b1, h, ho⟩
    obtain ⟨c1, g1, p1⟩ := fix h1 o1
    obtain ⟨c2, g2, p2⟩ := fix h2 o2
    exact hr.inj l1 l2 c1 c2 k g1 g2 p1 p2
  · rintro k ⟨l', b1, h1, ho⟩
    rw [hgt] at h1
    split at h1
    · rename_i e
      subst e
      simp only [Sl.live.injEq] at h1
      subst h1
      exact .inl ⟨l', b, hl, by rw [← hkind]; exact ho⟩
    · exact .inl ⟨l', b1, h1, ho⟩
  · intro l' b1 h1 l2 hl2
    rw [hgt] at h1
    split at h1
    · simp only [Sl.live.injEq] at h1
      subst h1
      exact hmono l2 (hbl l2 hl2)
    · exact hmono l2 (wfb l' b1 h1 l2 hl2)

theorem blk_locs_free (hr : Rel W0 β σ w) (wfb : ∀ l b, gt σ l = .live b → ∀ l' ∈ b.locs, gt σ l' ≠ .free) {l : Nat} {b : Blk} (hl : gt σ l = .live b) : ∀ l' ∈ AV.locsL b.cells, gt σ l' ≠ .free := by
  intro l' hl'
  cases hf : b.flat with
  | true =>
    have := (hr.blk l b hl).1 hf
    rw [this] at hl'
    cases hl'
  | false => exact wfb l b hl l' (by simpa [Blk.locs, hf] using hl')

theorem msound_store (hs : SRel W0 β s a w) {t : TypeId} {x y : Operand} (ho : o.op = .store t x y) {sz : Nat} (hsz : szT P t = some sz) {p q : Opd} (hx : trOpd x = some p) (hy : trOpd y = some q) {l off : Nat} (hp : s.get p = .ptr l off) {b : Blk} (hl : gt s.s l = .live b) (hql : ∀ l ∈ (s.get q).locs, gt s.s l ≠ .free)
    (h0 : 0 < sz) (hc : b.kind ≠ .ro ∧ (s.get q).cells.length = sz ∧ off + sz ≤ b.cells.length ∧ (s.get q).cells.all AV.one ∧ (b.flat = true → flatB (s.get q).cells = true)) :
    ∃ w', (execOp a.eval o).run P w = .ok .skip w' ∧ Trans W0 β s.s w β (pt s.s l (.live ⟨b.kind, b.flat, b.cells.take off ++ (s.get q).cells ++ b.cells.drop (off + sz)⟩)) w' .any undef := by
  obtain ⟨hk, hlen, hoff, hone, hflat⟩ := hc
  have dp := get_den hs.tm hx
  rw [hp] at dp
  have ep := dp.ptr
  have dq := get_den hs.tm hy
  have hbl := blk_locs_free hs.rel hs.wfb hl
  have hnewflat : b.flat = true → AV.locsL (b.cells.take off ++ (s.get q).cells ++ b.cells.drop (off + sz)) = [] := by
    intro hf
    have h0 := (hs.rel.blk l b hl).1 hf
    apply List.eq_nil_iff_forall_not_mem.2
    intro l' hl'
    rw [locsL_append, locsL_append, List.mem_append, List.mem_append] at hl'
    rcases hl' with (h | h) | h
    · have := locsL_take h; rw [h0] at this; cases this
    · rw [flatB_iff.1 (hflat hf)] at h; cases h
    · have := locsL_drop h; rw [h0] at this; cases this
  have hnewlocs : ∀ l' ∈ (⟨b.kind, b.flat, b.cells.take off ++ (s.get q).cells ++ b.cells.drop (off + sz)⟩ : Blk).locs, gt s.s l' ≠ .free := by
    intro l' hl'
    simp only [Blk.locs] at hl'
    split at hl'
    · cases hl'
    · rw [locsL_append, locsL_append, List.mem_append, List.mem_append] at hl'
      rcases hl' with (h | h) | h
      · exact hbl l' (locsL_take h)
      · exact hql l' (cells_locs _ l' h)
      · exact hbl l' (locsL_drop h)
  have hpos : (s.get q).cells ≠ [] := by intro e; rw [e] at hlen; simp at hlen; omega
  have dc := Den.cells dq hpos
  have hone' := all_oneCell dc hone
  have hul : (a.eval y).cells.toList.length = sz := by rw [dc.length]; exact hlen
  have hus : (a.eval y).cells.size = sz := by simpa using hul
  have hexec : ∀ w', (storeCells ⟨(β l).blk, (β l).base + off, none⟩ (a.eval y).cells.toList 0).run P w = .ok () w' → (execOp a.eval o).run P w = .ok .skip w' := by
    intro w' hw
    simp [execOp, ho, Instr.storeAt, ep, Instr.sureAddr, storeVar, run_szT hsz, hus, hw]
  obtain ⟨hf0, hrel⟩ := hs.rel.blk l b hl
  obtain ⟨bk, bf, bc⟩ := b
  cases bk with
  | ro => exact absurd rfl hk
  | box =>
    obtain ⟨h1, h2, vs, sp, e, lo, hi, h3, h4, h5⟩ := hrel
    have hvl : vs.length = bc.length := h3.length
    obtain ⟨w', hr, hh, hkp⟩ := run_storeCells_ex P (β l).blk ((β l).base + off) e (lo, hi) (a.eval y).cells.toList 0 _ w h4 (by simp [h1, hus]; simp at hoff; omega) (fun j hj => by simp [h1, hus] at hj; simp at hoff ⊢; omega) hone'
    refine ⟨w', hexec w' hr, trans_put (b' := ⟨.box, bf, bc.take off ++ (s.get q).cells ++ bc.drop (off + sz)⟩) hs.rel hs.wfb hl (g := (β l).blk) (by simp [own]) rfl hkp ⟨hnewflat, h1, h2, vs.take off ++ (a.eval y).cells.toList ++ vs.drop (off + sz), sp, e, lo, hi, ?_, ?_, ?_⟩ hnewlocs (v := .any) (by simp [Den]) (fun _ h => by simp [AV.locs] at h)⟩
    · exact DenL_append (DenL_append (DenL_take h3 off) dc) (DenL_drop h3 (off + sz))
    · rw [hh]
      congr 3
      simp only [h1, Nat.zero_add, Nat.add_zero, hul]
      simp at hoff
      rw [List.take_append_of_le_length (by omega), List.drop_append_of_le_length (by omega)]
      simp
    · simp only [List.length_append, List.length_take, List.length_drop, hul]
      simp at hoff
      omega
  | row e sz' =>
    obtain ⟨h1, vs, n, ad, cap, h3, h4, h5, h6⟩ := hrel
    have hvl : vs.length = bc.length := h3.length
    rcases h5.2 with ⟨_, rfl⟩ | ⟨g, cap', cur, e1, e2, e3, e4, e5, e6, e7⟩
    · exfalso
      have := h5.1
      simp at this
      subst this
      simp at hvl hoff
      omega
    · have hgb : g = (β l).blk := h6 g (by rw [e1]; rfl)
      subst hgb
      have hcur : vs.length ≤ cur.size := by
        have := congrArg List.length e7
        simp at this
        omega
      obtain ⟨w', hr, hh, hkp⟩ := run_storeCells_ex P (β l).blk ((β l).base + off) e (0, 0) (a.eval y).cells.toList 0 _ w e3 (by simp [h1, hus]; simp at hoff; omega) (fun j hj => by simp) hone'
      refine ⟨w', hexec w' hr, trans_put (b' := ⟨.row e sz', bf, bc.take off ++ (s.get q).cells ++ bc.drop (off + sz)⟩) hs.rel hs.wfb hl (g := (β l).blk) (by simp [own, e1, Value.ownBlock]) rfl hkp ⟨hnewflat, h1, vs.take off ++ (a.eval y).cells.toList ++ vs.drop (off + sz), n, ad, cap, ?_, h4, ?_, h6⟩ hnewlocs (v := .any) (by simp [Den]) (fun _ h => by simp [AV.locs] at h)⟩
      · exact DenL_append (DenL_append (DenL_take h3 off) dc) (DenL_drop h3 (off + sz))
      · refine ⟨?_, .inr ⟨(β l).blk, cap', _, e1, e2, hh, e4, e5, ?_, ?_⟩⟩
        · simp only [List.length_append, List.length_take, List.length_drop, hul]
          have := h5.1
          simp at hoff
          omega
        · simp only [List.size_toArray, List.length_append, List.length_take, List.length_drop, hul, h1, Array.length_toList]
          simp at hoff
          omega
        · simp only [h1, Nat.zero_add, Nat.add_zero, hul]
          simp at hoff
          have hlen' : vs.length = n * sz' := h5.1
          rw [← hlen'] at e7 ⊢
          rw [← e7]
          simp only [List.length_take, Array.length_toList]
          rw [List.take_append, List.take_append]
          simp only [List.length_append, List.length_take, Array.length_toList, hul, List.take_take, List.drop_take]
          have m1 : min vs.length cur.size = vs.length := by omega
          have m2 : min off cur.size = off := by omega
          rw [m1, m2]
          have m3 : min vs.length off = off := by omega
          have m4 : min off vs.length = off := by omega
          rw [m3, m4]
          congr 1
          congr 1
          rw [List.take_of_length_le (by rw [hul]; omega)]
end
end Go.AX
namespace Go.AX
open Go.RowKit (Below)
section
variable {W0 : World} {P : Program} {β : Nat → Loc} {σ : Store} {w : World} {a : Act} {o : Oper} {s : St} {slot : Nat}

/-- A block that goes, and a new one that may lie where it lay. -/
theorem trans_move (hr : Rel W0 β σ w) (wfb : ∀ l b, gt σ l = .live b → ∀ l' ∈ b.locs, gt σ l' ≠ .free) {l : Nat} {b : Blk} (hl : gt σ l = .live b) (hfree : gt σ slot = .free) (hlt : slot < σ.length)
    {b' : Blk} {lc : Loc} {w' : World} (hk : Keep (fun k => own (β l) b.kind = some k) w w') (hb : BlkRel W0 β w' lc b') (hbl : ∀ l' ∈ b'.locs, gt σ l' ≠ .free) (hown : ∀ k, own lc b'.kind = some k → own (β l) b.kind = some k ∨ w.heap.size ≤ k)
    {v : AV} {u : Value} (hd : Den (upβ β slot lc) v u) (hv : ∀ l ∈ v.locs, l = slot ∨ gt σ l ≠ .free) :
    Trans W0 β σ w (upβ β slot lc) (pt (pt σ l .dead) slot (.live b')) w' v u := by
  have hl0 : l < σ.length := gt_lt (by rw [hl]; simp)
  have hls : l ≠ slot := fun e => by rw [e, hfree] at hl; cases hl
  have hne : ∀ x, gt σ x ≠ .free → x ≠ slot := fun x h e => h (e ▸ hfree)
  have hag : ∀ x, gt σ x ≠ .free → upβ β slot lc x = β x := fun x h => upβ_other (hne x h)
  have hg : ∀ x, gt (pt (pt σ l .dead) slot (.live b')) x = if x = slot then .live b' else if x = l then .dead else gt σ x := by
    intro x
    rw [gt_pt _ _ _ _ (by rw [length_pt]; exact hlt), gt_pt _ _ _ _ hl0]
  have hmono : ∀ x, gt σ x ≠ .free → gt (pt (pt σ l .dead) slot (.live b')) x ≠ .free := fun x h => by
    rw [hg, if_neg (hne x h)]
    split
    · simp
    · exact h
  have hft : ∀ k, own (β l) b.kind = some k → W0.heap.size ≤ k := fun k hk => (own_size (hr.blk l b hl) hk).1
  have live : ∀ {x : Nat} {b1 : Blk}, gt (pt (pt σ l .dead) slot (.live b')) x = .live b1 → (x = slot ∧ b1 = b') ∨ (x ≠ slot ∧ x ≠ l ∧ gt σ x = .live b1) := by
    intro x b1 h
    rw [hg] at h
    split at h
    · rename_i e
      simp only [Sl.live.injEq] at h
      exact .inl ⟨e, h.symm⟩
    · split at h
      · cases h
      · exact .inr ⟨by assumption, by assumption, h⟩
  refine ⟨⟨hk.below hr.base hft, ?_, ?_⟩, hag, hd, hk.mono (fun k h => ⟨l, b, hl, h⟩), ?_, ?_, ?_, hmono, by rw [length_pt, length_pt]⟩
  · intro x b1 hx
    rcases live hx with ⟨rfl, rfl⟩ | ⟨n1, n2, h⟩
    · rw [upβ_same]
      exact hb.congr (fun l' hl' => hag l' (hbl l' hl'))
    · rw [upβ_other n1]
      exact ((hr.blk x b1 h).keep hk (fun k hk1 hk2 => n2 (hr.inj x l b1 b k h hl hk1 hk2))).congr (fun l' hl' => hag l' (wfb x b1 h l' hl'))
  · intro x y b1 b2 k h1 h2 o1 o2
    rcases live h1 with ⟨e1, rfl⟩ | ⟨n1, m1, g1⟩ <;> rcases live h2 with ⟨e2, rfl⟩ | ⟨n2, m2, g2⟩
    · rw [e1, e2]
    · exfalso
      subst e1
      rw [upβ_same] at o1
      rw [upβ_other n2] at o2
      rcases hown k o1 with h | h
      · exact m2 (hr.inj y l b2 b k g2 hl o2 h)
      · have := (own_size (hr.blk y b2 g2) o2).2.1
        omega
    · exfalso
      subst e2
      rw [upβ_same] at o2
      rw [upβ_other n1] at o1
      rcases hown k o2 with h | h
      · exact m1 (hr.inj x l b1 b k g1 hl o1 h)
      · have := (own_size (hr.blk x b1 g1) o1).2.1
        omega
    · rw [upβ_other n1] at o1
      rw [upβ_other n2] at o2
      exact hr.inj x y b1 b2 k g1 g2 o1 o2
  · rintro k ⟨x, b1, hx, ho⟩
    rcases live hx with ⟨rfl, rfl⟩ | ⟨n1, n2, h⟩
    · rw [upβ_same] at ho
      rcases hown k ho with h | h
      · exact .inl ⟨l, b, hl, h⟩
      · exact .inr h
    · rw [upβ_other n1] at ho
      exact .inl ⟨x, b1, h, ho⟩
  · intro x hx
    rcases hv x hx with rfl | h
    · rw [hg]; simp
    · exact hmono x h
  · intro x b1 hx l' hl'
    rcases live hx with ⟨rfl, rfl⟩ | ⟨n1, n2, h⟩
    · exact hmono l' (hbl l' hl')
    · exact hmono l' (wfb x b1 h l' hl')

/-- append, from a slice that is told. -/
theorem run_append3 (base : Nat) (t ty e : TypeId) (i : TypeInfo) (z : Value) (ht : P.underlying t = some (.slice e)) (hi : P.info? e = some i) (hz : i.zero = some z) (hzs : z.cells.size = i.size) (hsz : 0 < i.size)
    (v : Value) (n : Nat) (xs : List Value) (hown : w.ownsRow base e i.size v n xs)
    (ad : Option Addr) (m c : Nat) (news : List Value) (hl : news.length = m * i.size) (hnews : ∀ ad', ad = some ad' → ∀ j u, news[j]? = some u → w.cell? (ad'.add j) = some u) (had : ad = none → m = 0) (h1 : ∀ u ∈ news, u.oneCell' = true)
    (h63 : n + m ≤ 9223372036854775807) (hbytes : (n + m) * i.bytes ≤ 140737488355328) (hbase : base ≤ w.heap.size) :
    ∃ v' w', (Builtin.append_ #[t, t] ty #[v, .slice ad m c]).run P w = .ok v' w' ∧ w'.ownsRow base e i.size v' (n + m) (xs ++ news) ∧ w.grownBy w' v.ownBlock ∧ (v'.ownBlock = v.ownBlock ∨ v'.ownBlock = some w.heap.size) := by
  cases ad with
  | none =>
    have hm := had rfl
    subst hm
    have hn : news = [] := List.eq_nil_of_length_eq_zero (by simpa using hl)
    subst hn
    refine ⟨v, w, ?_, by simpa using hown, ⟨rfl, rfl, rfl, Nat.le_refl _, fun _ _ _ => rfl⟩, .inl rfl⟩
    rcases hown.2 with ⟨rfl, rfl⟩ | ⟨g, cap, cur, rfl, _, _, hnc, _⟩
    · simp [Builtin.append_, run_underlying ht, sizeOf, typeInfo, hi, Builtin.lenOf, Builtin.firstCells]
    · simp [Builtin.append_, run_underlying ht, sizeOf, typeInfo, hi, Builtin.lenOf, Builtin.firstCells, hnc, storeCells]
  | some ad =>
    obtain ⟨v', w', h2, h3, h4, _⟩ := run_append_own (P := P) w base t ty e i z i.size i.bytes ht hi hz rfl rfl hzs hsz v n xs hown ad m c news hl (hnews ad rfl) h1 (by simp only [maxLen]; omega) hbytes hbase
    refine ⟨v', w', h2, h3, h4, ?_⟩
    rcases hown.2 with ⟨rfl, rfl⟩ | ⟨g, cap, cur, rfl, hbg, hg, hnc, hcm, hcs, htake⟩
    · by_cases hm : m = 0
      · subst hm
        have hn : news = [] := List.eq_nil_of_length_eq_zero (by simpa using hl)
        subst hn
        have hr : (Builtin.append_ #[t, t] ty #[.slice none 0 0, .slice (some ad) 0 c]).run P w = .ok (.slice none 0 0) w := by
          simp [Builtin.append_, run_underlying ht, sizeOf, typeInfo, hi, Builtin.lenOf, Builtin.firstCells, loadCells, loadCellsFrom]
        rw [hr] at h2
        simp only [Result.ok.injEq] at h2
        rw [← h2.1]
        exact .inl rfl
      · have hr := run_append_nil (P := P) w t ty e i z ht hi hz ad m c news hl (hnews ad rfl) (by omega) (by omega) (by simp only [Nat.zero_add] at hbytes; omega)
        rw [hr] at h2
        simp only [Result.ok.injEq] at h2
        rw [← h2.1]
        exact .inr rfl
    · by_cases hroom : n + m ≤ cap
      · have hfit : n * i.size + news.length ≤ cur.size := by rw [hl, hcs, ← Nat.add_mul]; exact Nat.mul_le_mul_right _ hroom
        have hr := run_append_room (P := P) w t ty e i ht hi g n cap cur hg ad m c news hl (hnews ad rfl) h1 hroom hfit
        rw [hr] at h2
        simp only [Result.ok.injEq] at h2
        rw [← h2.1]
        exact .inl rfl
      · have holds : ∀ j u, xs[j]? = some u → w.cell? ((⟨g, 0, none⟩ : Addr).add j) = some u := hown.cells (g := g) rfl
        have hr := run_append_grow (P := P) w t ty e i z ht hi hz ⟨g, 0, none⟩ n cap xs hown.1 holds ad m c news hl (hnews ad rfl) (by omega) (by omega) (growslice_fits (by omega) hbytes)
        rw [hr] at h2
        simp only [Result.ok.injEq] at h2
        rw [← h2.1]
        exact .inr rfl

/-- The cells of a slice that is told. -/
theorem cellsOf_den (hr : Rel W0 β σ w) {y : AV} {l off m : Nat} (hs : y.slice3 = some (l, off, m)) {c : Blk} (hl : gt σ l = .live c) {sz : Nat} {news : List AV} (hn : cellsOf sz y c = some news) :
    ∃ us, DenL β news us ∧ us.length = m * sz ∧ (∀ j u, us[j]? = some u → w.cell? ⟨(β l).blk, (β l).base + (off + j), none⟩ = some u) ∧ (∀ x ∈ AV.locsL news, x ∈ AV.locsL c.cells) := by
  simp only [cellsOf, hs] at hn
  split at hn <;> simp only [reduceCtorEq, Option.some.injEq] at hn
  rename_i hle
  subst hn
  obtain ⟨vs, hd, hc⟩ := blk_cells hr hl
  have hvl : vs.length = c.cells.length := hd.length
  refine ⟨(vs.drop off).take (m * sz), DenL_take (DenL_drop hd off) _, by simp; omega, fun j u hj => ?_, fun x hx => locsL_drop (locsL_take hx)⟩
  rw [List.getElem?_take] at hj
  split at hj
  · exact hc (off + j) u (by simpa using hj)
  · simp at hj

structure AppInfo (P : Program) (t e : TypeId) (sz bytes : Nat) : Prop where
  ht : P.underlying t = some (.slice e)
  hi : ∃ i z, P.info? e = some i ∧ i.zero = some z ∧ z.cells.size = i.size ∧ i.size = sz ∧ i.bytes = bytes ∧ 0 < sz

theorem append_exec {t : TypeId} {x y : Operand} (ho : o.op = .call { callee := .builtin .append, args := #[x, y], argTypes := #[t, t] }) {v : Value} {w' : World} (h : (Builtin.append_ #[t, t] o.type #[a.eval x, a.eval y]).run P w = .ok v w') :
    (execOp a.eval o).run P w = .ok (.value v) w' := by
  simp [execOp, ho, resolve, invoke, builtin, h]

theorem msound_append_row (hs : SRel W0 β s a w) {t e : TypeId} {sz bytes : Nat} (hI : AppInfo P t e sz bytes) {x y : Operand} (ho : o.op = .call { callee := .builtin .append, args := #[x, y], argTypes := #[t, t] }) {p q : Opd} (hx : trOpd x = some p) (hy : trOpd y = some q)
    {l n : Nat} (hp : s.get p = .row l n) {l' off m : Nat} (hq : (s.get q).slice3 = some (l', off, m)) {b c : Blk} (hb : gt s.s l = .live b) (hc : gt s.s l' = .live c) {news : List AV} (hn : cellsOf sz (s.get q) c = some news)
    (hcond : b.kind = .row e sz ∧ b.cells.length = n * sz ∧ l ≠ l' ∧ news.all AV.one ∧ n + m ≤ 9223372036854775807 ∧ (n + m) * bytes ≤ 140737488355328) (hfree : gt s.s slot = .free) (hlt : slot < s.s.length) :
    ∃ β' u w', (execOp a.eval o).run P w = .ok (.value u) w' ∧ Trans W0 β s.s w β' (pt (pt s.s l .dead) slot (.live ⟨.row e sz, b.flat && flatB news, b.cells ++ news⟩)) w' (.row slot (n + m)) u := by
  obtain ⟨hk, hlen, hne, hone, h63, hby⟩ := hcond
  obtain ⟨i, z, hi, hz, hzs, rfl, rfl, hpos⟩ := hI.hi
  have dp := get_den hs.tm hx
  rw [hp] at dp
  obtain ⟨ev, ad0, cap0, ev', _, _⟩ := dp
  have dq := get_den hs.tm hy
  obtain ⟨ad, cap, ey, hmc, had⟩ := Den.slice3 hq dq
  obtain ⟨us, hdu, hul, hcell, hnl⟩ := cellsOf_den hs.rel hq hc hn
  obtain ⟨hf0, hrel⟩ := hs.rel.blk l b hb
  rw [hk] at hrel
  obtain ⟨hb0, vs, n', a0, c0, hdv, hval, hown, hblk⟩ := hrel
  have hnn : n' = n := by rw [← ev, ev'] at hval; simp only [Value.slice.injEq] at hval; exact hval.2.1.symm
  subst hnn
  rw [← ev] at hown hblk
  obtain ⟨v', w', hr, hown', hgrow, hob⟩ := run_append3 (P := P) W0.heap.size t o.type e i z hI.ht hi hz hzs hpos (a.eval x) n' vs hown ad m cap us hul (fun ad' e' j u hj => by
      have hm0 : 0 < m := by
        have := (List.getElem?_eq_some_iff.1 hj).1
        rw [hul] at this
        exact Nat.pos_of_mul_pos_left (Nat.lt_of_le_of_lt (Nat.zero_le _) this) |> fun h => by
          rcases Nat.eq_zero_or_pos m with h0 | h0
          · rw [h0] at this; simp at this
          · exact h0
      have := had hm0
      rw [e'] at this
      simp only [Option.some.injEq] at this
      rw [this, addr_add, Nat.add_assoc]
      exact hcell j u hj) (fun e' => by
      rcases Nat.eq_zero_or_pos m with h0 | h0
      · exact h0
      · have := had h0; rw [e'] at this; cases this) (all_oneCell hdu hone) h63 hby hs.rel.base.size
  have hsl : ∃ a1 c1, v' = .slice a1 (n' + m) c1 ∧ n' + m ≤ c1 ∧ (0 < n' + m → ∃ g, a1 = some ⟨g, 0, none⟩ ∧ v'.ownBlock = some g) ∧ (v'.ownBlock = none → n' + m = 0) := by
    rcases hown'.2 with ⟨rfl, h0⟩ | ⟨g, c1, cur, rfl, _, _, h5, _⟩
    · exact ⟨none, 0, by rw [h0], by omega, fun h => by omega, fun _ => h0⟩
    · exact ⟨some ⟨g, 0, none⟩, c1, rfl, h5, fun _ => ⟨g, rfl, rfl⟩, fun h => by simp [Value.ownBlock] at h⟩
  obtain ⟨a1, c1, ev1, hc1, hpos1, hnone1⟩ := hsl
  have hexec := append_exec (o := o) ho (by rw [ey]; exact hr)
  have hbl := blk_locs_free hs.rel hs.wfb hb
  have hcl := blk_locs_free hs.rel hs.wfb hc
  refine ⟨_, v', w', hexec, trans_move hs.rel hs.wfb hb hfree hlt (lc := ⟨(v'.ownBlock).getD 0, 0, v'⟩) (b' := ⟨.row e i.size, b.flat && flatB news, b.cells ++ news⟩) ?_ ?_ ?_ ?_ ?_ (fun l hl => .inl (by simpa [AV.locs] using hl))⟩
  · refine ⟨hgrow.os, hgrow.tape, hgrow.output, hgrow.size, fun k hk' hn' => hgrow.block k hk' (fun e' => hn' ?_)⟩
    rw [hk]
    simp only [own]
    rw [← ev]
    exact e'.symm
  · refine ⟨?_, rfl, vs ++ us, n' + m, a1, c1, DenL_append hdv hdu, ev1, hown', ?_⟩
    · intro hf
      simp only [Bool.and_eq_true] at hf
      rw [locsL_append, hf0 hf.1, flatB_iff.1 hf.2]
      rfl
    · intro k hk'
      simp only at hk'
      simp [hk']
  · intro x hx
    simp only [Blk.locs] at hx
    split at hx
    · cases hx
    · rw [locsL_append, List.mem_append] at hx
      rcases hx with h | h
      · exact hbl x h
      · exact hcl x (hnl x h)
  · intro k hk'
    simp only [own] at hk'
    rcases hob with h | h
    · left
      rw [hk]
      simp only [own]
      rw [← ev, ← h]
      exact hk'
    · right
      rw [h] at hk'
      simp only [Option.some.injEq] at hk'
      omega
  · refine ⟨by simp [upβ_same], a1, c1, ev1, hc1, fun h => ?_⟩
    obtain ⟨g, h1, h2⟩ := hpos1 h
    simp [upβ_same, h1, h2]

theorem msound_append_nil (hs : SRel W0 β s a w) {t e : TypeId} {sz bytes : Nat} (hI : AppInfo P t e sz bytes) {x y : Operand} (ho : o.op = .call { callee := .builtin .append, args := #[x, y], argTypes := #[t, t] }) {p q : Opd} (hx : trOpd x = some p) (hy : trOpd y = some q)
    (hp : s.get p = .nilsl) {l' off m : Nat} (hq : (s.get q).slice3 = some (l', off, m)) {c : Blk} (hc : gt s.s l' = .live c) {news : List AV} (hn : cellsOf sz (s.get q) c = some news)
    (hcond : 0 < m ∧ news.all AV.one ∧ m ≤ 9223372036854775807 ∧ m * bytes ≤ 140737488355328) (hfree : gt s.s slot = .free) (hlt : slot < s.s.length) :
    ∃ β' u w', (execOp a.eval o).run P w = .ok (.value u) w' ∧ Trans W0 β s.s w β' (pt s.s slot (.live ⟨.row e sz, flatB news, news⟩)) w' (.row slot m) u := by
  obtain ⟨hm0, hone, h63, hby⟩ := hcond
  obtain ⟨i, z, hi, hz, hzs, rfl, rfl, hpos⟩ := hI.hi
  have dp := get_den hs.tm hx
  rw [hp] at dp
  have ev : a.eval x = .slice none 0 0 := dp
  have dq := get_den hs.tm hy
  obtain ⟨ad, cap, ey, hmc, had⟩ := Den.slice3 hq dq
  obtain ⟨us, hdu, hul, hcell, hnl⟩ := cellsOf_den hs.rel hq hc hn
  have ead := had hm0
  obtain ⟨v', w', hr, hown', hgrow, hob⟩ := run_append3 (P := P) W0.heap.size t o.type e i z hI.ht hi hz hzs hpos (a.eval x) 0 [] (by rw [ev]; exact World.ownsRow_nil _ _ _ _) ad m cap us hul (fun ad' e' j u hj => by
      rw [ead] at e'
      simp only [Option.some.injEq] at e'
      rw [← e', addr_add, Nat.add_assoc]
      exact hcell j u hj) (fun e' => by rw [ead] at e'; cases e') (all_oneCell hdu hone) (by omega) (by simpa using hby) hs.rel.base.size
  rw [ev] at hgrow hob
  simp only [Nat.zero_add, List.nil_append] at hown'
  have hv : ∃ g c1, v' = .slice (some ⟨g, 0, none⟩) m c1 ∧ m ≤ c1 ∧ g = w.heap.size := by
    rcases hown'.2 with ⟨rfl, h0⟩ | ⟨g, c1, cur, rfl, _, _, h5, _⟩
    · omega
    · refine ⟨g, c1, rfl, h5, ?_⟩
      rcases hob with h | h
      · simp [Value.ownBlock] at h
      · simpa [Value.ownBlock] using h
  obtain ⟨g, c1, rfl, hc1, rfl⟩ := hv
  have hcl := blk_locs_free hs.rel hs.wfb hc
  refine ⟨_, _, w', append_exec (o := o) ho (by rw [ey]; exact hr), trans_new hs.rel hs.wfb hfree hlt (lc := ⟨w.heap.size, 0, .slice (some ⟨w.heap.size, 0, none⟩) m c1⟩) (b := ⟨.row e i.size, flatB news, news⟩) ?_ ?_ ?_ ?_ ?_ (fun l hl => .inl (by simpa [AV.locs] using hl))⟩
  · exact ⟨hgrow.os, hgrow.tape, hgrow.output, hgrow.size, fun k hk' _ => hgrow.block k hk' (by simp [Value.ownBlock])⟩
  · exact ⟨fun h => flatB_iff.1 h, rfl, us, m, _, c1, hdu, rfl, hown', by simp [Value.ownBlock]⟩
  · intro x hx
    exact hcl x (hnl x (blkLocs_flatB _ _ x hx))
  · intro k hk; simp [own, Value.ownBlock] at hk; omega
  · refine ⟨by simp [upβ_same], _, _, rfl, hc1, fun _ => by simp [upβ_same]⟩

theorem msound_append_none (hs : SRel W0 β s a w) {t e : TypeId} {sz bytes : Nat} (hI : AppInfo P t e sz bytes) {x y : Operand} (ho : o.op = .call { callee := .builtin .append, args := #[x, y], argTypes := #[t, t] }) {p q : Opd} (hx : trOpd x = some p) (hy : trOpd y = some q)
    {l n : Nat} (hp : s.get p = .row l n) (hq : s.get q = .nilsl) (hfr : gt s.s l ≠ .free) :
    ∃ u, (execOp a.eval o).run P w = .ok (.value u) w ∧ Trans W0 β s.s w β s.s w (.row l n) u := by
  obtain ⟨i, z, hi, hz, hzs, rfl, rfl, hpos⟩ := hI.hi
  have dp := get_den hs.tm hx
  rw [hp] at dp
  have dp' := dp
  obtain ⟨ev, ad0, cap0, ev', hcap, _⟩ := dp
  have dq := get_den hs.tm hy
  rw [hq] at dq
  have ey : a.eval y = .slice none 0 0 := dq
  refine ⟨a.eval x, append_exec (o := o) ho ?_, trans_same hs dp' (fun x hx => by simp only [AV.locs, List.mem_singleton] at hx; subst hx; exact hfr)⟩
  rw [ey, ev']
  cases ad0 <;> simp [Builtin.append_, run_underlying hI.ht, sizeOf, typeInfo, hi, Builtin.lenOf, Builtin.firstCells, hcap, storeCells]

theorem u8s_den (s : List UInt8) : DenL β (u8s s) (s.map fun b => Value.int .u8 b.toNat) := by
  induction s with
  | nil => simp [u8s, DenL]
  | cons b s ih => exact DenL_cons (by simp [Den]) ih
theorem u8s_locs (s : List UInt8) : AV.locsL (u8s s) = [] := by
  induction s with
  | nil => rfl
  | cons b s ih => simpa [u8s, AV.locsL, AV.locs] using ih

theorem msound_bytes (hs : SRel W0 β s a w) {t u e : TypeId} {x : Operand} (ho : o.op = .convert t u x) (hT : P.underlying t = some .string) (hU : P.underlying u = some (.slice e)) (hE : P.underlying e = some (.int .u8)) {p : Opd} (hx : trOpd x = some p) {str : List UInt8} (hp : s.get p = .str str) (hfree : gt s.s slot = .free) (hlt : slot < s.s.length) :
    ∃ β' u' w', (execOp a.eval o).run P w = .ok (.value u') w' ∧ Trans W0 β s.s w β' (pt s.s slot (.live ⟨.box, true, u8s str⟩)) w' (.sl slot 0 str.length) u' := by
  have dp := get_den hs.tm hx
  rw [hp] at dp
  have ep := dp.str
  have hr := Lib.run_convert_string_bytes (P := P) w t u e ⟨str.toArray⟩ hT hU hE
  rw [bsize] at hr
  refine ⟨_, _, _, by simp [execOp, ho, ep, hr]; exact ⟨rfl, rfl⟩, trans_new hs.rel hs.wfb hfree hlt (lc := ⟨w.heap.size, 0, default⟩) (b := ⟨.box, true, u8s str⟩) ?_ ?_ ?_ ?_ ?_ (fun l hl => .inl (by simpa [AV.locs] using hl))⟩
  · refine ⟨rfl, rfl, rfl, ?_, fun k hk _ => Lib.bytesWorld_at_old w e _ k hk⟩
    rw [Lib.bytesWorld_size]; omega
  · refine ⟨fun _ => u8s_locs str, rfl, hs.rel.base.size, str.map fun b => Value.int .u8 b.toNat, (Array.replicate (grownCap w str.length 0 e - str.length) (Value.int .u8 0)).toList, e, (Lib.bytesCells w e ⟨str.toArray⟩).size, (Lib.bytesCells w e ⟨str.toArray⟩).size + 1, u8s_den str, ?_, .inr ?_⟩
    · rw [Lib.bytesWorld_at_new]
      simp [Lib.bytesCells, bsize]
    · simp [Lib.bytesCells]
  · intro x hx; simp [Blk.locs] at hx
  · intro k hk; simp [own] at hk; omega
  · refine ⟨_, _, rfl, grownCap_ge w _ _ _, fun _ => by simp [upβ_same]⟩

theorem bytesOf_den : ∀ {cs : List AV} {us : List Value} {str : List UInt8}, DenL β cs us → bytesOf cs = some str → ∃ ns : List Int, us = ns.map (Value.int .u8) ∧ (ns.map fun n => UInt8.ofNat n.toNat) = str
  | [], us, str, h, hb => by
    simp only [bytesOf, Option.some.injEq] at hb
    simp only [DenL] at h
    subst hb h
    exact ⟨[], rfl, rfl⟩
  | c :: cs, us, str, h, hb => by
    obtain ⟨u, us', rfl, hd, hds⟩ := h
    cases c <;> try (simp [bytesOf] at hb; done)
    rename_i k n
    cases k <;> simp only [bytesOf, reduceCtorEq, Option.map_eq_some_iff] at hb
    obtain ⟨str', hb', rfl⟩ := hb
    obtain ⟨ns, rfl, h2⟩ := bytesOf_den hds hb'
    exact ⟨n :: ns, by rw [hd.int]; rfl, by simp [h2]⟩

theorem msound_string (hs : SRel W0 β s a w) {t u e : TypeId} {x : Operand} (ho : o.op = .convert t u x) (hT : P.underlying t = some (.slice e)) (hU : P.underlying u = some .string) (hE : P.underlying e = some (.int .u8)) {p : Opd} (hx : trOpd x = some p)
    {l off m : Nat} (hq : (s.get p).slice3 = some (l, off, m)) {c : Blk} (hc : gt s.s l = .live c) {cs : List AV} (hn : cellsOf 1 (s.get p) c = some cs) {str : List UInt8} (hb : bytesOf cs = some str) :
    ∃ u', (execOp a.eval o).run P w = .ok (.value u') w ∧ Trans W0 β s.s w β s.s w (.str str) u' := by
  have dp := get_den hs.tm hx
  obtain ⟨ad, cap, ey, hmc, had⟩ := Den.slice3 hq dp
  obtain ⟨us, hdu, hul, hcell, hnl⟩ := cellsOf_den hs.rel hq hc hn
  obtain ⟨ns, rfl, h2⟩ := bytesOf_den hdu hb
  refine ⟨.string ⟨str.toArray⟩, ?_, trans_same hs (by simp [Den]) (by simp [AV.locs])⟩
  have key : (Conv.bytesToString (.slice ad m cap)).run P w = .ok (.string ⟨str.toArray⟩) w := by
    have hstr : (ns.foldl (fun r n => r.push (UInt8.ofNat n.toNat)) ByteArray.empty) = ⟨str.toArray⟩ := by
      rw [foldl_push_bytes, h2]
      show (⟨#[] ++ str.toArray⟩ : ByteArray) = _
      rw [Array.empty_append]
    cases ad with
    | none =>
      have hm : m = 0 := by
        rcases Nat.eq_zero_or_pos m with h0 | h0
        · exact h0
        · have := had h0; cases this
      subst hm
      have : ns = [] := List.eq_nil_of_length_eq_zero (by simpa using hul)
      subst this
      simp at h2
      subst h2
      simp [Conv.bytesToString]
      rfl
    | some ad =>
      rw [← hstr]
      apply run_bytesToString
      have hload := run_loadCells_list (P := P) w ad (ns.map (Value.int .u8)) (fun j u hj => by
        have hm0 : 0 < m := by
          have := (List.getElem?_eq_some_iff.1 hj).1
          rw [hul] at this
          omega
        have := had hm0
        simp only [Option.some.injEq] at this
        rw [this, addr_add, Nat.add_assoc]
        exact hcell j u hj)
      rw [hul, Nat.mul_one] at hload
      exact hload
  simp [execOp, ho, ey, run_convert_bytes_string (P := P) w t u e ad m cap hT hE hU, key]

theorem repA_eq {zs : List AV} (h : 0 < zs.length) : ∀ n, repZs zs (n * zs.length) = repA zs n
  | 0 => by simp [repZs, repA]
  | n + 1 => by
    have e : (n + 1) * zs.length = zs.length + n * zs.length := by rw [Nat.add_mul, Nat.one_mul, Nat.add_comm]
    rw [e]
    simp only [repZs, List.range_add, List.map_append, List.map_map, repA]
    congr 1
    · apply List.ext_getElem (by simp)
      intro i h1 h2
      simp only [List.getElem_map, List.getElem_range]
      rw [Nat.mod_eq_of_lt (by simpa using h2), nth_eq, List.getElem?_eq_getElem h2, Option.getD_some]
    · rw [← repA_eq h n]
      simp only [repZs]
      apply List.map_congr_left
      intro i _
      simp only [Function.comp]
      rw [Nat.add_mod_left]
theorem repA_length (zs : List AV) (n : Nat) : (repA zs n).length = n * zs.length := by
  induction n with
  | zero => simp [repA]
  | succ n ih => simp [repA, ih, Nat.add_mul]; omega
theorem repA_locs {zs : List AV} (h : AV.locsL zs = []) (n : Nat) : AV.locsL (repA zs n) = [] := by
  induction n with
  | zero => rfl
  | succ n ih => simp [repA, locsL_append, h, ih]

theorem msound_makeSlice (hs : SRel W0 β s a w) {t e : TypeId} {x y : Operand} (ho : o.op = .makeSlice t x y) (hT : P.underlying t = some (.slice e)) {sz bs : Nat} (hsz : szT P e = some sz) (hbs : bytesT P e = some bs) {zs : List AV} (hz : zsT P e = some zs) (hzl : zs.length = sz) (h0 : 0 < sz)
    {p q : Opd} (hx : trOpd x = some p) (hy : trOpd y = some q) {k k' : IntKind} {n : Int} (hp : s.get p = .int k n) (hq : s.get q = .int k' n) (hn0 : 0 ≤ n) (hn : n ≤ 9223372036854775807) (hnb : n * bs ≤ 140737488355328) (hfree : gt s.s slot = .free) (hlt : slot < s.s.length) :
    ∃ β' u w', (execOp a.eval o).run P w = .ok (.value u) w' ∧ Trans W0 β s.s w β' (pt s.s slot (.live ⟨.row e sz, flatB zs, repA zs n.toNat⟩)) w' (.row slot n.toNat) u := by
  simp only [zsT] at hz
  cases hi : P.info? e with
  | none => simp [hi] at hz
  | some inf =>
    cases hz0 : inf.zero with
    | none => simp [hi, hz0] at hz
    | some z =>
      simp only [hi, hz0] at hz
      obtain ⟨dz, hzlocs⟩ := trVs_den (β := β) _ _ hz
      have hbs' : inf.bytes = bs := by simpa [bytesT, hi] using hbs
      have hsz' : inf.size = sz := by simpa [szT, hi] using hsz
      have ex := get_den hs.tm hx
      rw [hp] at ex
      have ey := get_den hs.tm hy
      rw [hq] at ey
      have ex := ex.int
      have ey := ey.int
      obtain ⟨m, rfl⟩ : ∃ m : Nat, n = m := ⟨n.toNat, by omega⟩
      have hwrap : IntKind.i64.wrap (m : Int) = m := by rw [IntKind.wrap_i64]; omega
      have hnb' : ((m * bs : Nat) : Int) ≤ 140737488355328 := by rw [Int.natCast_mul]; exact hnb
      replace hnb : m * bs ≤ 140737488355328 := by omega
      have hcells : DenL β (repA zs m) ((Array.range (m * sz)).map ((if m * sz = 0 then #[] else z.cells)[· % (if m * sz = 0 then #[] else z.cells).size]!)).toList := by
        by_cases hz : m * sz = 0
        · have : m = 0 := by
            rcases Nat.mul_eq_zero.1 hz with h | h
            · exact h
            · omega
          subst this
          rw [hz]; simp [repA, DenL]
        · rw [if_neg hz, ← repA_eq (by omega : 0 < zs.length), hzl]
          exact repZs_den dz _ (by omega)
      have hlen : (repA zs m).length = m * sz := by rw [repA_length, hzl]
      have hrl := repA_locs hzlocs m
      generalize hcs : (Array.range (m * sz)).map ((if m * sz = 0 then #[] else z.cells)[· % (if m * sz = 0 then #[] else z.cells).size]!) = cs at hcells
      have hcl : cs.size = m * sz := by have := hcells.length; simp only [Array.length_toList] at this; omega
      have hT2 : bs * m ≤ 140737488355328 := by rw [Nat.mul_comm]; exact hnb
      refine ⟨_, .slice (some ⟨w.heap.size, 0, none⟩) m m, w.alloc (.cells cs e), ?_, trans_new hs.rel hs.wfb hfree hlt (keep_alloc w _) (lc := ⟨w.heap.size, 0, .slice (some ⟨w.heap.size, 0, none⟩) m m⟩) ?_ ?_ ?_ ?_ (fun l hl => .inl (by simpa [AV.locs] using hl))⟩
      · have hb : ¬ ((bs : Int) * (m : Int) > 281474976710656) := by
          have : ((bs * m : Nat) : Int) ≤ 140737488355328 := by omega
          rw [Int.natCast_mul] at this
          omega
        have hm0 : ¬ ((m : Int) < 0) := by omega
        have hsize : (sizeOf e).run P w = .ok sz w := run_szT hsz w
        simp only [execOp, ho, ex, ey, Instr.makeSlice, Sem.run_bind, run_underlying hT, Result.andThen_ok, asInt, Sem.run_pure, typeInfo, run_program, hi, hbs']
        have hbad : ((decide ((m : Int) < 0) || decide ((bs : Int) * (m : Int) > 2 ^ 48) || decide ((m : Int) < 0)) || decide ((m : Int) > (m : Int))) = false := by
          simp only [Bool.or_eq_false_iff, decide_eq_false_iff_not]
          exact ⟨⟨⟨hm0, by simpa using hb⟩, hm0⟩, by omega⟩
        simp only [asIntOf, Sem.run_pure, Result.andThen_ok, hwrap, hbad, Bool.false_eq_true, if_false, Sem.run_bind, run_askRoom, hsize, Int.toNat_natCast]
        have hnew : ∀ (c : Array Value), (newRow e c).run P w = .ok ⟨w.heap.size, 0, none⟩ (w.alloc (.cells c e)) := fun c => by simp [newRow]
        by_cases hz' : m * sz = 0
        · simp only [if_pos hz', Sem.run_bind, Sem.run_pure, Result.andThen_ok] at hcs ⊢
          rw [hcs, hnew]
          rfl
        · simp only [if_neg hz', Sem.run_bind, Sem.run_pure, Result.andThen_ok] at hcs ⊢
          have hzv : (zeroValue e).run P w = .ok z w := by simp [zeroValue, typeInfo, hi, hz0]
          simp only [hzv, Result.andThen_ok]
          rw [hcs, hnew]
          rfl
      · refine ⟨fun _ => hrl, rfl, cs.toList, m, _, _, hcells, rfl, ⟨by simpa using hcl, .inr ⟨w.heap.size, m, cs, rfl, hs.rel.base.size, heap_alloc_new w _, Nat.le_refl _, ?_, hcl, ?_⟩⟩, ?_⟩
        · simp only [maxLen]; omega
        · rw [← hcl, List.take_of_length_le (by simp)]
        · simp [Value.ownBlock]
      · intro l hl'
        simp only [Blk.locs] at hl'
        split at hl'
        · cases hl'
        · simp only [Int.toNat_natCast] at hl'; rw [hrl] at hl'; cases hl'
      · intro k hk; simp [own, Value.ownBlock] at hk; omega
      · refine ⟨by simp [upβ_same], _, _, rfl, Nat.le_refl _, fun _ => ?_⟩
        simp [upβ_same]
end
end Go.AX
namespace Go.AX
open Go.RowKit (Below)

theorem memN_iff {l : List Nat} {x : Nat} : memN l x = true ↔ x ∈ l := by
  induction l with
  | nil => simp [memN]
  | cons a l ih =>
    simp only [memN, List.mem_cons]
    split
    · rename_i h; simp [h]
    · rename_i h
      rw [ih]
      constructor
      · exact .inr
      · rintro (h' | h')
        · exact absurd h'.symm h
        · exact h'
theorem nthN_eq (l : List Nat) (n : Nat) : nthN l n = (l[n]?).getD 0 := by
  induction l generalizing n with
  | nil => simp [nthN]
  | cons a l ih => cases n <;> simp [nthN, ih]
theorem nthN_mem {l : List Nat} {n : Nat} (h : n < l.length) : nthN l n ∈ l := by
  rw [nthN_eq, List.getElem?_eq_getElem h, Option.getD_some]
  exact List.getElem_mem h
theorem idx_lt {l : List Nat} {x : Nat} (h : x ∈ l) : idx l x < l.length := by
  induction l with
  | nil => cases h
  | cons a l ih =>
    simp only [idx]
    split
    · simp
    · rename_i hne
      rcases List.mem_cons.1 h with h' | h'
      · exact absurd h'.symm hne
      · simpa using ih h'
theorem nthN_idx {l : List Nat} {x : Nat} (h : x ∈ l) : nthN l (idx l x) = x := by
  induction l with
  | nil => cases h
  | cons a l ih =>
    simp only [idx]
    split
    · rename_i e; simp [nthN, e]
    · rename_i hne
      rcases List.mem_cons.1 h with h' | h'
      · exact absurd h'.symm hne
      · simpa [nthN] using ih h'
theorem nodupB_iff {l : List Nat} : nodupB l = true ↔ l.Nodup := by
  induction l with
  | nil => simp [nodupB]
  | cons a l ih =>
    simp only [nodupB, Bool.and_eq_true, Bool.not_eq_true', List.nodup_cons, ih]
    rw [← memN_iff]
    simp
theorem idx_nthN {l : List Nat} (hn : l.Nodup) {i : Nat} (h : i < l.length) : idx l (nthN l i) = i := by
  have h1 := idx_lt (nthN_mem h)
  have h2 := nthN_idx (nthN_mem h)
  rw [nthN_eq, nthN_eq, List.getElem?_eq_getElem h, List.getElem?_eq_getElem (by rw [nthN_eq, List.getElem?_eq_getElem h] at h1; simpa using h1)] at h2
  simp only [Option.getD_some] at h2
  rw [nthN_eq, List.getElem?_eq_getElem h]
  simp only [Option.getD_some]
  exact (List.getElem_inj hn).1 h2
theorem subN_iff {l F : List Nat} : subN l F = true ↔ ∀ x ∈ l, x ∈ F := by
  induction l with
  | nil => simp [subN]
  | cons a l ih => simp [subN, memN_iff, ih]
theorem closedB_iff {σ : Store} {F : List Nat} : ∀ {r : List Nat}, closedB σ F r = true ↔ ∀ l ∈ r, gt σ l ≠ .free ∧ ∀ x ∈ (gt σ l).locs, x ∈ F
  | [] => by simp [closedB]
  | l :: r => by
    simp only [closedB, Bool.and_eq_true, closedB_iff (r := r), List.mem_cons, forall_eq_or_imp]
    refine and_congr ?_ Iff.rfl
    cases h : gt σ l with
    | free => simp
    | dead => simp [Sl.locs, subN_iff]
    | live b => simp [subN_iff]

theorem partF_spec {σ : Store} {ls F : List Nat} (h : partF σ ls = some F) : (∀ x ∈ ls, x ∈ F) ∧ (∀ l ∈ F, gt σ l ≠ .free ∧ ∀ x ∈ (gt σ l).locs, x ∈ F) ∧ F.Nodup := by
  simp only [partF] at h
  split at h <;> simp only [reduceCtorEq, Option.some.injEq] at h
  rename_i hc
  subst h
  simp only [Bool.and_eq_true] at hc
  exact ⟨subN_iff.1 hc.1.1, closedB_iff.1 hc.1.2, nodupB_iff.1 hc.2⟩

theorem view_length (σ : Store) (F : List Nat) : ∀ r, (view σ F r).length = r.length
  | [] => rfl
  | l :: r => by simp [view, view_length σ F r]
theorem view_gt (σ : Store) (F : List Nat) : ∀ (r : List Nat) (i : Nat), i < r.length → gt (view σ F r) i = (gt σ (nthN r i)).rn (idx F)
  | [], i, h => by simp at h
  | l :: r, 0, _ => by simp [view, gt, nthN]
  | l :: r, i + 1, h => by simpa [view, gt, nthN] using view_gt σ F r i (by simpa using h)

theorem Sl.rn_free {s : Sl} {π : Nat → Nat} : s.rn π = .free ↔ s = .free := by
  cases s with
  | free => simp [Sl.rn]
  | dead => simp [Sl.rn]
  | live b =>
    simp only [Sl.rn]
    split <;> simp
theorem Sl.rn_live {s : Sl} {π : Nat → Nat} {b : Blk} (h : s.rn π = .live b) : ∃ b0, s = .live b0 ∧ b.kind = b0.kind ∧ ((b0.flat = true ∧ b = b0) ∨ (b0.flat = false ∧ b.flat = false ∧ b.cells = AV.rnL π b0.cells)) := by
  cases s with
  | free => simp [Sl.rn] at h
  | dead => simp [Sl.rn] at h
  | live b0 =>
    simp only [Sl.rn] at h
    split at h
    · rename_i hf
      simp only [Sl.live.injEq] at h
      subst h
      exact ⟨b0, rfl, rfl, .inl ⟨hf, rfl⟩⟩
    · rename_i hf
      simp only [Sl.live.injEq] at h
      subst h
      exact ⟨b0, rfl, rfl, .inr ⟨by simpa using hf, rfl, rfl⟩⟩

mutual
theorem rn_locs {π : Nat → Nat} : ∀ (a : AV), (a.rn π).locs = a.locs.map π
  | .any => rfl
  | .bool _ => rfl
  | .int _ _ => rfl
  | .str _ => rfl
  | .ptr _ _ => rfl
  | .nilptr => rfl
  | .row _ _ => rfl
  | .sl _ _ _ => rfl
  | .nilsl => rfl
  | .fn f fs cap => by simp [AV.rn, AV.locs, rnL_locs fs, rnL_locs cap]
  | .nilfn => rfl
  | .map _ => rfl
  | .nilmap => rfl
  | .iface t v => by simpa [AV.rn, AV.locs] using rn_locs v
  | .niliface => rfl
  | .agg cs => by simpa [AV.rn, AV.locs] using rnL_locs cs
  | .tup cs => by simpa [AV.rn, AV.locs] using rnL_locs cs
theorem rnL_locs {π : Nat → Nat} : ∀ (cs : List AV), AV.locsL (AV.rnL π cs) = (AV.locsL cs).map π
  | [] => rfl
  | c :: cs => by simp [AV.rnL, AV.locsL, rn_locs c, rnL_locs cs]
end

section
variable {W0 : World} {P : Program} {β : Nat → Loc} {σ : Store} {w : World}

/-- A block told with other numbers. -/
theorem BlkRel.rn {β' : Nat → Loc} {lc : Loc} {b0 b : Blk} {π : Nat → Nat} (h : BlkRel W0 β w lc b0) (hk : b.kind = b0.kind) (hb : (b0.flat = true ∧ b = b0) ∨ (b0.flat = false ∧ b.flat = false ∧ b.cells = AV.rnL π b0.cells)) (hπ : ∀ l ∈ b0.locs, β' (π l) = β l) : BlkRel W0 β' w lc b := by
  rcases hb with ⟨hf, rfl⟩ | ⟨hf, hf', hc⟩
  · exact h.congr (fun l hl => by simp [Blk.locs, hf] at hl)
  · obtain ⟨h0, h⟩ := h
    have hπ' : ∀ l ∈ AV.locsL b0.cells, β' (π l) = β l := fun l hl => hπ l (by simpa [Blk.locs, hf] using hl)
    refine ⟨fun h => (by rw [hf'] at h; cases h), ?_⟩
    rw [hk, hc]
    cases hbk : b0.kind with
    | ro =>
      simp only [hbk] at h ⊢
      obtain ⟨h1, vs, h2, h3⟩ := h
      exact ⟨h1, vs, DenL_rn _ _ hπ' h2, h3⟩
    | box =>
      simp only [hbk] at h ⊢
      obtain ⟨h1, h2, vs, sp, e, lo, hi, h3, h4⟩ := h
      exact ⟨h1, h2, vs, sp, e, lo, hi, DenL_rn _ _ hπ' h3, h4⟩
    | row e sz =>
      simp only [hbk] at h ⊢
      obtain ⟨h1, vs, n, a, cap, h2, h3⟩ := h
      exact ⟨h1, vs, n, a, cap, DenL_rn _ _ hπ' h2, h3⟩

theorem Blk.rn_locs {b0 b : Blk} {π : Nat → Nat} (hb : (b0.flat = true ∧ b = b0) ∨ (b0.flat = false ∧ b.flat = false ∧ b.cells = AV.rnL π b0.cells)) : b.locs = b0.locs.map π := by
  rcases hb with ⟨hf, rfl⟩ | ⟨hf, hf', hc⟩
  · simp [Blk.locs, hf]
  · simp [Blk.locs, hf, hf', hc, rnL_locs]

/-- A part of the store, told anew. -/
theorem rel_view (hr : Rel W0 β σ w) {F : List Nat} (hF : ∀ l ∈ F, gt σ l ≠ .free ∧ ∀ x ∈ (gt σ l).locs, x ∈ F) (hn : F.Nodup) :
    Rel W0 (fun i => β (nthN F i)) (view σ F F) w ∧ (∀ i, i < F.length → gt (view σ F F) i ≠ .free) ∧ (∀ i b, gt (view σ F F) i = .live b → ∀ x ∈ b.locs, x < F.length) ∧
      (∀ i b, gt (view σ F F) i = .live b → ∃ b0, gt σ (nthN F i) = .live b0 ∧ b.kind = b0.kind ∧ i < F.length) := by
  have lt : ∀ {i : Nat} {b : Blk}, gt (view σ F F) i = .live b → i < F.length := by
    intro i b h
    have := gt_lt (σ := view σ F F) (l := i) (by rw [h]; simp)
    rwa [view_length] at this
  have key : ∀ {i : Nat} {b : Blk}, gt (view σ F F) i = .live b → ∃ b0, gt σ (nthN F i) = .live b0 ∧ b.kind = b0.kind ∧ ((b0.flat = true ∧ b = b0) ∨ (b0.flat = false ∧ b.flat = false ∧ b.cells = AV.rnL (idx F) b0.cells)) := by
    intro i b h
    have hi := lt h
    rw [view_gt σ F F i hi] at h
    exact Sl.rn_live h
  have inF : ∀ {i : Nat} {b0 : Blk}, i < F.length → gt σ (nthN F i) = .live b0 → ∀ x ∈ b0.locs, x ∈ F := by
    intro i b0 hi h x hx
    have := (hF _ (nthN_mem hi)).2 x
    rw [h] at this
    exact this hx
  refine ⟨⟨hr.base, ?_, ?_⟩, ?_, ?_, fun i b h => let ⟨b0, h1, h2, _⟩ := key h; ⟨b0, h1, h2, lt h⟩⟩
  · intro i b h
    obtain ⟨b0, h1, h2, h3⟩ := key h
    exact (hr.blk _ b0 h1).rn h2 h3 (fun l hl => by rw [nthN_idx (inF (lt h) h1 l hl)])
  · intro i j b1 b2 k h1 h2 o1 o2
    obtain ⟨c1, g1, k1, _⟩ := key h1
    obtain ⟨c2, g2, k2, _⟩ := key h2
    have := hr.inj _ _ c1 c2 k g1 g2 (by rw [← k1]; exact o1) (by rw [← k2]; exact o2)
    rw [← idx_nthN hn (lt h1), ← idx_nthN hn (lt h2), this]
  · intro i hi
    rw [view_gt σ F F i hi]
    intro h
    exact (hF _ (nthN_mem hi)).1 (Sl.rn_free.1 h)
  · intro i b h x hx
    obtain ⟨b0, h1, h2, h3⟩ := key h
    rw [Blk.rn_locs h3] at hx
    obtain ⟨y, hy, rfl⟩ := List.mem_map.1 hx
    exact idx_lt (inF (lt h) h1 y hy)

/-- What a call of f comes to: on each world that the store tells of. -/
def AC (P : Program) (W0 : World) (f : Nat) (args : List AV) (σ : Store) (r : AV) (σ' : Store) : Prop :=
  ∀ (β : Nat → Loc) (w : World) (vs : List Value), Rel W0 β σ w → (∀ i, i < σ.length → gt σ i ≠ .free) → (∀ i b, gt σ i = .live b → ∀ x ∈ b.locs, x < σ.length) → DenL β args vs → (∀ x ∈ AV.locsL args, x < σ.length) →
    Calls P f vs.toArray w fun e w' => ∃ v β', e = .returned v ∧ Rel W0 β' σ' w' ∧ (∀ l, l < σ.length → β' l = β l) ∧ Den β' r v ∧ Keep (Foot β σ) w w' ∧ (∀ k, Foot β' σ' k → Foot β σ k ∨ w.heap.size ≤ k) ∧ σ.length ≤ σ'.length

def Callable (P : Program) (f : Nat) : Prop := ∃ fn, P.funcs[f]? = some fn ∧ (fn.name == "runtime.NumGoroutine") = false ∧ fn.body.isSome = true
def ROk (P : Program) (W0 : World) (R : Run) : Prop := ∀ f args σ r σ', R f args σ = some (r, σ') → Callable P f ∧ AC P W0 f args σ r σ'

theorem allIn_iff {n : Nat} : ∀ {l : List Nat}, allIn n l = true ↔ ∀ x ∈ l, x < n
  | [] => by simp [allIn]
  | a :: l => by simp [allIn, allIn_iff (l := l)]
theorem wholeB_iff {n : Nat} : ∀ {σ : Store}, wholeB n σ = true ↔ ∀ i, i < σ.length → gt σ i ≠ .free ∧ ∀ x ∈ (gt σ i).locs, x < n
  | [] => by simp [wholeB]
  | s :: r => by
    constructor
    · intro h i hi
      cases i with
      | zero => cases s <;> simp_all [wholeB, gt, Sl.locs, allIn_iff]
      | succ i =>
        have : wholeB n r = true := by cases s <;> simp_all [wholeB]
        simpa [gt] using wholeB_iff.1 this i (by simpa using hi)
    · intro h
      have h0 := h 0 (by simp)
      have hr : wholeB n r = true := wholeB_iff.2 (fun i hi => by simpa [gt] using h (i + 1) (by simpa using hi))
      cases s with
      | free => simp [gt] at h0
      | dead => simpa [wholeB, allIn_iff, Sl.locs] using hr
      | live b => simp only [wholeB, Bool.and_eq_true, allIn_iff]; exact ⟨by simpa [gt] using h0.2, hr⟩

theorem writeBack_spec {ρ : Nat → Nat} : ∀ (F : List Nat) (σ σ' σ1 rest : Store), writeBack σ ρ F σ' = some (σ1, rest) → F.Nodup → (∀ l ∈ F, l < σ.length) →
    F.length ≤ σ'.length ∧ rest = σ'.drop F.length ∧ σ1.length = σ.length ∧ (∀ i, i < F.length → gt σ1 (nthN F i) = (gt σ' i).rn ρ) ∧ (∀ l, l ∉ F → gt σ1 l = gt σ l)
  | [], σ, σ', σ1, rest, h, _, _ => by
    simp only [writeBack, Option.some.injEq, Prod.mk.injEq] at h
    obtain ⟨rfl, rfl⟩ := h
    exact ⟨by simp, by simp, rfl, by simp, fun _ _ => rfl⟩
  | l :: F, σ, [], σ1, rest, h, _, _ => by simp [writeBack] at h
  | l :: F, σ, s :: σ', σ1, rest, h, hn, hlt => by
    simp only [writeBack] at h
    have hn' := List.nodup_cons.1 hn
    obtain ⟨h1, h2, h3, h4, h5⟩ := writeBack_spec F _ σ' σ1 rest h hn'.2 (fun x hx => by rw [length_pt]; exact hlt x (by simp [hx]))
    refine ⟨by simpa using h1, by simpa using h2, by rw [h3, length_pt], fun i hi => ?_, fun x hx => ?_⟩
    · cases i with
      | zero =>
        simp only [nthN, gt]
        rw [h5 l hn'.1, gt_pt _ _ _ _ (hlt l (by simp)), if_pos rfl]
      | succ i => simpa [nthN, gt] using h4 i (by simpa using hi)
    · simp only [List.mem_cons, not_or] at hx
      rw [h5 x hx.2, gt_pt _ _ _ _ (hlt l (by simp)), if_neg hx.1]

theorem newOnes_spec {ρ : Nat → Nat} : ∀ (k slot : Nat) (σ σ2 rest : Store), newOnes σ ρ slot k rest = some σ2 →
    σ2.length = σ.length ∧ (∀ j, j < rest.length → gt σ (slot + j) = .free ∧ gt σ2 (slot + j) = (gt rest j).rn ρ) ∧ (∀ l, (l < slot ∨ slot + rest.length ≤ l) → gt σ2 l = gt σ l)
  | k, slot, σ, σ2, [], h => by
    cases k <;> simp only [newOnes, Option.some.injEq] at h <;> subst h <;> exact ⟨rfl, by simp, fun _ _ => rfl⟩
  | 0, slot, σ, σ2, s :: r, h => by simp [newOnes] at h
  | k + 1, slot, σ, σ2, s :: r, h => by
    simp only [newOnes] at h
    split at h
    · rename_i hf
      split at h
      · rename_i hlt
        obtain ⟨h1, h2, h3⟩ := newOnes_spec k (slot + 1) _ σ2 r h
        refine ⟨by rw [h1, length_pt], fun j hj => ?_, fun l hl => ?_⟩
        · cases j with
          | zero =>
            refine ⟨hf, ?_⟩
            rw [h3 _ (.inl (by omega)), gt_pt _ _ _ _ hlt]
            simp [gt]
          | succ j =>
            have := h2 j (by simpa using hj)
            rw [show slot + 1 + j = slot + (j + 1) from by omega] at this
            refine ⟨?_, by simpa [gt] using this.2⟩
            have h' := this.1
            rw [gt_pt _ _ _ _ hlt, if_neg (by omega)] at h'
            exact h'
        · rw [h3 l (by simp at hl; omega), gt_pt _ _ _ _ hlt, if_neg (by simp at hl; omega)]
      · simp at h
    · simp at h

theorem gt_drop (σ : Store) (n i : Nat) : gt (σ.drop n) i = gt σ (n + i) := by simp [gt_eq]
end
end Go.AX
namespace Go.AX
open Go.RowKit (Below)
section
variable {W0 : World} {P : Program} {β : Nat → Loc} {σ : Store} {w : World}

theorem call_trans {R : Run} (hR : ROk P W0 R) (hr : Rel W0 β σ w) (wfb : ∀ l b, gt σ l = .live b → ∀ l' ∈ b.locs, gt σ l' ≠ .free) {f : Nat} {args : List AV} {slot k : Nat} {r : AV} {σ2 : Store} (h : callA R f args σ slot k = some (r, σ2)) {vs : List Value} (hd : DenL β args vs) :
    Callable P f ∧ Calls P f vs.toArray w fun e w' => ∃ v β', e = .returned v ∧ Trans W0 β σ w β' σ2 w' r v := by
  simp only [callA] at h
  cases hp : partF σ (AV.locsL args) with
  | none => simp [hp] at h
  | some F =>
    obtain ⟨hsub, hcl, hnd⟩ := partF_spec hp
    simp only [hp] at h
    cases hrun : R f (AV.rnL (idx F) args) (view σ F F) with
    | none => simp [hrun] at h
    | some rs =>
      obtain ⟨r0, σ'⟩ := rs
      simp only [hrun] at h
      split at h <;> try (simp at h; done)
      rename_i hwhole
      simp only [Bool.and_eq_true] at hwhole
      have hr0 := allIn_iff.1 hwhole.1
      have hσ' := wholeB_iff.1 hwhole.2
      generalize hρ : (fun i => if i < F.length then nthN F i else slot + (i - F.length)) = ρ at h
      cases hwb : writeBack σ ρ F σ' with
      | none => simp [hwb] at h
      | some p =>
        obtain ⟨σ1, rest⟩ := p
        simp only [hwb] at h
        cases hno : newOnes σ1 ρ slot k rest with
        | none => simp [hno] at h
        | some σ2' =>
          simp only [hno, Option.some.injEq, Prod.mk.injEq] at h
          obtain ⟨rfl, rfl⟩ := h
          obtain ⟨hcall, hac⟩ := hR _ _ _ _ _ hrun
          refine ⟨hcall, ?_⟩
          obtain ⟨vr, vfree, vlocs, vlive⟩ := rel_view hr hcl hnd
          have hFlt : ∀ l ∈ F, l < σ.length := fun l hl => gt_lt (hcl l hl).1
          obtain ⟨b1, b2, b3, b4, b5⟩ := writeBack_spec F σ σ' σ1 rest hwb hnd hFlt
          obtain ⟨n1, n2, n3⟩ := newOnes_spec k slot σ1 σ2' rest hno
          have hrl : rest.length = σ'.length - F.length := by rw [b2]; simp
          -- the new places were free
          have σ1F : ∀ i, i < F.length → gt σ1 (nthN F i) ≠ .free := fun i hi => by
            rw [b4 i hi]
            intro hf
            exact (hσ' i (by omega)).1 (Sl.rn_free.1 hf)
          have slotF : ∀ j, j < rest.length → slot + j ∉ F := by
            intro j hj hm
            have := σ1F (idx F (slot + j)) (idx_lt hm)
            rw [nthN_idx hm] at this
            exact this (n2 j hj).1
          have slotfree : ∀ j, j < rest.length → gt σ (slot + j) = .free := fun j hj => by
            have := (n2 j hj).1
            rwa [b5 _ (slotF j hj)] at this
          have inslot : ∀ l, (∃ j, j < rest.length ∧ l = slot + j) ∨ (l < slot ∨ slot + rest.length ≤ l) := fun l => by
            by_cases h1 : slot ≤ l ∧ l < slot + rest.length
            · exact .inl ⟨l - slot, by omega, by omega⟩
            · exact .inr (by omega)
          -- what the store holds now
          have gF : ∀ i, i < F.length → gt σ2' (nthN F i) = (gt σ' i).rn ρ := fun i hi => by
            rcases inslot (nthN F i) with ⟨j, hj, e⟩ | hout
            · exact absurd (e ▸ nthN_mem hi) (slotF j hj)
            · rw [n3 _ hout, b4 i hi]
          have gN : ∀ j, j < rest.length → gt σ2' (slot + j) = (gt σ' (F.length + j)).rn ρ := fun j hj => by
            rw [(n2 j hj).2, b2, gt_drop]
          have gO : ∀ l, l ∉ F → (l < slot ∨ slot + rest.length ≤ l) → gt σ2' l = gt σ l := fun l h1 h2 => by rw [n3 l h2, b5 l h1]
          have ρF : ∀ i, i < F.length → ρ i = nthN F i := fun i hi => by rw [← hρ]; simp [hi]
          have ρN : ∀ j, ρ (F.length + j) = slot + j := fun j => by
            rw [← hρ]
            show (if F.length + j < F.length then nthN F (F.length + j) else slot + (F.length + j - F.length)) = slot + j
            rw [if_neg (by omega)]
            omega
          -- every live place of the new store: one of the callee's, or one that the callee did not see
          have cases3 : ∀ l b, gt σ2' l = .live b → (∃ i, i < σ'.length ∧ l = ρ i ∧ (gt σ' i).rn ρ = .live b) ∨ (l ∉ F ∧ (l < slot ∨ slot + rest.length ≤ l) ∧ gt σ l = .live b) := by
            intro l b hl
            rcases inslot l with ⟨j, hj, rfl⟩ | hout
            · exact .inl ⟨F.length + j, by omega, (ρN j).symm, by rw [← gN j hj]; exact hl⟩
            · by_cases hm : l ∈ F
              · have hi := idx_lt hm
                refine .inl ⟨idx F l, by omega, by rw [ρF _ hi, nthN_idx hm], ?_⟩
                rw [← gF _ hi, nthN_idx hm]
                exact hl
              · exact .inr ⟨hm, hout, by rw [← gO l hm hout]; exact hl⟩
          have ρinj : ∀ i j, i < σ'.length → j < σ'.length → ρ i = ρ j → i = j := by
            intro i j hi hj e
            by_cases h1 : i < F.length <;> by_cases h2 : j < F.length
            · rw [ρF i h1, ρF j h2] at e
              rw [← idx_nthN hnd h1, ← idx_nthN hnd h2, e]
            · exfalso
              obtain ⟨j', rfl⟩ : ∃ j', j = F.length + j' := ⟨j - F.length, by omega⟩
              rw [ρF i h1, ρN] at e
              exact slotF j' (by omega) (e ▸ nthN_mem h1)
            · exfalso
              obtain ⟨i', rfl⟩ : ∃ i', i = F.length + i' := ⟨i - F.length, by omega⟩
              rw [ρF j h2, ρN] at e
              exact slotF i' (by omega) (e ▸ nthN_mem h2)
            · obtain ⟨j', rfl⟩ : ∃ j', j = F.length + j' := ⟨j - F.length, by omega⟩
              obtain ⟨i', rfl⟩ : ∃ i', i = F.length + i' := ⟨i - F.length, by omega⟩
              rw [ρN, ρN] at e
              omega
          have ρfree : ∀ i, i < σ'.length → gt σ2' (ρ i) ≠ .free := by
            intro i hi
            by_cases h1 : i < F.length
            · rw [ρF i h1, gF i h1]
              intro hf
              exact (hσ' i hi).1 (Sl.rn_free.1 hf)
            · obtain ⟨i', rfl⟩ : ∃ i', i = F.length + i' := ⟨i - F.length, by omega⟩
              rw [ρN, gN i' (by omega)]
              intro hf
              exact (hσ' _ hi).1 (Sl.rn_free.1 hf)
          have hdv : DenL (fun i => β (nthN F i)) (AV.rnL (idx F) args) vs := DenL_rn args vs (fun l hl => congrArg β (nthN_idx (hsub l hl))) hd
          have hlv : ∀ x ∈ AV.locsL (AV.rnL (idx F) args), x < (view σ F F).length := by
            intro x hx
            rw [rnL_locs] at hx
            obtain ⟨y, hy, rfl⟩ := List.mem_map.1 hx
            rw [view_length]
            exact idx_lt (hsub y hy)
          refine (hac _ w vs vr (fun i hi => vfree i (by rwa [view_length] at hi)) (fun i b hb x hx => by rw [view_length]; exact vlocs i b hb x hx) hdv hlv).mono ?_
          rintro e w' ⟨v, β', rfl, hrel', hfix, hden, hkeep, hfoot, _⟩
          rw [view_length] at hfix
          have footv : ∀ k, Foot (fun i => β (nthN F i)) (view σ F F) k → ∃ l b, l ∈ F ∧ gt σ l = .live b ∧ own (β l) b.kind = some k := by
            rintro k ⟨i, b, hb, ho⟩
            obtain ⟨b0, h1, h2, h3⟩ := vlive i b hb
            exact ⟨nthN F i, b0, nthN_mem h3, h1, by rw [← h2]; exact ho⟩
          have other : ∀ {l b k}, l ∉ F → gt σ l = .live b → own (β l) b.kind = some k → ¬ Foot (fun i => β (nthN F i)) (view σ F F) k := by
            intro l b k h1 h2 h3 h4
            obtain ⟨l', b', h5, h6, h7⟩ := footv k h4
            exact h1 (hr.inj l l' b b' k h2 h6 h3 h7 ▸ h5)
          generalize hβ : (fun l => if slot ≤ l ∧ l < slot + rest.length then β' (F.length + (l - slot)) else β l) = βc
          have βN : ∀ j, j < rest.length → βc (slot + j) = β' (F.length + j) := fun j hj => by rw [← hβ]; simp [hj]
          have βO : ∀ l, (l < slot ∨ slot + rest.length ≤ l) → βc l = β l := fun l hl => by
            rw [← hβ]
            show (if slot ≤ l ∧ l < slot + rest.length then _ else β l) = β l
            rw [if_neg (by omega)]
          have βfree : ∀ l, gt σ l ≠ .free → βc l = β l := fun l hl => by
            rcases inslot l with ⟨j, hj, rfl⟩ | hout
            · exact absurd (slotfree j hj) hl
            · exact βO l hout
          have βρ : ∀ i, i < σ'.length → βc (ρ i) = β' i := by
            intro i hi
            by_cases h1 : i < F.length
            · rw [ρF i h1, βfree _ (hcl _ (nthN_mem h1)).1, hfix i h1]
            · obtain ⟨i', rfl⟩ : ∃ i', i = F.length + i' := ⟨i - F.length, by omega⟩
              rw [ρN, βN i' (by omega)]
          refine ⟨v, βc, rfl, ⟨⟨hrel'.base, ?_, ?_⟩, βfree, ?_, ?_, ?_, ?_, ?_, ?_, by rw [n1, b3]⟩⟩
          · intro l b hl
            rcases cases3 l b hl with ⟨i, hi, rfl, hb⟩ | ⟨hm, hout, hb⟩
            · obtain ⟨b0, g1, g2, g3⟩ := Sl.rn_live hb
              rw [βρ i hi]
              refine (hrel'.blk i b0 g1).rn g2 g3 (fun x hx => βρ x ?_)
              have := (hσ' i hi).2 x
              rw [g1] at this
              exact this hx
            · rw [βO l hout]
              exact ((hr.blk l b hb).keep hkeep (fun k hk => other hm hb hk)).congr (fun x hx => βfree x (wfb l b hb x hx))
          · intro l1 l2 c1 c2 k h1 h2 o1 o2
            rcases cases3 l1 c1 h1 with ⟨i, hi, rfl, hb1⟩ | ⟨hm1, hout1, hb1⟩ <;> rcases cases3 l2 c2 h2 with ⟨j, hj, rfl, hb2⟩ | ⟨hm2, hout2, hb2⟩
            · obtain ⟨d1, g1, k1, _⟩ := Sl.rn_live hb1
              obtain ⟨d2, g2, k2, _⟩ := Sl.rn_live hb2
              rw [βρ i hi, k1] at o1
              rw [βρ j hj, k2] at o2
              rw [hrel'.inj i j d1 d2 k g1 g2 o1 o2]
            · exfalso
              obtain ⟨d1, g1, k1, _⟩ := Sl.rn_live hb1
              rw [βρ i hi, k1] at o1
              rw [βO l2 hout2] at o2
              rcases hfoot k ⟨i, d1, g1, o1⟩ with q | q
              · exact other hm2 hb2 o2 q
              · have := (own_size (hr.blk l2 c2 hb2) o2).2.1
                omega
            · exfalso
              obtain ⟨d2, g2, k2, _⟩ := Sl.rn_live hb2
              rw [βρ j hj, k2] at o2
              rw [βO l1 hout1] at o1
              rcases hfoot k ⟨j, d2, g2, o2⟩ with q | q
              · exact other hm1 hb1 o1 q
              · have := (own_size (hr.blk l1 c1 hb1) o1).2.1
                omega
            · rw [βO l1 hout1] at o1
              rw [βO l2 hout2] at o2
              exact hr.inj l1 l2 c1 c2 k hb1 hb2 o1 o2
          · exact Den_rn r0 v (fun x hx => βρ x (hr0 x hx)) hden
          · exact hkeep.mono (fun k hk => by
              obtain ⟨l, b, _, h2, h3⟩ := footv k hk
              exact ⟨l, b, h2, h3⟩)
          · rintro k ⟨l, b, hl, ho⟩
            rcases cases3 l b hl with ⟨i, hi, rfl, hb⟩ | ⟨hm, hout, hb⟩
            · obtain ⟨d1, g1, k1, _⟩ := Sl.rn_live hb
              rw [βρ i hi, k1] at ho
              rcases hfoot k ⟨i, d1, g1, ho⟩ with q | q
              · obtain ⟨l, b, _, h2, h3⟩ := footv k q
                exact .inl ⟨l, b, h2, h3⟩
              · exact .inr q
            · rw [βO l hout] at ho
              exact .inl ⟨l, b, hb, ho⟩
          · intro x hx
            rw [rn_locs] at hx
            obtain ⟨y, hy, rfl⟩ := List.mem_map.1 hx
            exact ρfree y (hr0 y hy)
          · intro l b hl x hx
            rcases cases3 l b hl with ⟨i, hi, rfl, hb⟩ | ⟨hm, hout, hb⟩
            · obtain ⟨b0, g1, g2, g3⟩ := Sl.rn_live hb
              rw [Blk.rn_locs g3] at hx
              obtain ⟨y, hy, rfl⟩ := List.mem_map.1 hx
              have := (hσ' i hi).2 y
              rw [g1] at this
              exact ρfree y (this hy)
            · have := wfb l b hb x hx
              rcases inslot x with ⟨j, hj, rfl⟩ | hout'
              · exact absurd (slotfree j hj) this
              · by_cases hm' : x ∈ F
                · have hi := idx_lt hm'
                  rw [← nthN_idx hm', gF _ hi]
                  intro hf
                  exact (hσ' _ (by omega)).1 (Sl.rn_free.1 hf)
                · rw [gO x hm' hout']
                  exact this
          · intro x hx
            rcases inslot x with ⟨j, hj, rfl⟩ | hout'
            · exact absurd (slotfree j hj) hx
            · by_cases hm' : x ∈ F
              · have hi := idx_lt hm'
                rw [← nthN_idx hm', gF _ hi]
                intro hf
                exact (hσ' _ (by omega)).1 (Sl.rn_free.1 hf)
              · rw [gO x hm' hout']
                exact hx
end
end Go.AX
namespace Go.AX
open Go.RowKit (Below)
section
variable {W0 : World} {P : Program} {β : Nat → Loc} {σ : Store} {w : World} {a : Act} {o : Oper} {s : St} {slot : Nat}

/-- One operation, in whatever way it comes to its end. -/
def OpGood (P : Program) (a : Act) (w : World) (o : Oper) (Φ : Value → World → Prop) : Prop :=
  match (execOp a.eval o).run P w with
  | .ok (.value u) w' => Φ u w'
  | .ok .skip w' => Φ undef w'
  | .ok (.enter f args) w' => Calls P f args w' fun e w'' => ∃ u, e = .returned u ∧ Φ u w''
  | _ => False

theorem OpGood.wp {Φ : Value → World → Prop} (h : OpGood P a w o Φ) {next : Act → World → Prop} {Q : Exit → Act → World → Prop} (hn : ∀ u w', Φ u w' → next (a.put o.dst u) w') : o.wp P a w next Q := by
  unfold OpGood at h
  unfold Oper.wp
  generalize (execOp a.eval o).run P w = r at h
  cases r with
  | ok n w' =>
    cases n <;> simp only at h <;> simp only [Oper.upon]
    case value u => exact hn _ _ h
    case skip => exact hn _ _ h
    case enter f args =>
      refine h.mono ?_
      rintro e w'' ⟨u, rfl, hΦ⟩
      exact hn _ _ hΦ
  | halt x w' => simp at h

theorem OpGood.value {Φ : Value → World → Prop} {u : Value} {w' : World} (h : (execOp a.eval o).run P w = .ok (.value u) w') (hΦ : Φ u w') : OpGood P a w o Φ := by
  unfold OpGood; rw [h]; exact hΦ
theorem OpGood.skip {Φ : Value → World → Prop} {w' : World} (h : (execOp a.eval o).run P w = .ok .skip w') (hΦ : Φ undef w') : OpGood P a w o Φ := by
  unfold OpGood; rw [h]; exact hΦ

theorem get_free (hs : SRel W0 β s a w) {x : Operand} {y : Opd} (h : trOpd x = some y) : ∀ l ∈ (s.get y).locs, gt s.s l ≠ .free := by
  rcases get_locs (s := s) h with ⟨n, rfl⟩ | e
  · exact hs.wft n
  · rw [e]; intro l hl; cases hl
theorem gets_free (hs : SRel W0 β s a w) : ∀ {xs : List Operand} {ys : List Opd}, trOpds xs = some ys → ∀ l ∈ AV.locsL (s.gets ys), gt s.s l ≠ .free
  | [], ys, h => by simp only [trOpds, Option.some.injEq] at h; subst h; simp [St.gets, AV.locsL]
  | x :: xs, ys, h => by
    obtain ⟨y, zs, h1, h2, rfl⟩ := gets_cons h
    intro l hl
    simp only [St.gets, AV.locsL, List.mem_append] at hl
    rcases hl with hl | hl
    · exact get_free hs h1 l hl
    · exact gets_free hs h2 l hl

abbrev Post (W0 : World) (β : Nat → Loc) (σ : Store) (w : World) (v : AV) (σ' : Store) : Value → World → Prop := fun u w' => ∃ β', Trans W0 β σ w β' σ' w' v u

theorem putNew_some {slot : Nat} {b : Blk} {σ' : Store} (h : putNew σ slot (some b) = some σ') : gt σ slot = .free ∧ slot < σ.length ∧ σ' = pt σ slot (.live b) := by
  simp only [putNew] at h
  split at h
  · rename_i hf
    split at h <;> simp only [reduceCtorEq, Option.some.injEq] at h
    exact ⟨hf, by assumption, h.symm⟩
  · simp at h

theorem gts1 {l : Nat} {b : Sl} {x : Sl} (h : gts σ [l] = [x]) : gt σ l = x := by simpa [gts] using h

theorem appInfo_of {t e : TypeId} {sz bs : Nat} {zs : List AV} (hT : P.underlying t = some (.slice e)) (hsz : szT P e = some sz) (hbs : bytesT P e = some bs) (hz : zsT P e = some zs) (hl : zs.length = sz) (h0 : 0 < sz) : AppInfo P t e sz bs := by
  refine ⟨hT, ?_⟩
  simp only [zsT] at hz
  cases hi : P.info? e with
  | none => simp [hi] at hz
  | some i =>
    cases hz0 : i.zero with
    | none => simp [hi, hz0] at hz
    | some z =>
      simp only [hi, hz0] at hz
      have d := (trVs_den (β := default) _ _ hz).1
      have hs1 : i.size = sz := by simpa [szT, hi] using hsz
      have hb1 : i.bytes = bs := by simpa [bytesT, hi] using hbs
      exact ⟨i, z, rfl, hz0, by have := d.length; simp only [Array.length_toList] at this; omega, hs1, hb1, h0⟩


/-- What stands behind an operation on memory. -/
def MInv (P : Program) (o : Oper) (sl : Nat) (op : MOp) (slot : Nat) (xs : List Opd) : Prop :=
  match op with
  | .alloc zs => ∃ e, o.op = .alloc e ∧ zsT P e = some zs ∧ xs = [] ∧ slot = sl
  | .box => ∃ e x y, o.op = .box e x ∧ trOpd x = some y ∧ xs = [y] ∧ slot = sl
  | .buildSlice e sz len zs ps => ∃ t parts zs0, o.op = .buildSlice t len parts ∧ P.underlying t = some (.slice e) ∧ trOpds (parts.toList.map (·.2)) = some xs ∧ szT P e = some sz ∧ zsT P e = some zs0 ∧
      (len * sz ≤ 16777216 ∧ zs0.length = sz ∧ 0 < sz) ∧ zs = repZs zs0 (len * sz) ∧ ps = placesA sz parts.toList ∧ slot = sl
  | .load ag sz => ∃ t x y sz0, o.op = .load t x ∧ aggT P t = some ag ∧ szT P t = some sz0 ∧ (ag = true → sz0 = sz) ∧ trOpd x = some y ∧ xs = [y]
  | .store sz => ∃ t x y p q, o.op = .store t x y ∧ szT P t = some sz ∧ 0 < sz ∧ trOpd x = some p ∧ trOpd y = some q ∧ xs = [p, q]
  | .append e sz bs => ∃ t x y p q, o.op = .call { callee := .builtin .append, args := #[x, y], argTypes := #[t, t] } ∧ AppInfo P t e sz bs ∧ trOpd x = some p ∧ trOpd y = some q ∧ xs = [p, q] ∧ slot = sl
  | .bytes => ∃ t u e x p, o.op = .convert t u x ∧ P.underlying t = some .string ∧ P.underlying u = some (.slice e) ∧ P.underlying e = some (.int .u8) ∧ trOpd x = some p ∧ xs = [p] ∧ slot = sl
  | .makeSlice e sz bs zs => ∃ t x y p q, o.op = .makeSlice t x y ∧ P.underlying t = some (.slice e) ∧ szT P e = some sz ∧ bytesT P e = some bs ∧ zsT P e = some zs ∧ zs.length = sz ∧ 0 < sz ∧ trOpd x = some p ∧ trOpd y = some q ∧ xs = [p, q] ∧ slot = sl
  | .string => ∃ t u e x p, o.op = .convert t u x ∧ P.underlying t = some (.slice e) ∧ P.underlying u = some .string ∧ P.underlying e = some (.int .u8) ∧ trOpd x = some p ∧ xs = [p]

theorem m_inv {sl k : Nat} {op : MOp} {slot : Nat} {xs : List Opd} (h : trOp P sl o = some (.m op slot xs, k)) : MInv P o sl op slot xs := by
  unfold trOp at h
  cases ho : o.op <;> simp only [ho, reduceCtorEq] at h
  case move x => simp at h
  case assign x => simp at h
  case pick c x y => simp at h
  case alloc e =>
    simp only [Option.map_eq_some_iff, Prod.mk.injEq, Opn.m.injEq] at h
    obtain ⟨zs, hz, ⟨rfl, rfl, rfl⟩, _⟩ := h
    exact ⟨e, ho, hz, rfl, rfl⟩
  case box e x =>
    simp only [Option.map_eq_some_iff, Prod.mk.injEq, Opn.m.injEq] at h
    obtain ⟨ys, hy, ⟨rfl, rfl, rfl⟩, _⟩ := h
    obtain ⟨y, h1, rfl⟩ := gets1 hy
    exact ⟨e, x, y, ho, h1, rfl, rfl⟩
  case build t parts =>
    repeat' split at h
    all_goals simp at h
  case buildSlice t len parts =>
    split at h <;> try (simp at h; done)
    rename_i e ys e1 e2
    split at h <;> try (simp at h; done)
    rename_i sz zs e3 e4
    split at h <;> try (simp at h; done)
    rename_i hc
    simp only [Option.some.injEq, Prod.mk.injEq, Opn.m.injEq] at h
    obtain ⟨⟨rfl, rfl, rfl⟩, _⟩ := h
    exact ⟨t, parts, zs, ho, e1, e2, e3, e4, hc, rfl, rfl, rfl⟩
  case load t x =>
    split at h <;> try (simp at h; done)
    · rename_i sz ys e1 e2 e3
      simp only [Option.some.injEq, Prod.mk.injEq, Opn.m.injEq] at h
      obtain ⟨⟨rfl, rfl, rfl⟩, _⟩ := h
      obtain ⟨y, h1, rfl⟩ := gets1 e3
      exact ⟨t, x, y, sz, ho, e1, e2, fun _ => rfl, h1, rfl⟩
    · rename_i sz ys e1 e2 e3
      simp only [Option.some.injEq, Prod.mk.injEq, Opn.m.injEq] at h
      obtain ⟨⟨rfl, rfl, rfl⟩, _⟩ := h
      obtain ⟨y, h1, rfl⟩ := gets1 e3
      exact ⟨t, x, y, sz, ho, e1, e2, fun h => (by cases h), h1, rfl⟩
  case store t x y =>
    split at h <;> try (simp at h; done)
    rename_i sz ys e1 e2
    split at h <;> try (simp at h; done)
    rename_i h0
    simp only [Option.some.injEq, Prod.mk.injEq, Opn.m.injEq] at h
    obtain ⟨⟨rfl, rfl, rfl⟩, _⟩ := h
    obtain ⟨p, q, h1, h2, rfl⟩ := gets2 e2
    exact ⟨t, x, y, p, q, ho, e1, h0, h1, h2, rfl⟩
  case nilCheck x => simp at h
  case binOp op' t x y t' =>
    repeat' split at h
    all_goals simp at h
  case unOp u t x => cases u <;> simp at h
  case convert t u x =>
    split at h <;> try (simp at h; done)
    · rename_i e ys e1 e2 e3
      split at h <;> try (simp at h; done)
      rename_i e4
      simp only [Option.some.injEq, Prod.mk.injEq, Opn.m.injEq] at h
      obtain ⟨⟨rfl, rfl, rfl⟩, _⟩ := h
      obtain ⟨y, h1, rfl⟩ := gets1 e3
      exact ⟨t, u, e, x, y, ho, e1, e2, e4, h1, rfl, rfl⟩
    · rename_i e ys e1 e2 e3
      split at h <;> try (simp at h; done)
      rename_i e4
      simp only [Option.some.injEq, Prod.mk.injEq, Opn.m.injEq] at h
      obtain ⟨⟨rfl, rfl, rfl⟩, _⟩ := h
      obtain ⟨y, h1, rfl⟩ := gets1 e3
      exact ⟨t, u, e, x, y, ho, e1, e2, e4, h1, rfl⟩
  case makeInterface t x =>
    repeat' split at h
    all_goals simp at h
  case makeFunc fn first cap => cases fn <;> simp at h
  case fieldAddr t x f =>
    repeat' split at h
    all_goals simp at h
  case indexAddr t x i =>
    repeat' split at h
    all_goals simp at h
  case index t x i =>
    repeat' split at h
    all_goals simp at h
  case slice t x lo hi mx =>
    repeat' split at h
    all_goals simp at h
  case extract x i => simp at h
  case makeSlice t x y =>
    split at h <;> try (simp at h; done)
    rename_i e ys e1 e2
    split at h <;> try (simp at h; done)
    rename_i sz bs zs e3 e4 e5
    split at h <;> try (simp at h; done)
    rename_i hc
    simp only [Option.some.injEq, Prod.mk.injEq, Opn.m.injEq] at h
    obtain ⟨⟨rfl, rfl, rfl⟩, _⟩ := h
    obtain ⟨p, q, h1, h2, rfl⟩ := gets2 e2
    exact ⟨t, x, y, p, q, ho, e1, e3, e4, e5, hc.1, hc.2, h1, h2, rfl, rfl⟩
  case call c =>
    obtain ⟨callee, args, ts⟩ := c
    split at h
    · repeat' split at h
      all_goals simp at h
    · rename_i hcal
      simp only at hcal
      subst hcal
      split at h <;> try (simp at h; done)
      rename_i x y t u ea et
      have ea' : args = #[x, y] := Array.toList_inj.1 (by simpa using ea)
      have et' : ts = #[t, u] := Array.toList_inj.1 (by simpa using et)
      subst ea' et'
      split at h <;> try (simp at h; done)
      rename_i e ys e1 e2
      split at h <;> try (simp at h; done)
      rename_i sz bs zs e3 e4 e5
      split at h <;> try (simp at h; done)
      rename_i hc
      obtain ⟨rfl, hc1, hc2⟩ := hc
      simp only [Option.some.injEq, Prod.mk.injEq, Opn.m.injEq] at h
      obtain ⟨⟨rfl, rfl, rfl⟩, _⟩ := h
      obtain ⟨p, q, h1, h2, rfl⟩ := gets2 e2
      exact ⟨t, x, y, p, q, ho, appInfo_of e1 e3 e4 e5 hc1 hc2, h1, h2, rfl, rfl⟩
    · repeat' split at h
      all_goals simp at h
    · repeat' split at h
      all_goals simp at h
    · split at h <;> simp at h
    · simp at h

theorem c_inv {sl k : Nat} {f : Opd} {slot n : Nat} {xs : List Opd} (h : trOp P sl o = some (.call f xs slot n, k)) : ∃ c g, o.op = .call c ∧ c.callee = .value g ∧ trOpd g = some f ∧ trOpds c.args.toList = some xs := by
  unfold trOp at h
  cases ho : o.op <;> simp only [ho, reduceCtorEq] at h
  case call c =>
    split at h
    · repeat' split at h
      all_goals simp at h
    · repeat' split at h
      all_goals simp at h
    · repeat' split at h
      all_goals simp at h
    · repeat' split at h
      all_goals simp at h
    · rename_i g hc
      split at h <;> try (simp at h; done)
      rename_i e1 e2
      simp only [Option.some.injEq, Prod.mk.injEq, Opn.call.injEq] at h
      obtain ⟨⟨rfl, rfl, rfl, rfl⟩, _⟩ := h
      exact ⟨c, g, rfl, hc, e1, e2⟩
    · simp at h
  case unOp u t x => cases u <;> simp at h
  case makeFunc fn first cap => cases fn <;> simp at h
  all_goals (try (simp at h; done))
  all_goals (repeat' split at h)
  all_goals simp at h
end
end Go.AX
namespace Go.AX
open Go.RowKit (Below)
section
variable {W0 : World} {P : Program} {β : Nat → Loc} {σ : Store} {w : World} {a : Act} {o : Oper} {s : St} {slot : Nat}

theorem get_live (hs : SRel W0 β s a w) : ∀ {y : Opd}, plainB [y] = true → ∀ l ∈ (s.get y).locs, gt s.s l ≠ .free
  | .t n, _ => hs.wft n
  | .c v, h => by
    simp only [plainB, Bool.and_true, List.isEmpty_iff] at h
    intro l hl
    simp only [St.get, h] at hl
    cases hl
theorem plain_cons {y : Opd} {ys : List Opd} (h : plainB (y :: ys) = true) : plainB [y] = true ∧ plainB ys = true := by
  cases y <;> simp_all [plainB]
theorem gets_live (hs : SRel W0 β s a w) : ∀ {ys : List Opd}, plainB ys = true → ∀ l ∈ AV.locsL (s.gets ys), gt s.s l ≠ .free
  | [], _ => by simp [St.gets, AV.locsL]
  | y :: ys, h => by
    obtain ⟨h1, h2⟩ := plain_cons h
    intro l hl
    simp only [St.gets, AV.locsL, List.mem_append] at hl
    rcases hl with hl | hl
    · exact get_live hs h1 l hl
    · exact gets_live hs h2 l hl

theorem pt_self {σ : Store} {l : Nat} {b : Blk} (hc : gt σ l = .live b) : pt σ l (.live b) = σ := by
  rw [pt_eq]
  apply List.ext_getElem?
  intro j
  rw [List.getElem?_set]
  split
  · rename_i e; subst e
    have := gt_lt (σ := σ) (l := l) (by rw [hc]; simp)
    rw [if_pos this]
    rw [gt_eq, List.getElem?_eq_getElem this] at hc
    rw [List.getElem?_eq_getElem this]
    simpa using hc.symm
  · rfl

theorem msem_append {slot e sz bytes : Nat} {x y v : AV} {bs : List Sl} {nw : Option Blk} (h : msem slot (.append e sz bytes) [x, y] (gts σ (mft (.append e sz bytes) [x, y])) = some (v, bs, nw)) :
    (∃ l n l' off m b c news, x = .row l n ∧ y.slice3 = some (l', off, m) ∧ gt σ l = .live b ∧ gt σ l' = .live c ∧ cellsOf sz y c = some news ∧
      (b.kind = .row e sz ∧ b.cells.length = n * sz ∧ l ≠ l' ∧ news.all AV.one ∧ n + m ≤ 9223372036854775807 ∧ (n + m) * bytes ≤ 140737488355328) ∧
      v = .row slot (n + m) ∧ bs = [.dead, .live c] ∧ nw = some ⟨.row e sz, b.flat && flatB news, b.cells ++ news⟩) ∨
    (∃ l n b, x = .row l n ∧ y = .nilsl ∧ gt σ l = .live b ∧ v = .row l n ∧ bs = [.live b] ∧ nw = none) ∨
    (∃ l' off m c news, x = .nilsl ∧ y.slice3 = some (l', off, m) ∧ gt σ l' = .live c ∧ cellsOf sz y c = some news ∧ (0 < m ∧ news.all AV.one ∧ m ≤ 9223372036854775807 ∧ m * bytes ≤ 140737488355328) ∧
      v = .row slot m ∧ bs = [.live c] ∧ nw = some ⟨.row e sz, flatB news, news⟩) := by
  cases x
  case row l n =>
    simp only [mft] at h
    cases hq : y.slice3 with
    | none =>
      simp only [hq, List.append_nil, gts] at h
      cases hb : gt σ l with
      | free => cases y <;> simp [hb, msem] at h
      | dead => cases y <;> simp [hb, msem] at h
      | live b =>
        cases y <;> simp only [hb, msem, reduceCtorEq] at h
        split at h <;> simp only [reduceCtorEq, Option.some.injEq, Prod.mk.injEq] at h
        obtain ⟨rfl, rfl, rfl⟩ := h
        exact .inr (.inl ⟨l, n, b, rfl, rfl, hb, rfl, rfl, rfl⟩)
    | some p3 =>
      obtain ⟨l', off, m⟩ := p3
      simp only [hq, List.cons_append, List.nil_append, gts] at h
      cases hb : gt σ l with
      | free => rw [hb] at h; simp [msem] at h
      | dead => rw [hb] at h; simp [msem] at h
      | live b =>
        cases hc : gt σ l' with
        | free => rw [hb, hc] at h; simp [msem] at h
        | dead => rw [hb, hc] at h; simp [msem] at h
        | live c =>
          rw [hb, hc] at h
          simp only [msem, hq] at h
          split at h <;> try (simp at h; done)
          rename_i news l2 off2 m2 hn hq'
          simp only [Option.some.injEq, Prod.mk.injEq] at hq'
          obtain ⟨rfl, rfl, rfl⟩ := hq'
          split at h <;> simp only [reduceCtorEq, Option.some.injEq, Prod.mk.injEq] at h
          rename_i hcond
          obtain ⟨rfl, rfl, rfl⟩ := h
          exact .inl ⟨l, n, l', off, m, b, c, news, rfl, rfl, hb, hc, hn, hcond, rfl, rfl, rfl⟩
  case nilsl =>
    simp only [mft, List.nil_append] at h
    cases hq : y.slice3 with
    | none => simp [hq, gts, msem] at h
    | some p3 =>
      obtain ⟨l', off, m⟩ := p3
      simp only [hq, gts] at h
      cases hc : gt σ l' with
      | free => rw [hc] at h; simp [msem] at h
      | dead => rw [hc] at h; simp [msem] at h
      | live c =>
        rw [hc] at h
        simp only [msem, hq] at h
        split at h <;> try (simp at h; done)
        rename_i news l2 off2 m2 hn hq'
        simp only [Option.some.injEq, Prod.mk.injEq] at hq'
        obtain ⟨rfl, rfl, rfl⟩ := hq'
        split at h <;> simp only [reduceCtorEq, Option.some.injEq, Prod.mk.injEq] at h
        rename_i hcond
        obtain ⟨rfl, rfl, rfl⟩ := h
        exact .inr (.inr ⟨l', off, m, c, news, rfl, rfl, hc, hn, hcond, rfl, rfl, rfl⟩)
  all_goals simp [msem] at h

theorem m_sound {R : Run} (hs : SRel W0 β s a w) {sl k base slot : Nat} {op : MOp} {xs : List Opd} (h : trOp P sl o = some (.m op slot xs, k)) (hp : plainB xs = true) {v : AV} {σ' : Store} (hv : opn R base (.m op slot xs) s = some (v, σ')) : OpGood P a w o (Post W0 β s.s w v σ') := by
  have hi := m_inv h
  have hl := gets_live hs hp
  simp only [opn] at hv
  split at hv <;> try (simp at hv; done)
  rename_i v0 bs nw hm
  split at hv <;> simp only [reduceCtorEq, Option.some.injEq, Prod.mk.injEq] at hv
  rename_i σ1 hput
  obtain ⟨rfl, rfl⟩ := hv
  cases op with
  | alloc zs =>
    obtain ⟨e, ho, hz, rfl, rfl⟩ := hi
    simp only [St.gets, mft, gts, msem, Option.some.injEq, Prod.mk.injEq] at hm
    obtain ⟨rfl, rfl, rfl⟩ := hm
    simp only [MOp.wr, Bool.false_eq_true, if_false] at hput
    obtain ⟨h1, h2, rfl⟩ := putNew_some hput
    obtain ⟨β', u, w', hx, ht⟩ := msound_alloc hs ho hz h1 h2
    exact .value hx ⟨β', ht⟩
  | box =>
    obtain ⟨e, x, y, ho, hy, rfl, rfl⟩ := hi
    simp only [St.gets, mft, gts, msem] at hm
    split at hm <;> simp only [reduceCtorEq, Option.some.injEq, Prod.mk.injEq] at hm
    rename_i hne
    obtain ⟨rfl, rfl, rfl⟩ := hm
    simp only [MOp.wr, Bool.false_eq_true, if_false] at hput
    obtain ⟨h1, h2, rfl⟩ := putNew_some hput
    obtain ⟨β', u, w', hx, ht⟩ := msound_box hs ho hy (by simpa using hne) (fun l hl' => hl l (by simp [St.gets, AV.locsL, hl'])) h1 h2
    exact .value hx ⟨β', ht⟩
  | buildSlice e sz len zs ps =>
    obtain ⟨t, parts, zs0, ho, e1, e2, e3, e4, hc, rfl, rfl, rfl⟩ := hi
    simp only [mft, gts, msem] at hm
    split at hm <;> simp only [reduceCtorEq, Option.some.injEq, Prod.mk.injEq] at hm
    rename_i cs hf
    obtain ⟨rfl, rfl, rfl⟩ := hm
    simp only [MOp.wr, Bool.false_eq_true, if_false] at hput
    obtain ⟨h1, h2, rfl⟩ := putNew_some hput
    obtain ⟨β', u, w', hx, ht⟩ := msound_buildSlice hs ho e1 e2 e3 e4 hc hf hl h1 h2
    exact .value hx ⟨β', ht⟩
  | load ag sz =>
    obtain ⟨t, x, y, sz0, ho, e1, e2, e3, e4, rfl⟩ := hi
    simp only [MOp.wr, Bool.false_eq_true, if_false] at hput
    simp only [St.gets] at hm
    cases hy : s.get y <;> simp only [hy, mft, gts] at hm <;> try (simp [msem] at hm; done)
    rename_i l off
    cases hb : gt s.s l <;> simp only [hb, msem, reduceCtorEq] at hm
    rename_i b
    split at hm
    · rename_i hag
      split at hm <;> simp only [reduceCtorEq, Option.some.injEq, Prod.mk.injEq] at hm
      rename_i hle
      obtain ⟨rfl, rfl, rfl⟩ := hm
      simp only [putNew, Option.some.injEq] at hput
      subst hput
      obtain rfl := e3 hag
      obtain ⟨u, hx, ht⟩ := msound_load hs ho e1 e2 e4 hy hb (v := .agg ((b.cells.drop off).take sz0)) (by rw [if_pos hag, if_pos hle])
      exact .value hx ⟨β, ht⟩
    · rename_i hag
      split at hm <;> simp only [reduceCtorEq, Option.some.injEq, Prod.mk.injEq] at hm
      rename_i c hc
      obtain ⟨rfl, rfl, rfl⟩ := hm
      simp only [putNew, Option.some.injEq] at hput
      subst hput
      obtain ⟨u, hx, ht⟩ := msound_load hs ho e1 e2 e4 hy hb (v := c) (by rw [if_neg hag]; exact hc)
      exact .value hx ⟨β, ht⟩
  | store sz =>
    obtain ⟨t, x, y, p, q, ho, e1, h0, e2, e3, rfl⟩ := hi
    simp only [St.gets] at hm
    cases hy : s.get p <;> simp only [hy, mft, gts] at hm <;> try (simp [msem] at hm; done)
    rename_i l off
    cases hb : gt s.s l <;> simp only [hb, msem, reduceCtorEq] at hm
    rename_i b
    split at hm <;> simp only [reduceCtorEq, Option.some.injEq, Prod.mk.injEq] at hm
    rename_i hc
    obtain ⟨rfl, rfl, rfl⟩ := hm
    simp only [St.gets, hy, mft, MOp.wr, if_true, pts, putNew, Option.some.injEq] at hput
    subst hput
    obtain ⟨w', hx, ht⟩ := msound_store hs ho e1 e2 e3 hy hb (fun l hl' => hl l (by simp [St.gets, AV.locsL, hl'])) h0 hc
    exact .skip hx ⟨β, ht⟩
  | append e sz bs' =>
    obtain ⟨t, x, y, p, q, ho, hI, hx, hy, rfl, rfl⟩ := hi
    simp only [St.gets] at hm hput
    rcases msem_append hm with ⟨l, n, l', off, m, b, c, news, hp', hq, hb, hc, hn, hcond, rfl, rfl, rfl⟩ | ⟨l, n, b, hp', hq, hb, rfl, rfl, rfl⟩ | ⟨l', off, m, c, news, hp', hq, hc, hn, hcond, rfl, rfl, rfl⟩
    · simp only [hp', mft, hq, List.cons_append, List.nil_append, MOp.wr, if_true, pts] at hput
      have hll := hcond.2.2.1
      have hpt : pt (pt s.s l .dead) l' (.live c) = pt s.s l .dead := pt_self (by rw [gt_pt _ _ _ _ (gt_lt (by rw [hb]; simp)), if_neg (Ne.symm hll)]; exact hc)
      rw [hpt] at hput
      obtain ⟨h1, h2, rfl⟩ := putNew_some hput
      have h1' : gt s.s (base + slot) = .free := by
        rw [gt_pt _ _ _ _ (gt_lt (by rw [hb]; simp))] at h1
        split at h1
        · simp at h1
        · exact h1
      obtain ⟨β', u, w', hx, ht⟩ := msound_append_row hs hI ho hx hy hp' hq hb hc hn hcond h1' (by simpa [length_pt] using h2)
      exact .value hx ⟨β', ht⟩
    · simp only [hp', hq, mft, AV.slice3, List.append_nil, MOp.wr, if_true, pts, pt_self hb, putNew, Option.some.injEq] at hput
      subst hput
      obtain ⟨u, hx, ht⟩ := msound_append_none hs hI ho hx hy hp' hq (by rw [hb]; simp)
      exact .value hx ⟨β, ht⟩
    · simp only [hp', mft, hq, List.nil_append, MOp.wr, if_true, pts, pt_self hc] at hput
      obtain ⟨h1, h2, rfl⟩ := putNew_some hput
      obtain ⟨β', u, w', hx, ht⟩ := msound_append_nil hs hI ho hx hy hp' hq hc hn hcond h1 h2
      exact .value hx ⟨β', ht⟩
  | bytes =>
    obtain ⟨t, u, e, x, p, ho, e1, e2, e3, e4, rfl, rfl⟩ := hi
    simp only [St.gets] at hm
    cases hy : s.get p <;> simp only [hy, mft, gts, msem, reduceCtorEq] at hm
    split at hm <;> simp only [reduceCtorEq, Option.some.injEq, Prod.mk.injEq] at hm
    rename_i str hlen
    obtain ⟨rfl, rfl, rfl⟩ := hm
    simp only [MOp.wr, Bool.false_eq_true, if_false] at hput
    obtain ⟨h1, h2, rfl⟩ := putNew_some hput
    obtain ⟨β', u, w', hx, ht⟩ := msound_bytes hs ho e1 e2 e3 e4 hy h1 h2
    exact .value hx ⟨β', ht⟩
  | makeSlice e sz bs' zs =>
    obtain ⟨t, x, y, p, q, ho, e1, e2, e3, e4, e5, e6, h1, h2, rfl, rfl⟩ := hi
    simp only [St.gets, mft, gts] at hm
    cases hp' : s.get p <;> simp only [hp', msem, reduceCtorEq] at hm
    cases hq' : s.get q <;> simp only [hq', msem, reduceCtorEq] at hm
    split at hm <;> simp only [reduceCtorEq, Option.some.injEq, Prod.mk.injEq] at hm
    rename_i hc
    obtain ⟨rfl, hc1, hc2, hc3⟩ := hc
    obtain ⟨rfl, rfl, rfl⟩ := hm
    simp only [MOp.wr, Bool.false_eq_true, if_false] at hput
    obtain ⟨hf, hlt, rfl⟩ := putNew_some hput
    obtain ⟨β', u, w', hx, ht⟩ := msound_makeSlice hs ho e1 e2 e3 e4 e5 e6 h1 h2 hp' hq' hc1 hc2 hc3 hf hlt
    exact .value hx ⟨β', ht⟩
  | string =>
    obtain ⟨t, u, e, x, p, ho, e1, e2, e3, e4, rfl⟩ := hi
    simp only [St.gets] at hm
    simp only [MOp.wr, Bool.false_eq_true, if_false] at hput
    cases hq : (s.get p).slice3 with
    | none => simp [mft, hq, gts, msem] at hm
    | some p3 =>
      obtain ⟨l, off, m⟩ := p3
      simp only [mft, hq, gts] at hm
      cases hc : gt s.s l with
      | free => simp [hc, msem] at hm
      | dead => simp [hc, msem] at hm
      | live c =>
        simp only [hc, msem] at hm
        split at hm <;> try (simp at hm; done)
        rename_i cs hcs
        split at hm <;> simp only [reduceCtorEq, Option.some.injEq, Prod.mk.injEq] at hm
        rename_i str hb
        obtain ⟨rfl, rfl, rfl⟩ := hm
        simp only [putNew, Option.some.injEq] at hput
        subst hput
        obtain ⟨u, hx, ht⟩ := msound_string hs ho e1 e2 e3 e4 hq hc hcs hb
        exact .value hx ⟨β, ht⟩

theorem opn_sound {R : Run} (hR : ROk P W0 R) (hs : SRel W0 β s a w) {sl k base : Nat} {op : Opn} (h : trOp P sl o = some (op, k)) (hp : plainB op.opds = true) {v : AV} {σ' : Store} (hv : opn R base op s = some (v, σ')) : OpGood P a w o (Post W0 β s.s w v σ') := by
  cases op with
  | p op xs =>
    simp only [opn] at hv
    split at hv <;> simp only [reduceCtorEq, Option.some.injEq, Prod.mk.injEq] at hv
    rename_i r hr
    obtain ⟨rfl, rfl⟩ := hv
    obtain ⟨u, hu, hd, hl⟩ := psound hs.tm h hr
    exact .value hu ⟨β, trans_same hs hd (fun l hl' => gets_live hs hp l (hl l hl'))⟩
  | m op slot xs => exact m_sound hs h hp hv
  | call f xs slot n =>
    obtain ⟨c, g, ho, hc, hg, hxs⟩ := c_inv h
    simp only [opn] at hv
    split at hv <;> try (simp at hv; done)
    rename_i fid fs cap hf
    have hdf := get_den hs.tm hg
    rw [hf] at hdf
    obtain ⟨us, vs, ef, d1, d2⟩ := hdf
    have hda := gets_den hs.tm hxs
    obtain ⟨⟨fn, h1, h2, h3⟩, hcall⟩ := call_trans hR hs.rel hs.wfb hv (DenL_append d1 (DenL_append hda d2))
    have key : (execOp a.eval o).run P w = .ok (.enter fid (us ++ (c.args.toList.map a.eval ++ vs)).toArray) w := by
      have hb : fn.body.isNone = false := by cases hb : fn.body <;> simp_all
      have e : us.toArray ++ Array.map a.eval c.args ++ vs.toArray = (us ++ (c.args.toList.map a.eval ++ vs)).toArray := by
        apply Array.toList_inj.1
        simp
      have h2' : ¬ fn.name = "runtime.NumGoroutine" := by simpa using h2
      have hb' : fn.body ≠ none := by intro e; simp [e] at hb
      simp only [execOp, ho, resolve, hc, ef, Deferred.ofValue, invoke, callFunc, Sem.run_bind, Sem.run_pure, run_program, Result.andThen, h1, h2, hb, e, Bool.false_eq_true, if_false]
    unfold OpGood
    rw [key]
    refine hcall.mono ?_
    rintro e w' ⟨v', β', rfl, ht⟩
    exact ⟨v', rfl, β', ht⟩
end
end Go.AX
namespace Go.AX

theorem mem_reach {σ : Store} : ∀ (k : Nat) (todo done : List Nat), ∀ l ∈ done, l ∈ reach σ k todo done
  | 0, _, done, l, h => by simpa [reach] using h
  | k + 1, [], done, l, h => by simpa [reach] using h
  | k + 1, x :: todo, done, l, h => by
    simp only [reach]
    split
    · exact mem_reach k _ _ l h
    · exact mem_reach k _ _ l (by simp [h])
theorem reach_congr {σ σ2 : Store} : ∀ (k : Nat) (todo done : List Nat), (∀ l ∈ reach σ k todo done, gt σ2 l = gt σ l) → reach σ2 k todo done = reach σ k todo done
  | 0, _, done, h => by simp [reach]
  | k + 1, [], done, h => by simp [reach]
  | k + 1, x :: todo, done, h => by
    simp only [reach] at h ⊢
    split
    · rename_i hm
      rw [if_pos hm] at h
      exact reach_congr k _ _ h
    · rename_i hm
      rw [if_neg hm] at h
      have hx := h x (mem_reach k _ _ x (by simp))
      rw [hx]
      exact reach_congr k _ _ h
theorem closedB_congr {σ σ2 : Store} {F : List Nat} : ∀ (r : List Nat), (∀ l ∈ r, gt σ2 l = gt σ l) → closedB σ2 F r = closedB σ F r
  | [], _ => rfl
  | l :: r, h => by
    simp only [closedB]
    rw [h l (by simp), closedB_congr r (fun x hx => h x (by simp [hx]))]
theorem partF_congr {σ σ2 : Store} {ls F : List Nat} (h : partF σ ls = some F) (he : ∀ l ∈ F, gt σ2 l = gt σ l) : partF σ2 ls = some F := by
  simp only [partF] at h ⊢
  split at h <;> simp only [reduceCtorEq, Option.some.injEq] at h
  rename_i hc
  subst h
  have hr := reach_congr 100 ls [] he
  rw [hr, closedB_congr _ he, if_pos hc]
theorem view_congr {σ σ2 : Store} {F : List Nat} : ∀ (r : List Nat), (∀ l ∈ r, gt σ2 l = gt σ l) → view σ2 F r = view σ F r
  | [], _ => rfl
  | l :: r, h => by
    simp only [view]
    rw [h l (by simp), view_congr r (fun x hx => h x (by simp [hx]))]
theorem writeBack_total {ρ : Nat → Nat} : ∀ (F : List Nat) (σ σ2 σ' σ1 rest : Store), writeBack σ ρ F σ' = some (σ1, rest) → ∃ σ3, writeBack σ2 ρ F σ' = some (σ3, rest)
  | [], σ, σ2, σ', σ1, rest, h => by
    simp only [writeBack, Option.some.injEq, Prod.mk.injEq] at h ⊢
    exact ⟨σ2, rfl, h.2⟩
  | l :: F, σ, σ2, [], σ1, rest, h => by simp [writeBack] at h
  | l :: F, σ, σ2, s :: σ', σ1, rest, h => by
    simp only [writeBack] at h ⊢
    exact writeBack_total F _ _ σ' σ1 rest h
theorem newOnes_total {ρ : Nat → Nat} : ∀ (k slot : Nat) (σ σ2 σ1 rest : Store), newOnes σ ρ slot k rest = some σ1 → σ2.length = σ.length → (∀ j, j < rest.length → gt σ2 (slot + j) = gt σ (slot + j)) → ∃ σ3, newOnes σ2 ρ slot k rest = some σ3
  | k, slot, σ, σ2, σ1, [], h, _, _ => by
    cases k <;> exact ⟨σ2, by simp [newOnes]⟩
  | 0, slot, σ, σ2, σ1, s :: r, h, _, _ => by simp [newOnes] at h
  | k + 1, slot, σ, σ2, σ1, s :: r, h, hl, hg => by
    simp only [newOnes] at h ⊢
    have h0 := hg 0 (by simp)
    simp only [Nat.add_zero] at h0
    rw [h0]
    split at h
    · rename_i hf
      split at h
      · rename_i hlt
        simp only [hl]
        rw [if_pos hlt]
        refine newOnes_total k (slot + 1) _ _ σ1 r h (by simp [length_pt, hl]) (fun j hj => ?_)
        have := hg (j + 1) (by simpa using hj)
        rw [gt_pt _ _ _ _ hlt, gt_pt _ _ _ _ (by omega), if_neg (by omega), if_neg (by omega)]
        rw [show slot + 1 + j = slot + (j + 1) from by omega]
        exact this
      · simp at h
    · simp at h
theorem newOnes_len {ρ : Nat → Nat} : ∀ (k slot : Nat) (σ σ1 rest : Store), newOnes σ ρ slot k rest = some σ1 → rest.length ≤ k
  | k, slot, σ, σ1, [], _ => by simp
  | 0, slot, σ, σ1, s :: r, h => by simp [newOnes] at h
  | k + 1, slot, σ, σ1, s :: r, h => by
    simp only [newOnes] at h
    split at h
    · split at h
      · simpa using newOnes_len k _ _ σ1 r h
      · simp at h
    · simp at h
theorem mem_rangeN {x a : Nat} : ∀ {k : Nat}, x ∈ rangeN a k ↔ a ≤ x ∧ x < a + k
  | 0 => by simp [rangeN]
  | k + 1 => by simp [rangeN, mem_rangeN (k := k)]; omega
theorem store_ext {σ σ' : Store} (hl : σ.length = σ'.length) (h : ∀ l, gt σ l = gt σ' l) : σ = σ' := by
  apply List.ext_getElem hl
  intro i h1 h2
  have := h i
  rw [gt_eq, gt_eq, List.getElem?_eq_getElem h1, List.getElem?_eq_getElem h2] at this
  simpa using this

section
variable {R : Run} {f base slot k : Nat} {args : List AV} {σ σ2 σ' : Store} {r : AV}

theorem callA_local (h : callA R f args σ slot k = some (r, σ')) : ∃ F, partF σ (AV.locsL args) = some F ∧ σ'.length = σ.length ∧ (∀ l, l ∉ rangeN slot k ++ F → gt σ' l = gt σ l) ∧
    ∀ σ2, σ2.length = σ.length → (∀ l ∈ rangeN slot k ++ F, gt σ2 l = gt σ l) → ∃ σ2', callA R f args σ2 slot k = some (r, σ2') ∧ ∀ l ∈ rangeN slot k ++ F, gt σ2' l = gt σ' l := by
  simp only [callA] at h
  cases hp : partF σ (AV.locsL args) with
  | none => simp [hp] at h
  | some F =>
    simp only [hp] at h
    refine ⟨F, rfl, ?_⟩
    obtain ⟨hsub, hcl, hnd⟩ := partF_spec hp
    have hFlt : ∀ l ∈ F, l < σ.length := fun l hl => gt_lt (hcl l hl).1
    cases hrun : R f (AV.rnL (idx F) args) (view σ F F) with
    | none => simp [hrun] at h
    | some rs =>
      obtain ⟨r0, σr⟩ := rs
      simp only [hrun] at h
      split at h <;> try (simp at h; done)
      rename_i hwhole
      generalize hρ : (fun i => if i < F.length then nthN F i else slot + (i - F.length)) = ρ at h
      cases hwb : writeBack σ ρ F σr with
      | none => simp [hwb] at h
      | some p =>
        obtain ⟨σ1, rest⟩ := p
        simp only [hwb] at h
        cases hno : newOnes σ1 ρ slot k rest with
        | none => simp [hno] at h
        | some σ3 =>
          simp only [hno, Option.some.injEq, Prod.mk.injEq] at h
          obtain ⟨rfl, rfl⟩ := h
          obtain ⟨b1, b2, b3, b4, b5⟩ := writeBack_spec F σ σr σ1 rest hwb hnd hFlt
          obtain ⟨n1, n2, n3⟩ := newOnes_spec k slot σ1 σ3 rest hno
          have hk := newOnes_len k slot σ1 σ3 rest hno
          refine ⟨n1.trans b3, ?_, ?_⟩
          · intro l hl
            simp only [List.mem_append, mem_rangeN, not_or] at hl
            rw [n3 l (by omega), b5 l hl.2]
          · intro σ2 h2 he
            have heF : ∀ l ∈ F, gt σ2 l = gt σ l := fun l hl => he l (by simp [hl])
            have heS : ∀ l ∈ rangeN slot k, gt σ2 l = gt σ l := fun l hl => he l (by simp [hl])
            obtain ⟨σ4, hwb'⟩ := writeBack_total F σ σ2 σr σ1 rest hwb
            obtain ⟨c1, c2, c3, c4, c5⟩ := writeBack_spec F σ2 σr σ4 rest hwb' hnd (fun l hl => by rw [h2]; exact hFlt l hl)
            have hslot : ∀ l ∈ rangeN slot k ++ F, gt σ4 l = gt σ1 l := by
              intro l hl
              by_cases hF : l ∈ F
              · have := c4 (idx F l) (idx_lt hF)
                rw [nthN_idx hF] at this
                have h' := b4 (idx F l) (idx_lt hF)
                rw [nthN_idx hF] at h'
                rw [this, h']
              · rw [c5 l hF, b5 l hF, he l hl]
            obtain ⟨σ5, hno'⟩ := newOnes_total k slot σ1 σ4 σ3 rest hno (by rw [c3, b3, h2]) (fun j hj => hslot _ (by simp only [List.mem_append, mem_rangeN]; exact .inl (by omega)))
            obtain ⟨m1, m2, m3⟩ := newOnes_spec k slot σ4 σ5 rest hno'
            refine ⟨σ5, ?_, ?_⟩
            · simp only [callA, partF_congr hp heF, view_congr F heF, hrun, hwhole, if_true, hρ, hwb', hno']
            · intro l hl
              by_cases hs : slot ≤ l ∧ l < slot + rest.length
              · obtain ⟨j, rfl⟩ := Nat.exists_eq_add_of_le hs.1
                rw [(m2 j (by omega)).2, (n2 j (by omega)).2]
              · rw [m3 l (by omega), n3 l (by omega), hslot l hl]
end
end Go.AX
namespace Go.AX

theorem gts_congr {σ σ2 : Store} : ∀ {ls : List Nat}, (∀ l ∈ ls, gt σ2 l = gt σ l) → gts σ2 ls = gts σ ls
  | [], _ => rfl
  | l :: r, h => by simp only [gts]; rw [h l (by simp), gts_congr (fun x hx => h x (by simp [hx]))]
theorem pts_length : ∀ (ls : List Nat) (σ : Store) (bs : List Sl), (pts σ ls bs).length = σ.length
  | [], σ, bs => by simp [pts]
  | l :: r, σ, [] => by simp [pts]
  | l :: r, σ, b :: bs => by simp only [pts]; rw [pts_length r, length_pt]
theorem gt_pt_eq (σ : Store) (l l' : Nat) (b : Sl) : gt (pt σ l b) l' = if l' = l ∧ l < σ.length then b else gt σ l' := by
  by_cases h : l < σ.length
  · rw [gt_pt _ _ _ _ h]; simp [h]
  · have : pt σ l b = σ := by rw [pt_eq, List.set_eq_of_length_le (by omega)]
    rw [this, if_neg (by omega)]
theorem pts_off : ∀ (ls : List Nat) (σ : Store) (bs : List Sl) (l : Nat), l ∉ ls → gt (pts σ ls bs) l = gt σ l
  | [], σ, bs, l, _ => by simp [pts]
  | x :: r, σ, [], l, _ => by simp [pts]
  | x :: r, σ, b :: bs, l, h => by
    simp only [List.mem_cons, not_or] at h
    simp only [pts]
    rw [pts_off r _ bs l h.2, gt_pt_eq, if_neg (by omega)]
theorem pts_on : ∀ (ls : List Nat) (σ σ2 : Store) (bs : List Sl) (l : Nat), σ2.length = σ.length → gt σ2 l = gt σ l → gt (pts σ2 ls bs) l = gt (pts σ ls bs) l
  | [], σ, σ2, bs, l, _, h => by simpa [pts] using h
  | x :: r, σ, σ2, [], l, _, h => by simpa [pts] using h
  | x :: r, σ, σ2, b :: bs, l, hl, h => by
    simp only [pts]
    exact pts_on r _ _ bs l (by simp [length_pt, hl]) (by rw [gt_pt_eq, gt_pt_eq, hl, h])
theorem msem_news {slot : Nat} {o : MOp} {vs : List AV} {bs bs' : List Sl} {v : AV} {b : Blk} (h : msem slot o vs bs = some (v, bs', some b)) : o.news = true := by
  cases o <;> simp only [MOp.news] <;> unfold msem at h <;> split at h <;> simp_all
  all_goals (repeat' split at h)
  all_goals simp_all
theorem gets_congr {s s2 : St} : ∀ {xs : List Opd}, (∀ n ∈ opdT xs, tg s2.t n = tg s.t n) → s2.gets xs = s.gets xs
  | [], _ => rfl
  | .t n :: r, h => by
    simp only [St.gets, St.get]
    rw [h n (by simp [opdT]), gets_congr (fun x hx => h x (by simp [opdT, hx]))]
  | .c v :: r, h => by
    simp only [St.gets, St.get]
    rw [gets_congr (fun x hx => h x (by simpa [opdT] using hx))]
theorem get_congr {s s2 : St} {x : Opd} (h : ∀ n ∈ opdT [x], tg s2.t n = tg s.t n) : s2.get x = s.get x := by
  have := gets_congr (xs := [x]) h
  simpa [St.gets] using this

section
variable {R : Run} {base : Nat} {s s1 s2 : St} {v : AV} {σ' : Store}

theorem opn_local {o : Opn} (h : opn R base o s = some (v, σ')) : σ'.length = s.s.length ∧ (∀ l, l ∉ opFoot base o s → gt σ' l = gt s.s l) ∧ (o.cls ≤ 1 → σ' = s.s) ∧
    ∀ s2 : St, (∀ n ∈ opdT o.opds, tg s2.t n = tg s.t n) → s2.s.length = s.s.length → (∀ l ∈ opFoot base o s, gt s2.s l = gt s.s l) →
      ∃ σ2', opn R base o s2 = some (v, σ2') ∧ opFoot base o s2 = opFoot base o s ∧ ∀ l ∈ opFoot base o s, gt σ2' l = gt σ' l := by
  cases o with
  | p o xs =>
    simp only [opn] at h
    split at h <;> simp only [reduceCtorEq, Option.some.injEq, Prod.mk.injEq] at h
    rename_i r hr
    obtain ⟨rfl, rfl⟩ := h
    refine ⟨rfl, fun _ _ => rfl, fun _ => rfl, fun s2 ht hl he => ⟨s2.s, ?_, rfl, he⟩⟩
    simp only [opn, gets_congr (xs := xs) ht, hr]
  | m o slot xs =>
    simp only [opn] at h
    split at h <;> try (simp at h; done)
    rename_i v0 bs nw hm
    split at h <;> simp only [reduceCtorEq, Option.some.injEq, Prod.mk.injEq] at h
    rename_i σ1 hput
    obtain ⟨rfl, rfl⟩ := h
    have hin : ∀ l, l ∉ opFoot base (.m o slot xs) s → l ∉ mft o (s.gets xs) := by
      intro l hl
      simp only [opFoot] at hl
      split at hl
      · exact fun h => hl (by simp [h])
      · exact hl
    have hin' : ∀ l, l ∈ mft o (s.gets xs) → l ∈ opFoot base (.m o slot xs) s := fun l h => by
      by_cases hc : l ∈ opFoot base (.m o slot xs) s
      · exact hc
      · exact absurd h (hin l hc)
    have hslot : ∀ b, nw = some b → base + slot ∈ opFoot base (.m o slot xs) s := by
      rintro b rfl
      simp [opFoot, msem_news hm]
    have hplen : (if o.wr then pts s.s (mft o (s.gets xs)) bs else s.s).length = s.s.length := by split <;> simp [pts_length]
    have hpoff : ∀ l, l ∉ mft o (s.gets xs) → gt (if o.wr then pts s.s (mft o (s.gets xs)) bs else s.s) l = gt s.s l := by
      intro l hl
      split
      · exact pts_off _ _ _ l hl
      · rfl
    refine ⟨?_, ?_, ?_, ?_⟩
    · cases nw with
      | none => simp only [putNew, Option.some.injEq] at hput; rw [← hput, hplen]
      | some b => obtain ⟨_, _, rfl⟩ := putNew_some hput; rw [length_pt, hplen]
    · intro l hl
      cases nw with
      | none => simp only [putNew, Option.some.injEq] at hput; rw [← hput, hpoff l (hin l hl)]
      | some b =>
        obtain ⟨_, _, rfl⟩ := putNew_some hput
        rw [gt_pt_eq, if_neg (by rintro ⟨rfl, _⟩; exact hl (hslot b rfl)), hpoff l (hin l hl)]
    · intro hcls
      have hnw : o.news = false := by cases o <;> simp_all [Opn.cls, MOp.news]
      have hwr : o.wr = false := by cases o <;> simp_all [Opn.cls, MOp.wr]
      cases nw with
      | some b => rw [msem_news hm] at hnw; cases hnw
      | none => simp only [putNew, Option.some.injEq, hwr, Bool.false_eq_true, if_false] at hput; exact hput.symm
    · intro s2 ht hl he
      have eg := gets_congr (s := s) (s2 := s2) (xs := xs) ht
      have ef : opFoot base (.m o slot xs) s2 = opFoot base (.m o slot xs) s := by simp only [opFoot, eg]
      have egts : gts s2.s (mft o (s.gets xs)) = gts s.s (mft o (s.gets xs)) := gts_congr (fun l hl => he l (hin' l hl))
      have hon : ∀ l, l ∈ opFoot base (.m o slot xs) s → gt (if o.wr then pts s2.s (mft o (s.gets xs)) bs else s2.s) l = gt (if o.wr then pts s.s (mft o (s.gets xs)) bs else s.s) l := by
        intro l hl'
        split
        · exact pts_on _ _ _ _ l hl (he l hl')
        · exact he l hl'
      have hplen2 : (if o.wr then pts s2.s (mft o (s.gets xs)) bs else s2.s).length = s2.s.length := by split <;> simp [pts_length]
      simp only [opn, eg, egts, hm]
      cases nw with
      | none =>
        simp only [putNew, Option.some.injEq] at hput ⊢
        subst hput
        exact ⟨_, rfl, ef, hon⟩
      | some b =>
        obtain ⟨h1, h2, rfl⟩ := putNew_some hput
        simp only [putNew]
        rw [hon _ (hslot b rfl), h1]
        simp only
        rw [if_pos (by rw [hplen2, hl, ← hplen]; exact h2)]
        refine ⟨_, rfl, ef, fun l hl' => ?_⟩
        rw [gt_pt_eq, gt_pt_eq, hplen, hplen2, hl, hon l hl']
  | call f xs slot k =>
    simp only [opn] at h
    split at h <;> try (simp at h; done)
    rename_i g fs cap hf
    obtain ⟨F, hF, hlen, hoff, hloc⟩ := callA_local h
    have hfoot : opFoot base (.call f xs slot k) s = rangeN (base + slot) k ++ F := by simp [opFoot, hf, hF]
    refine ⟨hlen, by rw [hfoot]; exact hoff, fun hc => by simp [Opn.cls] at hc, fun s2 ht hl he => ?_⟩
    rw [hfoot] at he
    have eg := gets_congr (s := s) (s2 := s2) (xs := xs) (fun n hn => ht n (by cases f <;> simp [Opn.opds, opdT, hn]))
    have ef := get_congr (s := s) (s2 := s2) (x := f) (fun n hn => ht n (by cases f <;> simp_all [Opn.opds, opdT]))
    obtain ⟨σ2', h1, h2⟩ := hloc s2.s hl he
    refine ⟨σ2', by simp only [opn, ef, hf, eg, h1], ?_, by rw [hfoot]; exact h2⟩
    rw [hfoot]
    simp only [opFoot, ef, hf, eg, partF_congr hF (fun l hl' => he l (by simp [hl']))]

theorem opStep_local {o : AOp} (h : opStep R base o s = some s1) : ∃ v σ', s1 = ⟨setD s.t o.dst v, σ'⟩ ∧ σ'.length = s.s.length ∧ (∀ l, l ∉ foot base o s → gt σ' l = gt s.s l) ∧ (o.op.cls ≤ 1 → σ' = s.s) ∧
    ∀ s2 : St, (∀ n ∈ o.reads, tg s2.t n = tg s.t n) → s2.s.length = s.s.length → (∀ l ∈ foot base o s, gt s2.s l = gt s.s l) →
      ∃ σ2', opStep R base o s2 = some ⟨setD s2.t o.dst v, σ2'⟩ ∧ foot base o s2 = foot base o s ∧ ∀ l ∈ foot base o s, gt σ2' l = gt σ' l := by
  unfold opStep at h
  cases hg : o.guard with
  | none =>
    simp only [hg] at h
    split at h <;> simp only [reduceCtorEq, Option.some.injEq] at h
    rename_i v σ' hop
    subst h
    obtain ⟨h1, h2, h3, h4⟩ := opn_local hop
    have hfoot : ∀ s : St, foot base o s = opFoot base o.op s := fun s => by simp [foot, hg]
    refine ⟨v, σ', rfl, h1, by rw [hfoot]; exact h2, h3, fun s2 ht hl he => ?_⟩
    rw [hfoot] at he
    obtain ⟨σ2', k1, k2, k3⟩ := h4 s2 (fun n hn => ht n (by simp [AOp.reads, hn])) hl he
    exact ⟨σ2', by simp only [opStep, hg, k1], by rw [hfoot, hfoot, k2], by rw [hfoot]; exact k3⟩
  | some gw =>
    obtain ⟨g, want⟩ := gw
    simp only [hg] at h
    have hgr : g ∈ o.reads := by simp [AOp.reads, hg]
    split at h <;> try (simp at h; done)
    · rename_i b hb
      split at h
      · rename_i hw
        split at h <;> simp only [reduceCtorEq, Option.some.injEq] at h
        rename_i v σ' hop
        subst h
        obtain ⟨h1, h2, h3, h4⟩ := opn_local hop
        have hfoot : ∀ s' : St, tg s'.t g = .bool b → foot base o s' = opFoot base o.op s' := fun s' h => by simp [foot, hg, h, hw]
        refine ⟨v, σ', rfl, h1, by rw [hfoot s hb]; exact h2, h3, fun s2 ht hl he => ?_⟩
        rw [hfoot s hb] at he
        have hb2 : tg s2.t g = .bool b := by rw [ht g hgr, hb]
        obtain ⟨σ2', k1, k2, k3⟩ := h4 s2 (fun n hn => ht n (by simp [AOp.reads, hn])) hl he
        exact ⟨σ2', by simp only [opStep, hg, hb2, hw, if_true, k1], by rw [hfoot s hb, hfoot s2 hb2, k2], by rw [hfoot s hb]; exact k3⟩
      · rename_i hw
        simp only [Option.some.injEq] at h
        subst h
        have hfoot : ∀ s' : St, tg s'.t g = .bool b → foot base o s' = [] := fun s' h => by simp [foot, hg, h, hw]
        refine ⟨_, s.s, rfl, rfl, fun _ _ => rfl, fun _ => rfl, fun s2 ht hl he => ?_⟩
        have hb2 : tg s2.t g = .bool b := by rw [ht g hgr, hb]
        exact ⟨s2.s, by simp only [opStep, hg, hb2, if_neg hw], by rw [hfoot s hb, hfoot s2 hb2], by rw [hfoot s hb]; simp⟩
    · rename_i hb
      simp only [Option.some.injEq] at h
      subst h
      have hfoot : ∀ s' : St, tg s'.t g = .tup [] → foot base o s' = [] := fun s' h => by simp [foot, hg, h]
      refine ⟨_, s.s, rfl, rfl, fun _ _ => rfl, fun _ => rfl, fun s2 ht hl he => ?_⟩
      have hb2 : tg s2.t g = .tup [] := by rw [ht g hgr, hb]
      exact ⟨s2.s, by simp only [opStep, hg, hb2], by rw [hfoot s hb, hfoot s2 hb2], by rw [hfoot s hb]; simp⟩

theorem disj_iff : ∀ {l F : List Nat}, disj l F = true ↔ ∀ x ∈ l, x ∉ F
  | [], F => by simp [disj]
  | a :: l, F => by
    simp only [disj, Bool.and_eq_true, Bool.not_eq_true', disj_iff (l := l), List.mem_cons, forall_eq_or_imp]
    rw [← memN_iff]
    simp
theorem foot_cls0 {o : AOp} (h : o.op.cls = 0) : foot base o s = [] := by
  have : opFoot base o.op s = [] := by
    cases ho : o.op with
    | p o xs => rfl
    | m o slot xs => rw [ho] at h; cases o <;> simp [Opn.cls] at h
    | call f xs slot k => rw [ho] at h; simp [Opn.cls] at h
  unfold foot
  split
  · exact this
  · split
    · split
      · exact this
      · rfl
    · rfl
theorem tg_setD {t : Tm} {d : Option Nat} {v : AV} {n : Nat} (h : d ≠ some n) : tg (setD t d v) n = tg t n := by
  cases d with
  | none => rfl
  | some d =>
    simp only [setD, tg]
    rw [if_neg (fun e => h (by rw [e]))]
theorem tg_setD_self {t : Tm} {n : Nat} {v : AV} : tg (setD t (some n) v) n = v := by simp [setD, tg]
theorem tg_setD_congr {t t' : Tm} (h : ∀ n, tg t n = tg t' n) (d : Option Nat) (v : AV) (n : Nat) : tg (setD t d v) n = tg (setD t' d v) n := by
  by_cases e : d = some n
  · subst e; rw [tg_setD_self, tg_setD_self]
  · rw [tg_setD e, tg_setD e, h n]
theorem setD_comm {t : Tm} {d d' : Option Nat} {v v' : AV} (h : ∀ n, d = some n → d' ≠ some n) (n : Nat) : tg (setD (setD t d v) d' v') n = tg (setD (setD t d' v') d v) n := by
  by_cases e : d = some n
  · have e' := h n e
    subst e
    rw [tg_setD e', tg_setD_self, tg_setD_self]
  · rw [tg_setD (d := d) e]
    by_cases e' : d' = some n
    · subst e'; rw [tg_setD_self, tg_setD_self]
    · rw [tg_setD e', tg_setD e', tg_setD e]
/-- Two states that no one tells apart. -/
def Eqv (s s' : St) : Prop := (∀ n, tg s.t n = tg s'.t n) ∧ s.s = s'.s
theorem Eqv.refl (s : St) : Eqv s s := ⟨fun _ => rfl, rfl⟩
theorem Eqv.trans {a b c : St} (h : Eqv a b) (k : Eqv b c) : Eqv a c := ⟨fun n => (h.1 n).trans (k.1 n), h.2.trans k.2⟩
theorem Eqv.symm {a b : St} (h : Eqv a b) : Eqv b a := ⟨fun n => (h.1 n).symm, h.2.symm⟩
theorem opStep_congr {o : AOp} {s s' s1 : St} (he : Eqv s s') (h : opStep R base o s = some s1) : ∃ s1', opStep R base o s' = some s1' ∧ foot base o s' = foot base o s ∧ Eqv s1' s1 := by
  obtain ⟨v, σ', rfl, h1, h2, h3, h4⟩ := opStep_local h
  obtain ⟨σ2, k1, k2, k3⟩ := h4 s' (fun n _ => (he.1 n).symm) (by rw [he.2]) (fun l _ => by rw [he.2])
  obtain ⟨_, _, e1, m1, m2, _, _⟩ := opStep_local k1
  simp only [St.mk.injEq] at e1
  obtain ⟨_, rfl⟩ := e1
  refine ⟨_, k1, k2, fun n => tg_setD_congr (fun n => (he.1 n).symm) _ _ n, ?_⟩
  show σ2 = σ'
  refine store_ext (by rw [m1, h1, he.2]) (fun l => ?_)
  by_cases hl : l ∈ foot base o s
  · exact k3 l hl
  · rw [m2 l (by rw [k2]; exact hl), h2 l hl, he.2]

/-- Two operations that may stand in either order. -/
def OkPair (x y : AOp) (fx fy : List Nat) : Prop := apartB x y = true ∧ (x.op.cls = 0 ∨ y.op.cls = 0 ∨ (x.op.cls = 1 ∧ y.op.cls = 1) ∨ disj fx fy = true)

theorem apartB_spec {x y : AOp} (h : apartB x y = true) : (∀ n ∈ y.reads, x.dst ≠ some n) ∧ (∀ n ∈ x.reads, y.dst ≠ some n) ∧ (∀ n, x.dst = some n → y.dst ≠ some n) := by
  simp only [apartB, Bool.and_eq_true] at h
  refine ⟨fun n hn e => ?_, fun n hn e => ?_, fun n e e' => ?_⟩
  · simp only [e, Bool.and_eq_true, Bool.not_eq_true'] at h
    have := memN_iff.2 hn
    rw [h.1.1] at this
    cases this
  · simp only [e, Bool.not_eq_true'] at h
    have := memN_iff.2 hn
    rw [h.2] at this
    cases this
  · simp [e, e'] at h

theorem swap {x y : AOp} {sm se : St} (hx : opStep R base x s = some sm) (hy : opStep R base y sm = some se) (hc : OkPair x y (foot base x s) (foot base y sm)) :
    ∃ sm' se', opStep R base y s = some sm' ∧ foot base y s = foot base y sm ∧ opStep R base x sm' = some se' ∧ foot base x sm' = foot base x s ∧ Eqv se' se := by
  obtain ⟨ha, hc⟩ := hc
  obtain ⟨a1, a2, a3⟩ := apartB_spec ha
  obtain ⟨v, σx, rfl, lx, ox, cx, locx⟩ := opStep_local hx
  obtain ⟨v', σy, rfl, ly, oy, cy, locy⟩ := opStep_local hy
  have agree1 : ∀ l ∈ foot base y ⟨setD s.t x.dst v, σx⟩, gt s.s l = gt σx l := by
    intro l hl
    rcases hc with h | h | h | h
    · rw [cx (by omega)]
    · rw [foot_cls0 h] at hl; cases hl
    · rw [cx (by omega)]
    · rw [ox l (fun h' => disj_iff.1 h l h' hl)]
  obtain ⟨σy', hy1, fy1, ey1⟩ := locy s (fun n hn => (tg_setD (a1 n hn)).symm) lx.symm agree1
  obtain ⟨_, _, e1, ly2, oy2, cy2, _⟩ := opStep_local hy1
  simp only [St.mk.injEq] at e1
  obtain ⟨_, rfl⟩ := e1
  have agree2 : ∀ l ∈ foot base x s, gt σy' l = gt s.s l := by
    intro l hl
    rcases hc with h | h | h | h
    · rw [foot_cls0 h] at hl; cases hl
    · rw [cy2 (by omega)]
    · rw [cy2 (by omega)]
    · rw [oy2 l (fun h' => disj_iff.1 h l hl (fy1 ▸ h'))]
  obtain ⟨σx', hx1, fx1, ex1⟩ := locx ⟨setD s.t y.dst v', σy'⟩ (fun n hn => tg_setD (a2 n hn)) ly2 agree2
  obtain ⟨_, _, e2, lx2, ox2, cx2, _⟩ := opStep_local hx1
  simp only [St.mk.injEq] at e2
  obtain ⟨_, rfl⟩ := e2
  refine ⟨_, _, hy1, fy1, hx1, fx1, ?_, ?_⟩
  · exact fun n => (setD_comm a3 n).symm
  · simp only at ly lx2 oy ox2 ⊢
    refine store_ext (by omega) (fun l => ?_)
    have hone : x.op.cls ≤ 1 ∨ y.op.cls ≤ 1 ∨ disj (foot base x s) (foot base y ⟨setD s.t x.dst v, σx⟩) = true := by
      rcases hc with h | h | h | h
      · exact .inl (by omega)
      · exact .inr (.inl (by omega))
      · exact .inl (by omega)
      · exact .inr (.inr h)
    rcases hone with h | h | h
    · rw [cx2 h]
      by_cases hl : l ∈ foot base y ⟨setD s.t x.dst v, σx⟩
      · exact ey1 l hl
      · rw [oy l hl, oy2 l (by rw [fy1]; exact hl), cx h]
    · rw [cy h]
      by_cases hl : l ∈ foot base x s
      · exact ex1 l hl
      · rw [ox2 l (by rw [fx1]; exact hl), cy2 h, ox l hl]
    · by_cases hl : l ∈ foot base x s
      · rw [ex1 l hl, oy l (disj_iff.1 h l hl)]
      · rw [ox2 l (by rw [fx1]; exact hl)]
        by_cases hl2 : l ∈ foot base y ⟨setD s.t x.dst v, σx⟩
        · exact ey1 l hl2
        · rw [oy2 l (by rw [fy1]; exact hl2), oy l hl2, ox l hl]

/-- Operations with their numbers and what they touch: a run of them. -/
def Runs (R : Run) (base : Nat) : List (Nat × AOp × List Nat) → St → St → Prop
  | [], s, se => s = se
  | (_, o, f) :: r, s, se => ∃ s', opStep R base o s = some s' ∧ foot base o s = f ∧ Runs R base r s' se

theorem runs_congr : ∀ (l : List (Nat × AOp × List Nat)) {s s' se : St}, Eqv s s' → Runs R base l s se → ∃ se', Runs R base l s' se' ∧ Eqv se' se
  | [], s, s', se, he, h => by
    simp only [Runs] at h
    subst h
    exact ⟨s', rfl, he.symm⟩
  | (j, x, fx) :: l, s, s', se, he, h => by
    obtain ⟨s1, h1, rfl, h2⟩ := h
    obtain ⟨s1', k1, k2, k3⟩ := opStep_congr he h1
    obtain ⟨se', m1, m2⟩ := runs_congr l k3.symm h2
    exact ⟨se', ⟨s1', k1, k2, m1⟩, m2⟩

theorem move {i : Nat} {y : AOp} {fy : List Nat} {l2 : List (Nat × AOp × List Nat)} {se : St} : ∀ (l1 : List (Nat × AOp × List Nat)) (s : St), Runs R base (l1 ++ (i, y, fy) :: l2) s se → (∀ x ∈ l1, OkPair x.2.1 y x.2.2 fy) →
    ∃ s' se', opStep R base y s = some s' ∧ foot base y s = fy ∧ Runs R base (l1 ++ l2) s' se' ∧ Eqv se' se
  | [], s, h, _ => by
    obtain ⟨s', h1, h2, h3⟩ := h
    exact ⟨s', se, h1, h2, h3, Eqv.refl _⟩
  | (j, x, fx) :: l1, s, h, hc => by
    obtain ⟨s1, h1, rfl, h2⟩ := h
    obtain ⟨s2, se2, k1, rfl, k2, k3⟩ := move l1 s1 h2 (fun x hx => hc x (by simp [hx]))
    obtain ⟨s', s3, m1, m2, m3, m4, m5⟩ := swap h1 k1 (hc (j, x, _) List.mem_cons_self)
    obtain ⟨se3, n1, n2⟩ := runs_congr _ m5.symm k2
    exact ⟨s', se3, m1, m2, ⟨s3, m3, m4, n1⟩, n2.trans k3⟩
end
end Go.AX
namespace Go.AX
open Go.RowKit (Below)

structure Inv (W0 : World) (β0 : Nat → Loc) (σ0 : Store) (w0 : World) (nt : Nat) (β : Nat → Loc) (s : St) (a : Act) (w : World) : Prop where
  srel : SRel W0 β s a w
  keep : Keep (Foot β0 σ0) w0 w
  foot : ∀ k, Foot β s.s k → Foot β0 σ0 k ∨ w0.heap.size ≤ k
  fix : ∀ l, l < σ0.length → β l = β0 l
  low : ∀ l, l < σ0.length → gt s.s l ≠ .free
  size : nt ≤ a.tmps.size

structure OpOk (P : Program) (nt : Nat) (ops : Array Oper) (o : Oper) (x : AOp) : Prop where
  op : ∃ sl, x.op = (trOp' P sl o).1
  dst : x.dst = o.dst
  guard : guardT ops o.guard = some x.guard
  plain : plainB x.op.opds = true
  bound : ∀ d, x.dst = some d → d < nt

section
variable {W0 w0 : World} {P : Program} {β0 β : Nat → Loc} {σ0 : Store} {w : World} {a : Act} {s se : St} {R : Run} {base nt : Nat}

theorem put_tm {β' : Nat → Loc} {nt : Nat} (hlen : nt ≤ a.tmps.size) (htm : TmRel β s.t a) (hag : ∀ n, ∀ l ∈ (tg s.t n).locs, β' l = β l) {dst : Option Nat} (hb : ∀ d, dst = some d → d < nt) {v : AV} {u : Value} (hd : Den β' v u) : TmRel β' (setD s.t dst v) (a.put dst u) := by
  intro n
  by_cases e : dst = some n
  · subst e
    have hlt := hb n rfl
    rw [tg_setD_self]
    have : (a.tmps.setIfInBounds n u).getD n undef = u := by
      simp [Array.getD, show n < a.tmps.size by omega]
    simp only [Act.put]
    rw [this]
    exact hd
  · rw [tg_setD e]
    have h2 : (a.put dst u).tmps.getD n undef = a.tmps.getD n undef := by
      cases dst with
      | none => rfl
      | some d =>
        have : d ≠ n := fun h => e (by rw [h])
        simp [Act.put, Array.getD_eq_getD_getElem?, this]
    rw [h2]
    exact Den_congr _ _ (hag n) (htm n)

theorem Inv.put (hi : Inv W0 β0 σ0 w0 nt β s a w) {β' : Nat → Loc} {σ' : Store} {w' : World} {v : AV} {u : Value} (ht : Trans W0 β s.s w β' σ' w' v u) {dst : Option Nat} (hb : ∀ d, dst = some d → d < nt) : Inv W0 β0 σ0 w0 nt β' ⟨setD s.t dst v, σ'⟩ (a.put dst u) w' := by
  refine ⟨⟨ht.rel, put_tm hi.size hi.srel.tm (fun n l hl => ht.agree l (hi.srel.wft n l hl)) hb ht.den, ?_, ht.wfb, ?_⟩, ?_, ?_, ?_, ?_, ?_⟩
  · intro n l hl
    by_cases hn : dst = some n
    · subst hn
      simp only [tg_setD_self] at hl
      exact ht.vl l hl
    · simp only at hl
      rw [tg_setD hn] at hl
      exact ht.mono l (hi.srel.wft n l hl)
  · have := hi.srel.df
    cases dst <;> simpa [Act.put] using this
  · exact hi.keep.trans ht.keep (fun x hx => (hi.foot x hx))
  · intro k hk
    rcases ht.foot k hk with h | h
    · exact hi.foot k h
    · exact .inr (Nat.le_trans hi.keep.size h)
  · intro l hl
    rw [ht.agree l (hi.low l hl), hi.fix l hl]
  · exact fun l hl => ht.mono l (hi.low l hl)
  · have := hi.size
    cases dst <;> simp [Act.put, this]

theorem Inv.congr (hi : Inv W0 β0 σ0 w0 nt β s a w) {s' : St} (he : Eqv s s') : Inv W0 β0 σ0 w0 nt β s' a w := by
  obtain ⟨h1, h2⟩ := he
  refine ⟨⟨by rw [← h2]; exact hi.srel.rel, fun n => by rw [← h1]; exact hi.srel.tm n, fun n l hl => by rw [← h2]; rw [← h1] at hl; exact hi.srel.wft n l hl, by rw [← h2]; exact hi.srel.wfb, hi.srel.df⟩, hi.keep, by rw [← h2]; exact hi.foot, hi.fix, by rw [← h2]; exact hi.low, hi.size⟩

theorem tg_cut (ls : List Nat) (t : Tm) (n : Nat) : tg (cut ls t) n = tg t n ∨ tg (cut ls t) n = .any := by
  unfold cut
  induction ls with
  | nil => simp [tgs, zt, tg]
  | cons a ls ih =>
    simp only [tgs, zt, tg]
    split
    · rename_i e; subst e; simp
    · exact ih
theorem Inv.cut (hi : Inv W0 β0 σ0 w0 nt β s a w) (ls : List Nat) : Inv W0 β0 σ0 w0 nt β ⟨cut ls s.t, s.s⟩ a w := by
  refine ⟨⟨hi.srel.rel, fun n => ?_, fun n l hl => ?_, hi.srel.wfb, hi.srel.df⟩, hi.keep, hi.foot, hi.fix, hi.low, hi.size⟩
  · rcases tg_cut ls s.t n with e | e
    · simp only [e]; exact hi.srel.tm n
    · simp only [e]; trivial
  · simp only at hl ⊢
    rcases tg_cut ls s.t n with e | e
    · rw [e] at hl; exact hi.srel.wft n l hl
    · rw [e] at hl; simp [AV.locs] at hl

theorem gt_frees (σ : Store) (n l : Nat) : gt (σ ++ frees n) l = gt σ l := by
  have hf : ∀ n i, gt (frees n) i = .free := by
    intro n
    induction n with
    | zero => intro i; rfl
    | succ n ih => intro i; cases i <;> simp [frees, gt, ih]
  by_cases h : l < σ.length
  · simp [gt_eq, List.getElem?_append_left h]
  · have := hf n (l - σ.length)
    rw [gt_eq] at this
    rw [gt_of_ge (σ := σ) (by omega), gt_eq, List.getElem?_append_right (by omega), this]

theorem Rel.store_congr {σ σ' : Store} (h : Rel W0 β σ w) (he : ∀ l, gt σ' l = gt σ l) : Rel W0 β σ' w :=
  ⟨h.base, fun l b hb => h.blk l b (by rw [← he]; exact hb), fun l l' b b' k h1 h2 => h.inj l l' b b' k (by rw [← he]; exact h1) (by rw [← he]; exact h2)⟩

theorem Inv.pad (hi : Inv W0 β0 σ0 w0 nt β s a w) (n : Nat) : Inv W0 β0 σ0 w0 nt β ⟨s.t, s.s ++ frees n⟩ a w := by
  have hg := gt_frees s.s n
  refine ⟨⟨hi.srel.rel.store_congr hg, hi.srel.tm, fun n l hl => by rw [hg]; exact hi.srel.wft n l hl, fun l b h l' hl' => ?_, hi.srel.df⟩, hi.keep, fun k hk => ?_, hi.fix, fun l hl => by rw [hg]; exact hi.low l hl, hi.size⟩
  · simp only at h ⊢
    rw [hg] at h ⊢
    exact hi.srel.wfb l b h l' hl'
  · obtain ⟨l, b, h1, h2⟩ := hk
    exact hi.foot k ⟨l, b, by rw [← hg]; exact h1, h2⟩

theorem Rel.drawn {σ : Store} (h : Rel W0 β σ w) (n : Nat) : Rel W0 β σ { w with drawn := n } :=
  ⟨⟨h.base.os, h.base.tape, h.base.output, h.base.size, h.base.block⟩, fun l b hb => (h.blk l b hb).keep (Keep.drawn (ft := fun _ => False) w n) (fun _ _ h => h), h.inj⟩
theorem Inv.drawn (hi : Inv W0 β0 σ0 w0 nt β s a w) (n : Nat) : Inv W0 β0 σ0 w0 nt β s a { w with drawn := n } :=
  ⟨⟨hi.srel.rel.drawn n, hi.srel.tm, hi.srel.wft, hi.srel.wfb, hi.srel.df⟩, hi.keep.trans (Keep.drawn (ft := fun _ => False) w n) (fun _ h => h.elim), hi.foot, hi.fix, hi.low, hi.size⟩

theorem guardT_spec {ops : Array Oper} {g : Option (Nat × Bool)} {g' : Option (Nat × Bool)} (h : guardT ops g = some g') : (g = none ∧ g' = none) ∨ ∃ j want d, g = some (j, want) ∧ g' = some (d, want) ∧ (ops[j]?).bind (·.dst) = some d := by
  cases g with
  | none => simp only [guardT, Option.some.injEq] at h; exact .inl ⟨rfl, h.symm⟩
  | some jw =>
    obtain ⟨j, want⟩ := jw
    simp only [guardT] at h
    cases hj : ops[j]? with
    | none => simp [hj] at h
    | some o =>
      simp only [hj] at h
      cases hd : o.dst with
      | none => simp [hd] at h
      | some d =>
        simp only [hd, Option.some.injEq] at h
        exact .inr ⟨j, want, d, rfl, h.symm, by simp [hj, hd]⟩

theorem yielded_of {ops : Array Oper} {j d : Nat} (h : (ops[j]?).bind (·.dst) = some d) (tmps : Array Value) (b : Bool) (hv : tmps.getD d undef = .bool b) : yielded ops tmps j = some b := by
  unfold yielded
  rw [h]
  rw [Array.getD_eq_getD_getElem?] at hv
  rcases e : tmps[d]? with _ | y
  · rw [e] at hv; simp [undef] at hv
  · rw [e, Option.getD_some] at hv
    subst hv
    simp [e]
theorem yielded_undef {ops : Array Oper} {j d : Nat} (h : (ops[j]?).bind (·.dst) = some d) (tmps : Array Value) (hv : tmps.getD d undef = .tuple #[]) : yielded ops tmps j = none := by
  unfold yielded
  rw [h]
  rw [Array.getD_eq_getD_getElem?] at hv
  rcases e : tmps[d]? with _ | y
  · simp [e]
  · rw [e, Option.getD_some] at hv
    subst hv
    simp [e]

theorem opStep_sound (hR : ROk P W0 R) (hi : Inv W0 β0 σ0 w0 nt β s a w) {ops : Array Oper} {o : Oper} {x : AOp} (hx : OpOk P nt ops o x) {s' : St} (h : opStep R base x s = some s') {K : Act → World → Prop} {Q : Exit → Act → World → Prop}
    (hK : ∀ β' a' w', Inv W0 β0 σ0 w0 nt β' s' a' w' → K a' w') : if Region.wanted o (yielded ops a.tmps) then o.wp P a w K Q else K (a.put o.dst undef) w := by
  obtain ⟨sl, htr⟩ := hx.op
  have go : ∀ {v : AV} {σ' : Store}, opn R base x.op s = some (v, σ') → s' = ⟨setD s.t x.dst v, σ'⟩ → o.wp P a w K Q := by
    intro v σ' hop e
    have htr' : ∃ k, trOp P sl o = some (x.op, k) := by
      unfold trOp' at htr
      split at htr
      · rename_i r hr
        exact ⟨r.2, by rw [hr, htr]⟩
      · rw [htr] at hop
        simp [opn, psem] at hop
    obtain ⟨k, htr⟩ := htr'
    refine (opn_sound hR hi.srel htr hx.plain hop).wp fun u w' hp => ?_
    obtain ⟨β', ht⟩ := hp
    refine hK β' _ _ ?_
    rw [e, ← hx.dst]
    exact hi.put ht hx.bound
  have skip : s' = ⟨setD s.t x.dst (.tup []), s.s⟩ → K (a.put o.dst undef) w := by
    intro e
    refine hK β _ _ ?_
    rw [e, ← hx.dst]
    exact hi.put (trans_same hi.srel (show Den β (.tup []) undef from ⟨[], rfl, rfl⟩) (by simp [AV.locs, AV.locsL])) hx.bound
  unfold opStep at h
  rcases guardT_spec hx.guard with ⟨hg, hg'⟩ | ⟨j, want, d, hg, hg', hd⟩
  · simp only [hg'] at h
    have : Region.wanted o (yielded ops a.tmps) = true := by simp [Region.wanted, hg]
    rw [if_pos this]
    split at h <;> simp only [reduceCtorEq, Option.some.injEq] at h
    rename_i v σ' hop
    exact go hop h.symm
  · simp only [hg'] at h
    have hden := hi.srel.tm d
    split at h <;> try (simp at h; done)
    · rename_i b hb
      rw [hb] at hden
      have hy := yielded_of hd a.tmps b hden
      split at h
      · rename_i hw
        have : Region.wanted o (yielded ops a.tmps) = true := by simp [Region.wanted, hg, hy, hw]
        rw [if_pos this]
        split at h <;> simp only [reduceCtorEq, Option.some.injEq] at h
        rename_i v σ' hop
        exact go hop h.symm
      · rename_i hw
        have : ¬ Region.wanted o (yielded ops a.tmps) = true := by simp [Region.wanted, hg, hy, hw]
        rw [if_neg this]
        simp only [Option.some.injEq] at h
        exact skip h.symm
    · rename_i hb
      rw [hb] at hden
      obtain ⟨vs, e, hvs⟩ := hden
      simp only [DenL] at hvs
      subst hvs
      have hy := yielded_undef hd a.tmps e
      have : ¬ Region.wanted o (yielded ops a.tmps) = true := by simp [Region.wanted, hg, hy]
      rw [if_neg this]
      simp only [Option.some.injEq] at h
      exact skip h.symm

theorem trOps_spec {ops : Array Oper} : ∀ (opers : List Oper) (slot : Nat) (l : List AOp) (n : Nat), trOps P nt ops slot opers = some (l, n) → l.length = opers.length ∧ ∀ (i : Nat) (x : AOp), l[i]? = some x → ∃ o, opers[i]? = some o ∧ OpOk P nt ops o x
  | [], slot, l, n, h => by
    simp only [trOps, Option.some.injEq, Prod.mk.injEq] at h
    obtain ⟨rfl, rfl⟩ := h
    simp
  | o :: r, slot, l, n, h => by
    simp only [trOps] at h
    split at h <;> try (simp at h; done)
    rename_i op k g h1 h2
    simp only [Option.some.injEq] at h1
    split at h <;> try (simp at h; done)
    rename_i hp
    split at h <;> simp only [reduceCtorEq, Option.some.injEq, Prod.mk.injEq] at h
    rename_i l' n' h3
    obtain ⟨rfl, rfl⟩ := h
    obtain ⟨hl, hx⟩ := trOps_spec r _ l' n' h3
    refine ⟨by simp [hl], fun i x hi => ?_⟩
    cases i with
    | zero =>
      simp only [List.getElem?_cons_zero, Option.some.injEq] at hi
      subst hi
      simp only [Bool.and_eq_true] at hp
      exact ⟨o, by simp, ⟨slot, by rw [h1]⟩, rfl, h2, hp.1, fun d hd => by have := hp.2; simp only at hd; rw [hd] at this; simpa [boundB] using this⟩
    | succ i => simpa using hx i x (by simpa using hi)

theorem wpOp_of {ops : Array Oper} {o : Oper} {i : Nat} {K : Act → World → Prop} {Q : Exit → Act → World → Prop} (ho : ops[i]? = some o) (h : if Region.wanted o (yielded ops a.tmps) then o.wp P a w K Q else K (a.put o.dst undef) w) : wpOp P ops Q i K a w := by
  unfold wpOp
  rw [ho]
  simp only
  split
  · rename_i hw; rw [if_pos hw] at h; exact .inl h
  · rename_i hw; rw [if_neg hw] at h; exact h

theorem ops_sound (hR : ROk P W0 R) {ops : Array Oper} {Q : Exit → Act → World → Prop} (hQ : ∀ β' a' w', Inv W0 β0 σ0 w0 nt β' se a' w' → Q .normal a' w') : ∀ (l : List AOp) (i : Nat) (β : Nat → Loc) (s : St) (a : Act) (w : World), (∀ j x, l[j]? = some x → ∃ o, ops[i + j]? = some o ∧ OpOk P nt ops o x) →
    Inv W0 β0 σ0 w0 nt β s a w → opsRun R base l s = some se → wpOps P ops Q (List.range' i l.length) a w
  | [], i, β, s, a, w, _, hi, h => by
    simp only [opsRun, Option.some.injEq] at h
    subst h
    simpa [wpOps] using hQ _ _ _ hi
  | x :: l, i, β, s, a, w, hx, hi, h => by
    simp only [opsRun] at h
    split at h <;> try (simp at h; done)
    rename_i s' hs'
    obtain ⟨o, ho, hok⟩ := hx 0 x (by simp)
    simp only [List.length_cons, List.range'_succ]
    rw [wpOps_cons]
    refine wpOp_of (by simpa using ho) (opStep_sound hR hi hok hs' fun β' a' w' hi' => ?_)
    exact ops_sound hR hQ l (i + 1) β' s' a' w' (fun j y hy => by
      obtain ⟨o', h1, h2⟩ := hx (j + 1) y (by simpa using hy)
      exact ⟨o', by rw [show i + 1 + j = i + (j + 1) from by omega]; exact h1, h2⟩) hi' h
end
end Go.AX
namespace Go.AX
open Go.RowKit (Below)

theorem nthF_eq (l : List (List Nat)) (n : Nat) : nthF l n = (l[n]?).getD [] := by
  induction l generalizing n with
  | nil => simp [nthF]
  | cons a l ih => cases n <;> simp [nthF, ih]
theorem befs_length : ∀ (opers : List Oper) (acc : List (List Nat)), (befs acc opers).length = acc.length + opers.length
  | [], acc => by simp [befs]
  | o :: r, acc => by simp [befs, befs_length r]; omega
theorem befs_prefix : ∀ (opers : List Oper) (acc : List (List Nat)) (j : Nat), j < acc.length → nthF (befs acc opers) j = nthF acc j
  | [], acc, j, _ => by simp [befs]
  | o :: r, acc, j, h => by
    simp only [befs]
    rw [befs_prefix r _ j (by simp; omega), nthF_eq, nthF_eq, List.getElem?_append_left h]
theorem befs_spec : ∀ (opers : List Oper) (acc : List (List Nat)) (j : Nat) (o : Oper), opers[j]? = some o → (∀ e ∈ o.after.toList, Region.binds .any e = true → e.on < acc.length + j) →
    ∀ x, x ∈ nthF (befs acc opers) (acc.length + j) ↔ ∃ e ∈ o.after.toList, Region.binds .any e = true ∧ (x = e.on ∨ x ∈ nthF (befs acc opers) e.on)
  | [], acc, j, o, h, _, x => by simp at h
  | p :: r, acc, 0, o, h, hb, x => by
    simp only [List.getElem?_cons_zero, Option.some.injEq] at h
    subst h
    simp only [befs, Nat.add_zero]
    rw [befs_prefix r _ acc.length (by simp), nthF_eq, List.getElem?_append_right (by omega)]
    simp only [Nat.sub_self, List.getElem?_cons_zero, Option.getD_some, befStep, List.mem_flatMap, List.mem_filter, List.mem_cons]
    constructor
    · rintro ⟨e, ⟨he, hbe⟩, hx⟩
      refine ⟨e, he, hbe, ?_⟩
      have := hb e he hbe
      rw [befs_prefix r _ e.on (by simp; omega), nthF_eq, List.getElem?_append_left (by omega), ← nthF_eq]
      exact hx
    · rintro ⟨e, he, hbe, hx⟩
      refine ⟨e, ⟨he, hbe⟩, ?_⟩
      have := hb e he hbe
      rw [befs_prefix r _ e.on (by simp; omega), nthF_eq, List.getElem?_append_left (by omega), ← nthF_eq] at hx
      exact hx
  | p :: r, acc, j + 1, o, h, hb, x => by
    have := befs_spec r (acc ++ [befStep acc p]) j o (by simpa using h) (fun e he hbe => by have := hb e he hbe; simp; omega) x
    simp only [List.length_append, List.length_cons, List.length_nil, Nat.zero_add] at this
    rw [show acc.length + 1 + j = acc.length + (j + 1) from by omega] at this
    simpa only [befs] using this
theorem backB_spec : ∀ (opers : List Oper) (n : Nat), backB n opers = true → ∀ j o, opers[j]? = some o → ∀ e ∈ o.after.toList, Region.binds .any e = true → e.on < n + j
  | [], n, _, j, o, h => by simp at h
  | p :: r, n, h, j, o, hj => by
    simp only [backB, Bool.and_eq_true, List.all_eq_true] at h
    cases j with
    | zero =>
      simp only [List.getElem?_cons_zero, Option.some.injEq] at hj
      subst hj
      intro e he hb
      have := h.1 e he
      simpa [hb] using this
    | succ j =>
      intro e he hb
      have := backB_spec r (n + 1) h.2 j o (by simpa using hj) e he hb
      omega
theorem nthA_eq (l : List AOp) (n : Nat) : nthA l n = l[n]? := by
  induction l generalizing n with
  | nil => simp [nthA]
  | cons a l ih => cases n <;> simp [nthA, ih]
theorem mem_allPairs {n i j : Nat} : (i, j) ∈ allPairs n ↔ i < j ∧ j < n := by
  simp only [allPairs, List.mem_flatMap, List.mem_map, List.mem_range, Prod.mk.injEq]
  constructor
  · rintro ⟨k, hk, x, hx, rfl, rfl⟩; exact ⟨hx, hk⟩
  · rintro ⟨h1, h2⟩; exact ⟨j, h2, i, h1, rfl, rfl⟩
theorem pairsT_spec {l : List AOp} {bs : List (List Nat)} : ∀ (prs ps : List (Nat × Nat)), pairsT l bs prs = some ps → ∀ i j, (i, j) ∈ prs → i ∈ nthF bs j ∨ ∃ x y, l[i]? = some x ∧ l[j]? = some y ∧ apartB x y = true ∧ (x.op.cls = 0 ∨ y.op.cls = 0 ∨ (x.op.cls = 1 ∧ y.op.cls = 1) ∨ (i, j) ∈ ps)
  | [], ps, _, i, j, hm => by cases hm
  | (i', j') :: r, ps, h, i, j, hm => by
    simp only [pairsT] at h
    split at h
    · rename_i hb
      rcases List.mem_cons.1 hm with e | hm
      · obtain ⟨rfl, rfl⟩ := Prod.mk.inj e
        exact .inl (memN_iff.1 hb)
      · exact pairsT_spec r ps h i j hm
    · rename_i hb
      split at h <;> try (simp at h; done)
      rename_i x y hx hy
      rw [nthA_eq] at hx hy
      split at h <;> try (simp at h; done)
      rename_i ha
      split at h <;> try (simp at h; done)
      rename_i ps' hps
      rcases List.mem_cons.1 hm with e | hm
      · obtain ⟨rfl, rfl⟩ := Prod.mk.inj e
        refine .inr ⟨x, y, hx, hy, ha, ?_⟩
        split at h
        · rename_i hc
          rcases hc with hc | hc | hc
          · exact .inl hc
          · exact .inr (.inl hc)
          · exact .inr (.inr (.inl hc))
        · simp only [Option.some.injEq] at h
          subst h
          exact .inr (.inr (.inr (by simp)))
      · rcases pairsT_spec r ps' hps i j hm with h' | ⟨x', y', h1, h2, h3, h4⟩
        · exact .inl h'
        · refine .inr ⟨x', y', h1, h2, h3, ?_⟩
          rcases h4 with h4 | h4 | h4 | h4
          · exact .inl h4
          · exact .inr (.inl h4)
          · exact .inr (.inr (.inl h4))
          · refine .inr (.inr (.inr ?_))
            split at h <;> simp only [Option.some.injEq] at h <;> subst h
            · exact h4
            · simp [h4]
theorem pairsOk_spec {fs : List (List Nat)} : ∀ {ps : List (Nat × Nat)}, pairsOk fs ps = true → ∀ i j, (i, j) ∈ ps → disj (nthF fs i) (nthF fs j) = true
  | [], _, i, j, hm => by cases hm
  | (i', j') :: r, h, i, j, hm => by
    simp only [pairsOk, Bool.and_eq_true] at h
    rcases List.mem_cons.1 hm with e | hm
    · obtain ⟨rfl, rfl⟩ := Prod.mk.inj e
      exact h.1
    · exact pairsOk_spec h.2 i j hm

def items : Nat → List AOp → List (List Nat) → List (Nat × AOp × List Nat)
  | i, x :: l, f :: fs => (i, x, f) :: items (i + 1) l fs
  | _, _, _ => []
theorem items_mem : ∀ {l : List AOp} {fs : List (List Nat)} {i : Nat} {x : Nat × AOp × List Nat}, x ∈ items i l fs → i ≤ x.1 ∧ l[x.1 - i]? = some x.2.1 ∧ nthF fs (x.1 - i) = x.2.2
  | [], fs, i, x, h => by simp [items] at h
  | o :: l, [], i, x, h => by simp [items] at h
  | o :: l, f :: fs, i, x, h => by
    simp only [items, List.mem_cons] at h
    rcases h with rfl | h
    · simp [nthF]
    · obtain ⟨h1, h2, h3⟩ := items_mem h
      have e : x.1 - i = (x.1 - (i + 1)) + 1 := by omega
      refine ⟨by omega, ?_, ?_⟩
      · rw [e]; simpa using h2
      · rw [e]; simpa [nthF] using h3
theorem items_all : ∀ {l : List AOp} {fs : List (List Nat)} {i j : Nat}, l.length = fs.length → i ≤ j → j < i + l.length → ∃ x ∈ items i l fs, x.1 = j
  | [], fs, i, j, hl, h1, h2 => by simp at h2; omega
  | o :: l, [], i, j, hl, h1, h2 => by simp at hl
  | o :: l, f :: fs, i, j, hl, h1, h2 => by
    by_cases e : j = i
    · exact ⟨(i, o, f), by simp [items], e.symm⟩
    · obtain ⟨x, hx, h⟩ := items_all (l := l) (fs := fs) (i := i + 1) (j := j) (by simpa using hl) (by omega) (by simp at h2; omega)
      exact ⟨x, by simp [items, hx], h⟩
theorem items_sorted : ∀ (l : List AOp) (fs : List (List Nat)) (i : Nat), (items i l fs).Pairwise (fun x y => x.1 < y.1)
  | [], fs, i => by simp [items]
  | o :: l, [], i => by simp [items]
  | o :: l, f :: fs, i => by
    simp only [items, List.pairwise_cons]
    exact ⟨fun x hx => by have := (items_mem hx).1; omega, items_sorted l fs (i + 1)⟩
theorem items_length : ∀ (l : List AOp) (fs : List (List Nat)) (i : Nat), l.length = fs.length → (items i l fs).length = l.length
  | [], fs, i, _ => by simp [items]
  | o :: l, [], i, h => by simp at h
  | o :: l, f :: fs, i, h => by simp [items, items_length l fs (i + 1) (by simpa using h)]
theorem opsFoot_runs {R : Run} {base : Nat} : ∀ (l : List AOp) (i : Nat) (s se : St) (fs : List (List Nat)), opsFoot R base l s = some (se, fs) → l.length = fs.length ∧ Runs R base (items i l fs) s se
  | [], i, s, se, fs, h => by
    simp only [opsFoot, Option.some.injEq, Prod.mk.injEq] at h
    obtain ⟨rfl, rfl⟩ := h
    simp [items, Runs]
  | o :: l, i, s, se, fs, h => by
    simp only [opsFoot] at h
    split at h <;> try (simp at h; done)
    rename_i s' hs
    split at h <;> simp only [reduceCtorEq, Option.some.injEq, Prod.mk.injEq] at h
    rename_i s'' fs' hf
    obtain ⟨rfl, rfl⟩ := h
    obtain ⟨h1, h2⟩ := opsFoot_runs l (i + 1) s' _ fs' hf
    exact ⟨by simp [h1], s', hs, rfl, h2⟩
theorem opsRun_foot {R : Run} {base : Nat} : ∀ (l : List AOp) (s se : St), opsRun R base l s = some se → ∃ fs, opsFoot R base l s = some (se, fs)
  | [], s, se, h => by
    simp only [opsRun, Option.some.injEq] at h
    subst h
    exact ⟨[], rfl⟩
  | o :: l, s, se, h => by
    simp only [opsRun] at h
    split at h <;> try (simp at h; done)
    rename_i s' hs
    obtain ⟨fs, hf⟩ := opsRun_foot l s' se h
    exact ⟨foot base o s :: fs, by simp [opsFoot, hs, hf]⟩

section
variable {W0 w0 : World} {P : Program} {β0 : Nat → Loc} {σ0 : Store} {se : St} {R : Run} {base nt : Nat}

theorem ready_iff {ops : Array Oper} {listed : Array Bool} {i : Nat} : i ∈ Region.ready .any ops listed ↔ i < ops.size ∧ listed.getD i true = false ∧ ∃ o, ops[i]? = some o ∧ ∀ e ∈ o.after.toList, Region.binds .any e = true → listed.getD e.on false = true := by
  simp only [Region.ready, List.mem_filter, List.mem_range, Bool.and_eq_true, Bool.not_eq_true']
  constructor
  · rintro ⟨h1, h2, h3⟩
    refine ⟨h1, h2, ?_⟩
    cases ho : ops[i]? with
    | none => simp [ho] at h3
    | some o =>
      refine ⟨o, rfl, fun e he hb => ?_⟩
      simp only [ho, Option.map_some, Option.getD_some, Array.all_eq_true_iff_forall_mem] at h3
      have := h3 e (by simpa using he)
      simpa [hb] using this
  · rintro ⟨h1, h2, o, ho, h3⟩
    refine ⟨h1, h2, ?_⟩
    simp only [ho, Option.map_some, Option.getD_some, Array.all_eq_true_iff_forall_mem]
    intro e he
    by_cases hb : Region.binds .any e = true
    · simp [h3 e (by simpa using he) hb]
    · simp [hb]

theorem any_sound (hR : ROk P W0 R) {ops : Array Oper} {Q : Exit → Act → World → Prop} (hQ : ∀ β' a' w', Inv W0 β0 σ0 w0 nt β' se a' w' → Q .normal a' w') (hback : backB 0 ops.toList = true) :
    ∀ (fuel : Nat) (listed : Array Bool) (rem : List (Nat × AOp × List Nat)) (β : Nat → Loc) (s sf : St) (a : Act) (w : World), Inv W0 β0 σ0 w0 nt β s a w → Runs R base rem s sf → Eqv sf se → rem.length ≤ fuel →
      rem.Pairwise (fun x y => x.1 < y.1 ∧ (x.1 ∈ nthF (befs [] ops.toList) y.1 ∨ OkPair x.2.1 y.2.1 x.2.2 y.2.2)) → (∀ x ∈ rem, ∃ o, ops[x.1]? = some o ∧ OpOk P nt ops o x.2.1) → listed.size = ops.size →
      (∀ i, i < ops.size → (listed.getD i true = false ↔ ∃ x ∈ rem, x.1 = i)) → (∀ j, j < ops.size → listed.getD j true = true → ∀ i ∈ nthF (befs [] ops.toList) j, listed.getD i false = true) →
      wpAny P .any ops Q fuel listed a w := by
  have edge : ∀ {i : Nat} {o : Oper}, ops[i]? = some o → ∀ e ∈ o.after.toList, Region.binds .any e = true → e.on < i := by
    intro i o ho e he hb
    have := backB_spec ops.toList 0 hback i o (by simpa using ho) e he hb
    omega
  have hnil : ∀ (listed : Array Bool) (rem : List (Nat × AOp × List Nat)), rem.Pairwise (fun x y => x.1 < y.1 ∧ (x.1 ∈ nthF (befs [] ops.toList) y.1 ∨ OkPair x.2.1 y.2.1 x.2.2 y.2.2)) → (∀ x ∈ rem, ∃ o, ops[x.1]? = some o ∧ OpOk P nt ops o x.2.1) → listed.size = ops.size →
      (∀ i, i < ops.size → (listed.getD i true = false ↔ ∃ x ∈ rem, x.1 = i)) → Region.ready .any ops listed = [] → rem = [] := by
    intro listed rem hpw hok hsz hl hr
    cases rem with
    | nil => rfl
    | cons x r =>
      exfalso
      obtain ⟨o, ho, _⟩ := hok x (by simp)
      have hlt : x.1 < ops.size := (Array.getElem?_eq_some_iff.1 ho).1
      have : x.1 ∈ Region.ready .any ops listed := by
        refine ready_iff.2 ⟨hlt, (hl x.1 hlt).2 ⟨x, by simp, rfl⟩, o, ho, fun e he hb => ?_⟩
        have h1 := edge ho e he hb
        have h2 : e.on < ops.size := by omega
        by_cases hc : listed.getD e.on true = false
        · obtain ⟨y, hy, e'⟩ := (hl _ h2).1 hc
          rcases List.mem_cons.1 hy with rfl | hy
          · omega
          · have := ((List.pairwise_cons.1 hpw).1 y hy).1
            omega
        · rw [Array.getD_eq_getD_getElem?] at hc ⊢
          rw [Array.getElem?_eq_getElem (by omega)] at hc ⊢
          simpa using hc
      rw [hr] at this
      cases this
  intro fuel
  induction fuel with
  | zero =>
    intro listed rem β s sf a w hi hrun hev hlen hpw hok hsz hl hcl
    have : rem = [] := List.eq_nil_of_length_eq_zero (by omega)
    subst this
    simp only [Runs] at hrun
    subst hrun
    refine ⟨?_, hQ _ _ _ (hi.congr hev)⟩
    rw [List.eq_nil_iff_forall_not_mem]
    intro i h
    obtain ⟨h1, h2, _⟩ := ready_iff.1 h
    obtain ⟨x, hx, _⟩ := (hl i h1).1 h2
    cases hx
  | succ fuel ih =>
    intro listed rem β s sf a w hi hrun hev hlen hpw hok hsz hl hcl
    refine ⟨fun hr => ?_, fun i hir => ?_⟩
    · have := hnil listed rem hpw hok hsz hl hr
      subst this
      simp only [Runs] at hrun
      subst hrun
      exact hQ _ _ _ (hi.congr hev)
    · obtain ⟨h1, h2, o, ho, h3⟩ := ready_iff.1 hir
      obtain ⟨x, hx, hxi⟩ := (hl i h1).1 h2
      obtain ⟨l1, l2, rfl⟩ := List.append_of_mem hx
      obtain ⟨j, y, fy⟩ := x
      simp only at hxi
      subst hxi
      have hpw' := List.pairwise_append.1 hpw
      have hbef : ∀ k ∈ nthF (befs [] ops.toList) j, listed.getD k false = true := by
        intro k hk
        have hs := (befs_spec ops.toList [] j o (by simpa using ho) (fun e he hb => by simpa using edge ho e he hb) k)
        simp only [List.length_nil, Nat.zero_add] at hs
        obtain ⟨e, he, hb, hk'⟩ := hs.1 hk
        rcases hk' with rfl | hk'
        · exact h3 e he hb
        · have hon := edge ho e he hb
          have := h3 e he hb
          refine hcl e.on (by omega) ?_ k hk'
          rw [Array.getD_eq_getD_getElem?] at this ⊢
          rw [Array.getElem?_eq_getElem (by omega)] at this ⊢
          simpa using this
      have hok1 : ∀ x ∈ l1, OkPair x.2.1 y x.2.2 fy := by
        intro x hx1
        obtain ⟨hlt, h⟩ := hpw'.2.2 x hx1 (j, y, fy) (by simp)
        rcases h with h | h
        · exfalso
          have hb := hbef x.1 h
          have hf := (hl x.1 (by simp only at hlt; omega)).2 ⟨x, by simp [hx1], rfl⟩
          rw [Array.getD_eq_getD_getElem?, Array.getElem?_eq_getElem (by simp only at hlt; omega)] at hb hf
          simp only [Option.getD_some] at hb hf
          rw [hb] at hf
          cases hf
        · exact h
      obtain ⟨s', sf', hs', hfy, hrun', hev'⟩ := move l1 s hrun hok1
      obtain ⟨o', ho', hoy⟩ := hok (j, y, fy) (by simp)
      simp only at ho' hoy
      rw [ho] at ho'
      obtain rfl := Option.some.inj ho'
      have hsub : ∀ x, x ∈ l1 ++ l2 → x ∈ l1 ++ (j, y, fy) :: l2 := by
        intro x hx
        simp only [List.mem_append, List.mem_cons] at hx ⊢
        rcases hx with h | h
        · exact .inl h
        · exact .inr (.inr h)
      have hne : ∀ x, x ∈ l1 ++ l2 → x.1 ≠ j := by
        intro x hx
        rcases List.mem_append.1 hx with h | h
        · have := (hpw'.2.2 x h (j, y, fy) (by simp)).1
          simp only at this
          omega
        · have := ((List.pairwise_cons.1 hpw'.2.1).1 x h).1
          simp only at this
          omega
      have hset : ∀ (k : Nat) (d : Bool), k < ops.size → (listed.setIfInBounds j true).getD k d = if k = j then true else listed.getD k d := by
        intro k d hk
        rw [Array.getD_eq_getD_getElem?, Array.getD_eq_getD_getElem?, Array.getElem?_setIfInBounds]
        by_cases e : j = k
        · subst e; simp [hsz, h1]
        · simp [e, Ne.symm e]
      refine wpOp_of ho (opStep_sound hR hi hoy hs' fun β' a' w' hi' => ?_)
      refine ih (listed.setIfInBounds j true) (l1 ++ l2) β' s' sf' a' w' hi' hrun' (hev'.trans hev) ?_ ?_ (fun x hx => hok x (hsub x hx)) (by simp [hsz]) ?_ ?_
      · simp at hlen ⊢; omega
      · refine List.pairwise_append.2 ⟨hpw'.1, (List.pairwise_cons.1 hpw'.2.1).2, fun x hx z hz => hpw'.2.2 x hx z (by simp [hz])⟩
      · intro k hk
        rw [hset k true hk]
        by_cases e : k = j
        · rw [if_pos e]
          simp only [Bool.true_eq_false, false_iff, not_exists, not_and]
          intro x hx
          rw [e]
          exact hne x hx
        · rw [if_neg e, hl k hk]
          constructor
          · rintro ⟨x, hx, rfl⟩
            simp only [List.mem_append, List.mem_cons] at hx
            rcases hx with h | h | h
            · exact ⟨x, by simp [h], rfl⟩
            · subst h; exact absurd rfl e
            · exact ⟨x, by simp [h], rfl⟩
          · rintro ⟨x, hx, rfl⟩
            exact ⟨x, hsub x hx, rfl⟩
      · intro k hk hlk i hik
        rw [hset k true hk] at hlk
        have hi : listed.getD i false = true := by
          by_cases e : k = j
          · subst e; exact hbef i hik
          · rw [if_neg e] at hlk
            exact hcl k hk hlk i hik
        have : i < ops.size := by
          rw [Array.getD_eq_getD_getElem?] at hi
          rcases Nat.lt_or_ge i listed.size with h | h
          · omega
          · rw [Array.getElem?_eq_none h] at hi; simp at hi
        rw [hset i false this]
        split
        · rfl
        · exact hi
end
end Go.AX
namespace Go.AX
open Go.RowKit (Below)

theorem nth_rnL {π : Nat → Nat} (l : List AV) (n : Nat) : nth (AV.rnL π l) n = (nth l n).rn π := by
  induction l generalizing n with
  | nil => simp [AV.rnL, nth, AV.rn]
  | cons a l ih => cases n <;> simp [AV.rnL, nth, ih]
theorem rnL_length {π : Nat → Nat} (l : List AV) : (AV.rnL π l).length = l.length := by
  induction l with
  | nil => rfl
  | cons a l ih => simp [AV.rnL, ih]
theorem locsL_nth {l : List AV} {n x : Nat} (h : x ∈ (nth l n).locs) : x ∈ AV.locsL l := by
  induction l generalizing n with
  | nil => simp [nth, AV.locs] at h
  | cons a l ih =>
    cases n with
    | zero => simp only [nth] at h; simp [AV.locsL, h]
    | succ n => simp only [nth] at h; simp [AV.locsL, ih h]
theorem prefixB_spec : ∀ {l F : List Nat}, prefixB l F = true → ∀ i, i < l.length → i < F.length ∧ nthN F i = nthN l i
  | [], F, _, i, h => by simp at h
  | a :: l, [], h, i, _ => by simp [prefixB] at h
  | a :: l, b :: F, h, i, hi => by
    simp only [prefixB, Bool.and_eq_true, decide_eq_true_eq] at h
    cases i with
    | zero => simp [nthN, h.1]
    | succ i => simpa [nthN] using prefixB_spec h.2 i (by simpa using hi)
theorem rangeN_length (a k : Nat) : (rangeN a k).length = k := by
  induction k generalizing a with
  | zero => rfl
  | succ k ih => simp [rangeN, ih]
theorem nthN_rangeN {a k i : Nat} (h : i < k) : nthN (rangeN a k) i = a + i := by
  induction k generalizing a i with
  | zero => omega
  | succ k ih =>
    cases i with
    | zero => simp [rangeN, nthN]
    | succ i => simp only [rangeN, nthN]; rw [ih (by omega)]; omega

theorem norm_spec {m : Nat} {vs vs' : List AV} {σ σ' : Store} (h : norm m vs σ = some (vs', σ')) : ∃ F, vs' = AV.rnL (idx F) vs ∧ σ' = view σ F F ∧ (∀ x ∈ AV.locsL vs, x ∈ F) ∧ (∀ l ∈ F, gt σ l ≠ .free ∧ ∀ x ∈ (gt σ l).locs, x ∈ F) ∧ F.Nodup ∧ ∀ l, l < m → l < F.length ∧ nthN F l = l := by
  simp only [norm] at h
  split at h <;> try (simp at h; done)
  rename_i F hF
  split at h <;> simp only [reduceCtorEq, Option.some.injEq, Prod.mk.injEq] at h
  rename_i hp
  obtain ⟨rfl, rfl⟩ := h
  obtain ⟨h1, h2, h3⟩ := partF_spec hF
  refine ⟨F, rfl, rfl, fun x hx => h1 x (by simp [hx]), h2, h3, fun l hl => ?_⟩
  have := prefixB_spec hp l (by rw [rangeN_length]; exact hl)
  rw [nthN_rangeN hl, Nat.zero_add] at this
  exact this

section
variable {W0 w0 : World} {P : Program} {β0 β : Nat → Loc} {σ0 : Store} {w : World} {a : Act} {s : St} {R : Run} {nt : Nat}

theorem tg_zt {π : Nat → Nat} (ls : List Nat) (t : Tm) (n : Nat) : (n ∈ ls ∧ tg (zt ls (AV.rnL π (tgs t ls))) n = (tg t n).rn π) ∨ tg (zt ls (AV.rnL π (tgs t ls))) n = .any := by
  induction ls with
  | nil => simp [tgs, AV.rnL, zt, tg]
  | cons a ls ih =>
    simp only [tgs, AV.rnL, zt, tg]
    split
    · rename_i e; subst e; simp
    · rcases ih with ⟨h1, h2⟩ | h
      · exact .inl ⟨by simp [h1], h2⟩
      · exact .inr h
theorem mem_tgs {t : Tm} {ls : List Nat} {n x : Nat} (hn : n ∈ ls) (hx : x ∈ (tg t n).locs) : x ∈ AV.locsL (tgs t ls) := by
  induction ls with
  | nil => cases hn
  | cons a ls ih =>
    simp only [tgs, AV.locsL, List.mem_append]
    rcases List.mem_cons.1 hn with rfl | h
    · exact .inl hx
    · exact .inr (ih h)
theorem Inv.norm (hi : Inv W0 β0 σ0 w0 nt β s a w) {ls : List Nat} {vs : List AV} {σ : Store} (h : norm σ0.length (tgs s.t ls) s.s = some (vs, σ)) : ∃ β', Inv W0 β0 σ0 w0 nt β' ⟨zt ls vs, σ⟩ a w := by
  obtain ⟨F, rfl, rfl, h1, h2, h3, h4⟩ := norm_spec h
  obtain ⟨r1, r2, r3, r4⟩ := rel_view hi.srel.rel h2 h3
  refine ⟨fun i => β (nthN F i), ⟨r1, ?_, ?_, ?_, hi.srel.df⟩, hi.keep, ?_, ?_, ?_, hi.size⟩
  · intro n
    simp only
    rcases tg_zt ls s.t n with ⟨hn, e⟩ | e
    · rw [e]
      exact Den_rn _ _ (fun l hl => by rw [nthN_idx (h1 l (mem_tgs hn hl))]) (hi.srel.tm n)
    · rw [e]; trivial
  · intro n l hl
    simp only at hl ⊢
    rcases tg_zt ls s.t n with ⟨hn, e⟩ | e
    · rw [e, rn_locs] at hl
      obtain ⟨x, hx, rfl⟩ := List.mem_map.1 hl
      exact r2 _ (idx_lt (h1 x (mem_tgs hn hx)))
    · rw [e] at hl; simp [AV.locs] at hl
  · intro l b hb l' hl'
    exact r2 _ (r3 l b hb l' hl')
  · rintro k ⟨l, b, hb, ho⟩
    obtain ⟨b0, e1, e2, _⟩ := r4 l b hb
    exact hi.foot k ⟨nthN F l, b0, e1, by rw [← e2]; exact ho⟩
  · intro l hl
    show β (nthN F l) = β0 l
    rw [(h4 l hl).2, hi.fix l hl]
  · exact fun l hl => r2 l (h4 l hl).1

def ExMatch : Ex → Exit → Prop
  | .norm, .normal => True
  | .exit i, .exit j => i = j
  | .ret, .ret => True
  | _, _ => False

/-- What the end of a piece of code tells. -/
def End (W0 : World) (β0 : Nat → Loc) (σ0 : Store) (w0 : World) (nt : Nat) (r : Ex × St) : Exit → Act → World → Prop := fun e a w => ExMatch r.1 e ∧ ∃ β, Inv W0 β0 σ0 w0 nt β r.2 a w

theorem nz_end {β : Nat → Loc} {se : St} {a : Act} {w : World} (hi : Inv W0 β0 σ0 w0 nt β se a w) {live : List Nat} {r : Ex × St} (hz : nz live (norm σ0.length (tgs se.t live) se.s) = some r) : End W0 β0 σ0 w0 nt r .normal a w := by
  cases hn : norm σ0.length (tgs se.t live) se.s with
  | none => rw [hn] at hz; simp [nz] at hz
  | some x =>
    obtain ⟨vs, σ⟩ := x
    rw [hn] at hz
    simp only [nz, Option.some.injEq] at hz
    subst hz
    obtain ⟨β', hi'⟩ := hi.norm hn
    exact ⟨trivial, β', hi'⟩

theorem region_sound (hR : ROk P W0 R) {id : Nat} {ops : Array Oper} {l : List AOp} {n k : Nat} (hl : trOps P nt ops k ops.toList = some (l, n)) (hi : Inv W0 β0 σ0 w0 nt β s a w) {se : St} (h : opsRun R s.s.length l ⟨s.t, s.s ++ frees n⟩ = some se) {live : List Nat} {r : Ex × St} (hz : nz live (norm σ0.length (tgs se.t live) se.s) = some r) : (Code.region id ops false).wp P (End W0 β0 σ0 w0 nt r) a w := by
  obtain ⟨hlen, hok⟩ := trOps_spec _ _ _ _ hl
  refine wp_region ?_
  have := ops_sound hR (Q := End W0 β0 σ0 w0 nt r) (ops := ops) (fun β' a' w' hi' => nz_end hi' hz) l 0 β _ a w (fun j x hx => by
    obtain ⟨o, h1, h2⟩ := hok j x hx
    exact ⟨o, by simpa using h1, h2⟩) (hi.pad n) h
  rw [List.range_eq_range']
  rw [hlen] at this
  simpa using this

theorem draw_sound (hR : ROk P W0 R) (hm : P.follows .mixedOrders = true) {id : Nat} {ops : Array Oper} {l : List AOp} {n k : Nat} (hl : trOps P nt ops k ops.toList = some (l, n)) (hback : backB 0 ops.toList = true) {ps : List (Nat × Nat)} (hps : pairsT l (befs [] ops.toList) (allPairs l.length) = some ps)
    (hi : Inv W0 β0 σ0 w0 nt β s a w) {se : St} {fs : List (List Nat)} (h : opsFoot R s.s.length l ⟨s.t, s.s ++ frees n⟩ = some (se, fs)) (hpo : pairsOk fs ps = true) {live : List Nat} {r : Ex × St} (hz : nz live (norm σ0.length (tgs se.t live) se.s) = some r) : (Code.region id ops true).wp P (End W0 β0 σ0 w0 nt r) a w := by
  obtain ⟨hlen, hok⟩ := trOps_spec _ _ _ _ hl
  obtain ⟨hfl, hrun⟩ := opsFoot_runs l 0 _ _ _ h
  have hsz : l.length = ops.size := by simpa using hlen
  refine wp_region_any hm ?_
  refine any_sound hR (fun β' a' w' hi' => nz_end hi' hz) hback ops.size _ (items 0 l fs) β _ _ a _ ((hi.pad n).drawn _) hrun (Eqv.refl _) (by rw [items_length l fs 0 hfl]; omega) ?_ ?_ (by simp) ?_ ?_
  · have hs := items_sorted l fs 0
    refine List.Pairwise.imp_of_mem ?_ hs
    intro x y hx hy hlt
    refine ⟨hlt, ?_⟩
    obtain ⟨_, x1, x2⟩ := items_mem hx
    obtain ⟨_, y1, y2⟩ := items_mem hy
    simp only [Nat.sub_zero] at x1 x2 y1 y2
    have hyl : y.1 < l.length := (List.getElem?_eq_some_iff.1 y1).1
    rcases pairsT_spec _ _ hps x.1 y.1 (mem_allPairs.2 ⟨hlt, hyl⟩) with hb | ⟨x', y', e1, e2, e3, e4⟩
    · exact .inl hb
    · rw [x1] at e1
      rw [y1] at e2
      obtain rfl := Option.some.inj e1
      obtain rfl := Option.some.inj e2
      refine .inr ⟨e3, ?_⟩
      rcases e4 with e4 | e4 | e4 | e4
      · exact .inl e4
      · exact .inr (.inl e4)
      · exact .inr (.inr (.inl e4))
      · have := pairsOk_spec hpo _ _ e4
        rw [x2, y2] at this
        exact .inr (.inr (.inr this))
  · intro x hx
    obtain ⟨_, x1, _⟩ := items_mem hx
    simp only [Nat.sub_zero] at x1
    obtain ⟨o, h1, h2⟩ := hok _ _ x1
    exact ⟨o, by simpa using h1, h2⟩
  · intro i hi'
    constructor
    · intro _
      exact items_all hfl (by omega) (by omega)
    · intro _
      simp [hi']
  · intro j hj hl'
    simp [hj] at hl'

theorem loop_round {c : Code} {Q : Exit → Act → World → Prop} {L : Act → World → Prop} (hc : c.wp P (Exit.then L Q) a w)
    (hL : ∀ a' w', L a' w' → ∀ (b : Frame) (k : List Item) (cs : List Frame), ∃ e a'' w'', Q e a'' w'' ∧ Arrives P (lone (b.at a' (.code c :: .inLoop c :: k)) cs w') b k cs e a'' w'') :
    ∀ (b : Frame) (k : List Item) (cs : List Frame), ∃ e a'' w'', Q e a'' w'' ∧ Arrives P (lone (b.at a (.code c :: .inLoop c :: k)) cs w) b k cs e a'' w'' := by
  intro b k cs
  obtain ⟨e, a₁, w₁, hq, harr⟩ := hc b (.inLoop c :: k) cs
  cases e with
  | normal =>
    obtain ⟨e₂, a₂, w₂, hq₂, harr₂⟩ := hL a₁ w₁ hq b k cs
    exact ⟨e₂, a₂, w₂, hq₂, .of_steps (Steps.trans harr (.one step_inLoop)) harr₂⟩
  | exit id => exact ⟨_, a₁, w₁, hq, .pass (x := .inLoop c) rfl (fun _ _ => .inl (by simp)) harr⟩
  | goto l => exact ⟨_, a₁, w₁, hq, .pass (x := .inLoop c) rfl (fun _ _ => .inl (by simp)) harr⟩
  | ret => exact ⟨_, a₁, w₁, hq, .pass (x := .inLoop c) rfl (fun _ _ => .inl (by simp)) harr⟩
  | panic ch => exact ⟨_, a₁, w₁, hq, .pass (x := .inLoop c) rfl (fun _ _ => .inl (by simp)) harr⟩
  | outgrown => exact ⟨_, a₁, w₁, hq, .pass (x := .inLoop c) rfl (fun _ _ => .inl (by simp)) harr⟩

theorem ex_sound (hR : ROk P W0 R) (hm : P.follows .mixedOrders = true) : ∀ (c : Code) (h : List (List Nat)) (c' : Cd) (h' : List (List Nat)), trC P nt c h = some (c', h') → ∀ (k : Nat) (β : Nat → Loc) (s : St) (a : Act) (w : World) (r : Ex × St), ex R σ0.length k c' s = some r →
    Inv W0 β0 σ0 w0 nt β s a w → c.wp P (End W0 β0 σ0 w0 nt r) a w := by
  intro c
  induction c with
  | skip =>
    intro h c' h' ht k β s a w r he hi
    simp only [trC, Option.some.injEq, Prod.mk.injEq] at ht
    obtain ⟨rfl, rfl⟩ := ht
    simp only [ex, Option.some.injEq] at he
    subst he
    exact wp_skip ⟨trivial, β, hi⟩
  | region id ops draw =>
    intro h c' h' ht k β s a w r he hi
    cases h with
    | nil => simp [trC] at ht
    | cons live h =>
    simp only [trC] at ht
    split at ht <;> try (simp at ht; done)
    rename_i l n hl
    cases draw with
    | true =>
      simp only [if_true] at ht
      split at ht <;> try (simp at ht; done)
      rename_i hb
      simp only [Option.map_eq_some_iff, Prod.mk.injEq] at ht
      obtain ⟨ps, hps, rfl, rfl⟩ := ht
      cases ps with
      | nil =>
        simp only [ex] at he
        split at he <;> try (simp at he; done)
        rename_i se hrun
        obtain ⟨fs, hf⟩ := opsRun_foot _ _ _ hrun
        exact draw_sound hR hm hl hb hps hi hf rfl he
      | cons p ps =>
        simp only [ex] at he
        split at he <;> try (simp at he; done)
        rename_i se fs hf
        split at he <;> try (simp at he; done)
        rename_i hpo
        exact draw_sound hR hm hl hb hps hi hf hpo he
    | false =>
      simp only [Bool.false_eq_true, if_false, Option.some.injEq, Prod.mk.injEq] at ht
      obtain ⟨rfl, rfl⟩ := ht
      simp only [ex] at he
      split at he <;> try (simp at he; done)
      rename_i se hrun
      exact region_sound hR hl hi hrun he
  | seq x y ihx ihy =>
    intro h c' h' ht k β s a w r he hi
    simp only [trC] at ht
    split at ht <;> try (simp at ht; done)
    rename_i x' h1 hx
    split at ht <;> simp only [reduceCtorEq, Option.some.injEq, Prod.mk.injEq] at ht
    rename_i y' h2 hy
    obtain ⟨rfl, rfl⟩ := ht
    simp only [ex] at he
    cases hr : ex R σ0.length k x' s with
    | none => simp [hr] at he
    | some r1 =>
      obtain ⟨e1, s1⟩ := r1
      have hxw := ihx _ _ _ hx k β s a w _ hr hi
      refine wp_seq (wp_mono hxw ?_)
      rintro e a1 w1 ⟨hma, β1, hi1⟩
      cases e1 with
      | norm =>
        simp only [hr] at he
        cases e <;> simp only [ExMatch] at hma
        exact ihy _ _ _ hy k β1 s1 a1 w1 r he hi1
      | exit i =>
        simp only [hr, Option.some.injEq] at he
        subst he
        cases e <;> simp only [ExMatch] at hma
        exact ⟨hma, β1, hi1⟩
      | ret =>
        simp only [hr, Option.some.injEq] at he
        subst he
        cases e <;> simp only [ExMatch] at hma
        exact ⟨trivial, β1, hi1⟩
  | cond c x y ihx ihy =>
    intro h c' h' ht k β s a w r he hi
    simp only [trC] at ht
    split at ht <;> try (simp at ht; done)
    rename_i c1 hc
    split at ht <;> try (simp at ht; done)
    rename_i x' h1 hx
    split at ht <;> simp only [reduceCtorEq, Option.some.injEq, Prod.mk.injEq] at ht
    rename_i y' h2 hy
    obtain ⟨rfl, rfl⟩ := ht
    have hd := get_den hi.srel.tm hc
    simp only [ex] at he
    split at he <;> try (simp at he; done)
    · rename_i e
      rw [e] at hd
      exact wp_cond_true hd (ihx _ _ _ hx k β s a w r he hi)
    · rename_i e
      rw [e] at hd
      exact wp_cond_false hd (ihy _ _ _ hy k β s a w r he hi)
  | block id x ihx =>
    intro h c' h' ht k β s a w r he hi
    cases h with
    | nil => simp [trC] at ht
    | cons live h =>
    simp only [trC] at ht
    split at ht <;> simp only [reduceCtorEq, Option.some.injEq, Prod.mk.injEq] at ht
    rename_i x' h1 hx
    obtain ⟨rfl, rfl⟩ := ht
    simp only [ex] at he
    cases hr : ex R σ0.length k x' s with
    | none => simp [hr] at he
    | some r1 =>
      obtain ⟨e1, s1⟩ := r1
      have hxw := ihx _ _ _ hx k β s a w _ hr hi
      refine wp_block (wp_mono hxw ?_)
      rintro e a1 w1 ⟨hma, β1, hi1⟩
      cases e1 with
      | norm =>
        simp only [hr] at he
        cases e <;> simp only [ExMatch] at hma
        exact nz_end hi1 he
      | exit i =>
        cases e <;> simp only [ExMatch] at hma
        subst hma
        simp only [hr] at he
        simp only [Exit.inBlock]
        split at he
        · rename_i e; rw [if_pos e]; exact nz_end hi1 he
        · rename_i e
          simp only [Option.some.injEq] at he
          subst he
          rw [if_neg e]; exact ⟨rfl, β1, hi1⟩
      | ret =>
        simp only [hr, Option.some.injEq] at he
        subst he
        cases e <;> simp only [ExMatch] at hma
        exact ⟨trivial, β1, hi1⟩
  | loop x ihx =>
    intro h c' h' ht k β s a w r he hi
    cases h with
    | nil => simp [trC] at ht
    | cons live h =>
      simp only [trC] at ht
      split at ht <;> simp only [reduceCtorEq, Option.some.injEq, Prod.mk.injEq] at ht
      rename_i x' h1 hx
      obtain ⟨rfl, rfl⟩ := ht
      have key : ∀ (k : Nat) (β : Nat → Loc) (s : St) (a : Act) (w : World), ex R σ0.length k (.loop live x') s = some r → Inv W0 β0 σ0 w0 nt β s a w →
          ∀ (b : Frame) (K : List Item) (cs : List Frame), ∃ e a'' w'', End W0 β0 σ0 w0 nt r e a'' w'' ∧ Arrives P (lone (b.at a (.code x :: .inLoop x :: K)) cs w) b K cs e a'' w'' := by
        intro k
        induction k with
        | zero => intro β s a w he hi; simp [ex] at he
        | succ k ih =>
          intro β s a w he hi
          simp only [ex] at he
          split at he <;> try (simp at he; done)
          rename_i vs σ hn
          obtain ⟨β1, hi1⟩ := hi.norm hn
          cases hr : ex R σ0.length k x' ⟨zt live vs, σ⟩ with
          | none => simp [hr] at he
          | some r1 =>
            obtain ⟨e1, s1⟩ := r1
            have hxw := ihx _ _ _ hx k β1 _ a w _ hr hi1
            cases e1 with
            | norm =>
              simp only [hr] at he
              refine loop_round (L := fun a' w' => ∃ β, Inv W0 β0 σ0 w0 nt β s1 a' w') (wp_mono hxw ?_) ?_
              · rintro e a1 w1 ⟨hma, β2, hi2⟩
                cases e <;> simp only [ExMatch] at hma
                exact ⟨β2, hi2⟩
              · rintro a' w' ⟨β2, hi2⟩
                exact ih β2 s1 a' w' he hi2
            | exit i =>
              simp only [hr, Option.some.injEq] at he
              subst he
              refine loop_round (L := fun _ _ => False) (wp_mono hxw ?_) (fun _ _ h => h.elim)
              rintro e a1 w1 ⟨hma, β2, hi2⟩
              cases e <;> simp only [ExMatch] at hma
              exact ⟨hma, β2, hi2⟩
            | ret =>
              simp only [hr, Option.some.injEq] at he
              subst he
              refine loop_round (L := fun _ _ => False) (wp_mono hxw ?_) (fun _ _ h => h.elim)
              rintro e a1 w1 ⟨hma, β2, hi2⟩
              cases e <;> simp only [ExMatch] at hma
              exact ⟨trivial, β2, hi2⟩
      intro b K cs
      obtain ⟨e, a', w', hq, harr⟩ := key k β s a w he hi b K cs
      exact ⟨e, a', w', hq, .of_steps (.one step_loop) harr⟩
  | exit id =>
    intro h c' h' ht k β s a w r he hi
    simp only [trC, Option.some.injEq, Prod.mk.injEq] at ht
    obtain ⟨rfl, rfl⟩ := ht
    simp only [ex, Option.some.injEq] at he
    subst he
    exact wp_exit ⟨rfl, β, hi⟩
  | ret =>
    intro h c' h' ht k β s a w r he hi
    simp only [trC, Option.some.injEq, Prod.mk.injEq] at ht
    obtain ⟨rfl, rfl⟩ := ht
    simp only [ex, Option.some.injEq] at he
    subst he
    exact wp_ret ⟨trivial, β, hi⟩
  | _ => intro h c' h' ht; simp [trC] at ht
end
end Go.AX
namespace Go.AX
open Go.RowKit (Below)

section
variable {W0 w0 : World} {P : Program} {β0 β : Nat → Loc} {σ0 : Store} {w : World} {a : Act} {s : St} {R : Run} {nt : Nat}

theorem rv_sound (hs : SRel W0 β s a w) {x : ResultVar} {rs : List ResultVar} {r : RV} {rr : List RV} (ht : trRV P (x :: rs) = some (r :: rr)) {v : AV} (hv : rv s r = some v) :
    trRV P rs = some rr ∧ ∃ u, (match x with | .tmp t => pure (a.tmps.getD t undef) | .cell c t => do loadVar t (← asAddr (a.tmps.getD c undef)) : Sem Value).run P w = .ok u w ∧ Den β v u ∧ ∀ l ∈ v.locs, gt s.s l ≠ .free := by
  cases x with
  | tmp t =>
    simp only [trRV, Option.map_eq_some_iff] at ht
    obtain ⟨l, hl, e⟩ := ht
    obtain ⟨rfl, rfl⟩ := List.cons.inj e
    simp only [rv, Option.some.injEq] at hv
    subst hv
    exact ⟨hl, _, rfl, hs.tm t, hs.wft t⟩
  | cell c t =>
    simp only [trRV] at ht
    have go : ∀ {ag : Bool} {sz sz0 : Nat}, aggT P t = some ag → szT P t = some sz0 → (ag = true → sz0 = sz) → rv s (.cell c ag sz) = some v → ∃ u, (do loadVar t (← asAddr (a.tmps.getD c undef)) : Sem Value).run P w = .ok u w ∧ Den β v u ∧ ∀ l ∈ v.locs, gt s.s l ≠ .free := by
      intro ag sz sz0 h1 h2 h3 hv
      simp only [rv] at hv
      split at hv <;> try (simp at hv; done)
      rename_i l off hp
      have hd := hs.tm c
      rw [hp] at hd
      have ep := hd.ptr
      split at hv <;> simp only [reduceCtorEq, Option.some.injEq] at hv
      rename_i v' x1 x2 hm
      subst hv
      cases hb : gt s.s l with
      | free => rw [hb] at hm; simp [msem] at hm
      | dead => rw [hb] at hm; simp [msem] at hm
      | live b =>
        rw [hb] at hm
        simp only [msem] at hm
        have hread : (if ag then (if off + sz0 ≤ b.cells.length then some (AV.agg ((b.cells.drop off).take sz0)) else none) else b.cells[off]?) = some v' := by
          split at hm
          · rename_i hag
            rw [if_pos hag]
            obtain rfl := h3 hag
            split at hm <;> simp only [reduceCtorEq, Option.some.injEq, Prod.mk.injEq] at hm
            rename_i hle
            rw [if_pos hle, hm.1]
          · rename_i hag
            rw [if_neg hag]
            split at hm <;> simp only [reduceCtorEq, Option.some.injEq, Prod.mk.injEq] at hm
            rename_i c hc
            rw [hc, hm.1]
        obtain ⟨u, hr, hd', hf⟩ := read_den (P := P) hs h1 h2 hb hread
        exact ⟨u, by simp [ep, asAddr, hr], hd', hf⟩
    split at ht <;> simp only [reduceCtorEq, Option.some.injEq] at ht
    · rename_i sz l h1 h2 h3
      obtain ⟨rfl, rfl⟩ := List.cons.inj ht
      exact ⟨h3, go h1 h2 (fun _ => rfl) hv⟩
    · rename_i sz l h1 h2 h3
      obtain ⟨rfl, rfl⟩ := List.cons.inj ht
      exact ⟨h3, go h1 h2 (fun h => by cases h) hv⟩

theorem trRV_nil {rr : List RV} (h : trRV P [] = some rr) : rr = [] := by simpa [trRV] using h.symm
theorem trRV_cons {x : ResultVar} {rs : List ResultVar} {rr : List RV} (h : trRV P (x :: rs) = some rr) : ∃ r r', rr = r :: r' := by
  cases x with
  | tmp t =>
    simp only [trRV, Option.map_eq_some_iff] at h
    obtain ⟨l, _, e⟩ := h
    exact ⟨_, _, e.symm⟩
  | cell c t =>
    simp only [trRV] at h
    split at h <;> simp only [reduceCtorEq, Option.some.injEq] at h
    · exact ⟨_, _, h.symm⟩
    · exact ⟨_, _, h.symm⟩

theorem rvs_sound (hs : SRel W0 β s a w) : ∀ (rs : List ResultVar) (rr : List RV) (vs : List AV), trRV P rs = some rr → rvs s rr = some vs →
    ∃ us : List Value, (rs.mapM fun | .tmp t => pure (a.tmps.getD t undef) | .cell c t => do loadVar t (← asAddr (a.tmps.getD c undef)) : Sem (List Value)).run P w = .ok us w ∧ DenL β vs us ∧ ∀ l ∈ AV.locsL vs, gt s.s l ≠ .free
  | [], rr, vs, ht, hv => by
    obtain rfl := trRV_nil ht
    simp only [rvs, Option.some.injEq] at hv
    subst hv
    exact ⟨[], by simp, DenL_nil, by simp [AV.locsL]⟩
  | x :: rs, rr, vs, ht, hv => by
    obtain ⟨r, r', rfl⟩ := trRV_cons ht
    simp only [rvs] at hv
    split at hv <;> try (simp at hv; done)
    rename_i v hv1
    split at hv <;> simp only [reduceCtorEq, Option.some.injEq] at hv
    rename_i vs' hv2
    subst hv
    obtain ⟨h1, u, h2, h3, h4⟩ := rv_sound hs ht hv1
    obtain ⟨us, h5, h6, h7⟩ := rvs_sound hs rs r' vs' h1 hv2
    refine ⟨u :: us, ?_, DenL_cons h3 h6, fun l hl => ?_⟩
    · rw [List.mapM_cons]
      cases x with
      | tmp t =>
        simp only [Sem.run_pure, Result.ok.injEq, and_true] at h2
        subst h2
        simp only [Sem.run_bind, Sem.run_pure, Result.andThen_ok, h5]
      | cell c t =>
        simp only [Sem.run_bind] at h2 ⊢
        simp only [h2, Sem.run_pure, Result.andThen_ok, h5]
    · simp only [AV.locsL, List.mem_append] at hl
      rcases hl with h | h
      · exact h4 l h
      · exact h7 l h

theorem finish_sound (hi : Inv W0 β0 σ0 w0 nt β s a w) {fn : Func} {rr : List RV} (ht : trRV P fn.results.toList = some rr) {r : AV} {σ' : Store} (h : finish σ0.length rr s = some (r, σ')) :
    ∃ v, (results fn a.tmps).run P w = .ok v w ∧ ∃ β', Rel W0 β' σ' w ∧ (∀ l, l < σ0.length → β' l = β0 l) ∧ Den β' r v ∧ (∀ k, Foot β' σ' k → Foot β0 σ0 k ∨ w0.heap.size ≤ k) ∧ σ0.length ≤ σ'.length := by
  unfold finish at h
  split at h <;> try (simp at h; done)
  rename_i vs hvs
  obtain ⟨us, hm, hd, hf⟩ := rvs_sound hi.srel _ _ _ ht hvs
  have hres : (results fn a.tmps).run P w = .ok (if h : us.toArray.size = 1 then us.toArray[0] else .tuple us.toArray) w := by
    unfold results
    rw [Array.mapM_eq_mapM_toList]
    simp only [Sem.run_bind, Sem.run_map, Sem.run_pure]
    exact congrArg (fun r : Result (List Value) => (r.andThen fun a w' => Result.ok a.toArray w').andThen fun a w' => Result.ok (if h : a.size = 1 then a[0] else Value.tuple a) w') hm
  have fin : ∀ {vs' : List AV} {σ'' : Store}, norm σ0.length vs s.s = some (vs', σ'') → ∃ β', Rel W0 β' σ'' w ∧ (∀ l, l < σ0.length → β' l = β0 l) ∧ DenL β' vs' us ∧ (∀ k, Foot β' σ'' k → Foot β0 σ0 k ∨ w0.heap.size ≤ k) ∧ σ0.length ≤ σ''.length := by
    intro vs' σ'' hn
    obtain ⟨F, rfl, rfl, h1, h2, h3, h4⟩ := norm_spec hn
    obtain ⟨r1, r2, r3, r4⟩ := rel_view hi.srel.rel h2 h3
    refine ⟨_, r1, ?_, DenL_rn _ _ (fun l hl => by rw [nthN_idx (h1 l hl)]) hd, ?_, ?_⟩
    · intro l hl
      show β (nthN F l) = β0 l
      rw [(h4 l hl).2, hi.fix l hl]
    · rintro k ⟨l, b, hb, ho⟩
      obtain ⟨b0, e1, e2, _⟩ := r4 l b hb
      exact hi.foot k ⟨nthN F l, b0, e1, by rw [← e2]; exact ho⟩
    · rw [view_length]
      rcases Nat.eq_zero_or_pos σ0.length with e | e
      · omega
      · have := (h4 (σ0.length - 1) (by omega)).1
        omega
  split at h <;> try (simp at h; done)
  · rename_i v σ'' hn
    simp only [Option.some.injEq, Prod.mk.injEq] at h
    obtain ⟨rfl, rfl⟩ := h
    obtain ⟨β', k1, k2, k3, k4, k5⟩ := fin hn
    obtain ⟨u, us', rfl, hdu, hds⟩ := k3
    simp only [DenL] at hds
    subst hds
    exact ⟨u, by rw [hres]; simp, β', k1, k2, hdu, k4, k5⟩
  · rename_i vs' σ'' hn1 hn
    simp only [Option.some.injEq, Prod.mk.injEq] at h
    obtain ⟨rfl, rfl⟩ := h
    obtain ⟨β', k1, k2, k3, k4, k5⟩ := fin hn
    have hl := k3.length
    have hne : ¬ us.toArray.size = 1 := by
      intro e
      simp only [List.size_toArray] at e
      match vs', hl, hn1 with
      | [], hl, _ => simp at hl; subst hl; simp at e
      | [x], _, hn1 => exact hn1 x rfl
      | x :: y :: r, hl, _ => simp at hl; omega
    exact ⟨.tuple us.toArray, by rw [hres, dif_neg hne], β', k1, k2, ⟨us, rfl, k3⟩, k4, k5⟩

theorem tg_argT : ∀ (args : List AV) (k n : Nat), tg (argT k args) n = if k ≤ n then nth args (n - k) else .any
  | [], k, n => by simp [argT, tg, nth]
  | v :: vs, k, n => by
    simp only [argT, tg]
    rw [tg_argT vs (k + 1) n]
    by_cases e : k = n
    · subst e; simp [nth]
    · rw [if_neg e]
      by_cases h : k + 1 ≤ n
      · rw [if_pos h, if_pos (by omega)]
        have : n - k = (n - (k + 1)) + 1 := by omega
        rw [this]
        rfl
      · rw [if_neg h, if_neg (by omega)]

theorem code_sound (hR : ROk P W0 R) (hm : P.follows .mixedOrders = true) {f : Nat} {fn : Func} (hf : P.funcs[f]? = some fn) {h : List (List Nat)} {fd : FD} (ht : trF P fn h = some fd) {k : Nat} {args : List AV} {σ : Store} {r : AV} {σ' : Store}
    (hr : (match ex R σ.length k fd.body ⟨argT 0 args, σ⟩ with
    | some (.ret, s) => finish σ.length fd.results s
    | some (.norm, s) => finish σ.length fd.results s
    | _ => none) = some (r, σ')) : AC P W0 f args σ r σ' := by
  simp only [trF] at ht
  split at ht <;> try (simp at ht; done)
  rename_i c hc
  split at ht <;> simp only [reduceCtorEq, Option.some.injEq] at ht
  rename_i cd rs hcd hrs
  subst ht
  simp only at hr
  intro β w vs hrel hfree hwfb hd hlocs
  have hlen : vs.length = args.length := hd.length
  have hi0 : Inv W0 β σ w fn.ntmps β ⟨argT 0 args, σ⟩ { tmps := vs.toArray ++ Array.replicate (fn.ntmps - vs.toArray.size) undef, defers := [] } w := by
    refine ⟨⟨hrel, ?_, ?_, ?_, rfl⟩, Keep.refl _ _, fun k h => .inl h, fun _ _ => rfl, fun l hl => hfree l hl, by simp; omega⟩
    · intro n
      simp only
      rw [tg_argT, if_pos (Nat.zero_le n), Nat.sub_zero]
      by_cases hn : n < args.length
      · obtain ⟨c', hc'⟩ : ∃ c', args[n]? = some c' := ⟨args[n], List.getElem?_eq_getElem hn⟩
        obtain ⟨u, hu, hdu⟩ := hd.get n c' hc'
        rw [nth_eq, hc', Option.getD_some]
        have : (vs.toArray ++ Array.replicate (fn.ntmps - vs.toArray.size) undef).getD n undef = u := by
          rw [Array.getD_eq_getD_getElem?, Array.getElem?_append_left (by simp; omega)]
          simp [hu]
        rw [this]
        exact hdu
      · rw [nth_eq, List.getElem?_eq_none (by omega)]; trivial
    · intro n l hl
      simp only at hl
      rw [tg_argT, if_pos (Nat.zero_le n), Nat.sub_zero] at hl
      exact hfree l (hlocs l (locsL_nth hl))
    · intro l b hb l' hl'
      exact hfree l' (hwfb l b hb l' hl')
  refine calls_of_wp hf hc ?_
  cases he : ex R σ.length k cd ⟨argT 0 args, σ⟩ with
  | none => simp [he] at hr
  | some res =>
    obtain ⟨e, s'⟩ := res
    have hw := ex_sound hR hm c h cd [] hcd k β _ _ w (e, s') he hi0
    refine wp_mono hw ?_
    rintro e' a' w' ⟨hma, β', hi'⟩
    have fin : finish σ.length rs s' = some (r, σ') → a'.defers = [] ∧ ∃ v, (results fn a'.tmps).run P w' = .ok v w' ∧ ∃ v' β', Ending.returned v = .returned v' ∧ Rel W0 β' σ' w' ∧ (∀ l, l < σ.length → β' l = β l) ∧ Den β' r v' ∧ Keep (Foot β σ) w w' ∧ (∀ k, Foot β' σ' k → Foot β σ k ∨ w.heap.size ≤ k) ∧ σ.length ≤ σ'.length := by
      intro hfin
      obtain ⟨v, h1, β'', h2, h3, h4, h5, h6⟩ := finish_sound hi' hrs hfin
      exact ⟨hi'.srel.df, v, h1, v, β'', rfl, h2, h3, h4, hi'.keep, h5, h6⟩
    cases e with
    | norm =>
      simp only [he] at hr
      cases e' <;> simp only [ExMatch] at hma
      exact fin hr
    | ret =>
      simp only [he] at hr
      cases e' <;> simp only [ExMatch] at hma
      exact fin hr
    | exit i => simp [he] at hr
end

/-- Each entry of the table stands for its function. -/
def EnvOk (P : Program) (W0 : World) (Γ : Env) : Prop := ∀ f fe, Γ f = some fe → Callable P f ∧ match fe with
  | .code fd => ∃ fn h, P.funcs[f]? = some fn ∧ trF P fn h = some fd
  | .prim p => ∀ args σ r σ', p args σ = some (r, σ') → AC P W0 f args σ r σ'

/-- An entry of a table. -/
def EntOk (P : Program) (W0 : World) (f : Nat) (fe : FE) : Prop := Callable P f ∧ match fe with
  | .code fd => ∃ fn h, P.funcs[f]? = some fn ∧ trF P fn h = some fd
  | .prim p => ∀ args σ r σ', p args σ = some (r, σ') → AC P W0 f args σ r σ'
def lk : List (Nat × FE) → Env
  | [], _ => none
  | (k, v) :: r, n => if k = n then some v else lk r n
theorem lk_nil {P : Program} {W0 : World} : EnvOk P W0 (lk []) := fun f fe h => by simp [lk] at h
theorem lk_cons {P : Program} {W0 : World} {f : Nat} {fe : FE} {L : List (Nat × FE)} (h : EntOk P W0 f fe) (hL : EnvOk P W0 (lk L)) : EnvOk P W0 (lk ((f, fe) :: L)) := by
  intro g ge hg
  simp only [lk] at hg
  split at hg
  · rename_i e
    subst e
    simp only [Option.some.injEq] at hg
    subst hg
    exact h
  · exact hL g ge hg
theorem ent_code {P : Program} {W0 : World} {f : Nat} {fn : Func} {h : List (List Nat)} {fd : FD} (hf : P.funcs[f]? = some fn) (hn : (fn.name == "runtime.NumGoroutine") = false) (hb : fn.body.isSome = true) (ht : trF P fn h = some fd) : EntOk P W0 f (.code fd) :=
  ⟨⟨fn, hf, hn, hb⟩, fn, h, hf, ht⟩
/-- A function of the library's that asks for nothing of the store. -/
theorem ac_of {P : Program} {W0 : World} {f : Nat} {args : List AV} {r : AV} (h : ∀ (β : Nat → Loc) (w : World) (vs : List Value), Below W0.heap.size W0 w → DenL β args vs → Calls P f vs.toArray w fun e w' => ∃ v, e = .returned v ∧ (∀ β, Den β r v) ∧ Keep (fun _ => False) w w') : AC P W0 f args [] r [] := by
  intro β w vs hrel _ _ hd _
  refine (h β w vs hrel.base hd).mono ?_
  rintro e w' ⟨v, rfl, hv, hk⟩
  refine ⟨v, β, rfl, ⟨hrel.base.trans ⟨hk.os, hk.tape, hk.output, hk.size, fun k hk' => hk.block k (Nat.lt_of_lt_of_le hk' hrel.base.size) (fun h => h)⟩, fun l b h => by simp [gt] at h, fun l l' b b' k h => by simp [gt] at h⟩, fun _ _ => rfl, hv β, hk.mono (fun _ h => h.elim), ?_, Nat.le_refl _⟩
  rintro k ⟨l, b, h, _⟩
  simp [gt] at h

theorem run_sound {P : Program} {W0 : World} {Γ : Env} (hΓ : EnvOk P W0 Γ) (hm : P.follows .mixedOrders = true) : ∀ n, ROk P W0 (run Γ n)
  | 0 => fun f args σ r σ' h => by simp [run] at h
  | n + 1 => fun f args σ r σ' h => by
    simp only [run, runF] at h
    split at h <;> try (simp at h; done)
    · rename_i p hp
      obtain ⟨h1, h2⟩ := hΓ f _ hp
      exact ⟨h1, h2 args σ r σ' h⟩
    · rename_i fd hfd
      obtain ⟨h1, fn, hh, h2, h3⟩ := hΓ f _ hfd
      exact ⟨h1, code_sound (run_sound hΓ hm n) hm h2 h3 h⟩
end Go.AX
