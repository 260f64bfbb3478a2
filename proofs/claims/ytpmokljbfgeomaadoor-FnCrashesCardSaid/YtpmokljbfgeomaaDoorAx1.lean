/- What is proved here: an executor on values that tell nothing of where memory lies, and that its operations on values stand for those of the model; no condition. -/
import Derived.Below
import Derived.Laws.AppendOwn
import Derived.Laws.World
import Derived.Laws.StructEq
import Derived.WideLaws
import Derived.ChangeKeysEq
set_option linter.unusedSimpArgs false
set_option linter.unusedVariables false
namespace Go.AX
open Go.RowKit (Below)

/-- Abstract values: what a temporary or a cell holds, told without memory's own numbers. -/
inductive AV where
  | any
  | bool (b : Bool)
  | int (k : IntKind) (n : Int)
  | str (s : List UInt8)
  | ptr (l off : Nat)
  | nilptr
  | row (l n : Nat)
  | sl (l off len : Nat)
  | nilsl
  | fn (f : Nat) (fs cap : List AV)
  | nilfn
  | map (l : Nat)
  | nilmap
  | iface (t : Nat) (v : AV)
  | niliface
  | agg (cs : List AV)
  | tup (vs : List AV)
  deriving Inhabited

/-- Where an abstract place lies in memory. -/
structure Loc where
  blk : Nat
  base : Nat
  val : Value
instance : Inhabited Loc := ⟨⟨0, 0, .slice none 0 0⟩⟩

inductive BK where
  | ro
  | box
  | row (e sz : Nat)
  deriving DecidableEq, Inhabited

structure Blk where
  kind : BK
  flat : Bool
  cells : List AV
  deriving Inhabited

/-- A place of the store: not yet given out; given out, and gone; a block. -/
inductive Sl where
  | free
  | dead
  | live (b : Blk)
  deriving Inhabited
abbrev Store := List Sl

def nth : List AV → Nat → AV
  | [], _ => .any
  | a :: _, 0 => a
  | _ :: l, n + 1 => nth l n
def upd : List AV → Nat → AV → List AV
  | [], _, _ => []
  | _ :: l, 0, v => v :: l
  | a :: l, n + 1, v => a :: upd l n v
def gt : Store → Nat → Sl
  | [], _ => .free
  | b :: _, 0 => b
  | _ :: l, n + 1 => gt l n
def pt : Store → Nat → Sl → Store
  | [], _, _ => []
  | _ :: l, 0, v => v :: l
  | a :: l, n + 1, v => a :: pt l n v

mutual
def AV.locs : AV → List Nat
  | .ptr l _ | .row l _ | .sl l _ _ | .map l => [l]
  | .fn _ fs cap => AV.locsL fs ++ AV.locsL cap
  | .iface _ v => v.locs
  | .agg cs => AV.locsL cs
  | .tup vs => AV.locsL vs
  | _ => []
def AV.locsL : List AV → List Nat
  | [] => []
  | c :: cs => c.locs ++ AV.locsL cs
end

mutual
def AV.rn (π : Nat → Nat) : AV → AV
  | .ptr l off => .ptr (π l) off
  | .row l n => .row (π l) n
  | .sl l off len => .sl (π l) off len
  | .map l => .map (π l)
  | .fn f fs cap => .fn f (AV.rnL π fs) (AV.rnL π cap)
  | .iface t v => .iface t (v.rn π)
  | .agg cs => .agg (AV.rnL π cs)
  | .tup vs => .tup (AV.rnL π vs)
  | v => v
def AV.rnL (π : Nat → Nat) : List AV → List AV
  | [] => []
  | c :: cs => c.rn π :: AV.rnL π cs
end

mutual
/-- The value v is what the abstract value tells, where places lie as β says. -/
def Den (β : Nat → Loc) : AV → Value → Prop
  | .any, _ => True
  | .bool b, v => v = .bool b
  | .int k n, v => v = .int k n
  | .str s, v => v = .string ⟨s.toArray⟩
  | .ptr l off, v => v = .pointer (some ⟨(β l).blk, (β l).base + off, none⟩)
  | .nilptr, v => v = .pointer none
  | .row l n, v => v = (β l).val ∧ ∃ a cap, v = .slice a n cap ∧ n ≤ cap ∧ (0 < n → a = some ⟨(β l).blk, (β l).base, none⟩)
  | .sl l off len, v => ∃ a cap, v = .slice a len cap ∧ len ≤ cap ∧ (0 < len → a = some ⟨(β l).blk, (β l).base + off, none⟩)
  | .nilsl, v => v = .slice none 0 0
  | .fn f fs cap, v => ∃ us vs : List Value, v = .func (.func f) us.toArray vs.toArray ∧ DenL β fs us ∧ DenL β cap vs
  | .nilfn, v => v = .nilFunc
  | .map l, v => v = .map (some (β l).blk)
  | .nilmap, v => v = .map none
  | .iface t x, v => ∃ y, v = .iface t y ∧ Den β x y
  | .niliface, v => v = .nilIface
  | .agg cs, v => ∃ vs : List Value, v = .agg vs.toArray ∧ DenL β cs vs
  | .tup cs, v => ∃ vs : List Value, v = .tuple vs.toArray ∧ DenL β cs vs
def DenL (β : Nat → Loc) : List AV → List Value → Prop
  | [], vs => vs = []
  | c :: cs, vs => ∃ u us, vs = u :: us ∧ Den β c u ∧ DenL β cs us
end

mutual
theorem Den_rn {β β' : Nat → Loc} {π : Nat → Nat} : ∀ (a : AV) (v : Value), (∀ l ∈ a.locs, β' (π l) = β l) → Den β a v → Den β' (a.rn π) v
  | .any, v, _, _ => by simp [AV.rn, Den]
  | .bool b, v, _, h => by simpa [AV.rn, Den] using h
  | .int k n, v, _, h => by simpa [AV.rn, Den] using h
  | .str s, v, _, h => by simpa [AV.rn, Den] using h
  | .ptr l off, v, hl, h => by simpa [AV.rn, Den, hl l (by simp [AV.locs])] using h
  | .nilptr, v, _, h => by simpa [AV.rn, Den] using h
  | .row l n, v, hl, h => by simpa [AV.rn, Den, hl l (by simp [AV.locs])] using h
  | .sl l off len, v, hl, h => by simpa [AV.rn, Den, hl l (by simp [AV.locs])] using h
  | .nilsl, v, _, h => by simpa [AV.rn, Den] using h
  | .fn f fs cap, v, hl, h => by
    simp only [AV.rn, Den] at h ⊢
    obtain ⟨us, vs, e, hd, hd'⟩ := h
    exact ⟨us, vs, e, DenL_rn fs us (fun l hm => hl l (by simp [AV.locs, hm])) hd, DenL_rn cap vs (fun l hm => hl l (by simp [AV.locs, hm])) hd'⟩
  | .nilfn, v, _, h => by simpa [AV.rn, Den] using h
  | .map l, v, hl, h => by simpa [AV.rn, Den, hl l (by simp [AV.locs])] using h
  | .nilmap, v, _, h => by simpa [AV.rn, Den] using h
  | .iface t x, v, hl, h => by
    simp only [AV.rn, Den] at h ⊢
    obtain ⟨y, e, hd⟩ := h
    exact ⟨y, e, Den_rn x y (fun l hm => hl l (by simpa [AV.locs] using hm)) hd⟩
  | .niliface, v, _, h => by simpa [AV.rn, Den] using h
  | .agg cs, v, hl, h => by
    simp only [AV.rn, Den] at h ⊢
    obtain ⟨vs, e, hd⟩ := h
    exact ⟨vs, e, DenL_rn cs vs (fun l hm => hl l (by simpa [AV.locs] using hm)) hd⟩
  | .tup cs, v, hl, h => by
    simp only [AV.rn, Den] at h ⊢
    obtain ⟨vs, e, hd⟩ := h
    exact ⟨vs, e, DenL_rn cs vs (fun l hm => hl l (by simpa [AV.locs] using hm)) hd⟩
theorem DenL_rn {β β' : Nat → Loc} {π : Nat → Nat} : ∀ (cs : List AV) (vs : List Value), (∀ l ∈ AV.locsL cs, β' (π l) = β l) → DenL β cs vs → DenL β' (AV.rnL π cs) vs
  | [], vs, _, h => by simpa [AV.rnL, DenL] using h
  | c :: cs, vs, hl, h => by
    simp only [AV.rnL, DenL] at h ⊢
    obtain ⟨u, us, e, h1, h2⟩ := h
    exact ⟨u, us, e, Den_rn c u (fun l hm => hl l (by simp [AV.locsL, hm])) h1, DenL_rn cs us (fun l hm => hl l (by simp [AV.locsL, hm])) h2⟩
end

mutual
theorem Den_congr {β β' : Nat → Loc} : ∀ (a : AV) (v : Value), (∀ l ∈ a.locs, β' l = β l) → Den β a v → Den β' a v
  | .any, v, _, _ => by simp [Den]
  | .bool b, v, _, h => by simpa [Den] using h
  | .int k n, v, _, h => by simpa [Den] using h
  | .str s, v, _, h => by simpa [Den] using h
  | .ptr l off, v, hl, h => by simpa [Den, hl l (by simp [AV.locs])] using h
  | .nilptr, v, _, h => by simpa [Den] using h
  | .row l n, v, hl, h => by simpa [Den, hl l (by simp [AV.locs])] using h
  | .sl l off len, v, hl, h => by simpa [Den, hl l (by simp [AV.locs])] using h
  | .nilsl, v, _, h => by simpa [Den] using h
  | .fn f fs cap, v, hl, h => by
    simp only [Den] at h ⊢
    obtain ⟨us, vs, e, hd, hd'⟩ := h
    exact ⟨us, vs, e, DenL_congr fs us (fun l hm => hl l (by simp [AV.locs, hm])) hd, DenL_congr cap vs (fun l hm => hl l (by simp [AV.locs, hm])) hd'⟩
  | .nilfn, v, _, h => by simpa [Den] using h
  | .map l, v, hl, h => by simpa [Den, hl l (by simp [AV.locs])] using h
  | .nilmap, v, _, h => by simpa [Den] using h
  | .iface t x, v, hl, h => by
    simp only [Den] at h ⊢
    obtain ⟨y, e, hd⟩ := h
    exact ⟨y, e, Den_congr x y (fun l hm => hl l (by simpa [AV.locs] using hm)) hd⟩
  | .niliface, v, _, h => by simpa [Den] using h
  | .agg cs, v, hl, h => by
    simp only [Den] at h ⊢
    obtain ⟨vs, e, hd⟩ := h
    exact ⟨vs, e, DenL_congr cs vs (fun l hm => hl l (by simpa [AV.locs] using hm)) hd⟩
  | .tup cs, v, hl, h => by
    simp only [Den] at h ⊢
    obtain ⟨vs, e, hd⟩ := h
    exact ⟨vs, e, DenL_congr cs vs (fun l hm => hl l (by simpa [AV.locs] using hm)) hd⟩
theorem DenL_congr {β β' : Nat → Loc} : ∀ (cs : List AV) (vs : List Value), (∀ l ∈ AV.locsL cs, β' l = β l) → DenL β cs vs → DenL β' cs vs
  | [], vs, _, h => by simpa [DenL] using h
  | c :: cs, vs, hl, h => by
    simp only [DenL] at h ⊢
    obtain ⟨u, us, e, h1, h2⟩ := h
    exact ⟨u, us, e, Den_congr c u (fun l hm => hl l (by simp [AV.locsL, hm])) h1, DenL_congr cs us (fun l hm => hl l (by simp [AV.locsL, hm])) h2⟩
end

section lists
variable {β : Nat → Loc}
theorem DenL_nil : DenL β [] [] := by simp [DenL]
theorem DenL_cons {c : AV} {cs : List AV} {u : Value} {us : List Value} (h : Den β c u) (hs : DenL β cs us) : DenL β (c :: cs) (u :: us) := ⟨u, us, rfl, h, hs⟩
theorem DenL.length : ∀ {cs : List AV} {vs : List Value}, DenL β cs vs → vs.length = cs.length
  | [], vs, h => by simp [DenL] at h; simp [h]
  | c :: cs, vs, h => by
    obtain ⟨u, us, rfl, _, h2⟩ := h
    simp [h2.length]
theorem DenL.get : ∀ {cs : List AV} {vs : List Value}, DenL β cs vs → ∀ (j : Nat) (c : AV), cs[j]? = some c → ∃ u, vs[j]? = some u ∧ Den β c u
  | [], vs, _, j, c, hj => by simp at hj
  | c :: cs, vs, h, 0, c', hj => by
    obtain ⟨u, us, rfl, h1, _⟩ := h
    simp at hj; subst hj
    exact ⟨u, by simp, h1⟩
  | c :: cs, vs, h, j + 1, c', hj => by
    obtain ⟨u, us, rfl, _, h2⟩ := h
    obtain ⟨u', e, hd⟩ := h2.get j c' (by simpa using hj)
    exact ⟨u', by simpa using e, hd⟩
theorem DenL_append : ∀ {cs : List AV} {vs : List Value} {cs' : List AV} {vs' : List Value}, DenL β cs vs → DenL β cs' vs' → DenL β (cs ++ cs') (vs ++ vs')
  | [], vs, cs', vs', h, h' => by simp [DenL] at h; simpa [h] using h'
  | c :: cs, vs, cs', vs', h, h' => by
    obtain ⟨u, us, rfl, h1, h2⟩ := h
    exact ⟨u, us ++ vs', by simp, h1, DenL_append h2 h'⟩
theorem DenL_take : ∀ {cs : List AV} {vs : List Value}, DenL β cs vs → ∀ n, DenL β (cs.take n) (vs.take n)
  | [], vs, h, n => by simp [DenL] at h; simp [h, DenL]
  | c :: cs, vs, h, 0 => by simp [DenL]
  | c :: cs, vs, h, n + 1 => by
    obtain ⟨u, us, rfl, h1, h2⟩ := h
    exact ⟨u, us.take n, by simp, h1, DenL_take h2 n⟩
theorem DenL_drop : ∀ {cs : List AV} {vs : List Value}, DenL β cs vs → ∀ n, DenL β (cs.drop n) (vs.drop n)
  | [], vs, h, n => by simp [DenL] at h; simp [h, DenL]
  | c :: cs, vs, h, 0 => by simpa using h
  | c :: cs, vs, h, n + 1 => by
    obtain ⟨u, us, rfl, h1, h2⟩ := h
    simpa using DenL_drop h2 n
theorem DenL_set : ∀ {cs : List AV} {vs : List Value}, DenL β cs vs → ∀ (j : Nat) {c : AV} {u : Value}, Den β c u → DenL β (cs.set j c) (vs.set j u)
  | [], vs, h, j, c, u, _ => by simp [DenL] at h; simp [h, DenL]
  | c :: cs, vs, h, 0, c', u', hd => by
    obtain ⟨u, us, rfl, h1, h2⟩ := h
    exact ⟨u', us, by simp, hd, h2⟩
  | c :: cs, vs, h, j + 1, c', u', hd => by
    obtain ⟨u, us, rfl, h1, h2⟩ := h
    exact ⟨u, us.set j u', by simp, h1, DenL_set h2 j hd⟩
theorem DenL_replicate {c : AV} {u : Value} (h : Den β c u) : ∀ n, DenL β (List.replicate n c) (List.replicate n u)
  | 0 => by simp [DenL]
  | n + 1 => ⟨u, List.replicate n u, by simp [List.replicate_succ], h, DenL_replicate h n⟩
end lists

theorem nth_eq (l : List AV) (n : Nat) : nth l n = (l[n]?).getD .any := by
  induction l generalizing n with
  | nil => simp [nth]
  | cons a l ih => cases n <;> simp [nth, ih]
theorem upd_eq (l : List AV) (n : Nat) (v : AV) : upd l n v = l.set n v := by
  induction l generalizing n with
  | nil => simp [upd]
  | cons a l ih => cases n <;> simp [upd, ih]
theorem gt_eq (l : Store) (n : Nat) : gt l n = (l[n]?).getD .free := by
  induction l generalizing n with
  | nil => simp [gt]
  | cons a l ih => cases n <;> simp [gt, ih]
theorem pt_eq (l : Store) (n : Nat) (v : Sl) : pt l n v = l.set n v := by
  induction l generalizing n with
  | nil => simp [pt]
  | cons a l ih => cases n <;> simp [pt, ih]
theorem gt_pt (σ : Store) (l l' : Nat) (b : Sl) (h : l < σ.length) : gt (pt σ l b) l' = if l' = l then b else gt σ l' := by
  rw [gt_eq, gt_eq, pt_eq, List.getElem?_set]
  by_cases e : l = l'
  · subst e; simp [h]
  · simp [e, Ne.symm e]
theorem length_pt (σ : Store) (l : Nat) (b : Sl) : (pt σ l b).length = σ.length := by simp [pt_eq]
theorem length_upd (l : List AV) (n : Nat) (v : AV) : (upd l n v).length = l.length := by simp [upd_eq]
theorem gt_of_ge {σ : Store} {l : Nat} (h : σ.length ≤ l) : gt σ l = .free := by simp [gt_eq, h]
theorem gt_lt {σ : Store} {l : Nat} (h : gt σ l ≠ .free) : l < σ.length := by
  rcases Nat.lt_or_ge l σ.length with h' | h'
  · exact h'
  · exact absurd (gt_of_ge h') h

/-- The block that an abstract place owns. -/
def own (lc : Loc) : BK → Option Nat
  | .ro => none
  | .box => some lc.blk
  | .row _ _ => lc.val.ownBlock

def Blk.locs (b : Blk) : List Nat := if b.flat then [] else AV.locsL b.cells

def BlkRel (W0 : World) (β : Nat → Loc) (w : World) (lc : Loc) (b : Blk) : Prop :=
  (b.flat = true → AV.locsL b.cells = []) ∧
  match b.kind with
  | .ro => lc.blk < W0.heap.size ∧ ∃ vs, DenL β b.cells vs ∧ ∀ j u, vs[j]? = some u → W0.cell? ⟨lc.blk, lc.base + j, none⟩ = some u
  | .box => lc.base = 0 ∧ W0.heap.size ≤ lc.blk ∧ ∃ vs sp e lo hi, DenL β b.cells vs ∧ w.heap[lc.blk]? = some (.cells (vs ++ sp).toArray e (lo, hi)) ∧ (hi ≤ lo ∨ vs.length ≤ lo)
  | .row e sz => lc.base = 0 ∧ ∃ vs n a cap, DenL β b.cells vs ∧ lc.val = .slice a n cap ∧ w.ownsRow W0.heap.size e sz lc.val n vs ∧ (∀ k, lc.val.ownBlock = some k → k = lc.blk)

/-- Block number k is one that the store may write. -/
def Foot (β : Nat → Loc) (σ : Store) (k : Nat) : Prop := ∃ l b, gt σ l = .live b ∧ own (β l) b.kind = some k

structure Rel (W0 : World) (β : Nat → Loc) (σ : Store) (w : World) : Prop where
  base : Below W0.heap.size W0 w
  blk : ∀ l b, gt σ l = .live b → BlkRel W0 β w (β l) b
  inj : ∀ l l' b b' k, gt σ l = .live b → gt σ l' = .live b' → own (β l) b.kind = some k → own (β l') b'.kind = some k → l = l'

/-- What was there stays, but for the blocks of 'ft'. -/
structure Keep (ft : Nat → Prop) (w w' : World) : Prop where
  os : w'.os = w.os
  tape : w'.tape = w.tape
  output : w'.output = w.output
  size : w.heap.size ≤ w'.heap.size
  block : ∀ k, k < w.heap.size → ¬ ft k → w'.heap[k]? = w.heap[k]?

theorem Keep.refl (ft : Nat → Prop) (w : World) : Keep ft w w := ⟨rfl, rfl, rfl, Nat.le_refl _, fun _ _ _ => rfl⟩
theorem Keep.trans {ft ft' : Nat → Prop} {a b c : World} (h : Keep ft a b) (k : Keep ft' b c) (hf : ∀ x, ft' x → ft x ∨ a.heap.size ≤ x) : Keep ft a c :=
  ⟨k.os.trans h.os, k.tape.trans h.tape, k.output.trans h.output, Nat.le_trans h.size k.size, fun i hi hn =>
    (k.block i (Nat.lt_of_lt_of_le hi h.size) (fun hx => by rcases hf i hx with h1 | h1; exact hn h1; omega)).trans (h.block i hi hn)⟩
theorem Keep.mono {ft ft' : Nat → Prop} {a b : World} (h : Keep ft a b) (hf : ∀ x, ft x → ft' x) : Keep ft' a b :=
  ⟨h.os, h.tape, h.output, h.size, fun k hk hn => h.block k hk (fun hx => hn (hf k hx))⟩
theorem Keep.drawn {ft : Nat → Prop} (w : World) (n : Nat) : Keep ft w { w with drawn := n } := ⟨rfl, rfl, rfl, Nat.le_refl _, fun _ _ _ => rfl⟩
theorem Keep.alloc {ft : Nat → Prop} (w : World) (o : Obj) : Keep ft w (w.alloc o) :=
  ⟨rfl, rfl, rfl, by simp, fun k hk _ => heap_alloc_old w o k hk⟩

section rel
variable {W0 : World} {β : Nat → Loc} {σ : Store} {w : World}

theorem own_size {lc : Loc} {b : Blk} (h : BlkRel W0 β w lc b) {k : Nat} (hk : own lc b.kind = some k) : W0.heap.size ≤ k ∧ k < w.heap.size ∧ k = lc.blk := by
  obtain ⟨_, h⟩ := h
  cases hb : b.kind with
  | ro => simp [hb, own] at hk
  | box =>
    simp only [hb] at h hk
    simp [own] at hk
    subst hk
    obtain ⟨_, h1, vs, sp, e, lo, hi, _, h2, _⟩ := h
    exact ⟨h1, (Array.getElem?_eq_some_iff.1 h2).1, rfl⟩
  | row e sz =>
    simp only [hb] at h hk
    simp [own] at hk
    obtain ⟨_, vs, n, a, cap, _, _, h3, h4⟩ := h
    exact ⟨(h3.lt k hk).1, (h3.lt k hk).2, h4 k hk⟩

/-- A block's relation goes over to a later world in which what it owns stands as it did. -/
theorem BlkRel.keep {lc : Loc} {b : Blk} {w' : World} {ft : Nat → Prop} (h : BlkRel W0 β w lc b) (hk : Keep ft w w') (hf : ∀ k, own lc b.kind = some k → ¬ ft k) : BlkRel W0 β w' lc b := by
  have hs := fun k (hk : own lc b.kind = some k) => own_size h hk
  obtain ⟨h0, h⟩ := h
  refine ⟨h0, ?_⟩
  cases hb : b.kind with
  | ro => simpa [hb] using h
  | box =>
    simp only [hb] at h ⊢
    obtain ⟨h1, h2, vs, sp, e, lo, hi, h3, h4, h5⟩ := h
    have := hs lc.blk (by simp [hb, own])
    exact ⟨h1, h2, vs, sp, e, lo, hi, h3, by rw [hk.block _ this.2.1 (hf _ (by simp [hb, own]))]; exact h4, h5⟩
  | row e sz =>
    simp only [hb] at h ⊢
    obtain ⟨h1, vs, n, a, cap, h2, h3, ⟨h4, h5⟩, h6⟩ := h
    refine ⟨h1, vs, n, a, cap, h2, h3, ⟨h4, ?_⟩, h6⟩
    rcases h5 with h5 | ⟨g, cap', cur, e1, e2, e3, e4⟩
    · exact .inl h5
    · refine .inr ⟨g, cap', cur, e1, e2, ?_, e4⟩
      have ho : own lc b.kind = some g := by simp [hb, own, e1, Value.ownBlock]
      rw [hk.block g (hs g ho).2.1 (hf g ho)]
      exact e3

theorem BlkRel.congr {β' : Nat → Loc} {lc : Loc} {b : Blk} (h : BlkRel W0 β w lc b) (hc : ∀ l ∈ b.locs, β' l = β l) : BlkRel W0 β' w lc b := by
  obtain ⟨h0, h⟩ := h
  have hL : ∀ l ∈ AV.locsL b.cells, β' l = β l := by
    intro l hl
    cases hf : b.flat with
    | true => rw [h0 hf] at hl; cases hl
    | false => exact hc l (by simpa [Blk.locs, hf] using hl)
  refine ⟨h0, ?_⟩
  cases hb : b.kind with
  | ro =>
    simp only [hb] at h ⊢
    obtain ⟨h1, vs, h2, h3⟩ := h
    exact ⟨h1, vs, DenL_congr _ _ hL h2, h3⟩
  | box =>
    simp only [hb] at h ⊢
    obtain ⟨h1, h2, vs, sp, e, lo, hi, h3, h4⟩ := h
    exact ⟨h1, h2, vs, sp, e, lo, hi, DenL_congr _ _ hL h3, h4⟩
  | row e sz =>
    simp only [hb] at h ⊢
    obtain ⟨h1, vs, n, a, cap, h2, h3⟩ := h
    exact ⟨h1, vs, n, a, cap, DenL_congr _ _ hL h2, h3⟩
end rel
end Go.AX
namespace Go.AX

/-- A frame's temporaries: the last laid first. -/
abbrev Tm := List (Nat × AV)
def tg : Tm → Nat → AV
  | [], _ => .any
  | (k, v) :: r, n => if k = n then v else tg r n
def tgs (t : Tm) : List Nat → List AV
  | [] => []
  | n :: ns => tg t n :: tgs t ns
def zt : List Nat → List AV → Tm
  | n :: ns, v :: vs => (n, v) :: zt ns vs
  | _, _ => []
/-- Those of some numbers alone. -/
def cut (ls : List Nat) (t : Tm) : Tm := zt ls (tgs t ls)
/-- What comes in. -/
def argT : Nat → List AV → Tm
  | _, [] => []
  | n, v :: vs => (n, v) :: argT (n + 1) vs

/-- A frame's temporaries and the store. -/
structure St where
  t : Tm
  s : Store
  deriving Inhabited

inductive Opd where
  | t (n : Nat)
  | c (v : AV)
  deriving Inhabited
def St.get (s : St) : Opd → AV
  | .t n => tg s.t n
  | .c v => v
def St.gets (s : St) : List Opd → List AV
  | [] => []
  | x :: xs => s.get x :: s.gets xs

/-- The kinds of a plain value's cells. -/
inductive LK where
  | bool
  | int (k : IntKind)
  | str
  deriving DecidableEq, Inhabited
inductive ETy where
  | bool
  | int
  | str
  | iface
  | agg (ls : List LK)
  deriving Inhabited

def AV.cells : AV → List AV
  | .agg cs => cs
  | .any => []
  | .tup _ => []
  | v => [v]
/-- One that may lie in one cell. -/
def AV.one : AV → Bool
  | .agg _ | .any | .tup _ => false
  | _ => true
def AV.lk : AV → Option LK
  | .bool _ => some .bool
  | .int k _ => some (.int k)
  | .str _ => some .str
  | _ => none
def lks : List AV → List LK → Bool
  | [], [] => true
  | a :: as, k :: ks => (a.lk == some k) && lks as ks
  | _, _ => false
def eqA : AV → AV → Bool
  | .bool a, .bool b => a == b
  | .int _ a, .int _ b => a == b
  | .str a, .str b => a == b
  | _, _ => false
def eqL : List AV → List AV → Bool
  | [], [] => true
  | a :: as, b :: bs => eqA a b && eqL as bs
  | _, _ => false

def intBin (op : BinOp) (k : IntKind) (a b : Int) : Option AV :=
  match op with
  | .add => some (.int k (k.wrap (a + b)))
  | .sub => some (.int k (k.wrap (a - b)))
  | .mul => some (.int k (k.wrap (a * b)))
  | .quo => if b = 0 then none else some (.int k (k.wrap (a.tdiv b)))
  | .rem => if b = 0 then none else some (.int k (a.tmod b))
  | .and => some (.int k (k.wrap (BitVec.ofInt k.bits a &&& BitVec.ofInt k.bits b).toNat))
  | .or => some (.int k (k.wrap (BitVec.ofInt k.bits a ||| BitVec.ofInt k.bits b).toNat))
  | .xor => some (.int k (k.wrap (BitVec.ofInt k.bits a ^^^ BitVec.ofInt k.bits b).toNat))
  | .andNot => some (.int k (k.wrap (BitVec.ofInt k.bits a &&& ~~~ BitVec.ofInt k.bits b).toNat))
  | .eql => some (.bool (a == b))
  | .neq => some (.bool (a != b))
  | .lss => some (.bool (decide (a < b)))
  | .leq => some (.bool (decide (a ≤ b)))
  | .gtr => some (.bool (decide (b < a)))
  | .geq => some (.bool (decide (b ≤ a)))
  | _ => none
def shiftBin (op : BinOp) (k : IntKind) (a b : Int) : Option AV :=
  if b < 0 then none else
  match op with
  | .shl => some (.int k (k.wrap (a * 2 ^ (min b.toNat k.bits))))
  | .shr => some (.int k (a.fdiv (2 ^ (min b.toNat k.bits))))
  | _ => none
def strBin (op : BinOp) (a b : List UInt8) : Option AV :=
  match op with
  | .add => if a.length + b.length ≤ 9223372036854775807 then some (.str (a ++ b)) else none
  | .eql => some (.bool (a == b))
  | .neq => some (.bool (!(a == b)))
  | .lss => some (.bool (Op.bytesLess a b))
  | .leq => some (.bool (Op.bytesLess a b || a == b))
  | .gtr => some (.bool (!(Op.bytesLess a b || a == b)))
  | .geq => some (.bool (!Op.bytesLess a b))
  | _ => none
def pbin (op : BinOp) (ty : ETy) (x y : AV) : Option AV :=
  match x, y with
  | .int k a, .int k' b =>
    match op with
    | .shl => shiftBin op k a b
    | .shr => shiftBin op k a b
    | _ => if k = k' then intBin op k a b else none
  | .str a, .str b => strBin op a b
  | .bool a, .bool b =>
    match op, ty with
    | .eql, .bool => some (.bool (a == b))
    | .neq, .bool => some (.bool (!(a == b)))
    | _, _ => none
  | .agg xs, .agg ys =>
    match op, ty with
    | .eql, .agg ls => if lks xs ls && lks ys ls then some (.bool (eqL xs ys)) else none
    | .neq, .agg ls => if lks xs ls && lks ys ls then some (.bool (!eqL xs ys)) else none
    | _, _ => none
  | .iface _ _, .niliface =>
    match op, ty with
    | .eql, .iface => some (.bool false)
    | .neq, .iface => some (.bool true)
    | _, _ => none
  | .niliface, .niliface =>
    match op, ty with
    | .eql, .iface => some (.bool true)
    | .neq, .iface => some (.bool false)
    | _, _ => none
  | _, _ => none

/-- A bound of a slice expression. -/
def bound (d : Nat) : Option AV → Option Nat
  | none => some d
  | some (.int _ n) => if 0 ≤ n then some n.toNat else none
  | _ => none

def fillA : List AV → List (Nat × Nat) → List AV → Option (List AV)
  | cs, [], [] => some cs
  | cs, (off, sz) :: ps, v :: vs => if v.cells.length = sz ∧ off + sz ≤ cs.length then fillA (cs.take off ++ v.cells ++ cs.drop (off + sz)) ps vs else none
  | _, _, _ => none

/-- What a slice's value tells: its place, where it begins, how long it is. -/
def AV.slice3 : AV → Option (Nat × Nat × Nat)
  | .row l n => some (l, 0, n)
  | .sl l off n => some (l, off, n)
  | _ => none

inductive POp where
  | mv
  | pick
  | build (zs : List AV) (ps : List (Nat × Nat))
  | nilCheck
  | bin (op : BinOp) (ty : ETy)
  | not
  | neg
  | convInt (k : IntKind)
  | convStr
  | mkfn (f : Nat) (first : Nat)
  | fieldAddr (off : Nat)
  | indexArr (n sz : Nat)
  | indexSl (sz : Nat)
  | indexAgg (n sz : Nat) (agg : Bool)
  | indexStr
  | sliceStr (lo hi : Bool)
  | sliceSl (sz : Nat) (lo hi : Bool)
  | sliceArr (n sz : Nat) (lo hi : Bool)
  | extract (i : Nat)
  | lenStr
  | lenSl
  | lenArr (n : Nat)
  | minI
  | maxI
  | iface (t : Nat)
  | fail
  deriving Inhabited

def loHi (lo hi : Bool) (vs : List AV) : Option (Option AV × Option AV) :=
  match lo, hi, vs with
  | false, false, [] => some (none, none)
  | true, false, [a] => some (some a, none)
  | false, true, [b] => some (none, some b)
  | true, true, [a, b] => some (some a, some b)
  | _, _, _ => none

def psem (o : POp) (vs : List AV) : Option AV :=
  match o, vs with
  | .mv, [x] => some x
  | .pick, [.bool c, a, b] => some (if c then a else b)
  | .build zs ps, vs => (fillA zs ps vs).map .agg
  | .nilCheck, [.ptr l off] => some (.ptr l off)
  | .nilCheck, [.fn f fs cap] => some (.fn f fs cap)
  | .bin op ty, [x, y] => pbin op ty x y
  | .not, [.bool b] => some (.bool !b)
  | .neg, [.int k n] => some (.int k (k.wrap (0 - n)))
  | .convInt k, [.int _ n] => some (.int k (k.wrap n))
  | .convStr, [.str s] => some (.str s)
  | .mkfn f n, vs => some (.fn f (vs.take n) (vs.drop n))
  | .fieldAddr off, [.ptr l o] => some (.ptr l (o + off))
  | .indexArr n sz, [.ptr l o, .int _ i] => if 0 ≤ i ∧ i < n then some (.ptr l (o + i.toNat * sz)) else none
  | .indexSl sz, [x, .int _ i] =>
    match x.slice3 with
    | some (l, off, n) => if 0 ≤ i ∧ i < n then some (.ptr l (off + i.toNat * sz)) else none
    | none => none
  | .indexAgg n sz a, [.agg cs, .int _ i] =>
    if 0 ≤ i ∧ i < n then
      (if a then (if i.toNat * sz + sz ≤ cs.length then some (.agg ((cs.drop (i.toNat * sz)).take sz)) else none) else cs[i.toNat * sz]?)
    else none
  | .indexStr, [.str s, .int _ i] => if 0 ≤ i then (s[i.toNat]?).map fun b => .int .u8 b.toNat else none
  | .sliceStr lo hi, .str s :: r =>
    match loHi lo hi r with
    | some (a, b) =>
      match bound 0 a, bound s.length b with
      | some l, some h => if l ≤ h ∧ h ≤ s.length then some (.str ((s.take h).drop l)) else none
      | _, _ => none
    | none => none
  | .sliceSl sz lo hi, x :: r =>
    match x.slice3, loHi lo hi r with
    | some (p, off, n), some (a, b) =>
      match bound 0 a, bound n b with
      | some l, some h => if l ≤ h ∧ h ≤ n then some (.sl p (off + l * sz) (h - l)) else none
      | _, _ => none
    | none, some (a, b) =>
      match x with
      | .nilsl => if bound 0 a = some 0 ∧ bound 0 b = some 0 then some .nilsl else none
      | _ => none
    | _, _ => none
  | .sliceArr n sz lo hi, .ptr p off :: r =>
    match loHi lo hi r with
    | some (a, b) =>
      match bound 0 a, bound n b with
      | some l, some h => if l ≤ h ∧ h ≤ n then some (.sl p (off + l * sz) (h - l)) else none
      | _, _ => none
    | none => none
  | .extract i, [.tup vs] => vs[i]?
  | .lenStr, [.str s] => some (.int .i64 s.length)
  | .lenSl, [x] => match x.slice3 with
    | some (_, _, n) => some (.int .i64 n)
    | none => match x with | .nilsl => some (.int .i64 0) | _ => none
  | .lenArr n, [_] => some (.int .i64 n)
  | .minI, [.int k a, .int _ b] => some (.int k (if b < a then b else a))
  | .maxI, [.int k a, .int _ b] => some (.int k (if b > a then b else a))
  | .iface t, [v] => some (.iface t v)
  | _, _ => none

inductive MOp where
  | alloc (zs : List AV)
  | box
  | buildSlice (e sz len : Nat) (zs : List AV) (ps : List (Nat × Nat))
  | load (agg : Bool) (sz : Nat)
  | store (sz : Nat)
  | append (e sz bytes : Nat)
  | bytes
  | string
  | makeSlice (e sz bytes : Nat) (zs : List AV)
  deriving Inhabited

def repA (zs : List AV) : Nat → List AV
  | 0 => []
  | n + 1 => zs ++ repA zs n

def flatB (cs : List AV) : Bool := (AV.locsL cs).isEmpty

/-- What an operation on memory looks at, or writes. -/
def mft (o : MOp) (vs : List AV) : List Nat :=
  match o, vs with
  | .load _ _, [.ptr l _] => [l]
  | .store _, [.ptr l _, _] => [l]
  | .append _ _ _, [x, y] => (match x with | .row l _ => [l] | _ => []) ++ (match y.slice3 with | some (l, _, _) => [l] | none => [])
  | .string, [x] => (match x.slice3 with | some (l, _, _) => [l] | none => [])
  | _, _ => []
/-- Does it write what it looks at? -/
def MOp.wr : MOp → Bool
  | .store _ | .append _ _ _ => true
  | _ => false

/-- Does it lay a place? -/
def MOp.news : MOp → Bool
  | .alloc _ | .box | .buildSlice _ _ _ _ _ | .append _ _ _ | .bytes | .makeSlice _ _ _ _ => true
  | _ => false

/-- The cells of a slice, out of its block. -/
def cellsOf (sz : Nat) (y : AV) (b : Blk) : Option (List AV) :=
  match y.slice3 with
  | some (_, off, n) => if off + n * sz ≤ b.cells.length then some ((b.cells.drop off).take (n * sz)) else none
  | none => none

def bytesOf : List AV → Option (List UInt8)
  | [] => some []
  | .int .u8 n :: r => (bytesOf r).map (UInt8.ofNat n.toNat :: ·)
  | _ => none

def u8s (s : List UInt8) : List AV := s.map fun b => .int .u8 b.toNat

def msem (slot : Nat) (o : MOp) (vs : List AV) (bs : List Sl) : Option (AV × List Sl × Option Blk) :=
  match o, vs, bs with
  | .alloc zs, [], [] => some (.ptr slot 0, [], some ⟨.box, flatB zs, zs⟩)
  | .box, [v], [] => if v.cells.isEmpty then none else some (.ptr slot 0, [], some ⟨.box, flatB v.cells, v.cells⟩)
  | .buildSlice e sz len zs ps, vs, [] =>
    match fillA zs ps vs with
    | some cs => some (.row slot len, [], some ⟨.row e sz, flatB cs, cs⟩)
    | none => none
  | .load a sz, [.ptr _ off], [.live b] =>
    if a then (if off + sz ≤ b.cells.length then some (.agg ((b.cells.drop off).take sz), [.live b], none) else none)
    else (match b.cells[off]? with | some c => some (c, [.live b], none) | none => none)
  | .store sz, [.ptr _ off, v], [.live b] =>
    if b.kind ≠ .ro ∧ v.cells.length = sz ∧ off + sz ≤ b.cells.length ∧ v.cells.all AV.one ∧ (b.flat = true → flatB v.cells = true) then
      some (.any, [.live ⟨b.kind, b.flat, b.cells.take off ++ v.cells ++ b.cells.drop (off + sz)⟩], none)
    else none
  | .append e sz bytes, [.row l n, y], [.live b, .live c] =>
    match cellsOf sz y c, y.slice3 with
    | some news, some (l', _, m) =>
      if b.kind = .row e sz ∧ b.cells.length = n * sz ∧ l ≠ l' ∧ news.all AV.one ∧ n + m ≤ 9223372036854775807 ∧ (n + m) * bytes ≤ 140737488355328 then
        some (.row slot (n + m), [.dead, .live c], some ⟨.row e sz, b.flat && flatB news, b.cells ++ news⟩)
      else none
    | _, _ => none
  | .append e sz _, [.row l n, .nilsl], [.live b] =>
    if b.kind = .row e sz ∧ b.cells.length = n * sz then some (.row l n, [.live b], none) else none
  | .append e sz bytes, [.nilsl, y], [.live c] =>
    match cellsOf sz y c, y.slice3 with
    | some news, some (_, _, m) =>
      if 0 < m ∧ news.all AV.one ∧ m ≤ 9223372036854775807 ∧ m * bytes ≤ 140737488355328 then
        some (.row slot m, [.live c], some ⟨.row e sz, flatB news, news⟩)
      else none
    | _, _ => none
  | .bytes, [.str s], [] => if s.length ≤ 140737488355328 then some (.sl slot 0 s.length, [], some ⟨.box, true, u8s s⟩) else none
  | .makeSlice e sz bytes zs, [.int _ n, .int _ m], [] =>
    if n = m ∧ 0 ≤ n ∧ n ≤ 9223372036854775807 ∧ n * bytes ≤ 140737488355328 then
      some (.row slot n.toNat, [], some ⟨.row e sz, flatB zs, repA zs n.toNat⟩)
    else none
  | .string, [y], [.live b] =>
    match cellsOf 1 y b with
    | some cs => match bytesOf cs with | some s => some (.str s, [.live b], none) | none => none
    | none => none
  | _, _, _ => none

inductive Opn where
  | p (o : POp) (xs : List Opd)
  | m (o : MOp) (slot : Nat) (xs : List Opd)
  | call (f : Opd) (xs : List Opd) (slot k : Nat)
  deriving Inhabited
structure AOp where
  dst : Option Nat
  guard : Option (Nat × Bool)
  op : Opn
  deriving Inhabited

inductive Cd where
  | ops (n : Nat) (l : List AOp) (live : List Nat)
  | draw (n : Nat) (pairs : List (Nat × Nat)) (l : List AOp) (live : List Nat)
  | seq (a b : Cd)
  | cond (c : Opd) (a b : Cd)
  | block (id : Nat) (live : List Nat) (a : Cd)
  | loop (live : List Nat) (a : Cd)
  | exit (id : Nat)
  | skip
  | ret
  deriving Inhabited
inductive Ex where
  | norm
  | exit (id : Nat)
  | ret
  deriving DecidableEq, Inhabited

/-- Where a number stands in a list. -/
def idx : List Nat → Nat → Nat
  | [], _ => 0
  | a :: l, x => if a = x then 0 else idx l x + 1
def nthN : List Nat → Nat → Nat
  | [], _ => 0
  | a :: _, 0 => a
  | _ :: l, n + 1 => nthN l n
def memN : List Nat → Nat → Bool
  | [], _ => false
  | a :: l, x => if a = x then true else memN l x
def Sl.locs : Sl → List Nat
  | .live b => b.locs
  | _ => []
def Sl.rn (π : Nat → Nat) : Sl → Sl
  | .live b => if b.flat then .live b else .live ⟨b.kind, false, AV.rnL π b.cells⟩
  | s => s
/-- All places that can be reached from some, in order. -/
def reach (σ : Store) : Nat → List Nat → List Nat → List Nat
  | 0, _, done => done
  | _, [], done => done
  | k + 1, l :: todo, done => if memN done l then reach σ k todo done else reach σ k (todo ++ (gt σ l).locs) (done ++ [l])
def subN : List Nat → List Nat → Bool
  | [], _ => true
  | a :: l, F => memN F a && subN l F
def closedB (σ : Store) (F : List Nat) : List Nat → Bool
  | [] => true
  | l :: r => (match gt σ l with | .free => false | s => subN s.locs F) && closedB σ F r
def nodupB : List Nat → Bool
  | [] => true
  | a :: l => !memN l a && nodupB l
/-- The part of the store that is reached from some places, told anew; none where it is not whole. -/
def partF (σ : Store) (ls : List Nat) : Option (List Nat) :=
  let F := reach σ 100 ls []
  if subN ls F && closedB σ F F && nodupB F then some F else none
def view (σ : Store) (F : List Nat) : List Nat → Store
  | [] => []
  | l :: r => (gt σ l).rn (idx F) :: view σ F r
def writeBack (σ : Store) (ρ : Nat → Nat) : List Nat → Store → Option (Store × Store)
  | [], σ' => some (σ, σ')
  | _ :: _, [] => none
  | l :: r, s :: σ' => writeBack (pt σ l (s.rn ρ)) ρ r σ'
def newOnes (σ : Store) (ρ : Nat → Nat) (slot : Nat) : Nat → Store → Option Store
  | _, [] => some σ
  | 0, _ :: _ => none
  | k + 1, s :: r => match gt σ slot with
    | .free => if slot < σ.length then newOnes (pt σ slot (s.rn ρ)) ρ (slot + 1) k r else none
    | _ => none
def allIn (n : Nat) : List Nat → Bool
  | [] => true
  | l :: r => decide (l < n) && allIn n r
def wholeB (n : Nat) : Store → Bool
  | [] => true
  | .free :: _ => false
  | s :: r => allIn n s.locs && wholeB n r

abbrev Run := Nat → List AV → Store → Option (AV × Store)

def callA (R : Run) (f : Nat) (args : List AV) (σ : Store) (slot k : Nat) : Option (AV × Store) :=
  match partF σ (AV.locsL args) with
  | none => none
  | some F =>
    match R f (AV.rnL (idx F) args) (view σ F F) with
    | none => none
    | some (r, σ') =>
      if allIn σ'.length r.locs && wholeB σ'.length σ' then
        let ρ := fun i => if i < F.length then nthN F i else slot + (i - F.length)
        match writeBack σ ρ F σ' with
        | none => none
        | some (σ1, rest) =>
          match newOnes σ1 ρ slot k rest with
          | none => none
          | some σ2 => some (r.rn ρ, σ2)
      else none

def setD (t : Tm) (d : Option Nat) (v : AV) : Tm :=
  match d with
  | some d => (d, v) :: t
  | none => t
def gts (σ : Store) : List Nat → List Sl
  | [] => []
  | l :: r => gt σ l :: gts σ r
def pts (σ : Store) : List Nat → List Sl → Store
  | l :: r, s :: ss => pts (pt σ l s) r ss
  | _, _ => σ
def putNew (σ : Store) (slot : Nat) : Option Blk → Option Store
  | none => some σ
  | some b => match gt σ slot with
    | .free => if slot < σ.length then some (pt σ slot (.live b)) else none
    | _ => none

def opn (R : Run) (base : Nat) (o : Opn) (s : St) : Option (AV × Store) :=
  match o with
  | .p o xs => match psem o (s.gets xs) with
    | some v => some (v, s.s)
    | none => none
  | .m o slot xs =>
    match msem (base + slot) o (s.gets xs) (gts s.s (mft o (s.gets xs))) with
    | some (v, bs, nw) =>
      match putNew (if o.wr then pts s.s (mft o (s.gets xs)) bs else s.s) (base + slot) nw with
      | some σ => some (v, σ)
      | none => none
    | none => none
  | .call f xs slot k =>
    match s.get f with
    | .fn g fs cap => callA R g (fs ++ (s.gets xs ++ cap)) s.s (base + slot) k
    | _ => none

def opStep (R : Run) (base : Nat) (o : AOp) (s : St) : Option St :=
  match o.guard with
  | none => match opn R base o.op s with
    | some (v, σ) => some ⟨setD s.t o.dst v, σ⟩
    | none => none
  | some (g, want) =>
    match tg s.t g with
    | .bool b => if b = want then (match opn R base o.op s with
        | some (v, σ) => some ⟨setD s.t o.dst v, σ⟩
        | none => none) else some ⟨setD s.t o.dst (.tup []), s.s⟩
    | .tup [] => some ⟨setD s.t o.dst (.tup []), s.s⟩
    | _ => none

def opsRun (R : Run) (base : Nat) : List AOp → St → Option St
  | [], s => some s
  | o :: r, s => match opStep R base o s with
    | some s' => opsRun R base r s'
    | none => none

def rangeN (a : Nat) : Nat → List Nat
  | 0 => []
  | k + 1 => a :: rangeN (a + 1) k
/-- The places that an operation touches. -/
def opFoot (base : Nat) (o : Opn) (s : St) : List Nat :=
  match o with
  | .p _ _ => []
  | .m o slot xs => if o.news then (base + slot) :: mft o (s.gets xs) else mft o (s.gets xs)
  | .call f xs slot k => match s.get f with
    | .fn _ fs cap => match partF s.s (AV.locsL (fs ++ (s.gets xs ++ cap))) with
      | some F => rangeN (base + slot) k ++ F
      | none => []
    | _ => []
def foot (base : Nat) (o : AOp) (s : St) : List Nat :=
  match o.guard with
  | none => opFoot base o.op s
  | some (g, want) => match tg s.t g with
    | .bool b => if b = want then opFoot base o.op s else []
    | _ => []
def opsFoot (R : Run) (base : Nat) : List AOp → St → Option (St × List (List Nat))
  | [], s => some (s, [])
  | o :: r, s => match opStep R base o s with
    | some s' => match opsFoot R base r s' with
      | some (s'', fs) => some (s'', foot base o s :: fs)
      | none => none
    | none => none
def nthF : List (List Nat) → Nat → List Nat
  | [], _ => []
  | a :: _, 0 => a
  | _ :: l, n + 1 => nthF l n
def disj : List Nat → List Nat → Bool
  | [], _ => true
  | a :: l, F => !memN F a && disj l F
def pairsOk (fs : List (List Nat)) : List (Nat × Nat) → Bool
  | [] => true
  | (i, j) :: r => disj (nthF fs i) (nthF fs j) && pairsOk fs r

def frees : Nat → Store
  | 0 => []
  | n + 1 => .free :: frees n

def prefixB : List Nat → List Nat → Bool
  | [], _ => true
  | a :: l, b :: F => decide (a = b) && prefixB l F
  | _ :: _, [] => false
/-- The store told anew, by what some values reach; the first m places stay where they are. -/
def norm (m : Nat) (vs : List AV) (σ : Store) : Option (List AV × Store) :=
  match partF σ (rangeN 0 m ++ AV.locsL vs) with
  | none => none
  | some F => if prefixB (rangeN 0 m) F then some (AV.rnL (idx F) vs, view σ F F) else none

/-- The frame and the store told anew, by those that live on. -/
def nz (live : List Nat) : Option (List AV × Store) → Option (Ex × St)
  | some (vs, σ) => some (.norm, ⟨zt live vs, σ⟩)
  | none => none
/-- A piece of code; k bounds the rounds of its loops; m places have come in. -/
def ex (R : Run) (m : Nat) : Nat → Cd → St → Option (Ex × St)
  | _, .ops n l live, s => match opsRun R s.s.length l ⟨s.t, s.s ++ frees n⟩ with
    | some s' => nz live (norm m (tgs s'.t live) s'.s)
    | none => none
  | _, .draw n [] l live, s => match opsRun R s.s.length l ⟨s.t, s.s ++ frees n⟩ with
    | some s' => nz live (norm m (tgs s'.t live) s'.s)
    | none => none
  | _, .draw n (p :: ps) l live, s => match opsFoot R s.s.length l ⟨s.t, s.s ++ frees n⟩ with
    | some (s', fs) => if pairsOk fs (p :: ps) then nz live (norm m (tgs s'.t live) s'.s) else none
    | none => none
  | k, .seq a b, s => match ex R m k a s with
    | some (.norm, s') => ex R m k b s'
    | r => r
  | k, .cond c a b, s => match s.get c with
    | .bool true => ex R m k a s
    | .bool false => ex R m k b s
    | _ => none
  | k, .block id live a, s => match ex R m k a s with
    | some (.norm, s') => nz live (norm m (tgs s'.t live) s'.s)
    | some (.exit j, s') => if j = id then nz live (norm m (tgs s'.t live) s'.s) else some (.exit j, s')
    | r => r
  | 0, .loop _ _, _ => none
  | k + 1, .loop live a, s =>
    match norm m (tgs s.t live) s.s with
    | none => none
    | some (vs, σ) =>
      match ex R m k a ⟨zt live vs, σ⟩ with
      | some (.norm, s') => ex R m k (.loop live a) s'
      | r => r
  | _, .exit id, s => some (.exit id, s)
  | _, .skip, s => some (.norm, s)
  | _, .ret, s => some (.ret, s)

inductive RV where
  | t (n : Nat)
  | cell (n : Nat) (agg : Bool) (sz : Nat)
  deriving Inhabited
def rv (s : St) : RV → Option AV
  | .t n => some (tg s.t n)
  | .cell n a sz => match tg s.t n with
    | .ptr l off => match msem 0 (.load a sz) [.ptr l off] [gt s.s l] with
      | some (v, _, _) => some v
      | none => none
    | _ => none
def rvs (s : St) : List RV → Option (List AV)
  | [] => some []
  | r :: rs => match rv s r with
    | some v => match rvs s rs with
      | some vs => some (v :: vs)
      | none => none
    | none => none
structure FD where
  results : List RV
  body : Cd
  deriving Inhabited
inductive FE where
  | code (fd : FD)
  | prim (p : List AV → Store → Option (AV × Store))
abbrev Env := Nat → Option FE

/-- What a function hands back at the end of its body. -/
def finish (m : Nat) (rs : List RV) (s : St) : Option (AV × Store) :=
  match rvs s rs with
  | none => none
  | some vs => match norm m vs s.s with
    | none => none
    | some ([v], σ) => some (v, σ)
    | some (vs, σ) => some (.tup vs, σ)
def runF (Γ : Env) (R : Run) (k : Nat) : Run := fun f args σ =>
  match Γ f with
  | none => none
  | some (.prim p) => p args σ
  | some (.code fd) =>
    match ex R σ.length k fd.body ⟨argT 0 args, σ⟩ with
    | some (.ret, s) => finish σ.length fd.results s
    | some (.norm, s) => finish σ.length fd.results s
    | _ => none
def run (Γ : Env) : Nat → Run
  | 0 => fun _ _ _ => none
  | n + 1 => runF Γ (run Γ n) n
end Go.AX
namespace Go.AX

mutual
def trV : Value → Option AV
  | .bool b => some (.bool b)
  | .int k n => some (.int k n)
  | .string s => some (.str s.data.toList)
  | .pointer none => some .nilptr
  | .slice none 0 0 => some .nilsl
  | .map none => some .nilmap
  | .nilFunc => some .nilfn
  | .nilIface => some .niliface
  | .agg cs => match trVs cs.toList with
    | some l => some (.agg l)
    | none => none
  | _ => none
def trVs : List Value → Option (List AV)
  | [] => some []
  | c :: r => match trV c with
    | some a => match trVs r with
      | some l => some (a :: l)
      | none => none
    | none => none
end

def trOpd : Operand → Option Opd
  | .tmp t => some (.t t)
  | .const v => (trV v).map .c
  | .func f => some (.c (.fn f [] []))
  | .global _ => none
def trOpds : List Operand → Option (List Opd)
  | [] => some []
  | x :: r => match trOpd x with
    | some a => match trOpds r with
      | some l => some (a :: l)
      | none => none
    | none => none

section
variable (P : Program)

def aggT (t : TypeId) : Option Bool :=
  match P.underlying t with
  | some (.struct _) => some true
  | some (.array _ _) => some true
  | some _ => some false
  | none => none
def szT (t : TypeId) : Option Nat := (P.info? t).map (·.size)
def bytesT (t : TypeId) : Option Nat := (P.info? t).map (·.bytes)
def zsT (t : TypeId) : Option (List AV) :=
  match P.info? t with
  | some i => match i.zero with
    | some z => trVs z.cells.toList
    | none => none
  | none => none

/-- The kinds of a plain type's cells. -/
def leaves : Nat → TypeId → Option (List LK)
  | 0, _ => none
  | d + 1, t =>
    match P.underlying t with
    | some .bool => some [.bool]
    | some (.int k) => some [.int k]
    | some .string => some [.str]
    | some (.struct fs) => if P.stoodInHeld t then none else
      fs.toList.foldl (fun acc f => match acc with
        | some ls => if f.name ≠ "_" ∧ f.offset = ls.length ∧ szT P f.type = some ((leaves d f.type).getD []).length then (leaves d f.type).map (ls ++ ·) else none
        | none => none) (some [])
    | some (.array n e) => match leaves d e with
      | some ls => if szT P e = some ls.length then some (List.replicate n ls).flatten else none
      | none => none
    | _ => none

def etyT (t : TypeId) : Option ETy :=
  match P.underlying t with
  | some .bool => some .bool
  | some (.int _) => some .int
  | some .string => some .str
  | some (.interface _) => some .iface
  | some (.struct _) | some (.array _ _) => if P.eqGuardType P.depth t then none else (leaves P 8 t).map .agg
  | _ => none

def isConstO : Operand → Bool
  | .const _ => true
  | _ => false
def optL : Option Operand → List Operand
  | some x => [x]
  | none => []

def placesS (fs : Array Field) : List (Nat × Operand) → Option (List (Nat × Nat))
  | [] => some []
  | (i, _) :: r => match fs[i]? with
    | some f => match szT P f.type with
      | some s => match placesS fs r with
        | some l => some ((f.offset, s) :: l)
        | none => none
      | none => none
    | none => none
def placesA (sz : Nat) : List (Nat × Operand) → List (Nat × Nat)
  | [] => []
  | (i, _) :: r => (i * sz, sz) :: placesA sz r

def repZs (zs : List AV) (n : Nat) : List AV := (List.range n).map fun i => nth zs (i % zs.length)

/-- One operation; how many places it lays. -/
def trOp (slot : Nat) (o : Oper) : Option (Opn × Nat) :=
  match o.op with
  | .move x | .assign x => (trOpds [x]).map fun xs => (.p .mv xs, 0)
  | .pick c a b => (trOpds [c, a, b]).map fun xs => (.p .pick xs, 0)
  | .alloc e => (zsT P e).map fun zs => (.m (.alloc zs) slot [], 1)
  | .box _ x => (trOpds [x]).map fun xs => (.m .box slot xs, 1)
  | .build t parts =>
    match zsT P t, P.underlying t, trOpds (parts.toList.map (·.2)) with
    | some zs, some (.struct fs), some xs => match placesS P fs parts.toList with
      | some ps => if (fs.toList.all fun f => (szT P f.type).isSome) && (ps.all fun p => decide (0 < p.2)) then some (.p (.build zs ps) xs, 0) else none
      | none => none
    | some zs, some (.array _ e), some xs => match szT P e with
      | some sz => if 0 < sz then some (.p (.build zs (placesA sz parts.toList)) xs, 0) else none
      | none => none
    | _, _, _ => none
  | .buildSlice t len parts =>
    match P.underlying t, trOpds (parts.toList.map (·.2)) with
    | some (.slice e), some xs =>
      match szT P e, zsT P e with
      | some sz, some zs => if len * sz ≤ 16777216 ∧ zs.length = sz ∧ 0 < sz then
          some (.m (.buildSlice e sz len (repZs zs (len * sz)) (placesA sz parts.toList)) slot xs, 1) else none
      | _, _ => none
    | _, _ => none
  | .load t x =>
    match aggT P t, szT P t, trOpds [x] with
    | some true, some sz, some xs => some (.m (.load true sz) 0 xs, 0)
    | some false, some _, some xs => some (.m (.load false 1) 0 xs, 0)
    | _, _, _ => none
  | .store t x y =>
    match szT P t, trOpds [x, y] with
    | some sz, some xs => if 0 < sz then some (.m (.store sz) 0 xs, 0) else none
    | _, _ => none
  | .nilCheck x => (trOpds [x]).map fun xs => (.p .nilCheck xs, 0)
  | .binOp op t x y _ =>
    match etyT P t, trOpds [x, y] with
    | some .iface, some xs => if isConstO y then some (.p (.bin op .iface) xs, 0) else none
    | some ty, some xs => some (.p (.bin op ty) xs, 0)
    | _, _ => none
  | .unOp .not _ x => (trOpds [x]).map fun xs => (.p .not xs, 0)
  | .unOp .neg _ x => (trOpds [x]).map fun xs => (.p .neg xs, 0)
  | .convert src dst x =>
    match P.underlying src, P.underlying dst, trOpds [x] with
    | some (.int _), some (.int k), some xs => some (.p (.convInt k) xs, 0)
    | some .string, some .string, some xs => some (.p .convStr xs, 0)
    | some .string, some (.slice e), some xs => match P.underlying e with
      | some (.int .u8) => some (.m .bytes slot xs, 1)
      | _ => none
    | some (.slice e), some .string, some xs => match P.underlying e with
      | some (.int .u8) => some (.m .string 0 xs, 0)
      | _ => none
    | _, _, _ => none
  | .makeInterface t x =>
    match P.underlying t, trOpds [x] with
    | some (.interface _), _ => none
    | some _, some xs => some (.p (.iface t) xs, 0)
    | _, _ => none
  | .makeFunc (.func f) first cap => (trOpds (first.toList ++ cap.toList)).map fun xs => (.p (.mkfn f first.size) xs, 0)
  | .fieldAddr s x f =>
    match P.underlying s, trOpds [x] with
    | some (.struct fs), some xs => match fs[f]? with
      | some fd => match szT P fd.type with
        | some sz => if 0 < sz then some (.p (.fieldAddr fd.offset) xs, 0) else none
        | none => none
      | none => none
    | _, _ => none
  | .indexAddr t x i =>
    match P.underlying t, trOpds [x, i] with
    | some (.array n e), some xs => (szT P e).map fun sz => (.p (.indexArr n sz) xs, 0)
    | some (.slice e), some xs => (szT P e).map fun sz => (.p (.indexSl sz) xs, 0)
    | _, _ => none
  | .index t x i =>
    match P.underlying t, trOpds [x, i] with
    | some (.array n e), some xs => match szT P e, aggT P e with
      | some sz, some a => some (.p (.indexAgg n sz a) xs, 0)
      | _, _ => none
    | some .string, some xs => some (.p .indexStr xs, 0)
    | _, _ => none
  | .slice t x lo hi mx =>
    match P.underlying t, trOpds (x :: (optL lo ++ optL hi)) with
    | some .string, some xs => if mx.isNone then some (.p (.sliceStr lo.isSome hi.isSome) xs, 0) else none
    | some (.slice e), some xs => if mx.isNone then (szT P e).map fun sz => (.p (.sliceSl sz lo.isSome hi.isSome) xs, 0) else none
    | some (.array n e), some xs => if mx.isNone then (szT P e).map fun sz => (.p (.sliceArr n sz lo.isSome hi.isSome) xs, 0) else none
    | _, _ => none
  | .makeSlice t x y =>
    match P.underlying t, trOpds [x, y] with
    | some (.slice e), some xs =>
      match szT P e, bytesT P e, zsT P e with
      | some sz, some bs, some zs => if zs.length = sz ∧ 0 < sz then some (.m (.makeSlice e sz bs zs) slot xs, 1) else none
      | _, _, _ => none
    | _, _ => none
  | .extract x i => (trOpds [x]).map fun xs => (.p (.extract i) xs, 0)
  | .call c =>
    match c.callee with
    | .builtin .len =>
      match c.args.toList, c.argTypes.toList with
      | [x], [t] =>
        match P.underlying t, trOpds [x] with
        | some .string, some xs => some (.p .lenStr xs, 0)
        | some (.slice _), some xs => some (.p .lenSl xs, 0)
        | some (.array n _), some xs => some (.p (.lenArr n) xs, 0)
        | _, _ => none
      | _, _ => none
    | .builtin .append =>
      match c.args.toList, c.argTypes.toList with
      | [x, y], [t, u] =>
        match P.underlying t, trOpds [x, y] with
        | some (.slice e), some xs =>
          match szT P e, bytesT P e, zsT P e with
          | some sz, some bs, some zs => if t = u ∧ zs.length = sz ∧ 0 < sz then some (.m (.append e sz bs) slot xs, 1) else none
          | _, _, _ => none
        | _, _ => none
      | _, _ => none
    | .builtin .min =>
      match c.args.toList with
      | [x, y] => (trOpds [x, y]).map fun xs => (.p .minI xs, 0)
      | _ => none
    | .builtin .max =>
      match c.args.toList with
      | [x, y] => (trOpds [x, y]).map fun xs => (.p .maxI xs, 0)
      | _ => none
    | .value f =>
      match trOpd f, trOpds c.args.toList with
      | some g, some xs => some (.call g xs slot 2, 2)
      | _, _ => none
    | _ => none
  | _ => none

def guardT (ops : Array Oper) : Option (Nat × Bool) → Option (Option (Nat × Bool))
  | none => some none
  | some (j, w) => match ops[j]? with
    | some o => match o.dst with
      | some d => some (some (d, w))
      | none => none
    | none => none

def Opn.opds : Opn → List Opd
  | .p _ xs | .m _ _ xs => xs
  | .call f xs _ _ => f :: xs
def plainB : List Opd → Bool
  | [] => true
  | .t _ :: r => plainB r
  | .c v :: r => v.locs.isEmpty && plainB r

/-- An operation that is not covered ends nothing. -/
def trOp' (slot : Nat) (o : Oper) : Opn × Nat :=
  match trOp P slot o with
  | some r => r
  | none => (.p .fail [], 0)
def boundB (nt : Nat) : Option Nat → Bool
  | some d => decide (d < nt)
  | none => true
def trOps (nt : Nat) (ops : Array Oper) : Nat → List Oper → Option (List AOp × Nat)
  | slot, [] => some ([], slot)
  | slot, o :: r =>
    match some (trOp' P slot o), guardT ops o.guard with
    | some (op, k), some g => if plainB op.opds && boundB nt o.dst then match trOps nt ops (slot + k) r with
      | some (l, n) => some (⟨o.dst, g, op⟩ :: l, n)
      | none => none else none
    | _, _ => none

/-- What comes before an operation, as its edges say (those that bind always). -/
def befStep (acc : List (List Nat)) (o : Oper) : List Nat :=
  (o.after.toList.filter (Region.binds .any)).flatMap fun e => e.on :: nthF acc e.on
def befs : List (List Nat) → List Oper → List (List Nat)
  | acc, [] => acc
  | acc, o :: r => befs (acc ++ [befStep acc o]) r

def opdT : List Opd → List Nat
  | [] => []
  | .t n :: r => n :: opdT r
  | .c _ :: r => opdT r
/-- The temporaries that an operation looks at. -/
def AOp.reads (o : AOp) : List Nat := opdT o.op.opds ++ (match o.guard with | some (g, _) => [g] | none => [])
def apartB (x y : AOp) : Bool :=
  (match x.dst with
   | some d => !memN y.reads d && y.dst != some d
   | none => true) &&
  (match y.dst with
   | some d => !memN x.reads d
   | none => true)
/-- 0: memory is not asked; 1: only looked at; 2: any other. -/
def Opn.cls : Opn → Nat
  | .p _ _ => 0
  | .m o _ _ => match o with
    | .load _ _ | .string => 1
    | _ => 2
  | .call _ _ _ _ => 2
def nthA : List AOp → Nat → Option AOp
  | [], _ => none
  | a :: _, 0 => some a
  | _ :: l, n + 1 => nthA l n
/-- The pairs of operations that no edge orders: each must be apart in its temporaries; those whose memory must be looked at. -/
def pairsT (l : List AOp) (bs : List (List Nat)) : List (Nat × Nat) → Option (List (Nat × Nat))
  | [] => some []
  | (i, j) :: r =>
    if memN (nthF bs j) i then pairsT l bs r else
    match nthA l i, nthA l j with
    | some x, some y =>
      if apartB x y then
        match pairsT l bs r with
        | some ps => if x.op.cls = 0 ∨ y.op.cls = 0 ∨ (x.op.cls = 1 ∧ y.op.cls = 1) then some ps else some ((i, j) :: ps)
        | none => none
      else none
    | _, _ => none
def allPairs (n : Nat) : List (Nat × Nat) := (List.range n).flatMap fun j => (List.range j).map fun i => (i, j)
/-- Each edge that binds leads back. -/
def backB : Nat → List Oper → Bool
  | _, [] => true
  | n, o :: r => (o.after.toList.all fun e => !Region.binds .any e || decide (e.on < n)) && backB (n + 1) r

/-- A body; the hints say which temporaries live at a loop's head. -/
def trC (nt : Nat) : Code → List (List Nat) → Option (Cd × List (List Nat))
  | .skip, h => some (.skip, h)
  | .region _ ops draw, m :: h =>
    match trOps P nt ops 0 ops.toList with
    | some (l, n) =>
      if draw then
        if backB 0 ops.toList then (pairsT l (befs [] ops.toList) (allPairs l.length)).map fun ps => (.draw n ps l m, h) else none
      else some (.ops n l m, h)
    | none => none
  | .seq a b, h => match trC nt a h with
    | some (a', h') => match trC nt b h' with
      | some (b', h'') => some (.seq a' b', h'')
      | none => none
    | none => none
  | .cond c a b, h => match trOpd c with
    | some c' => match trC nt a h with
      | some (a', h') => match trC nt b h' with
        | some (b', h'') => some (.cond c' a' b', h'')
        | none => none
      | none => none
    | none => none
  | .block id a, m :: h => match trC nt a h with
    | some (a', h') => some (.block id m a', h')
    | none => none
  | .loop a, m :: h => match trC nt a h with
    | some (a', h') => some (.loop m a', h')
    | none => none
  | .exit id, h => some (.exit id, h)
  | .ret, h => some (.ret, h)
  | _, _ => none

def trRV : List ResultVar → Option (List RV)
  | [] => some []
  | .tmp t :: r => (trRV r).map (.t t :: ·)
  | .cell a t :: r => match aggT P t, szT P t, trRV r with
    | some true, some sz, some l => some (.cell a true sz :: l)
    | some false, some _, some l => some (.cell a false 1 :: l)
    | _, _, _ => none

/-- A function. -/
def trF (fn : Func) (h : List (List Nat)) : Option FD :=
  match fn.body with
  | some c => match trC P fn.ntmps c h, trRV P fn.results.toList with
    | some (cd, []), some rs => some ⟨rs, cd⟩
    | _, _ => none
  | none => none
end
end Go.AX
namespace Go.AX

section values
variable {β : Nat → Loc}

mutual
theorem trV_den : ∀ (v : Value) (a : AV), trV v = some a → Den β a v ∧ a.locs = []
  | .bool b, a, h => by simp only [trV, Option.some.injEq] at h; subst h; exact ⟨by simp [Den], by simp [AV.locs]⟩
  | .int k n, a, h => by simp only [trV, Option.some.injEq] at h; subst h; exact ⟨by simp [Den], by simp [AV.locs]⟩
  | .string s, a, h => by simp only [trV, Option.some.injEq] at h; subst h; exact ⟨by simp [Den], by simp [AV.locs]⟩
  | .pointer none, a, h => by simp only [trV, Option.some.injEq] at h; subst h; exact ⟨by simp [Den], by simp [AV.locs]⟩
  | .slice none 0 0, a, h => by simp only [trV, Option.some.injEq] at h; subst h; exact ⟨by simp [Den], by simp [AV.locs]⟩
  | .map none, a, h => by simp only [trV, Option.some.injEq] at h; subst h; exact ⟨by simp [Den], by simp [AV.locs]⟩
  | .nilFunc, a, h => by simp only [trV, Option.some.injEq] at h; subst h; exact ⟨by simp [Den], by simp [AV.locs]⟩
  | .nilIface, a, h => by simp only [trV, Option.some.injEq] at h; subst h; exact ⟨by simp [Den], by simp [AV.locs]⟩
  | .agg cs, a, h => by
    simp only [trV] at h
    cases hl : trVs cs.toList with
    | none => simp [hl] at h
    | some l =>
      simp only [hl, Option.some.injEq] at h
      subst h
      obtain ⟨h1, h2⟩ := trVs_den cs.toList l hl
      exact ⟨⟨cs.toList, by simp, h1⟩, by simpa [AV.locs] using h2⟩
  | .float _ _, a, h => by simp [trV] at h
  | .complex _ _ _, a, h => by simp [trV] at h
  | .pointer (some _), a, h => by simp [trV] at h
  | .slice (some _) _ _, a, h => by simp [trV] at h
  | .slice none (_ + 1) _, a, h => by simp [trV] at h
  | .slice none 0 (_ + 1), a, h => by simp [trV] at h
  | .map (some _), a, h => by simp [trV] at h
  | .chan _, a, h => by simp [trV] at h
  | .func _ _ _, a, h => by simp [trV] at h
  | .iface _ _, a, h => by simp [trV] at h
  | .tuple _, a, h => by simp [trV] at h
theorem trVs_den : ∀ (vs : List Value) (l : List AV), trVs vs = some l → DenL β l vs ∧ AV.locsL l = []
  | [], l, h => by simp only [trVs, Option.some.injEq] at h; subst h; exact ⟨by simp [DenL], by simp [AV.locsL]⟩
  | v :: vs, l, h => by
    simp only [trVs] at h
    cases hv : trV v with
    | none => simp [hv] at h
    | some a =>
      cases hl : trVs vs with
      | none => simp [hv, hl] at h
      | some l' =>
        simp only [hv, hl, Option.some.injEq] at h
        subst h
        obtain ⟨h1, h2⟩ := trV_den v a hv
        obtain ⟨h3, h4⟩ := trVs_den vs l' hl
        exact ⟨DenL_cons h1 h3, by simp [AV.locsL, h2, h4]⟩
end

/-- The frame's temporaries are what the abstract ones tell. -/
def TmRel (β : Nat → Loc) (t : Tm) (a : Act) : Prop := ∀ n, Den β (tg t n) (a.tmps.getD n undef)

theorem get_den {s : St} {a : Act} (ht : TmRel β s.t a) {x : Operand} {y : Opd} (h : trOpd x = some y) : Den β (s.get y) (a.eval x) := by
  cases x with
  | tmp t => simp only [trOpd, Option.some.injEq] at h; subst h; exact ht t
  | const v =>
    simp only [trOpd, Option.map_eq_some_iff] at h
    obtain ⟨b, h1, rfl⟩ := h
    exact (trV_den v b h1).1
  | global g => simp [trOpd] at h
  | func f =>
    simp only [trOpd, Option.some.injEq] at h; subst h
    exact ⟨[], [], by simp [Act.eval], by simp [DenL], by simp [DenL]⟩
theorem gets_den {s : St} {a : Act} (ht : TmRel β s.t a) : ∀ {xs : List Operand} {ys : List Opd}, trOpds xs = some ys → DenL β (s.gets ys) (xs.map a.eval)
  | [], ys, h => by simp only [trOpds, Option.some.injEq] at h; subst h; simp [St.gets, DenL]
  | x :: xs, ys, h => by
    simp only [trOpds] at h
    cases hx : trOpd x with
    | none => simp [hx] at h
    | some y =>
      cases hl : trOpds xs with
      | none => simp [hx, hl] at h
      | some l =>
        simp only [hx, hl, Option.some.injEq] at h
        subst h
        exact DenL_cons (get_den ht hx) (gets_den ht hl)

theorem get_locs {s : St} {y : Opd} {x : Operand} (h : trOpd x = some y) : (∃ n, y = .t n) ∨ (s.get y).locs = [] := by
  cases x with
  | tmp t => simp only [trOpd, Option.some.injEq] at h; subst h; exact .inl ⟨t, rfl⟩
  | const v =>
    simp only [trOpd, Option.map_eq_some_iff] at h
    obtain ⟨b, h1, rfl⟩ := h
    exact .inr (trV_den (β := default) v b h1).2
  | global g => simp [trOpd] at h
  | func f => simp only [trOpd, Option.some.injEq] at h; subst h; exact .inr (by simp [St.get, AV.locs, AV.locsL])

/-- A value's cells. -/
theorem Den.cells {a : AV} {v : Value} (h : Den β a v) (hne : a.cells ≠ []) : DenL β a.cells v.cells.toList := by
  cases a with
  | agg cs => obtain ⟨vs, rfl, h⟩ := h; simpa [AV.cells, Value.cells] using h
  | any => simp [AV.cells] at hne
  | tup vs => simp [AV.cells] at hne
  | fn f fs cap =>
    obtain ⟨us, vs, rfl, h1, h2⟩ := h
    exact DenL_cons ⟨us, vs, rfl, h1, h2⟩ DenL_nil
  | iface t x =>
    obtain ⟨y, rfl, h⟩ := h
    exact DenL_cons ⟨y, rfl, h⟩ DenL_nil
  | row l n =>
    obtain ⟨h1, a, cap, rfl, h2⟩ := h
    exact DenL_cons ⟨h1, a, cap, rfl, h2⟩ DenL_nil
  | sl l off n =>
    obtain ⟨a, cap, rfl, h2⟩ := h
    exact DenL_cons ⟨a, cap, rfl, h2⟩ DenL_nil
  | bool b => simp only [Den] at h; subst h; exact DenL_cons (by simp [Den]) DenL_nil
  | int k n => simp only [Den] at h; subst h; exact DenL_cons (by simp [Den]) DenL_nil
  | str s => simp only [Den] at h; subst h; exact DenL_cons (by simp [Den]) DenL_nil
  | ptr l off => simp only [Den] at h; subst h; exact DenL_cons (by simp [Den]) DenL_nil
  | nilptr => simp only [Den] at h; subst h; exact DenL_cons (by simp [Den]) DenL_nil
  | nilsl => simp only [Den] at h; subst h; exact DenL_cons (by simp [Den]) DenL_nil
  | nilfn => simp only [Den] at h; subst h; exact DenL_cons (by simp [Den]) DenL_nil
  | map l => simp only [Den] at h; subst h; exact DenL_cons (by simp [Den]) DenL_nil
  | nilmap => simp only [Den] at h; subst h; exact DenL_cons (by simp [Den]) DenL_nil
  | niliface => simp only [Den] at h; subst h; exact DenL_cons (by simp [Den]) DenL_nil

theorem cells_locs (a : AV) : ∀ l ∈ AV.locsL a.cells, l ∈ a.locs := by
  intro l hl
  cases a <;> simp_all [AV.cells, AV.locsL, AV.locs]

theorem locsL_append : ∀ (xs ys : List AV), AV.locsL (xs ++ ys) = AV.locsL xs ++ AV.locsL ys
  | [], ys => by simp [AV.locsL]
  | x :: xs, ys => by simp [AV.locsL, locsL_append xs ys]
theorem mem_locsL {l : Nat} : ∀ {xs : List AV}, l ∈ AV.locsL xs ↔ ∃ x ∈ xs, l ∈ x.locs
  | [] => by simp [AV.locsL]
  | x :: xs => by simp [AV.locsL, mem_locsL (xs := xs)]
theorem locsL_take {l n : Nat} {xs : List AV} (h : l ∈ AV.locsL (xs.take n)) : l ∈ AV.locsL xs := by
  obtain ⟨x, hx, hl⟩ := mem_locsL.1 h
  exact mem_locsL.2 ⟨x, List.mem_of_mem_take hx, hl⟩
theorem locsL_drop {l n : Nat} {xs : List AV} (h : l ∈ AV.locsL (xs.drop n)) : l ∈ AV.locsL xs := by
  obtain ⟨x, hx, hl⟩ := mem_locsL.1 h
  exact mem_locsL.2 ⟨x, List.mem_of_mem_drop hx, hl⟩
theorem locsL_get {l n : Nat} {xs : List AV} {x : AV} (h : xs[n]? = some x) (hl : l ∈ x.locs) : l ∈ AV.locsL xs := mem_locsL.2 ⟨x, List.mem_of_getElem? h, hl⟩
end values

/-! fill -/
section fill
variable {β : Nat → Loc}

theorem foldl_set_zipIdx (off : Nat) : ∀ (cs : List Value) (j : Nat) (acc : List Value), off + j + cs.length ≤ acc.length →
    (cs.zipIdx j).foldl (fun (cs : Array Value) (x : Value × Nat) => cs.setIfInBounds (off + x.2) x.1) acc.toArray = (acc.take (off + j) ++ cs ++ acc.drop (off + j + cs.length)).toArray
  | [], j, acc, _ => by simp
  | c :: cs, j, acc, h => by
    simp only [List.zipIdx_cons, List.foldl_cons]
    have hl : off + j < acc.length := by simp at h; omega
    have e : acc.toArray.setIfInBounds (off + j) c = (acc.set (off + j) c).toArray := by simp
    rw [e, foldl_set_zipIdx off cs (j + 1) (acc.set (off + j) c) (by simp at h ⊢; omega)]
    congr 1
    have h1 : (acc.set (off + j) c).take (off + (j + 1)) = acc.take (off + j) ++ [c] := by
      rw [← Nat.add_assoc, List.take_succ_eq_append_getElem (by simpa using hl)]
      simp only [List.take_set, List.getElem_set_self]
      rw [List.set_eq_of_length_le (by simp; omega)]
    have h2 : (acc.set (off + j) c).drop (off + (j + 1) + cs.length) = acc.drop (off + j + (cs.length + 1)) := by
      rw [List.drop_set_of_lt (by omega)]
      congr 1
      omega
    rw [h1, h2]
    simp

theorem fill_den (place : Nat → Option (Nat × Nat)) : ∀ (ps : List (Nat × Nat)) (is : List Nat) (vs : List AV) (us : List Value) (cs : List AV) (ws : List Value) (out : List AV),
    (∀ (j i : Nat) (p : Nat × Nat), is[j]? = some i → ps[j]? = some p → place i = some p) → is.length = us.length → (∀ p ∈ ps, 0 < p.2) →
    DenL β vs us → DenL β cs ws → fillA cs ps vs = some out →
    ∃ outv : List Value, Instr.fill place ws.toArray (is.zip us) = some outv.toArray ∧ DenL β out outv
  | [], is, [], us, cs, ws, out, _, hl, _, hv, hc, h => by
    simp only [fillA, Option.some.injEq] at h
    subst h
    simp only [DenL] at hv
    subst hv
    have : is = [] := by simpa using hl
    subst this
    exact ⟨ws, by simp [Instr.fill], hc⟩
  | [], is, v :: vs, us, cs, ws, out, _, _, _, _, _, h => by simp [fillA] at h
  | p :: ps, is, [], us, cs, ws, out, _, _, _, _, _, h => by simp [fillA] at h
  | (off, sz) :: ps, is, v :: vs, us, cs, ws, out, hp, hl, hpos, hv, hc, h => by
    simp only [fillA] at h
    split at h
    · rename_i hcond
      obtain ⟨h1, h2⟩ := hcond
      obtain ⟨u, us', rfl, hd, hv'⟩ := hv
      cases is with
      | nil => simp at hl
      | cons i is' =>
        have hpl := hp 0 i (off, sz) (by simp) (by simp)
        have hsz : 0 < sz := hpos (off, sz) (by simp)
        have hcells := Den.cells hd (by intro e; rw [e] at h1; simp at h1; omega)
        have hlen : u.cells.toList.length = sz := by rw [hcells.length]; exact h1
        have hwl : ws.length = cs.length := hc.length
        simp only [List.zip_cons_cons, Instr.fill, hpl]
        have hs : u.cells.size = sz := by simpa using hlen
        have hguard : ¬ (u.cells.size ≠ sz ∨ off + u.cells.size > ws.toArray.size) := by
          simp [hs]; omega
        have hguard' : (decide (u.cells.size ≠ sz) || decide (off + u.cells.size > ws.toArray.size)) = false := by
          simp [hs]; omega
        rw [if_neg (by simpa using hguard)]
        have e : Array.foldl (fun cs x => match x with | (c, j) => cs.setIfInBounds (off + j) c) ws.toArray u.cells.zipIdx = (ws.take off ++ u.cells.toList ++ ws.drop (off + sz)).toArray := by
          have := foldl_set_zipIdx off u.cells.toList 0 ws (by simp [hs]; omega)
          simp only [Nat.add_zero] at this
          rw [hlen] at this
          rw [← this]
          rw [← Array.foldl_toList]
          simp [Array.toList_zipIdx]
        rw [e]
        exact fill_den place ps is' vs us' _ _ out (fun j i' p h1 h2 => hp (j + 1) i' p (by simpa using h1) (by simpa using h2)) (by simpa using hl) (fun p hm => hpos p (by simp [hm])) hv'
          (DenL_append (DenL_append (DenL_take hc off) hcells) (DenL_drop hc (off + sz))) h
    · simp at h

theorem fillA_locs : ∀ (ps : List (Nat × Nat)) (vs cs out : List AV), fillA cs ps vs = some out → ∀ l ∈ AV.locsL out, l ∈ AV.locsL cs ∨ l ∈ AV.locsL vs
  | [], [], cs, out, h => by simp only [fillA, Option.some.injEq] at h; subst h; exact fun l hl => .inl hl
  | [], v :: vs, cs, out, h => by simp [fillA] at h
  | p :: ps, [], cs, out, h => by simp [fillA] at h
  | (off, sz) :: ps, v :: vs, cs, out, h => by
    simp only [fillA] at h
    split at h
    · intro l hl
      rcases fillA_locs ps vs _ out h l hl with h1 | h1
      · rw [locsL_append, locsL_append] at h1
        simp only [List.mem_append] at h1
        rcases h1 with (h1 | h1) | h1
        · exact .inl (locsL_take h1)
        · exact .inr (by simp [AV.locsL, cells_locs v l h1])
        · exact .inl (locsL_drop h1)
      · exact .inr (by simp [AV.locsL, h1])
    · simp at h
end fill
end Go.AX
namespace Go.AX

/-- What an operation that asks no memory comes to. -/
def PGood (P : Program) (β : Nat → Loc) (w : World) (a : Act) (o : Oper) (ins : List AV) (r : AV) : Prop :=
  ∃ v, (execOp a.eval o).run P w = .ok (.value v) w ∧ Den β r v ∧ ∀ l ∈ r.locs, l ∈ AV.locsL ins

section
variable {P : Program} {β : Nat → Loc} {w : World} {a : Act} {o : Oper} {s : St} {slot : Nat}

theorem gets1 {x : Operand} {ys : List Opd} (h : trOpds [x] = some ys) : ∃ y, trOpd x = some y ∧ ys = [y] := by
  simp only [trOpds] at h
  cases hx : trOpd x with
  | none => simp [hx] at h
  | some y => simp only [hx, Option.some.injEq] at h; exact ⟨y, rfl, h.symm⟩
theorem gets2 {x y : Operand} {zs : List Opd} (h : trOpds [x, y] = some zs) : ∃ p q, trOpd x = some p ∧ trOpd y = some q ∧ zs = [p, q] := by
  simp only [trOpds] at h
  cases hx : trOpd x with
  | none => simp [hx] at h
  | some p =>
    cases hy : trOpd y with
    | none => simp [hx, hy] at h
    | some q => simp only [hx, hy, Option.some.injEq] at h; exact ⟨p, q, rfl, rfl, h.symm⟩
theorem gets3 {x y z : Operand} {zs : List Opd} (h : trOpds [x, y, z] = some zs) : ∃ p q r, trOpd x = some p ∧ trOpd y = some q ∧ trOpd z = some r ∧ zs = [p, q, r] := by
  simp only [trOpds] at h
  cases hx : trOpd x with
  | none => simp [hx] at h
  | some p =>
    cases hy : trOpd y with
    | none => simp [hx, hy] at h
    | some q =>
      cases hz : trOpd z with
      | none => simp [hx, hy, hz] at h
      | some r => simp only [hx, hy, hz, Option.some.injEq] at h; exact ⟨p, q, r, rfl, rfl, rfl, h.symm⟩

/-! the values that operands hold, by their abstract ones -/
theorem Den.int {k : IntKind} {n : Int} {v : Value} (h : Den β (.int k n) v) : v = .int k n := h
theorem Den.bool {b : Bool} {v : Value} (h : Den β (.bool b) v) : v = .bool b := h
theorem Den.str {x : List UInt8} {v : Value} (h : Den β (.str x) v) : v = .string ⟨x.toArray⟩ := h
theorem Den.ptr {l off : Nat} {v : Value} (h : Den β (.ptr l off) v) : v = .pointer (some ⟨(β l).blk, (β l).base + off, none⟩) := h
theorem Den.slice3 {x : AV} {l off n : Nat} {v : Value} (hs : x.slice3 = some (l, off, n)) (h : Den β x v) :
    ∃ a cap, v = .slice a n cap ∧ n ≤ cap ∧ (0 < n → a = some ⟨(β l).blk, (β l).base + off, none⟩) := by
  cases x <;> simp only [AV.slice3, reduceCtorEq, Option.some.injEq, Prod.mk.injEq] at hs
  case row l' n' =>
    obtain ⟨rfl, rfl, rfl⟩ := hs
    obtain ⟨_, a, cap, h1, h2, h3⟩ := h
    exact ⟨a, cap, h1, h2, by simpa using h3⟩
  case sl l' o' n' =>
    obtain ⟨rfl, rfl, rfl⟩ := hs
    exact h
theorem slice3_locs {x : AV} {l off n : Nat} (hs : x.slice3 = some (l, off, n)) : l ∈ x.locs := by
  cases x <;> simp only [AV.slice3, reduceCtorEq, Option.some.injEq, Prod.mk.injEq] at hs <;> simp [AV.locs, hs.1]

theorem good_mv (ht : TmRel β s.t a) {x : Operand} {y : Opd} (hx : trOpd x = some y) (ho : (execOp a.eval o).run P w = .ok (.value (a.eval x)) w) : PGood P β w a o (s.gets [y]) (s.get y) :=
  ⟨a.eval x, ho, get_den ht hx, fun l hl => by simp [St.gets, AV.locsL, hl]⟩

theorem good_pick (ht : TmRel β s.t a) {c x y : Operand} (ho : o.op = .pick c x y) {ys : List Opd} (hx : trOpds [c, x, y] = some ys) {r : AV} (h : psem .pick (s.gets ys) = some r) : PGood P β w a o (s.gets ys) r := by
  obtain ⟨p, q, z, h1, h2, h3, rfl⟩ := gets3 hx
  have d1 := get_den ht h1
  have d2 := get_den ht h2
  have d3 := get_den ht h3
  simp only [St.gets] at h ⊢
  cases hc : s.get p <;> simp only [psem, hc, reduceCtorEq, Option.some.injEq] at h
  rename_i b
  rw [hc] at d1
  have e := d1.bool
  subst h
  refine ⟨if b then a.eval x else a.eval y, by simp [execOp, ho, e, asBool], ?_, ?_⟩
  · cases b <;> simp [d2, d3]
  · intro l hl
    cases b <;> simp_all [AV.locsL]

theorem good_nilCheck (ht : TmRel β s.t a) {x : Operand} (ho : o.op = .nilCheck x) {ys : List Opd} (hx : trOpds [x] = some ys) {r : AV} (h : psem .nilCheck (s.gets ys) = some r) : PGood P β w a o (s.gets ys) r := by
  obtain ⟨y, h1, rfl⟩ := gets1 hx
  have d := get_den ht h1
  simp only [St.gets] at h ⊢
  cases hc : s.get y <;> simp only [psem, hc, reduceCtorEq, Option.some.injEq] at h <;> subst h <;> rw [hc] at d
  · refine ⟨_, ?_, d, fun l hl => by simpa [AV.locsL] using hl⟩
    simp [execOp, ho, d.ptr]
  · refine ⟨_, ?_, d, fun l hl => by simpa [AV.locsL] using hl⟩
    obtain ⟨us, vs, e, _, _⟩ := d
    simp [execOp, ho, e]

theorem good_not (ht : TmRel β s.t a) {t : TypeId} {x : Operand} (ho : o.op = .unOp .not t x) {ys : List Opd} (hx : trOpds [x] = some ys) {r : AV} (h : psem .not (s.gets ys) = some r) : PGood P β w a o (s.gets ys) r := by
  obtain ⟨y, h1, rfl⟩ := gets1 hx
  have d := get_den ht h1
  simp only [St.gets] at h ⊢
  cases hc : s.get y <;> simp only [psem, hc, reduceCtorEq, Option.some.injEq] at h
  subst h
  rw [hc] at d
  exact ⟨_, by simp [execOp, ho, d.bool, Op.unary]; rfl, by simp [Den], by simp [AV.locs]⟩

theorem good_neg (ht : TmRel β s.t a) {t : TypeId} {x : Operand} (ho : o.op = .unOp .neg t x) {ys : List Opd} (hx : trOpds [x] = some ys) {r : AV} (h : psem .neg (s.gets ys) = some r) : PGood P β w a o (s.gets ys) r := by
  obtain ⟨y, h1, rfl⟩ := gets1 hx
  have d := get_den ht h1
  simp only [St.gets] at h ⊢
  cases hc : s.get y <;> simp only [psem, hc, reduceCtorEq, Option.some.injEq] at h
  subst h
  rw [hc] at d
  exact ⟨_, by simp [execOp, ho, d.int, Op.unary, Op.intArith]; rfl, by simp [Den], by simp [AV.locs]⟩

theorem good_convInt (ht : TmRel β s.t a) {t u : TypeId} {j k : IntKind} {x : Operand} (ho : o.op = .convert t u x) (hT : P.underlying t = some (.int j)) (hU : P.underlying u = some (.int k)) {ys : List Opd} (hx : trOpds [x] = some ys) {r : AV} (h : psem (.convInt k) (s.gets ys) = some r) : PGood P β w a o (s.gets ys) r := by
  obtain ⟨y, h1, rfl⟩ := gets1 hx
  have d := get_den ht h1
  simp only [St.gets] at h ⊢
  cases hc : s.get y <;> simp only [psem, hc, reduceCtorEq, Option.some.injEq] at h
  subst h
  rw [hc] at d
  exact ⟨_, by simp [execOp, ho, d.int, convert, run_underlying hT, run_underlying hU, Conv.intToInt]; rfl, by simp [Den], by simp [AV.locs]⟩

theorem good_convStr (ht : TmRel β s.t a) {t u : TypeId} {x : Operand} (ho : o.op = .convert t u x) (hT : P.underlying t = some .string) (hU : P.underlying u = some .string) {ys : List Opd} (hx : trOpds [x] = some ys) {r : AV} (h : psem .convStr (s.gets ys) = some r) : PGood P β w a o (s.gets ys) r := by
  obtain ⟨y, h1, rfl⟩ := gets1 hx
  have d := get_den ht h1
  simp only [St.gets] at h ⊢
  cases hc : s.get y <;> simp only [psem, hc, reduceCtorEq, Option.some.injEq] at h
  subst h
  rw [hc] at d
  exact ⟨_, by simp [execOp, ho, d.str, convert, run_underlying hT, run_underlying hU]; rfl, by simp [Den], by simp [AV.locs]⟩

theorem good_iface (ht : TmRel β s.t a) {t : TypeId} {x : Operand} (ho : o.op = .makeInterface t x) {d : TypeDesc} (hT : P.underlying t = some d) (hd : ∀ ms, d ≠ .interface ms) {ys : List Opd} (hx : trOpds [x] = some ys) {r : AV} (h : psem (.iface t) (s.gets ys) = some r) : PGood P β w a o (s.gets ys) r := by
  obtain ⟨y, h1, rfl⟩ := gets1 hx
  have dy := get_den ht h1
  simp only [St.gets, psem, Option.some.injEq] at h ⊢
  subst h
  refine ⟨.iface t (a.eval x), ?_, ⟨_, rfl, dy⟩, fun l hl => by simpa [AV.locsL, AV.locs] using hl⟩
  cases d <;> first | (exact absurd rfl (hd _)) | simp [execOp, ho, Instr.makeInterface, run_underlying hT]

theorem DenL.split {n : Nat} {xs : List AV} {vs : List Value} (h : DenL β xs vs) : DenL β (xs.take n) (vs.take n) ∧ DenL β (xs.drop n) (vs.drop n) := ⟨DenL_take h n, DenL_drop h n⟩

theorem good_mkfn (ht : TmRel β s.t a) {f : FuncId} {fs cs : Array Operand} (ho : o.op = .makeFunc (.func f) fs cs) {ys : List Opd} (hx : trOpds (fs.toList ++ cs.toList) = some ys) {r : AV} (h : psem (.mkfn f fs.size) (s.gets ys) = some r) : PGood P β w a o (s.gets ys) r := by
  have d := gets_den ht hx
  simp only [psem, Option.some.injEq] at h
  subst h
  have hs := d.split (n := fs.size)
  have e1 : List.take fs.size (List.map a.eval (fs.toList ++ cs.toList)) = (fs.map a.eval).toList := by
    rw [List.map_append, List.take_left' (by simp), Array.toList_map]
  have e2 : List.drop fs.size (List.map a.eval (fs.toList ++ cs.toList)) = (cs.map a.eval).toList := by
    rw [List.map_append, List.drop_left' (by simp), Array.toList_map]
  refine ⟨.func (.func f) (fs.map a.eval) (cs.map a.eval), by simp [execOp, ho, Instr.makeFunc], ?_, ?_⟩
  · exact ⟨(fs.map a.eval).toList, (cs.map a.eval).toList, rfl, e1 ▸ hs.1, e2 ▸ hs.2⟩
  · intro l hl
    simp only [AV.locs, List.mem_append] at hl
    rcases hl with hl | hl
    · exact locsL_take hl
    · exact locsL_drop hl

theorem addr_add (b off n : Nat) : (⟨b, off, none⟩ : Addr).add n = ⟨b, off + n, none⟩ := by
  unfold Addr.add
  split <;> simp_all

theorem good_fieldAddr (ht : TmRel β s.t a) {t : TypeId} {x : Operand} {i : Nat} (ho : o.op = .fieldAddr t x i) {fs : Array Field} (hT : P.underlying t = some (.struct fs)) {fd : Field} (hf : fs[i]? = some fd) {sz : Nat} (hz : szT P fd.type = some sz) (h0 : 0 < sz)
    {ys : List Opd} (hx : trOpds [x] = some ys) {r : AV} (h : psem (.fieldAddr fd.offset) (s.gets ys) = some r) : PGood P β w a o (s.gets ys) r := by
  obtain ⟨y, h1, rfl⟩ := gets1 hx
  have d := get_den ht h1
  simp only [szT, Option.map_eq_some_iff] at hz
  obtain ⟨inf, hi, rfl⟩ := hz
  simp only [St.gets] at h ⊢
  cases hc : s.get y <;> simp only [psem, hc, reduceCtorEq, Option.some.injEq] at h
  subst h
  rw [hc] at d
  rename_i l off
  refine ⟨.pointer (some ⟨(β l).blk, (β l).base + (off + fd.offset), none⟩), ?_, by simp [Den], fun l hl => by simpa [AV.locsL, AV.locs] using hl⟩
  simp [execOp, ho, d.ptr, Instr.fieldAt, run_underlying hT, hf, Instr.sureAddr, fieldPlace, sizeOf, typeInfo, hi, Nat.ne_of_gt h0, addr_add, Nat.add_assoc]

theorem good_indexArr (ht : TmRel β s.t a) {t : TypeId} {x i : Operand} (ho : o.op = .indexAddr t x i) {n : Nat} {e : TypeId} (hT : P.underlying t = some (.array n e)) {sz : Nat} (hz : szT P e = some sz)
    {ys : List Opd} (hx : trOpds [x, i] = some ys) {r : AV} (h : psem (.indexArr n sz) (s.gets ys) = some r) : PGood P β w a o (s.gets ys) r := by
  obtain ⟨y, z, h1, h2, rfl⟩ := gets2 hx
  have d1 := get_den ht h1
  have d2 := get_den ht h2
  simp only [szT, Option.map_eq_some_iff] at hz
  obtain ⟨inf, hi, rfl⟩ := hz
  simp only [St.gets] at h ⊢
  cases hc : s.get y <;> simp only [psem, hc, reduceCtorEq] at h
  cases hd : s.get z <;> simp only [hd, reduceCtorEq] at h
  split at h
  · rename_i l off k j hj
    simp only [Option.some.injEq] at h
    subst h
    rw [hc] at d1
    rw [hd] at d2
    refine ⟨.pointer (some ⟨(β l).blk, (β l).base + (off + j.toNat * inf.size), none⟩), ?_, by simp [Den], fun l hl => by simp only [AV.locs, List.mem_singleton] at hl; subst hl; simp [AV.locsL, AV.locs, hc]⟩
    simp [execOp, ho, d1.ptr, d2.int, Instr.indexAt, asIntOf, run_underlying hT, Instr.sureAddr, sizeOf, typeInfo, hi, hj, addr_add, Nat.add_assoc]
  · simp at h

theorem good_indexSl (ht : TmRel β s.t a) {t : TypeId} {x i : Operand} (ho : o.op = .indexAddr t x i) {e : TypeId} (hT : P.underlying t = some (.slice e)) {sz : Nat} (hz : szT P e = some sz)
    {ys : List Opd} (hx : trOpds [x, i] = some ys) {r : AV} (h : psem (.indexSl sz) (s.gets ys) = some r) : PGood P β w a o (s.gets ys) r := by
  obtain ⟨y, z, h1, h2, rfl⟩ := gets2 hx
  have d1 := get_den ht h1
  have d2 := get_den ht h2
  simp only [szT, Option.map_eq_some_iff] at hz
  obtain ⟨inf, hi, rfl⟩ := hz
  simp only [St.gets] at h ⊢
  cases hd : s.get z <;> simp only [psem, hd, reduceCtorEq] at h
  cases hc : (s.get y).slice3 with
  | none => simp [hc] at h
  | some q =>
    obtain ⟨l, off, n⟩ := q
    simp only [hc] at h
    split at h
    · rename_i k j hj
      simp only [Option.some.injEq] at h
      subst h
      obtain ⟨ad, cap, ev, hcap, hAd⟩ := Den.slice3 hc d1
      rw [hd] at d2
      have ead := hAd (by omega)
      refine ⟨.pointer (some ⟨(β l).blk, (β l).base + (off + j.toNat * inf.size), none⟩), ?_, by simp [Den], fun l' hl => by
        simp only [AV.locs, List.mem_singleton] at hl; subst hl; simp [AV.locsL, slice3_locs hc]⟩
      simp [execOp, ho, ev, ead, d2.int, Instr.indexAt, asIntOf, run_underlying hT, sizeOf, typeInfo, hi, hj, addr_add, Nat.add_assoc]
    · simp at h

theorem good_indexAgg (ht : TmRel β s.t a) {t : TypeId} {x i : Operand} (ho : o.op = .index t x i) {n : Nat} {e : TypeId} (hT : P.underlying t = some (.array n e)) {sz : Nat} (hz : szT P e = some sz) {ag : Bool} (hg : aggT P e = some ag)
    {ys : List Opd} (hx : trOpds [x, i] = some ys) {r : AV} (h : psem (.indexAgg n sz ag) (s.gets ys) = some r) : PGood P β w a o (s.gets ys) r := by
  obtain ⟨y, z, h1, h2, rfl⟩ := gets2 hx
  have d1 := get_den ht h1
  have d2 := get_den ht h2
  simp only [szT, Option.map_eq_some_iff] at hz
  obtain ⟨inf, hi, rfl⟩ := hz
  simp only [St.gets] at h ⊢
  cases hc : s.get y <;> simp only [psem, hc, reduceCtorEq] at h
  cases hd : s.get z <;> simp only [hd, reduceCtorEq] at h
  rename_i cs k j
  split at h
  · rename_i hj
    rw [hc] at d1
    rw [hd] at d2
    obtain ⟨vs, ev, hvs⟩ := d1
    have hagg : (isAgg e).run P w = .ok ag w := by
      simp only [aggT] at hg
      split at hg <;> simp only [Option.some.injEq, reduceCtorEq] at hg <;> subst hg <;> simp_all [isAgg, run_underlying]
    have hrun : ∀ v, (Go.part e vs.toArray (j.toNat * inf.size)).run P w = .ok v w → (execOp a.eval o).run P w = .ok (.value v) w := by
      intro v hv
      simp [execOp, ho, ev, d2.int, Instr.index, asIntOf, run_underlying hT, sizeOf, typeInfo, hi, hj, hv]
    cases ag with
    | true =>
      simp only [if_true] at h
      split at h
      · simp only [Option.some.injEq] at h
        subst h
        refine ⟨_, hrun (.agg (vs.toArray.extract (j.toNat * inf.size) (j.toNat * inf.size + inf.size))) (by simp [Go.part, hagg, sizeOf, typeInfo, hi]), ⟨(vs.drop (j.toNat * inf.size)).take inf.size, ?_, DenL_take (DenL_drop hvs _) _⟩, fun l hl => by
          simp only [AV.locs] at hl; simp [AV.locsL, AV.locs, locsL_drop (locsL_take hl)]⟩
        simp [List.extract_toArray, List.extract_eq_take_drop]
      · simp at h
    | false =>
      simp only [Bool.false_eq_true, if_false] at h
      obtain ⟨u, hu, hdu⟩ := hvs.get _ _ h
      exact ⟨u, hrun u (by simp [Go.part, hagg, hu]), hdu, fun l hl => by simp [AV.locsL, AV.locs, locsL_get h hl]⟩
  · simp at h

theorem good_indexStr (ht : TmRel β s.t a) {t : TypeId} {x i : Operand} (ho : o.op = .index t x i) (hT : P.underlying t = some .string)
    {ys : List Opd} (hx : trOpds [x, i] = some ys) {r : AV} (h : psem .indexStr (s.gets ys) = some r) : PGood P β w a o (s.gets ys) r := by
  obtain ⟨y, z, h1, h2, rfl⟩ := gets2 hx
  have d1 := get_den ht h1
  have d2 := get_den ht h2
  simp only [St.gets] at h ⊢
  cases hc : s.get y <;> simp only [psem, hc, reduceCtorEq] at h
  cases hd : s.get z <;> simp only [hd, reduceCtorEq] at h
  rename_i cs k j
  split at h
  · rename_i hj
    simp only [Option.map_eq_some_iff] at h
    obtain ⟨b, hb, rfl⟩ := h
    rw [hc] at d1
    rw [hd] at d2
    have hb' : (⟨cs.toArray⟩ : ByteArray)[j.toNat]? = some b := by
      obtain ⟨hlt, hget⟩ := List.getElem?_eq_some_iff.1 hb
      show (if h : j.toNat < (⟨cs.toArray⟩ : ByteArray).size then some ((⟨cs.toArray⟩ : ByteArray)[j.toNat]) else none) = some b
      have hsz : (⟨cs.toArray⟩ : ByteArray).size = cs.length := by simp [ByteArray.size]
      rw [dif_pos (by rw [hsz]; exact hlt)]
      exact congrArg some hget
    refine ⟨.int .u8 b.toNat, ?_, by simp [Den], by simp [AV.locs]⟩
    simp [execOp, ho, d1.str, d2.int, Instr.index, asIntOf, run_underlying hT, hj, hb']
  · simp at h
end
end Go.AX
namespace Go.AX
section
variable {P : Program} {β : Nat → Loc} {w : World} {a : Act} {o : Oper} {s : St} {slot : Nat}

theorem bsize (l : List UInt8) : (⟨l.toArray⟩ : ByteArray).size = l.length := by
  show l.toArray.size = l.length
  simp
theorem bext (l : List UInt8) (i j : Nat) : (⟨l.toArray⟩ : ByteArray).extract i j = ⟨((l.take j).drop i).toArray⟩ := by
  have h : ((⟨l.toArray⟩ : ByteArray).extract i j).data = l.toArray.extract i j := by simp
  rw [show (⟨l.toArray⟩ : ByteArray).extract i j = ⟨((⟨l.toArray⟩ : ByteArray).extract i j).data⟩ from rfl, h]
  simp [List.extract_toArray, List.extract_eq_take_drop, List.drop_take]

theorem run_sliceBounds (b : Bool) (len cap : Nat) (lo hi : Option Value) (l h : Nat) (hlo : (lo = none ∧ l = 0) ∨ ∃ k, lo = some (.int k l)) (hhi : (hi = none ∧ h = len) ∨ ∃ k, hi = some (.int k h)) (h1 : l ≤ h) (h2 : h ≤ cap) :
    (Instr.sliceBounds b len cap lo hi none).run P w = .ok (l, h, cap) w := by
  rcases hlo with ⟨rfl, rfl⟩ | ⟨k, rfl⟩ <;> rcases hhi with ⟨rfl, rfl⟩ | ⟨k', rfl⟩ <;>
    simp [Instr.sliceBounds, Instr.sliceBound, asIntOf, h1, h2]

/-- What the bounds' operands hold. -/
theorem loHi_good (ht : TmRel β s.t a) {lo hi : Option Operand} {ys : List Opd} (hx : trOpds (optL lo ++ optL hi) = some ys) {p q : Option AV} (hb : loHi lo.isSome hi.isSome (s.gets ys) = some (p, q)) {d n l h : Nat} (hl : bound d p = some l) (hh : bound n q = some h) :
    (((lo.map a.eval) = none ∧ l = d) ∨ ∃ k, (lo.map a.eval) = some (.int k l)) ∧ (((hi.map a.eval) = none ∧ h = n) ∨ ∃ k, (hi.map a.eval) = some (.int k h)) := by
  have key : ∀ {x : Operand} {y : Opd} {d l : Nat}, trOpd x = some y → bound d (some (s.get y)) = some l → ∃ k, a.eval x = .int k l := by
    intro x y d l h1 h2
    have dd := get_den ht h1
    cases hc : s.get y <;> simp only [bound, hc, reduceCtorEq] at h2
    split at h2
    · rename_i k m hm
      simp only [Option.some.injEq] at h2
      subst h2
      rw [hc] at dd
      exact ⟨k, by rw [dd.int, Int.toNat_of_nonneg hm]⟩
    · simp at h2
  cases lo with
  | none =>
    cases hi with
    | none =>
      simp only [optL, List.append_nil, trOpds, Option.some.injEq] at hx
      subst hx
      simp only [Option.isSome_none, loHi, St.gets, Option.some.injEq, Prod.mk.injEq] at hb
      obtain ⟨rfl, rfl⟩ := hb
      simp only [bound, Option.some.injEq] at hl hh
      exact ⟨.inl ⟨rfl, hl.symm⟩, .inl ⟨rfl, hh.symm⟩⟩
    | some y =>
      simp only [optL, List.nil_append] at hx
      obtain ⟨z, h1, rfl⟩ := gets1 hx
      simp only [Option.isSome_none, Option.isSome_some, loHi, St.gets, Option.some.injEq, Prod.mk.injEq] at hb
      obtain ⟨rfl, rfl⟩ := hb
      simp only [bound, Option.some.injEq] at hl
      obtain ⟨k, hk⟩ := key h1 hh
      exact ⟨.inl ⟨rfl, hl.symm⟩, .inr ⟨k, by simp [hk]⟩⟩
  | some x =>
    cases hi with
    | none =>
      simp only [optL, List.append_nil] at hx
      obtain ⟨z, h1, rfl⟩ := gets1 hx
      simp only [Option.isSome_none, Option.isSome_some, loHi, St.gets, Option.some.injEq, Prod.mk.injEq] at hb
      obtain ⟨rfl, rfl⟩ := hb
      simp only [bound, Option.some.injEq] at hh
      obtain ⟨k, hk⟩ := key h1 hl
      exact ⟨.inr ⟨k, by simp [hk]⟩, .inl ⟨rfl, hh.symm⟩⟩
    | some y =>
      simp only [optL, List.singleton_append] at hx
      obtain ⟨z, z', h1, h2, rfl⟩ := gets2 hx
      simp only [Option.isSome_some, loHi, St.gets, Option.some.injEq, Prod.mk.injEq] at hb
      obtain ⟨rfl, rfl⟩ := hb
      obtain ⟨k, hk⟩ := key h1 hl
      obtain ⟨k', hk'⟩ := key h2 hh
      exact ⟨.inr ⟨k, by simp [hk]⟩, .inr ⟨k', by simp [hk']⟩⟩

theorem gets_cons {x : Operand} {r : List Operand} {zs : List Opd} (h : trOpds (x :: r) = some zs) : ∃ y ys, trOpd x = some y ∧ trOpds r = some ys ∧ zs = y :: ys := by
  simp only [trOpds] at h
  cases hx : trOpd x with
  | none => simp [hx] at h
  | some y =>
    cases hr : trOpds r with
    | none => simp [hx, hr] at h
    | some ys => simp only [hx, hr, Option.some.injEq] at h; exact ⟨y, ys, rfl, rfl, h.symm⟩

theorem good_sliceStr (ht : TmRel β s.t a) {t : TypeId} {x : Operand} {lo hi : Option Operand} (ho : o.op = .slice t x lo hi none) (hT : P.underlying t = some .string)
    {ys : List Opd} (hx : trOpds (x :: (optL lo ++ optL hi)) = some ys) {r : AV} (h : psem (.sliceStr lo.isSome hi.isSome) (s.gets ys) = some r) : PGood P β w a o (s.gets ys) r := by
  obtain ⟨y, zs, h1, h2, rfl⟩ := gets_cons hx
  have d1 := get_den ht h1
  simp only [St.gets] at h ⊢
  cases hc : s.get y <;> simp only [psem, hc, reduceCtorEq] at h
  rename_i str
  cases hb : loHi lo.isSome hi.isSome (s.gets zs) with
  | none => simp [hb] at h
  | some pq =>
    obtain ⟨p, q⟩ := pq
    simp only [hb] at h
    cases hl : bound 0 p with
    | none => simp [hl] at h
    | some l =>
      cases hh : bound str.length q with
      | none => simp [hl, hh] at h
      | some e =>
        simp only [hl, hh] at h
        split at h
        · rename_i hle
          simp only [Option.some.injEq] at h
          subst h
          rw [hc] at d1
          obtain ⟨g1, g2⟩ := loHi_good ht h2 hb hl hh
          refine ⟨.string ((⟨str.toArray⟩ : ByteArray).extract l e), ?_, ?_, by simp [AV.locs]⟩
          · simp [execOp, ho, Instr.sliceAt, d1.str, run_underlying hT, Instr.slice, bsize, run_sliceBounds (P := P) (w := w) false str.length str.length _ _ l e g1 g2 hle.1 hle.2]
          · rw [bext]
            simp [Den]
        · simp at h

theorem good_sliceSl (ht : TmRel β s.t a) {t : TypeId} {x : Operand} {lo hi : Option Operand} (ho : o.op = .slice t x lo hi none) {e : TypeId} (hT : P.underlying t = some (.slice e)) {sz : Nat} (hz : szT P e = some sz)
    {ys : List Opd} (hx : trOpds (x :: (optL lo ++ optL hi)) = some ys) {r : AV} (h : psem (.sliceSl sz lo.isSome hi.isSome) (s.gets ys) = some r) : PGood P β w a o (s.gets ys) r := by
  obtain ⟨y, zs, h1, h2, rfl⟩ := gets_cons hx
  have d1 := get_den ht h1
  simp only [szT, Option.map_eq_some_iff] at hz
  obtain ⟨inf, hi', rfl⟩ := hz
  simp only [St.gets, psem] at h ⊢
  cases hc : (s.get y).slice3 with
  | none =>
    simp only [hc] at h
    cases hb : loHi lo.isSome hi.isSome (s.gets zs) with
    | none => simp [hb] at h
    | some pq =>
      obtain ⟨p, q⟩ := pq
      simp only [hb] at h
      split at h <;> try (simp at h; done)
      rename_i hn
      split at h <;> simp only [reduceCtorEq, Option.some.injEq] at h
      rename_i hbd
      subst h
      rw [hn] at d1
      simp only [Den] at d1
      obtain ⟨g1, g2⟩ := loHi_good ht h2 hb hbd.1 hbd.2
      refine ⟨.slice none 0 0, ?_, by simp [Den], by simp [AV.locs]⟩
      simp [execOp, ho, Instr.sliceAt, d1, run_underlying hT, Instr.slice, sizeOf, typeInfo, hi', run_sliceBounds (P := P) (w := w) true 0 0 _ _ 0 0 g1 g2 (Nat.le_refl _) (Nat.le_refl _)]
  | some q =>
    obtain ⟨l, off, n⟩ := q
    simp only [hc] at h
    cases hb : loHi lo.isSome hi.isSome (s.gets zs) with
    | none => simp [hb] at h
    | some pq =>
      obtain ⟨p, q⟩ := pq
      simp only [hb] at h
      cases hl : bound 0 p with
      | none => simp [hl] at h
      | some i =>
        cases hh : bound n q with
        | none => simp [hl, hh] at h
        | some j =>
          simp only [hl, hh] at h
          split at h
          · rename_i hle
            simp only [Option.some.injEq] at h
            subst h
            obtain ⟨ad, cap, ev, hcap, hAd⟩ := Den.slice3 hc d1
            obtain ⟨g1, g2⟩ := loHi_good ht h2 hb hl hh
            refine ⟨.slice (if cap = i then ad else ad.map (·.add (i * inf.size))) (j - i) (cap - i), ?_, ?_, fun l' hl' => by
              simp only [AV.locs, List.mem_singleton] at hl'; subst hl'; simp [AV.locsL, slice3_locs hc]⟩
            · simp [execOp, ho, Instr.sliceAt, ev, run_underlying hT, Instr.slice, sizeOf, typeInfo, hi', run_sliceBounds (P := P) (w := w) true n cap _ _ i j g1 g2 hle.1 (by omega)]
            · refine ⟨_, _, rfl, by omega, fun h0 => ?_⟩
              rw [if_neg (by omega), hAd (by omega)]
              simp [addr_add, Nat.add_assoc]
          · simp at h

theorem good_sliceArr (ht : TmRel β s.t a) {t : TypeId} {x : Operand} {lo hi : Option Operand} (ho : o.op = .slice t x lo hi none) {n : Nat} {e : TypeId} (hT : P.underlying t = some (.array n e)) {sz : Nat} (hz : szT P e = some sz)
    {ys : List Opd} (hx : trOpds (x :: (optL lo ++ optL hi)) = some ys) {r : AV} (h : psem (.sliceArr n sz lo.isSome hi.isSome) (s.gets ys) = some r) : PGood P β w a o (s.gets ys) r := by
  obtain ⟨y, zs, h1, h2, rfl⟩ := gets_cons hx
  have d1 := get_den ht h1
  simp only [szT, Option.map_eq_some_iff] at hz
  obtain ⟨inf, hi', rfl⟩ := hz
  simp only [St.gets] at h ⊢
  cases hc : s.get y <;> simp only [psem, hc, reduceCtorEq] at h
  rename_i l off
  cases hb : loHi lo.isSome hi.isSome (s.gets zs) with
  | none => simp [hb] at h
  | some pq =>
    obtain ⟨p, q⟩ := pq
    simp only [hb] at h
    cases hl : bound 0 p with
    | none => simp [hl] at h
    | some i =>
      cases hh : bound n q with
      | none => simp [hl, hh] at h
      | some j =>
        simp only [hl, hh] at h
        split at h
        · rename_i hle
          simp only [Option.some.injEq] at h
          subst h
          rw [hc] at d1
          obtain ⟨g1, g2⟩ := loHi_good ht h2 hb hl hh
          refine ⟨.slice (some (if n = i then ⟨(β l).blk, (β l).base + off, none⟩ else (⟨(β l).blk, (β l).base + off, none⟩ : Addr).add (i * inf.size))) (j - i) (n - i), ?_, ?_, fun l' hl' => by
            simp only [AV.locs, List.mem_singleton] at hl'; subst hl'; simp [AV.locsL, AV.locs]⟩
          · simp [execOp, ho, Instr.sliceAt, d1.ptr, run_underlying hT, Instr.sureAddr, sizeOf, typeInfo, hi', run_sliceBounds (P := P) (w := w) false n n _ _ i j g1 g2 hle.1 (by omega)]
          · refine ⟨_, _, rfl, by omega, fun h0 => ?_⟩
            rw [if_neg (by omega)]
            simp [addr_add, Nat.add_assoc]
        · simp at h

theorem good_extract (ht : TmRel β s.t a) {x : Operand} {i : Nat} (ho : o.op = .extract x i) {ys : List Opd} (hx : trOpds [x] = some ys) {r : AV} (h : psem (.extract i) (s.gets ys) = some r) : PGood P β w a o (s.gets ys) r := by
  obtain ⟨y, h1, rfl⟩ := gets1 hx
  have d := get_den ht h1
  simp only [St.gets] at h ⊢
  cases hc : s.get y <;> simp only [psem, hc, reduceCtorEq] at h
  rw [hc] at d
  obtain ⟨vs, ev, hvs⟩ := d
  obtain ⟨u, hu, hd⟩ := hvs.get _ _ h
  exact ⟨u, by simp [execOp, ho, ev, Instr.extract, hu], hd, fun l hl => by simp [AV.locsL, AV.locs, locsL_get h hl]⟩

theorem good_len {t : TypeId} {x : Operand} (ho : o.op = .call { callee := .builtin .len, args := #[x], argTypes := #[t] }) {v : Value} (hv : ∀ ty, (Builtin.len_ #[t] ty #[a.eval x]).run P w = .ok v w) :
    (execOp a.eval o).run P w = .ok (.value v) w := by
  simp [execOp, ho, resolve, invoke, builtin, hv]

theorem good_lenStr (ht : TmRel β s.t a) {t : TypeId} {x : Operand} (ho : o.op = .call { callee := .builtin .len, args := #[x], argTypes := #[t] }) (hT : P.underlying t = some .string) {ys : List Opd} (hx : trOpds [x] = some ys) {r : AV} (h : psem .lenStr (s.gets ys) = some r) : PGood P β w a o (s.gets ys) r := by
  obtain ⟨y, h1, rfl⟩ := gets1 hx
  have d := get_den ht h1
  simp only [St.gets] at h ⊢
  cases hc : s.get y <;> simp only [psem, hc, reduceCtorEq, Option.some.injEq] at h
  subst h
  rw [hc] at d
  exact ⟨_, good_len ho (fun ty => by simp [Builtin.len_, d.str, run_underlying hT, goInt, bsize]; rfl), by simp [Den], by simp [AV.locs]⟩

theorem good_lenSl (ht : TmRel β s.t a) {t : TypeId} {x : Operand} (ho : o.op = .call { callee := .builtin .len, args := #[x], argTypes := #[t] }) {e : TypeId} (hT : P.underlying t = some (.slice e)) {ys : List Opd} (hx : trOpds [x] = some ys) {r : AV} (h : psem .lenSl (s.gets ys) = some r) : PGood P β w a o (s.gets ys) r := by
  obtain ⟨y, h1, rfl⟩ := gets1 hx
  have d := get_den ht h1
  simp only [St.gets, psem] at h ⊢
  cases hc : (s.get y).slice3 with
  | some q =>
    obtain ⟨l, off, n⟩ := q
    simp only [hc, Option.some.injEq] at h
    subst h
    obtain ⟨ad, cap, ev, _, _⟩ := Den.slice3 hc d
    exact ⟨_, good_len ho (fun ty => by simp [Builtin.len_, ev, run_underlying hT, goInt]; rfl), by simp [Den], by simp [AV.locs]⟩
  | none =>
    simp only [hc] at h
    cases hn : s.get y <;> simp only [hn, reduceCtorEq, Option.some.injEq] at h
    subst h
    rw [hn] at d
    have ev : a.eval x = .slice none 0 0 := d
    exact ⟨_, good_len ho (fun ty => by simp [Builtin.len_, ev, run_underlying hT, goInt]; rfl), by simp [Den], by simp [AV.locs]⟩

theorem good_lenArr {t : TypeId} {x : Operand} (ho : o.op = .call { callee := .builtin .len, args := #[x], argTypes := #[t] }) {n : Nat} {e : TypeId} (hT : P.underlying t = some (.array n e)) {ys : List Opd} (hx : trOpds [x] = some ys) {r : AV} (h : psem (.lenArr n) (s.gets ys) = some r) : PGood P β w a o (s.gets ys) r := by
  obtain ⟨y, h1, rfl⟩ := gets1 hx
  simp only [St.gets, psem, Option.some.injEq] at h ⊢
  subst h
  exact ⟨_, good_len ho (fun ty => by simp [Builtin.len_, run_underlying hT, goInt]; rfl), by simp [Den], by simp [AV.locs]⟩

theorem good_min (ht : TmRel β s.t a) {x y : Operand} {ts : Array TypeId} (ho : o.op = .call { callee := .builtin .min, args := #[x, y], argTypes := ts }) {ys : List Opd} (hx : trOpds [x, y] = some ys) {r : AV} (h : psem .minI (s.gets ys) = some r) : PGood P β w a o (s.gets ys) r := by
  obtain ⟨p, q, h1, h2, rfl⟩ := gets2 hx
  have d1 := get_den ht h1
  have d2 := get_den ht h2
  simp only [St.gets] at h ⊢
  cases hc : s.get p <;> simp only [psem, hc, reduceCtorEq] at h
  cases hd : s.get q <;> simp only [hd, reduceCtorEq, Option.some.injEq] at h
  subst h
  rw [hc] at d1
  rw [hd] at d2
  exact ⟨_, by simp [execOp, ho, resolve, invoke, builtin, d1.int, d2.int, run_min_int2]; rfl, by simp [Den], by simp [AV.locs]⟩
theorem good_max (ht : TmRel β s.t a) {x y : Operand} {ts : Array TypeId} (ho : o.op = .call { callee := .builtin .max, args := #[x, y], argTypes := ts }) {ys : List Opd} (hx : trOpds [x, y] = some ys) {r : AV} (h : psem .maxI (s.gets ys) = some r) : PGood P β w a o (s.gets ys) r := by
  obtain ⟨p, q, h1, h2, rfl⟩ := gets2 hx
  have d1 := get_den ht h1
  have d2 := get_den ht h2
  simp only [St.gets] at h ⊢
  cases hc : s.get p <;> simp only [psem, hc, reduceCtorEq] at h
  cases hd : s.get q <;> simp only [hd, reduceCtorEq, Option.some.injEq] at h
  subst h
  rw [hc] at d1
  rw [hd] at d2
  exact ⟨_, by simp [execOp, ho, resolve, invoke, builtin, d1.int, d2.int, run_max_int2]; rfl, by simp [Den], by simp [AV.locs]⟩

/-! build -/
theorem placesS_sound (fs : Array Field) : ∀ (parts : List (Nat × Operand)) (ps : List (Nat × Nat)), placesS P fs parts = some ps →
    ∀ (j i : Nat) (p : Nat × Nat), (parts.map (·.1))[j]? = some i → ps[j]? = some p → ∃ f, fs[i]? = some f ∧ szT P f.type = some p.2 ∧ p.1 = f.offset
  | [], ps, h, j, i, p, hj, _ => by simp at hj
  | (i0, x) :: r, ps, h, j, i, p, hj, hp => by
    simp only [placesS] at h
    cases hf : fs[i0]? with
    | none => simp [hf] at h
    | some f =>
      cases hs : szT P f.type with
      | none => simp [hf, hs] at h
      | some sz =>
        cases hr : placesS P fs r with
        | none => simp [hf, hs, hr] at h
        | some l =>
          simp only [hf, hs, hr, Option.some.injEq] at h
          subst h
          cases j with
          | zero =>
            simp at hj hp
            subst hj hp
            exact ⟨f, hf, hs, rfl⟩
          | succ j => exact placesS_sound fs r l hr j i p (by simpa using hj) (by simpa using hp)

theorem placesA_sound (sz : Nat) : ∀ (parts : List (Nat × Operand)) (j i : Nat) (p : Nat × Nat), (parts.map (·.1))[j]? = some i → (placesA sz parts)[j]? = some p → p = (i * sz, sz)
  | [], j, i, p, hj, _ => by simp at hj
  | (i0, x) :: r, j, i, p, hj, hp => by
    cases j with
    | zero =>
      simp [placesA] at hj hp
      subst hj
      exact hp.symm
    | succ j => exact placesA_sound sz r j i p (by simpa using hj) (by simpa [placesA] using hp)
theorem run_szT {t : TypeId} {n : Nat} (h : szT P t = some n) (w : World) : (sizeOf t).run P w = .ok n w := by
  simp only [szT, Option.map_eq_some_iff] at h
  obtain ⟨i, hi, rfl⟩ := h
  simp [sizeOf, typeInfo, hi]
theorem run_places (w : World) : ∀ (l : List Field), (∀ f ∈ l, ∃ n, szT P f.type = some n) →
    (l.mapM fun f => do pure (f.offset, ← sizeOf f.type) : Sem (List (Nat × Nat))).run P w = .ok (l.map fun f => (f.offset, (szT P f.type).getD 0)) w
  | [], _ => by simp
  | f :: l, h => by
    obtain ⟨n, hn⟩ := h f (by simp)
    have ih := run_places w l (fun g hg => h g (by simp [hg]))
    simp only [List.mapM_cons, Sem.run_bind, run_szT hn, Result.andThen_ok, Sem.run_pure, ih, List.map_cons, hn, Option.getD_some]

theorem good_build_core {t : TypeId} {parts : Array (Nat × Operand)} (ho : o.op = .build t parts) (ht : TmRel β s.t a) {xs : List Opd} (hx : trOpds (parts.toList.map (·.2)) = some xs) {zs : List AV} (hz : zsT P t = some zs)
    {ps : List (Nat × Nat)} {r : AV} (h : psem (.build zs ps) (s.gets xs) = some r) (hpos : ∀ p ∈ ps, 0 < p.2) {place : Nat → Option (Nat × Nat)}
    (hplace : ∀ (j i : Nat) (p : Nat × Nat), (parts.toList.map (·.1))[j]? = some i → ps[j]? = some p → place i = some p)
    (hrun : ∀ (z : Value) (cs : Array Value) (us : List (Nat × Value)), (zeroValue t).run P w = .ok z w → Instr.fill place z.cells us = some cs → (Instr.build t us.toArray).run P w = .ok (.agg cs) w) :
    PGood P β w a o (s.gets xs) r := by
  have d := gets_den ht hx
  simp only [psem, Option.map_eq_some_iff] at h
  obtain ⟨out, hout, rfl⟩ := h
  have hzv : ∃ z, (zeroValue t).run P w = .ok z w ∧ trVs z.cells.toList = some zs := by
    simp only [zsT] at hz
    cases hi : P.info? t with
    | none => simp [hi] at hz
    | some inf =>
      cases hz0 : inf.zero with
      | none => simp [hi, hz0] at hz
      | some z => exact ⟨z, by simp [zeroValue, typeInfo, hi, hz0], by simpa [hi, hz0] using hz⟩
  obtain ⟨z, hz1, hz2⟩ := hzv
  obtain ⟨dz, hzl⟩ := trVs_den (β := β) _ _ hz2
  obtain ⟨outv, hf, hd⟩ := fill_den place ps (parts.toList.map (·.1)) (s.gets xs) ((parts.toList.map (·.2)).map a.eval) zs z.cells.toList out hplace (by simp) hpos d dz hout
  have e : (parts.toList.map (·.1)).zip ((parts.toList.map (·.2)).map a.eval) = parts.toList.map fun p => (p.1, a.eval p.2) := by
    simp [List.zip_map']
  rw [e] at hf
  refine ⟨.agg outv.toArray, ?_, ⟨outv, rfl, hd⟩, fun l hl => ?_⟩
  · have := hrun z outv.toArray _ hz1 (by simpa using hf)
    have e2 : (parts.toList.map fun p => (p.1, a.eval p.2)).toArray = parts.map fun p => (p.1, a.eval p.2) := by simp [← List.map_toArray]
    rw [e2] at this
    simp only [execOp, ho]
    have e3 : (parts.map fun (x : Nat × Operand) => match x with | (i, x) => (i, a.eval x)) = parts.map fun p => (p.1, a.eval p.2) := rfl
    simp only [Sem.run_bind]
    rw [e3, this]
    simp
  · rcases fillA_locs _ _ _ _ hout l (by simpa [AV.locs] using hl) with h1 | h1
    · rw [hzl] at h1; cases h1
    · exact h1

theorem good_buildS {t : TypeId} {parts : Array (Nat × Operand)} (ho : o.op = .build t parts) (ht : TmRel β s.t a) {fs : Array Field} (hT : P.underlying t = some (.struct fs)) {xs : List Opd} (hx : trOpds (parts.toList.map (·.2)) = some xs) {zs : List AV} (hz : zsT P t = some zs)
    (hall : ∀ f ∈ fs.toList, ∃ n, szT P f.type = some n) {ps : List (Nat × Nat)} (hps : placesS P fs parts.toList = some ps) (hpos : ∀ p ∈ ps, 0 < p.2) {r : AV} (h : psem (.build zs ps) (s.gets xs) = some r) : PGood P β w a o (s.gets xs) r := by
  refine good_build_core ho ht hx hz h hpos (place := ((fs.toList.map fun f => (f.offset, (szT P f.type).getD 0)).toArray[·]?)) ?_ ?_
  · intro j i p h1 h2
    obtain ⟨f, hf, hs, he⟩ := placesS_sound fs _ _ hps j i p h1 h2
    have hf' : fs.toList[i]? = some f := by simpa using hf
    simp [hf', hs, he.symm]
  · intro z cs us hz1 hf
    have hm := run_places (P := P) w fs.toList hall
    have hm2 : (fs.mapM fun f => do pure (f.offset, ← sizeOf f.type) : Sem (Array (Nat × Nat))).run P w = .ok (fs.toList.map fun f => (f.offset, (szT P f.type).getD 0)).toArray w := by
      rw [Array.mapM_eq_mapM_toList]
      simp only [Sem.run_map, hm, Result.andThen_ok]
    simp only [Instr.build, Sem.run_bind, hz1, Result.andThen_ok, run_underlying hT, hm2]
    simp only [hf]
    rfl
theorem good_buildA {t : TypeId} {parts : Array (Nat × Operand)} (ho : o.op = .build t parts) (ht : TmRel β s.t a) {n : Nat} {e : TypeId} (hT : P.underlying t = some (.array n e)) {xs : List Opd} (hx : trOpds (parts.toList.map (·.2)) = some xs) {zs : List AV} (hz : zsT P t = some zs)
    {sz : Nat} (hsz : szT P e = some sz) (hpos : 0 < sz) {r : AV} (h : psem (.build zs (placesA sz parts.toList)) (s.gets xs) = some r) : PGood P β w a o (s.gets xs) r := by
  refine good_build_core ho ht hx hz h ?_ (place := fun i => some (i * sz, sz)) ?_ ?_
  · have : ∀ (l : List (Nat × Operand)), ∀ p ∈ placesA sz l, 0 < p.2 := by
      intro l
      induction l with
      | nil => simp [placesA]
      | cons x l ih =>
        obtain ⟨i, x⟩ := x
        intro p hp
        simp only [placesA, List.mem_cons] at hp
        rcases hp with rfl | hp
        · exact hpos
        · exact ih p hp
    exact this _
  · intro j i p h1 h2
    rw [placesA_sound sz _ j i p h1 h2]
  · intro z cs us hz1 hf
    simp only [Instr.build, Sem.run_bind, hz1, Result.andThen_ok, run_underlying hT, run_szT hsz]
    simp only [hf]
    rfl
end
end Go.AX
namespace Go.AX
section
variable {P : Program} {β : Nat → Loc} {w : World} {a : Act} {o : Oper} {s : St} {slot : Nat}

theorem btoList (l : List UInt8) : (⟨l.toArray⟩ : ByteArray).toList = l := by rw [ByteArray.toList_eq]
theorem bapp (x y : List UInt8) : (⟨x.toArray⟩ : ByteArray) ++ ⟨y.toArray⟩ = ⟨(x ++ y).toArray⟩ := by
  apply ByteArray.ext
  simp

theorem run_intBin {op : BinOp} {k : IntKind} {x y : Int} {r : AV} (hns : op ≠ .shl ∧ op ≠ .shr) (h : intBin op k x y = some r) (t : TypeId) : ∃ v, (binOp op t (.int k x) (.int k y)).run P w = .ok v w ∧ Den β r v ∧ r.locs = [] := by
  cases op <;> simp only [intBin, reduceCtorEq, Option.some.injEq] at h <;> first
    | (subst h; exact ⟨_, by simp [binOp, Op.intArith, Op.intCmp, Op.intBits]; rfl, by simp [Den], by simp [AV.locs]⟩)
    | (split at h <;> simp only [reduceCtorEq, Option.some.injEq] at h; subst h; rename_i h0; exact ⟨_, by simp [binOp, Op.intDiv, h0]; rfl, by simp [Den], by simp [AV.locs]⟩)
    | (exact absurd rfl hns.1)
    | (exact absurd rfl hns.2)

theorem run_shiftBin {op : BinOp} {k k' : IntKind} {x y : Int} {r : AV} (hs : op = .shl ∨ op = .shr) (h : shiftBin op k x y = some r) (t : TypeId) : ∃ v, (binOp op t (.int k x) (.int k' y)).run P w = .ok v w ∧ Den β r v ∧ r.locs = [] := by
  simp only [shiftBin] at h
  split at h
  · simp at h
  · rename_i h0
    rcases hs with rfl | rfl <;> simp only [Option.some.injEq] at h <;> subst h
    · exact ⟨_, by simp [binOp, Op.shift, h0]; rfl, by simp [Den], by simp [AV.locs]⟩
    · exact ⟨_, by simp [binOp, Op.shift, h0]; rfl, by simp [Den], by simp [AV.locs]⟩

theorem run_strBin {op : BinOp} {x y : List UInt8} {r : AV} (h : strBin op x y = some r) (t : TypeId) : ∃ v, (binOp op t (.string ⟨x.toArray⟩) (.string ⟨y.toArray⟩)).run P w = .ok v w ∧ Den β r v ∧ r.locs = [] := by
  have hcase : op = .add ∨ (op ≠ .add ∧ op ≠ .shl ∧ op ≠ .shr ∧ op ≠ .sub ∧ op ≠ .mul ∧ op ≠ .quo ∧ op ≠ .rem ∧ op ≠ .and ∧ op ≠ .or ∧ op ≠ .xor ∧ op ≠ .andNot) := by
    cases op <;> first | (left; rfl) | (right; simp; done) | (simp [strBin] at h; done)
  rcases hcase with rfl | hne
  · simp only [strBin] at h
    split at h <;> simp only [reduceCtorEq, Option.some.injEq] at h
    subst h
    rename_i hlen
    refine ⟨.string ⟨(x ++ y).toArray⟩, ?_, by simp [Den], by simp [AV.locs]⟩
    simp only [binOp, Op.stringOp]
    have hs : ¬ ((((⟨x.toArray⟩ : ByteArray).size + (⟨y.toArray⟩ : ByteArray).size : Nat) : Int) > IntKind.i64.max) := by
      rw [bsize, bsize]
      simp [IntKind.max, IntKind.bits]
      omega
    rw [if_neg hs, bapp]
    rfl
  · cases op <;> simp only [strBin, reduceCtorEq, Option.some.injEq] at h <;> first
      | (subst h; exact ⟨_, by simp [binOp, Op.stringOp, btoList]; rfl, by simp [Den], by simp [AV.locs]⟩)
      | (simp at hne; done)

/-! equality of plain structs and arrays -/
theorem Den.lk {x : AV} {v : Value} {k : LK} (h : Den β x v) (hk : x.lk = some k) :
    (∃ b, k = .bool ∧ x = .bool b ∧ v = .bool b) ∨ (∃ i n, k = .int i ∧ x = .int i n ∧ v = .int i n) ∨ (∃ s, k = .str ∧ x = .str s ∧ v = .string ⟨s.toArray⟩) := by
  cases x <;> simp only [AV.lk, reduceCtorEq, Option.some.injEq] at hk
  · exact .inl ⟨_, hk.symm, rfl, h⟩
  · exact .inr (.inl ⟨_, _, hk.symm, rfl, h⟩)
  · exact .inr (.inr ⟨_, hk.symm, rfl, h⟩)

theorem lks_append : ∀ (ls ms : List LK) (xs : List AV), lks xs (ls ++ ms) = true → lks (xs.take ls.length) ls = true ∧ lks (xs.drop ls.length) ms = true
  | [], ms, xs, h => by simpa [lks] using h
  | l :: ls, ms, [], h => by simp [lks] at h
  | l :: ls, ms, x :: xs, h => by
    simp only [List.cons_append, lks, Bool.and_eq_true] at h
    have := lks_append ls ms xs h.2
    simp [lks, h.1, this]
theorem eqL_append : ∀ (n : Nat) (xs ys : List AV), n ≤ xs.length → xs.length = ys.length → eqL xs ys = (eqL (xs.take n) (ys.take n) && eqL (xs.drop n) (ys.drop n))
  | 0, xs, ys, _, _ => by simp [eqL]
  | n + 1, [], ys, h, _ => by simp at h
  | n + 1, x :: xs, [], _, h => by simp at h
  | n + 1, x :: xs, y :: ys, h, h' => by
    simp only [List.take_succ_cons, List.drop_succ_cons, eqL]
    rw [eqL_append n xs ys (by simpa using h) (by simpa using h'), Bool.and_assoc]
theorem lks_length : ∀ {xs : List AV} {ls : List LK}, lks xs ls = true → xs.length = ls.length
  | [], [], _ => rfl
  | [], _ :: _, h => by simp [lks] at h
  | _ :: _, [], h => by simp [lks] at h
  | x :: xs, l :: ls, h => by
    simp only [lks, Bool.and_eq_true] at h
    simp [lks_length h.2]

/-- One plain type's values: compared cell by cell. -/
def EqOk (P : Program) (d : Nat) (t : TypeId) (ls : List LK) : Prop :=
  ∀ (β : Nat → Loc) (w : World) (xs ys : List AV) (us vs : List Value), DenL β xs us → DenL β ys vs → lks xs ls = true → lks ys ls = true →
    ∀ (u v : Value), (match P.underlying t with
      | some (.struct _) | some (.array _ _) => u = .agg us.toArray ∧ v = .agg vs.toArray
      | _ => us = [u] ∧ vs = [v]) → (Op.equalIn d t u v).run P w = .ok (eqL xs ys) w

def isAggD : TypeDesc → Bool
  | .struct _ => true
  | .array _ _ => true
  | _ => false
theorem run_isAggD {t : TypeId} {d : TypeDesc} (hT : P.underlying t = some d) : (isAgg t).run P w = .ok (isAggD d) w := by
  simp [isAgg, run_underlying hT]; cases d <;> rfl
/-- A part of an aggregate, as its own type reads it. -/
theorem part_of {t : TypeId} {d : TypeDesc} (hT : P.underlying t = some d) {n : Nat} (hz : szT P t = some n) (us : List Value) (off : Nat) (hlen : off + n ≤ us.length) (h1 : (∀ fs, d ≠ .struct fs) → (∀ m e, d ≠ .array m e) → n = 1) :
    ∃ u, (Go.part t us.toArray off).run P w = .ok u w ∧ (match P.underlying t with
      | some (.struct _) | some (.array _ _) => u = .agg (((us.drop off).take n).toArray)
      | _ => (us.drop off).take n = [u]) := by
  have hagg := run_isAggD (w := w) hT
  by_cases hc : (∃ fs, d = .struct fs) ∨ (∃ m e, d = .array m e)
  · refine ⟨.agg (((us.drop off).take n).toArray), ?_, ?_⟩
    · have : isAggD d = true := by rcases hc with ⟨fs, rfl⟩ | ⟨m, e, rfl⟩ <;> rfl
      rw [this] at hagg
      simp [Go.part, hagg, run_szT hz, List.extract_toArray, List.extract_eq_take_drop]
    · rcases hc with ⟨fs, rfl⟩ | ⟨m, e, rfl⟩ <;> simp [hT]
  · have hn : n = 1 := h1 (fun fs e => hc (.inl ⟨fs, e⟩)) (fun m e e' => hc (.inr ⟨m, e, e'⟩))
    subst hn
    have hlt : off < us.length := by omega
    refine ⟨us[off], ?_, ?_⟩
    · have : isAggD d = false := by
        cases d <;> first | rfl | exact absurd (.inl ⟨_, rfl⟩) hc | exact absurd (.inr ⟨_, _, rfl⟩) hc
      rw [this] at hagg
      simp [Go.part, hagg, hlt]
    · have e : (us.drop off).take 1 = [us[off]] := by
        rw [List.drop_eq_getElem_cons hlt]
        rfl
      rw [hT]
      cases d <;> first | exact e | exact absurd (.inl ⟨_, rfl⟩) hc | exact absurd (.inr ⟨_, _, rfl⟩) hc

theorem leaves_scalar {d : Nat} {t : TypeId} {ls : List LK} (h : leaves P d t = some ls) {ds : TypeDesc} (hT : P.underlying t = some ds) (h1 : ∀ fs, ds ≠ .struct fs) (h2 : ∀ m e, ds ≠ .array m e) : ls.length = 1 := by
  cases d with
  | zero => simp [leaves] at h
  | succ d =>
    simp only [leaves, hT] at h
    cases ds <;> simp only [reduceCtorEq, Option.some.injEq] at h <;> first
      | (subst h; rfl)
      | exact absurd rfl (h1 _)
      | exact absurd rfl (h2 _ _)

theorem run_eqFields (d' : Nat) (xs ys : List AV) (us vs : List Value) (hx : DenL β xs us) (hy : DenL β ys vs) (leaf : TypeId → Option (List LK)) :
    ∀ (fs : List Field) (acc : List LK) (ls : List LK),
      (∀ f ∈ fs, ∀ l, leaf f.type = some l → EqOk P d' f.type l ∧ (∃ ds, P.underlying f.type = some ds ∧ ((∀ fs, ds ≠ .struct fs) → (∀ m e, ds ≠ .array m e) → l.length = 1))) →
      fs.foldl (fun acc f => match acc with
        | some ls => if f.name ≠ "_" ∧ f.offset = ls.length ∧ szT P f.type = some ((leaf f.type).getD []).length then (leaf f.type).map (ls ++ ·) else none
        | none => none) (some acc) = some ls →
      lks xs ls = true → lks ys ls = true →
      (Op.eqFields d' us.toArray vs.toArray fs).run P w = .ok (eqL (xs.drop acc.length) (ys.drop acc.length)) w
  | [], acc, ls, _, h, h1, h2 => by
    simp only [List.foldl_nil, Option.some.injEq] at h
    subst h
    have e1 := lks_length h1
    have e2 := lks_length h2
    rw [← e1]
    conv => rhs; rw [List.drop_length, e1, ← e2, List.drop_length]
    simp [Op.eqFields, eqL]
  | f :: fs, acc, ls, hall, h, h1, h2 => by
    have stay : ∀ (l : List Field), l.foldl (fun acc f => match acc with
        | some ls => if f.name ≠ "_" ∧ f.offset = ls.length ∧ szT P f.type = some ((leaf f.type).getD []).length then (leaf f.type).map (ls ++ ·) else none
        | none => none) (none : Option (List LK)) = none := by
      intro l; induction l with
      | nil => rfl
      | cons g l ih => simpa [List.foldl_cons] using ih
    have grow : ∀ (l : List Field) (a b : List LK), l.foldl (fun acc f => match acc with
        | some ls => if f.name ≠ "_" ∧ f.offset = ls.length ∧ szT P f.type = some ((leaf f.type).getD []).length then (leaf f.type).map (ls ++ ·) else none
        | none => none) (some a) = some b → ∃ c, b = a ++ c := by
      intro l; induction l with
      | nil => intro a b h; simp at h; exact ⟨[], by simp [h]⟩
      | cons g l ih =>
        intro a b h
        rw [List.foldl_cons] at h
        split at h
        · rename_i a' ha
          split at h
          · cases hl : leaf g.type with
            | none => rw [hl] at h; simp only [Option.map_none] at h; rw [stay] at h; cases h
            | some l' =>
              rw [hl] at h
              simp only [Option.map_some] at h
              simp only [Option.some.injEq] at ha
              subst ha
              obtain ⟨c, hc⟩ := ih _ _ h
              exact ⟨l' ++ c, by simp [hc]⟩
          · rw [stay] at h; cases h
        · rw [stay] at h; cases h
    rw [List.foldl_cons] at h
    simp only at h
    split at h
    · rename_i hc
      obtain ⟨hn, ho, hs⟩ := hc
      cases hl : leaf f.type with
      | none => rw [hl] at h; simp only [Option.map_none] at h; rw [stay] at h; cases h
      | some l =>
        rw [hl] at h hs
        simp only [Option.map_some, Option.getD_some] at h hs
        obtain ⟨hok, ds, hT, hsc⟩ := hall f (by simp) l hl
        obtain ⟨c, hcc⟩ := grow fs _ _ h
        have hx2 := hx
        have lx : xs.length = acc.length + l.length + c.length := by rw [lks_length h1, hcc]; simp [Nat.add_assoc]
        have ly : ys.length = acc.length + l.length + c.length := by rw [lks_length h2, hcc]; simp [Nat.add_assoc]
        have lu : us.length = acc.length + l.length + c.length := by rw [hx.length, lx]
        have lv : vs.length = acc.length + l.length + c.length := by rw [hy.length, ly]
        obtain ⟨u, hu, hu'⟩ := part_of (P := P) (w := w) hT hs us f.offset (by rw [ho, lu]; omega) hsc
        obtain ⟨v, hv, hv'⟩ := part_of (P := P) (w := w) hT hs vs f.offset (by rw [ho, lv]; omega) hsc
        have k1 : lks ((xs.drop f.offset).take l.length) l = true := by
          rw [hcc, List.append_assoc] at h1
          rw [ho]
          exact (lks_append l c _ (lks_append acc (l ++ c) xs h1).2).1
        have k2 : lks ((ys.drop f.offset).take l.length) l = true := by
          rw [hcc, List.append_assoc] at h2
          rw [ho]
          exact (lks_append l c _ (lks_append acc (l ++ c) ys h2).2).1
        have heq := hok β w _ _ _ _ (DenL_take (DenL_drop hx f.offset) l.length) (DenL_take (DenL_drop hy f.offset) l.length) k1 k2 u v (by
          rw [hT] at hu' hv' ⊢
          cases ds <;> first | exact ⟨hu', hv'⟩)
        have ih := run_eqFields d' xs ys us vs hx hy leaf fs (acc ++ l) ls (fun g hg => hall g (by simp [hg])) h h1 h2
        have hsplit := eqL_append l.length (xs.drop acc.length) (ys.drop acc.length) (by simp; omega) (by simp; omega)
        simp only [List.drop_drop] at hsplit
        simp only [Op.eqFields, hn, ne_eq, not_false_eq_true, if_true, Sem.run_bind, hu, hv, Result.andThen_ok, heq, Sem.run_ite, ih]
        rw [hsplit, List.length_append, ho]
        cases eqL (List.take l.length (List.drop acc.length xs)) (List.take l.length (List.drop acc.length ys)) <;> simp
    · rw [stay] at h; cases h
end
end Go.AX
namespace Go.AX
section
variable {P : Program} {β : Nat → Loc} {w : World} {a : Act} {o : Oper} {s : St} {slot : Nat}

theorem eqL_nil_right : ∀ {xs ys : List AV}, xs.length = ys.length → ys = [] → eqL xs ys = true
  | [], _, _, h => by subst h; rfl
  | x :: xs, _, h, h' => by subst h'; simp at h

theorem leaves_shape {d : Nat} {t : TypeId} {ls : List LK} (h : leaves P d t = some ls) : ∃ ds, P.underlying t = some ds ∧ ((∀ fs, ds ≠ .struct fs) → (∀ m e, ds ≠ .array m e) → ls.length = 1) := by
  cases hT : P.underlying t with
  | none => cases d <;> simp [leaves, hT] at h
  | some ds => exact ⟨ds, rfl, fun h1 h2 => leaves_scalar h hT h1 h2⟩

theorem run_eqItems_leaf {D : Nat} {e : TypeId} {ls : List LK} (hok : EqOk P D e ls) {ds : TypeDesc} (hT : P.underlying e = some ds) (hsc : (∀ fs, ds ≠ .struct fs) → (∀ m e, ds ≠ .array m e) → ls.length = 1) (hz : szT P e = some ls.length) (hc : P.cellsOf e = ls.length)
    (us vs : List Value) : ∀ (n k : Nat) (xs ys : List AV), DenL β xs (us.drop (k * ls.length)) → DenL β ys (vs.drop (k * ls.length)) → lks xs (List.replicate n ls).flatten = true → lks ys (List.replicate n ls).flatten = true →
      (Op.eqItems D e (P.cellsOf e) us.toArray vs.toArray (List.range' k n)).run P w = .ok (eqL xs ys) w
  | 0, k, xs, ys, _, _, h1, h2 => by
    have e1 := lks_length h1
    have e2 := lks_length h2
    simp at e1 e2
    subst e1 e2
    simp [Op.eqItems, eqL]
  | n + 1, k, xs, ys, hx, hy, h1, h2 => by
    rw [List.replicate_succ, List.flatten_cons] at h1 h2
    have a1 := lks_append _ _ _ h1
    have a2 := lks_append _ _ _ h2
    have l1 := lks_length h1
    have l2 := lks_length h2
    rw [List.length_append] at l1 l2
    have lu := hx.length
    have lv := hy.length
    rw [List.length_drop] at lu lv
    obtain ⟨u, hu, hu'⟩ := part_of (P := P) (w := w) hT hz us (k * ls.length) (by
      by_cases h0 : ls.length = 0
      · have := (lks_length a1.1); simp [h0]
      · omega) hsc
    obtain ⟨v, hv, hv'⟩ := part_of (P := P) (w := w) hT hz vs (k * ls.length) (by
      by_cases h0 : ls.length = 0
      · simp [h0]
      · omega) hsc
    have heq := hok β w _ _ _ _ (DenL_take hx ls.length) (DenL_take hy ls.length) a1.1 a2.1 u v (by
      rw [hT] at hu' hv' ⊢
      cases ds <;> first | exact ⟨hu', hv'⟩)
    have hk : ls.length + k * ls.length = (k + 1) * ls.length := by rw [Nat.succ_mul]; omega
    have ih := run_eqItems_leaf hok hT hsc hz hc us vs n (k + 1) (xs.drop ls.length) (ys.drop ls.length)
      (by have := DenL_drop hx ls.length; rw [List.drop_drop] at this; rwa [Nat.add_comm, hk] at this)
      (by have := DenL_drop hy ls.length; rw [List.drop_drop] at this; rwa [Nat.add_comm, hk] at this) a1.2 a2.2
    rw [List.range'_succ]
    simp only [Op.eqItems, Sem.run_bind]
    rw [hc] at ih ⊢
    simp only [hu, hv, Result.andThen_ok, heq]
    rw [eqL_append ls.length xs ys (by omega) (by omega)]
    cases eqL (List.take ls.length xs) (List.take ls.length ys) <;> simp [ih]

theorem leaves_eqOk : ∀ (d : Nat) (t : TypeId) (ls : List LK), leaves P d t = some ls → ∀ D, d ≤ D → EqOk P D t ls
  | 0, t, ls, h, D, _ => by simp [leaves] at h
  | d + 1, t, ls, h, 0, hD => by omega
  | d + 1, t, ls, h, D + 1, hD => by
    intro β w xs ys us vs hx hy h1 h2 u v huv
    simp only [leaves] at h
    cases hT : P.underlying t with
    | none => simp [hT] at h
    | some ds =>
      simp only [hT] at h huv
      have scal : ∀ (k : LK), ls = [k] → us = [u] → vs = [v] → ∃ x y, xs = [x] ∧ ys = [y] ∧ x.lk = some k ∧ y.lk = some k ∧ Den β x u ∧ Den β y v := by
        intro k hk hu hv
        subst hk
        have e1 := lks_length h1
        have e2 := lks_length h2
        obtain ⟨x, rfl⟩ := List.length_eq_one_iff.1 e1
        obtain ⟨y, rfl⟩ := List.length_eq_one_iff.1 e2
        simp only [lks, Bool.and_true, beq_iff_eq] at h1 h2
        subst hu hv
        obtain ⟨u', us', e, hd, _⟩ := hx
        obtain ⟨v', vs', e', hd', _⟩ := hy
        simp only [List.cons.injEq] at e e'
        exact ⟨x, y, rfl, rfl, h1, h2, e.1 ▸ hd, e'.1 ▸ hd'⟩
      cases ds <;> simp only [reduceCtorEq, Option.some.injEq] at h
      case bool =>
        obtain ⟨x, y, rfl, rfl, kx, ky, dx, dy⟩ := scal .bool h.symm huv.1 huv.2
        rcases dx.lk kx with ⟨b, _, rfl, rfl⟩ | ⟨i, n, e, _, _⟩ | ⟨s, e, _, _⟩ <;> first | (cases e; done) | skip
        rcases dy.lk ky with ⟨c, _, rfl, rfl⟩ | ⟨i, n, e, _, _⟩ | ⟨s, e, _, _⟩ <;> first | (cases e; done) | skip
        simp [Op.equalIn, run_underlying hT, eqL, eqA]
      case int k =>
        obtain ⟨x, y, rfl, rfl, kx, ky, dx, dy⟩ := scal (.int k) h.symm huv.1 huv.2
        rcases dx.lk kx with ⟨b, e, _, _⟩ | ⟨i, n, e, rfl, rfl⟩ | ⟨s, e, _, _⟩ <;> first | (cases e; done) | skip
        rcases dy.lk ky with ⟨b, e', _, _⟩ | ⟨j, m, e', rfl, rfl⟩ | ⟨s, e', _, _⟩ <;> first | (cases e'; done) | skip
        cases e; cases e'
        simp [Op.equalIn, run_underlying hT, eqL, eqA]
      case string =>
        obtain ⟨x, y, rfl, rfl, kx, ky, dx, dy⟩ := scal .str h.symm huv.1 huv.2
        rcases dx.lk kx with ⟨b, e, _, _⟩ | ⟨i, n, e, _, _⟩ | ⟨s, _, rfl, rfl⟩ <;> first | (cases e; done) | skip
        rcases dy.lk ky with ⟨c, e, _, _⟩ | ⟨i, n, e, _, _⟩ | ⟨s', _, rfl, rfl⟩ <;> first | (cases e; done) | skip
        rw [run_equalIn_string w D t _ _ hT]
        simp [btoList, eqL, eqA]
      case struct fs =>
        obtain ⟨rfl, rfl⟩ := huv
        split at h
        · simp at h
        · rename_i hp
          have hfo : P.fieldsOf t = fs := by simp [Program.fieldsOf, hT]
          rw [run_equalIn_struct w D t _ _ (by rw [hfo]; exact hT) (by simpa using hp), hfo]
          have := run_eqFields (P := P) (w := w) D xs ys us vs hx hy (leaves P d) fs.toList [] ls (fun f _ l hl => ⟨leaves_eqOk d f.type l hl D (by omega), leaves_shape hl⟩) h h1 h2
          simpa using this
      case array n e =>
        obtain ⟨rfl, rfl⟩ := huv
        cases hl : leaves P d e with
        | none => simp [hl] at h
        | some l =>
          simp only [hl] at h
          split at h
          · rename_i hz
            simp only [Option.some.injEq] at h
            subst h
            obtain ⟨ds, hTe, hsc⟩ := leaves_shape hl
            obtain ⟨inf, hi, hi'⟩ := Option.map_eq_some_iff.1 hz
            have hc : P.cellsOf e = l.length := by simp [Program.cellsOf, hi, hi']
            rw [run_equalIn_array w D us.toArray vs.toArray hT hi, List.range_eq_range']
            exact run_eqItems_leaf (leaves_eqOk d e l hl D (by omega)) hTe hsc hz hc us vs n 0 xs ys (by simpa using hx) (by simpa using hy) h1 h2
          · simp at h

theorem good_bin (ht : TmRel β s.t a) {op : BinOp} {t t' : TypeId} {x y : Operand} (ho : o.op = .binOp op t x y t') {ty : ETy} (hty : etyT P t = some ty) (hif : ty = .iface → isConstO y = true)
    {ys : List Opd} (hx : trOpds [x, y] = some ys) {r : AV} (h : psem (.bin op ty) (s.gets ys) = some r) : PGood P β w a o (s.gets ys) r := by
  obtain ⟨p, q, h1, h2, rfl⟩ := gets2 hx
  have d1 := get_den ht h1
  have d2 := get_den ht h2
  simp only [St.gets, psem] at h ⊢
  have fin : ∀ v, (eqGuard op t x y (a.eval x) (a.eval y)).run P w = .ok () w → (binOp op t (a.eval x) (a.eval y)).run P w = .ok v w → (execOp a.eval o).run P w = .ok (.value v) w := by
    intro v hg hv
    simp [execOp, ho, hg, hv]
  have gi : ∀ {k k' : IntKind} {m n : Int}, (eqGuard op t x y (.int k m) (.int k' n)).run P w = .ok () w := by
    intro k k' m n; cases op <;> simp [eqGuard]
  have gs : ∀ {m n : ByteArray}, (eqGuard op t x y (.string m) (.string n)).run P w = .ok () w := by
    intro m n; cases op <;> simp [eqGuard]
  have gb : ∀ {m n : Bool}, (eqGuard op t x y (.bool m) (.bool n)).run P w = .ok () w := by
    intro m n; cases op <;> simp [eqGuard]
  cases hc : s.get p <;> cases hd : s.get q <;> simp only [pbin, hc, hd, reduceCtorEq] at h <;> rw [hc] at d1 <;> rw [hd] at d2
  case bool.bool b c =>
    have hT : ∀ _ : ty = .bool, P.underlying t = some .bool := by
      intro e
      subst e
      simp only [etyT] at hty
      cases hu : P.underlying t with
      | none => simp [hu] at hty
      | some ds => cases ds <;> simp [hu] at hty <;> first | rfl | (split at hty <;> simp at hty) | skip
    rw [d1.bool, d2.bool] at fin
    split at h <;> simp only [reduceCtorEq, Option.some.injEq] at h <;> subst h
    · exact ⟨_, fin _ gb (run_eql_bool w t b c (hT rfl)), by simp [Den], by simp [AV.locs]⟩
    · exact ⟨_, fin _ gb (run_neq_bool w t b c (hT rfl)), by simp [Den], by simp [AV.locs]⟩
  case int.int k m k' n =>
    rw [d1.int, d2.int] at fin
    split at h
    · obtain ⟨v, hv, hd, hl⟩ := run_shiftBin (P := P) (β := β) (w := w) (k' := k') (.inl rfl) h t
      exact ⟨v, fin v gi hv, hd, by simp [hl]⟩
    · obtain ⟨v, hv, hd, hl⟩ := run_shiftBin (P := P) (β := β) (w := w) (k' := k') (.inr rfl) h t
      exact ⟨v, fin v gi hv, hd, by simp [hl]⟩
    · rename_i n1 n2
      split at h
      · rename_i hk
        subst hk
        obtain ⟨v, hv, hd, hl⟩ := run_intBin (P := P) (β := β) (w := w) ⟨n1, n2⟩ h t
        exact ⟨v, fin v gi hv, hd, by simp [hl]⟩
      · simp at h
  case str.str m n =>
    rw [d1.str, d2.str] at fin
    obtain ⟨v, hv, hd, hl⟩ := run_strBin (P := P) (β := β) (w := w) h t
    exact ⟨v, fin v gs hv, hd, by simp [hl]⟩
  case iface.niliface tt vv =>
    have hT : ∀ _ : ty = .iface, P.underlying t = some (.interface (P.methodsAt t)) := by
      intro e
      subst e
      simp only [etyT] at hty
      cases hu : P.underlying t with
      | none => simp [hu] at hty
      | some ds => cases ds <;> simp [hu] at hty <;> first | (simp [Program.methodsAt, hu]) | (split at hty <;> simp at hty) | skip
    obtain ⟨z, ez, _⟩ := d1
    have e2 : a.eval y = .nilIface := d2
    rw [ez, e2] at fin
    have g : (eqGuard op t x y (.iface tt z) .nilIface).run P w = .ok () w := by cases op <;> simp [eqGuard]
    split at h <;> simp only [reduceCtorEq, Option.some.injEq] at h <;> subst h
    · exact ⟨_, fin _ g (run_eql_held_nil w t tt z (hT rfl)), by simp [Den], by simp [AV.locs]⟩
    · exact ⟨_, fin _ g (run_neq_held_nil w t tt z (hT rfl)), by simp [Den], by simp [AV.locs]⟩
  case niliface.niliface =>
    have hT : ∀ _ : ty = .iface, P.underlying t = some (.interface (P.methodsAt t)) := by
      intro e
      subst e
      simp only [etyT] at hty
      cases hu : P.underlying t with
      | none => simp [hu] at hty
      | some ds => cases ds <;> simp [hu] at hty <;> first | (simp [Program.methodsAt, hu]) | (split at hty <;> simp at hty) | skip
    have e1 : a.eval x = .nilIface := d1
    have e2 : a.eval y = .nilIface := d2
    rw [e1, e2] at fin
    split at h <;> simp only [reduceCtorEq, Option.some.injEq] at h <;> subst h
    · have hcst := hif rfl
      have g : (eqGuard .eql t x y .nilIface .nilIface).run P w = .ok () w := by
        cases y <;> simp [isConstO] at hcst; simp [eqGuard]
      exact ⟨_, fin _ g (run_eql_nil_nil w t (hT rfl)), by simp [Den], by simp [AV.locs]⟩
    · have hcst := hif rfl
      have g : (eqGuard .neq t x y .nilIface .nilIface).run P w = .ok () w := by
        cases y <;> simp [isConstO] at hcst; simp [eqGuard]
      exact ⟨_, fin _ g (run_neq_nil_nil w t (hT rfl)), by simp [Den], by simp [AV.locs]⟩
  case agg.agg xs zs =>
    obtain ⟨us, eu, du⟩ := d1
    obtain ⟨vs, ev, dv⟩ := d2
    rw [eu, ev] at fin
    have hT : ∀ ls, ty = .agg ls → leaves P 8 t = some ls ∧ P.eqGuardType P.depth t = false ∧ ∃ ds, P.underlying t = some ds ∧ isAggD ds = true := by
      intro ls e
      subst e
      simp only [etyT] at hty
      cases hu : P.underlying t with
      | none => simp [hu] at hty
      | some ds =>
        cases ds <;> simp [hu] at hty
        all_goals exact ⟨hty.2, hty.1, _, rfl, rfl⟩
    have run : ∀ ls, ty = .agg ls → lks xs ls = true → lks zs ls = true → (Op.equalIn 10000 t (.agg us.toArray) (.agg vs.toArray)).run P w = .ok (eqL xs zs) w := by
      intro ls e k1 k2
      obtain ⟨hl, _, ds, hu, hds⟩ := hT ls e
      refine leaves_eqOk 8 t ls hl 10000 (by omega) β w xs zs us vs du dv k1 k2 _ _ ?_
      rw [hu]
      cases ds <;> simp [isAggD] at hds
      all_goals exact ⟨rfl, rfl⟩
    split at h <;> try (simp at h; done)
    all_goals
      split at h <;> simp only [reduceCtorEq, Option.some.injEq] at h
      subst h
      rename_i ls hk
      simp only [Bool.and_eq_true] at hk
      have hr := run ls rfl hk.1 hk.2
      have hg := run_eqGuard_agg (P := P) w
    · exact ⟨_, fin _ (hg _ _ _ _ _ _ (hT ls rfl).2.1) (by rw [run_eql_struct, hr]; rfl), by simp [Den], by simp [AV.locs]⟩
    · exact ⟨_, fin _ (hg _ _ _ _ _ _ (hT ls rfl).2.1) (by rw [run_neq_struct, hr]; rfl), by simp [Den], by simp [AV.locs]⟩
end
end Go.AX
namespace Go.AX
section
variable {P : Program} {β : Nat → Loc} {w : World} {a : Act} {o : Oper} {s : St} {slot : Nat}

theorem psound (ht : TmRel β s.t a) {op : POp} {xs : List Opd} {k : Nat} (h : trOp P slot o = some (.p op xs, k)) {r : AV} (hr : psem op (s.gets xs) = some r) : PGood P β w a o (s.gets xs) r := by
  unfold trOp at h
  cases ho : o.op <;> simp only [ho, reduceCtorEq] at h
  case move x =>
    simp only [Option.map_eq_some_iff, Prod.mk.injEq, Opn.p.injEq] at h
    obtain ⟨ys, hy, ⟨rfl, rfl⟩, _⟩ := h
    obtain ⟨y, h1, rfl⟩ := gets1 hy
    simp only [St.gets, psem, Option.some.injEq] at hr
    subst hr
    exact good_mv ht h1 (by simp [execOp, ho])
  case assign x =>
    simp only [Option.map_eq_some_iff, Prod.mk.injEq, Opn.p.injEq] at h
    obtain ⟨ys, hy, ⟨rfl, rfl⟩, _⟩ := h
    obtain ⟨y, h1, rfl⟩ := gets1 hy
    simp only [St.gets, psem, Option.some.injEq] at hr
    subst hr
    exact good_mv ht h1 (by simp [execOp, ho])
  case pick c x y =>
    simp only [Option.map_eq_some_iff, Prod.mk.injEq, Opn.p.injEq] at h
    obtain ⟨ys, hy, ⟨rfl, rfl⟩, _⟩ := h
    exact good_pick ht ho hy hr
  case alloc e => simp at h
  case box e x => simp at h
  case build t parts =>
    split at h
    · rename_i zs fs ys e1 e2 e3
      split at h
      · rename_i ps hps
        split at h
        · rename_i hc
          simp only [Option.some.injEq, Prod.mk.injEq, Opn.p.injEq] at h
          obtain ⟨⟨rfl, rfl⟩, _⟩ := h
          simp only [Bool.and_eq_true, List.all_eq_true, Option.isSome_iff_exists, decide_eq_true_eq] at hc
          exact good_buildS ho ht e2 e3 e1 hc.1 hps hc.2 hr
        · simp at h
      · simp at h
    · rename_i zs n e ys e1 e2 e3
      split at h
      · rename_i sz hsz
        split at h
        · rename_i hc
          simp only [Option.some.injEq, Prod.mk.injEq, Opn.p.injEq] at h
          obtain ⟨⟨rfl, rfl⟩, _⟩ := h
          exact good_buildA ho ht e2 e3 e1 hsz hc hr
        · simp at h
      · simp at h
    · simp at h
  case buildSlice t len parts =>
    split at h <;> try (simp at h; done)
    split at h <;> try (simp at h; done)

  case makeSlice t x y =>
    split at h <;> try (simp at h; done)
    split at h <;> try (simp at h; done)
  case load t x => split at h <;> simp at h
  case store t x y =>
    split at h
    · split at h <;> simp at h
    · simp at h
  case nilCheck x =>
    simp only [Option.map_eq_some_iff, Prod.mk.injEq, Opn.p.injEq] at h
    obtain ⟨ys, hy, ⟨rfl, rfl⟩, _⟩ := h
    exact good_nilCheck ht ho hy hr
  case binOp op' t x y t' =>
    split at h
    · rename_i ys e1 e2
      split at h
      · rename_i hc
        simp only [Option.some.injEq, Prod.mk.injEq, Opn.p.injEq] at h
        obtain ⟨⟨rfl, rfl⟩, _⟩ := h
        exact good_bin ht ho e1 (fun _ => hc) e2 hr
      · simp at h
    · rename_i ty ys hne e1 e2
      simp only [Option.some.injEq, Prod.mk.injEq, Opn.p.injEq] at h
      obtain ⟨⟨rfl, rfl⟩, _⟩ := h
      exact good_bin ht ho e1 (fun e => (hne e).elim) e2 hr
    · simp at h
  case unOp u t x =>
    cases u <;> simp only [Option.map_eq_some_iff, Prod.mk.injEq, Opn.p.injEq, reduceCtorEq] at h
    · obtain ⟨ys, hy, ⟨rfl, rfl⟩, _⟩ := h
      exact good_neg ht ho hy hr
    · obtain ⟨ys, hy, ⟨rfl, rfl⟩, _⟩ := h
      exact good_not ht ho hy hr
  case convert t u x =>
    split at h
    · rename_i j k' ys e1 e2 e3
      simp only [Option.some.injEq, Prod.mk.injEq, Opn.p.injEq] at h
      obtain ⟨⟨rfl, rfl⟩, _⟩ := h
      exact good_convInt ht ho e1 e2 e3 hr
    · rename_i ys e1 e2 e3
      simp only [Option.some.injEq, Prod.mk.injEq, Opn.p.injEq] at h
      obtain ⟨⟨rfl, rfl⟩, _⟩ := h
      exact good_convStr ht ho e1 e2 e3 hr
    · split at h <;> simp at h
    · split at h <;> simp at h
    · simp at h
  case makeInterface t x =>
    split at h
    · simp at h
    · rename_i d ys hne e1 e2
      simp only [Option.some.injEq, Prod.mk.injEq, Opn.p.injEq] at h
      obtain ⟨⟨rfl, rfl⟩, _⟩ := h
      exact good_iface ht ho e1 (fun ms e => hne ms e) e2 hr
    · simp at h
  case makeFunc fn first cap =>
    cases fn <;> simp only [Option.map_eq_some_iff, Prod.mk.injEq, Opn.p.injEq, reduceCtorEq] at h
    obtain ⟨ys, hy, ⟨rfl, rfl⟩, _⟩ := h
    exact good_mkfn ht ho hy hr
  case fieldAddr t x f =>
    split at h
    · rename_i fs ys e1 e2
      split at h
      · rename_i fd hf
        split at h
        · rename_i sz hsz
          split at h
          · rename_i h0
            simp only [Option.some.injEq, Prod.mk.injEq, Opn.p.injEq] at h
            obtain ⟨⟨rfl, rfl⟩, _⟩ := h
            exact good_fieldAddr ht ho e1 hf hsz h0 e2 hr
          · simp at h
        · simp at h
      · simp at h
    · simp at h
  case indexAddr t x i =>
    split at h
    · rename_i n e ys e1 e2
      simp only [Option.map_eq_some_iff, Prod.mk.injEq, Opn.p.injEq] at h
      obtain ⟨sz, hsz, ⟨rfl, rfl⟩, _⟩ := h
      exact good_indexArr ht ho e1 hsz e2 hr
    · rename_i e ys e1 e2
      simp only [Option.map_eq_some_iff, Prod.mk.injEq, Opn.p.injEq] at h
      obtain ⟨sz, hsz, ⟨rfl, rfl⟩, _⟩ := h
      exact good_indexSl ht ho e1 hsz e2 hr
    · simp at h
  case index t x i =>
    split at h
    · rename_i n e ys e1 e2
      split at h
      · rename_i sz ag hsz hag
        simp only [Option.some.injEq, Prod.mk.injEq, Opn.p.injEq] at h
        obtain ⟨⟨rfl, rfl⟩, _⟩ := h
        exact good_indexAgg ht ho e1 hsz hag e2 hr
      · simp at h
    · rename_i ys e1 e2
      simp only [Option.some.injEq, Prod.mk.injEq, Opn.p.injEq] at h
      obtain ⟨⟨rfl, rfl⟩, _⟩ := h
      exact good_indexStr ht ho e1 e2 hr
    · simp at h
  case slice t x lo hi mx =>
    split at h
    · rename_i ys e1 e2
      split at h
      · rename_i hm
        simp only [Option.some.injEq, Prod.mk.injEq, Opn.p.injEq] at h
        obtain ⟨⟨rfl, rfl⟩, _⟩ := h
        simp only [Option.isNone_iff_eq_none] at hm
        subst hm
        exact good_sliceStr ht ho e1 e2 hr
      · simp at h
    · rename_i e ys e1 e2
      split at h
      · rename_i hm
        simp only [Option.map_eq_some_iff, Prod.mk.injEq, Opn.p.injEq] at h
        obtain ⟨sz, hsz, ⟨rfl, rfl⟩, _⟩ := h
        simp only [Option.isNone_iff_eq_none] at hm
        subst hm
        exact good_sliceSl ht ho e1 hsz e2 hr
      · simp at h
    · rename_i n e ys e1 e2
      split at h
      · rename_i hm
        simp only [Option.map_eq_some_iff, Prod.mk.injEq, Opn.p.injEq] at h
        obtain ⟨sz, hsz, ⟨rfl, rfl⟩, _⟩ := h
        simp only [Option.isNone_iff_eq_none] at hm
        subst hm
        exact good_sliceArr ht ho e1 hsz e2 hr
      · simp at h
    · simp at h
  case extract x i =>
    simp only [Option.map_eq_some_iff, Prod.mk.injEq, Opn.p.injEq] at h
    obtain ⟨ys, hy, ⟨rfl, rfl⟩, _⟩ := h
    exact good_extract ht ho hy hr
  case call c =>
    obtain ⟨callee, args, ts⟩ := c
    split at h
    · rename_i hcal
      simp only at hcal
      subst hcal
      split at h
      · rename_i x t ea et
        have ea' : args = #[x] := Array.toList_inj.1 (by simpa using ea)
        have et' : ts = #[t] := Array.toList_inj.1 (by simpa using et)
        subst ea' et'
        split at h
        · rename_i ys e1 e2
          simp only [Option.some.injEq, Prod.mk.injEq, Opn.p.injEq] at h
          obtain ⟨⟨rfl, rfl⟩, _⟩ := h
          exact good_lenStr ht ho e1 e2 hr
        · rename_i e ys e1 e2
          simp only [Option.some.injEq, Prod.mk.injEq, Opn.p.injEq] at h
          obtain ⟨⟨rfl, rfl⟩, _⟩ := h
          exact good_lenSl ht ho e1 e2 hr
        · rename_i n e ys e1 e2
          simp only [Option.some.injEq, Prod.mk.injEq, Opn.p.injEq] at h
          obtain ⟨⟨rfl, rfl⟩, _⟩ := h
          exact good_lenArr ho e1 e2 hr
        · simp at h
      · simp at h
    · split at h <;> try (simp at h; done)
      split at h <;> try (simp at h; done)
      split at h <;> try (simp at h; done)

    · rename_i hcal
      simp only at hcal
      subst hcal
      split at h
      · rename_i x y ea
        have ea' : args = #[x, y] := Array.toList_inj.1 (by simpa using ea)
        subst ea'
        simp only [Option.map_eq_some_iff, Prod.mk.injEq, Opn.p.injEq] at h
        obtain ⟨ys, hy, ⟨rfl, rfl⟩, _⟩ := h
        exact good_min ht ho hy hr
      · simp at h
    · rename_i hcal
      simp only at hcal
      subst hcal
      split at h
      · rename_i x y ea
        have ea' : args = #[x, y] := Array.toList_inj.1 (by simpa using ea)
        subst ea'
        simp only [Option.map_eq_some_iff, Prod.mk.injEq, Opn.p.injEq] at h
        obtain ⟨ys, hy, ⟨rfl, rfl⟩, _⟩ := h
        exact good_max ht ho hy hr
      · simp at h
    · split at h <;> simp at h
    · simp at h
end
end Go.AX
