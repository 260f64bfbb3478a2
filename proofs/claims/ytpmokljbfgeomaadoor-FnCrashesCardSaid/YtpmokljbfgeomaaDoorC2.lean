/- What is proved here: what some functions of the program and of the reference return; the conditions are the bounds written in each theorem. -/
import Derived.Test.YtpmokljbfgeomaaDoorTe
import Derived.Test.YtpmokljbfgeomaaDoorAx4
import Derived.Test.YtpmokljbfgeomaaDoorC1
import Derived.Test.YtpmokljbfgeomaaDoorAx3
set_option linter.unusedSimpArgs false
set_option linter.unusedVariables false
namespace Go.Proofs.T
open Go Go.AX Go.Proofs
/-! Numbers in a row of memory. -/
def ints (l : List Int) : List AV := l.map (AV.int .i64)
theorem ints_nil : ints [] = [] := rfl
theorem ints_cons {x : Int} {l : List Int} : ints (x :: l) = .int .i64 x :: ints l := rfl
theorem ints_length {l : List Int} : (ints l).length = l.length := by simp [ints]
theorem ints_append {l k : List Int} : ints l ++ ints k = ints (l ++ k) := by simp [ints]
theorem ints_take {l : List Int} {n : Nat} : (ints l).take n = ints (l.take n) := by simp [ints, List.map_take]
theorem ints_drop {l : List Int} {n : Nat} : (ints l).drop n = ints (l.drop n) := by simp [ints, List.map_drop]
theorem ints_locs : ∀ {l : List Int}, AV.locsL (ints l) = []
  | [] => rfl
  | x :: l => by rw [ints_cons]; simp only [AV.locsL, AV.locs, ints_locs, List.nil_append]
theorem ints_one : ∀ {l : List Int}, (ints l).all AV.one = true
  | [] => rfl
  | x :: l => by rw [ints_cons]; simp only [List.all_cons, AV.one, ints_one, Bool.and_self]
theorem ints_rn {π : Nat → Nat} {l : List Int} : AV.rnL π (ints l) = ints l := rnL_plain _ ints_locs
theorem ints_get {l : List Int} {j : Nat} (h : j < l.length := by first | omega | (simp only [List.length_take, List.length_drop, List.length_append, List.length_cons, List.length_nil]; omega)) : (ints l)[j]? = some (.int .i64 (l.getD j 0)) := by
  simp [ints, List.getD_eq_getElem?_getD, h]
theorem ints_end {l : List Int} {x : Int} : ints l ++ [.int .i64 x] = ints (l ++ [x]) := by simp [ints]
theorem ints_set {l : List Int} {j : Nat} {x : Int} (h : j < l.length := by omega) : ints (l.take j) ++ .int .i64 x :: ints (l.drop (j + 1)) = ints (l.set j x) := by
  rw [List.set_eq_take_append_cons_drop, if_pos h]; simp [ints]
theorem ints_lks : ∀ {l : List Int} {ls : List LK}, ls = List.replicate l.length (.int .i64) → lks (ints l) ls = true
  | [], ls, h => by subst h; rfl
  | x :: l, ls, h => by
    subst h
    rw [ints_cons, List.length_cons, List.replicate_succ]
    have := ints_lks (l := l) rfl
    simp [lks, AV.lk, this]
theorem ints_eqL : ∀ {l k : List Int}, l.length = k.length → eqL (ints l) (ints k) = decide (l = k)
  | [], [], _ => by simp [ints, eqL]
  | x :: l, y :: k, h => by
    have := ints_eqL (l := l) (k := k) (by simpa using h)
    simp only [ints_cons, eqL, eqA, this, List.cons.injEq]
    by_cases e : x = y
    · simp [e]
    · simp [e]
  | [], y :: k, h => by simp at h
  | x :: l, [], h => by simp at h
attribute [go_sem] ints_nil ints_length ints_append ints_take ints_drop ints_locs ints_one ints_rn ints_end
/-- A tile or an empty cell. -/
def okT (x : Int) : Bool := decide (0 ≤ x) && decide (x ≤ 17)
def okR (l : List Int) : Bool := l.all okT
theorem c96 (x : Int) : W Γ 96 [.int .i64 x] [] = some (.bool (!okT x), []) := by
  rw [W_code (fd := d96) rfl]
  unfold okT
  repeat (first | simp only [go_sem, seval, reduceCtorEq, d96, c58]| rw [wN] | rw [wU] | rw [wA] | rw [mA] | rw [mB] | rw [mC] | rw [cA] | rw [sY] | rw [sN] | rw [gY] | rw [gN] | rw [aY] | rw [aN] | rw [pY] | rw [pN] | rw [oY] | rw [oN] | rw [nY] | rw [nN] )
/-- Where the first cell stands that is none. -/
def badAt : List Int → Nat → Int
  | [], _ => -1
  | x :: l, i => if okT x = true then badAt l (i + 1) else i
theorem loop102 (l : List Int) (hl : l.length ≤ 1000) : ∀ (k i : Nat), i + k = l.length →
    outOf 1 0 [] (rnd (W Γ) 1 l102_0 [0, 1, 7, 8] b102_0 (some ([.sl 0 0 l.length, .fn 96 [] [], .int .i64 l.length, .int .i64 i], [.live ⟨.box, true, ints l⟩]))) =
      if okR (l.drop i) = true then some (.norm, ⟨[], [.live ⟨.box, true, ints l⟩]⟩) else some (.ret, ⟨[(4, .int .i64 (badAt (l.drop i) i))], [.live ⟨.box, true, ints l⟩]⟩) := by
  intro k
  induction k with
  | zero =>
    intro i hi
    obtain rfl : i = l.length := by omega
    rw [rnd_some, List.drop_length, if_pos (by simp [okR])]
    repeat (first | simp only [go_sem, seval, reduceCtorEq, b102_0]| rw [wN] | rw [wU] | rw [wA] | rw [mA] | rw [mB] | rw [mC] | rw [cA] | rw [sY] | rw [sN] | rw [gY] | rw [gN] | rw [aY] | rw [aN] | rw [pY] | rw [pN] | rw [oY] | rw [oN] | rw [nY] | rw [nN] )
  | succ k ih =>
    intro i hi
    have hlt : i < l.length := by omega
    have hn := ih (i + 1) (by omega)
    have hd : l.drop i = l.getD i 0 :: l.drop (i + 1) := by rw [List.drop_eq_getElem_cons hlt, List.getD_eq_getElem?_getD, List.getElem?_eq_getElem hlt]; rfl
    have hg := ints_get (l := l) (j := i) hlt
    rw [rnd_some, hd]
    unfold b102_0
    cases h : okT (l.getD i 0)
    · rw [if_neg (by simp only [okR, List.all_cons, h, Bool.false_and]; simp)]
      repeat (first | simp only [go_sem, seval, reduceCtorEq, x102_0, hg, c96, h, badAt]| rw [wN] | rw [wU] | rw [wA] | rw [mA] | rw [mB] | rw [mC] | rw [cA] | rw [sY] | rw [sN] | rw [gY] | rw [gN] | rw [aY] | rw [aN] | rw [pY] | rw [pN] | rw [oY] | rw [oN] | rw [nY] | rw [nN] )
    · have e : okR (l.getD i 0 :: l.drop (i + 1)) = okR (l.drop (i + 1)) := by simp only [okR, List.all_cons, h, Bool.true_and]
      rw [e]
      simp only [badAt, h, if_true]
      repeat (first | simp only [go_sem, seval, reduceCtorEq, x102_0, hg, c96, h, hn]| rw [wN] | rw [wU] | rw [wA] | rw [mA] | rw [mB] | rw [mC] | rw [cA] | rw [sY] | rw [sN] | rw [gY] | rw [gN] | rw [aY] | rw [aN] | rw [pY] | rw [pN] | rw [oY] | rw [oN] | rw [nY] | rw [nN] )
theorem badAt_ge : ∀ (l : List Int) (i : Nat), okR l = false → 0 ≤ badAt l i
  | [], i, h => by simp [okR] at h
  | x :: l, i, h => by
    unfold badAt
    split
    · rename_i hx
      exact badAt_ge l (i + 1) (by simpa only [okR, List.all_cons, hx, Bool.true_and] using h)
    · omega
theorem c95 (l : List Int) (hl : l.length ≤ 1000) : W Γ 95 [.sl 0 0 l.length, .fn 96 [] []] [.live ⟨.box, true, ints l⟩] = some (.bool (!okR l), [.live ⟨.box, true, ints l⟩]) := by
  rw [W_code (fd := d95) rfl]
  have k : W Γ 102 [.sl 0 0 l.length, .fn 96 [] []] [.live ⟨.box, true, ints l⟩] = some (.int .i64 (if okR l = true then -1 else badAt l 0), [.live ⟨.box, true, ints l⟩]) := by
    rw [W_code (fd := d102) rfl]
    have := loop102 l hl l.length 0 (by omega)
    simp only [List.drop_zero, Int.cast_ofNat_Int] at this
    cases h : okR l
    · rw [h, if_neg (by simp)] at this
      repeat (first | simp only [go_sem, seval, reduceCtorEq, d102, x102_0, this]| rw [wN] | rw [wU] | rw [wA] | rw [mA] | rw [mB] | rw [mC] | rw [cA] | rw [sY] | rw [sN] | rw [gY] | rw [gN] | rw [aY] | rw [aN] | rw [pY] | rw [pN] | rw [oY] | rw [oN] | rw [nY] | rw [nN] )
    · rw [h, if_pos rfl] at this
      repeat (first | simp only [go_sem, seval, reduceCtorEq, d102, x102_0, this]| rw [wN] | rw [wU] | rw [wA] | rw [mA] | rw [mB] | rw [mC] | rw [cA] | rw [sY] | rw [sN] | rw [gY] | rw [gN] | rw [aY] | rw [aN] | rw [pY] | rw [pN] | rw [oY] | rw [oN] | rw [nY] | rw [nN] )
  cases h : okR l
  · have := badAt_ge l 0 h
    rw [h, if_neg (by simp)] at k
    repeat (first | simp only [go_sem, seval, reduceCtorEq, d95, k]| rw [wN] | rw [wU] | rw [wA] | rw [mA] | rw [mB] | rw [mC] | rw [cA] | rw [sY] | rw [sN] | rw [gY] | rw [gN] | rw [aY] | rw [aN] | rw [pY] | rw [pN] | rw [oY] | rw [oN] | rw [nY] | rw [nN] )
    rw [decide_eq_true this]
  · rw [h, if_pos rfl] at k
    repeat (first | simp only [go_sem, seval, reduceCtorEq, d95, k]| rw [wN] | rw [wU] | rw [wA] | rw [mA] | rw [mB] | rw [mC] | rw [cA] | rw [sY] | rw [sN] | rw [gY] | rw [gN] | rw [aY] | rw [aN] | rw [pY] | rw [pN] | rw [oY] | rw [oN] | rw [nY] | rw [nN] )
theorem c89 (l : List Int) (hl : l.length = 4) : W Γ 89 [.agg (ints l)] [] = some (.bool (okR l), []) := by
  rw [W_code (fd := d89) rfl]
  have k := c95 l (by omega)
  rw [hl] at k
  repeat (first | simp only [go_sem, seval, reduceCtorEq, d89, k, hl]| rw [wN] | rw [wU] | rw [wA] | rw [mA] | rw [mB] | rw [mC] | rw [cA] | rw [sY] | rw [sN] | rw [gY] | rw [gN] | rw [aY] | rw [aN] | rw [pY] | rw [pN] | rw [oY] | rw [oN] | rw [nY] | rw [nN] | rw [boxed_len (by rw [ints_length]; omega)] )
end Go.Proofs.T
namespace Go.Proofs.T
open Go Go.AX Go.Proofs
/-- The cursor beside a slice that goes with it. -/
def curL (c : CV) (a : Nat) (sd : Int) (B : Sl) : Store := match c with
  | .nil => [.live ⟨.box, true, [.nilsl, .int .i64 a, .int .u64 sd]⟩, B]
  | .sl s => [.live ⟨.box, false, [.sl 2 0 s.length, .int .i64 a, .int .u64 sd]⟩, B, .live ⟨.ro, true, u8s s⟩]
  | .row s => [.live ⟨.box, false, [.row 2 s.length, .int .i64 a, .int .u64 sd]⟩, B, .live ⟨.row 5 1, true, u8s s⟩]
theorem strs_get {l : List (List UInt8)} {j : Nat} (h : j < l.length) : (strs l)[j]? = some (.str (l.getD j [])) := by
  induction l generalizing j with
  | nil => simp at h
  | cons x l ih => cases j with
    | zero => rfl
    | succ j => simpa [strs] using ih (by simpa using h)
theorem c63 (c : CV) (a : Nat) (sd : Int) (n : Int) (ha : a ≤ 900000) (hc : c.len ≤ 1000000) (hn : n ≤ 1000000) :
    ∃ b : Bool, ∃ a' : Nat, ∃ sd' : Int, W Γ 63 [.ptr 0 0, .int .i64 n] (cur c a sd) = some (.bool b, cur c a' sd') ∧ a' ≤ a + 2 := by
  rw [W_code (fd := d63) rfl]
  obtain ⟨x, a', sd', e, b1, _, _⟩ := c64 c a sd n ha hc hn
  refine ⟨decide (x = 0), a', sd', ?_, b1⟩
  cases c <;> simp only [cur] at e ⊢ <;> repeat (first | simp only [go_sem, seval, reduceCtorEq, d63, e]| rw [wN] | rw [wU] | rw [wA] | rw [mA] | rw [mB] | rw [mC] | rw [cA] | rw [sY] | rw [sN] | rw [gY] | rw [gN] | rw [aY] | rw [aN] | rw [pY] | rw [pN] | rw [oY] | rw [oN] | rw [nY] | rw [nN] )
theorem c79 (c : CV) (a : Nat) (sd : Int) (l : List (List UInt8)) (ha : a ≤ 900000) (hc : c.len ≤ 1000000) (hl : 0 < l.length) (hl2 : l.length ≤ 1000) :
    ∃ x a' : Nat, ∃ sd' : Int, W Γ 79 [.ptr 0 0, .row 1 l.length] (curL c a sd (.live ⟨.row 9 1, true, strs l⟩)) = some (.str (l.getD x []), curL c a' sd' (.live ⟨.row 9 1, true, strs l⟩)) ∧ a' ≤ a + 2 ∧ x < l.length := by
  rw [W_code (fd := d79) rfl]
  obtain ⟨x, a', sd', e, b1, b2, b3⟩ := c64 c a sd l.length ha hc (by omega)
  have hx : x < l.length := by by_cases h : 1 < l.length <;> omega
  have hg := strs_get hx
  refine ⟨x, a', sd', ?_, b1, hx⟩
  cases c <;> simp only [cur] at e <;> simp only [curL] <;> repeat (first | simp only [go_sem, seval, reduceCtorEq, d79, e, hg]| rw [wN] | rw [wU] | rw [wA] | rw [mA] | rw [mB] | rw [mC] | rw [cA] | rw [sY] | rw [sN] | rw [gY] | rw [gN] | rw [aY] | rw [aN] | rw [pY] | rw [pN] | rw [oY] | rw [oN] | rw [nY] | rw [nN] )
theorem c57 (c : CV) (a : Nat) (sd : Int) (l : List Int) (ha : a ≤ 900000) (hc : c.len ≤ 1000000) (hl : 0 < l.length) (hl2 : l.length ≤ 1000) :
    ∃ x a' : Nat, ∃ sd' : Int, W Γ 57 [.ptr 0 0, .row 1 l.length] (curL c a sd (.live ⟨.row 3 1, true, ints l⟩)) = some (.int .i64 (l.getD x 0), curL c a' sd' (.live ⟨.row 3 1, true, ints l⟩)) ∧ a' ≤ a + 2 ∧ x < l.length := by
  rw [W_code (fd := d57) rfl]
  obtain ⟨x, a', sd', e, b1, b2, b3⟩ := c64 c a sd l.length ha hc (by omega)
  have hx : x < l.length := by by_cases h : 1 < l.length <;> omega
  have hg := ints_get (l := l) hx
  refine ⟨x, a', sd', ?_, b1, hx⟩
  cases c <;> simp only [cur] at e <;> simp only [curL] <;> repeat (first | simp only [go_sem, seval, reduceCtorEq, d57, e, hg]| rw [wN] | rw [wU] | rw [wA] | rw [mA] | rw [mB] | rw [mC] | rw [cA] | rw [sY] | rw [sN] | rw [gY] | rw [gN] | rw [aY] | rw [aN] | rw [pY] | rw [pN] | rw [oY] | rw [oN] | rw [nY] | rw [nN] )
theorem c68 (c : CV) (a : Nat) (sd : Int) (t w : List UInt8) (ha : a ≤ 890000) (hc : c.len ≤ 1000000) (ht : t.length ≤ 100000) (hw : 0 < w.length) (hw2 : w.length ≤ 1000) :
    ∃ a' : Nat, ∃ sd' : Int, ∃ s : List UInt8, W Γ 68 [.ptr 0 0, .str t, .str w] (cur c a sd) = some (.str s, cur c a' sd') ∧ a' ≤ a + 6 ∧ s.length ≤ t.length + 1 := by
  rw [W_code (fd := d68) rfl]
  by_cases h : t = []
  · refine ⟨a, sd, w.take 1, ?_, by omega, by rw [List.length_take]; omega⟩
    cases c <;> simp only [cur] <;> repeat (first | simp only [go_sem, seval, reduceCtorEq, d68, h]| rw [wN] | rw [wU] | rw [wA] | rw [mA] | rw [mB] | rw [mC] | rw [cA] | rw [sY] | rw [sN] | rw [gY] | rw [gN] | rw [aY] | rw [aN] | rw [pY] | rw [pN] | rw [oY] | rw [oN] | rw [nY] | rw [nN] )
  · have h0 : 0 < t.length := List.length_pos_iff.2 h
    obtain ⟨i, a1, sd1, e1, b1, b2, b3⟩ := c64 c a sd t.length (by omega) hc (by omega)
    have hi : i < t.length := by by_cases h : 1 < t.length <;> omega
    obtain ⟨j, a2, sd2, e2, d1, d2, d3⟩ := c64 c a1 sd1 w.length (by omega) hc (by omega)
    have hj : j < w.length := by by_cases h : 1 < w.length <;> omega
    obtain ⟨k, a3, sd3, e3, f1, f2, f3⟩ := c64 c a2 sd2 3 (by omega) hc (by omega)
    by_cases k0 : k = 0
    · refine ⟨a3, sd3, t.take i ++ (w.drop j).take 1 ++ t.drop i, ?_, by omega, by simp only [List.length_append, List.length_take, List.length_drop]; omega⟩
      cases c <;> simp only [cur] at e1 e2 e3 ⊢ <;> repeat (first | simp only [go_sem, seval, reduceCtorEq, d68, h, e1, e2, e3]| rw [wN] | rw [wU] | rw [wA] | rw [mA] | rw [mB] | rw [mC] | rw [cA] | rw [sY] | rw [sN] | rw [gY] | rw [gN] | rw [aY] | rw [aN] | rw [pY] | rw [pN] | rw [oY] | rw [oN] | rw [nY] | rw [nN] )
    · by_cases k1 : k = 1
      · refine ⟨a3, sd3, t.take i ++ (w.drop j).take 1 ++ t.drop (i + 1), ?_, by omega, by simp only [List.length_append, List.length_take, List.length_drop]; omega⟩
        cases c <;> simp only [cur] at e1 e2 e3 ⊢ <;> repeat (first | simp only [go_sem, seval, reduceCtorEq, d68, h, e1, e2, e3]| rw [wN] | rw [wU] | rw [wA] | rw [mA] | rw [mB] | rw [mC] | rw [cA] | rw [sY] | rw [sN] | rw [gY] | rw [gN] | rw [aY] | rw [aN] | rw [pY] | rw [pN] | rw [oY] | rw [oN] | rw [nY] | rw [nN] )
      · refine ⟨a3, sd3, t.take i ++ t.drop (i + 1), ?_, by omega, by simp only [List.length_append, List.length_take, List.length_drop]; omega⟩
        cases c <;> simp only [cur] at e1 e2 e3 ⊢ <;> repeat (first | simp only [go_sem, seval, reduceCtorEq, d68, h, e1, e2, e3]| rw [wN] | rw [wU] | rw [wA] | rw [mA] | rw [mB] | rw [mC] | rw [cA] | rw [sY] | rw [sN] | rw [gY] | rw [gN] | rw [aY] | rw [aN] | rw [pY] | rw [pN] | rw [oY] | rw [oN] | rw [nY] | rw [nN] )
end Go.Proofs.T
namespace Go.Proofs.T
open Go Go.AX Go.Proofs
theorem getD_le {l : List (List UInt8)} {m : Nat} (h : l.all (fun s => decide (s.length ≤ m)) = true) (x : Nat) : (l.getD x []).length ≤ m := by
  rw [List.getD_eq_getElem?_getD]
  cases hx : l[x]? with
  | none => simp
  | some s =>
    have := List.all_eq_true.1 h s (List.mem_of_getElem? hx)
    simpa using this
theorem o79 (m : Nat) (c : CV) (a : Nat) (sd : Int) (l : List (List UInt8)) (ha : a ≤ 900000) (hc : c.len ≤ 1000000) (hl : 0 < l.length) (hl2 : l.length ≤ 1000) (h : l.all (fun s => decide (s.length ≤ m)) = true) :
    ∃ s : List UInt8, ∃ a' : Nat, ∃ sd' : Int, W Γ 79 [.ptr 0 0, .row 1 l.length] (curL c a sd (.live ⟨.row 9 1, true, strs l⟩)) = some (.str s, curL c a' sd' (.live ⟨.row 9 1, true, strs l⟩)) ∧ a' ≤ a + 2 ∧ s.length ≤ m := by
  obtain ⟨x, a', sd', e, b, _⟩ := c79 c a sd l ha hc hl hl2
  exact ⟨_, a', sd', e, b, getD_le h x⟩
theorem c56 (c : CV) (a : Nat) (sd : Int) (ha : a ≤ 800000) (hc : c.len ≤ 1000000) :
    ∃ a' : Nat, ∃ sd' : Int, ∃ s t : List UInt8, W Γ 56 [.ptr 0 0] (cur c a sd) = some (.agg [.str s, .str t], cur c a' sd') ∧ a' ≤ a + 8 ∧ s.length ≤ 100 ∧ t.length ≤ 100 := by
  rw [W_code (fd := d56) rfl]
  obtain ⟨s1, a1, sd1, e1, b1, q1⟩ := o79 100 c a sd [[115, 117, 109], [115, 108, 105, 100, 101, 32, 48], [120], [112, 117, 116, 32, 49, 32, 50, 32, 49], [48, 32, 49]] (by omega) hc (by decide) (by decide) (by decide)
  obtain ⟨s2, a2, sd2, e2, b2, q2⟩ := o79 100 c a1 sd1 [[], [51], [63], [97, 64, 98], [51, 32, 49, 32, 50]] (by omega) hc (by decide) (by decide) (by decide)
  obtain ⟨k, a3, sd3, e3, b3, c3, d3⟩ := c64 c a2 sd2 24 (by omega) hc (by omega)
  obtain ⟨s4, a4, sd4, e4, b4, q4⟩ := o79 100 c a3 sd3 [[], [97, 64, 98], [97, 35], [10], [0, 0, 0]] (by omega) hc (by decide) (by decide) (by decide)
  obtain ⟨s5, a5, sd5, e5, b5, q5⟩ := o79 100 c a3 sd3 [[35], [10], [127]] (by omega) hc (by decide) (by decide) (by decide)
  simp only [strs, List.length_cons, List.length_nil, Nat.zero_add, Nat.reduceAdd, Int.cast_ofNat_Int] at e1 e2 e4 e5
  by_cases k0 : k = 0
  · refine ⟨a4, sd4, s4, s2, ?_, by omega, q4, q2⟩
    cases c <;> simp only [cur, curL] at e1 e2 e3 e4 ⊢ <;> repeat (first | simp only [go_sem, seval, reduceCtorEq, d56, e1, e2, e3, e4, repA]| rw [wN] | rw [wU] | rw [wA] | rw [mA] | rw [mB] | rw [mC] | rw [cA] | rw [sY] | rw [sN] | rw [gY] | rw [gN] | rw [aY] | rw [aN] | rw [pY] | rw [pN] | rw [oY] | rw [oN] | rw [nY] | rw [nN] )
  · by_cases k1 : k = 1
    · refine ⟨a5, sd5, s1, s5, ?_, by omega, q1, q5⟩
      cases c <;> simp only [cur, curL] at e1 e2 e3 e5 ⊢ <;> repeat (first | simp only [go_sem, seval, reduceCtorEq, d56, e1, e2, e3, e5]| rw [wN] | rw [wU] | rw [wA] | rw [mA] | rw [mB] | rw [mC] | rw [cA] | rw [sY] | rw [sN] | rw [gY] | rw [gN] | rw [aY] | rw [aN] | rw [pY] | rw [pN] | rw [oY] | rw [oN] | rw [nY] | rw [nN] )
    · refine ⟨a3, sd3, s1, s2, ?_, by omega, q1, q2⟩
      cases c <;> simp only [cur, curL] at e1 e2 e3 ⊢ <;> repeat (first | simp only [go_sem, seval, reduceCtorEq, d56, e1, e2, e3]| rw [wN] | rw [wU] | rw [wA] | rw [mA] | rw [mB] | rw [mC] | rw [cA] | rw [sY] | rw [sN] | rw [gY] | rw [gN] | rw [aY] | rw [aN] | rw [pY] | rw [pN] | rw [oY] | rw [oN] | rw [nY] | rw [nN] )
end Go.Proofs.T
namespace Go.Proofs.T
open Go Go.AX Go.Proofs
theorem line_len2 {k : Nat} {c r : List UInt8} (hk : k ≤ 59) (h : recB c r = true) : (lineB k c r).length ≤ 500 := by
  have h1 := (body_ok hk h).1
  have h2 := ck_lt (bodyB k c r) 7 (by decide)
  have hl := Lib.itoa_length_le (ck 7 (bodyB k c r)) (by omega) (by omega)
  rw [Lib.itoa_nonneg] at hl
  simp only [lineB, List.length_append, List.length_cons, List.length_nil]
  omega
/-- A log behind an append, and behind a sync: its parts, and their sizes. -/
theorem appended_form {a b : List UInt8} {n : Int} {c r : List UInt8} (hn : 0 ≤ n ∧ n ≤ 100) : ∃ a' b' n' k, appended a b n c r = [.agg [.str a', .str b', .int .i64 n'], .int .i64 k] ∧ a'.length + b'.length ≤ a.length + b.length + 500 ∧ 0 ≤ n' ∧ n' ≤ 100 := by
  unfold appended
  split
  · rename_i h
    obtain ⟨m, rfl, hm, _, _⟩ := valid_count h.1
    split
    · exact ⟨_, _, _, _, rfl, by omega, hn⟩
    · have := line_len2 (k := (m : Int).toNat) (by omega) h.2
      exact ⟨_, _, _, _, rfl, by rw [List.length_append]; omega, by omega⟩
  · exact ⟨_, _, _, _, rfl, by omega, hn⟩
theorem synced_form {a b : List UInt8} {n : Int} (hn : 0 ≤ n ∧ n ≤ 100) : ∃ a' b' n' k, synced a b n = [.agg [.str a', .str b', .int .i64 n'], .bool k] ∧ a'.length + b'.length ≤ a.length + b.length ∧ 0 ≤ n' ∧ n' ≤ 100 := by
  unfold synced
  split
  · exact ⟨_, _, _, _, rfl, by rw [List.length_append, List.length_nil]; omega, hn⟩
  · exact ⟨_, _, _, _, rfl, by simp, by omega⟩
def CV.k : CV → Nat
  | .nil => 1
  | _ => 2
theorem loop67 (c : CV) (hc : c.len ≤ 1000000) (R : Blk) (hR : R = ⟨.box, true, [.str [], .str [], .int .i64 0]⟩) : ∀ (n a : Nat) (sd : Int) (s t : List UInt8) (m : Int), n ≤ 10 → a + 100 * n ≤ 800000 → s.length + t.length + 500 * n ≤ 100000 → 0 ≤ m → m ≤ 100 →
    ∃ a' : Nat, ∃ sd' : Int, ∃ s' t' : List UInt8, ∃ m' : Int, outOf c.k 0 [2, 3] (rnd (W Γ) c.k l67_0 [0, 2, 3, 4] b67_0 (some ([.ptr 0 0, .ptr c.k 0, .ptr (c.k + 1) 0, .int .i64 n], cur c a sd ++ [.live R, .live ⟨.box, true, [.str s, .str t, .int .i64 m]⟩]))) =
      some (.norm, ⟨[(2, .ptr c.k 0), (3, .ptr (c.k + 1) 0)], cur c a' sd' ++ [.live R, .live ⟨.box, true, [.str s', .str t', .int .i64 m']⟩]⟩) ∧ a' ≤ a + 100 * n ∧ s'.length + t'.length ≤ s.length + t.length + 500 * n ∧ 0 ≤ m' ∧ m' ≤ 100 := by
  subst hR
  intro n
  induction n with
  | zero =>
    intro a sd s t m _ ha hl h0 h1
    refine ⟨a, sd, s, t, m, ?_, by omega, by omega, h0, h1⟩
    rw [rnd_some]
    unfold b67_0
    cases c <;> simp only [cur, CV.k, List.cons_append, List.nil_append] <;> repeat (first | simp only [go_sem, seval, reduceCtorEq, x67_0]| rw [wN] | rw [wU] | rw [wA] | rw [mA] | rw [mB] | rw [mC] | rw [cA] | rw [sY] | rw [sN] | rw [gY] | rw [gN] | rw [aY] | rw [aN] | rw [pY] | rw [pN] | rw [oY] | rw [oN] | rw [nY] | rw [nN] )
  | succ n ih =>
    intro a sd s t m hn ha hl h0 h1
    obtain ⟨a1, sd1, u, v, e1, b1, c1, d1⟩ := c56 c a sd (by omega) hc
    obtain ⟨s2, t2, m2, k2, e2, b2, c2, d2⟩ := appended_form (a := s) (b := t) (n := m) (c := u) (r := v) ⟨h0, h1⟩
    have e3 := c15 s t m u v (by omega) (by omega) (by omega) (by omega)
    rw [e2] at e3
    obtain ⟨b, a4, sd4, e4, b4⟩ := c63 c a1 sd1 4 (by omega) hc (by omega)
    cases b
    · obtain ⟨a', sd', s', t', m', e', h⟩ := ih a4 sd4 s2 t2 m2 (by omega) (by omega) (by omega) c2 d2
      refine ⟨a', sd', s', t', m', ?_, by omega, by omega, h.2.2⟩
      rw [rnd_some]
      unfold b67_0
      rw [← e']
      cases c <;> simp only [cur, CV.k, List.cons_append, List.nil_append] at e1 e4 ⊢ <;> repeat (first | simp only [go_sem, seval, reduceCtorEq, x67_0, e1, e3, e4]| rw [wN] | rw [wU] | rw [wA] | rw [mA] | rw [mB] | rw [mC] | rw [cA] | rw [sY] | rw [sN] | rw [gY] | rw [gN] | rw [aY] | rw [aN] | rw [pY] | rw [pN] | rw [oY] | rw [oN] | rw [nY] | rw [nN] )
    · obtain ⟨s5, t5, m5, k5, e5, b5, c5, d5⟩ := synced_form (a := s2) (b := t2) (n := m2) ⟨c2, d2⟩
      have e6 := c10 s2 t2 m2 (by omega) (by omega)
      rw [e5] at e6
      obtain ⟨a', sd', s', t', m', e', h⟩ := ih a4 sd4 s5 t5 m5 (by omega) (by omega) (by omega) c5 d5
      refine ⟨a', sd', s', t', m', ?_, by omega, by omega, h.2.2⟩
      rw [rnd_some]
      unfold b67_0
      rw [← e']
      cases c <;> simp only [cur, CV.k, List.cons_append, List.nil_append] at e1 e4 ⊢ <;> repeat (first | simp only [go_sem, seval, reduceCtorEq, x67_0, e1, e3, e4, e6]| rw [wN] | rw [wU] | rw [wA] | rw [mA] | rw [mB] | rw [mC] | rw [cA] | rw [sY] | rw [sN] | rw [gY] | rw [gN] | rw [aY] | rw [aN] | rw [pY] | rw [pN] | rw [oY] | rw [oN] | rw [nY] | rw [nN] )
theorem c67 (c : CV) (a : Nat) (sd : Int) (ha : a ≤ 700000) (hc : c.len ≤ 1000000) :
    ∃ a' : Nat, ∃ sd' : Int, ∃ s t : List UInt8, ∃ m : Int, W Γ 67 [.ptr 0 0] (cur c a sd) = some (.agg [.str s, .str t, .int .i64 m], cur c a' sd') ∧ a' ≤ a + 1010 ∧ s.length + t.length ≤ 5000 ∧ 0 ≤ m ∧ m ≤ 100 := by
  rw [W_code (fd := d67) rfl]
  obtain ⟨x, a1, sd1, e1, b1, c1, d1⟩ := c64 c a sd 7 (by omega) hc (by omega)
  obtain ⟨a', sd', s, t, m, e2, h1, h2, h3⟩ := loop67 c hc _ rfl x a1 sd1 [] [] 0 (by omega) (by omega) (by simp only [List.length_nil]; omega) (by omega) (by omega)
  simp only [List.length_nil] at h2
  refine ⟨a', sd', s, t, m, ?_, by omega, by omega, h3⟩
  cases c <;> simp only [cur, CV.k, List.cons_append, List.nil_append] at e1 e2 ⊢ <;> repeat (first | simp only [go_sem, seval, reduceCtorEq, d67, x67_0, e1, e2]| rw [wN] | rw [wU] | rw [wA] | rw [mA] | rw [mB] | rw [mC] | rw [cA] | rw [sY] | rw [sN] | rw [gY] | rw [gN] | rw [aY] | rw [aN] | rw [pY] | rw [pN] | rw [oY] | rw [oN] | rw [nY] | rw [nN] )
theorem c62 (c : CV) (a : Nat) (sd : Int) (ha : a ≤ 600000) (hc : c.len ≤ 1000000) :
    ∃ a' : Nat, ∃ sd' : Int, ∃ s t : List UInt8, ∃ m : Int, W Γ 62 [.ptr 0 0] (cur c a sd) = some (.agg [.str s, .str t, .int .i64 m], cur c a' sd') ∧ a' ≤ a + 1100 ∧ s.length + t.length ≤ 10001 ∧ 0 ≤ m ∧ m ≤ 101 := by
  rw [W_code (fd := d62) rfl]
  obtain ⟨a1, sd1, s, t, m, e1, b1, c1, d1, f1⟩ := c67 c a sd (by omega) hc
  obtain ⟨x, a2, sd2, e2, b2, c2, d2⟩ := c64 c a1 sd1 24 (by omega) hc (by omega)
  by_cases k0 : x = 0
  · refine ⟨a2, sd2, s, t, m + 1, ?_, by omega, by omega, by omega, by omega⟩
    cases c <;> simp only [cur] at e1 e2 ⊢ <;> repeat (first | simp only [go_sem, seval, reduceCtorEq, d62, e1, e2]| rw [wN] | rw [wU] | rw [wA] | rw [mA] | rw [mB] | rw [mC] | rw [cA] | rw [sY] | rw [sN] | rw [gY] | rw [gN] | rw [aY] | rw [aN] | rw [pY] | rw [pN] | rw [oY] | rw [oN] | rw [nY] | rw [nN] )
  · by_cases k1 : x = 1
    · obtain ⟨a3, sd3, u, e3, b3, c3⟩ := c68 c a2 sd2 t [35, 64, 10, 48, 49] (by omega) hc (by omega) (by decide) (by decide)
      refine ⟨a3, sd3, s, u, m, ?_, by omega, by omega, by omega, by omega⟩
      cases c <;> simp only [cur] at e1 e2 e3 ⊢ <;> repeat (first | simp only [go_sem, seval, reduceCtorEq, d62, e1, e2, e3]| rw [wN] | rw [wU] | rw [wA] | rw [mA] | rw [mB] | rw [mC] | rw [cA] | rw [sY] | rw [sN] | rw [gY] | rw [gN] | rw [aY] | rw [aN] | rw [pY] | rw [pN] | rw [oY] | rw [oN] | rw [nY] | rw [nN] )
    · by_cases k2 : x = 2
      · refine ⟨a2, sd2, s ++ t, t, m, ?_, by omega, by rw [List.length_append]; omega, by omega, by omega⟩
        cases c <;> simp only [cur] at e1 e2 ⊢ <;> repeat (first | simp only [go_sem, seval, reduceCtorEq, d62, e1, e2]| rw [wN] | rw [wU] | rw [wA] | rw [mA] | rw [mB] | rw [mC] | rw [cA] | rw [sY] | rw [sN] | rw [gY] | rw [gN] | rw [aY] | rw [aN] | rw [pY] | rw [pN] | rw [oY] | rw [oN] | rw [nY] | rw [nN] )
      · refine ⟨a2, sd2, s, t, m, ?_, by omega, by omega, by omega, by omega⟩
        cases c <;> simp only [cur] at e1 e2 ⊢ <;> repeat (first | simp only [go_sem, seval, reduceCtorEq, d62, e1, e2]| rw [wN] | rw [wU] | rw [wA] | rw [mA] | rw [mB] | rw [mC] | rw [cA] | rw [sY] | rw [sN] | rw [gY] | rw [gN] | rw [aY] | rw [aN] | rw [pY] | rw [pN] | rw [oY] | rw [oN] | rw [nY] | rw [nN] )
end Go.Proofs.T
namespace Go.Proofs.T
open Go Go.AX Go.Proofs
def codA : CV → AV
  | .nil => .nilsl
  | .sl s => .sl 0 0 s.length
  | .row s => .row 0 s.length
def codS : CV → Store
  | .nil => []
  | .sl s => [.live ⟨.ro, true, u8s s⟩]
  | .row s => [.live ⟨.row 5 1, true, u8s s⟩]
theorem c27 (c : CV) (h : c.len ≤ 65536) : W Γ 27 [codA c] (codS c) = some (.bool false, codS c) := by
  rw [W_code (fd := d27) rfl]
  cases c
  · simp only [codA, codS]
    repeat (first | simp only [go_sem, seval, reduceCtorEq, d27]| rw [wN] | rw [wU] | rw [wA] | rw [mA] | rw [mB] | rw [mC] | rw [cA] | rw [sY] | rw [sN] | rw [gY] | rw [gN] | rw [aY] | rw [aN] | rw [pY] | rw [pN] | rw [oY] | rw [oN] | rw [nY] | rw [nN] )
  · simp only [codA, codS, CV.len] at h ⊢
    repeat (first | simp only [go_sem, seval, reduceCtorEq, d27]| rw [wN] | rw [wU] | rw [wA] | rw [mA] | rw [mB] | rw [mC] | rw [cA] | rw [sY] | rw [sN] | rw [gY] | rw [gN] | rw [aY] | rw [aN] | rw [pY] | rw [pN] | rw [oY] | rw [oN] | rw [nY] | rw [nN] )
    rw [decide_eq_false (by omega)]
  · simp only [codA, codS, CV.len] at h ⊢
    repeat (first | simp only [go_sem, seval, reduceCtorEq, d27]| rw [wN] | rw [wU] | rw [wA] | rw [mA] | rw [mB] | rw [mC] | rw [cA] | rw [sY] | rw [sN] | rw [gY] | rw [gN] | rw [aY] | rw [aN] | rw [pY] | rw [pN] | rw [oY] | rw [oN] | rw [nY] | rw [nN] )
    rw [decide_eq_false (by omega)]
theorem n27 (c : CV) (h : 65536 < c.len) : W Γ 27 [codA c] (codS c) = some (.bool true, codS c) := by
  rw [W_code (fd := d27) rfl]
  cases c
  · simp [CV.len] at h
  · simp only [codA, codS, CV.len] at h ⊢
    repeat (first | simp only [go_sem, seval, reduceCtorEq, d27]| rw [wN] | rw [wU] | rw [wA] | rw [mA] | rw [mB] | rw [mC] | rw [cA] | rw [sY] | rw [sN] | rw [gY] | rw [gN] | rw [aY] | rw [aN] | rw [pY] | rw [pN] | rw [oY] | rw [oN] | rw [nY] | rw [nN] )
    rw [decide_eq_true h]
  · simp only [codA, codS, CV.len] at h ⊢
    repeat (first | simp only [go_sem, seval, reduceCtorEq, d27]| rw [wN] | rw [wU] | rw [wA] | rw [mA] | rw [mB] | rw [mC] | rw [cA] | rw [sY] | rw [sN] | rw [gY] | rw [gN] | rw [aY] | rw [aN] | rw [pY] | rw [pN] | rw [oY] | rw [oN] | rw [nY] | rw [nN] )
    rw [decide_eq_true h]
theorem c28 (c : CV) (hc : c.len ≤ 1000000) : ∃ s t : List UInt8, W Γ 28 [codA c] (codS c) = some (.agg [.str s, .str t], codS c) ∧ s.length ≤ 100 ∧ t.length ≤ 100 := by
  rw [W_code (fd := d28) rfl]
  obtain ⟨a1, sd1, s, t, e1, b1, c1, d1⟩ := c56 c 0 0 (by omega) hc
  refine ⟨s, t, ?_, c1, d1⟩
  cases c <;> simp only [cur, codA, codS, Int.cast_ofNat_Int] at e1 ⊢ <;> repeat (first | simp only [go_sem, seval, reduceCtorEq, d28, e1]| rw [wN] | rw [wU] | rw [wA] | rw [mA] | rw [mB] | rw [mC] | rw [cA] | rw [sY] | rw [sN] | rw [gY] | rw [gN] | rw [aY] | rw [aN] | rw [pY] | rw [pN] | rw [oY] | rw [oN] | rw [nY] | rw [nN] )
theorem c33 (c : CV) (hc : c.len ≤ 1000000) : ∃ s t : List UInt8, ∃ m : Int, W Γ 33 [codA c] (codS c) = some (.agg [.str s, .str t, .int .i64 m], codS c) ∧ s.length + t.length ≤ 10001 ∧ 0 ≤ m ∧ m ≤ 101 := by
  rw [W_code (fd := d33) rfl]
  obtain ⟨a1, sd1, s, t, m, e1, b1, c1, d1, f1⟩ := c62 c 0 0 (by omega) hc
  refine ⟨s, t, m, ?_, c1, d1, f1⟩
  cases c <;> simp only [cur, codA, codS, Int.cast_ofNat_Int] at e1 ⊢ <;> repeat (first | simp only [go_sem, seval, reduceCtorEq, d33, e1]| rw [wN] | rw [wU] | rw [wA] | rw [mA] | rw [mB] | rw [mC] | rw [cA] | rw [sY] | rw [sN] | rw [gY] | rw [gN] | rw [aY] | rw [aN] | rw [pY] | rw [pN] | rw [oY] | rw [oN] | rw [nY] | rw [nN] )
theorem c29 (c : CV) (hc : c.len ≤ 1000000) : ∃ k : Int, ∃ s t : List UInt8, W Γ 29 [codA c] (codS c) = some (.tup [.int .i64 k, .agg [.str s, .str t]], codS c) ∧ s.length ≤ 100 ∧ t.length ≤ 100 ∧ -1 ≤ k ∧ k ≤ 60 := by
  rw [W_code (fd := d29) rfl]
  obtain ⟨x, a1, sd1, e1, b1, c1⟩ := c57 c 0 0 [0, 1, 12, 59, 60, -1] (by omega) hc (by decide) (by decide)
  have hk : -1 ≤ ([0, 1, 12, 59, 60, -1] : List Int).getD x 0 ∧ ([0, 1, 12, 59, 60, -1] : List Int).getD x 0 ≤ 60 := by
    match x, c1 with
    | 0, _ => decide
    | 1, _ => decide
    | 2, _ => decide
    | 3, _ => decide
    | 4, _ => decide
    | 5, _ => decide
  generalize ([0, 1, 12, 59, 60, -1] : List Int).getD x 0 = k at *
  simp only [ints, List.map_cons, List.map_nil, List.length_cons, List.length_nil, Nat.zero_add, Nat.reduceAdd] at e1
  obtain ⟨a2, sd2, s, t, e2, b2, c2, d2⟩ := c56 c a1 sd1 (by omega) hc
  refine ⟨k, s, t, ?_, c2, d2, hk⟩
  cases c <;> simp only [cur, curL, codA, codS, Int.cast_ofNat_Int] at e1 e2 ⊢ <;> repeat (first | simp only [go_sem, seval, reduceCtorEq, d29, e1, e2]| rw [wN] | rw [wU] | rw [wA] | rw [mA] | rw [mB] | rw [mC] | rw [cA] | rw [sY] | rw [sN] | rw [gY] | rw [gN] | rw [aY] | rw [aN] | rw [pY] | rw [pN] | rw [oY] | rw [oN] | rw [nY] | rw [nN] )
/-- The cursor where the code lies first. -/
def curB : CV → Nat → Int → Sl
  | .nil, a, sd => .live ⟨.box, true, [.nilsl, .int .i64 a, .int .u64 sd]⟩
  | .sl s, a, sd => .live ⟨.box, false, [.sl 0 0 s.length, .int .i64 a, .int .u64 sd]⟩
  | .row s, a, sd => .live ⟨.box, false, [.row 0 s.length, .int .i64 a, .int .u64 sd]⟩
def CV.m : CV → Nat
  | .nil => 0
  | _ => 1
theorem loop34 (c : CV) (a : Nat) (sd : Int) (R1 R2 : Blk) (hR1 : R1 = ⟨.box, true, [.str [], .str [], .int .i64 0]⟩) (hR2 : R2 = ⟨.box, true, [.str [], .str []]⟩) : ∀ (n : Nat) (s t : List UInt8) (m : Int), n ≤ 100 → s.length + t.length + 500 * n ≤ 100000 → 0 ≤ m → m ≤ 100 →
    ∃ s' t' : List UInt8, ∃ m' : Int, outOf c.m 0 [2, 3, 4, 5] (rnd (W Γ) c.m l34_0 [2, 3, 4, 5, 6] b34_0 (some ([.ptr c.m 0, .ptr (c.m + 1) 0, .ptr (c.m + 2) 0, .ptr (c.m + 3) 0, .int .i64 n], codS c ++ [.live R1, .live R2, curB c a sd, .live ⟨.box, true, [.str s, .str t, .int .i64 m]⟩]))) =
      some (.norm, ⟨[(2, .ptr c.m 0), (3, .ptr (c.m + 1) 0), (4, .ptr (c.m + 2) 0), (5, .ptr (c.m + 3) 0)], codS c ++ [.live R1, .live R2, curB c a sd, .live ⟨.box, true, [.str s', .str t', .int .i64 m']⟩]⟩) ∧ s'.length + t'.length ≤ s.length + t.length + 500 * n ∧ 0 ≤ m' ∧ m' ≤ 100 := by
  subst hR1 hR2
  intro n
  induction n with
  | zero =>
    intro s t m _ hl h0 h1
    refine ⟨s, t, m, ?_, by omega, h0, h1⟩
    rw [rnd_some]
    unfold b34_0
    cases c <;> simp only [codS, curB, CV.m, List.cons_append, List.nil_append] <;> repeat (first | simp only [go_sem, seval, reduceCtorEq, x34_0]| rw [wN] | rw [wU] | rw [wA] | rw [mA] | rw [mB] | rw [mC] | rw [cA] | rw [sY] | rw [sN] | rw [gY] | rw [gN] | rw [aY] | rw [aN] | rw [pY] | rw [pN] | rw [oY] | rw [oN] | rw [nY] | rw [nN] )
  | succ n ih =>
    intro s t m hn hl h0 h1
    obtain ⟨s2, t2, m2, k2, e2, b2, c2, d2⟩ := appended_form (a := s) (b := t) (n := m) (c := [120]) (r := []) ⟨h0, h1⟩
    have e3 := c15 s t m [120] [] (by omega) (by omega) (by decide) (by decide)
    rw [e2] at e3
    obtain ⟨s', t', m', e', h⟩ := ih s2 t2 m2 (by omega) (by omega) c2 d2
    refine ⟨s', t', m', ?_, by omega, h.2⟩
    rw [rnd_some]
    unfold b34_0
    rw [← e']
    cases c <;> simp only [codS, curB, CV.m, List.cons_append, List.nil_append] <;> repeat (first | simp only [go_sem, seval, reduceCtorEq, x34_0, e3]| rw [wN] | rw [wU] | rw [wA] | rw [mA] | rw [mB] | rw [mC] | rw [cA] | rw [sY] | rw [sN] | rw [gY] | rw [gN] | rw [aY] | rw [aN] | rw [pY] | rw [pN] | rw [oY] | rw [oN] | rw [nY] | rw [nN] )
theorem c34 (c : CV) (hc : c.len ≤ 1000000) : ∃ s t : List UInt8, ∃ m : Int, ∃ u v : List UInt8, W Γ 34 [codA c] (codS c) = some (.tup [.agg [.str s, .str t, .int .i64 m], .agg [.str u, .str v]], codS c) ∧ s.length + t.length ≤ 100000 ∧ 0 ≤ m ∧ m ≤ 101 ∧ u.length ≤ 100 ∧ v.length ≤ 100 := by
  rw [W_code (fd := d34) rfl]
  obtain ⟨a1, sd1, s, t, m, e1, b1, c1, d1, f1⟩ := c62 c 0 0 (by omega) hc
  obtain ⟨b, a2, sd2, e2, b2⟩ := c63 c a1 sd1 40 (by omega) hc (by omega)
  cases b
  · obtain ⟨a3, sd3, u, v, e3, b3, c3, d3⟩ := c56 c a2 sd2 (by omega) hc
    refine ⟨s, t, m, u, v, ?_, by omega, by omega, by omega, c3, d3⟩
    cases c <;> simp only [cur, codA, codS, Int.cast_ofNat_Int] at e1 e2 e3 ⊢ <;> repeat (first | simp only [go_sem, seval, reduceCtorEq, d34, e1, e2, e3]| rw [wN] | rw [wU] | rw [wA] | rw [mA] | rw [mB] | rw [mC] | rw [cA] | rw [sY] | rw [sN] | rw [gY] | rw [gN] | rw [aY] | rw [aN] | rw [pY] | rw [pN] | rw [oY] | rw [oN] | rw [nY] | rw [nN] )
  · obtain ⟨x, a3, sd3, e3, b3, c3, d3⟩ := c64 c a2 sd2 2 (by omega) hc (by omega)
    obtain ⟨s', t', m', e4, b4, c4, d4⟩ := loop34 c a3 sd3 _ _ rfl rfl (59 + x) [] [] 0 (by omega) (by simp only [List.length_nil]; omega) (by omega) (by omega)
    simp only [List.length_nil] at b4
    obtain ⟨a5, sd5, u, v, e5, b5, c5, d5⟩ := c56 c a3 sd3 (by omega) hc
    refine ⟨s', t', m', u, v, ?_, by omega, by omega, by omega, c5, d5⟩
    cases c <;> simp only [cur, codA, codS, curB, CV.m, List.cons_append, List.nil_append, Int.cast_ofNat_Int] at e1 e2 e3 e4 e5 ⊢ <;> repeat (first | simp only [go_sem, seval, reduceCtorEq, d34, x34_0, e1, e2, e3, e4, e5]| rw [wN] | rw [wU] | rw [wA] | rw [mA] | rw [mB] | rw [mC] | rw [cA] | rw [sY] | rw [sN] | rw [gY] | rw [gN] | rw [aY] | rw [aN] | rw [pY] | rw [pN] | rw [oY] | rw [oN] | rw [nY] | rw [nN] )
end Go.Proofs.T
namespace Go.Proofs.T
open Go Go.AX Go.Proofs
/-! Reading on behind what was read. -/
theorem ahead_more {s t : List UInt8} {c : UInt8} (h : c ∈ s) : ahead (s ++ t) c = ahead s c ∧ (s ++ t).drop ((ahead s c).length + 1) = s.drop ((ahead s c).length + 1) ++ t := by
  have e := (index_in c s h).2
  have hl : (ahead s c).length + 1 ≤ s.length := by
    have := congrArg List.length e
    simp only [List.length_append, List.length_cons] at this
    omega
  refine ⟨?_, List.drop_append_of_le_length hl⟩
  unfold ahead
  have : ∀ s : List UInt8, c ∈ s → (s ++ t).takeWhile (· != c) = s.takeWhile (· != c) := by
    intro s
    induction s with
    | nil => intro h; cases h
    | cons x s ih =>
      intro h
      by_cases hx : x = c
      · subst hx; simp
      · have hm : c ∈ s := by
          rcases List.mem_cons.1 h with e | e
          · exact absurd e.symm hx
          · exact e
        simp [hx, ih hm]
  exact this s h
theorem good_more {n : Nat} {s t : List UInt8} (h : (10 : UInt8) ∈ s) : good n (s ++ t) = good n s := by
  unfold good
  rw [(ahead_more (t := t) h).1]
  simp [h]
theorem good_mem {n : Nat} {s : List UInt8} (h : good n s = true) : (10 : UInt8) ∈ s := by
  unfold good at h
  simp only [Bool.and_eq_true, decide_eq_true_eq] at h
  exact h.1
theorem good_nil {n : Nat} : good n [] = false := by simp [good]
theorem rd_total : ∀ (k n : Nat) (s : List UInt8), (rd k n s).2.2 ≤ 500 * (rd k n s).2.1
  | 0, n, s => by simp [rd]
  | k + 1, n, s => by
    unfold rd
    split
    · rename_i h
      have := rd_total k (n + 1) (s.drop ((ahead s 10).length + 1))
      unfold good at h
      simp only [Bool.and_eq_true, decide_eq_true_eq] at h
      have h2 := line_len2 (k := n) h.2.1.1 h.2.1.2
      have h3 := congrArg List.length h.2.2
      simp only [List.length_append, List.length_cons, List.length_nil] at h3
      simp only
      omega
    · simp
/-- What is read whole is read the same with more behind it. -/
theorem rd_more : ∀ (k n : Nat) (s t : List UInt8), (rd k n s).2.2 = s.length →
    (rd k n (s ++ t)).2.1 = (rd k n s).2.1 + (rd (k - (rd k n s).2.1) (n + (rd k n s).2.1) t).2.1 ∧
    (rd k n (s ++ t)).2.2 = s.length + (rd (k - (rd k n s).2.1) (n + (rd k n s).2.1) t).2.2 ∧
    recsOf k n (s ++ t) = recsOf k n s ++ recsOf (k - (rd k n s).2.1) (n + (rd k n s).2.1) t
  | 0, n, s, t, h => by
    simp only [rd] at h
    simp [rd, recsOf, ← h]
  | k + 1, n, s, t, h => by
    by_cases g : good n s = true
    · have hm := good_mem g
      obtain ⟨e1, e2⟩ := ahead_more (t := t) hm
      have g' : good n (s ++ t) = true := by rw [good_more hm]; exact g
      have hl := good_len g
      have r1 : rd (k + 1) n s = ([.str (cmdOf (ahead s 10)), .str (repOf (ahead s 10))] ++ (rd k (n + 1) (s.drop ((ahead s 10).length + 1))).1, (rd k (n + 1) (s.drop ((ahead s 10).length + 1))).2.1 + 1, (ahead s 10).length + 1 + (rd k (n + 1) (s.drop ((ahead s 10).length + 1))).2.2) := by
        rw [rd, if_pos g]
      have r2 : rd (k + 1) n (s ++ t) = ([.str (cmdOf (ahead s 10)), .str (repOf (ahead s 10))] ++ (rd k (n + 1) (s.drop ((ahead s 10).length + 1) ++ t)).1, (rd k (n + 1) (s.drop ((ahead s 10).length + 1) ++ t)).2.1 + 1, (ahead s 10).length + 1 + (rd k (n + 1) (s.drop ((ahead s 10).length + 1) ++ t)).2.2) := by
        rw [rd, if_pos g', e1, e2]
      have r3 : recsOf (k + 1) n s = (cmdOf (ahead s 10), repOf (ahead s 10)) :: recsOf k (n + 1) (s.drop ((ahead s 10).length + 1)) := by
        rw [recsOf, if_pos g]
      have r4 : recsOf (k + 1) n (s ++ t) = (cmdOf (ahead s 10), repOf (ahead s 10)) :: recsOf k (n + 1) (s.drop ((ahead s 10).length + 1) ++ t) := by
        rw [recsOf, if_pos g', e1, e2]
      rw [r1] at h
      simp only at h
      have ih := rd_more k (n + 1) (s.drop ((ahead s 10).length + 1)) t (by rw [List.length_drop]; omega)
      rw [r1, r2, r3, r4]
      simp only
      obtain ⟨i1, i2, i3⟩ := ih
      rw [i1, i2, i3, List.length_drop]
      have ek : k + 1 - ((rd k (n + 1) (s.drop ((ahead s 10).length + 1))).2.1 + 1) = k - (rd k (n + 1) (s.drop ((ahead s 10).length + 1))).2.1 := by omega
      have en : n + ((rd k (n + 1) (s.drop ((ahead s 10).length + 1))).2.1 + 1) = n + 1 + (rd k (n + 1) (s.drop ((ahead s 10).length + 1))).2.1 := by omega
      rw [ek, en]
      exact ⟨by omega, by omega, rfl⟩
    · have r1 : rd (k + 1) n s = ([], 0, 0) := by rw [rd, if_neg g]
      rw [r1] at h
      have : s = [] := List.eq_nil_of_length_eq_zero h.symm
      subst this
      have r3 : recsOf (k + 1) n [] = [] := by rw [recsOf, if_neg g]
      rw [r1, r3]
      simp
theorem rd_line {k n : Nat} {c r : List UInt8} (hn : n ≤ 59) (h : recB c r = true) : (rd (k + 1) n (lineB n c r)).2.1 = 1 ∧ (rd (k + 1) n (lineB n c r)).2.2 = (lineB n c r).length ∧ recsOf (k + 1) n (lineB n c r) = [(c, r)] := by
  have e : lineB n c r = (bodyB n c r ++ 35 :: Lib.decDigits (ck 7 (bodyB n c r))) ++ [10] := by simp [lineB]
  obtain ⟨h1, h2, h3⟩ := line_parts h e
  have hno : (10 : UInt8) ∉ bodyB n c r ++ 35 :: Lib.decDigits (ck 7 (bodyB n c r)) := by
    obtain ⟨_, _, _, h4, h5, h6⟩ := rec_spec h
    simp only [bodyB, List.mem_append, List.mem_cons, List.not_mem_nil, or_false, not_or]
    exact ⟨⟨⟨⟨dec_no (by decide), by decide⟩, fun hm => by have := (h4 _ hm).1; simp at this⟩, by decide⟩, fun hm => by have := (h5 _ hm).1; simp at this⟩ |> fun x => ⟨x, by decide, dec_no (by decide)⟩
  have ha : ahead (lineB n c r) 10 = bodyB n c r ++ 35 :: Lib.decDigits (ck 7 (bodyB n c r)) := by
    rw [e]; exact (ahead_app hno (y := [])).1
  have hg : good n (lineB n c r) = true := by
    unfold good
    rw [ha, h2, h3]
    simp only [Bool.and_eq_true, decide_eq_true_eq]
    exact ⟨by rw [e]; simp, ⟨hn, h⟩, e⟩
  have hd : (lineB n c r).drop ((ahead (lineB n c r) 10).length + 1) = [] := by
    rw [ha, e]; simp only [List.length_append, List.length_cons, List.length_nil, List.drop_eq_nil_iff]; omega
  have hl : (lineB n c r).length = (ahead (lineB n c r) 10).length + 1 := by
    rw [ha, e]; simp only [List.length_append, List.length_cons, List.length_nil]
  have hz : ∀ k n, rd k n [] = ([], 0, 0) := fun k n => by cases k <;> simp [rd, good_nil]
  have hz' : ∀ k n, recsOf k n [] = [] := fun k n => by cases k <;> simp [recsOf, good_nil]
  rw [rd, if_pos hg, recsOf, if_pos hg, hd, hz, hz']
  refine ⟨rfl, by simp only; omega, ?_⟩
  rw [ha, h2, h3]
/-- A record set behind a valid log. -/
theorem append_valid {a b : List UInt8} {m : Nat} {c r : List UInt8} (hv : valid a b (m : Int) = true) (hr : recB c r = true) (hm : m ≠ 60) :
    valid a (b ++ lineB m c r) ((m : Int) + 1) = true ∧ recsOf 60 0 (a ++ (b ++ lineB m c r)) = recsOf 60 0 (a ++ b) ++ [(c, r)] := by
  unfold valid okLog at hv ⊢
  simp only [Bool.and_eq_true, decide_eq_true_eq] at hv ⊢
  obtain ⟨h1, ⟨h2, h3⟩, h4⟩ := hv
  have hc := rd_count 60 0 (a ++ b)
  have h4' : (rd 60 0 (a ++ b)).2.1 = m := by omega
  obtain ⟨e1, e2, e3⟩ := rd_more 60 0 (a ++ b) (lineB m c r) (by rw [h2, List.length_append])
  obtain ⟨k, hk⟩ : ∃ k, 60 - m = k + 1 := ⟨60 - m - 1, by omega⟩
  rw [h4', Nat.zero_add, hk] at e1 e2 e3
  obtain ⟨l1, l2, l3⟩ := rd_line (k := k) (n := m) (by omega) hr
  rw [l1] at e1
  rw [l2] at e2
  rw [l3] at e3
  rw [← List.append_assoc]
  have ht := rd_total 60 0 (a ++ b ++ lineB m c r)
  rw [e1, e2] at ht
  simp only [List.length_append] at ht e2 ⊢
  refine ⟨⟨by omega, ⟨by omega, h3⟩, by omega⟩, e3⟩
theorem kept_valid {a b : List UInt8} {n : Int} (hv : valid a b n = true) : valid (a ++ b) [] n = true := by
  unfold valid okLog at hv ⊢
  simp only [Bool.and_eq_true, decide_eq_true_eq, List.append_nil, List.length_append, List.length_nil, Nat.add_zero] at hv ⊢
  exact ⟨hv.1, ⟨hv.2.1.1, hv.2.1.1⟩, hv.2.2⟩
end Go.Proofs.T
namespace Go.Proofs.T
open Go Go.AX Go.Proofs
/-! A law's own helpers: codes cut, records compared. -/
def cutA : CV → Nat → AV
  | .nil, n => .row 0 n
  | _, n => .row 1 n
def rowB (s : List UInt8) : Sl := .live ⟨.row 5 1, true, u8s s⟩
theorem u8s_one : ∀ s : List UInt8, (u8s s).all AV.one = true
  | [] => rfl
  | x :: s => by
    have := u8s_one s
    simp only [u8s] at this
    simp only [u8s, List.map_cons, List.all_cons, AV.one, this, Bool.and_self]
theorem u8s_flat (s : List UInt8) : flatB (u8s s) = true := by simp [flatB, u8s_locs]
theorem u8s_drop (s : List UInt8) (i : Nat) : (u8s s).drop i = u8s (s.drop i) := by simp [u8s, List.map_drop]
theorem u8s_take (s : List UInt8) (i : Nat) : (u8s s).take i = u8s (s.take i) := by simp [u8s, List.map_take]
theorem u8s_snoc (s : List UInt8) (n : Nat) (hn : n ≤ 255) : u8s s ++ [.int .u8 (n : Int)] = u8s (s ++ [UInt8.ofNat n]) := by
  simp only [u8s, List.map_append, List.map_cons, List.map_nil]
  rw [UInt8.toNat_ofNat_of_lt' (show n < 256 by omega)]
theorem c30 (c : CV) (k : Nat) (hk : k ≤ 100) (hc : c.len ≤ 1000000) : ∃ s : List UInt8, W Γ 30 [codA c, .int .i64 k] (codS c) = some (cutA c s.length, codS c ++ [rowB s]) ∧ s.length ≤ c.len + 1 := by
  rw [W_code (fd := d30) rfl]
  have ht : ∀ s : List UInt8, (u8s s).take s.length = u8s s := fun s => by rw [← u8s_length (s := s), List.take_length]
  cases c with
  | nil =>
    refine ⟨[0], ?_, by simp⟩
    simp only [codA, codS, cutA, rowB]
    by_cases h : k = 0
    · subst h
      repeat (first | simp only [go_sem, seval, reduceCtorEq, d30, Int.cast_ofNat_Int]| rw [wN] | rw [wU] | rw [wA] | rw [mA] | rw [mB] | rw [mC] | rw [cA] | rw [sY] | rw [sN] | rw [gY] | rw [gN] | rw [aY] | rw [aN] | rw [pY] | rw [pN] | rw [oY] | rw [oN] | rw [nY] | rw [nN] )
      rfl
    · repeat (first | simp only [go_sem, seval, reduceCtorEq, d30]| rw [wN] | rw [wU] | rw [wA] | rw [mA] | rw [mB] | rw [mC] | rw [cA] | rw [sY] | rw [sN] | rw [gY] | rw [gN] | rw [aY] | rw [aN] | rw [pY] | rw [pN] | rw [oY] | rw [oN] | rw [nY] | rw [nN] )
      rfl
  | sl s =>
    simp only [CV.len] at hc ⊢
    by_cases h : s.length < k
    · refine ⟨[] ++ [UInt8.ofNat s.length], ?_, by simp⟩
      simp only [codA, codS, cutA, rowB]
      have h1 := u8s_snoc [] s.length (by omega)
      have h2 : (u8s s).drop s.length = [] := List.drop_eq_nil_of_le (by rw [u8s_length]; exact Nat.le_refl _)
      simp only [u8s, List.map_nil, List.nil_append] at h1
      repeat (first | simp only [go_sem, seval, reduceCtorEq, d30, u8s_length, u8s_one, u8s_locs, h2, List.take_nil, Nat.sub_self]| rw [wN] | rw [wU] | rw [wA] | rw [mA] | rw [mB] | rw [mC] | rw [cA] | rw [sY] | rw [sN] | rw [gY] | rw [gN] | rw [aY] | rw [aN] | rw [pY] | rw [pN] | rw [oY] | rw [oN] | rw [nY] | rw [nN] )
      rw [h1]
      rfl
    · refine ⟨s.drop k ++ [UInt8.ofNat k], ?_, by simp only [List.length_append, List.length_drop, List.length_cons, List.length_nil]; omega⟩
      simp only [codA, codS, cutA, rowB]
      have h2 : (u8s s).drop k = u8s (s.drop k) := u8s_drop s k
      have h3 : (u8s (s.drop k)).take (s.length - k) = u8s (s.drop k) := by rw [← List.length_drop]; exact ht _
      repeat (first | simp only [go_sem, seval, reduceCtorEq, d30, u8s_length, u8s_one, u8s_locs, h2, h3, u8s_snoc _ k (by omega)]| rw [wN] | rw [wU] | rw [wA] | rw [mA] | rw [mB] | rw [mC] | rw [cA] | rw [sY] | rw [sN] | rw [gY] | rw [gN] | rw [aY] | rw [aN] | rw [pY] | rw [pN] | rw [oY] | rw [oN] | rw [nY] | rw [nN] )
  | row s =>
    simp only [CV.len] at hc ⊢
    by_cases h : s.length < k
    · refine ⟨[] ++ [UInt8.ofNat s.length], ?_, by simp⟩
      simp only [codA, codS, cutA, rowB]
      have h1 := u8s_snoc [] s.length (by omega)
      have h2 : (u8s s).drop s.length = [] := List.drop_eq_nil_of_le (by rw [u8s_length]; exact Nat.le_refl _)
      simp only [u8s, List.map_nil, List.nil_append] at h1
      repeat (first | simp only [go_sem, seval, reduceCtorEq, d30, u8s_length, u8s_one, u8s_locs, h2, List.take_nil, Nat.sub_self]| rw [wN] | rw [wU] | rw [wA] | rw [mA] | rw [mB] | rw [mC] | rw [cA] | rw [sY] | rw [sN] | rw [gY] | rw [gN] | rw [aY] | rw [aN] | rw [pY] | rw [pN] | rw [oY] | rw [oN] | rw [nY] | rw [nN] )
      rw [h1]
      rfl
    · refine ⟨s.drop k ++ [UInt8.ofNat k], ?_, by simp only [List.length_append, List.length_drop, List.length_cons, List.length_nil]; omega⟩
      simp only [codA, codS, cutA, rowB]
      have h2 : (u8s s).drop k = u8s (s.drop k) := u8s_drop s k
      have h3 : (u8s (s.drop k)).take (s.length - k) = u8s (s.drop k) := by rw [← List.length_drop]; exact ht _
      repeat (first | simp only [go_sem, seval, reduceCtorEq, d30, u8s_length, u8s_one, u8s_locs, h2, h3, u8s_snoc _ k (by omega)]| rw [wN] | rw [wU] | rw [wA] | rw [mA] | rw [mB] | rw [mC] | rw [cA] | rw [sY] | rw [sN] | rw [gY] | rw [gN] | rw [aY] | rw [aN] | rw [pY] | rw [pN] | rw [oY] | rw [oN] | rw [nY] | rw [nN] )
end Go.Proofs.T
namespace Go.Proofs.T
open Go Go.AX Go.Proofs
def isS (n k : Nat) (x : AV) : Prop := x = .row k n ∨ x = .sl k 0 n
def recB_ (l : List Rec) : Sl := .live ⟨.row 36 2, true, rcs l⟩
theorem rcs_cell2 {l k : List Rec} {i : Nat} (h : i < l.length) : ((rcs (l ++ k)).drop (i * 2)).take 2 = [.str (l.getD i ([], [])).1, .str (l.getD i ([], [])).2] := by
  rw [rcs_cell (by rw [List.length_append]; omega)]
  simp [List.getD_eq_getElem?_getD, List.getElem?_append_left h]
theorem loop39 (l l1 l2 : List Rec) (hl : l.length ≤ 1000) {x y : AV} (hx : isS l.length 0 x) (hy : isS l.length 1 y) : ∀ (k i : Nat), i + k = l.length →
    outOf 2 0 [] (rnd (W Γ) 2 l39_0 [0, 1, 5] b39_0 (some ([x, y, .int .i64 i], [.live ⟨.row 36 2, true, rcs (l ++ l1)⟩, .live ⟨.row 36 2, true, rcs (l ++ l2)⟩]))) =
      some (.norm, ⟨[], [.live ⟨.row 36 2, true, rcs (l ++ l1)⟩, .live ⟨.row 36 2, true, rcs (l ++ l2)⟩]⟩) := by
  intro k
  induction k with
  | zero =>
    intro i hi
    obtain rfl : i = l.length := by omega
    rcases hx with rfl | rfl <;> rcases hy with rfl | rfl <;> rw [rnd_some] <;> repeat (first | simp only [go_sem, seval, reduceCtorEq, b39_0]| rw [wN] | rw [wU] | rw [wA] | rw [mA] | rw [mB] | rw [mC] | rw [cA] | rw [sY] | rw [sN] | rw [gY] | rw [gN] | rw [aY] | rw [aN] | rw [pY] | rw [pN] | rw [oY] | rw [oN] | rw [nY] | rw [nN] )
  | succ k ih =>
    intro i hi
    have hlt : i < l.length := by omega
    have hn := ih (i + 1) (by omega)
    have hc := rcs_cell2 (k := l1) hlt
    have hd := rcs_cell2 (k := l2) hlt
    have := rcs_length (l ++ l1)
    have := rcs_length (l ++ l2)
    have e : (l ++ l1).length = l.length + l1.length := List.length_append
    have e : (l ++ l2).length = l.length + l2.length := List.length_append
    rcases hx with rfl | rfl <;> rcases hy with rfl | rfl <;> rw [rnd_some] <;> unfold b39_0 <;> repeat (first | simp only [go_sem, seval, reduceCtorEq, x39_0, hc, hd, hn, lks, AV.lk, eqL, eqA]| rw [wN] | rw [wU] | rw [wA] | rw [mA] | rw [mB] | rw [mC] | rw [cA] | rw [sY] | rw [sN] | rw [gY] | rw [gN] | rw [aY] | rw [aN] | rw [pY] | rw [pN] | rw [oY] | rw [oN] | rw [nY] | rw [nN] )
theorem c39 (l l1 l2 : List Rec) (hl : l.length ≤ 1000) {x y : AV} (hx : isS l.length 0 x) (hy : isS l.length 1 y) :
    W Γ 39 [x, y] [.live ⟨.row 36 2, true, rcs (l ++ l1)⟩, .live ⟨.row 36 2, true, rcs (l ++ l2)⟩] =
      some (.bool true, [.live ⟨.row 36 2, true, rcs (l ++ l1)⟩, .live ⟨.row 36 2, true, rcs (l ++ l2)⟩]) := by
  rw [W_code (fd := d39) rfl]
  have := loop39 l l1 l2 hl hx hy l.length 0 (by omega)
  simp only [Int.cast_ofNat_Int] at this
  rcases hx with rfl | rfl <;> rcases hy with rfl | rfl <;> repeat (first | simp only [go_sem, seval, reduceCtorEq, d39, x39_0, this]| rw [wN] | rw [wU] | rw [wA] | rw [mA] | rw [mB] | rw [mC] | rw [cA] | rw [sY] | rw [sN] | rw [gY] | rw [gN] | rw [aY] | rw [aN] | rw [pY] | rw [pN] | rw [oY] | rw [oN] | rw [nY] | rw [nN] )
theorem n39 : W Γ 39 [.nilsl, .row 0 0] [.live ⟨.row 36 2, true, []⟩] = some (.bool true, [.live ⟨.row 36 2, true, []⟩]) := by
  rw [W_code (fd := d39) rfl]
  repeat (first | simp only [go_sem, seval, reduceCtorEq, d39, x39_0, rnd_some, b39_0]| rw [wN] | rw [wU] | rw [wA] | rw [mA] | rw [mB] | rw [mC] | rw [cA] | rw [sY] | rw [sN] | rw [gY] | rw [gN] | rw [aY] | rw [aN] | rw [pY] | rw [pN] | rw [oY] | rw [oN] | rw [nY] | rw [nN] )
theorem c36 (c r : List UInt8) (hc : c.length ≤ 1000000) (hr : r.length ≤ 1000000) : W Γ 36 [.agg [.str c, .str r]] [] = some (.bool (recB c r), []) := by
  rw [W_code (fd := d36) rfl]
  repeat (first | simp only [go_sem, seval, reduceCtorEq, d36, c47 c r (by omega) (by omega)]| rw [wN] | rw [wU] | rw [wA] | rw [mA] | rw [mB] | rw [mC] | rw [cA] | rw [sY] | rw [sN] | rw [gY] | rw [gN] | rw [aY] | rw [aN] | rw [pY] | rw [pN] | rw [oY] | rw [oN] | rw [nY] | rw [nN] )
theorem c38 (a b : List UInt8) (n : Int) (ha : a.length ≤ 2000000) (hb : b.length ≤ 2000000) : W Γ 38 [.agg [.str a, .str b, .int .i64 n]] [] = some (.bool (valid a b n), []) := by
  rw [W_code (fd := d38) rfl]
  repeat (first | simp only [go_sem, seval, reduceCtorEq, d38, c46 a b n ha hb]| rw [wN] | rw [wU] | rw [wA] | rw [mA] | rw [mB] | rw [mC] | rw [cA] | rw [sY] | rw [sN] | rw [gY] | rw [gN] | rw [aY] | rw [aN] | rw [pY] | rw [pN] | rw [oY] | rw [oN] | rw [nY] | rw [nN] )
theorem in_not {k : Int} (h : ¬ (0 ≤ k ∧ k ≤ 59)) : (decide (0 ≤ k) && decide (k ≤ 59)) = false := by
  simp only [Bool.and_eq_false_iff, decide_eq_false_iff_not]; omega
theorem in_yes {k : Int} (h : 0 ≤ k ∧ k ≤ 59) : (decide (0 ≤ k) && decide (k ≤ 59)) = true := by
  simp only [Bool.and_eq_true, decide_eq_true_eq]; omega
def encI (k : Int) (c r : List UInt8) : List AV := if 0 ≤ k ∧ k ≤ 59 ∧ recB c r = true then [.str (lineB k.toNat c r), .bool true] else [.str [], .bool false]
theorem d31_in (k : Int) (c r : List UInt8) (hc : c.length ≤ 1000000) (hr : r.length ≤ 1000000) : W Γ 31 [.int .i64 k, .agg [.str c, .str r]] [] = some (.tup (encI k c r), []) := by
  unfold encI
  by_cases h : 0 ≤ k
  · obtain ⟨m, rfl⟩ := Int.eq_ofNat_of_zero_le h
    by_cases h2 : m ≤ 59
    · have e := c31 m c r (by omega) (by omega) (by omega)
      unfold encB at e
      simp only [h2, true_and] at e
      rw [e]
      simp only [show (0 : Int) ≤ (m : Int) ∧ (m : Int) ≤ 59 ↔ True by simp; omega, Int.toNat_natCast]
      congr 3
      simp [show (m : Int) ≤ 59 by omega]
    · rw [if_neg (by omega)]
      rw [W_code (fd := d31) rfl]
      have e := in_not (k := (m : Int)) (by omega)
      repeat (first | simp only [go_sem, seval, reduceCtorEq, d31, c58 m 0 59, e]| rw [wN] | rw [wU] | rw [wA] | rw [mA] | rw [mB] | rw [mC] | rw [cA] | rw [sY] | rw [sN] | rw [gY] | rw [gN] | rw [aY] | rw [aN] | rw [pY] | rw [pN] | rw [oY] | rw [oN] | rw [nY] | rw [nN] )
  · rw [if_neg (by omega)]
    rw [W_code (fd := d31) rfl]
    have e := in_not (k := k) (by omega)
    repeat (first | simp only [go_sem, seval, reduceCtorEq, d31, c58 k 0 59, e]| rw [wN] | rw [wU] | rw [wA] | rw [mA] | rw [mB] | rw [mC] | rw [cA] | rw [sY] | rw [sN] | rw [gY] | rw [gN] | rw [aY] | rw [aN] | rw [pY] | rw [pN] | rw [oY] | rw [oN] | rw [nY] | rw [nN] )
theorem c32 (k : Int) (c r : List UInt8) (hc : c.length ≤ 1000000) (hr : r.length ≤ 1000000) : W Γ 32 [.int .i64 k, .agg [.str c, .str r]] [] = some (.tup (encI k c r), []) := by
  rw [W_code (fd := d32) rfl]
  unfold encI
  have k2 := c47 c r (by omega) (by omega)
  by_cases h : 0 ≤ k ∧ k ≤ 59
  · have e := in_yes h
    obtain ⟨m, rfl⟩ := Int.eq_ofNat_of_zero_le h.1
    have k1 := c48 m c r (by omega) (by omega) (by omega)
    cases h2 : recB c r
    · rw [h2] at k2
      rw [if_neg (by simp)]
      repeat (first | simp only [go_sem, seval, reduceCtorEq, d32, c61 m 0 59, e, k2]| rw [wN] | rw [wU] | rw [wA] | rw [mA] | rw [mB] | rw [mC] | rw [cA] | rw [sY] | rw [sN] | rw [gY] | rw [gN] | rw [aY] | rw [aN] | rw [pY] | rw [pN] | rw [oY] | rw [oN] | rw [nY] | rw [nN] )
    · rw [h2] at k2
      rw [if_pos ⟨h.1, h.2, rfl⟩]
      repeat (first | simp only [go_sem, seval, reduceCtorEq, d32, c61 m 0 59, e, k2, k1]| rw [wN] | rw [wU] | rw [wA] | rw [mA] | rw [mB] | rw [mC] | rw [cA] | rw [sY] | rw [sN] | rw [gY] | rw [gN] | rw [aY] | rw [aN] | rw [pY] | rw [pN] | rw [oY] | rw [oN] | rw [nY] | rw [nN] )
  · have e := in_not h
    rw [if_neg (by omega)]
    repeat (first | simp only [go_sem, seval, reduceCtorEq, d32, c61 k 0 59, e]| rw [wN] | rw [wU] | rw [wA] | rw [mA] | rw [mB] | rw [mC] | rw [cA] | rw [sY] | rw [sN] | rw [gY] | rw [gN] | rw [aY] | rw [aN] | rw [pY] | rw [pN] | rw [oY] | rw [oN] | rw [nY] | rw [nN] )
end Go.Proofs.T
namespace Go.Proofs.T
open Go Go.AX Go.Proofs
theorem encI_form (k : Int) (c r : List UInt8) : ∃ s b, encI k c r = [.str s, .bool b] := by
  unfold encI; split <;> exact ⟨_, _, rfl⟩
theorem rcs_last (l : List Rec) (g : Rec) : ((rcs (l ++ [g])).drop (l.length * 2)).take 2 = [.str g.1, .str g.2] := by
  rw [rcs_drop, List.drop_left]; rfl
set_option maxHeartbeats 4000000 in
theorem c7 (c : CV) : ∃ σ', W Γ 7 [codA c] (codS c) = some (.bool true, σ') := by
  refine ⟨codS c, ?_⟩
  rw [W_code (fd := d7) rfl]
  by_cases hb : 65536 < c.len
  · have k := n27 c hb
    cases c <;> simp only [codA, codS] at k ⊢ <;> repeat (first | simp only [go_sem, seval, reduceCtorEq, d7, k]| rw [wN] | rw [wU] | rw [wA] | rw [mA] | rw [mB] | rw [mC] | rw [cA] | rw [sY] | rw [sN] | rw [gY] | rw [gN] | rw [aY] | rw [aN] | rw [pY] | rw [pN] | rw [oY] | rw [oN] | rw [nY] | rw [nN] )
  have k0 := c27 c (by omega)
  obtain ⟨x1, x2, k1, hx1, hx2⟩ := c28 c (by omega)
  obtain ⟨s1, k2, hs1⟩ := c30 c 1 (by omega) (by omega)
  obtain ⟨q, y1, y2, k3, hy1, hy2, hq⟩ := c29 (.row s1) (by simp only [CV.len]; omega)
  obtain ⟨s2, k4, hs2⟩ := c30 c 2 (by omega) (by omega)
  obtain ⟨z1, z2, p, k5, hz, hp⟩ := c33 (.row s2) (by simp only [CV.len]; omega)
  obtain ⟨s3, k6, hs3⟩ := c30 c 3 (by omega) (by omega)
  obtain ⟨a, b, n, u, v, k7, hab, hn0, hn1, hu, hv⟩ := c34 (.row s3) (by simp only [CV.len]; omega)
  have i1 := c35 x1 x2 (by omega) (by omega)
  have i2 := c36 x1 x2 (by omega) (by omega)
  have i3 := d31_in q y1 y2 (by omega) (by omega)
  have i4 := c32 q y1 y2 (by omega) (by omega)
  obtain ⟨es, eb, he⟩ := encI_form q y1 y2
  rw [he] at i3 i4
  have i5 := c37 z1 z2 p (by omega) (by omega)
  have i6 := c38 z1 z2 p (by omega) (by omega)
  have i7 := c17 a b n u v (by omega) (by omega) (by omega) (by omega)
  have i8 := c15 a b n u v (by omega) (by omega) (by omega) (by omega)
  have i9 := c12 a b n (by omega) (by omega)
  have j1 := c10 a b n (by omega) (by omega)
  have j2 := c19 a b n (by omega) (by omega)
  have j3 := c18 a b n (by omega) (by omega)
  generalize recB x1 x2 = rx at *
  generalize valid z1 z2 p = vz at *
  simp only [Int.cast_ofNat_Int] at k2 k4 k6
  cases h1 : valid a b n
  · have ea : appended a b n u v = [.agg [.str a, .str b, .int .i64 n], .int .i64 1] := by simp [appended, h1]
    have es : synced a b n = [.agg [.str [], .str [], .int .i64 0], .bool false] := by simp [synced, h1]
    rw [ea] at i7 i8
    rw [es] at i9 j1
    rw [h1, if_neg (by simp)] at j2 j3
    have j4 := c19 [] [] 0 (by simp) (by simp)
    have hv0 : valid [] [] 0 = true := by decide +kernel
    have hr0 : recsOf 60 0 ([] ++ []) = [] := by decide +kernel
    rw [if_pos hv0, hr0] at j4
    simp only [rcs, List.length_nil] at j4
    clear hv0 hr0
    cases c <;> simp only [codA, codS, cutA, rowB, List.append_nil, List.nil_append, List.cons_append, List.singleton_append] at k0 k1 k2 k3 k4 k5 k6 k7 ⊢ <;>
      repeat (first | simp only [go_sem, seval, reduceCtorEq, d7, k0, k1, k2, k3, k4, k5, k6, k7, i1, i2, i3, i4, i5, i6, i7, i8, i9, j1, j2, j3, j4, n39, lks, AV.lk, eqL, eqA, u8s_locs]| rw [wN] | rw [wU] | rw [wA] | rw [mA] | rw [mB] | rw [mC] | rw [cA] | rw [sY] | rw [sN] | rw [gY] | rw [gN] | rw [aY] | rw [aN] | rw [pY] | rw [pN] | rw [oY] | rw [oN] | rw [nY] | rw [nN] )
  · obtain ⟨m, rfl, hm, hl, _⟩ := valid_count h1
    have es : synced a b m = [.agg [.str (a ++ b), .str [], .int .i64 m], .bool true] := by simp [synced, h1]
    rw [es] at i9 j1
    rw [if_pos h1] at j2 j3
    have hk := kept_valid h1
    have j4 := c19 (a ++ b) [] m (by simp only [List.length_append]; omega) (by simp)
    rw [if_pos hk, List.append_nil] at j4
    have hrl := recs_len 60 0 (a ++ b)
    have w1 := c39 (recsOf 60 0 (a ++ b)) [] [] (by omega) (.inl rfl) (.inl rfl)
    simp only [List.append_nil] at w1
    cases h2 : recB u v
    · have ea : appended a b m u v = [.agg [.str a, .str b, .int .i64 m], .int .i64 1] := by simp [appended, h2]
      rw [ea] at i7 i8
      have w2 := w1
      cases c <;> simp only [codA, codS, cutA, rowB, List.append_nil, List.nil_append, List.cons_append, List.singleton_append] at k0 k1 k2 k3 k4 k5 k6 k7 ⊢ <;>
        repeat (first | simp only [go_sem, seval, reduceCtorEq, d7, k0, k1, k2, k3, k4, k5, k6, k7, i1, i2, i3, i4, i5, i6, i7, i8, i9, j1, j2, j3, j4, w1, w2, lks, AV.lk, eqL, eqA, u8s_locs]| rw [wN] | rw [wU] | rw [wA] | rw [mA] | rw [mB] | rw [mC] | rw [cA] | rw [sY] | rw [sN] | rw [gY] | rw [gN] | rw [aY] | rw [aN] | rw [pY] | rw [pN] | rw [oY] | rw [oN] | rw [nY] | rw [nN] )
    · by_cases h3 : m = 60
      · have ea : appended a b m u v = [.agg [.str a, .str b, .int .i64 m], .int .i64 2] := by
          unfold appended
          rw [if_pos ⟨h1, h2⟩, if_pos (by omega)]
        rw [ea] at i7 i8
        have w2 := w1
        cases c <;> simp only [codA, codS, cutA, rowB, List.append_nil, List.nil_append, List.cons_append, List.singleton_append] at k0 k1 k2 k3 k4 k5 k6 k7 ⊢ <;>
          repeat (first | simp only [go_sem, seval, reduceCtorEq, d7, k0, k1, k2, k3, k4, k5, k6, k7, i1, i2, i3, i4, i5, i6, i7, i8, i9, j1, j2, j3, j4, w1, w2, lks, AV.lk, eqL, eqA, u8s_locs]| rw [wN] | rw [wU] | rw [wA] | rw [mA] | rw [mB] | rw [mC] | rw [cA] | rw [sY] | rw [sN] | rw [gY] | rw [gN] | rw [aY] | rw [aN] | rw [pY] | rw [pN] | rw [oY] | rw [oN] | rw [nY] | rw [nN] )
      · have ea : appended a b m u v = [.agg [.str a, .str (b ++ lineB m u v), .int .i64 ((m + 1 : Nat) : Int)], .int .i64 0] := by
          unfold appended
          rw [if_pos ⟨h1, h2⟩, if_neg (by omega), Int.toNat_natCast]
          rfl
        rw [ea] at i7 i8
        obtain ⟨g1, g2⟩ := append_valid h1 h2 h3
        rw [show (m : Int) + 1 = ((m + 1 : Nat) : Int) from rfl] at g1
        have hll := line_len2 (k := m) (by omega) h2
        have j5 := c19 a (b ++ lineB m u v) ((m + 1 : Nat) : Int) (by omega) (by simp only [List.length_append]; omega)
        have j6 := c37 a (b ++ lineB m u v) ((m + 1 : Nat) : Int) (by omega) (by simp only [List.length_append]; omega)
        rw [if_pos g1, g2] at j5
        rw [g1] at j6
        have w2 := c39 (recsOf 60 0 (a ++ b)) [(u, v)] [] (by omega) (.inr rfl) (.inl rfl)
        simp only [List.append_nil] at w2
        have hla := rcs_last (recsOf 60 0 (a ++ b)) (u, v)
        generalize recsOf 60 0 (a ++ b) = L at *
        cases c <;> simp only [codA, codS, cutA, rowB, List.append_nil, List.nil_append, List.cons_append, List.singleton_append] at k0 k1 k2 k3 k4 k5 k6 k7 ⊢ <;>
          repeat (first | simp only [go_sem, seval, reduceCtorEq, d7, k0, k1, k2, k3, k4, k5, k6, k7, i1, i2, i3, i4, i5, i6, i7, i8, i9, j1, j2, j3, j4, w1, w2, lks, AV.lk, eqL, eqA, u8s_locs, j5, j6, hla]| rw [wN] | rw [wU] | rw [wA] | rw [mA] | rw [mB] | rw [mC] | rw [cA] | rw [sY] | rw [sN] | rw [gY] | rw [gN] | rw [aY] | rw [aN] | rw [pY] | rw [pN] | rw [oY] | rw [oN] | rw [nY] | rw [nN] )
end Go.Proofs.T
namespace Go.Proofs.T
open Go Go.AX Go.Proofs
/-! Crashes. -/
theorem bytes_u8s : ∀ s : List UInt8, bytesOf (u8s s) = some s
  | [] => rfl
  | x :: s => by
    have := bytes_u8s s
    simp only [u8s] at this
    simp [u8s, bytesOf, this]
theorem u8_minus (x : UInt8) : IntKind.u8.wrap (255 - (x.toNat : Int)) = ((255 - x.toNat : Nat) : Int) := by
  have := x.toNat_lt
  rw [IntKind.wrap_u8]
  omega
def flip (x : UInt8) : UInt8 := UInt8.ofNat (255 - x.toNat)
theorem flip_nat (x : UInt8) : (flip x).toNat = 255 - x.toNat := by
  unfold flip; rw [UInt8.toNat_ofNat_of_lt' (show 255 - x.toNat < 256 by omega)]
def crashed (a b : List UInt8) (k : Nat) (torn : Bool) : List UInt8 := if torn = true ∧ 0 < k then a ++ (b.take (k - 1) ++ [flip (b.getD (k - 1) 0)]) else a ++ b.take k
def crashI (a b : List UInt8) (n k : Int) (torn : Bool) : List AV := if valid a b n = true ∧ 0 ≤ k ∧ k ≤ b.length then [.str (crashed a b k.toNat torn), .bool true] else [.str [], .bool false]
theorem in_not2 {k m : Int} (h : ¬ (0 ≤ k ∧ k ≤ m)) : (decide (0 ≤ k) && decide (k ≤ m)) = false := by
  simp only [Bool.and_eq_false_iff, decide_eq_false_iff_not]; omega
theorem in_yes2 {k m : Int} (h : 0 ≤ k ∧ k ≤ m) : (decide (0 ≤ k) && decide (k ≤ m)) = true := by
  simp only [Bool.and_eq_true, decide_eq_true_eq]; omega
theorem take_last {b : List UInt8} {k : Nat} (h : k < b.length) : b.take (k + 1) = b.take k ++ [b.getD k 0] := by
  rw [List.getD_eq_getElem?_getD, List.getElem?_eq_getElem h, Option.getD_some, List.take_succ_eq_append_getElem h]
theorem u8s_append (s t : List UInt8) : u8s s ++ u8s t = u8s (s ++ t) := by simp [u8s]
theorem u8s_mid (s : List UInt8) (x : UInt8) : (u8s (s ++ [x]))[s.length]? = some (.int .u8 x.toNat) := by simp [u8s]
theorem u8s_midt (s : List UInt8) (x : UInt8) : (u8s (s ++ [x])).take s.length = u8s s := by rw [u8s_take]; simp
theorem u8s_midd (s : List UInt8) (x : UInt8) : (u8s (s ++ [x])).drop (s.length + 1) = [] := by rw [u8s_drop]; simp [u8s]
theorem u8s_put (s : List UInt8) (x : UInt8) : u8s s ++ [.int .u8 ((255 - x.toNat : Nat) : Int)] = u8s (s ++ [flip x]) := by
  rw [← u8s_append, ← flip_nat]; rfl
theorem c41 (a b : List UInt8) (n k : Int) (torn : Bool) (ha : a.length ≤ 2000000) (hb : b.length ≤ 2000000) : W Γ 41 [.agg [.str a, .str b, .int .i64 n], .int .i64 k, .bool torn] [] = some (.tup (crashI a b n k torn), []) := by
  rw [W_code (fd := d41) rfl]
  unfold crashI
  have k1 := c37 a b n ha hb
  have k2 := c58 k 0 b.length
  have hbt : ∀ (s : List UInt8) (N : Nat), N = s.length → bytesOf ((u8s s).take N) = some s := fun s N h => by rw [u8s_take, h, List.take_length, bytes_u8s]
  cases h1 : valid a b n
  · rw [h1] at k1
    rw [if_neg (by simp)]
    repeat (first | simp only [go_sem, seval, reduceCtorEq, d41, k1]| rw [wN] | rw [wU] | rw [wA] | rw [mA] | rw [mB] | rw [mC] | rw [cA] | rw [sY] | rw [sN] | rw [gY] | rw [gN] | rw [aY] | rw [aN] | rw [pY] | rw [pN] | rw [oY] | rw [oN] | rw [nY] | rw [nN] )
  · rw [h1] at k1
    by_cases h2 : 0 ≤ k ∧ k ≤ b.length
    · rw [in_yes2 h2] at k2
      rw [if_pos ⟨rfl, h2⟩]
      obtain ⟨m, rfl⟩ := Int.eq_ofNat_of_zero_le h2.1
      have hm : m ≤ b.length := by omega
      rw [Int.toNat_natCast]
      unfold crashed
      cases torn
      · rw [if_neg (by simp)]
        repeat (first | simp only [go_sem, seval, reduceCtorEq, d41, k1, k2, u8s_length, u8s_locs]| rw [wN] | rw [wU] | rw [wA] | rw [mA] | rw [mB] | rw [mC] | rw [cA] | rw [sY] | rw [sN] | rw [gY] | rw [gN] | rw [aY] | rw [aN] | rw [pY] | rw [pN] | rw [oY] | rw [oN] | rw [nY] | rw [nN] )
        rw [hbt _ _ (by simp only [List.length_append, List.length_take])]
        repeat (first | simp only [go_sem, seval, reduceCtorEq]| rw [wN] | rw [wU] | rw [wA] | rw [mA] | rw [mB] | rw [mC] | rw [cA] | rw [sY] | rw [sN] | rw [gY] | rw [gN] | rw [aY] | rw [aN] | rw [pY] | rw [pN] | rw [oY] | rw [oN] | rw [nY] | rw [nN] )
      · cases m with
        | zero =>
          rw [if_neg (by simp)]
          simp only [Nat.zero_le, Int.cast_ofNat_Int, List.take_zero, List.append_nil] at k2 ⊢
          repeat (first | simp only [go_sem, seval, reduceCtorEq, d41, k1, k2, u8s_length, u8s_locs]| rw [wN] | rw [wU] | rw [wA] | rw [mA] | rw [mB] | rw [mC] | rw [cA] | rw [sY] | rw [sN] | rw [gY] | rw [gN] | rw [aY] | rw [aN] | rw [pY] | rw [pN] | rw [oY] | rw [oN] | rw [nY] | rw [nN] )
          rw [hbt _ _ rfl]
          repeat (first | simp only [go_sem, seval, reduceCtorEq]| rw [wN] | rw [wU] | rw [wA] | rw [mA] | rw [mB] | rw [mC] | rw [cA] | rw [sY] | rw [sN] | rw [gY] | rw [gN] | rw [aY] | rw [aN] | rw [pY] | rw [pN] | rw [oY] | rw [oN] | rw [nY] | rw [nN] )
        | succ m =>
          rw [if_pos ⟨rfl, by omega⟩, Nat.add_sub_cancel]
          have e1 := take_last (b := b) (k := m) (by omega)
          generalize b.getD m 0 = x at *
          have hl : (b.take m).length = m := by rw [List.length_take]; omega
          generalize b.take m = y at *
          subst hl
          have ez : a.length + (y.length + 1) - 1 = (a ++ y).length := by rw [List.length_append]; omega
          have e2 := u8s_mid (a ++ y) x
          have e3 := u8s_midt (a ++ y) x
          have e4 := u8s_midd (a ++ y) x
          have e5 := u8s_put (a ++ y) x
          have e6 := hbt (a ++ (y ++ [flip x])) (a.length + (y.length + 1)) (by simp)
          rw [← ez, List.append_assoc] at e2 e3 e4
          rw [List.append_assoc] at e5
          repeat (first | simp only [go_sem, seval, reduceCtorEq, d41, k1, k2, e1, u8s_length, u8s_locs, e2, e3, e4, e5, e6, u8_minus]| rw [wN] | rw [wU] | rw [wA] | rw [mA] | rw [mB] | rw [mC] | rw [cA] | rw [sY] | rw [sN] | rw [gY] | rw [gN] | rw [aY] | rw [aN] | rw [pY] | rw [pN] | rw [oY] | rw [oN] | rw [nY] | rw [nN] )
    · rw [in_not2 h2] at k2
      rw [if_neg (fun h => h2 h.2)]
      repeat (first | simp only [go_sem, seval, reduceCtorEq, d41, k1, k2]| rw [wN] | rw [wU] | rw [wA] | rw [mA] | rw [mB] | rw [mC] | rw [cA] | rw [sY] | rw [sN] | rw [gY] | rw [gN] | rw [aY] | rw [aN] | rw [pY] | rw [pN] | rw [oY] | rw [oN] | rw [nY] | rw [nN] )
theorem c42 (a b : List UInt8) (n k : Int) (torn : Bool) (ha : a.length ≤ 2000000) (hb : b.length ≤ 2000000) : W Γ 42 [.agg [.str a, .str b, .int .i64 n], .int .i64 k, .bool torn] [] = some (.tup (crashI a b n k torn), []) := by
  rw [W_code (fd := d42) rfl]
  unfold crashI
  have k1 := c46 a b n ha hb
  have k2 := c61 k 0 b.length
  have hbt : ∀ (s : List UInt8) (N : Nat), N = s.length → bytesOf ((u8s s).take N) = some s := fun s N h => by rw [u8s_take, h, List.take_length, bytes_u8s]
  cases h1 : valid a b n
  · rw [h1] at k1
    rw [if_neg (by simp)]
    repeat (first | simp only [go_sem, seval, reduceCtorEq, d42, k1]| rw [wN] | rw [wU] | rw [wA] | rw [mA] | rw [mB] | rw [mC] | rw [cA] | rw [sY] | rw [sN] | rw [gY] | rw [gN] | rw [aY] | rw [aN] | rw [pY] | rw [pN] | rw [oY] | rw [oN] | rw [nY] | rw [nN] )
  · rw [h1] at k1
    by_cases h2 : 0 ≤ k ∧ k ≤ b.length
    · rw [in_yes2 h2] at k2
      rw [if_pos ⟨rfl, h2⟩]
      obtain ⟨m, rfl⟩ := Int.eq_ofNat_of_zero_le h2.1
      have hm : m ≤ b.length := by omega
      rw [Int.toNat_natCast]
      unfold crashed
      cases torn
      · rw [if_neg (by simp)]
        repeat (first | simp only [go_sem, seval, reduceCtorEq, d42, k1, k2, u8s_length, u8s_locs]| rw [wN] | rw [wU] | rw [wA] | rw [mA] | rw [mB] | rw [mC] | rw [cA] | rw [sY] | rw [sN] | rw [gY] | rw [gN] | rw [aY] | rw [aN] | rw [pY] | rw [pN] | rw [oY] | rw [oN] | rw [nY] | rw [nN] )
        rw [hbt _ _ (by simp only [List.length_append, List.length_take])]
        repeat (first | simp only [go_sem, seval, reduceCtorEq]| rw [wN] | rw [wU] | rw [wA] | rw [mA] | rw [mB] | rw [mC] | rw [cA] | rw [sY] | rw [sN] | rw [gY] | rw [gN] | rw [aY] | rw [aN] | rw [pY] | rw [pN] | rw [oY] | rw [oN] | rw [nY] | rw [nN] )
      · cases m with
        | zero =>
          rw [if_neg (by simp)]
          simp only [Nat.zero_le, Int.cast_ofNat_Int, List.take_zero, List.append_nil] at k2 ⊢
          repeat (first | simp only [go_sem, seval, reduceCtorEq, d42, k1, k2, u8s_length, u8s_locs]| rw [wN] | rw [wU] | rw [wA] | rw [mA] | rw [mB] | rw [mC] | rw [cA] | rw [sY] | rw [sN] | rw [gY] | rw [gN] | rw [aY] | rw [aN] | rw [pY] | rw [pN] | rw [oY] | rw [oN] | rw [nY] | rw [nN] )
          all_goals (rw [hbt _ _ rfl]; repeat (first | simp only [go_sem, seval, reduceCtorEq]| rw [wN] | rw [wU] | rw [wA] | rw [mA] | rw [mB] | rw [mC] | rw [cA] | rw [sY] | rw [sN] | rw [gY] | rw [gN] | rw [aY] | rw [aN] | rw [pY] | rw [pN] | rw [oY] | rw [oN] | rw [nY] | rw [nN] ))
        | succ m =>
          rw [if_pos ⟨rfl, by omega⟩, Nat.add_sub_cancel]
          have e1 := take_last (b := b) (k := m) (by omega)
          generalize b.getD m 0 = x at *
          have hl : (b.take m).length = m := by rw [List.length_take]; omega
          generalize b.take m = y at *
          subst hl
          have ez : y.length + 1 - 1 = (y).length := by omega
          have e2 := u8s_mid (y) x
          have e3 := u8s_midt (y) x
          have e4 := u8s_midd (y) x
          have e5 := u8s_put (y) x
          have e6 := hbt (y ++ [flip x]) (y.length + 1) (by simp)
          repeat (first | simp only [go_sem, seval, reduceCtorEq, d42, k1, k2, e1, u8s_length, u8s_locs, e2, e3, e4, e5, e6, u8_minus]| rw [wN] | rw [wU] | rw [wA] | rw [mA] | rw [mB] | rw [mC] | rw [cA] | rw [sY] | rw [sN] | rw [gY] | rw [gN] | rw [aY] | rw [aN] | rw [pY] | rw [pN] | rw [oY] | rw [oN] | rw [nY] | rw [nN] )
    · rw [in_not2 h2] at k2
      rw [if_neg (fun h => h2 h.2)]
      repeat (first | simp only [go_sem, seval, reduceCtorEq, d42, k1, k2]| rw [wN] | rw [wU] | rw [wA] | rw [mA] | rw [mB] | rw [mC] | rw [cA] | rw [sY] | rw [sN] | rw [gY] | rw [gN] | rw [aY] | rw [aN] | rw [pY] | rw [pN] | rw [oY] | rw [oN] | rw [nY] | rw [nN] )
def recov (s : List UInt8) : List AV := if s.length ≤ 30000 then [.agg [.str (s.take (rd 60 0 s).2.2), .str [], .int .i64 (rd 60 0 s).2.1], .int .i64 (rd 60 0 s).2.2, .bool true] else [.agg [.str [], .str [], .int .i64 0], .int .i64 0, .bool false]
theorem rd_le : ∀ (k n : Nat) (s : List UInt8), (rd k n s).2.2 ≤ s.length
  | 0, n, s => by simp [rd]
  | k + 1, n, s => by
    unfold rd
    split
    · rename_i h
      have := rd_le k (n + 1) (s.drop ((ahead s 10).length + 1))
      have h2 := good_len h
      simp only [List.length_drop] at this ⊢
      omega
    · simp
theorem c44 (s : List UInt8) (hs : s.length ≤ 2000000) : W Γ 44 [.str s] [] = some (.tup (recov s), []) := by
  rw [W_code (fd := d44) rfl]
  unfold recov
  by_cases h : s.length ≤ 30000
  · have k1 := c69 s (by omega)
    have := rd_le 60 0 s
    rw [if_pos h]
    repeat (first | simp only [go_sem, seval, reduceCtorEq, d44, k1]| rw [wN] | rw [wU] | rw [wA] | rw [mA] | rw [mB] | rw [mC] | rw [cA] | rw [sY] | rw [sN] | rw [gY] | rw [gN] | rw [aY] | rw [aN] | rw [pY] | rw [pN] | rw [oY] | rw [oN] | rw [nY] | rw [nN] )
  · rw [if_neg h]
    repeat (first | simp only [go_sem, seval, reduceCtorEq, d44]| rw [wN] | rw [wU] | rw [wA] | rw [mA] | rw [mB] | rw [mC] | rw [cA] | rw [sY] | rw [sN] | rw [gY] | rw [gN] | rw [aY] | rw [aN] | rw [pY] | rw [pN] | rw [oY] | rw [oN] | rw [nY] | rw [nN] )
theorem c45 (s : List UInt8) (hs : s.length ≤ 2000000) : W Γ 45 [.str s] [] = some (.tup (recov s), []) := by
  rw [W_code (fd := d45) rfl]
  unfold recov
  by_cases h : s.length ≤ 30000
  · have k1 := c49 s (by omega)
    have := rd_le 60 0 s
    rw [if_pos h]
    repeat (first | simp only [go_sem, seval, reduceCtorEq, d45, k1]| rw [wN] | rw [wU] | rw [wA] | rw [mA] | rw [mB] | rw [mC] | rw [cA] | rw [sY] | rw [sN] | rw [gY] | rw [gN] | rw [aY] | rw [aN] | rw [pY] | rw [pN] | rw [oY] | rw [oN] | rw [nY] | rw [nN] )
  · rw [if_neg h]
    repeat (first | simp only [go_sem, seval, reduceCtorEq, d45]| rw [wN] | rw [wU] | rw [wA] | rw [mA] | rw [mB] | rw [mC] | rw [cA] | rw [sY] | rw [sN] | rw [gY] | rw [gN] | rw [aY] | rw [aN] | rw [pY] | rw [pN] | rw [oY] | rw [oN] | rw [nY] | rw [nN] )
theorem c40 (c : CV) (hc : c.len ≤ 1000000) : ∃ s t : List UInt8, ∃ m k : Int, ∃ b : Bool, W Γ 40 [codA c] (codS c) = some (.tup [.agg [.str s, .str t, .int .i64 m], .int .i64 k, .bool b], codS c) ∧ s.length + t.length ≤ 10001 := by
  rw [W_code (fd := d40) rfl]
  obtain ⟨a1, sd1, s, t, m, e1, b1, c1, d1, f1⟩ := c62 c 0 0 (by omega) hc
  obtain ⟨x, a2, sd2, e2, b2, c2, d2⟩ := c64 c a1 sd1 ((t.length + 3 : Nat) : Int) (by omega) hc (by omega)
  obtain ⟨b, a3, sd3, e3, b3⟩ := c63 c a2 sd2 2 (by omega) hc (by omega)
  refine ⟨s, t, m, (x : Int) - 1, b, ?_, c1⟩
  have hx := c2 (by omega)
  have hw : IntKind.i64.wrap ((x : Int) - 1) = (x : Int) - 1 := by rw [IntKind.wrap_i64]; omega
  cases c <;> simp only [cur, codA, codS, Int.cast_ofNat_Int] at e1 e2 e3 ⊢ <;> repeat (first | simp only [go_sem, seval, reduceCtorEq, d40, e1, e2, e3, hw]| rw [wN] | rw [wU] | rw [wA] | rw [mA] | rw [mB] | rw [mC] | rw [cA] | rw [sY] | rw [sN] | rw [gY] | rw [gN] | rw [aY] | rw [aN] | rw [pY] | rw [pN] | rw [oY] | rw [oN] | rw [nY] | rw [nN] )
theorem c43 (c : CV) (hc : c.len ≤ 1000000) : ∃ s : List UInt8, W Γ 43 [codA c] (codS c) = some (.str s, codS c) ∧ s.length ≤ 1000000 := by
  rw [W_code (fd := d43) rfl]
  obtain ⟨a1, sd1, s, t, m, e1, b1, c1, d1, f1⟩ := c67 c 0 0 (by omega) hc
  obtain ⟨x, a2, sd2, e2, b2, c2, d2⟩ := c64 c a1 sd1 4 (by omega) hc (by omega)
  have hx := c2 (by omega)
  have hst : (s ++ t).length ≤ 5000 := by rw [List.length_append]; exact c1
  have hz : ∀ N : Nat, bytesOf (repA [.int .u8 0] N) = some (List.replicate N 0) := by
    intro N
    induction N with
    | zero => rfl
    | succ N ih => simp [repA, bytesOf, ih, List.replicate_succ]
  have hzl : ∀ N : Nat, (repA [.int .u8 0] N).length = N := by
    intro N
    induction N with
    | zero => rfl
    | succ N ih => simp [repA, ih]
  have hzo : ∀ N : Nat, AV.locsL (repA [.int .u8 0] N) = [] := by
    intro N
    induction N with
    | zero => rfl
    | succ N ih => simp [repA, AV.locsL, AV.locs, ih]
  have hzt : ∀ N : Nat, bytesOf ((repA [.int .u8 0] N).take N) = some (List.replicate N 0) := fun N => by rw [List.take_of_length_le (by rw [hzl]; exact Nat.le_refl _), hz]
  match x, hx with
  | 0, _ =>
    obtain ⟨a3, sd3, u, e3, b3, c3⟩ := c68 c a2 sd2 (s ++ t) [35, 64, 10, 48, 49] (by omega) hc (by omega) (by decide) (by decide)
    obtain ⟨b, a4, sd4, e4, b4⟩ := c63 c a3 sd3 40 (by omega) hc (by omega)
    cases b
    · refine ⟨u, ?_, by omega⟩
      cases c <;> simp only [cur, codA, codS, Int.cast_ofNat_Int] at e1 e2 e3 e4 ⊢ <;> repeat (first | simp only [go_sem, seval, reduceCtorEq, d43, e1, e2, e3, e4]| rw [wN] | rw [wU] | rw [wA] | rw [mA] | rw [mB] | rw [mC] | rw [cA] | rw [sY] | rw [sN] | rw [gY] | rw [gN] | rw [aY] | rw [aN] | rw [pY] | rw [pN] | rw [oY] | rw [oN] | rw [nY] | rw [nN] )
    · obtain ⟨y, a5, sd5, e5, b5, c5, d5⟩ := c64 c a4 sd4 2 (by omega) hc (by omega)
      have hy := c5 (by omega)
      refine ⟨List.replicate (30000 + y) 0, ?_, by rw [List.length_replicate]; omega⟩
      cases c <;> simp only [cur, codA, codS, Int.cast_ofNat_Int] at e1 e2 e3 e4 e5 ⊢ <;> repeat (first | simp only [go_sem, seval, reduceCtorEq, d43, e1, e2, e3, e4, e5, hzl, hzo, hzt]| rw [wN] | rw [wU] | rw [wA] | rw [mA] | rw [mB] | rw [mC] | rw [cA] | rw [sY] | rw [sN] | rw [gY] | rw [gN] | rw [aY] | rw [aN] | rw [pY] | rw [pN] | rw [oY] | rw [oN] | rw [nY] | rw [nN] )
  | 1, _ =>
    obtain ⟨y, a3, sd3, e3, b3, c3, d3⟩ := c64 c a2 sd2 (((s ++ t).length + 1 : Nat) : Int) (by omega) hc (by omega)
    have hy : y ≤ (s ++ t).length := by
      by_cases h : 1 < (((s ++ t).length + 1 : Nat) : Int)
      · have := c3 h; omega
      · have := d3 (by omega); omega
    obtain ⟨b, a4, sd4, e4, b4⟩ := c63 c a3 sd3 40 (by omega) hc (by omega)
    simp only [List.length_append] at e3 hy
    cases b
    · refine ⟨(s ++ t).take y, ?_, by rw [List.length_take]; omega⟩
      cases c <;> simp only [cur, codA, codS, Int.cast_ofNat_Int] at e1 e2 e3 e4 ⊢ <;> repeat (first | simp only [go_sem, seval, reduceCtorEq, d43, e1, e2, e3, e4]| rw [wN] | rw [wU] | rw [wA] | rw [mA] | rw [mB] | rw [mC] | rw [cA] | rw [sY] | rw [sN] | rw [gY] | rw [gN] | rw [aY] | rw [aN] | rw [pY] | rw [pN] | rw [oY] | rw [oN] | rw [nY] | rw [nN] )
    · obtain ⟨z, a6, sd6, e6, b6, c6, d6⟩ := c64 c a4 sd4 2 (by omega) hc (by omega)
      have hy6 := c6 (by omega)
      refine ⟨List.replicate (30000 + z) 0, ?_, by rw [List.length_replicate]; omega⟩
      cases c <;> simp only [cur, codA, codS, Int.cast_ofNat_Int] at e1 e2 e3 e4 e6 ⊢ <;> repeat (first | simp only [go_sem, seval, reduceCtorEq, d43, e1, e2, e3, e4, e6, hzl, hzo, hzt]| rw [wN] | rw [wU] | rw [wA] | rw [mA] | rw [mB] | rw [mC] | rw [cA] | rw [sY] | rw [sN] | rw [gY] | rw [gN] | rw [aY] | rw [aN] | rw [pY] | rw [pN] | rw [oY] | rw [oN] | rw [nY] | rw [nN] )
  | 2, _ =>
    obtain ⟨y, a3, sd3, e3, b3, c3, d3⟩ := c64 c a2 sd2 4 (by omega) hc (by omega)
    have hy := c3 (by omega)
    obtain ⟨a4, sd4, p, q, e4, b4, c4, d4⟩ := c56 c a3 sd3 (by omega) hc
    have e7 := c48 y p q (by omega) (by omega) (by omega)
    have hll : (lineB y p q).length ≤ 500 := by
      have h2 := ck_lt (bodyB y p q) 7 (by decide)
      have hl := Lib.itoa_length_le (ck 7 (bodyB y p q)) (by omega) (by omega)
      rw [Lib.itoa_nonneg] at hl
      have := decDigits_len (n := y)
      have := body_len (k := y) (c := p) (r := q)
      simp only [lineB, List.length_append, List.length_cons, List.length_nil]
      omega
    obtain ⟨b, a5, sd5, e5, b5⟩ := c63 c a4 sd4 40 (by omega) hc (by omega)
    simp only [List.length_append] at hst
    cases b
    · refine ⟨s ++ (t ++ lineB y p q), ?_, by simp only [List.length_append]; omega⟩
      cases c <;> simp only [cur, codA, codS, Int.cast_ofNat_Int] at e1 e2 e3 e4 e5 ⊢ <;> repeat (first | simp only [go_sem, seval, reduceCtorEq, d43, e1, e2, e3, e4, e5, e7]| rw [wN] | rw [wU] | rw [wA] | rw [mA] | rw [mB] | rw [mC] | rw [cA] | rw [sY] | rw [sN] | rw [gY] | rw [gN] | rw [aY] | rw [aN] | rw [pY] | rw [pN] | rw [oY] | rw [oN] | rw [nY] | rw [nN] )
    · obtain ⟨z, a6, sd6, e6, b6, c6, d6⟩ := c64 c a5 sd5 2 (by omega) hc (by omega)
      have hy6 := c6 (by omega)
      refine ⟨List.replicate (30000 + z) 0, ?_, by rw [List.length_replicate]; omega⟩
      cases c <;> simp only [cur, codA, codS, Int.cast_ofNat_Int] at e1 e2 e3 e4 e5 e6 ⊢ <;> repeat (first | simp only [go_sem, seval, reduceCtorEq, d43, e1, e2, e3, e4, e5, e7, e6, hzl, hzo, hzt]| rw [wN] | rw [wU] | rw [wA] | rw [mA] | rw [mB] | rw [mC] | rw [cA] | rw [sY] | rw [sN] | rw [gY] | rw [gN] | rw [aY] | rw [aN] | rw [pY] | rw [pN] | rw [oY] | rw [oN] | rw [nY] | rw [nN] )
  | 3, _ =>
    obtain ⟨b, a5, sd5, e5, b5⟩ := c63 c a2 sd2 40 (by omega) hc (by omega)
    cases b
    · refine ⟨s ++ t, ?_, by omega⟩
      cases c <;> simp only [cur, codA, codS, Int.cast_ofNat_Int] at e1 e2 e5 ⊢ <;> repeat (first | simp only [go_sem, seval, reduceCtorEq, d43, e1, e2, e5]| rw [wN] | rw [wU] | rw [wA] | rw [mA] | rw [mB] | rw [mC] | rw [cA] | rw [sY] | rw [sN] | rw [gY] | rw [gN] | rw [aY] | rw [aN] | rw [pY] | rw [pN] | rw [oY] | rw [oN] | rw [nY] | rw [nN] )
    · obtain ⟨z, a6, sd6, e6, b6, c6, d6⟩ := c64 c a5 sd5 2 (by omega) hc (by omega)
      have hy6 := c6 (by omega)
      refine ⟨List.replicate (30000 + z) 0, ?_, by rw [List.length_replicate]; omega⟩
      cases c <;> simp only [cur, codA, codS, Int.cast_ofNat_Int] at e1 e2 e5 e6 ⊢ <;> repeat (first | simp only [go_sem, seval, reduceCtorEq, d43, e1, e2, e5, e6, hzl, hzo, hzt]| rw [wN] | rw [wU] | rw [wA] | rw [mA] | rw [mB] | rw [mC] | rw [cA] | rw [sY] | rw [sN] | rw [gY] | rw [gN] | rw [aY] | rw [aN] | rw [pY] | rw [pN] | rw [oY] | rw [oN] | rw [nY] | rw [nN] )
end Go.Proofs.T
namespace Go.Proofs.T
open Go Go.AX Go.Proofs
/-! What a crash leaves. -/
theorem ahead_no (s : List UInt8) (c : UInt8) : c ∉ ahead s c := by
  induction s with
  | nil => simp [ahead]
  | cons x s ih =>
    unfold ahead at ih ⊢
    by_cases h : x = c
    · subst h; simp
    · simp only [List.takeWhile_cons, bne_iff_ne, ne_eq, h, not_false_eq_true, if_true, List.mem_cons, not_or]
      exact ⟨fun e => h e.symm, ih⟩
theorem drop_head {s : List UInt8} (h : (10 : UInt8) ∈ s) : s = ahead s 10 ++ 10 :: s.drop ((ahead s 10).length + 1) := by
  have e := (index_in 10 s h).2
  generalize ahead s 10 = x at *
  generalize behind s 10 = y at *
  subst e
  rw [← List.drop_drop]
  simp
theorem rd_good {k n : Nat} {s : List UInt8} (g : good n s = true) : (rd (k + 1) n s).2.1 = (rd k (n + 1) (s.drop ((ahead s 10).length + 1))).2.1 + 1 ∧ (rd (k + 1) n s).2.2 = (ahead s 10).length + 1 + (rd k (n + 1) (s.drop ((ahead s 10).length + 1))).2.2 ∧
    recsOf (k + 1) n s = (cmdOf (ahead s 10), repOf (ahead s 10)) :: recsOf k (n + 1) (s.drop ((ahead s 10).length + 1)) := by
  rw [rd, if_pos g, recsOf, if_pos g]; exact ⟨rfl, rfl, rfl⟩
theorem rd_bad {k n : Nat} {s : List UInt8} (g : ¬ good n s = true) : (rd (k + 1) n s).2.1 = 0 ∧ (rd (k + 1) n s).2.2 = 0 ∧ recsOf (k + 1) n s = [] := by
  rw [rd, if_neg g, recsOf, if_neg g]; exact ⟨rfl, rfl, rfl⟩
theorem good_of {n : Nat} {x y z : List UInt8} (h : (10 : UInt8) ∉ x) : good n (x ++ 10 :: y) = good n (x ++ 10 :: z) := by
  unfold good
  rw [(ahead_app h (y := y)).1, (ahead_app h (y := z)).1]
  simp
theorem drop_of {x y : List UInt8} (h : (10 : UInt8) ∉ x) : (x ++ 10 :: y).drop ((ahead (x ++ 10 :: y) 10).length + 1) = y := by
  rw [(ahead_app h (y := y)).1, ← List.drop_drop]; simp
/-- What was read, read again alone. -/
theorem rd_take : ∀ (k n : Nat) (s : List UInt8), (rd k n (s.take (rd k n s).2.2)).2.1 = (rd k n s).2.1 ∧ (rd k n (s.take (rd k n s).2.2)).2.2 = (rd k n s).2.2 ∧ recsOf k n (s.take (rd k n s).2.2) = recsOf k n s
  | 0, n, s => by simp [rd, recsOf]
  | k + 1, n, s => by
    by_cases g : good n s = true
    · obtain ⟨q1, q2, q3⟩ := rd_good (k := k) g
      obtain ⟨i1, i2, i3⟩ := rd_take k (n + 1) (s.drop ((ahead s 10).length + 1))
      have hs := drop_head (good_mem g)
      have hno := ahead_no s 10
      rw [q1, q2, q3]
      generalize hx : ahead s 10 = x at *
      generalize s.drop (x.length + 1) = y at *
      subst hs
      have et : (x ++ 10 :: y).take (x.length + 1 + (rd k (n + 1) y).2.2) = x ++ 10 :: y.take (rd k (n + 1) y).2.2 := by
        rw [show x.length + 1 + (rd k (n + 1) y).2.2 = x.length + (1 + (rd k (n + 1) y).2.2) by omega, List.take_length_add_append, Nat.add_comm 1, List.take_succ_cons]
      rw [et]
      have g2 : good n (x ++ 10 :: y.take (rd k (n + 1) y).2.2) = true := by rw [good_of hno (z := y)]; exact g
      obtain ⟨r1, r2, r3⟩ := rd_good (k := k) g2
      rw [drop_of hno] at r1 r2 r3
      rw [(ahead_app hno (y := y.take (rd k (n + 1) y).2.2)).1] at r2 r3
      rw [r1, r2, r3, i1, i2, i3]
      exact ⟨rfl, rfl, rfl⟩
    · obtain ⟨q1, q2, q3⟩ := rd_bad (k := k) g
      rw [q1, q2, q3]
      have : ¬ good n (s.take 0) = true := by simp [good_nil]
      exact rd_bad this
/-- A byte behind that ends no line adds no record. -/
theorem rec_tail : ∀ (k n : Nat) (w : List UInt8) (z : UInt8), z ≠ 10 → recsOf k n (w ++ [z]) = recsOf k n w
  | 0, n, w, z, _ => rfl
  | k + 1, n, w, z, hz => by
    by_cases hm : (10 : UInt8) ∈ w
    · obtain ⟨e1, e2⟩ := ahead_more (t := [z]) hm
      by_cases g : good n w = true
      · have g2 : good n (w ++ [z]) = true := by rw [good_more hm]; exact g
        rw [(rd_good (k := k) g).2.2, (rd_good (k := k) g2).2.2, e1, e2, rec_tail k (n + 1) _ z hz]
      · have g2 : ¬ good n (w ++ [z]) = true := by rw [good_more hm]; exact g
        rw [(rd_bad (k := k) g).2.2, (rd_bad (k := k) g2).2.2]
    · have g : ¬ good n w = true := fun g => hm (good_mem g)
      have g2 : ¬ good n (w ++ [z]) = true := fun g => by
        have := good_mem g
        simp only [List.mem_append, List.mem_singleton] at this
        rcases this with h | h
        · exact hm h
        · exact hz h.symm
      rw [(rd_bad (k := k) g).2.2, (rd_bad (k := k) g2).2.2]
/-- Fewer bytes: the first records. -/
theorem rec_prefix : ∀ (k n : Nat) (y t : List UInt8), ∃ l, recsOf k n (y ++ t) = recsOf k n y ++ l
  | 0, n, y, t => ⟨[], rfl⟩
  | k + 1, n, y, t => by
    by_cases g : good n y = true
    · have hm := good_mem g
      obtain ⟨e1, e2⟩ := ahead_more (t := t) hm
      have g2 : good n (y ++ t) = true := by rw [good_more hm]; exact g
      obtain ⟨l, hl⟩ := rec_prefix k (n + 1) (y.drop ((ahead y 10).length + 1)) t
      refine ⟨l, ?_⟩
      rw [(rd_good (k := k) g).2.2, (rd_good (k := k) g2).2.2, e1, e2, hl]
      rfl
    · exact ⟨_, by rw [(rd_bad (k := k) g).2.2, List.nil_append]⟩
/-- What is read whole holds nothing but lines. -/
theorem rd_bytes : ∀ (k n : Nat) (s : List UInt8), (rd k n s).2.2 = s.length → ∀ x ∈ s, x.toNat ≤ 126
  | 0, n, s, h => by
    simp only [rd] at h
    have : s = [] := List.eq_nil_of_length_eq_zero h.symm
    subst this
    intro x hx; cases hx
  | k + 1, n, s, h => by
    by_cases g : good n s = true
    · obtain ⟨_, q2, _⟩ := rd_good (k := k) g
      have hs := drop_head (good_mem g)
      have hl : s.length = (ahead s 10).length + 1 + (s.drop ((ahead s 10).length + 1)).length := by
        have := congrArg List.length hs
        simp only [List.length_append, List.length_cons] at this
        omega
      have ih := rd_bytes k (n + 1) (s.drop ((ahead s 10).length + 1)) (by omega)
      have g' := g
      unfold good at g'
      simp only [Bool.and_eq_true, decide_eq_true_eq] at g'
      obtain ⟨_, _, _, h4, h5, _⟩ := rec_spec g'.2.1.2
      have hline : ∀ x ∈ ahead s 10 ++ [10], x.toNat ≤ 126 := by
        rw [← g'.2.2]
        intro x hx
        simp only [lineB, bodyB, List.mem_append, List.mem_cons, List.not_mem_nil, or_false] at hx
        have d1 := dec_mem n
        have d2 := dec_mem (ck 7 (bodyB n (cmdOf (ahead s 10)) (repOf (ahead s 10))))
        rcases hx with (((((h | h) | h) | h) | h) | h | h) | h
        · have := d1 _ h; omega
        · subst h; decide
        · have := h4 _ h; omega
        · subst h; decide
        · have := h5 _ h; omega
        · subst h; decide
        · have := d2 x h; omega
        · subst h; decide
      intro x hx
      rw [hs] at hx
      simp only [List.mem_append, List.mem_cons] at hx hline ih
      rcases hx with h | h | h
      · exact hline x (.inl h)
      · subst h; decide
      · exact ih x h
    · obtain ⟨_, q2, _⟩ := rd_bad (k := k) g
      have : s = [] := List.eq_nil_of_length_eq_zero (by omega)
      subst this
      intro x hx; cases hx
theorem flip_not {x : UInt8} (h : x.toNat ≤ 126) : flip x ≠ 10 := fun e => by
  have := congrArg UInt8.toNat e
  rw [flip_nat] at this
  have : (10 : UInt8).toNat = 10 := rfl
  omega
/-- What a valid log reads behind a crash. -/
theorem crash_said {a b : List UInt8} {n : Int} {k : Nat} {torn : Bool} (hv : valid a b n = true) (hk : k ≤ b.length) :
    (crashed a b k torn).length ≤ 30000 ∧ a.length ≤ (rd 60 0 (crashed a b k torn)).2.2 ∧ ((crashed a b k torn).take (rd 60 0 (crashed a b k torn)).2.2).length = (rd 60 0 (crashed a b k torn)).2.2 ∧
    valid ((crashed a b k torn).take (rd 60 0 (crashed a b k torn)).2.2) [] ((rd 60 0 (crashed a b k torn)).2.1 : Int) = true ∧
    (∃ l, recsOf 60 0 (a ++ b) = recsOf 60 0 ((crashed a b k torn).take (rd 60 0 (crashed a b k torn)).2.2) ++ l ∧ (torn = false → k = b.length → l = [])) := by
  unfold valid okLog at hv
  simp only [Bool.and_eq_true, decide_eq_true_eq] at hv
  obtain ⟨h1, ⟨h2, h3⟩, h4⟩ := hv
  have hm := fun t => rd_more 60 0 a t h3
  have hb : (rd (60 - (rd 60 0 a).2.1) (0 + (rd 60 0 a).2.1) b).2.2 = b.length := by have := (hm b).2.1; omega
  have hby := rd_bytes _ _ _ hb
  -- the form
  have hf : ∃ y, crashed a b k torn = a ++ y ∧ y.length ≤ b.length ∧ ∃ l, recsOf (60 - (rd 60 0 a).2.1) (0 + (rd 60 0 a).2.1) b = recsOf (60 - (rd 60 0 a).2.1) (0 + (rd 60 0 a).2.1) y ++ l ∧ (torn = false → k = b.length → l = []) := by
    unfold crashed
    split
    · rename_i ht
      obtain ⟨rfl, hk0⟩ := ht
      refine ⟨_, rfl, by simp only [List.length_append, List.length_take, List.length_cons, List.length_nil]; omega, ?_⟩
      obtain ⟨l, hl⟩ := rec_prefix (60 - (rd 60 0 a).2.1) (0 + (rd 60 0 a).2.1) (b.take (k - 1)) (b.drop (k - 1))
      rw [List.take_append_drop] at hl
      have hx : b.getD (k - 1) 0 ∈ b := by
        rw [List.getD_eq_getElem?_getD, List.getElem?_eq_getElem (by omega), Option.getD_some]
        exact List.getElem_mem _
      refine ⟨l, by rw [rec_tail _ _ _ _ (flip_not (hby _ hx))]; exact hl, fun h => by cases h⟩
    · refine ⟨_, rfl, by rw [List.length_take]; omega, ?_⟩
      obtain ⟨l, hl⟩ := rec_prefix (60 - (rd 60 0 a).2.1) (0 + (rd 60 0 a).2.1) (b.take k) (b.drop k)
      rw [List.take_append_drop] at hl
      by_cases he : k = b.length
      · subst he
        exact ⟨[], by rw [List.take_length, List.append_nil], fun _ _ => rfl⟩
      · exact ⟨l, hl, fun _ h => absurd h he⟩
  obtain ⟨y, hy, hyl, l, hl, hl2⟩ := hf
  rw [hy]
  obtain ⟨m1, m2, m3⟩ := hm y
  obtain ⟨t1, t2, t3⟩ := rd_take 60 0 (a ++ y)
  have hle := rd_le 60 0 (a ++ y)
  have htl : ((a ++ y).take (rd 60 0 (a ++ y)).2.2).length = (rd 60 0 (a ++ y)).2.2 := by rw [List.length_take]; omega
  have hlen : (a ++ y).length = a.length + y.length := List.length_append
  refine ⟨by omega, by omega, htl, ?_, l, ?_, hl2⟩
  · unfold valid okLog
    simp only [Bool.and_eq_true, decide_eq_true_eq, List.append_nil, htl, List.length_nil, t1, t2]
    refine ⟨by omega, by simp⟩
  · rw [t3, m3, (hm b).2.2, hl, List.append_assoc]
end Go.Proofs.T
namespace Go.Proofs.T
open Go Go.AX Go.Proofs
theorem recov_form (s : List UInt8) : ∃ x n e f, recov s = [.agg [.str x, .str [], .int .i64 n], .int .i64 e, .bool f] := by
  unfold recov; split <;> exact ⟨_, _, _, _, rfl⟩
set_option maxHeartbeats 4000000 in
theorem c8 (c : CV) : ∃ σ', W Γ 8 [codA c] (codS c) = some (.bool true, σ') := by
  refine ⟨codS c, ?_⟩
  rw [W_code (fd := d8) rfl]
  by_cases hb : 65536 < c.len
  · have k := n27 c hb
    cases c <;> simp only [codA, codS] at k ⊢ <;> repeat (first | simp only [go_sem, seval, reduceCtorEq, d8, k]| rw [wN] | rw [wU] | rw [wA] | rw [mA] | rw [mB] | rw [mC] | rw [cA] | rw [sY] | rw [sN] | rw [gY] | rw [gN] | rw [aY] | rw [aN] | rw [pY] | rw [pN] | rw [oY] | rw [oN] | rw [nY] | rw [nN] )
  have k0 := c27 c (by omega)
  obtain ⟨a, b, n, k, torn, k1, hab⟩ := c40 c (by omega)
  obtain ⟨s1, k2, hs1⟩ := c30 c 1 (by omega) (by omega)
  obtain ⟨t, k3, ht⟩ := c43 (.row s1) (by simp only [CV.len]; omega)
  have i1 := c41 a b n k torn (by omega) (by omega)
  have i2 := c42 a b n k torn (by omega) (by omega)
  have i3 := c44 t (by omega)
  have i4 := c45 t (by omega)
  obtain ⟨rx, rn, re, rf, hr⟩ := recov_form t
  rw [hr] at i3 i4
  simp only [Int.cast_ofNat_Int] at k2
  by_cases h : valid a b n = true ∧ 0 ≤ k ∧ k ≤ b.length
  · obtain ⟨hv, h2⟩ := h
    obtain ⟨m, rfl⟩ := Int.eq_ofNat_of_zero_le h2.1
    have hm : m ≤ b.length := by omega
    have ec : crashI a b n m torn = [.str (crashed a b m torn), .bool true] := by
      unfold crashI; rw [if_pos ⟨hv, h2⟩, Int.toNat_natCast]
    rw [ec] at i1 i2
    obtain ⟨g1, g2, g3, g4, l, g5, g6⟩ := crash_said (torn := torn) hv hm
    have i5 := c44 (crashed a b m torn) (by omega)
    unfold recov at i5
    rw [if_pos g1] at i5
    have i6 := c37 ((crashed a b m torn).take (rd 60 0 (crashed a b m torn)).2.2) [] ((rd 60 0 (crashed a b m torn)).2.1 : Int) (by rw [List.length_take]; omega) (by simp)
    rw [g4] at i6
    have i7 := c19 ((crashed a b m torn).take (rd 60 0 (crashed a b m torn)).2.2) [] ((rd 60 0 (crashed a b m torn)).2.1 : Int) (by rw [List.length_take]; omega) (by simp)
    rw [if_pos g4, List.append_nil] at i7
    have i8 := c19 a b n (by omega) (by omega)
    have hL := recs_len 60 0 (a ++ b)
    rw [if_pos hv, g5] at i8
    rw [g5] at hL
    generalize recsOf 60 0 ((crashed a b m torn).take (rd 60 0 (crashed a b m torn)).2.2) = L at *
    generalize (crashed a b m torn).take (rd 60 0 (crashed a b m torn)).2.2 = r at *
    generalize (rd 60 0 (crashed a b m torn)).2.2 = e at *
    generalize (rd 60 0 (crashed a b m torn)).2.1 = cnt at *
    generalize crashed a b m torn = s at *
    rw [List.length_append] at hL
    have i9 := c39 L [] l (by omega) (.inl rfl) (.inr rfl)
    simp only [List.append_nil] at i9
    clear g4 hv ec g5
    cases torn
    · by_cases he : m = b.length
      · have := g6 rfl he
        subst this he
        simp only [List.append_nil] at i8 i9
        cases c <;> simp only [codA, codS, cutA, rowB, List.append_nil, List.nil_append, List.cons_append, List.singleton_append] at k0 k1 k2 k3 ⊢ <;>
          repeat (first | simp only [go_sem, seval, reduceCtorEq, d8, k0, k1, k2, k3, i1, i2, i3, i4, i5, i6, i7, i8, i9, g3, lks, AV.lk, eqL, eqA, u8s_locs, Nat.le_add_right]| rw [wN] | rw [wU] | rw [wA] | rw [mA] | rw [mB] | rw [mC] | rw [cA] | rw [sY] | rw [sN] | rw [gY] | rw [gN] | rw [aY] | rw [aN] | rw [pY] | rw [pN] | rw [oY] | rw [oN] | rw [nY] | rw [nN] )
      · cases c <;> simp only [codA, codS, cutA, rowB, List.append_nil, List.nil_append, List.cons_append, List.singleton_append] at k0 k1 k2 k3 ⊢ <;>
          repeat (first | simp only [go_sem, seval, reduceCtorEq, d8, k0, k1, k2, k3, i1, i2, i3, i4, i5, i6, i7, i8, i9, g3, lks, AV.lk, eqL, eqA, u8s_locs, Nat.le_add_right]| rw [wN] | rw [wU] | rw [wA] | rw [mA] | rw [mB] | rw [mC] | rw [cA] | rw [sY] | rw [sN] | rw [gY] | rw [gN] | rw [aY] | rw [aN] | rw [pY] | rw [pN] | rw [oY] | rw [oN] | rw [nY] | rw [nN] )
    · cases c <;> simp only [codA, codS, cutA, rowB, List.append_nil, List.nil_append, List.cons_append, List.singleton_append] at k0 k1 k2 k3 ⊢ <;>
        repeat (first | simp only [go_sem, seval, reduceCtorEq, d8, k0, k1, k2, k3, i1, i2, i3, i4, i5, i6, i7, i8, i9, g3, lks, AV.lk, eqL, eqA, u8s_locs, Nat.le_add_right]| rw [wN] | rw [wU] | rw [wA] | rw [mA] | rw [mB] | rw [mC] | rw [cA] | rw [sY] | rw [sN] | rw [gY] | rw [gN] | rw [aY] | rw [aN] | rw [pY] | rw [pN] | rw [oY] | rw [oN] | rw [nY] | rw [nN] )
  · have ec : crashI a b n k torn = [.str [], .bool false] := by unfold crashI; rw [if_neg h]
    rw [ec] at i1 i2
    clear h
    cases c <;> simp only [codA, codS, cutA, rowB, List.append_nil, List.nil_append, List.cons_append, List.singleton_append] at k0 k1 k2 k3 ⊢ <;>
      repeat (first | simp only [go_sem, seval, reduceCtorEq, d8, k0, k1, k2, k3, i1, i2, i3, i4, lks, AV.lk, eqL, eqA, u8s_locs]| rw [wN] | rw [wU] | rw [wA] | rw [mA] | rw [mB] | rw [mC] | rw [cA] | rw [sY] | rw [sN] | rw [gY] | rw [gN] | rw [aY] | rw [aN] | rw [pY] | rw [pN] | rw [oY] | rw [oN] | rw [nY] | rw [nN] )
end Go.Proofs.T
namespace Go.Proofs.T
open Go Go.AX Go.Proofs
/-! A code as an argument. -/
theorem u8_cells : ∀ {n : Nat} {cs : List AV}, tyd (repL [.int .u8] n) cs → ∃ s : List UInt8, cs = u8s s ∧ s.length = n
  | 0, cs, h => by
    simp only [repL, tyd] at h
    subst h
    exact ⟨[], rfl, rfl⟩
  | n + 1, cs, h => by
    simp only [repL, List.cons_append, List.nil_append, tyd] at h
    obtain ⟨z, r, rfl, hz, h⟩ := h
    obtain ⟨s, rfl, hs⟩ := u8_cells h
    have hz' : 0 ≤ z ∧ z < 256 := by
      simp only [Lit.wf, Bool.and_eq_true, decide_eq_true_eq] at hz
      have e1 : IntKind.u8.min = 0 := by decide
      have e2 : IntKind.u8.max = 255 := by decide
      rw [e1, e2] at hz
      omega
    refine ⟨UInt8.ofNat z.toNat :: s, ?_, by simp [hs]⟩
    simp only [u8s, List.map_cons]
    rw [UInt8.toNat_ofNat_of_lt' (show z.toNat < 256 by omega), Int.toNat_of_nonneg hz'.1]
theorem code_args {cells : List AV} {a : AV} {σ : Store} (h : tyd2 [.s [.int .u8]] 0 cells σ) (hc : cells = [a]) : ∃ c : CV, a = codA c ∧ σ = codS c := by
  subst hc
  rcases h with ⟨r, h1, h2⟩ | ⟨len, cs, r, σ', h1, rfl, hl, ht, h2⟩
  · obtain ⟨rfl, rfl⟩ := List.cons.inj h1
    obtain ⟨_, rfl⟩ := h2
    exact ⟨.nil, rfl, rfl⟩
  · obtain ⟨rfl, rfl⟩ := List.cons.inj h1
    obtain ⟨_, rfl⟩ := h2
    obtain ⟨s, rfl, rfl⟩ := u8_cells ht
    exact ⟨.sl s, rfl, rfl⟩
theorem tab_pos {P : Program} {W : World} {n : String} {k : IntKind} {zs : List Int} (h : Lib.TabIs P W n k zs) : 0 < W.heap.size := by
  unfold Lib.TabIs World.var? at h
  simp only [Option.bind_eq_some_iff] at h
  obtain ⟨g, _, h⟩ := h
  split at h
  · rename_i hh
    have := (Array.getElem?_eq_some_iff.1 hh).1
    omega
  · cases h
end Go.Proofs.T
