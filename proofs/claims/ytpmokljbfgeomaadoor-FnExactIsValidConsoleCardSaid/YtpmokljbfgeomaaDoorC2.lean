/- What is proved here: what some functions of the program and of the reference return; the conditions are the bounds written in each theorem. -/
import Derived.Test.YtpmokljbfgeomaaDoorC1
set_option linter.unusedSimpArgs false
set_option linter.unusedVariables false
namespace Go.Proofs.T
open Go Go.AX Go.Proofs
theorem mid_take {α : Type} {X Y : List α} {j : Nat} (h : X.length = j) : (X ++ Y).take j = X := by subst h; simp
theorem mid_drop {α : Type} {X Y : List α} {j : Nat} (h : X.length = j) : (X ++ Y).drop j = Y := by subst h; simp
theorem mid_get {α : Type} {X Y : List α} {y : α} {j : Nat} (h : X.length = j) : (X ++ y :: Y)[j]? = some y := by subst h; simp
theorem mid_take1 {α : Type} {X Y : List α} {y : α} {j : Nat} (h : X.length = j) : (X ++ y :: Y).take (j + 1) = X ++ [y] := by subst h; simp [List.take_append, List.take_of_length_le]
theorem mid_drop1 {α : Type} {X Y : List α} {y : α} {j : Nat} (h : X.length = j) : (X ++ y :: Y).drop (j + 1) = Y := by subst h; rw [← List.drop_drop]; simp
theorem mid_drop2 {α : Type} {X Y : List α} {y z : α} {j : Nat} (h : X.length = j) : (X ++ y :: z :: Y).drop (j + 2) = Y := by subst h; rw [← List.drop_drop]; simp
theorem mid_get1 {α : Type} {X Y : List α} {y z : α} {j : Nat} (h : X.length = j) : (X ++ y :: z :: Y)[j + 1]? = some z := by subst h; simp [List.getElem?_append]
def mks (k : Nat) : Nat → List Rec
  | 0 => []
  | n + 1 => (mt k, mt (k + 1)) :: mks (k + 2) n
theorem mks_length : ∀ (n k : Nat), (mks k n).length = n
  | 0, k => rfl
  | n + 1, k => by simp [mks, mks_length n]
theorem loop21 (N : Nat) (hN : N ≤ 1000) : ∀ (B A : List Rec) (k : Nat), A.length + B.length = N → k + 2 * B.length ≤ 1000000 →
    outOf 1 0 [1] (rnd (W Γ) 1 l21_0 [0, 1, 5] b21_0 (some ([.row 0 N, .int .i64 k, .int .i64 A.length], [.live ⟨.row 36 2, true, rcs (A ++ B)⟩]))) =
      some (.norm, ⟨[(1, .int .i64 ((k + 2 * B.length : Nat) : Int))], [.live ⟨.row 36 2, true, rcs (A ++ mks k B.length)⟩]⟩) := by
  intro B
  induction B with
  | nil =>
    intro A k h hk
    simp only [List.length_nil, Nat.add_zero] at h hk
    subst h
    rw [rnd_some]
    repeat (first | simp only [go_sem, seval, reduceCtorEq, b21_0, mks]| rw [wN] | rw [wU] | rw [wA] | rw [mA] | rw [mB] | rw [mC] | rw [cA] | rw [sY] | rw [sN] | rw [gY] | rw [gN] | rw [aY] | rw [aN] | rw [pY] | rw [pN] | rw [oY] | rw [oN] | rw [nY] | rw [nN] )
  | cons p B ih =>
    intro A k h hk
    simp only [List.length_cons] at h hk
    have hn := ih (A ++ [(mt k, mt (k + 1))]) (k + 2) (by simp only [List.length_append, List.length_cons, List.length_nil]; omega) (by omega)
    have hX := rcs_length A
    have e0 : rcs (A ++ p :: B) = rcs A ++ .str p.1 :: .str p.2 :: rcs B := by rw [← rcs_append]; rfl
    have e1 := fun (y : AV) Y => mid_take (Y := y :: Y) hX
    have e2 := fun (y : AV) Y => mid_drop1 (y := y) (Y := Y) hX
    have e3 := fun (y : AV) Y => mid_take1 (y := y) (Y := Y) hX
    have e4 := fun (y z : AV) Y => mid_drop2 (y := y) (z := z) (Y := Y) hX
    have hl : (rcs A ++ .str p.1 :: .str p.2 :: rcs B).length = (A.length + B.length + 1) * 2 := by simp only [List.length_append, List.length_cons, rcs_length]; omega
    have e5 : rcs A ++ .str (mt k) :: .str (mt (k + 1)) :: rcs B = rcs (A ++ ([(mt k, mt (k + 1))] ++ B)) := by rw [← rcs_append]; rfl
    have e6 : A ++ mks k (B.length + 1) = A ++ [(mt k, mt (k + 1))] ++ mks (k + 2) B.length := by simp [mks]
    simp only [List.length_append, List.length_cons, List.length_nil, List.append_assoc, List.cons_append, List.nil_append, Nat.zero_add] at hn
    rw [rnd_some, e0]
    unfold b21_0
    repeat (first | simp only [go_sem, seval, reduceCtorEq, x21_0, c52 k (by omega), c52 (k + 1) (by omega), rcs_locs, e1, e2, e3, e4, e5]| rw [wN] | rw [wU] | rw [wA] | rw [mA] | rw [mB] | rw [mC] | rw [cA] | rw [sY] | rw [sN] | rw [gY] | rw [gN] | rw [aY] | rw [aN] | rw [pY] | rw [pN] | rw [oY] | rw [oN] | rw [nY] | rw [nN] )
    rw [show k + 1 + 1 = k + 2 by omega, hn, show k + 2 + 2 * B.length = k + 2 * (B.length + 1) by omega]
    rfl
theorem c21 (l : List Rec) (hl : l.length ≤ 1000) : W Γ 21 [.row 0 l.length, .int .i64 1] [.live ⟨.row 36 2, true, rcs l⟩] =
    some (.int .i64 ((1 + 2 * l.length : Nat) : Int), [.live ⟨.row 36 2, true, rcs (mks 1 l.length)⟩]) := by
  rw [W_code (fd := d21) rfl]
  have := loop21 l.length hl l [] 1 (by simp) (by omega)
  simp only [Int.cast_ofNat_Int, List.length_nil, List.nil_append] at this
  repeat (first | simp only [go_sem, seval, reduceCtorEq, d21, x21_0, this]| rw [wN] | rw [wU] | rw [wA] | rw [mA] | rw [mB] | rw [mC] | rw [cA] | rw [sY] | rw [sN] | rw [gY] | rw [gN] | rw [aY] | rw [aN] | rw [pY] | rw [pN] | rw [oY] | rw [oN] | rw [nY] | rw [nN] )
theorem mks_split : ∀ (i n k : Nat), i ≤ n → mks k n = mks k i ++ mks (k + 2 * i) (n - i)
  | 0, n, k, _ => by simp [mks]
  | i + 1, n, k, h => by
    obtain ⟨n, rfl⟩ : ∃ m, n = m + 1 := ⟨n - 1, by omega⟩
    have := mks_split i n (k + 2) (by omega)
    simp only [mks, this, List.cons_append, Nat.add_sub_add_right]
    rw [show k + 2 + 2 * i = k + 2 * (i + 1) by omega]
theorem mks_getD {i n k : Nat} (h : i < n) : (mks k n).getD i ([], []) = (mt (k + 2 * i), mt (k + 2 * i + 1)) := by
  rw [mks_split i n k (by omega)]
  obtain ⟨m, hm⟩ : ∃ m, n - i = m + 1 := ⟨n - i - 1, by omega⟩
  rw [hm, List.getD_eq_getElem?_getD, List.getElem?_append_right (by rw [mks_length]; omega), mks_length, Nat.sub_self]
  rfl
theorem loop22 (N : Nat) (hN : N ≤ 1000) : ∀ (j i : Nat), i + j = N →
    outOf 1 0 [1] (rnd (W Γ) 1 l22_0 [0, 1, 5] b22_0 (some ([.row 0 N, .int .i64 ((1 + 2 * i : Nat) : Int), .int .i64 i], [.live ⟨.row 36 2, true, rcs (mks 1 N)⟩]))) =
      some (.norm, ⟨[(1, .int .i64 ((1 + 2 * N : Nat) : Int))], [.live ⟨.row 36 2, true, rcs (mks 1 N)⟩]⟩) := by
  intro j
  induction j with
  | zero =>
    intro i h
    obtain rfl : i = N := by omega
    rw [rnd_some]
    repeat (first | simp only [go_sem, seval, reduceCtorEq, b22_0]| rw [wN] | rw [wU] | rw [wA] | rw [mA] | rw [mB] | rw [mC] | rw [cA] | rw [sY] | rw [sN] | rw [gY] | rw [gN] | rw [aY] | rw [aN] | rw [pY] | rw [pN] | rw [oY] | rw [oN] | rw [nY] | rw [nN] )
  | succ j ih =>
    intro i h
    have hlt : i < N := by omega
    have hn := ih (i + 1) (by omega)
    have hl := mks_length N 1
    have e1 := rcs_fst (l := mks 1 N) (i := i) (by omega)
    have e2 := rcs_snd (l := mks 1 N) (i := i) (by omega)
    rw [mks_getD hlt] at e1 e2
    rw [show 1 + 2 * (i + 1) = 1 + 2 * i + 1 + 1 by omega] at hn
    rw [rnd_some]
    unfold b22_0
    repeat (first | simp only [go_sem, seval, reduceCtorEq, x22_0, c52 (1 + 2 * i) (by omega), c52 (1 + 2 * i + 1) (by omega), e1, e2, hn]| rw [wN] | rw [wU] | rw [wA] | rw [mA] | rw [mB] | rw [mC] | rw [cA] | rw [sY] | rw [sN] | rw [gY] | rw [gN] | rw [aY] | rw [aN] | rw [pY] | rw [pN] | rw [oY] | rw [oN] | rw [nY] | rw [nN] )
theorem c22 (N : Nat) (hN : N ≤ 1000) : W Γ 22 [.row 0 N, .int .i64 1] [.live ⟨.row 36 2, true, rcs (mks 1 N)⟩] =
    some (.int .i64 ((1 + 2 * N : Nat) : Int), [.live ⟨.row 36 2, true, rcs (mks 1 N)⟩]) := by
  rw [W_code (fd := d22) rfl]
  have := loop22 N hN N 0 (by simp)
  simp only [Int.cast_ofNat_Int, Nat.mul_zero, Nat.add_zero] at this
  repeat (first | simp only [go_sem, seval, reduceCtorEq, d22, x22_0, this]| rw [wN] | rw [wU] | rw [wA] | rw [mA] | rw [mB] | rw [mC] | rw [cA] | rw [sY] | rw [sN] | rw [gY] | rw [gN] | rw [aY] | rw [aN] | rw [pY] | rw [pN] | rw [oY] | rw [oN] | rw [nY] | rw [nN] )
def recsOf : Nat → Nat → List UInt8 → List Rec
  | 0, _, _ => []
  | k + 1, n, rest => if good n rest = true then (cmdOf (ahead rest 10), repOf (ahead rest 10)) :: recsOf k (n + 1) (rest.drop ((ahead rest 10).length + 1)) else []
theorem rd_recs : ∀ (k n : Nat) (s : List UInt8), (rd k n s).1 = rcs (recsOf k n s) ∧ (rd k n s).2.1 = (recsOf k n s).length
  | 0, n, s => by simp [rd, recsOf, rcs]
  | k + 1, n, s => by
    obtain ⟨h1, h2⟩ := rd_recs k (n + 1) (s.drop ((ahead s 10).length + 1))
    unfold rd recsOf
    split
    · simp only [h1, h2, rcs, List.length_cons, List.cons_append, List.nil_append, and_self]
    · simp [rcs]
theorem c19 (a b : List UInt8) (n : Int) (ha : a.length ≤ 2000000) (hb : b.length ≤ 2000000) : W Γ 19 [.agg [.str a, .str b, .int .i64 n]] [] =
    if valid a b n = true then some (.tup [.row 0 (recsOf 60 0 (a ++ b)).length, .bool true], [.live ⟨.row 36 2, true, rcs (recsOf 60 0 (a ++ b))⟩]) else some (.tup [.nilsl, .bool false], []) := by
  rw [W_code (fd := d19) rfl]
  have k := c50 a b n ha hb
  obtain ⟨e1, e2⟩ := rd_recs 60 0 (a ++ b)
  rw [e1, e2] at k
  unfold valid
  by_cases h : a.length + b.length ≤ 30000
  · rw [if_pos h] at k
    cases h2 : okLog a b n
    · rw [h2] at k
      rw [if_neg (by simp)]
      repeat (first | simp only [go_sem, seval, reduceCtorEq, d19, k]| rw [wN] | rw [wU] | rw [wA] | rw [mA] | rw [mB] | rw [mC] | rw [cA] | rw [sY] | rw [sN] | rw [gY] | rw [gN] | rw [aY] | rw [aN] | rw [pY] | rw [pN] | rw [oY] | rw [oN] | rw [nY] | rw [nN] )
    · rw [h2] at k
      rw [if_pos (by simp [h])]
      repeat (first | simp only [go_sem, seval, reduceCtorEq, d19, k]| rw [wN] | rw [wU] | rw [wA] | rw [mA] | rw [mB] | rw [mC] | rw [cA] | rw [sY] | rw [sN] | rw [gY] | rw [gN] | rw [aY] | rw [aN] | rw [pY] | rw [pN] | rw [oY] | rw [oN] | rw [nY] | rw [nN] )
  · rw [if_neg h] at k
    rw [if_neg (by simp [h])]
    repeat (first | simp only [go_sem, seval, reduceCtorEq, d19, k]| rw [wN] | rw [wU] | rw [wA] | rw [mA] | rw [mB] | rw [mC] | rw [cA] | rw [sY] | rw [sN] | rw [gY] | rw [gN] | rw [aY] | rw [aN] | rw [pY] | rw [pN] | rw [oY] | rw [oN] | rw [nY] | rw [nN] )
theorem c18 (a b : List UInt8) (n : Int) (ha : a.length ≤ 2000000) (hb : b.length ≤ 2000000) : W Γ 18 [.agg [.str a, .str b, .int .i64 n]] [] =
    if valid a b n = true then some (.tup [.row 0 (recsOf 60 0 (a ++ b)).length, .bool true], [.live ⟨.row 36 2, true, rcs (recsOf 60 0 (a ++ b))⟩]) else some (.tup [.row 0 0, .bool false], [.live ⟨.row 36 2, true, []⟩]) := by
  rw [W_code (fd := d18) rfl]
  have k := c46 a b n ha hb
  cases h : valid a b n
  · rw [h] at k
    rw [if_neg (by simp)]
    repeat (first | simp only [go_sem, seval, reduceCtorEq, d18, k]| rw [wN] | rw [wU] | rw [wA] | rw [mA] | rw [mB] | rw [mC] | rw [cA] | rw [sY] | rw [sN] | rw [gY] | rw [gN] | rw [aY] | rw [aN] | rw [pY] | rw [pN] | rw [oY] | rw [oN] | rw [nY] | rw [nN] )
  · obtain ⟨m, rfl, hm, hl, _⟩ := valid_count h
    have k2 := c49 (a ++ b) (by simp only [List.length_append]; omega)
    obtain ⟨e1, e2⟩ := rd_recs 60 0 (a ++ b)
    rw [e1, e2] at k2
    rw [h] at k
    rw [if_pos rfl]
    repeat (first | simp only [go_sem, seval, reduceCtorEq, d18, k, k2]| rw [wN] | rw [wU] | rw [wA] | rw [mA] | rw [mB] | rw [mC] | rw [cA] | rw [sY] | rw [sN] | rw [gY] | rw [gN] | rw [aY] | rw [aN] | rw [pY] | rw [pN] | rw [oY] | rw [oN] | rw [nY] | rw [nN] )
theorem recs_len (k n : Nat) (s : List UInt8) : (recsOf k n s).length ≤ k := by
  rw [← (rd_recs k n s).2]; exact rd_count k n s
theorem n20 : W Γ 20 [.nilsl, .row 0 0] [.live ⟨.row 36 2, true, []⟩] = some (.bool true, [.live ⟨.row 36 2, true, []⟩]) := by
  rw [W_code (fd := d20) rfl]
  repeat (first | simp only [go_sem, seval, reduceCtorEq, d20, x20_0, rnd_some, b20_0]| rw [wN] | rw [wU] | rw [wA] | rw [mA] | rw [mB] | rw [mC] | rw [cA] | rw [sY] | rw [sN] | rw [gY] | rw [gN] | rw [aY] | rw [aN] | rw [pY] | rw [pN] | rw [oY] | rw [oN] | rw [nY] | rw [nN] )
theorem n21 : W Γ 21 [.nilsl, .int .i64 1] [] = some (.int .i64 1, []) := by
  rw [W_code (fd := d21) rfl]
  repeat (first | simp only [go_sem, seval, reduceCtorEq, d21, x21_0, rnd_some, b21_0]| rw [wN] | rw [wU] | rw [wA] | rw [mA] | rw [mB] | rw [mC] | rw [cA] | rw [sY] | rw [sN] | rw [gY] | rw [gN] | rw [aY] | rw [aN] | rw [pY] | rw [pN] | rw [oY] | rw [oN] | rw [nY] | rw [nN] )
theorem n22 : W Γ 22 [.nilsl, .int .i64 1] [] = some (.int .i64 1, []) := by
  rw [W_code (fd := d22) rfl]
  repeat (first | simp only [go_sem, seval, reduceCtorEq, d22, x22_0, rnd_some, b22_0]| rw [wN] | rw [wU] | rw [wA] | rw [mA] | rw [mB] | rw [mC] | rw [cA] | rw [sY] | rw [sN] | rw [gY] | rw [gN] | rw [aY] | rw [aN] | rw [pY] | rw [pN] | rw [oY] | rw [oN] | rw [nY] | rw [nN] )
theorem c5 (a b : List UInt8) (n : Int) (ha : a.length ≤ maxLen) (hb : b.length ≤ maxLen) : W Γ 5 [.agg [.str a, .str b, .int .i64 n]] [] = some (.bool true, []) := by
  rw [W_code (fd := d5) rfl]
  have k := c9 a b n 1048576 (by omega) ha hb
  simp only [Int.cast_ofNat_Int] at k
  by_cases h : a.length + b.length ≤ 1048576
  · rw [if_pos h] at k
    have k1 := c18 a b n (by omega) (by omega)
    have k2 := c19 a b n (by omega) (by omega)
    by_cases hv : valid a b n = true
    · rw [if_pos hv] at k1 k2
      have := recs_len 60 0 (a ++ b)
      have k3 := c20 (recsOf 60 0 (a ++ b)) (by omega)
      have k4 := c21 (recsOf 60 0 (a ++ b)) (by omega)
      have k5 := c22 (recsOf 60 0 (a ++ b)).length (by omega)
      repeat (first | simp only [go_sem, seval, reduceCtorEq, d5, k, k1, k2, k3, k4, k5, c11]| rw [wN] | rw [wU] | rw [wA] | rw [mA] | rw [mB] | rw [mC] | rw [cA] | rw [sY] | rw [sN] | rw [gY] | rw [gN] | rw [aY] | rw [aN] | rw [pY] | rw [pN] | rw [oY] | rw [oN] | rw [nY] | rw [nN] )
    · rw [if_neg hv] at k1 k2
      repeat (first | simp only [go_sem, seval, reduceCtorEq, d5, k, k1, k2, c11, n20, n21, n22]| rw [wN] | rw [wU] | rw [wA] | rw [mA] | rw [mB] | rw [mC] | rw [cA] | rw [sY] | rw [sN] | rw [gY] | rw [gN] | rw [aY] | rw [aN] | rw [pY] | rw [pN] | rw [oY] | rw [oN] | rw [nY] | rw [nN] )
  · rw [if_neg h] at k
    repeat (first | simp only [go_sem, seval, reduceCtorEq, d5, k]| rw [wN] | rw [wU] | rw [wA] | rw [mA] | rw [mB] | rw [mC] | rw [cA] | rw [sY] | rw [sN] | rw [gY] | rw [gN] | rw [aY] | rw [aN] | rw [pY] | rw [pN] | rw [oY] | rw [oN] | rw [nY] | rw [nN] )
end Go.Proofs.T
namespace Go.Proofs.T
open Go Go.AX Go.Proofs
theorem drop_at {b : List Int} {i : Nat} (h : i < b.length) : b.drop i = b.getD i 0 :: b.drop (i + 1) := by
  rw [List.drop_eq_getElem_cons h, List.getD_eq_getElem?_getD, List.getElem?_eq_getElem h]; rfl
theorem loop76_0 (b : List Int) (hb : b.length = 16) (r : Nat) (hr : r < 4) : ∀ (k c : Nat), c + k = 4 →
    outOf 0 2 [1, 3] (rnd (W Γ) 0 l76_0 [1, 3, 4] b76_0 (some ([.ptr 0 0, .int .i64 r, .int .i64 c], [.live ⟨.box, true, ints b⟩]))) =
      if okR ((b.drop (r * 4 + c)).take k) = true then some (.norm, ⟨[(1, .ptr 0 0), (3, .int .i64 r)], [.live ⟨.box, true, ints b⟩]⟩) else some (.ret, ⟨[(2, .bool false)], []⟩) := by
  intro k
  induction k with
  | zero =>
    intro c hc
    obtain rfl : c = 4 := by omega
    rw [rnd_some, List.take_zero, if_pos (by simp [okR])]
    repeat (first | simp only [go_sem, seval, reduceCtorEq, b76_0]| rw [wN] | rw [wU] | rw [wA] | rw [mA] | rw [mB] | rw [mC] | rw [cA] | rw [sY] | rw [sN] | rw [gY] | rw [gN] | rw [aY] | rw [aN] | rw [pY] | rw [pN] | rw [oY] | rw [oN] | rw [nY] | rw [nN] )
  | succ k ih =>
    intro c hc
    have hn := ih (c + 1) (by omega)
    have hd := drop_at (b := b) (i := r * 4 + c) (by omega)
    have hg := ints_get (l := b) (j := r * 4 + c) (by omega)
    rw [rnd_some, hd, List.take_succ_cons]
    unfold b76_0
    obtain ⟨x, hx⟩ : ∃ x, b.getD (r * 4 + c) 0 = x := ⟨_, rfl⟩
    rw [hx] at hg ⊢
    by_cases h1 : 0 ≤ x
    · by_cases h2 : x ≤ 17
      · have e : okT x = true := by simp [okT, h1, h2]
        have e2 : okR (x :: (b.drop (r * 4 + c + 1)).take k) = okR ((b.drop (r * 4 + (c + 1))).take k) := by simp only [okR, List.all_cons, e, Bool.true_and]; rfl
        rw [e2]
        repeat (first | simp only [go_sem, seval, reduceCtorEq, x76_0, hg, c61, hn]| rw [wN] | rw [wU] | rw [wA] | rw [mA] | rw [mB] | rw [mC] | rw [cA] | rw [sY] | rw [sN] | rw [gY] | rw [gN] | rw [aY] | rw [aN] | rw [pY] | rw [pN] | rw [oY] | rw [oN] | rw [nY] | rw [nN] )
      · rw [if_neg (by simp [okR, okT, h2])]
        repeat (first | simp only [go_sem, seval, reduceCtorEq, x76_0, hg, c61]| rw [wN] | rw [wU] | rw [wA] | rw [mA] | rw [mB] | rw [mC] | rw [cA] | rw [sY] | rw [sN] | rw [gY] | rw [gN] | rw [aY] | rw [aN] | rw [pY] | rw [pN] | rw [oY] | rw [oN] | rw [nY] | rw [nN] )
    · rw [if_neg (by simp [okR, okT, h1])]
      repeat (first | simp only [go_sem, seval, reduceCtorEq, x76_0, hg, c61]| rw [wN] | rw [wU] | rw [wA] | rw [mA] | rw [mB] | rw [mC] | rw [cA] | rw [sY] | rw [sN] | rw [gY] | rw [gN] | rw [aY] | rw [aN] | rw [pY] | rw [pN] | rw [oY] | rw [oN] | rw [nY] | rw [nN] )
theorem loop76_1 (b : List Int) (hb : b.length = 16) : ∀ (k r : Nat), r + k = 4 →
    outOf 0 0 [] (rnd (W Γ) 0 l76_1 [1, 3] b76_1 (some ([.ptr 0 0, .int .i64 r], [.live ⟨.box, true, ints b⟩]))) =
      if okR (b.drop (r * 4)) = true then some (.norm, ⟨[], []⟩) else some (.ret, ⟨[(2, .bool false)], []⟩) := by
  intro k
  induction k with
  | zero =>
    intro r hr
    obtain rfl : r = 4 := by omega
    rw [rnd_some, List.drop_eq_nil_of_le (by omega), if_pos (by simp [okR])]
    repeat (first | simp only [go_sem, seval, reduceCtorEq, b76_1]| rw [wN] | rw [wU] | rw [wA] | rw [mA] | rw [mB] | rw [mC] | rw [cA] | rw [sY] | rw [sN] | rw [gY] | rw [gN] | rw [aY] | rw [aN] | rw [pY] | rw [pN] | rw [oY] | rw [oN] | rw [nY] | rw [nN] )
  | succ k ih =>
    intro r hr
    have hn := ih (r + 1) (by omega)
    have h0 := loop76_0 b hb r (by omega) 4 0 (by omega)
    simp only [Nat.add_zero, Int.cast_ofNat_Int] at h0
    change _ = if okR (rowB b r) = true then _ else _ at h0
    rw [rnd_some, okR_drop]
    unfold b76_1
    cases h : okR (rowB b r)
    · rw [h, if_neg (by simp)] at h0
      rw [Bool.false_and, if_neg (by simp)]
      repeat (first | simp only [go_sem, seval, reduceCtorEq, x76_1, x76_0, h0]| rw [wN] | rw [wU] | rw [wA] | rw [mA] | rw [mB] | rw [mC] | rw [cA] | rw [sY] | rw [sN] | rw [gY] | rw [gN] | rw [aY] | rw [aN] | rw [pY] | rw [pN] | rw [oY] | rw [oN] | rw [nY] | rw [nN] )
    · rw [h, if_pos rfl] at h0
      rw [Bool.true_and]
      repeat (first | simp only [go_sem, seval, reduceCtorEq, x76_1, x76_0, h0, hn]| rw [wN] | rw [wU] | rw [wA] | rw [mA] | rw [mB] | rw [mC] | rw [cA] | rw [sY] | rw [sN] | rw [gY] | rw [gN] | rw [aY] | rw [aN] | rw [pY] | rw [pN] | rw [oY] | rw [oN] | rw [nY] | rw [nN] )
theorem c76 (b : List Int) (hb : b.length = 16) : W Γ 76 [.agg (ints b)] [] = some (.bool (okR b), []) := by
  rw [W_code (fd := d76) rfl]
  have := loop76_1 b hb 4 0 (by omega)
  simp only [Nat.zero_mul, List.drop_zero, Int.cast_ofNat_Int] at this
  cases h : okR b
  · rw [h, if_neg (by simp)] at this
    repeat (first | simp only [go_sem, seval, reduceCtorEq, d76, x76_1, this]| rw [wN] | rw [wU] | rw [wA] | rw [mA] | rw [mB] | rw [mC] | rw [cA] | rw [sY] | rw [sN] | rw [gY] | rw [gN] | rw [aY] | rw [aN] | rw [pY] | rw [pN] | rw [oY] | rw [oN] | rw [nY] | rw [nN] | rw [boxed_len (by rw [ints_length]; omega)] )
  · rw [h, if_pos rfl] at this
    repeat (first | simp only [go_sem, seval, reduceCtorEq, d76, x76_1, this]| rw [wN] | rw [wU] | rw [wA] | rw [mA] | rw [mB] | rw [mC] | rw [cA] | rw [sY] | rw [sN] | rw [gY] | rw [gN] | rw [aY] | rw [aN] | rw [pY] | rw [pN] | rw [oY] | rw [oN] | rw [nY] | rw [nN] | rw [boxed_len (by rw [ints_length]; omega)] )
def deskB (b : List Int) (p n : Int) : Bool := okR b && (decide (0 ≤ p) && decide (p ≤ 9999999)) && (decide (0 ≤ n) && decide (n ≤ 1000))
theorem c55 (b : List Int) (hb : b.length = 16) (p n : Int) : W Γ 55 [.agg (ints (b ++ [p, n]))] [] = some (.bool (deskB b p n), []) := by
  rw [W_code (fd := d55) rfl]
  have e1 : (b ++ [p, n]).take 16 = b := by rw [← hb]; simp
  have hl : (b ++ [p, n]).length = 18 := by simp [hb]
  have g1 := ints_get (l := b ++ [p, n]) (j := 16) (by omega)
  have g2 := ints_get (l := b ++ [p, n]) (j := 17) (by omega)
  rw [show (b ++ [p, n]).getD 16 0 = p by rw [List.getD_eq_getElem?_getD, List.getElem?_append_right (by omega), hb]; rfl] at g1
  rw [show (b ++ [p, n]).getD 17 0 = n by rw [List.getD_eq_getElem?_getD, List.getElem?_append_right (by omega), hb]; rfl] at g2
  generalize b ++ [p, n] = x at *
  unfold deskB
  cases h1 : okR b
  · repeat (first | simp only [go_sem, seval, reduceCtorEq, d55, c78 b hb, hl, e1, h1]| rw [wN] | rw [wU] | rw [wA] | rw [mA] | rw [mB] | rw [mC] | rw [cA] | rw [sY] | rw [sN] | rw [gY] | rw [gN] | rw [aY] | rw [aN] | rw [pY] | rw [pN] | rw [oY] | rw [oN] | rw [nY] | rw [nN] | rw [boxed_len (by rw [ints_length]; omega)] )
  · by_cases h2 : 0 ≤ p
    · by_cases h3 : p ≤ 9999999
      · repeat (first | simp only [go_sem, seval, reduceCtorEq, d55, c78 b hb, hl, e1, h1, g1, g2, c58]| rw [wN] | rw [wU] | rw [wA] | rw [mA] | rw [mB] | rw [mC] | rw [cA] | rw [sY] | rw [sN] | rw [gY] | rw [gN] | rw [aY] | rw [aN] | rw [pY] | rw [pN] | rw [oY] | rw [oN] | rw [nY] | rw [nN] | rw [boxed_len (by rw [ints_length]; omega)] )
      · repeat (first | simp only [go_sem, seval, reduceCtorEq, d55, c78 b hb, hl, e1, h1, g1, g2, c58]| rw [wN] | rw [wU] | rw [wA] | rw [mA] | rw [mB] | rw [mC] | rw [cA] | rw [sY] | rw [sN] | rw [gY] | rw [gN] | rw [aY] | rw [aN] | rw [pY] | rw [pN] | rw [oY] | rw [oN] | rw [nY] | rw [nN] | rw [boxed_len (by rw [ints_length]; omega)] )
    · repeat (first | simp only [go_sem, seval, reduceCtorEq, d55, c78 b hb, hl, e1, h1, g1, g2, c58]| rw [wN] | rw [wU] | rw [wA] | rw [mA] | rw [mB] | rw [mC] | rw [cA] | rw [sY] | rw [sN] | rw [gY] | rw [gN] | rw [aY] | rw [aN] | rw [pY] | rw [pN] | rw [oY] | rw [oN] | rw [nY] | rw [nN] | rw [boxed_len (by rw [ints_length]; omega)] )
theorem c53 (b : List Int) (hb : b.length = 16) (p n : Int) : W Γ 53 [.agg (ints (b ++ [p, n]))] [] = some (.bool (deskB b p n), []) := by
  rw [W_code (fd := d53) rfl]
  have e1 : (b ++ [p, n]).take 16 = b := by rw [← hb]; simp
  have hl : (b ++ [p, n]).length = 18 := by simp [hb]
  have g1 := ints_get (l := b ++ [p, n]) (j := 16) (by omega)
  have g2 := ints_get (l := b ++ [p, n]) (j := 17) (by omega)
  rw [show (b ++ [p, n]).getD 16 0 = p by rw [List.getD_eq_getElem?_getD, List.getElem?_append_right (by omega), hb]; rfl] at g1
  rw [show (b ++ [p, n]).getD 17 0 = n by rw [List.getD_eq_getElem?_getD, List.getElem?_append_right (by omega), hb]; rfl] at g2
  generalize b ++ [p, n] = x at *
  unfold deskB
  cases h1 : okR b
  · repeat (first | simp only [go_sem, seval, reduceCtorEq, d53, c76 b hb, hl, e1, h1]| rw [wN] | rw [wU] | rw [wA] | rw [mA] | rw [mB] | rw [mC] | rw [cA] | rw [sY] | rw [sN] | rw [gY] | rw [gN] | rw [aY] | rw [aN] | rw [pY] | rw [pN] | rw [oY] | rw [oN] | rw [nY] | rw [nN] | rw [boxed_len (by rw [ints_length]; omega)] )
  · by_cases h2 : 0 ≤ p
    · by_cases h3 : p ≤ 9999999
      · repeat (first | simp only [go_sem, seval, reduceCtorEq, d53, c76 b hb, hl, e1, h1, g1, g2, c61]| rw [wN] | rw [wU] | rw [wA] | rw [mA] | rw [mB] | rw [mC] | rw [cA] | rw [sY] | rw [sN] | rw [gY] | rw [gN] | rw [aY] | rw [aN] | rw [pY] | rw [pN] | rw [oY] | rw [oN] | rw [nY] | rw [nN] | rw [boxed_len (by rw [ints_length]; omega)] )
      · repeat (first | simp only [go_sem, seval, reduceCtorEq, d53, c76 b hb, hl, e1, h1, g1, g2, c61]| rw [wN] | rw [wU] | rw [wA] | rw [mA] | rw [mB] | rw [mC] | rw [cA] | rw [sY] | rw [sN] | rw [gY] | rw [gN] | rw [aY] | rw [aN] | rw [pY] | rw [pN] | rw [oY] | rw [oN] | rw [nY] | rw [nN] | rw [boxed_len (by rw [ints_length]; omega)] )
    · repeat (first | simp only [go_sem, seval, reduceCtorEq, d53, c76 b hb, hl, e1, h1, g1, g2, c61]| rw [wN] | rw [wU] | rw [wA] | rw [mA] | rw [mB] | rw [mC] | rw [cA] | rw [sY] | rw [sN] | rw [gY] | rw [gN] | rw [aY] | rw [aN] | rw [pY] | rw [pN] | rw [oY] | rw [oN] | rw [nY] | rw [nN] | rw [boxed_len (by rw [ints_length]; omega)] )
end Go.Proofs.T
namespace Go.Proofs.T
open Go Go.AX Go.Proofs
theorem sixteen {b : List Int} (h : b.length = 16) : ∃ x0 x1 x2 x3 x4 x5 x6 x7 x8 x9 x10 x11 x12 x13 x14 x15, b = [x0, x1, x2, x3, x4, x5, x6, x7, x8, x9, x10, x11, x12, x13, x14, x15] := by
  match b, h with
  | [x0, x1, x2, x3, x4, x5, x6, x7, x8, x9, x10, x11, x12, x13, x14, x15], _ => exact ⟨x0, x1, x2, x3, x4, x5, x6, x7, x8, x9, x10, x11, x12, x13, x14, x15, rfl⟩
set_option maxRecDepth 100000 in
theorem c25 (b : List Int) (hb : b.length = 16) (p n m : Int) (s t : List UInt8) : W Γ 25 [.agg (ints b ++ [.int .i64 p, .int .i64 n, .str s, .str t, .int .i64 m])] [] = some (.agg (ints b ++ [.int .i64 p, .int .i64 n, .str s, .str t, .int .i64 m]), []) := by
  obtain ⟨x0, x1, x2, x3, x4, x5, x6, x7, x8, x9, x10, x11, x12, x13, x14, x15, rfl⟩ := sixteen hb
  exact fast 40 8 (by kernel_rfl)
theorem c23 (b : List Int) (hb : b.length = 16) (p n m : Int) (s t : List UInt8) (left : Nat) (hl : left ≤ 1048576) (ha : s.length ≤ maxLen) (ht : t.length ≤ maxLen) : W Γ 23 [.agg (ints b ++ [.int .i64 p, .int .i64 n, .str s, .str t, .int .i64 m]), .int .i64 left] [] =
    some (.int .i64 (if s.length + t.length ≤ left then ((left - s.length - t.length : Nat) : Int) else -1), []) := by
  rw [W_code (fd := d23) rfl]
  have k := c9 s t m left hl ha ht
  obtain ⟨x0, x1, x2, x3, x4, x5, x6, x7, x8, x9, x10, x11, x12, x13, x14, x15, rfl⟩ := sixteen hb
  simp only [ints, List.map_cons, List.map_nil]
  by_cases h : s.length + t.length ≤ left
  · rw [if_pos h] at k ⊢
    repeat (first | simp only [go_sem, seval, reduceCtorEq, d23, k]| rw [wN] | rw [wU] | rw [wA] | rw [mA] | rw [mB] | rw [mC] | rw [cA] | rw [sY] | rw [sN] | rw [gY] | rw [gN] | rw [aY] | rw [aN] | rw [pY] | rw [pN] | rw [oY] | rw [oN] | rw [nY] | rw [nN] )
  · rw [if_neg h] at k ⊢
    repeat (first | simp only [go_sem, seval, reduceCtorEq, d23, k]| rw [wN] | rw [wU] | rw [wA] | rw [mA] | rw [mB] | rw [mC] | rw [cA] | rw [sY] | rw [sN] | rw [gY] | rw [gN] | rw [aY] | rw [aN] | rw [pY] | rw [pN] | rw [oY] | rw [oN] | rw [nY] | rw [nN] )
def consB (b : List Int) (p n m : Int) (s t : List UInt8) : Bool := deskB b p n && valid s t m
theorem c26 (b : List Int) (hb : b.length = 16) (p n m : Int) (s t : List UInt8) (ha : s.length ≤ 2000000) (ht : t.length ≤ 2000000) : W Γ 26 [.agg (ints b ++ [.int .i64 p, .int .i64 n, .str s, .str t, .int .i64 m])] [] = some (.bool (consB b p n m s t), []) := by
  rw [W_code (fd := d26) rfl]
  have k := c55 b hb p n
  have k2 := c37 s t m ha ht
  unfold consB
  obtain ⟨x0, x1, x2, x3, x4, x5, x6, x7, x8, x9, x10, x11, x12, x13, x14, x15, rfl⟩ := sixteen hb
  simp only [ints, List.map_cons, List.map_nil, List.cons_append, List.nil_append] at k ⊢
  cases h : deskB [x0, x1, x2, x3, x4, x5, x6, x7, x8, x9, x10, x11, x12, x13, x14, x15] p n
  · rw [h] at k
    repeat (first | simp only [go_sem, seval, reduceCtorEq, d26, k]| rw [wN] | rw [wU] | rw [wA] | rw [mA] | rw [mB] | rw [mC] | rw [cA] | rw [sY] | rw [sN] | rw [gY] | rw [gN] | rw [aY] | rw [aN] | rw [pY] | rw [pN] | rw [oY] | rw [oN] | rw [nY] | rw [nN] )
  · rw [h] at k
    repeat (first | simp only [go_sem, seval, reduceCtorEq, d26, k, k2]| rw [wN] | rw [wU] | rw [wA] | rw [mA] | rw [mB] | rw [mC] | rw [cA] | rw [sY] | rw [sN] | rw [gY] | rw [gN] | rw [aY] | rw [aN] | rw [pY] | rw [pN] | rw [oY] | rw [oN] | rw [nY] | rw [nN] )
theorem c24 (b : List Int) (hb : b.length = 16) (p n m : Int) (s t : List UInt8) (ha : s.length ≤ 2000000) (ht : t.length ≤ 2000000) : W Γ 24 [.agg (ints b ++ [.int .i64 p, .int .i64 n, .str s, .str t, .int .i64 m])] [] = some (.bool (consB b p n m s t), []) := by
  rw [W_code (fd := d24) rfl]
  have k := c53 b hb p n
  have k2 := c46 s t m ha ht
  unfold consB
  obtain ⟨x0, x1, x2, x3, x4, x5, x6, x7, x8, x9, x10, x11, x12, x13, x14, x15, rfl⟩ := sixteen hb
  simp only [ints, List.map_cons, List.map_nil, List.cons_append, List.nil_append] at k ⊢
  cases h : deskB [x0, x1, x2, x3, x4, x5, x6, x7, x8, x9, x10, x11, x12, x13, x14, x15] p n
  · rw [h] at k
    repeat (first | simp only [go_sem, seval, reduceCtorEq, d24, k]| rw [wN] | rw [wU] | rw [wA] | rw [mA] | rw [mB] | rw [mC] | rw [cA] | rw [sY] | rw [sN] | rw [gY] | rw [gN] | rw [aY] | rw [aN] | rw [pY] | rw [pN] | rw [oY] | rw [oN] | rw [nY] | rw [nN] )
  · rw [h] at k
    repeat (first | simp only [go_sem, seval, reduceCtorEq, d24, k, k2]| rw [wN] | rw [wU] | rw [wA] | rw [mA] | rw [mB] | rw [mC] | rw [cA] | rw [sY] | rw [sN] | rw [gY] | rw [gN] | rw [aY] | rw [aN] | rw [pY] | rw [pN] | rw [oY] | rw [oN] | rw [nY] | rw [nN] )
theorem c6 (x0 x1 x2 x3 x4 x5 x6 x7 x8 x9 x10 x11 x12 x13 x14 x15 p n : Int) (s t : List UInt8) (m : Int) (ha : s.length ≤ maxLen) (ht : t.length ≤ maxLen) :
    W Γ 6 [.agg [.int .i64 x0, .int .i64 x1, .int .i64 x2, .int .i64 x3, .int .i64 x4, .int .i64 x5, .int .i64 x6, .int .i64 x7, .int .i64 x8, .int .i64 x9, .int .i64 x10, .int .i64 x11, .int .i64 x12, .int .i64 x13, .int .i64 x14, .int .i64 x15, .int .i64 p, .int .i64 n, .str s, .str t, .int .i64 m]] [] = some (.bool true, []) := by
  rw [W_code (fd := d6) rfl]
  obtain ⟨b, hbe⟩ : ∃ b, b = [x0, x1, x2, x3, x4, x5, x6, x7, x8, x9, x10, x11, x12, x13, x14, x15] := ⟨_, rfl⟩
  have hb : b.length = 16 := by rw [hbe]; rfl
  have k := c23 b hb p n m s t 1048576 (by omega) ha ht
  have k0 := c25 b hb p n m s t
  have k1 := c24 b hb p n m s t
  have k2 := c26 b hb p n m s t
  simp only [hbe, ints, List.map_cons, List.map_nil, List.cons_append, List.nil_append, Int.cast_ofNat_Int] at k k0 k1 k2
  by_cases h : s.length + t.length ≤ 1048576
  · rw [if_pos h] at k
    have k1 := k1 (by omega) (by omega)
    have k2 := k2 (by omega) (by omega)
    repeat (first | simp only [go_sem, seval, reduceCtorEq, d6, k, k0, k1, k2]| rw [wN] | rw [wU] | rw [wA] | rw [mA] | rw [mB] | rw [mC] | rw [cA] | rw [sY] | rw [sN] | rw [gY] | rw [gN] | rw [aY] | rw [aN] | rw [pY] | rw [pN] | rw [oY] | rw [oN] | rw [nY] | rw [nN] )
  · rw [if_neg h] at k
    repeat (first | simp only [go_sem, seval, reduceCtorEq, d6, k]| rw [wN] | rw [wU] | rw [wA] | rw [mA] | rw [mB] | rw [mC] | rw [cA] | rw [sY] | rw [sN] | rw [gY] | rw [gN] | rw [aY] | rw [aN] | rw [pY] | rw [pN] | rw [oY] | rw [oN] | rw [nY] | rw [nN] )
end Go.Proofs.T
