/- What is proved here: what some functions of the program and of the reference return; the conditions are the bounds written in each theorem. -/
import Derived.Test.YtpmokljbfgeomaaDoorTe
set_option linter.unusedSimpArgs false
set_option linter.unusedVariables false
namespace Go.Proofs.T
open Go Go.AX Go.Proofs
theorem c58 (a lo hi : Int) : W Γ 58 [.int .i64 a, .int .i64 lo, .int .i64 hi] [] = some (.bool (decide (lo ≤ a) && decide (a ≤ hi)), []) := by
  rw [W_code (fd := d58) rfl]
  by_cases h : lo ≤ a
  · repeat (first | simp only [go_sem, seval, reduceCtorEq, d58]| rw [wN] | rw [wU] | rw [wA] | rw [mA] | rw [mB] | rw [mC] | rw [cA] | rw [sY] | rw [sN] | rw [gY] | rw [gN] | rw [aY] | rw [aN] | rw [pY] | rw [pN] | rw [oY] | rw [oN] | rw [nY] | rw [nN] )
  · repeat (first | simp only [go_sem, seval, reduceCtorEq, d58]| rw [wN] | rw [wU] | rw [wA] | rw [mA] | rw [mB] | rw [mC] | rw [cA] | rw [sY] | rw [sN] | rw [gY] | rw [gN] | rw [aY] | rw [aN] | rw [pY] | rw [pN] | rw [oY] | rw [oN] | rw [nY] | rw [nN] )
theorem c61 (a lo hi : Int) : W Γ 61 [.int .i64 a, .int .i64 lo, .int .i64 hi] [] = some (.bool (decide (lo ≤ a) && decide (a ≤ hi)), []) := by
  rw [W_code (fd := d61) rfl]
  by_cases h : lo ≤ a
  · repeat (first | simp only [go_sem, seval, reduceCtorEq, d61]| rw [wN] | rw [wU] | rw [wA] | rw [mA] | rw [mB] | rw [mC] | rw [cA] | rw [sY] | rw [sN] | rw [gY] | rw [gN] | rw [aY] | rw [aN] | rw [pY] | rw [pN] | rw [oY] | rw [oN] | rw [nY] | rw [nN] )
  · repeat (first | simp only [go_sem, seval, reduceCtorEq, d61]| rw [wN] | rw [wU] | rw [wA] | rw [mA] | rw [mB] | rw [mC] | rw [cA] | rw [sY] | rw [sN] | rw [gY] | rw [gN] | rw [aY] | rw [aN] | rw [pY] | rw [pN] | rw [oY] | rw [oN] | rw [nY] | rw [nN] )
theorem step_at {s : List UInt8} {i : Nat} (h : i < s.length) : s.drop i = s.getD i 0 :: s.drop (i + 1) := by
  rw [List.drop_eq_getElem_cons h, List.getD_eq_getElem?_getD, List.getElem?_eq_getElem h]; rfl
theorem u8_lt (b : UInt8) : b.toNat < 256 := b.toNat_lt
theorem u8_eq {a b : UInt8} : a.toNat = b.toNat ↔ a = b := UInt8.toNat_inj
theorem loop71 (s : List UInt8) (b : UInt8) (hs : s.length ≤ 4611686018427387904) : ∀ (k i : Nat), i + k = s.length →
    outOf 0 0 [] (rnd (W Γ) 0 l71_0 [0, 1, 5] b71_0 (some ([.str s, .int .u8 b.toNat, .int .i64 i], []))) = if b ∈ s.drop i then some (.ret, ⟨[(4, .bool true)], []⟩) else some (.norm, ⟨[], []⟩) := by
  intro k
  induction k with
  | zero =>
    intro i hi
    obtain rfl : i = s.length := by omega
    rw [rnd_some, List.drop_length, if_neg (by simp)]
    repeat (first | simp only [go_sem, seval, reduceCtorEq, b71_0]| rw [wN] | rw [wU] | rw [wA] | rw [mA] | rw [mB] | rw [mC] | rw [cA] | rw [sY] | rw [sN] | rw [gY] | rw [gN] | rw [aY] | rw [aN] | rw [pY] | rw [pN] | rw [oY] | rw [oN] | rw [nY] | rw [nN] )
  | succ k ih =>
    intro i hi
    have hlt : i < s.length := by omega
    have hi := ih (i + 1) (by omega)
    rw [rnd_some, step_at hlt]
    unfold b71_0
    obtain ⟨c, hc⟩ : ∃ c, s.getD i 0 = c := ⟨_, rfl⟩
    rw [hc]
    by_cases hb : c.toNat = b.toNat
    · have := u8_eq.1 hb
      rw [if_pos (by simp [this])]
      repeat (first | simp only [go_sem, seval, reduceCtorEq, x71_0, hc]| rw [wN] | rw [wU] | rw [wA] | rw [mA] | rw [mB] | rw [mC] | rw [cA] | rw [sY] | rw [sN] | rw [gY] | rw [gN] | rw [aY] | rw [aN] | rw [pY] | rw [pN] | rw [oY] | rw [oN] | rw [nY] | rw [nN] )
    · have hb2 : ¬ b = c := fun e => hb (by rw [e])
      simp only [List.mem_cons, hb2, false_or]
      repeat (first | simp only [go_sem, seval, reduceCtorEq, x71_0, hc, hi]| rw [wN] | rw [wU] | rw [wA] | rw [mA] | rw [mB] | rw [mC] | rw [cA] | rw [sY] | rw [sN] | rw [gY] | rw [gN] | rw [aY] | rw [aN] | rw [pY] | rw [pN] | rw [oY] | rw [oN] | rw [nY] | rw [nN] )
theorem c71 (s : List UInt8) (b : UInt8) (hs : s.length ≤ 4611686018427387904) : W Γ 71 [.str s, .int .u8 b.toNat] [] = some (.bool (decide (b ∈ s)), []) := by
  rw [W_code (fd := d71) rfl]
  have := loop71 s b hs s.length 0 (by omega)
  simp only [List.drop_zero, Int.cast_ofNat_Int] at this
  by_cases hb : b ∈ s
  · rw [if_pos hb] at this
    repeat (first | simp only [go_sem, seval, reduceCtorEq, d71, x71_0, this, hb]| rw [wN] | rw [wU] | rw [wA] | rw [mA] | rw [mB] | rw [mC] | rw [cA] | rw [sY] | rw [sN] | rw [gY] | rw [gN] | rw [aY] | rw [aN] | rw [pY] | rw [pN] | rw [oY] | rw [oN] | rw [nY] | rw [nN] )
  · rw [if_neg hb] at this
    repeat (first | simp only [go_sem, seval, reduceCtorEq, d71, x71_0, this, hb]| rw [wN] | rw [wU] | rw [wA] | rw [mA] | rw [mB] | rw [mC] | rw [cA] | rw [sY] | rw [sN] | rw [gY] | rw [gN] | rw [aY] | rw [aN] | rw [pY] | rw [pN] | rw [oY] | rw [oN] | rw [nY] | rw [nN] )
def okB (c : UInt8) : Bool := decide (32 ≤ c.toNat) && decide (c.toNat ≤ 126) && !decide (c.toNat = 35)
theorem loop66 (s : List UInt8) (m : Int) (hs : s.length ≤ 4611686018427387904) : ∀ (k i : Nat), i + k = s.length →
    outOf 0 0 [0, 1] (rnd (W Γ) 0 l66_0 [0, 1, 7, 8] b66_0 (some ([.str s, .int .i64 m, .int .i64 s.length, .int .i64 i], []))) = if (s.drop i).all okB = true then some (.norm, ⟨[(0, .str s), (1, .int .i64 m)], []⟩) else some (.ret, ⟨[(4, .bool false)], []⟩) := by
  intro k
  induction k with
  | zero =>
    intro i hi
    obtain rfl : i = s.length := by omega
    rw [rnd_some, List.drop_length, if_pos (by simp)]
    repeat (first | simp only [go_sem, seval, reduceCtorEq, b66_0]| rw [wN] | rw [wU] | rw [wA] | rw [mA] | rw [mB] | rw [mC] | rw [cA] | rw [sY] | rw [sN] | rw [gY] | rw [gN] | rw [aY] | rw [aN] | rw [pY] | rw [pN] | rw [oY] | rw [oN] | rw [nY] | rw [nN] )
  | succ k ih =>
    intro i hi
    have hlt : i < s.length := by omega
    have hi := ih (i + 1) (by omega)
    rw [rnd_some, step_at hlt, List.all_cons]
    unfold b66_0
    obtain ⟨c, hc⟩ : ∃ c, s.getD i 0 = c := ⟨_, rfl⟩
    rw [hc]
    by_cases h1 : c.toNat < 32
    · rw [if_neg (by simp [okB]; omega)]
      repeat (first | simp only [go_sem, seval, reduceCtorEq, x66_0, hc]| rw [wN] | rw [wU] | rw [wA] | rw [mA] | rw [mB] | rw [mC] | rw [cA] | rw [sY] | rw [sN] | rw [gY] | rw [gN] | rw [aY] | rw [aN] | rw [pY] | rw [pN] | rw [oY] | rw [oN] | rw [nY] | rw [nN] )
    · by_cases h2 : 126 < c.toNat
      · rw [if_neg (by simp [okB]; omega)]
        repeat (first | simp only [go_sem, seval, reduceCtorEq, x66_0, hc]| rw [wN] | rw [wU] | rw [wA] | rw [mA] | rw [mB] | rw [mC] | rw [cA] | rw [sY] | rw [sN] | rw [gY] | rw [gN] | rw [aY] | rw [aN] | rw [pY] | rw [pN] | rw [oY] | rw [oN] | rw [nY] | rw [nN] )
      · by_cases h3 : c.toNat = 35
        · rw [if_neg (by simp [okB]; omega)]
          repeat (first | simp only [go_sem, seval, reduceCtorEq, x66_0, hc]| rw [wN] | rw [wU] | rw [wA] | rw [mA] | rw [mB] | rw [mC] | rw [cA] | rw [sY] | rw [sN] | rw [gY] | rw [gN] | rw [aY] | rw [aN] | rw [pY] | rw [pN] | rw [oY] | rw [oN] | rw [nY] | rw [nN] )
        · have hok : okB c = true := by simp [okB]; omega
          rw [hok, Bool.true_and]
          repeat (first | simp only [go_sem, seval, reduceCtorEq, x66_0, hc, hi]| rw [wN] | rw [wU] | rw [wA] | rw [mA] | rw [mB] | rw [mC] | rw [cA] | rw [sY] | rw [sN] | rw [gY] | rw [gN] | rw [aY] | rw [aN] | rw [pY] | rw [pN] | rw [oY] | rw [oN] | rw [nY] | rw [nN] )
def pr (s : List UInt8) (m : Int) : Bool := s.all okB && decide ((s.length : Int) ≤ m)
theorem c66 (s : List UInt8) (m : Int) (hs : s.length ≤ 4611686018427387904) : W Γ 66 [.str s, .int .i64 m] [] = some (.bool (pr s m), []) := by
  rw [W_code (fd := d66) rfl]
  have := loop66 s m hs s.length 0 (by omega)
  simp only [List.drop_zero, Int.cast_ofNat_Int] at this
  cases h : s.all okB
  · rw [h, if_neg (by simp)] at this
    repeat (first | simp only [go_sem, seval, reduceCtorEq, d66, x66_0, this, pr, h]| rw [wN] | rw [wU] | rw [wA] | rw [mA] | rw [mB] | rw [mC] | rw [cA] | rw [sY] | rw [sN] | rw [gY] | rw [gN] | rw [aY] | rw [aN] | rw [pY] | rw [pN] | rw [oY] | rw [oN] | rw [nY] | rw [nN] )
  · rw [h, if_pos rfl] at this
    repeat (first | simp only [go_sem, seval, reduceCtorEq, d66, x66_0, this, pr, h]| rw [wN] | rw [wU] | rw [wA] | rw [mA] | rw [mB] | rw [mC] | rw [cA] | rw [sY] | rw [sN] | rw [gY] | rw [gN] | rw [aY] | rw [aN] | rw [pY] | rw [pN] | rw [oY] | rw [oN] | rw [nY] | rw [nN] )
theorem loop70 (s : List UInt8) (m : Int) (hs : s.length ≤ 4611686018427387904) : ∀ (k i : Nat), i + k = s.length →
    outOf 0 0 [0, 1] (rnd (W Γ) 0 l70_0 [0, 1, 5] b70_0 (some ([.str s, .int .i64 m, .int .i64 i], []))) = if (s.drop i).all okB = true then some (.norm, ⟨[(0, .str s), (1, .int .i64 m)], []⟩) else some (.ret, ⟨[(4, .bool false)], []⟩) := by
  intro k
  induction k with
  | zero =>
    intro i hi
    obtain rfl : i = s.length := by omega
    rw [rnd_some, List.drop_length, if_pos (by simp)]
    repeat (first | simp only [go_sem, seval, reduceCtorEq, b70_0]| rw [wN] | rw [wU] | rw [wA] | rw [mA] | rw [mB] | rw [mC] | rw [cA] | rw [sY] | rw [sN] | rw [gY] | rw [gN] | rw [aY] | rw [aN] | rw [pY] | rw [pN] | rw [oY] | rw [oN] | rw [nY] | rw [nN] )
  | succ k ih =>
    intro i hi
    have hlt : i < s.length := by omega
    have hi := ih (i + 1) (by omega)
    rw [rnd_some, step_at hlt, List.all_cons]
    unfold b70_0
    obtain ⟨c, hc⟩ : ∃ c, s.getD i 0 = c := ⟨_, rfl⟩
    have hc256 := u8_lt c
    rw [hc]
    by_cases h1 : 32 ≤ c.toNat
    · by_cases h2 : c.toNat ≤ 126
      · by_cases h3 : c.toNat = 35
        · rw [if_neg (by simp [okB]; omega)]
          repeat (first | simp only [go_sem, seval, reduceCtorEq, x70_0, hc, c61]| rw [wN] | rw [wU] | rw [wA] | rw [mA] | rw [mB] | rw [mC] | rw [cA] | rw [sY] | rw [sN] | rw [gY] | rw [gN] | rw [aY] | rw [aN] | rw [pY] | rw [pN] | rw [oY] | rw [oN] | rw [nY] | rw [nN] )
        · have hok : okB c = true := by simp [okB]; omega
          rw [hok, Bool.true_and]
          repeat (first | simp only [go_sem, seval, reduceCtorEq, x70_0, hc, hi, c61]| rw [wN] | rw [wU] | rw [wA] | rw [mA] | rw [mB] | rw [mC] | rw [cA] | rw [sY] | rw [sN] | rw [gY] | rw [gN] | rw [aY] | rw [aN] | rw [pY] | rw [pN] | rw [oY] | rw [oN] | rw [nY] | rw [nN] )
      · rw [if_neg (by simp [okB]; omega)]
        repeat (first | simp only [go_sem, seval, reduceCtorEq, x70_0, hc, c61]| rw [wN] | rw [wU] | rw [wA] | rw [mA] | rw [mB] | rw [mC] | rw [cA] | rw [sY] | rw [sN] | rw [gY] | rw [gN] | rw [aY] | rw [aN] | rw [pY] | rw [pN] | rw [oY] | rw [oN] | rw [nY] | rw [nN] )
    · rw [if_neg (by simp [okB]; omega)]
      repeat (first | simp only [go_sem, seval, reduceCtorEq, x70_0, hc, c61]| rw [wN] | rw [wU] | rw [wA] | rw [mA] | rw [mB] | rw [mC] | rw [cA] | rw [sY] | rw [sN] | rw [gY] | rw [gN] | rw [aY] | rw [aN] | rw [pY] | rw [pN] | rw [oY] | rw [oN] | rw [nY] | rw [nN] )
theorem c70 (s : List UInt8) (m : Int) (hs : s.length ≤ 4611686018427387904) : W Γ 70 [.str s, .int .i64 m] [] = some (.bool (pr s m), []) := by
  rw [W_code (fd := d70) rfl]
  have := loop70 s m hs s.length 0 (by omega)
  simp only [List.drop_zero, Int.cast_ofNat_Int] at this
  cases h : s.all okB
  · rw [h, if_neg (by simp)] at this
    repeat (first | simp only [go_sem, seval, reduceCtorEq, d70, x70_0, this, pr, h]| rw [wN] | rw [wU] | rw [wA] | rw [mA] | rw [mB] | rw [mC] | rw [cA] | rw [sY] | rw [sN] | rw [gY] | rw [gN] | rw [aY] | rw [aN] | rw [pY] | rw [pN] | rw [oY] | rw [oN] | rw [nY] | rw [nN] )
  · rw [h, if_pos rfl] at this
    repeat (first | simp only [go_sem, seval, reduceCtorEq, d70, x70_0, this, pr, h]| rw [wN] | rw [wU] | rw [wA] | rw [mA] | rw [mB] | rw [mC] | rw [cA] | rw [sY] | rw [sN] | rw [gY] | rw [gN] | rw [aY] | rw [aN] | rw [pY] | rw [pN] | rw [oY] | rw [oN] | rw [nY] | rw [nN] )
end Go.Proofs.T
namespace Go.Proofs.T
open Go Go.AX Go.Proofs
theorem dig {n : Nat} (h : n < 10) : (([48, 49, 50, 51, 52, 53, 54, 55, 56, 57] : List UInt8).take (n + 1)).drop n = [UInt8.ofNat (48 + n)] := by
  revert n
  decide
theorem decDigits_len {n : Nat} : (Lib.decDigits n).length ≤ n + 1 := by
  induction n using Nat.strongRecOn with
  | _ n ih =>
    rw [Lib.decDigits]
    split
    · simp
    · have := ih (n / 10) (by omega)
      simp only [List.length_append, List.length_cons, List.length_nil]
      omega
theorem c73 (n : Nat) (hn : n ≤ 4611686018427387904) : W Γ 73 [.int .i64 n] [] = some (.str (Lib.decDigits n), []) := by
  induction n using Nat.strongRecOn with
  | _ n ih =>
    rw [W_code (fd := d73) rfl, Lib.decDigits]
    by_cases h : n < 10
    · have hd := dig h
      simp only [List.take_succ_cons] at hd
      repeat (first | simp only [go_sem, seval, reduceCtorEq, d73, h, hd]| rw [wN] | rw [wU] | rw [wA] | rw [mA] | rw [mB] | rw [mC] | rw [cA] | rw [sY] | rw [sN] | rw [gY] | rw [gN] | rw [aY] | rw [aN] | rw [pY] | rw [pN] | rw [oY] | rw [oN] | rw [nY] | rw [nN] )
    · have hd := dig (Nat.mod_lt n (by decide : 10 > 0))
      have hi := ih (n / 10) (by omega) (by omega)
      have := decDigits_len (n := n / 10)
      simp only [List.take_succ_cons] at hd
      repeat (first | simp only [go_sem, seval, reduceCtorEq, d73, h, hd, hi]| rw [wN] | rw [wU] | rw [wA] | rw [mA] | rw [mB] | rw [mC] | rw [cA] | rw [sY] | rw [sN] | rw [gY] | rw [gN] | rw [aY] | rw [aN] | rw [pY] | rw [pN] | rw [oY] | rw [oN] | rw [nY] | rw [nN] )
theorem c60 (n : Nat) (hn : n ≤ 4611686018427387904) : W Γ 60 [.int .i64 n] [] = some (.str (Lib.decDigits n), []) := by
  rw [W_prim (p := p60) rfl]
  simp only [p60]
  rw [if_pos (by omega), Lib.itoa_nonneg]
theorem index_mem (c : UInt8) : ∀ s : List UInt8, 0 ≤ Lib.indexByte s c ↔ c ∈ s
  | [] => by simp [Lib.indexByte]
  | b :: s => by
    have h := index_mem c s
    have hg := Lib.indexByte_ge s c
    simp only [Lib.indexByte]
    by_cases hb : b = c
    · simp [hb]
    · have hb' : ¬ c = b := fun e => hb e.symm
      simp only [beq_iff_eq, hb, if_false, List.mem_cons, hb', false_or]
      rw [← h]
      split <;> omega
theorem c81 (s : List UInt8) (c : UInt8) : W Γ 81 [.str s, .str [c]] [] = some (.bool (decide (c ∈ s)), []) := by
  rw [W_prim (p := p81) rfl]
  simp only [p81]
  rw [decide_eq_decide.2 (index_mem c s)]
/-! Checksums. -/
def ck (h : Nat) : List UInt8 → Nat
  | [] => h
  | b :: r => ck ((41 * h + b.toNat + 1) % 999979) r
theorem ck_lt : ∀ (s : List UInt8) (h : Nat), h < 999979 → ck h s < 999979
  | [], h, hh => hh
  | b :: r, h, _ => ck_lt r _ (Nat.mod_lt _ (by decide))
theorem loop85 (s : List UInt8) (hs : s.length ≤ 4611686018427387904) : ∀ (k i h : Nat), i + k = s.length → h < 999979 →
    outOf 0 0 [3] (rnd (W Γ) 0 l85_0 [0, 3, 4] b85_0 (some ([.str s, .int .i64 h, .int .i64 i], []))) = some (.norm, ⟨[(3, .int .i64 (ck h (s.drop i)))], []⟩) := by
  intro k
  induction k with
  | zero =>
    intro i h hi hh
    obtain rfl : i = s.length := by omega
    rw [rnd_some, List.drop_length]
    repeat (first | simp only [go_sem, seval, reduceCtorEq, b85_0, ck]| rw [wN] | rw [wU] | rw [wA] | rw [mA] | rw [mB] | rw [mC] | rw [cA] | rw [sY] | rw [sN] | rw [gY] | rw [gN] | rw [aY] | rw [aN] | rw [pY] | rw [pN] | rw [oY] | rw [oN] | rw [nY] | rw [nN] )
  | succ k ih =>
    intro i h hi hh
    have hlt : i < s.length := by omega
    have := u8_lt (s.getD i 0)
    have hi := ih (i + 1) ((41 * h + (s.getD i 0).toNat + 1) % 999979) (by omega) (Nat.mod_lt _ (by decide))
    rw [rnd_some, step_at hlt]
    unfold b85_0
    repeat (first | simp only [go_sem, seval, reduceCtorEq, x85_0, hi, ck]| rw [wN] | rw [wU] | rw [wA] | rw [mA] | rw [mB] | rw [mC] | rw [cA] | rw [sY] | rw [sN] | rw [gY] | rw [gN] | rw [aY] | rw [aN] | rw [pY] | rw [pN] | rw [oY] | rw [oN] | rw [nY] | rw [nN] )
theorem c85 (s : List UInt8) (hs : s.length ≤ 4611686018427387904) : W Γ 85 [.str s] [] = some (.int .i64 (ck 7 s), []) := by
  rw [W_code (fd := d85) rfl]
  have := loop85 s hs s.length 0 7 (by omega) (by decide)
  simp only [List.drop_zero, Int.cast_ofNat_Int] at this
  repeat (first | simp only [go_sem, seval, reduceCtorEq, d85, x85_0, this]| rw [wN] | rw [wU] | rw [wA] | rw [mA] | rw [mB] | rw [mC] | rw [cA] | rw [sY] | rw [sN] | rw [gY] | rw [gN] | rw [aY] | rw [aN] | rw [pY] | rw [pN] | rw [oY] | rw [oN] | rw [nY] | rw [nN] )
theorem loop80 (s : List UInt8) (hs : s.length ≤ 4611686018427387904) : ∀ (k i h : Nat), i + k = s.length → h < 999979 →
    outOf 0 0 [4] (rnd (W Γ) 0 l80_0 [0, 4, 10, 11] b80_0 (some ([.str s, .int .i64 h, .int .i64 s.length, .int .i64 i], []))) = some (.norm, ⟨[(4, .int .i64 (ck h (s.drop i)))], []⟩) := by
  intro k
  induction k with
  | zero =>
    intro i h hi hh
    obtain rfl : i = s.length := by omega
    rw [rnd_some, List.drop_length]
    repeat (first | simp only [go_sem, seval, reduceCtorEq, b80_0, ck]| rw [wN] | rw [wU] | rw [wA] | rw [mA] | rw [mB] | rw [mC] | rw [cA] | rw [sY] | rw [sN] | rw [gY] | rw [gN] | rw [aY] | rw [aN] | rw [pY] | rw [pN] | rw [oY] | rw [oN] | rw [nY] | rw [nN] )
  | succ k ih =>
    intro i h hi hh
    have hlt : i < s.length := by omega
    have := u8_lt (s.getD i 0)
    have hi := ih (i + 1) ((41 * h + (s.getD i 0).toNat + 1) % 999979) (by omega) (Nat.mod_lt _ (by decide))
    rw [rnd_some, step_at hlt]
    unfold b80_0
    repeat (first | simp only [go_sem, seval, reduceCtorEq, x80_0, hi, ck]| rw [wN] | rw [wU] | rw [wA] | rw [mA] | rw [mB] | rw [mC] | rw [cA] | rw [sY] | rw [sN] | rw [gY] | rw [gN] | rw [aY] | rw [aN] | rw [pY] | rw [pN] | rw [oY] | rw [oN] | rw [nY] | rw [nN] )
theorem c80 (s : List UInt8) (hs : s.length ≤ 4000) : W Γ 80 [.str s] [] = some (.tup [.int .i64 (ck 7 s), .bool true], []) := by
  rw [W_code (fd := d80) rfl]
  have := loop80 s (by omega) s.length 0 7 (by omega) (by decide)
  simp only [List.drop_zero, Int.cast_ofNat_Int] at this
  repeat (first | simp only [go_sem, seval, reduceCtorEq, d80, x80_0, this]| rw [wN] | rw [wU] | rw [wA] | rw [mA] | rw [mB] | rw [mC] | rw [cA] | rw [sY] | rw [sN] | rw [gY] | rw [gN] | rw [aY] | rw [aN] | rw [pY] | rw [pN] | rw [oY] | rw [oN] | rw [nY] | rw [nN] )
theorem c72 (s : List UInt8) (hs : s.length ≤ 4611686018427387904) : W Γ 72 [.str s] [] = some (.str (s ++ 35 :: Lib.decDigits (ck 7 s)), []) := by
  rw [W_code (fd := d72) rfl]
  have h1 := ck_lt s 7 (by decide)
  have := decDigits_len (n := ck 7 s)
  repeat (first | simp only [go_sem, seval, reduceCtorEq, d72, c85 s hs, c73 (ck 7 s) (by omega)]| rw [wN] | rw [wU] | rw [wA] | rw [mA] | rw [mB] | rw [mC] | rw [cA] | rw [sY] | rw [sN] | rw [gY] | rw [gN] | rw [aY] | rw [aN] | rw [pY] | rw [pN] | rw [oY] | rw [oN] | rw [nY] | rw [nN] )
/-! Records and their lines. -/
def cmdB (s : List UInt8) : Bool := decide (s ≠ []) && pr s 160 && !decide (64 ∈ s)
def recB (c r : List UInt8) : Bool := cmdB c && pr r 250
theorem c65 (s : List UInt8) (hs : s.length ≤ 4611686018427387904) : W Γ 65 [.str s] [] = some (.bool (cmdB s), []) := by
  rw [W_code (fd := d65) rfl]
  unfold cmdB
  by_cases h1 : s = []
  · repeat (first | simp only [go_sem, seval, reduceCtorEq, d65, h1]| rw [wN] | rw [wU] | rw [wA] | rw [mA] | rw [mB] | rw [mC] | rw [cA] | rw [sY] | rw [sN] | rw [gY] | rw [gN] | rw [aY] | rw [aN] | rw [pY] | rw [pN] | rw [oY] | rw [oN] | rw [nY] | rw [nN] )
  · cases h2 : pr s 160
    · repeat (first | simp only [go_sem, seval, reduceCtorEq, d65, h1, h2, c66 s 160 hs]| rw [wN] | rw [wU] | rw [wA] | rw [mA] | rw [mB] | rw [mC] | rw [cA] | rw [sY] | rw [sN] | rw [gY] | rw [gN] | rw [aY] | rw [aN] | rw [pY] | rw [pN] | rw [oY] | rw [oN] | rw [nY] | rw [nN] )
    · repeat (first | simp only [go_sem, seval, reduceCtorEq, d65, h1, h2, c66 s 160 hs, c81 s 64]| rw [wN] | rw [wU] | rw [wA] | rw [mA] | rw [mB] | rw [mC] | rw [cA] | rw [sY] | rw [sN] | rw [gY] | rw [gN] | rw [aY] | rw [aN] | rw [pY] | rw [pN] | rw [oY] | rw [oN] | rw [nY] | rw [nN] )
theorem c35 (c r : List UInt8) (hc : c.length ≤ 4611686018427387904) (hr : r.length ≤ 4611686018427387904) : W Γ 35 [.agg [.str c, .str r]] [] = some (.bool (recB c r), []) := by
  rw [W_code (fd := d35) rfl]
  unfold recB
  cases h : cmdB c
  · repeat (first | simp only [go_sem, seval, reduceCtorEq, d35, c65 c hc, h]| rw [wN] | rw [wU] | rw [wA] | rw [mA] | rw [mB] | rw [mC] | rw [cA] | rw [sY] | rw [sN] | rw [gY] | rw [gN] | rw [aY] | rw [aN] | rw [pY] | rw [pN] | rw [oY] | rw [oN] | rw [nY] | rw [nN] )
  · repeat (first | simp only [go_sem, seval, reduceCtorEq, d35, c65 c hc, h, c66 r 250 hr]| rw [wN] | rw [wU] | rw [wA] | rw [mA] | rw [mB] | rw [mC] | rw [cA] | rw [sY] | rw [sN] | rw [gY] | rw [gN] | rw [aY] | rw [aN] | rw [pY] | rw [pN] | rw [oY] | rw [oN] | rw [nY] | rw [nN] )
theorem c47 (c r : List UInt8) (hc : c.length ≤ 4611686018427387904) (hr : r.length ≤ 4611686018427387904) : W Γ 47 [.agg [.str c, .str r]] [] = some (.bool (recB c r), []) := by
  rw [W_code (fd := d47) rfl]
  unfold recB cmdB
  have h71 := c71 c 64 hc
  simp only [show ((64 : UInt8).toNat : Int) = 64 from rfl] at h71
  by_cases h1 : c = []
  · repeat (first | simp only [go_sem, seval, reduceCtorEq, d47, h1]| rw [wN] | rw [wU] | rw [wA] | rw [mA] | rw [mB] | rw [mC] | rw [cA] | rw [sY] | rw [sN] | rw [gY] | rw [gN] | rw [aY] | rw [aN] | rw [pY] | rw [pN] | rw [oY] | rw [oN] | rw [nY] | rw [nN] )
  · cases h2 : pr c 160
    · repeat (first | simp only [go_sem, seval, reduceCtorEq, d47, h1, h2, c70 c 160 hc]| rw [wN] | rw [wU] | rw [wA] | rw [mA] | rw [mB] | rw [mC] | rw [cA] | rw [sY] | rw [sN] | rw [gY] | rw [gN] | rw [aY] | rw [aN] | rw [pY] | rw [pN] | rw [oY] | rw [oN] | rw [nY] | rw [nN] )
    · by_cases h3 : 64 ∈ c
      · repeat (first | simp only [go_sem, seval, reduceCtorEq, d47, h1, h2, h3, c70 c 160 hc, h71]| rw [wN] | rw [wU] | rw [wA] | rw [mA] | rw [mB] | rw [mC] | rw [cA] | rw [sY] | rw [sN] | rw [gY] | rw [gN] | rw [aY] | rw [aN] | rw [pY] | rw [pN] | rw [oY] | rw [oN] | rw [nY] | rw [nN] )
      · repeat (first | simp only [go_sem, seval, reduceCtorEq, d47, h1, h2, h3, c70 c 160 hc, c70 r 250 hr, h71]| rw [wN] | rw [wU] | rw [wA] | rw [mA] | rw [mB] | rw [mC] | rw [cA] | rw [sY] | rw [sN] | rw [gY] | rw [gN] | rw [aY] | rw [aN] | rw [pY] | rw [pN] | rw [oY] | rw [oN] | rw [nY] | rw [nN] )
def bodyB (k : Nat) (c r : List UInt8) : List UInt8 := Lib.decDigits k ++ [32] ++ c ++ [64] ++ r
def lineB (k : Nat) (c r : List UInt8) : List UInt8 := bodyB k c r ++ 35 :: Lib.decDigits (ck 7 (bodyB k c r)) ++ [10]
theorem body_len {k : Nat} {c r : List UInt8} : (bodyB k c r).length = (Lib.decDigits k).length + c.length + r.length + 2 := by
  unfold bodyB
  simp only [List.length_append, List.length_cons, List.length_nil]
  omega
theorem c48 (k : Nat) (c r : List UInt8) (hk : k < 1000000) (hc : c.length ≤ 1000000) (hr : r.length ≤ 1000000) : W Γ 48 [.int .i64 k, .agg [.str c, .str r]] [] = some (.str (lineB k c r), []) := by
  rw [W_code (fd := d48) rfl]
  have hd := decDigits_len (n := k)
  have hq := decDigits_len (n := ck 7 (bodyB k c r))
  have hq2 := ck_lt (bodyB k c r) 7 (by decide)
  have hb : Lib.decDigits k ++ 32 :: (c ++ 64 :: r) = bodyB k c r := by simp [bodyB]
  have hlen := body_len (k := k) (c := c) (r := r)
  have h72 := c72 (bodyB k c r) (by omega)
  repeat (first | simp only [go_sem, seval, reduceCtorEq, d48, c73 k (by omega), hb, h72, lineB]| rw [wN] | rw [wU] | rw [wA] | rw [mA] | rw [mB] | rw [mC] | rw [cA] | rw [sY] | rw [sN] | rw [gY] | rw [gN] | rw [aY] | rw [aN] | rw [pY] | rw [pN] | rw [oY] | rw [oN] | rw [nY] | rw [nN] )
theorem c59 (s : List UInt8) (hs : s.length ≤ 450) (h35 : 35 ∉ s) : W Γ 59 [.str s] [] = some (.tup [.str (s ++ 35 :: Lib.decDigits (ck 7 s)), .bool true], []) := by
  rw [W_code (fd := d59) rfl]
  have hc := ck_lt s 7 (by decide)
  have hl := Lib.itoa_length_le (ck 7 s) (by omega) (by omega)
  rw [Lib.itoa_nonneg] at hl
  repeat (first | simp only [go_sem, seval, reduceCtorEq, d59, c80 s (by omega), c60 (ck 7 s) (by omega), c81 s 35, h35]| rw [wN] | rw [wU] | rw [wA] | rw [mA] | rw [mB] | rw [mC] | rw [cA] | rw [sY] | rw [sN] | rw [gY] | rw [gN] | rw [aY] | rw [aN] | rw [pY] | rw [pN] | rw [oY] | rw [oN] | rw [nY] | rw [nN] )
theorem dec_mem (n : Nat) : ∀ b ∈ Lib.decDigits n, 48 ≤ b.toNat ∧ b.toNat ≤ 57 := by
  induction n using Nat.strongRecOn with
  | _ n ih =>
    rw [Lib.decDigits]
    split
    · intro b hb
      simp only [List.mem_singleton] at hb
      subst hb
      rw [UInt8.toNat_ofNat']
      omega
    · intro b hb
      simp only [List.mem_append, List.mem_singleton] at hb
      rcases hb with hb | hb
      · exact ih (n / 10) (by omega) b hb
      · subst hb
        rw [UInt8.toNat_ofNat']
        omega
theorem pr_spec {s : List UInt8} {m : Int} (h : pr s m = true) : (s.length : Int) ≤ m ∧ ∀ b ∈ s, 32 ≤ b.toNat ∧ b.toNat ≤ 126 ∧ b.toNat ≠ 35 := by
  simp only [pr, Bool.and_eq_true, List.all_eq_true, decide_eq_true_eq] at h
  refine ⟨h.2, fun b hb => ?_⟩
  have := h.1 b hb
  simp only [okB, Bool.and_eq_true, decide_eq_true_eq, Bool.not_eq_true', decide_eq_false_iff_not] at this
  exact ⟨this.1.1, this.1.2, this.2⟩
theorem rec_spec {c r : List UInt8} (h : recB c r = true) : c ≠ [] ∧ c.length ≤ 160 ∧ r.length ≤ 250 ∧ (∀ b ∈ c, 32 ≤ b.toNat ∧ b.toNat ≤ 126 ∧ b.toNat ≠ 35) ∧ (∀ b ∈ r, 32 ≤ b.toNat ∧ b.toNat ≤ 126 ∧ b.toNat ≠ 35) ∧ 64 ∉ c := by
  simp only [recB, cmdB, Bool.and_eq_true, decide_eq_true_eq, Bool.not_eq_true', decide_eq_false_iff_not] at h
  obtain ⟨⟨⟨h1, h2⟩, h3⟩, h4⟩ := h
  obtain ⟨a1, a2⟩ := pr_spec h2
  obtain ⟨b1, b2⟩ := pr_spec h4
  exact ⟨h1, by omega, by omega, a2, b2, h3⟩
theorem dec_len2 {k : Nat} (hk : k ≤ 59) : (Lib.decDigits k).length ≤ 2 := by
  rw [Lib.decDigits]
  split
  · simp
  · rw [Lib.decDigits, dif_pos (by omega)]
    simp
theorem body_ok {k : Nat} {c r : List UInt8} (hk : k ≤ 59) (h : recB c r = true) : (bodyB k c r).length ≤ 450 ∧ 35 ∉ bodyB k c r := by
  obtain ⟨_, h2, h3, h4, h5, _⟩ := rec_spec h
  have := dec_len2 hk
  refine ⟨by rw [body_len]; omega, fun hm => ?_⟩
  simp only [bodyB, List.mem_append, List.mem_singleton] at hm
  rcases hm with (((hm | hm) | hm) | hm) | hm
  · have := dec_mem k 35 hm
    simp at this
  · simp at hm
  · exact (h4 35 hm).2.2 rfl
  · simp at hm
  · exact (h5 35 hm).2.2 rfl
def encB (k : Nat) (c r : List UInt8) : List AV := if k ≤ 59 ∧ recB c r = true then [.str (lineB k c r), .bool true] else [.str [], .bool false]
theorem c31 (k : Nat) (c r : List UInt8) (hk : k < 1000000) (hc : c.length ≤ 4611686018427387904) (hr : r.length ≤ 4611686018427387904) : W Γ 31 [.int .i64 k, .agg [.str c, .str r]] [] = some (.tup (encB k c r), []) := by
  rw [W_code (fd := d31) rfl]
  unfold encB
  by_cases h1 : k ≤ 59
  · cases h2 : recB c r
    · rw [if_neg (by simp)]
      repeat (first | simp only [go_sem, seval, reduceCtorEq, d31, c58 k 0 59, h2, c35 c r hc hr]| rw [wN] | rw [wU] | rw [wA] | rw [mA] | rw [mB] | rw [mC] | rw [cA] | rw [sY] | rw [sN] | rw [gY] | rw [gN] | rw [aY] | rw [aN] | rw [pY] | rw [pN] | rw [oY] | rw [oN] | rw [nY] | rw [nN] )
    · obtain ⟨g1, g2⟩ := body_ok h1 h2
      obtain ⟨_, q2, q3, _⟩ := rec_spec h2
      have q1 := dec_len2 h1
      have hb : Lib.decDigits k ++ 32 :: (c ++ 64 :: r) = bodyB k c r := by simp [bodyB]
      have hch := ck_lt (bodyB k c r) 7 (by decide)
      have hl := Lib.itoa_length_le (ck 7 (bodyB k c r)) (by omega) (by omega)
      rw [Lib.itoa_nonneg] at hl
      rw [if_pos ⟨h1, rfl⟩]
      repeat (first | simp only [go_sem, seval, reduceCtorEq, d31, c58 k 0 59, h2, c35 c r hc hr, c60 k (by omega), hb, c59 _ g1 g2, lineB]| rw [wN] | rw [wU] | rw [wA] | rw [mA] | rw [mB] | rw [mC] | rw [cA] | rw [sY] | rw [sN] | rw [gY] | rw [gN] | rw [aY] | rw [aN] | rw [pY] | rw [pN] | rw [oY] | rw [oN] | rw [nY] | rw [nN] )
  · rw [if_neg (fun h => h1 h.1)]
    repeat (first | simp only [go_sem, seval, reduceCtorEq, d31, c58 k 0 59]| rw [wN] | rw [wU] | rw [wA] | rw [mA] | rw [mB] | rw [mC] | rw [cA] | rw [sY] | rw [sN] | rw [gY] | rw [gN] | rw [aY] | rw [aN] | rw [pY] | rw [pN] | rw [oY] | rw [oN] | rw [nY] | rw [nN] )
end Go.Proofs.T
namespace Go.Proofs.T
open Go Go.AX Go.Proofs
def ahead (s : List UInt8) (c : UInt8) : List UInt8 := s.takeWhile (· != c)
def behind (s : List UInt8) (c : UInt8) : List UInt8 := (s.dropWhile (· != c)).drop 1
theorem index_in (c : UInt8) : ∀ s : List UInt8, c ∈ s → Lib.indexByte s c = (ahead s c).length ∧ s = ahead s c ++ c :: behind s c
  | [], h => by cases h
  | b :: s, h => by
    simp only [Lib.indexByte, ahead, behind]
    by_cases hb : b = c
    · subst hb; simp
    · have hm : c ∈ s := by
        rcases List.mem_cons.1 h with e | e
        · exact absurd e.symm hb
        · exact e
      obtain ⟨h1, h2⟩ := index_in c s hm
      have hne : (b != c) = true := by simp [hb]
      simp only [beq_iff_eq, hb, if_false]
      rw [h1, if_neg (by omega)]
      simp only [List.takeWhile_cons, List.dropWhile_cons, hne, if_true, List.length_cons]
      refine ⟨by simp [ahead], ?_⟩
      simp only [ahead, behind] at h2
      rw [List.cons_append, ← h2]
theorem index_out (c : UInt8) (s : List UInt8) (h : c ∉ s) : Lib.indexByte s c = -1 ∧ ahead s c = s := by
  have h1 := index_mem c s
  have h2 := Lib.indexByte_ge s c
  refine ⟨?_, ?_⟩
  · have : ¬ 0 ≤ Lib.indexByte s c := fun hh => h (h1.1 hh)
    omega
  · unfold ahead
    clear h1 h2
    induction s with
    | nil => rfl
    | cons b s ih =>
      have hb : (b != c) = true := by simp only [bne_iff_ne, ne_eq]; exact fun e => h (by simp [e])
      rw [List.takeWhile_cons, hb, if_pos rfl, ih (fun hm => h (by simp [hm]))]
theorem c97 (s : List UInt8) (c : UInt8) : W Γ 97 [.str s, .str [c]] [] = some (.int .i64 (Lib.indexByte s c), []) := by
  rw [W_prim (p := p97) rfl]
  rfl
theorem take_mid (a b : List UInt8) (c : UInt8) : (a ++ c :: b).take a.length = a := by
  induction a with
  | nil => rfl
  | cons x a ih => simp only [List.cons_append, List.length_cons, List.take_succ_cons, ih]
theorem drop_mid (a b : List UInt8) (c : UInt8) : (a ++ c :: b).drop (a.length + 1) = b := by
  induction a with
  | nil => rfl
  | cons x a ih => simp only [List.cons_append, List.length_cons, List.drop_succ_cons, ih]
def cutB (s : List UInt8) (c : UInt8) : List AV := if c ∈ s then [.str (ahead s c), .str (behind s c), .bool true] else [.str s, .str [], .bool false]
theorem c92 (s : List UInt8) (c : UInt8) (hs : s.length ≤ 4611686018427387904) : W Γ 92 [.str s, .str [c]] [] = some (.tup (cutB s c), []) := by
  rw [W_code (fd := d92) rfl]
  unfold cutB
  by_cases h : c ∈ s
  · obtain ⟨h1, h2⟩ := index_in c s h
    have hl : (ahead s c).length + (1 + (behind s c).length) = s.length := by
      have := congrArg List.length h2
      simp only [List.length_append, List.length_cons] at this
      omega
    have h7 : s.take (ahead s c).length = ahead s c := (congrArg (List.take (ahead s c).length) h2).trans (take_mid _ _ _)
    have h8 : s.drop ((ahead s c).length + 1) = behind s c := (congrArg (List.drop ((ahead s c).length + 1)) h2).trans (drop_mid _ _ _)
    rw [if_pos h]
    repeat (first | simp only [go_sem, seval, reduceCtorEq, d92, c97, h1, h7, h8]| rw [wN] | rw [wU] | rw [wA] | rw [mA] | rw [mB] | rw [mC] | rw [cA] | rw [sY] | rw [sN] | rw [gY] | rw [gN] | rw [aY] | rw [aN] | rw [pY] | rw [pN] | rw [oY] | rw [oN] | rw [nY] | rw [nN] )
  · obtain ⟨h1, h2⟩ := index_out c s h
    rw [if_neg h]
    repeat (first | simp only [go_sem, seval, reduceCtorEq, d92, c97, h1]| rw [wN] | rw [wU] | rw [wA] | rw [mA] | rw [mB] | rw [mC] | rw [cA] | rw [sY] | rw [sN] | rw [gY] | rw [gN] | rw [aY] | rw [aN] | rw [pY] | rw [pN] | rw [oY] | rw [oN] | rw [nY] | rw [nN] )
theorem c84 (s : List UInt8) (c : UInt8) (hs : s.length ≤ 4611686018427387904) : W Γ 84 [.str s, .str [c]] [] = some (.tup (cutB s c), []) := by
  rw [W_code (fd := d84) rfl]
  have h92 := c92 s c hs
  unfold cutB at h92 ⊢
  by_cases h : c ∈ s
  · rw [if_pos h] at h92 ⊢
    repeat (first | simp only [go_sem, seval, reduceCtorEq, d84, h92]| rw [wN] | rw [wU] | rw [wA] | rw [mA] | rw [mB] | rw [mC] | rw [cA] | rw [sY] | rw [sN] | rw [gY] | rw [gN] | rw [aY] | rw [aN] | rw [pY] | rw [pN] | rw [oY] | rw [oN] | rw [nY] | rw [nN] )
  · rw [if_neg h] at h92 ⊢
    repeat (first | simp only [go_sem, seval, reduceCtorEq, d84, h92]| rw [wN] | rw [wU] | rw [wA] | rw [mA] | rw [mB] | rw [mC] | rw [cA] | rw [sY] | rw [sN] | rw [gY] | rw [gN] | rw [aY] | rw [aN] | rw [pY] | rw [pN] | rw [oY] | rw [oN] | rw [nY] | rw [nN] )
theorem cutB_eq (s : List UInt8) (c : UInt8) : cutB s c = [.str (ahead s c), .str (behind s c), .bool (decide (c ∈ s))] := by
  unfold cutB
  by_cases h : c ∈ s
  · simp [h]
  · have h2 := (index_out c s h).2
    have : behind s c = [] := by
      unfold behind
      have h3 : s.dropWhile (· != c) = [] := by
        clear h2
        induction s with
        | nil => rfl
        | cons b s ih =>
          have hb : (b != c) = true := by simp only [bne_iff_ne, ne_eq]; exact fun e => h (by simp [e])
          rw [List.dropWhile_cons, hb, if_pos rfl, ih (fun hm => h (by simp [hm]))]
      rw [h3]; rfl
    simp [h, h2, this]
theorem ahead_len (s : List UInt8) (c : UInt8) : (ahead s c).length ≤ s.length := by
  unfold ahead
  induction s with
  | nil => simp
  | cons b s ih =>
    rw [List.takeWhile_cons]
    split
    · simp only [List.length_cons]; omega
    · simp
theorem behind_len (s : List UInt8) (c : UInt8) : (behind s c).length ≤ s.length := by
  unfold behind
  induction s with
  | nil => simp
  | cons b s ih =>
    rw [List.dropWhile_cons]
    split
    · simp only [List.length_cons, List.length_drop] at ih ⊢; omega
    · simp
/-- What a line holds. -/
def cmdOf (line : List UInt8) : List UInt8 := ahead (behind (ahead line 35) 32) 64
def repOf (line : List UInt8) : List UInt8 := behind (behind (ahead line 35) 32) 64
def good (n : Nat) (rest : List UInt8) : Bool := decide (10 ∈ rest) && (decide (n ≤ 59) && recB (cmdOf (ahead rest 10)) (repOf (ahead rest 10)) && decide (lineB n (cmdOf (ahead rest 10)) (repOf (ahead rest 10)) = ahead rest 10 ++ [10]))
theorem good_bad {n : Nat} {rest : List UInt8} (g1 : ¬ (n ≤ 59 ∧ recB (cmdOf (ahead rest 10)) (repOf (ahead rest 10)) = true)) : good n rest = false := by
  unfold good
  simp only [Bool.and_eq_false_iff, decide_eq_false_iff_not]
  right; left
  by_cases q : n ≤ 59
  · exact .inr (by simpa [q] using g1)
  · exact .inl q
theorem row69 (s : List UInt8) (hs : s.length ≤ 1000000) (n at' : Nat) (hn : n < 60) (ha : at' ≤ s.length) (cells : List AV) (hc : cells.length = n * 2) (z : Option (Ex × St))
    (hz : good n (s.drop at') = true → outOf 0 0 [4, 5] (rnd (W Γ) 0 l69_0 [0, 4, 5] b69_0 (some ([.str s, .row 0 (n + 1), .int .i64 ((at' + (ahead (s.drop at') 10).length + 1 : Nat) : Int)], [.live ⟨.row 36 2, true, cells ++ [.str (cmdOf (ahead (s.drop at') 10)), .str (repOf (ahead (s.drop at') 10))]⟩]))) = z) :
    outOf 0 0 [4, 5] (rnd (W Γ) 0 l69_0 [0, 4, 5] b69_0 (some ([.str s, .row 0 n, .int .i64 at'], [.live ⟨.row 36 2, true, cells⟩]))) =
      if good n (s.drop at') = true then z else some (.norm, ⟨[(4, .row 0 n), (5, .int .i64 at')], [.live ⟨.row 36 2, true, cells⟩]⟩) := by
  rw [rnd_some]
  unfold b69_0
  have hld : at' + (s.drop at').length = s.length := by rw [List.length_drop]; omega
  generalize hrest : s.drop at' = rest at hld hz
  have hl := ahead_len rest 10
  have hb1 := ahead_len (ahead rest 10) 35
  have hb2 := behind_len (ahead (ahead rest 10) 35) 32
  have hb3 := ahead_len (behind (ahead (ahead rest 10) 35) 32) 64
  have hb4 := behind_len (behind (ahead (ahead rest 10) 35) 32) 64
  have k1 := c84 rest 10 (by omega)
  have k2 := c84 (ahead rest 10) 35 (by omega)
  have k3 := c84 (ahead (ahead rest 10) 35) 32 (by omega)
  have k4 := c84 (behind (ahead (ahead rest 10) 35) 32) 64 (by omega)
  rw [cutB_eq] at k1 k2 k3 k4
  have k5 := c31 n (cmdOf (ahead rest 10)) (repOf (ahead rest 10)) (by omega) (by unfold cmdOf; omega) (by unfold repOf; omega)
  change W Γ 31 [AV.int IntKind.i64 n, AV.agg [AV.str (ahead (behind (ahead (ahead rest 10) 35) 32) 64), AV.str (behind (behind (ahead (ahead rest 10) 35) 32) 64)]] [] = _ at k5
  unfold encB at k5
  by_cases g0 : 10 ∈ rest
  · by_cases g1 : n ≤ 59 ∧ recB (cmdOf (ahead rest 10)) (repOf (ahead rest 10)) = true
    · rw [if_pos g1] at k5
      by_cases g2 : lineB n (cmdOf (ahead rest 10)) (repOf (ahead rest 10)) = ahead rest 10 ++ [10]
      · have hg : good n rest = true := by unfold good; simp [g0, g1.1, g1.2, g2]
        rw [if_pos hg]
        repeat (first | simp only [go_sem, seval, reduceCtorEq, x69_0, hrest, k1, k2, k3, k4, k5, g0, g2, hc]| rw [wN] | rw [wU] | rw [wA] | rw [mA] | rw [mB] | rw [mC] | rw [cA] | rw [sY] | rw [sN] | rw [gY] | rw [gN] | rw [aY] | rw [aN] | rw [pY] | rw [pN] | rw [oY] | rw [oN] | rw [nY] | rw [nN] )
        exact hz hg
      · have hg : good n rest = false := by unfold good; simp [g2]
        repeat (first | simp only [go_sem, seval, reduceCtorEq, x69_0, hrest, k1, k2, k3, k4, k5, g0, hg, g2]| rw [wN] | rw [wU] | rw [wA] | rw [mA] | rw [mB] | rw [mC] | rw [cA] | rw [sY] | rw [sN] | rw [gY] | rw [gN] | rw [aY] | rw [aN] | rw [pY] | rw [pN] | rw [oY] | rw [oN] | rw [nY] | rw [nN] )
    · rw [if_neg g1] at k5
      repeat (first | simp only [go_sem, seval, reduceCtorEq, x69_0, hrest, k1, k2, k3, k4, k5, g0, good_bad g1]| rw [wN] | rw [wU] | rw [wA] | rw [mA] | rw [mB] | rw [mC] | rw [cA] | rw [sY] | rw [sN] | rw [gY] | rw [gN] | rw [aY] | rw [aN] | rw [pY] | rw [pN] | rw [oY] | rw [oN] | rw [nY] | rw [nN] )
  · have hg : good n rest = false := by unfold good; simp [g0]
    by_cases g1 : n ≤ 59 ∧ recB (cmdOf (ahead rest 10)) (repOf (ahead rest 10)) = true
    · rw [if_pos g1] at k5
      repeat (first | simp only [go_sem, seval, reduceCtorEq, x69_0, hrest, k1, k2, k3, k4, k5, g0, hg]| rw [wN] | rw [wU] | rw [wA] | rw [mA] | rw [mB] | rw [mC] | rw [cA] | rw [sY] | rw [sN] | rw [gY] | rw [gN] | rw [aY] | rw [aN] | rw [pY] | rw [pN] | rw [oY] | rw [oN] | rw [nY] | rw [nN] )
    · rw [if_neg g1] at k5
      repeat (first | simp only [go_sem, seval, reduceCtorEq, x69_0, hrest, k1, k2, k3, k4, k5, g0, hg]| rw [wN] | rw [wU] | rw [wA] | rw [mA] | rw [mB] | rw [mC] | rw [cA] | rw [sY] | rw [sN] | rw [gY] | rw [gN] | rw [aY] | rw [aN] | rw [pY] | rw [pN] | rw [oY] | rw [oN] | rw [nY] | rw [nN] )
end Go.Proofs.T
namespace Go.Proofs.T
open Go Go.AX Go.Proofs
/-- Records at the start of a text: their cells, how many, how many bytes. -/
def rd : Nat → Nat → List UInt8 → List AV × Nat × Nat
  | 0, _, _ => ([], 0, 0)
  | k + 1, n, rest => if good n rest = true then
      ([.str (cmdOf (ahead rest 10)), .str (repOf (ahead rest 10))] ++ (rd k (n + 1) (rest.drop ((ahead rest 10).length + 1))).1, (rd k (n + 1) (rest.drop ((ahead rest 10).length + 1))).2.1 + 1, (ahead rest 10).length + 1 + (rd k (n + 1) (rest.drop ((ahead rest 10).length + 1))).2.2)
    else ([], 0, 0)
theorem good_len {n : Nat} {rest : List UInt8} (h : good n rest = true) : (ahead rest 10).length + 1 ≤ rest.length := by
  unfold good at h
  simp only [Bool.and_eq_true, decide_eq_true_eq] at h
  have := congrArg List.length (index_in 10 rest h.1).2
  simp only [List.length_append, List.length_cons] at this
  omega
theorem loop69 (s : List UInt8) (hs : s.length ≤ 1000000) : ∀ (k n at' : Nat) (cells : List AV), n + k = 60 → at' ≤ s.length → cells.length = n * 2 →
    outOf 0 0 [4, 5] (rnd (W Γ) 0 l69_0 [0, 4, 5] b69_0 (some ([.str s, .row 0 n, .int .i64 at'], [.live ⟨.row 36 2, true, cells⟩]))) =
      some (.norm, ⟨[(4, .row 0 (n + (rd k n (s.drop at')).2.1)), (5, .int .i64 ((at' + (rd k n (s.drop at')).2.2 : Nat) : Int))], [.live ⟨.row 36 2, true, cells ++ (rd k n (s.drop at')).1⟩]⟩) := by
  intro k
  induction k with
  | zero =>
    intro n at' cells hn ha hc
    obtain rfl : n = 60 := by omega
    rw [rnd_some]
    repeat (first | simp only [go_sem, seval, reduceCtorEq, b69_0, rd]| rw [wN] | rw [wU] | rw [wA] | rw [mA] | rw [mB] | rw [mC] | rw [cA] | rw [sY] | rw [sN] | rw [gY] | rw [gN] | rw [aY] | rw [aN] | rw [pY] | rw [pN] | rw [oY] | rw [oN] | rw [nY] | rw [nN] )
  | succ k ih =>
    intro n at' cells hn ha hc
    have key := row69 s hs n at' (by omega) ha cells hc _ (fun hg => by
      have hl := good_len hg
      have := List.length_drop (i := at') (l := s)
      refine (ih (n + 1) (at' + (ahead (s.drop at') 10).length + 1) _ (by omega) (by omega) ?_)
      simp only [List.length_append, List.length_cons, List.length_nil, hc]
      omega)
    rw [key]
    by_cases hg : good n (s.drop at') = true
    · rw [if_pos hg]
      have hd : s.drop (at' + (ahead (s.drop at') 10).length + 1) = (s.drop at').drop ((ahead (s.drop at') 10).length + 1) := by rw [List.drop_drop]; congr 1
      rw [hd]
      simp only [rd, hg, if_true]
      have e1 : n + 1 + (rd k (n + 1) ((s.drop at').drop ((ahead (s.drop at') 10).length + 1))).2.1 = n + ((rd k (n + 1) ((s.drop at').drop ((ahead (s.drop at') 10).length + 1))).2.1 + 1) := by omega
      have e2 : at' + (ahead (s.drop at') 10).length + 1 + (rd k (n + 1) ((s.drop at').drop ((ahead (s.drop at') 10).length + 1))).2.2 = at' + ((ahead (s.drop at') 10).length + 1 + (rd k (n + 1) ((s.drop at').drop ((ahead (s.drop at') 10).length + 1))).2.2) := by omega
      rw [e1, e2, List.append_assoc]
    · rw [if_neg hg]
      have hr : rd (k + 1) n (s.drop at') = ([], 0, 0) := by rw [rd, if_neg hg]
      rw [hr]
      simp only [Nat.add_zero, List.append_nil]
theorem c69 (s : List UInt8) (hs : s.length ≤ 1000000) : W Γ 69 [.str s] [] = some (.tup [.row 0 (rd 60 0 s).2.1, .int .i64 (rd 60 0 s).2.2], [.live ⟨.row 36 2, true, (rd 60 0 s).1⟩]) := by
  rw [W_code (fd := d69) rfl]
  have := loop69 s hs 60 0 0 [] (by omega) (by omega) rfl
  simp only [List.drop_zero, Int.cast_ofNat_Int, Nat.zero_add, List.nil_append] at this
  repeat (first | simp only [go_sem, seval, reduceCtorEq, d69, x69_0, this]| rw [wN] | rw [wU] | rw [wA] | rw [mA] | rw [mB] | rw [mC] | rw [cA] | rw [sY] | rw [sN] | rw [gY] | rw [gN] | rw [aY] | rw [aN] | rw [pY] | rw [pN] | rw [oY] | rw [oN] | rw [nY] | rw [nN] )
theorem c11 (a b : List UInt8) (n : Int) : W Γ 11 [.agg [.str a, .str b, .int .i64 n]] [] = some (.agg [.str a, .str b, .int .i64 n], []) := by
  rw [W_code (fd := d11) rfl]
  repeat (first | simp only [go_sem, seval, reduceCtorEq, d11]| rw [wN] | rw [wU] | rw [wA] | rw [mA] | rw [mB] | rw [mC] | rw [cA] | rw [sY] | rw [sN] | rw [gY] | rw [gN] | rw [aY] | rw [aN] | rw [pY] | rw [pN] | rw [oY] | rw [oN] | rw [nY] | rw [nN] )
theorem c13 (a b a' b' : List UInt8) (n n' : Int) : W Γ 13 [.agg [.str a, .str b, .int .i64 n], .agg [.str a', .str b', .int .i64 n']] [] = some (.bool (decide (a = a') && decide (b = b') && decide (n = n')), []) := by
  rw [W_code (fd := d13) rfl]
  by_cases h1 : a = a'
  · by_cases h2 : b = b'
    · by_cases h3 : n = n'
      · repeat (first | simp only [go_sem, seval, reduceCtorEq, d13, h1, h2, h3]| rw [wN] | rw [wU] | rw [wA] | rw [mA] | rw [mB] | rw [mC] | rw [cA] | rw [sY] | rw [sN] | rw [gY] | rw [gN] | rw [aY] | rw [aN] | rw [pY] | rw [pN] | rw [oY] | rw [oN] | rw [nY] | rw [nN] )
      · repeat (first | simp only [go_sem, seval, reduceCtorEq, d13, h1, h2, h3]| rw [wN] | rw [wU] | rw [wA] | rw [mA] | rw [mB] | rw [mC] | rw [cA] | rw [sY] | rw [sN] | rw [gY] | rw [gN] | rw [aY] | rw [aN] | rw [pY] | rw [pN] | rw [oY] | rw [oN] | rw [nY] | rw [nN] )
    · repeat (first | simp only [go_sem, seval, reduceCtorEq, d13, h1, h2]| rw [wN] | rw [wU] | rw [wA] | rw [mA] | rw [mB] | rw [mC] | rw [cA] | rw [sY] | rw [sN] | rw [gY] | rw [gN] | rw [aY] | rw [aN] | rw [pY] | rw [pN] | rw [oY] | rw [oN] | rw [nY] | rw [nN] )
  · repeat (first | simp only [go_sem, seval, reduceCtorEq, d13, h1]| rw [wN] | rw [wU] | rw [wA] | rw [mA] | rw [mB] | rw [mC] | rw [cA] | rw [sY] | rw [sN] | rw [gY] | rw [gN] | rw [aY] | rw [aN] | rw [pY] | rw [pN] | rw [oY] | rw [oN] | rw [nY] | rw [nN] )
def okLog (a b : List UInt8) (n : Int) : Bool := decide ((rd 60 0 (a ++ b)).2.2 = a.length + b.length) && decide ((rd 60 0 a).2.2 = a.length) && decide (((rd 60 0 (a ++ b)).2.1 : Int) = n)
theorem c50 (a b : List UInt8) (n : Int) (ha : a.length ≤ 2000000) (hb : b.length ≤ 2000000) : W Γ 50 [.agg [.str a, .str b, .int .i64 n]] [] =
    if a.length + b.length ≤ 30000 then some (.tup [.row 0 (rd 60 0 (a ++ b)).2.1, .bool (okLog a b n)], [.live ⟨.row 36 2, true, (rd 60 0 (a ++ b)).1⟩]) else some (.tup [.nilsl, .bool false], []) := by
  rw [W_code (fd := d50) rfl]
  by_cases h : a.length + b.length ≤ 30000
  · have k1 := c69 (a ++ b) (by simp only [List.length_append]; omega)
    have k2 := c69 a (by omega)
    unfold okLog
    rw [if_pos h]
    by_cases q1 : (rd 60 0 (a ++ b)).2.2 = a.length + b.length
    · by_cases q2 : (rd 60 0 a).2.2 = a.length
      · repeat (first | simp only [go_sem, seval, reduceCtorEq, d50, k1, k2]| rw [wN] | rw [wU] | rw [wA] | rw [mA] | rw [mB] | rw [mC] | rw [cA] | rw [sY] | rw [sN] | rw [gY] | rw [gN] | rw [aY] | rw [aN] | rw [pY] | rw [pN] | rw [oY] | rw [oN] | rw [nY] | rw [nN] )
      · repeat (first | simp only [go_sem, seval, reduceCtorEq, d50, k1, k2]| rw [wN] | rw [wU] | rw [wA] | rw [mA] | rw [mB] | rw [mC] | rw [cA] | rw [sY] | rw [sN] | rw [gY] | rw [gN] | rw [aY] | rw [aN] | rw [pY] | rw [pN] | rw [oY] | rw [oN] | rw [nY] | rw [nN] )
    · repeat (first | simp only [go_sem, seval, reduceCtorEq, d50, k1, k2]| rw [wN] | rw [wU] | rw [wA] | rw [mA] | rw [mB] | rw [mC] | rw [cA] | rw [sY] | rw [sN] | rw [gY] | rw [gN] | rw [aY] | rw [aN] | rw [pY] | rw [pN] | rw [oY] | rw [oN] | rw [nY] | rw [nN] )
  · rw [if_neg h]
    repeat (first | simp only [go_sem, seval, reduceCtorEq, d50]| rw [wN] | rw [wU] | rw [wA] | rw [mA] | rw [mB] | rw [mC] | rw [cA] | rw [sY] | rw [sN] | rw [gY] | rw [gN] | rw [aY] | rw [aN] | rw [pY] | rw [pN] | rw [oY] | rw [oN] | rw [nY] | rw [nN] )
def valid (a b : List UInt8) (n : Int) : Bool := decide (a.length + b.length ≤ 30000) && okLog a b n
theorem c37 (a b : List UInt8) (n : Int) (ha : a.length ≤ 2000000) (hb : b.length ≤ 2000000) : W Γ 37 [.agg [.str a, .str b, .int .i64 n]] [] = some (.bool (valid a b n), []) := by
  rw [W_code (fd := d37) rfl]
  have k := c50 a b n ha hb
  unfold valid
  by_cases h : a.length + b.length ≤ 30000
  · rw [if_pos h] at k
    repeat (first | simp only [go_sem, seval, reduceCtorEq, d37, k]| rw [wN] | rw [wU] | rw [wA] | rw [mA] | rw [mB] | rw [mC] | rw [cA] | rw [sY] | rw [sN] | rw [gY] | rw [gN] | rw [aY] | rw [aN] | rw [pY] | rw [pN] | rw [oY] | rw [oN] | rw [nY] | rw [nN] )
  · rw [if_neg h] at k
    repeat (first | simp only [go_sem, seval, reduceCtorEq, d37, k]| rw [wN] | rw [wU] | rw [wA] | rw [mA] | rw [mB] | rw [mC] | rw [cA] | rw [sY] | rw [sN] | rw [gY] | rw [gN] | rw [aY] | rw [aN] | rw [pY] | rw [pN] | rw [oY] | rw [oN] | rw [nY] | rw [nN] )
def synced (a b : List UInt8) (n : Int) : List AV := if valid a b n = true then [.agg [.str (a ++ b), .str [], .int .i64 n], .bool true] else [.agg [.str [], .str [], .int .i64 0], .bool false]
theorem c12 (a b : List UInt8) (n : Int) (ha : a.length ≤ 2000000) (hb : b.length ≤ 2000000) : W Γ 12 [.agg [.str a, .str b, .int .i64 n]] [] = some (.tup (synced a b n), []) := by
  rw [W_code (fd := d12) rfl]
  have k := c37 a b n ha hb
  unfold synced
  cases h : valid a b n
  · rw [h] at k
    repeat (first | simp only [go_sem, seval, reduceCtorEq, d12, k]| rw [wN] | rw [wU] | rw [wA] | rw [mA] | rw [mB] | rw [mC] | rw [cA] | rw [sY] | rw [sN] | rw [gY] | rw [gN] | rw [aY] | rw [aN] | rw [pY] | rw [pN] | rw [oY] | rw [oN] | rw [nY] | rw [nN] )
  · rw [h] at k
    repeat (first | simp only [go_sem, seval, reduceCtorEq, d12, k]| rw [wN] | rw [wU] | rw [wA] | rw [mA] | rw [mB] | rw [mC] | rw [cA] | rw [sY] | rw [sN] | rw [gY] | rw [gN] | rw [aY] | rw [aN] | rw [pY] | rw [pN] | rw [oY] | rw [oN] | rw [nY] | rw [nN] )
theorem c9 (a b : List UInt8) (n : Int) (left : Nat) (hl : left ≤ 1048576) (ha : a.length ≤ maxLen) (hb : b.length ≤ maxLen) : W Γ 9 [.agg [.str a, .str b, .int .i64 n], .int .i64 left] [] =
    some (.int .i64 (if a.length + b.length ≤ left then ((left - a.length - b.length : Nat) : Int) else -1), []) := by
  rw [W_code (fd := d9) rfl]
  unfold maxLen at ha hb
  by_cases h : a.length ≤ left
  · by_cases h2 : a.length + b.length ≤ left
    · rw [if_pos h2]
      repeat (first | simp only [go_sem, seval, reduceCtorEq, d9]| rw [wN] | rw [wU] | rw [wA] | rw [mA] | rw [mB] | rw [mC] | rw [cA] | rw [sY] | rw [sN] | rw [gY] | rw [gN] | rw [aY] | rw [aN] | rw [pY] | rw [pN] | rw [oY] | rw [oN] | rw [nY] | rw [nN] )
    · rw [if_neg h2]
      repeat (first | simp only [go_sem, seval, reduceCtorEq, d9]| rw [wN] | rw [wU] | rw [wA] | rw [mA] | rw [mB] | rw [mC] | rw [cA] | rw [sY] | rw [sN] | rw [gY] | rw [gN] | rw [aY] | rw [aN] | rw [pY] | rw [pN] | rw [oY] | rw [oN] | rw [nY] | rw [nN] )
  · rw [if_neg (by omega)]
    repeat (first | simp only [go_sem, seval, reduceCtorEq, d9]| rw [wN] | rw [wU] | rw [wA] | rw [mA] | rw [mB] | rw [mC] | rw [cA] | rw [sY] | rw [sN] | rw [gY] | rw [gN] | rw [aY] | rw [aN] | rw [pY] | rw [pN] | rw [oY] | rw [oN] | rw [nY] | rw [nN] )
end Go.Proofs.T
namespace Go.Proofs.T
open Go Go.AX Go.Proofs
/-- The parts of a text between bytes, the first begun. -/
def spl (b : UInt8) : List UInt8 → List UInt8 → List (List UInt8)
  | cur, [] => [cur]
  | cur, x :: r => if x = b then cur :: spl b [] r else spl b (cur ++ [x]) r
def strs : List (List UInt8) → List AV
  | [] => []
  | x :: r => .str x :: strs r
theorem strs_append : ∀ (x y : List (List UInt8)), strs (x ++ y) = strs x ++ strs y
  | [], y => rfl
  | a :: x, y => by simp [strs, strs_append x y]
theorem strs_length : ∀ (x : List (List UInt8)), (strs x).length = x.length
  | [] => rfl
  | a :: x => by simp [strs, strs_length x]
theorem row74 (s : List UInt8) (b : UInt8) (hs : s.length ≤ 1000000) (n fr i : Nat) (hi : i < s.length) (hf : fr ≤ i) (hn : n ≤ i) (cells : List AV) (hc : cells.length = n) (z : Option (Ex × St))
    (h1 : s[i] = b → outOf 0 0 [0, 5, 6] (rnd (W Γ) 0 l74_0 [0, 1, 5, 6, 7] b74_0 (some ([.str s, .int .u8 b.toNat, .row 0 (n + 1), .int .i64 ((i + 1 : Nat) : Int), .int .i64 ((i + 1 : Nat) : Int)], [.live ⟨.row 9 1, true, cells ++ [.str ((s.take i).drop fr)]⟩]))) = z)
    (h2 : s[i] ≠ b → outOf 0 0 [0, 5, 6] (rnd (W Γ) 0 l74_0 [0, 1, 5, 6, 7] b74_0 (some ([.str s, .int .u8 b.toNat, .row 0 n, .int .i64 fr, .int .i64 ((i + 1 : Nat) : Int)], [.live ⟨.row 9 1, true, cells⟩]))) = z) :
    outOf 0 0 [0, 5, 6] (rnd (W Γ) 0 l74_0 [0, 1, 5, 6, 7] b74_0 (some ([.str s, .int .u8 b.toNat, .row 0 n, .int .i64 fr, .int .i64 i], [.live ⟨.row 9 1, true, cells⟩]))) = z := by
  rw [rnd_some]
  unfold b74_0
  by_cases hb : (s.getD i 0).toNat = b.toNat
  · have h1' := h1 (by rw [← u8_eq, ← hb, List.getD_eq_getElem?_getD, List.getElem?_eq_getElem hi]; rfl)
    repeat (first | simp only [go_sem, seval, reduceCtorEq, x74_0, hc]| rw [wN] | rw [wU] | rw [wA] | rw [mA] | rw [mB] | rw [mC] | rw [cA] | rw [sY] | rw [sN] | rw [gY] | rw [gN] | rw [aY] | rw [aN] | rw [pY] | rw [pN] | rw [oY] | rw [oN] | rw [nY] | rw [nN] )
    exact h1'
  · have h2' := h2 (fun e => hb (by rw [← e, List.getD_eq_getElem?_getD, List.getElem?_eq_getElem hi]; rfl))
    repeat (first | simp only [go_sem, seval, reduceCtorEq, x74_0]| rw [wN] | rw [wU] | rw [wA] | rw [mA] | rw [mB] | rw [mC] | rw [cA] | rw [sY] | rw [sN] | rw [gY] | rw [gN] | rw [aY] | rw [aN] | rw [pY] | rw [pN] | rw [oY] | rw [oN] | rw [nY] | rw [nN] )
    exact h2'
theorem cur_next (s : List UInt8) {fr i : Nat} (hi : i < s.length) (hf : fr ≤ i) : (s.take (i + 1)).drop fr = (s.take i).drop fr ++ [s[i]] := by
  rw [List.take_succ_eq_append_getElem hi, List.drop_append_of_le_length (by rw [List.length_take]; omega)]
theorem loop74 (s : List UInt8) (b : UInt8) (hs : s.length ≤ 1000000) : ∀ (k n fr i : Nat) (cells : List AV), i + k = s.length → fr ≤ i → n ≤ i → cells.length = n →
    ∃ init FR, spl b ((s.take i).drop fr) (s.drop i) = init ++ [s.drop FR] ∧ FR ≤ s.length ∧ n + init.length ≤ s.length ∧
      outOf 0 0 [0, 5, 6] (rnd (W Γ) 0 l74_0 [0, 1, 5, 6, 7] b74_0 (some ([.str s, .int .u8 b.toNat, .row 0 n, .int .i64 fr, .int .i64 i], [.live ⟨.row 9 1, true, cells⟩]))) =
        some (.norm, ⟨[(0, .str s), (5, .row 0 (n + init.length)), (6, .int .i64 FR)], [.live ⟨.row 9 1, true, cells ++ strs init⟩]⟩) := by
  intro k
  induction k with
  | zero =>
    intro n fr i cells hi hf hn hc
    obtain rfl : i = s.length := by omega
    refine ⟨[], fr, by simp [spl], hf, by simpa using hn, ?_⟩
    rw [rnd_some]
    repeat (first | simp only [go_sem, seval, reduceCtorEq, b74_0, strs]| rw [wN] | rw [wU] | rw [wA] | rw [mA] | rw [mB] | rw [mC] | rw [cA] | rw [sY] | rw [sN] | rw [gY] | rw [gN] | rw [aY] | rw [aN] | rw [pY] | rw [pN] | rw [oY] | rw [oN] | rw [nY] | rw [nN] )
  | succ k ih =>
    intro n fr i cells hi hf hn hc
    have hlt : i < s.length := by omega
    rw [List.drop_eq_getElem_cons hlt]
    by_cases hb : s[i] = b
    · obtain ⟨init, FR, e1, e2, e3, e4⟩ := ih (n + 1) (i + 1) (i + 1) (cells ++ [.str ((s.take i).drop fr)]) (by omega) (by omega) (by omega) (by simp [hc])
      refine ⟨(s.take i).drop fr :: init, FR, ?_, e2, by simp only [List.length_cons]; omega, ?_⟩
      · have h0 : (s.take (i + 1)).drop (i + 1) = [] := by simp
        rw [h0] at e1
        simp only [spl, hb, if_true, e1, List.cons_append]
      · refine row74 s b hs n fr i hlt hf hn cells hc _ (fun _ => ?_) (fun h => absurd hb h)
        rw [e4]
        simp only [List.length_cons, strs, List.append_assoc, List.cons_append, List.nil_append]
        rw [show n + 1 + init.length = n + (init.length + 1) by omega]
    · obtain ⟨init, FR, e1, e2, e3, e4⟩ := ih n fr (i + 1) cells (by omega) (by omega) (by omega) hc
      refine ⟨init, FR, ?_, e2, e3, row74 s b hs n fr i hlt hf hn cells hc _ (fun h => absurd h hb) (fun _ => e4)⟩
      rw [cur_next s hlt hf] at e1
      simp only [spl, hb, if_false, e1]
theorem c74 (s : List UInt8) (b : UInt8) (hs : s.length ≤ 1000000) : W Γ 74 [.str s, .int .u8 b.toNat] [] = some (.row 0 (spl b [] s).length, [.live ⟨.row 9 1, true, strs (spl b [] s)⟩]) := by
  rw [W_code (fd := d74) rfl]
  obtain ⟨init, FR, e1, e2, e3, e4⟩ := loop74 s b hs s.length 0 0 0 [] (by omega) (by omega) (by omega) rfl
  simp only [List.drop_zero, List.take_zero, Int.cast_ofNat_Int, Nat.zero_add, List.nil_append] at e1 e3 e4
  have hl := strs_length init
  rw [e1, strs_append, List.length_append]
  repeat (first | simp only [go_sem, seval, reduceCtorEq, d74, x74_0, e4, hl, strs]| rw [wN] | rw [wU] | rw [wA] | rw [mA] | rw [mB] | rw [mC] | rw [cA] | rw [sY] | rw [sN] | rw [gY] | rw [gN] | rw [aY] | rw [aN] | rw [pY] | rw [pN] | rw [oY] | rw [oN] | rw [nY] | rw [nN] )
end Go.Proofs.T
namespace Go.Proofs.T
open Go Go.AX Go.Proofs
theorem spl_head (b : UInt8) : ∀ (s cur : List UInt8), ∃ r, spl b cur s = (cur ++ ahead s b) :: r ∧ (r = [] ↔ b ∉ s)
  | [], cur => ⟨[], by simp [spl, ahead], by simp⟩
  | x :: s, cur => by
    by_cases h : x = b
    · refine ⟨spl b [] s, by simp [spl, h, ahead], ?_⟩
      obtain ⟨r, e, _⟩ := spl_head b s []
      rw [e]
      simp [h]
    · obtain ⟨r, e, hr⟩ := spl_head b s (cur ++ [x])
      have hx : (x != b) = true := by simp [h]
      refine ⟨r, by simp only [spl, h, if_false, e, ahead, List.takeWhile_cons, hx, if_true]; simp, ?_⟩
      rw [hr]
      have : ¬ b = x := fun e => h e.symm
      simp [this]
def decS (k : Nat) (s : List UInt8) : List AV :=
  if (ahead s 35).length < (Lib.decDigits k).length + 1 ∨ (ahead s 35).take ((Lib.decDigits k).length + 1) ≠ Lib.decDigits k ++ [32] then [.agg [.str [], .str []], .bool false]
  else if (ahead ((ahead s 35).drop ((Lib.decDigits k).length + 1)) 64).length = ((ahead s 35).drop ((Lib.decDigits k).length + 1)).length then [.agg [.str [], .str []], .bool false]
  else [.agg [.str (ahead ((ahead s 35).drop ((Lib.decDigits k).length + 1)) 64), .str (((ahead s 35).drop ((Lib.decDigits k).length + 1)).drop ((ahead ((ahead s 35).drop ((Lib.decDigits k).length + 1)) 64).length + 1))],
    .bool (recB (ahead ((ahead s 35).drop ((Lib.decDigits k).length + 1)) 64) (((ahead s 35).drop ((Lib.decDigits k).length + 1)).drop ((ahead ((ahead s 35).drop ((Lib.decDigits k).length + 1)) 64).length + 1)) &&
      decide (lineB k (ahead ((ahead s 35).drop ((Lib.decDigits k).length + 1)) 64) (((ahead s 35).drop ((Lib.decDigits k).length + 1)).drop ((ahead ((ahead s 35).drop ((Lib.decDigits k).length + 1)) 64).length + 1)) = s ++ [10]))]
theorem c75 (s : List UInt8) (k : Nat) (hs : s.length ≤ 100000) (hk : k ≤ 60) : W Γ 75 [.str s, .int .i64 k] [] = some (.tup (decS k s), []) := by
  rw [W_code (fd := d75) rfl]
  have hdl : (Lib.decDigits k).length ≤ 61 := by have := decDigits_len (n := k); omega
  have hal := ahead_len s 35
  obtain ⟨r1, f1, _⟩ := spl_head 35 s []
  have k1 := c74 s 35 (by omega)
  rw [f1] at k1
  simp only [List.nil_append, show ((35 : UInt8).toNat : Int) = 35 from rfl, strs, List.length_cons] at k1
  by_cases g1 : (ahead s 35).length < (Lib.decDigits k).length + 1
  · repeat (first | simp only [go_sem, seval, reduceCtorEq, d75, c73 k (by omega), k1]| rw [wN] | rw [wU] | rw [wA] | rw [mA] | rw [mB] | rw [mC] | rw [cA] | rw [sY] | rw [sN] | rw [gY] | rw [gN] | rw [aY] | rw [aN] | rw [pY] | rw [pN] | rw [oY] | rw [oN] | rw [nY] | rw [nN] )
    unfold decS
    rw [if_pos (.inl g1)]
  · by_cases g2 : (ahead s 35).take ((Lib.decDigits k).length + 1) = Lib.decDigits k ++ [32]
    · have hrl := List.length_drop (i := (Lib.decDigits k).length + 1) (l := ahead s 35)
      have k2 := fun h => c74 ((ahead s 35).drop ((Lib.decDigits k).length + 1)) 64 h
      obtain ⟨r2, f2, _⟩ := spl_head 64 ((ahead s 35).drop ((Lib.decDigits k).length + 1)) []
      rw [f2] at k2
      simp only [List.nil_append, show ((64 : UInt8).toNat : Int) = 64 from rfl, strs, List.length_cons] at k2
      have har := ahead_len ((ahead s 35).drop ((Lib.decDigits k).length + 1)) 64
      by_cases g3 : (ahead ((ahead s 35).drop ((Lib.decDigits k).length + 1)) 64).length = (ahead s 35).length - ((Lib.decDigits k).length + 1)
      · repeat (first | simp only [go_sem, seval, reduceCtorEq, d75, c73 k (by omega), k1, g2, ne_eq]| rw [wN] | rw [wU] | rw [wA] | rw [mA] | rw [mB] | rw [mC] | rw [cA] | rw [sY] | rw [sN] | rw [gY] | rw [gN] | rw [aY] | rw [aN] | rw [pY] | rw [pN] | rw [oY] | rw [oN] | rw [nY] | rw [nN] | rw [k2 (by (first | omega | (simp only [IntKind.wrap_i64, List.length_append, List.length_cons, List.length_nil, List.length_drop, List.length_take]; omega)))] )
        unfold decS
        rw [if_neg (fun h => h.elim (fun h => g1 h) (fun h => h g2)), if_pos (by rw [hrl]; exact g3)]
      · have k3 := fun h1 h2 => c47 (ahead ((ahead s 35).drop ((Lib.decDigits k).length + 1)) 64) (((ahead s 35).drop ((Lib.decDigits k).length + 1)).drop ((ahead ((ahead s 35).drop ((Lib.decDigits k).length + 1)) 64).length + 1)) h1 h2
        have k4 := fun h1 h2 => c48 k (ahead ((ahead s 35).drop ((Lib.decDigits k).length + 1)) 64) (((ahead s 35).drop ((Lib.decDigits k).length + 1)).drop ((ahead ((ahead s 35).drop ((Lib.decDigits k).length + 1)) 64).length + 1)) (by omega) h1 h2
        unfold decS
        rw [if_neg (fun h => h.elim (fun h => g1 h) (fun h => h g2)), if_neg (by rw [hrl]; exact g3)]
        cases hr : recB (ahead ((ahead s 35).drop ((Lib.decDigits k).length + 1)) 64) (((ahead s 35).drop ((Lib.decDigits k).length + 1)).drop ((ahead ((ahead s 35).drop ((Lib.decDigits k).length + 1)) 64).length + 1))
        · rw [hr] at k3
          repeat (first | simp only [go_sem, seval, reduceCtorEq, d75, c73 k (by omega), k1, g2, ne_eq]| rw [wN] | rw [wU] | rw [wA] | rw [mA] | rw [mB] | rw [mC] | rw [cA] | rw [sY] | rw [sN] | rw [gY] | rw [gN] | rw [aY] | rw [aN] | rw [pY] | rw [pN] | rw [oY] | rw [oN] | rw [nY] | rw [nN] | rw [k2 (by (first | omega | (simp only [IntKind.wrap_i64, List.length_append, List.length_cons, List.length_nil, List.length_drop, List.length_take]; omega)))] | rw [k3 (by (first | omega | (simp only [IntKind.wrap_i64, List.length_append, List.length_cons, List.length_nil, List.length_drop, List.length_take]; omega))) (by (first | omega | (simp only [IntKind.wrap_i64, List.length_append, List.length_cons, List.length_nil, List.length_drop, List.length_take]; omega)))] | rw [k4 (by (first | omega | (simp only [IntKind.wrap_i64, List.length_append, List.length_cons, List.length_nil, List.length_drop, List.length_take]; omega))) (by (first | omega | (simp only [IntKind.wrap_i64, List.length_append, List.length_cons, List.length_nil, List.length_drop, List.length_take]; omega)))] )
        · rw [hr] at k3
          repeat (first | simp only [go_sem, seval, reduceCtorEq, d75, c73 k (by omega), k1, g2, ne_eq]| rw [wN] | rw [wU] | rw [wA] | rw [mA] | rw [mB] | rw [mC] | rw [cA] | rw [sY] | rw [sN] | rw [gY] | rw [gN] | rw [aY] | rw [aN] | rw [pY] | rw [pN] | rw [oY] | rw [oN] | rw [nY] | rw [nN] | rw [k2 (by (first | omega | (simp only [IntKind.wrap_i64, List.length_append, List.length_cons, List.length_nil, List.length_drop, List.length_take]; omega)))] | rw [k3 (by (first | omega | (simp only [IntKind.wrap_i64, List.length_append, List.length_cons, List.length_nil, List.length_drop, List.length_take]; omega))) (by (first | omega | (simp only [IntKind.wrap_i64, List.length_append, List.length_cons, List.length_nil, List.length_drop, List.length_take]; omega)))] | rw [k4 (by (first | omega | (simp only [IntKind.wrap_i64, List.length_append, List.length_cons, List.length_nil, List.length_drop, List.length_take]; omega))) (by (first | omega | (simp only [IntKind.wrap_i64, List.length_append, List.length_cons, List.length_nil, List.length_drop, List.length_take]; omega)))] )
    · repeat (first | simp only [go_sem, seval, reduceCtorEq, d75, c73 k (by omega), k1, g2, ne_eq]| rw [wN] | rw [wU] | rw [wA] | rw [mA] | rw [mB] | rw [mC] | rw [cA] | rw [sY] | rw [sN] | rw [gY] | rw [gN] | rw [aY] | rw [aN] | rw [pY] | rw [pN] | rw [oY] | rw [oN] | rw [nY] | rw [nN] )
      unfold decS
      rw [if_pos (.inr g2)]
theorem ahead_app {x y : List UInt8} {c : UInt8} (h : c ∉ x) : ahead (x ++ c :: y) c = x ∧ behind (x ++ c :: y) c = y := by
  unfold ahead behind
  induction x with
  | nil => simp
  | cons a x ih =>
    have ha : (a != c) = true := by simp only [bne_iff_ne, ne_eq]; exact fun e => h (by simp [e])
    have := ih (fun hm => h (by simp [hm]))
    simp only [List.cons_append, List.takeWhile_cons, List.dropWhile_cons, ha, if_true]
    exact ⟨by rw [this.1], this.2⟩
/-- Is a line that of its record? -/
def gl (k : Nat) (line : List UInt8) : Bool := recB (cmdOf line) (repOf line) && decide (lineB k (cmdOf line) (repOf line) = line ++ [10])
theorem dec_no {k : Nat} {b : UInt8} (h : b.toNat < 48 ∨ 57 < b.toNat) : b ∉ Lib.decDigits k := fun hm => by have := dec_mem k b hm; omega
theorem line_parts {k : Nat} {c r line : List UInt8} (h : recB c r = true) (hl : lineB k c r = line ++ [10]) : ahead line 35 = bodyB k c r ∧ cmdOf line = c ∧ repOf line = r := by
  obtain ⟨_, _, _, h4, h5, h6⟩ := rec_spec h
  have e : line = bodyB k c r ++ 35 :: Lib.decDigits (ck 7 (bodyB k c r)) := by
    unfold lineB at hl
    exact (List.append_cancel_right hl).symm
  have h35 : (35 : UInt8) ∉ bodyB k c r := by
    unfold bodyB
    simp only [List.mem_append, List.mem_singleton, not_or]
    exact ⟨⟨⟨⟨dec_no (.inl (by decide)), by decide⟩, fun hm => (h4 _ hm).2.2 (by decide)⟩, by decide⟩, fun hm => (h5 _ hm).2.2 (by decide)⟩
  have e1 : ahead line 35 = bodyB k c r := by rw [e]; exact (ahead_app h35).1
  have e2 : behind (bodyB k c r) 32 = c ++ 64 :: r := by
    have : bodyB k c r = Lib.decDigits k ++ 32 :: (c ++ 64 :: r) := by simp [bodyB]
    rw [this]
    exact (ahead_app (dec_no (.inl (by decide)))).2
  refine ⟨e1, ?_, ?_⟩
  · unfold cmdOf; rw [e1, e2]; exact (ahead_app h6).1
  · unfold repOf; rw [e1, e2]; exact (ahead_app h6).2
theorem decS_good {k : Nat} {line : List UInt8} (h : gl k line = true) : decS k line = [.agg [.str (cmdOf line), .str (repOf line)], .bool true] := by
  simp only [gl, Bool.and_eq_true, decide_eq_true_eq] at h
  obtain ⟨h1, h2⟩ := h
  obtain ⟨e1, _, _⟩ := line_parts h1 h2
  obtain ⟨_, _, _, h4, h5, h6⟩ := rec_spec h1
  generalize cmdOf line = c at *
  generalize repOf line = r at *
  have hb : bodyB k c r = Lib.decDigits k ++ 32 :: (c ++ 64 :: r) := by simp [bodyB]
  have hd : (bodyB k c r).drop ((Lib.decDigits k).length + 1) = c ++ 64 :: r := by
    rw [hb, ← List.drop_drop]; simp
  have ht : (bodyB k c r).take ((Lib.decDigits k).length + 1) = Lib.decDigits k ++ [32] := by
    rw [hb]; simp [List.take_append, List.take_of_length_le]
  have ha := (ahead_app (y := r) h6).1
  unfold decS
  rw [e1, hd, ht, ha]
  rw [if_neg (by rw [hb]; simp only [List.length_append, List.length_cons]; intro h; rcases h with h | h; omega; exact h rfl), if_neg (by simp only [List.length_append, List.length_cons]; omega)]
  have hr : (c ++ 64 :: r).drop (c.length + 1) = r := by rw [← List.drop_drop]; simp
  rw [hr, h1, h2]
  simp
theorem decS_bad {k : Nat} {line : List UInt8} (h : gl k line = false) : ∃ c r, decS k line = [.agg [.str c, .str r], .bool false] := by
  unfold decS
  split
  · exact ⟨_, _, rfl⟩
  · split
    · exact ⟨_, _, rfl⟩
    · generalize ahead ((ahead line 35).drop ((Lib.decDigits k).length + 1)) 64 = c
      generalize (((ahead line 35).drop ((Lib.decDigits k).length + 1)).drop (c.length + 1)) = r
      refine ⟨c, r, ?_⟩
      have : (recB c r && decide (lineB k c r = line ++ [10])) = false := by
        cases h1 : recB c r
        · rfl
        · simp only [Bool.true_and, decide_eq_false_iff_not]
          intro h2
          obtain ⟨_, e2, e3⟩ := line_parts h1 h2
          unfold gl at h
          rw [e2, e3, h1, h2] at h
          simp at h
      rw [this]
theorem good_gl {n : Nat} {rest : List UInt8} (hn : n ≤ 59) : good n rest = (decide (10 ∈ rest) && gl n (ahead rest 10)) := by
  unfold good gl
  simp [hn]
theorem row49 (s : List UInt8) (hs : s.length ≤ 100000) (n at' : Nat) (hn : n < 60) (ha : at' ≤ s.length) (cells : List AV) (hc : cells.length = n * 2) (z : Option (Ex × St))
    (hz : good n (s.drop at') = true → outOf 0 0 [4, 5] (rnd (W Γ) 0 l49_0 [0, 4, 5] b49_0 (some ([.str s, .row 0 (n + 1), .int .i64 ((at' + (ahead (s.drop at') 10).length + 1 : Nat) : Int)], [.live ⟨.row 36 2, true, cells ++ [.str (cmdOf (ahead (s.drop at') 10)), .str (repOf (ahead (s.drop at') 10))]⟩]))) = z) :
    outOf 0 0 [4, 5] (rnd (W Γ) 0 l49_0 [0, 4, 5] b49_0 (some ([.str s, .row 0 n, .int .i64 at'], [.live ⟨.row 36 2, true, cells⟩]))) =
      if good n (s.drop at') = true then z else some (.norm, ⟨[(4, .row 0 n), (5, .int .i64 at')], [.live ⟨.row 36 2, true, cells⟩]⟩) := by
  rw [rnd_some]
  unfold b49_0
  have hld : (s.drop at').length = s.length - at' := List.length_drop
  by_cases h1 : at' < s.length
  · generalize hrest : s.drop at' = rest at hld hz
    obtain ⟨r1, f1, f2⟩ := spl_head 10 rest []
    have hal := ahead_len rest 10
    have k1 := c74 rest 10 (by omega)
    rw [f1] at k1
    simp only [List.nil_append, show ((10 : UInt8).toNat : Int) = 10 from rfl, strs, List.length_cons] at k1
    have k2 := c75 (ahead rest 10) n (by omega) (by omega)
    rw [good_gl (by omega)] at hz ⊢
    cases hg : gl n (ahead rest 10)
    · obtain ⟨c, r, e⟩ := decS_bad hg
      rw [e] at k2
      by_cases h2 : r1.length + 1 < 2
      · repeat (first | simp only [go_sem, seval, reduceCtorEq, x49_0, hrest, k1, k2, hg]| rw [wN] | rw [wU] | rw [wA] | rw [mA] | rw [mB] | rw [mC] | rw [cA] | rw [sY] | rw [sN] | rw [gY] | rw [gN] | rw [aY] | rw [aN] | rw [pY] | rw [pN] | rw [oY] | rw [oN] | rw [nY] | rw [nN] )
      · repeat (first | simp only [go_sem, seval, reduceCtorEq, x49_0, hrest, k1, k2, hg]| rw [wN] | rw [wU] | rw [wA] | rw [mA] | rw [mB] | rw [mC] | rw [cA] | rw [sY] | rw [sN] | rw [gY] | rw [gN] | rw [aY] | rw [aN] | rw [pY] | rw [pN] | rw [oY] | rw [oN] | rw [nY] | rw [nN] )
    · rw [decS_good hg] at k2
      by_cases h2 : 10 ∈ rest
      · have h3 : ¬ (r1.length + 1 < 2) := by have := List.length_pos_iff.2 (fun e => f2.1 e h2); omega
        repeat (first | simp only [go_sem, seval, reduceCtorEq, x49_0, hrest, k1, k2, hg, h2, hc]| rw [wN] | rw [wU] | rw [wA] | rw [mA] | rw [mB] | rw [mC] | rw [cA] | rw [sY] | rw [sN] | rw [gY] | rw [gN] | rw [aY] | rw [aN] | rw [pY] | rw [pN] | rw [oY] | rw [oN] | rw [nY] | rw [nN] )
        exact hz (by simp [h2, hg])
      · have h3 : r1.length + 1 < 2 := by rw [f2.2 h2]; decide
        repeat (first | simp only [go_sem, seval, reduceCtorEq, x49_0, hrest, k1, k2, hg, h2]| rw [wN] | rw [wU] | rw [wA] | rw [mA] | rw [mB] | rw [mC] | rw [cA] | rw [sY] | rw [sN] | rw [gY] | rw [gN] | rw [aY] | rw [aN] | rw [pY] | rw [pN] | rw [oY] | rw [oN] | rw [nY] | rw [nN] )
  · have : s.drop at' = [] := List.drop_eq_nil_of_le (by omega)
    have hg : good n (s.drop at') = false := by rw [this]; simp [good]
    repeat (first | simp only [go_sem, seval, reduceCtorEq, x49_0, hg]| rw [wN] | rw [wU] | rw [wA] | rw [mA] | rw [mB] | rw [mC] | rw [cA] | rw [sY] | rw [sN] | rw [gY] | rw [gN] | rw [aY] | rw [aN] | rw [pY] | rw [pN] | rw [oY] | rw [oN] | rw [nY] | rw [nN] )
theorem loop49 (s : List UInt8) (hs : s.length ≤ 100000) : ∀ (k n at' : Nat) (cells : List AV), n + k = 60 → at' ≤ s.length → cells.length = n * 2 →
    outOf 0 0 [4, 5] (rnd (W Γ) 0 l49_0 [0, 4, 5] b49_0 (some ([.str s, .row 0 n, .int .i64 at'], [.live ⟨.row 36 2, true, cells⟩]))) =
      some (.norm, ⟨[(4, .row 0 (n + (rd k n (s.drop at')).2.1)), (5, .int .i64 ((at' + (rd k n (s.drop at')).2.2 : Nat) : Int))], [.live ⟨.row 36 2, true, cells ++ (rd k n (s.drop at')).1⟩]⟩) := by
  intro k
  induction k with
  | zero =>
    intro n at' cells hn ha hc
    obtain rfl : n = 60 := by omega
    rw [rnd_some]
    unfold b49_0
    by_cases h1 : at' < s.length
    · repeat (first | simp only [go_sem, seval, reduceCtorEq, x49_0, rd, h1, List.append_nil]| rw [wN] | rw [wU] | rw [wA] | rw [mA] | rw [mB] | rw [mC] | rw [cA] | rw [sY] | rw [sN] | rw [gY] | rw [gN] | rw [aY] | rw [aN] | rw [pY] | rw [pN] | rw [oY] | rw [oN] | rw [nY] | rw [nN] )
    · repeat (first | simp only [go_sem, seval, reduceCtorEq, x49_0, rd, h1, List.append_nil]| rw [wN] | rw [wU] | rw [wA] | rw [mA] | rw [mB] | rw [mC] | rw [cA] | rw [sY] | rw [sN] | rw [gY] | rw [gN] | rw [aY] | rw [aN] | rw [pY] | rw [pN] | rw [oY] | rw [oN] | rw [nY] | rw [nN] )
  | succ k ih =>
    intro n at' cells hn ha hc
    have key := row49 s hs n at' (by omega) ha cells hc _ (fun hg => by
      have hl := good_len hg
      have := List.length_drop (i := at') (l := s)
      refine (ih (n + 1) (at' + (ahead (s.drop at') 10).length + 1) _ (by omega) (by omega) ?_)
      simp only [List.length_append, List.length_cons, List.length_nil, hc]
      omega)
    rw [key]
    by_cases hg : good n (s.drop at') = true
    · rw [if_pos hg]
      have hd : s.drop (at' + (ahead (s.drop at') 10).length + 1) = (s.drop at').drop ((ahead (s.drop at') 10).length + 1) := by rw [List.drop_drop]; congr 1
      rw [hd]
      simp only [rd, hg, if_true]
      have e1 : n + 1 + (rd k (n + 1) ((s.drop at').drop ((ahead (s.drop at') 10).length + 1))).2.1 = n + ((rd k (n + 1) ((s.drop at').drop ((ahead (s.drop at') 10).length + 1))).2.1 + 1) := by omega
      have e2 : at' + (ahead (s.drop at') 10).length + 1 + (rd k (n + 1) ((s.drop at').drop ((ahead (s.drop at') 10).length + 1))).2.2 = at' + ((ahead (s.drop at') 10).length + 1 + (rd k (n + 1) ((s.drop at').drop ((ahead (s.drop at') 10).length + 1))).2.2) := by omega
      rw [e1, e2, List.append_assoc]
    · rw [if_neg hg]
      have hr : rd (k + 1) n (s.drop at') = ([], 0, 0) := by rw [rd, if_neg hg]
      rw [hr]
      simp only [Nat.add_zero, List.append_nil]
theorem c49 (s : List UInt8) (hs : s.length ≤ 100000) : W Γ 49 [.str s] [] = some (.tup [.row 0 (rd 60 0 s).2.1, .int .i64 (rd 60 0 s).2.2], [.live ⟨.row 36 2, true, (rd 60 0 s).1⟩]) := by
  rw [W_code (fd := d49) rfl]
  have := loop49 s hs 60 0 0 [] (by omega) (by omega) rfl
  simp only [List.drop_zero, Int.cast_ofNat_Int, Nat.zero_add, List.nil_append] at this
  repeat (first | simp only [go_sem, seval, reduceCtorEq, d49, x49_0, this]| rw [wN] | rw [wU] | rw [wA] | rw [mA] | rw [mB] | rw [mC] | rw [cA] | rw [sY] | rw [sN] | rw [gY] | rw [gN] | rw [aY] | rw [aN] | rw [pY] | rw [pN] | rw [oY] | rw [oN] | rw [nY] | rw [nN] )
theorem c46 (a b : List UInt8) (n : Int) (ha : a.length ≤ 2000000) (hb : b.length ≤ 2000000) : W Γ 46 [.agg [.str a, .str b, .int .i64 n]] [] = some (.bool (valid a b n), []) := by
  rw [W_code (fd := d46) rfl]
  unfold valid okLog
  by_cases h : a.length + b.length ≤ 30000
  · have k1 := c49 (a ++ b) (by simp only [List.length_append]; omega)
    have k2 := c49 a (by omega)
    by_cases q1 : (rd 60 0 (a ++ b)).2.2 = a.length + b.length
    · by_cases q2 : (rd 60 0 a).2.2 = a.length
      · repeat (first | simp only [go_sem, seval, reduceCtorEq, d46, k1, k2]| rw [wN] | rw [wU] | rw [wA] | rw [mA] | rw [mB] | rw [mC] | rw [cA] | rw [sY] | rw [sN] | rw [gY] | rw [gN] | rw [aY] | rw [aN] | rw [pY] | rw [pN] | rw [oY] | rw [oN] | rw [nY] | rw [nN] )
      · repeat (first | simp only [go_sem, seval, reduceCtorEq, d46, k1, k2]| rw [wN] | rw [wU] | rw [wA] | rw [mA] | rw [mB] | rw [mC] | rw [cA] | rw [sY] | rw [sN] | rw [gY] | rw [gN] | rw [aY] | rw [aN] | rw [pY] | rw [pN] | rw [oY] | rw [oN] | rw [nY] | rw [nN] )
    · repeat (first | simp only [go_sem, seval, reduceCtorEq, d46, k1, k2]| rw [wN] | rw [wU] | rw [wA] | rw [mA] | rw [mB] | rw [mC] | rw [cA] | rw [sY] | rw [sN] | rw [gY] | rw [gN] | rw [aY] | rw [aN] | rw [pY] | rw [pN] | rw [oY] | rw [oN] | rw [nY] | rw [nN] )
  · repeat (first | simp only [go_sem, seval, reduceCtorEq, d46]| rw [wN] | rw [wU] | rw [wA] | rw [mA] | rw [mB] | rw [mC] | rw [cA] | rw [sY] | rw [sN] | rw [gY] | rw [gN] | rw [aY] | rw [aN] | rw [pY] | rw [pN] | rw [oY] | rw [oN] | rw [nY] | rw [nN] )
theorem c10 (a b : List UInt8) (n : Int) (ha : a.length ≤ 2000000) (hb : b.length ≤ 2000000) : W Γ 10 [.agg [.str a, .str b, .int .i64 n]] [] = some (.tup (synced a b n), []) := by
  rw [W_code (fd := d10) rfl]
  have k := c46 a b n ha hb
  unfold synced
  cases h : valid a b n
  · rw [h] at k
    repeat (first | simp only [go_sem, seval, reduceCtorEq, d10, k]| rw [wN] | rw [wU] | rw [wA] | rw [mA] | rw [mB] | rw [mC] | rw [cA] | rw [sY] | rw [sN] | rw [gY] | rw [gN] | rw [aY] | rw [aN] | rw [pY] | rw [pN] | rw [oY] | rw [oN] | rw [nY] | rw [nN] )
  · rw [h] at k
    repeat (first | simp only [go_sem, seval, reduceCtorEq, d10, k]| rw [wN] | rw [wU] | rw [wA] | rw [mA] | rw [mB] | rw [mC] | rw [cA] | rw [sY] | rw [sN] | rw [gY] | rw [gN] | rw [aY] | rw [aN] | rw [pY] | rw [pN] | rw [oY] | rw [oN] | rw [nY] | rw [nN] )
theorem c3 (a b : List UInt8) (n : Int) (ha : a.length ≤ maxLen) (hb : b.length ≤ maxLen) : W Γ 3 [.agg [.str a, .str b, .int .i64 n]] [] = some (.bool true, []) := by
  rw [W_code (fd := d3) rfl]
  have k := c9 a b n 1048576 (by omega) ha hb
  simp only [Int.cast_ofNat_Int] at k
  by_cases h : a.length + b.length ≤ 1048576
  · rw [if_pos h] at k
    have k1 := c10 a b n (by omega) (by omega)
    have k2 := c12 a b n (by omega) (by omega)
    unfold synced at k1 k2
    cases hv : valid a b n
    · simp only [hv, Bool.false_eq_true, if_false] at k1 k2
      repeat (first | simp only [go_sem, seval, reduceCtorEq, d3, k, k1, k2, c11, c13]| rw [wN] | rw [wU] | rw [wA] | rw [mA] | rw [mB] | rw [mC] | rw [cA] | rw [sY] | rw [sN] | rw [gY] | rw [gN] | rw [aY] | rw [aN] | rw [pY] | rw [pN] | rw [oY] | rw [oN] | rw [nY] | rw [nN] )
    · simp only [hv, if_true] at k1 k2
      repeat (first | simp only [go_sem, seval, reduceCtorEq, d3, k, k1, k2, c11, c13]| rw [wN] | rw [wU] | rw [wA] | rw [mA] | rw [mB] | rw [mC] | rw [cA] | rw [sY] | rw [sN] | rw [gY] | rw [gN] | rw [aY] | rw [aN] | rw [pY] | rw [pN] | rw [oY] | rw [oN] | rw [nY] | rw [nN] )
  · rw [if_neg h] at k
    repeat (first | simp only [go_sem, seval, reduceCtorEq, d3, k]| rw [wN] | rw [wU] | rw [wA] | rw [mA] | rw [mB] | rw [mC] | rw [cA] | rw [sY] | rw [sN] | rw [gY] | rw [gN] | rw [aY] | rw [aN] | rw [pY] | rw [pN] | rw [oY] | rw [oN] | rw [nY] | rw [nN] )
end Go.Proofs.T
namespace Go.Proofs.T
open Go Go.AX Go.Proofs
theorem rd_count : ∀ (k n : Nat) (s : List UInt8), (rd k n s).2.1 ≤ k
  | 0, n, s => by simp [rd]
  | k + 1, n, s => by
    unfold rd
    split
    · have := rd_count k (n + 1) (s.drop ((ahead s 10).length + 1))
      simp only
      omega
    · simp
theorem valid_count {a b : List UInt8} {n : Int} (h : valid a b n = true) : ∃ m : Nat, n = m ∧ m ≤ 60 ∧ a.length + b.length ≤ 30000 ∧ (rd 60 0 (a ++ b)).2.1 = m := by
  unfold valid okLog at h
  simp only [Bool.and_eq_true, decide_eq_true_eq] at h
  exact ⟨_, h.2.2.symm, rd_count _ _ _, h.1, rfl⟩
def appended (a b : List UInt8) (n : Int) (c r : List UInt8) : List AV :=
  if valid a b n = true ∧ recB c r = true then
    if n = 60 then [.agg [.str a, .str b, .int .i64 n], .int .i64 2] else [.agg [.str a, .str (b ++ lineB n.toNat c r), .int .i64 (n + 1)], .int .i64 0]
  else [.agg [.str a, .str b, .int .i64 n], .int .i64 1]
theorem line_len {k : Nat} {c r : List UInt8} (hk : k ≤ 59) (h : recB c r = true) : (lineB k c r).length ≤ 999999 + 500 := by
  have h1 := (body_ok hk h).1
  have h2 := ck_lt (bodyB k c r) 7 (by decide)
  have h3 := decDigits_len (n := ck 7 (bodyB k c r))
  simp only [lineB, List.length_append, List.length_cons, List.length_nil]
  omega
theorem c17 (a b : List UInt8) (n : Int) (c r : List UInt8) (ha : a.length ≤ 2000000) (hb : b.length ≤ 2000000) (hc : c.length ≤ 2000000) (hr : r.length ≤ 2000000) :
    W Γ 17 [.agg [.str a, .str b, .int .i64 n], .agg [.str c, .str r]] [] = some (.tup (appended a b n c r), []) := by
  rw [W_code (fd := d17) rfl]
  have k1 := c37 a b n ha hb
  have k2 := c35 c r (by omega) (by omega)
  unfold appended
  cases h1 : valid a b n
  · rw [h1] at k1
    rw [if_neg (by simp)]
    repeat (first | simp only [go_sem, seval, reduceCtorEq, d17, k1]| rw [wN] | rw [wU] | rw [wA] | rw [mA] | rw [mB] | rw [mC] | rw [cA] | rw [sY] | rw [sN] | rw [gY] | rw [gN] | rw [aY] | rw [aN] | rw [pY] | rw [pN] | rw [oY] | rw [oN] | rw [nY] | rw [nN] )
  · obtain ⟨m, rfl, hm, hl, _⟩ := valid_count h1
    rw [h1] at k1
    cases h2 : recB c r
    · rw [h2] at k2
      rw [if_neg (by simp)]
      repeat (first | simp only [go_sem, seval, reduceCtorEq, d17, k1, k2]| rw [wN] | rw [wU] | rw [wA] | rw [mA] | rw [mB] | rw [mC] | rw [cA] | rw [sY] | rw [sN] | rw [gY] | rw [gN] | rw [aY] | rw [aN] | rw [pY] | rw [pN] | rw [oY] | rw [oN] | rw [nY] | rw [nN] )
    · rw [h2] at k2
      rw [if_pos ⟨rfl, rfl⟩]
      by_cases h3 : m = 60
      · rw [if_pos (by omega)]
        repeat (first | simp only [go_sem, seval, reduceCtorEq, d17, k1, k2]| rw [wN] | rw [wU] | rw [wA] | rw [mA] | rw [mB] | rw [mC] | rw [cA] | rw [sY] | rw [sN] | rw [gY] | rw [gN] | rw [aY] | rw [aN] | rw [pY] | rw [pN] | rw [oY] | rw [oN] | rw [nY] | rw [nN] )
      · have k3 := c31 m c r (by omega) (by omega) (by omega)
        unfold encB at k3
        rw [if_pos ⟨by omega, h2⟩] at k3
        have := line_len (k := m) (by omega) h2
        rw [if_neg (by omega)]
        repeat (first | simp only [go_sem, seval, reduceCtorEq, d17, k1, k2, k3]| rw [wN] | rw [wU] | rw [wA] | rw [mA] | rw [mB] | rw [mC] | rw [cA] | rw [sY] | rw [sN] | rw [gY] | rw [gN] | rw [aY] | rw [aN] | rw [pY] | rw [pN] | rw [oY] | rw [oN] | rw [nY] | rw [nN] )
theorem c15 (a b : List UInt8) (n : Int) (c r : List UInt8) (ha : a.length ≤ 2000000) (hb : b.length ≤ 2000000) (hc : c.length ≤ 2000000) (hr : r.length ≤ 2000000) :
    W Γ 15 [.agg [.str a, .str b, .int .i64 n], .agg [.str c, .str r]] [] = some (.tup (appended a b n c r), []) := by
  rw [W_code (fd := d15) rfl]
  have k1 := c46 a b n ha hb
  have k2 := c47 c r (by omega) (by omega)
  unfold appended
  cases h1 : valid a b n
  · rw [h1] at k1
    rw [if_neg (by simp)]
    repeat (first | simp only [go_sem, seval, reduceCtorEq, d15, k1]| rw [wN] | rw [wU] | rw [wA] | rw [mA] | rw [mB] | rw [mC] | rw [cA] | rw [sY] | rw [sN] | rw [gY] | rw [gN] | rw [aY] | rw [aN] | rw [pY] | rw [pN] | rw [oY] | rw [oN] | rw [nY] | rw [nN] )
  · obtain ⟨m, rfl, hm, hl, _⟩ := valid_count h1
    rw [h1] at k1
    cases h2 : recB c r
    · rw [h2] at k2
      rw [if_neg (by simp)]
      repeat (first | simp only [go_sem, seval, reduceCtorEq, d15, k1, k2]| rw [wN] | rw [wU] | rw [wA] | rw [mA] | rw [mB] | rw [mC] | rw [cA] | rw [sY] | rw [sN] | rw [gY] | rw [gN] | rw [aY] | rw [aN] | rw [pY] | rw [pN] | rw [oY] | rw [oN] | rw [nY] | rw [nN] )
    · rw [h2] at k2
      rw [if_pos ⟨rfl, rfl⟩]
      obtain ⟨_, q2, q3, _⟩ := rec_spec h2
      by_cases h3 : m = 60
      · rw [if_pos (by omega)]
        repeat (first | simp only [go_sem, seval, reduceCtorEq, d15, k1, k2]| rw [wN] | rw [wU] | rw [wA] | rw [mA] | rw [mB] | rw [mC] | rw [cA] | rw [sY] | rw [sN] | rw [gY] | rw [gN] | rw [aY] | rw [aN] | rw [pY] | rw [pN] | rw [oY] | rw [oN] | rw [nY] | rw [nN] )
      · have k3 := c48 m c r (by omega) (by omega) (by omega)
        have := line_len (k := m) (by omega) h2
        rw [if_neg (by omega)]
        repeat (first | simp only [go_sem, seval, reduceCtorEq, d15, k1, k2, k3]| rw [wN] | rw [wU] | rw [wA] | rw [mA] | rw [mB] | rw [mC] | rw [cA] | rw [sY] | rw [sN] | rw [gY] | rw [gN] | rw [aY] | rw [aN] | rw [pY] | rw [pN] | rw [oY] | rw [oN] | rw [nY] | rw [nN] )
theorem c16 (c r : List UInt8) : W Γ 16 [.agg [.str c, .str r]] [] = some (.agg [.str c, .str r], []) := by
  rw [W_code (fd := d16) rfl]
  repeat (first | simp only [go_sem, seval, reduceCtorEq, d16]| rw [wN] | rw [wU] | rw [wA] | rw [mA] | rw [mB] | rw [mC] | rw [cA] | rw [sY] | rw [sN] | rw [gY] | rw [gN] | rw [aY] | rw [aN] | rw [pY] | rw [pN] | rw [oY] | rw [oN] | rw [nY] | rw [nN] )
theorem c14 (a b : List UInt8) (left : Nat) (hl : left ≤ 1048576) (ha : a.length ≤ maxLen) (hb : b.length ≤ maxLen) : W Γ 14 [.agg [.str a, .str b], .int .i64 left] [] =
    some (.int .i64 (if a.length + b.length ≤ left then ((left - a.length - b.length : Nat) : Int) else -1), []) := by
  rw [W_code (fd := d14) rfl]
  unfold maxLen at ha hb
  by_cases h : a.length ≤ left
  · by_cases h2 : a.length + b.length ≤ left
    · rw [if_pos h2]
      repeat (first | simp only [go_sem, seval, reduceCtorEq, d14]| rw [wN] | rw [wU] | rw [wA] | rw [mA] | rw [mB] | rw [mC] | rw [cA] | rw [sY] | rw [sN] | rw [gY] | rw [gN] | rw [aY] | rw [aN] | rw [pY] | rw [pN] | rw [oY] | rw [oN] | rw [nY] | rw [nN] )
    · rw [if_neg h2]
      repeat (first | simp only [go_sem, seval, reduceCtorEq, d14]| rw [wN] | rw [wU] | rw [wA] | rw [mA] | rw [mB] | rw [mC] | rw [cA] | rw [sY] | rw [sN] | rw [gY] | rw [gN] | rw [aY] | rw [aN] | rw [pY] | rw [pN] | rw [oY] | rw [oN] | rw [nY] | rw [nN] )
  · rw [if_neg (by omega)]
    repeat (first | simp only [go_sem, seval, reduceCtorEq, d14]| rw [wN] | rw [wU] | rw [wA] | rw [mA] | rw [mB] | rw [mC] | rw [cA] | rw [sY] | rw [sN] | rw [gY] | rw [gN] | rw [aY] | rw [aN] | rw [pY] | rw [pN] | rw [oY] | rw [oN] | rw [nY] | rw [nN] )
theorem c4 (a b : List UInt8) (n : Int) (c r : List UInt8) (ha : a.length ≤ maxLen) (hb : b.length ≤ maxLen) (hc : c.length ≤ maxLen) (hr : r.length ≤ maxLen) :
    W Γ 4 [.agg [.str a, .str b, .int .i64 n], .agg [.str c, .str r]] [] = some (.bool true, []) := by
  rw [W_code (fd := d4) rfl]
  have k := c9 a b n 1048576 (by omega) ha hb
  simp only [Int.cast_ofNat_Int] at k
  by_cases h : a.length + b.length ≤ 1048576
  · rw [if_pos h] at k
    have k' := c14 c r (1048576 - a.length - b.length) (by omega) hc hr
    by_cases h' : c.length + r.length ≤ 1048576 - a.length - b.length
    · rw [if_pos h'] at k'
      have k1 := c15 a b n c r (by omega) (by omega) (by omega) (by omega)
      have k2 := c17 a b n c r (by omega) (by omega) (by omega) (by omega)
      unfold appended at k1 k2
      by_cases q1 : valid a b n = true ∧ recB c r = true
      · by_cases q2 : n = 60
        · simp only [if_pos q1, if_pos q2] at k1 k2
          repeat (first | simp only [go_sem, seval, reduceCtorEq, d4, k, k', k1, k2, c11, c16, c13]| rw [wN] | rw [wU] | rw [wA] | rw [mA] | rw [mB] | rw [mC] | rw [cA] | rw [sY] | rw [sN] | rw [gY] | rw [gN] | rw [aY] | rw [aN] | rw [pY] | rw [pN] | rw [oY] | rw [oN] | rw [nY] | rw [nN] )
        · simp only [if_pos q1, if_neg q2] at k1 k2
          repeat (first | simp only [go_sem, seval, reduceCtorEq, d4, k, k', k1, k2, c11, c16, c13]| rw [wN] | rw [wU] | rw [wA] | rw [mA] | rw [mB] | rw [mC] | rw [cA] | rw [sY] | rw [sN] | rw [gY] | rw [gN] | rw [aY] | rw [aN] | rw [pY] | rw [pN] | rw [oY] | rw [oN] | rw [nY] | rw [nN] )
      · simp only [if_neg q1] at k1 k2
        repeat (first | simp only [go_sem, seval, reduceCtorEq, d4, k, k', k1, k2, c11, c16, c13]| rw [wN] | rw [wU] | rw [wA] | rw [mA] | rw [mB] | rw [mC] | rw [cA] | rw [sY] | rw [sN] | rw [gY] | rw [gN] | rw [aY] | rw [aN] | rw [pY] | rw [pN] | rw [oY] | rw [oN] | rw [nY] | rw [nN] )
    · rw [if_neg h'] at k'
      repeat (first | simp only [go_sem, seval, reduceCtorEq, d4, k, k']| rw [wN] | rw [wU] | rw [wA] | rw [mA] | rw [mB] | rw [mC] | rw [cA] | rw [sY] | rw [sN] | rw [gY] | rw [gN] | rw [aY] | rw [aN] | rw [pY] | rw [pN] | rw [oY] | rw [oN] | rw [nY] | rw [nN] )
  · rw [if_neg h] at k
    repeat (first | simp only [go_sem, seval, reduceCtorEq, d4, k]| rw [wN] | rw [wU] | rw [wA] | rw [mA] | rw [mB] | rw [mC] | rw [cA] | rw [sY] | rw [sN] | rw [gY] | rw [gN] | rw [aY] | rw [aN] | rw [pY] | rw [pN] | rw [oY] | rw [oN] | rw [nY] | rw [nN] )
end Go.Proofs.T
namespace Go.Proofs.T
open Go Go.AX Go.Proofs
/-! What the laws mark and hold. -/
def mtL (k : Nat) (out : List UInt8) : List UInt8 := if k = 0 then out else mtL (k / 10) (UInt8.ofNat (48 + k % 10) :: out)
termination_by k
decreasing_by omega
theorem loop52 : ∀ (k : Nat) (out : List UInt8), out.length + k ≤ 1000000000 →
    outOf 0 0 [3] (rnd (W Γ) 0 l52_0 [0, 3] b52_0 (some ([.int .i64 k, .str out], []))) = some (.norm, ⟨[(3, .str (mtL k out))], []⟩) ∧ (mtL k out).length ≤ out.length + k := by
  intro k
  induction k using Nat.strongRecOn with
  | _ k ih =>
    intro out h
    rw [rnd_some, mtL]
    unfold b52_0
    by_cases hk : k = 0
    · rw [if_pos hk]
      subst hk
      refine ⟨?_, by omega⟩
      repeat (first | simp only [go_sem, seval, reduceCtorEq, x52_0]| rw [wN] | rw [wU] | rw [wA] | rw [mA] | rw [mB] | rw [mC] | rw [cA] | rw [sY] | rw [sN] | rw [gY] | rw [gN] | rw [aY] | rw [aN] | rw [pY] | rw [pN] | rw [oY] | rw [oN] | rw [nY] | rw [nN] )
    · rw [if_neg hk]
      obtain ⟨h1, h2⟩ := ih (k / 10) (by omega) (UInt8.ofNat (48 + k % 10) :: out) (by simp only [List.length_cons]; omega)
      refine ⟨?_, by simp only [List.length_cons] at h2; omega⟩
      repeat (first | simp only [go_sem, seval, reduceCtorEq, x52_0, h1]| rw [wN] | rw [wU] | rw [wA] | rw [mA] | rw [mB] | rw [mC] | rw [cA] | rw [sY] | rw [sN] | rw [gY] | rw [gN] | rw [aY] | rw [aN] | rw [pY] | rw [pN] | rw [oY] | rw [oN] | rw [nY] | rw [nN] )
def mt (k : Nat) : List UInt8 := if k = 0 then [109, 48] else 109 :: mtL k []
theorem c52 (k : Nat) (hk : k ≤ 100000000) : W Γ 52 [.int .i64 k] [] = some (.str (mt k), []) := by
  rw [W_code (fd := d52) rfl]
  unfold mt
  by_cases h : k = 0
  · subst h
    repeat (first | simp only [go_sem, seval, reduceCtorEq, d52]| rw [wN] | rw [wU] | rw [wA] | rw [mA] | rw [mB] | rw [mC] | rw [cA] | rw [sY] | rw [sN] | rw [gY] | rw [gN] | rw [aY] | rw [aN] | rw [pY] | rw [pN] | rw [oY] | rw [oN] | rw [nY] | rw [nN] )
  · rw [if_neg h]
    obtain ⟨h1, h2⟩ := loop52 k [] (by simp; omega)
    simp only [List.length_nil] at h2
    repeat (first | simp only [go_sem, seval, reduceCtorEq, d52, x52_0, h1]| rw [wN] | rw [wU] | rw [wA] | rw [mA] | rw [mB] | rw [mC] | rw [cA] | rw [sY] | rw [sN] | rw [gY] | rw [gN] | rw [aY] | rw [aN] | rw [pY] | rw [pN] | rw [oY] | rw [oN] | rw [nY] | rw [nN] )
end Go.Proofs.T
namespace Go.Proofs.T
open Go Go.AX Go.Proofs
/-! Slices of records. -/
abbrev Rec := List UInt8 × List UInt8
def rcs : List Rec → List AV
  | [] => []
  | p :: l => .str p.1 :: .str p.2 :: rcs l
theorem rcs_length : ∀ l : List Rec, (rcs l).length = l.length * 2
  | [] => rfl
  | p :: l => by simp only [rcs, List.length_cons, rcs_length l]; omega
theorem rcs_append : ∀ l k : List Rec, rcs l ++ rcs k = rcs (l ++ k)
  | [], k => rfl
  | p :: l, k => by simp only [rcs, List.cons_append, rcs_append l k]
theorem rcs_locs : ∀ l : List Rec, AV.locsL (rcs l) = []
  | [] => rfl
  | p :: l => by simp only [rcs, AV.locsL, AV.locs, rcs_locs l, List.nil_append]
theorem rcs_one : ∀ l : List Rec, (rcs l).all AV.one = true
  | [] => rfl
  | p :: l => by simp only [rcs, List.all_cons, AV.one, rcs_one l, Bool.and_self]
theorem rcs_drop : ∀ (l : List Rec) (i : Nat), (rcs l).drop (i * 2) = rcs (l.drop i)
  | l, 0 => by simp
  | [], i + 1 => by simp [rcs]
  | p :: l, i + 1 => by
    rw [show (i + 1) * 2 = i * 2 + 1 + 1 by omega]
    simp only [rcs, List.drop_succ_cons, rcs_drop l i]
theorem rcs_take : ∀ (l : List Rec) (i : Nat), (rcs l).take (i * 2) = rcs (l.take i)
  | l, 0 => by simp [rcs]
  | [], i + 1 => by simp [rcs]
  | p :: l, i + 1 => by
    rw [show (i + 1) * 2 = i * 2 + 1 + 1 by omega]
    simp only [rcs, List.take_succ_cons, rcs_take l i]
theorem rcs_at {l : List Rec} {i : Nat} (h : i < l.length) : l.drop i = l.getD i ([], []) :: l.drop (i + 1) := by
  rw [List.drop_eq_getElem_cons h, List.getD_eq_getElem?_getD, List.getElem?_eq_getElem h]; rfl
theorem rcs_cell {l : List Rec} {i : Nat} (h : i < l.length) : ((rcs l).drop (i * 2)).take 2 = [.str (l.getD i ([], [])).1, .str (l.getD i ([], [])).2] := by
  rw [rcs_drop, rcs_at h]; rfl
theorem rcs_fst {l : List Rec} {i : Nat} (h : i < l.length) : (rcs l)[i * 2]? = some (.str (l.getD i ([], [])).1) := by
  have := congrArg (fun x => x[0]?) (rcs_cell h)
  simpa [List.getElem?_take, List.getElem?_drop] using this
theorem rcs_snd {l : List Rec} {i : Nat} (h : i < l.length) : (rcs l)[i * 2 + 1]? = some (.str (l.getD i ([], [])).2) := by
  have := congrArg (fun x => x[1]?) (rcs_cell h)
  simpa [List.getElem?_take, List.getElem?_drop] using this
attribute [go_sem] rcs_length rcs_append rcs_locs rcs_one
theorem c51 (a b a' b' : List UInt8) : W Γ 51 [.agg [.str a, .str b], .agg [.str a', .str b']] [] = some (.bool (decide (a = a') && decide (b = b')), []) := by
  rw [W_code (fd := d51) rfl]
  by_cases h1 : a = a'
  · by_cases h2 : b = b'
    · repeat (first | simp only [go_sem, seval, reduceCtorEq, d51, h1, h2]| rw [wN] | rw [wU] | rw [wA] | rw [mA] | rw [mB] | rw [mC] | rw [cA] | rw [sY] | rw [sN] | rw [gY] | rw [gN] | rw [aY] | rw [aN] | rw [pY] | rw [pN] | rw [oY] | rw [oN] | rw [nY] | rw [nN] )
    · repeat (first | simp only [go_sem, seval, reduceCtorEq, d51, h1, h2]| rw [wN] | rw [wU] | rw [wA] | rw [mA] | rw [mB] | rw [mC] | rw [cA] | rw [sY] | rw [sN] | rw [gY] | rw [gN] | rw [aY] | rw [aN] | rw [pY] | rw [pN] | rw [oY] | rw [oN] | rw [nY] | rw [nN] )
  · repeat (first | simp only [go_sem, seval, reduceCtorEq, d51, h1]| rw [wN] | rw [wU] | rw [wA] | rw [mA] | rw [mB] | rw [mC] | rw [cA] | rw [sY] | rw [sN] | rw [gY] | rw [gN] | rw [aY] | rw [aN] | rw [pY] | rw [pN] | rw [oY] | rw [oN] | rw [nY] | rw [nN] )
theorem loop20 (l : List Rec) (hl : l.length ≤ 1000) : ∀ (k i : Nat), i + k = l.length →
    outOf 2 0 [] (rnd (W Γ) 2 l20_0 [0, 1, 5] b20_0 (some ([.row 0 l.length, .row 1 l.length, .int .i64 i], [.live ⟨.row 36 2, true, rcs l⟩, .live ⟨.row 36 2, true, rcs l⟩]))) =
      some (.norm, ⟨[], [.live ⟨.row 36 2, true, rcs l⟩, .live ⟨.row 36 2, true, rcs l⟩]⟩) := by
  intro k
  induction k with
  | zero =>
    intro i hi
    obtain rfl : i = l.length := by omega
    rw [rnd_some]
    repeat (first | simp only [go_sem, seval, reduceCtorEq, b20_0]| rw [wN] | rw [wU] | rw [wA] | rw [mA] | rw [mB] | rw [mC] | rw [cA] | rw [sY] | rw [sN] | rw [gY] | rw [gN] | rw [aY] | rw [aN] | rw [pY] | rw [pN] | rw [oY] | rw [oN] | rw [nY] | rw [nN] )
  | succ k ih =>
    intro i hi
    have hlt : i < l.length := by omega
    have hn := ih (i + 1) (by omega)
    have hc := rcs_cell hlt
    have := rcs_length l
    rw [rnd_some]
    unfold b20_0
    repeat (first | simp only [go_sem, seval, reduceCtorEq, x20_0, hc, c51, hn]| rw [wN] | rw [wU] | rw [wA] | rw [mA] | rw [mB] | rw [mC] | rw [cA] | rw [sY] | rw [sN] | rw [gY] | rw [gN] | rw [aY] | rw [aN] | rw [pY] | rw [pN] | rw [oY] | rw [oN] | rw [nY] | rw [nN] )
theorem c20 (l : List Rec) (hl : l.length ≤ 1000) : W Γ 20 [.row 0 l.length, .row 1 l.length] [.live ⟨.row 36 2, true, rcs l⟩, .live ⟨.row 36 2, true, rcs l⟩] =
    some (.bool true, [.live ⟨.row 36 2, true, rcs l⟩, .live ⟨.row 36 2, true, rcs l⟩]) := by
  rw [W_code (fd := d20) rfl]
  have := loop20 l hl l.length 0 (by omega)
  simp only [Int.cast_ofNat_Int] at this
  repeat (first | simp only [go_sem, seval, reduceCtorEq, d20, x20_0, this]| rw [wN] | rw [wU] | rw [wA] | rw [mA] | rw [mB] | rw [mC] | rw [cA] | rw [sY] | rw [sN] | rw [gY] | rw [gN] | rw [aY] | rw [aN] | rw [pY] | rw [pN] | rw [oY] | rw [oN] | rw [nY] | rw [nN] )
end Go.Proofs.T
namespace Go.Proofs.T
open Go Go.AX Go.Proofs
theorem mid_take {α : Type} {X Y : List α} {j : Nat} (h : X.length = j) : (X ++ Y).take j = X := by subst h; simp
theorem mid_drop {α : Type} {X Y : List α} {j : Nat} (h : X.length = j) : (X ++ Y).drop j = Y := by subst h; simp
theorem mid_get {α : Type} {X Y : List α} {y : α} {j : Nat} (h : X.length = j) : (X ++ y :: Y)[j]? = some y := by subst h; simp
theorem mid_take1 {α : Type} {X Y : List α} {y : α} {j : Nat} (h : X.length = j) : (X ++ y :: Y).take (j + 1) = X ++ [y] := by subst h; simp [List.take_append, List.take_of_length_le]
theorem mid_drop1 {α : Type} {X Y : List α} {y : α} {j : Nat} (h : X.length = j) : (X ++ y :: Y).drop (j + 1) = Y := by subst h; rw [← List.drop_drop]; simp
theorem mid_drop2 {α : Type} {X Y : List α} {y z : α} {j : Nat} (h : X.length = j) : (X ++ y :: z :: Y).drop (j + 2) = Y := by subst h; rw [← List.drop_drop]; simp
theorem mid_get1 {α : Type} {X Y : List α} {y z : α} {j : Nat} (h : X.length = j) : (X ++ y :: z :: Y)[j + 1]? = some z := by subst h; simp [List.getElem?_append]
def mks (k : Nat) : Nat → List Rec
  | 0 => []
  | n + 1 => (mt k, mt (k + 1)) :: mks (k + 2) n
theorem mks_length : ∀ (n k : Nat), (mks k n).length = n
  | 0, k => rfl
  | n + 1, k => by simp [mks, mks_length n]
theorem loop21 (N : Nat) (hN : N ≤ 1000) : ∀ (B A : List Rec) (k : Nat), A.length + B.length = N → k + 2 * B.length ≤ 1000000 →
    outOf 1 0 [1] (rnd (W Γ) 1 l21_0 [0, 1, 5] b21_0 (some ([.row 0 N, .int .i64 k, .int .i64 A.length], [.live ⟨.row 36 2, true, rcs (A ++ B)⟩]))) =
      some (.norm, ⟨[(1, .int .i64 ((k + 2 * B.length : Nat) : Int))], [.live ⟨.row 36 2, true, rcs (A ++ mks k B.length)⟩]⟩) := by
  intro B
  induction B with
  | nil =>
    intro A k h hk
    simp only [List.length_nil, Nat.add_zero] at h hk
    subst h
    rw [rnd_some]
    repeat (first | simp only [go_sem, seval, reduceCtorEq, b21_0, mks]| rw [wN] | rw [wU] | rw [wA] | rw [mA] | rw [mB] | rw [mC] | rw [cA] | rw [sY] | rw [sN] | rw [gY] | rw [gN] | rw [aY] | rw [aN] | rw [pY] | rw [pN] | rw [oY] | rw [oN] | rw [nY] | rw [nN] )
  | cons p B ih =>
    intro A k h hk
    simp only [List.length_cons] at h hk
    have hn := ih (A ++ [(mt k, mt (k + 1))]) (k + 2) (by simp only [List.length_append, List.length_cons, List.length_nil]; omega) (by omega)
    have hX := rcs_length A
    have e0 : rcs (A ++ p :: B) = rcs A ++ .str p.1 :: .str p.2 :: rcs B := by rw [← rcs_append]; rfl
    have e1 := fun (y : AV) Y => mid_take (Y := y :: Y) hX
    have e2 := fun (y : AV) Y => mid_drop1 (y := y) (Y := Y) hX
    have e3 := fun (y : AV) Y => mid_take1 (y := y) (Y := Y) hX
    have e4 := fun (y z : AV) Y => mid_drop2 (y := y) (z := z) (Y := Y) hX
    have hl : (rcs A ++ .str p.1 :: .str p.2 :: rcs B).length = (A.length + B.length + 1) * 2 := by simp only [List.length_append, List.length_cons, rcs_length]; omega
    have e5 : rcs A ++ .str (mt k) :: .str (mt (k + 1)) :: rcs B = rcs (A ++ ([(mt k, mt (k + 1))] ++ B)) := by rw [← rcs_append]; rfl
    have e6 : A ++ mks k (B.length + 1) = A ++ [(mt k, mt (k + 1))] ++ mks (k + 2) B.length := by simp [mks]
    simp only [List.length_append, List.length_cons, List.length_nil, List.append_assoc, List.cons_append, List.nil_append, Nat.zero_add] at hn
    rw [rnd_some, e0]
    unfold b21_0
    repeat (first | simp only [go_sem, seval, reduceCtorEq, x21_0, c52 k (by omega), c52 (k + 1) (by omega), rcs_locs, e1, e2, e3, e4, e5]| rw [wN] | rw [wU] | rw [wA] | rw [mA] | rw [mB] | rw [mC] | rw [cA] | rw [sY] | rw [sN] | rw [gY] | rw [gN] | rw [aY] | rw [aN] | rw [pY] | rw [pN] | rw [oY] | rw [oN] | rw [nY] | rw [nN] )
    rw [show k + 1 + 1 = k + 2 by omega, hn, show k + 2 + 2 * B.length = k + 2 * (B.length + 1) by omega]
    rfl
theorem c21 (l : List Rec) (hl : l.length ≤ 1000) : W Γ 21 [.row 0 l.length, .int .i64 1] [.live ⟨.row 36 2, true, rcs l⟩] =
    some (.int .i64 ((1 + 2 * l.length : Nat) : Int), [.live ⟨.row 36 2, true, rcs (mks 1 l.length)⟩]) := by
  rw [W_code (fd := d21) rfl]
  have := loop21 l.length hl l [] 1 (by simp) (by omega)
  simp only [Int.cast_ofNat_Int, List.length_nil, List.nil_append] at this
  repeat (first | simp only [go_sem, seval, reduceCtorEq, d21, x21_0, this]| rw [wN] | rw [wU] | rw [wA] | rw [mA] | rw [mB] | rw [mC] | rw [cA] | rw [sY] | rw [sN] | rw [gY] | rw [gN] | rw [aY] | rw [aN] | rw [pY] | rw [pN] | rw [oY] | rw [oN] | rw [nY] | rw [nN] )
theorem mks_split : ∀ (i n k : Nat), i ≤ n → mks k n = mks k i ++ mks (k + 2 * i) (n - i)
  | 0, n, k, _ => by simp [mks]
  | i + 1, n, k, h => by
    obtain ⟨n, rfl⟩ : ∃ m, n = m + 1 := ⟨n - 1, by omega⟩
    have := mks_split i n (k + 2) (by omega)
    simp only [mks, this, List.cons_append, Nat.add_sub_add_right]
    rw [show k + 2 + 2 * i = k + 2 * (i + 1) by omega]
theorem mks_getD {i n k : Nat} (h : i < n) : (mks k n).getD i ([], []) = (mt (k + 2 * i), mt (k + 2 * i + 1)) := by
  rw [mks_split i n k (by omega)]
  obtain ⟨m, hm⟩ : ∃ m, n - i = m + 1 := ⟨n - i - 1, by omega⟩
  rw [hm, List.getD_eq_getElem?_getD, List.getElem?_append_right (by rw [mks_length]; omega), mks_length, Nat.sub_self]
  rfl
theorem loop22 (N : Nat) (hN : N ≤ 1000) : ∀ (j i : Nat), i + j = N →
    outOf 1 0 [1] (rnd (W Γ) 1 l22_0 [0, 1, 5] b22_0 (some ([.row 0 N, .int .i64 ((1 + 2 * i : Nat) : Int), .int .i64 i], [.live ⟨.row 36 2, true, rcs (mks 1 N)⟩]))) =
      some (.norm, ⟨[(1, .int .i64 ((1 + 2 * N : Nat) : Int))], [.live ⟨.row 36 2, true, rcs (mks 1 N)⟩]⟩) := by
  intro j
  induction j with
  | zero =>
    intro i h
    obtain rfl : i = N := by omega
    rw [rnd_some]
    repeat (first | simp only [go_sem, seval, reduceCtorEq, b22_0]| rw [wN] | rw [wU] | rw [wA] | rw [mA] | rw [mB] | rw [mC] | rw [cA] | rw [sY] | rw [sN] | rw [gY] | rw [gN] | rw [aY] | rw [aN] | rw [pY] | rw [pN] | rw [oY] | rw [oN] | rw [nY] | rw [nN] )
  | succ j ih =>
    intro i h
    have hlt : i < N := by omega
    have hn := ih (i + 1) (by omega)
    have hl := mks_length N 1
    have e1 := rcs_fst (l := mks 1 N) (i := i) (by omega)
    have e2 := rcs_snd (l := mks 1 N) (i := i) (by omega)
    rw [mks_getD hlt] at e1 e2
    rw [show 1 + 2 * (i + 1) = 1 + 2 * i + 1 + 1 by omega] at hn
    rw [rnd_some]
    unfold b22_0
    repeat (first | simp only [go_sem, seval, reduceCtorEq, x22_0, c52 (1 + 2 * i) (by omega), c52 (1 + 2 * i + 1) (by omega), e1, e2, hn]| rw [wN] | rw [wU] | rw [wA] | rw [mA] | rw [mB] | rw [mC] | rw [cA] | rw [sY] | rw [sN] | rw [gY] | rw [gN] | rw [aY] | rw [aN] | rw [pY] | rw [pN] | rw [oY] | rw [oN] | rw [nY] | rw [nN] )
theorem c22 (N : Nat) (hN : N ≤ 1000) : W Γ 22 [.row 0 N, .int .i64 1] [.live ⟨.row 36 2, true, rcs (mks 1 N)⟩] =
    some (.int .i64 ((1 + 2 * N : Nat) : Int), [.live ⟨.row 36 2, true, rcs (mks 1 N)⟩]) := by
  rw [W_code (fd := d22) rfl]
  have := loop22 N hN N 0 (by simp)
  simp only [Int.cast_ofNat_Int, Nat.mul_zero, Nat.add_zero] at this
  repeat (first | simp only [go_sem, seval, reduceCtorEq, d22, x22_0, this]| rw [wN] | rw [wU] | rw [wA] | rw [mA] | rw [mB] | rw [mC] | rw [cA] | rw [sY] | rw [sN] | rw [gY] | rw [gN] | rw [aY] | rw [aN] | rw [pY] | rw [pN] | rw [oY] | rw [oN] | rw [nY] | rw [nN] )
def recsOf : Nat → Nat → List UInt8 → List Rec
  | 0, _, _ => []
  | k + 1, n, rest => if good n rest = true then (cmdOf (ahead rest 10), repOf (ahead rest 10)) :: recsOf k (n + 1) (rest.drop ((ahead rest 10).length + 1)) else []
theorem rd_recs : ∀ (k n : Nat) (s : List UInt8), (rd k n s).1 = rcs (recsOf k n s) ∧ (rd k n s).2.1 = (recsOf k n s).length
  | 0, n, s => by simp [rd, recsOf, rcs]
  | k + 1, n, s => by
    obtain ⟨h1, h2⟩ := rd_recs k (n + 1) (s.drop ((ahead s 10).length + 1))
    unfold rd recsOf
    split
    · simp only [h1, h2, rcs, List.length_cons, List.cons_append, List.nil_append, and_self]
    · simp [rcs]
theorem c19 (a b : List UInt8) (n : Int) (ha : a.length ≤ 2000000) (hb : b.length ≤ 2000000) : W Γ 19 [.agg [.str a, .str b, .int .i64 n]] [] =
    if valid a b n = true then some (.tup [.row 0 (recsOf 60 0 (a ++ b)).length, .bool true], [.live ⟨.row 36 2, true, rcs (recsOf 60 0 (a ++ b))⟩]) else some (.tup [.nilsl, .bool false], []) := by
  rw [W_code (fd := d19) rfl]
  have k := c50 a b n ha hb
  obtain ⟨e1, e2⟩ := rd_recs 60 0 (a ++ b)
  rw [e1, e2] at k
  unfold valid
  by_cases h : a.length + b.length ≤ 30000
  · rw [if_pos h] at k
    cases h2 : okLog a b n
    · rw [h2] at k
      rw [if_neg (by simp)]
      repeat (first | simp only [go_sem, seval, reduceCtorEq, d19, k]| rw [wN] | rw [wU] | rw [wA] | rw [mA] | rw [mB] | rw [mC] | rw [cA] | rw [sY] | rw [sN] | rw [gY] | rw [gN] | rw [aY] | rw [aN] | rw [pY] | rw [pN] | rw [oY] | rw [oN] | rw [nY] | rw [nN] )
    · rw [h2] at k
      rw [if_pos (by simp [h])]
      repeat (first | simp only [go_sem, seval, reduceCtorEq, d19, k]| rw [wN] | rw [wU] | rw [wA] | rw [mA] | rw [mB] | rw [mC] | rw [cA] | rw [sY] | rw [sN] | rw [gY] | rw [gN] | rw [aY] | rw [aN] | rw [pY] | rw [pN] | rw [oY] | rw [oN] | rw [nY] | rw [nN] )
  · rw [if_neg h] at k
    rw [if_neg (by simp [h])]
    repeat (first | simp only [go_sem, seval, reduceCtorEq, d19, k]| rw [wN] | rw [wU] | rw [wA] | rw [mA] | rw [mB] | rw [mC] | rw [cA] | rw [sY] | rw [sN] | rw [gY] | rw [gN] | rw [aY] | rw [aN] | rw [pY] | rw [pN] | rw [oY] | rw [oN] | rw [nY] | rw [nN] )
theorem c18 (a b : List UInt8) (n : Int) (ha : a.length ≤ 2000000) (hb : b.length ≤ 2000000) : W Γ 18 [.agg [.str a, .str b, .int .i64 n]] [] =
    if valid a b n = true then some (.tup [.row 0 (recsOf 60 0 (a ++ b)).length, .bool true], [.live ⟨.row 36 2, true, rcs (recsOf 60 0 (a ++ b))⟩]) else some (.tup [.row 0 0, .bool false], [.live ⟨.row 36 2, true, []⟩]) := by
  rw [W_code (fd := d18) rfl]
  have k := c46 a b n ha hb
  cases h : valid a b n
  · rw [h] at k
    rw [if_neg (by simp)]
    repeat (first | simp only [go_sem, seval, reduceCtorEq, d18, k]| rw [wN] | rw [wU] | rw [wA] | rw [mA] | rw [mB] | rw [mC] | rw [cA] | rw [sY] | rw [sN] | rw [gY] | rw [gN] | rw [aY] | rw [aN] | rw [pY] | rw [pN] | rw [oY] | rw [oN] | rw [nY] | rw [nN] )
  · obtain ⟨m, rfl, hm, hl, _⟩ := valid_count h
    have k2 := c49 (a ++ b) (by simp only [List.length_append]; omega)
    obtain ⟨e1, e2⟩ := rd_recs 60 0 (a ++ b)
    rw [e1, e2] at k2
    rw [h] at k
    rw [if_pos rfl]
    repeat (first | simp only [go_sem, seval, reduceCtorEq, d18, k, k2]| rw [wN] | rw [wU] | rw [wA] | rw [mA] | rw [mB] | rw [mC] | rw [cA] | rw [sY] | rw [sN] | rw [gY] | rw [gN] | rw [aY] | rw [aN] | rw [pY] | rw [pN] | rw [oY] | rw [oN] | rw [nY] | rw [nN] )
theorem recs_len (k n : Nat) (s : List UInt8) : (recsOf k n s).length ≤ k := by
  rw [← (rd_recs k n s).2]; exact rd_count k n s
theorem n20 : W Γ 20 [.nilsl, .row 0 0] [.live ⟨.row 36 2, true, []⟩] = some (.bool true, [.live ⟨.row 36 2, true, []⟩]) := by
  rw [W_code (fd := d20) rfl]
  repeat (first | simp only [go_sem, seval, reduceCtorEq, d20, x20_0, rnd_some, b20_0]| rw [wN] | rw [wU] | rw [wA] | rw [mA] | rw [mB] | rw [mC] | rw [cA] | rw [sY] | rw [sN] | rw [gY] | rw [gN] | rw [aY] | rw [aN] | rw [pY] | rw [pN] | rw [oY] | rw [oN] | rw [nY] | rw [nN] )
theorem n21 : W Γ 21 [.nilsl, .int .i64 1] [] = some (.int .i64 1, []) := by
  rw [W_code (fd := d21) rfl]
  repeat (first | simp only [go_sem, seval, reduceCtorEq, d21, x21_0, rnd_some, b21_0]| rw [wN] | rw [wU] | rw [wA] | rw [mA] | rw [mB] | rw [mC] | rw [cA] | rw [sY] | rw [sN] | rw [gY] | rw [gN] | rw [aY] | rw [aN] | rw [pY] | rw [pN] | rw [oY] | rw [oN] | rw [nY] | rw [nN] )
theorem n22 : W Γ 22 [.nilsl, .int .i64 1] [] = some (.int .i64 1, []) := by
  rw [W_code (fd := d22) rfl]
  repeat (first | simp only [go_sem, seval, reduceCtorEq, d22, x22_0, rnd_some, b22_0]| rw [wN] | rw [wU] | rw [wA] | rw [mA] | rw [mB] | rw [mC] | rw [cA] | rw [sY] | rw [sN] | rw [gY] | rw [gN] | rw [aY] | rw [aN] | rw [pY] | rw [pN] | rw [oY] | rw [oN] | rw [nY] | rw [nN] )
theorem c5 (a b : List UInt8) (n : Int) (ha : a.length ≤ maxLen) (hb : b.length ≤ maxLen) : W Γ 5 [.agg [.str a, .str b, .int .i64 n]] [] = some (.bool true, []) := by
  rw [W_code (fd := d5) rfl]
  have k := c9 a b n 1048576 (by omega) ha hb
  simp only [Int.cast_ofNat_Int] at k
  by_cases h : a.length + b.length ≤ 1048576
  · rw [if_pos h] at k
    have k1 := c18 a b n (by omega) (by omega)
    have k2 := c19 a b n (by omega) (by omega)
    by_cases hv : valid a b n = true
    · rw [if_pos hv] at k1 k2
      have := recs_len 60 0 (a ++ b)
      have k3 := c20 (recsOf 60 0 (a ++ b)) (by omega)
      have k4 := c21 (recsOf 60 0 (a ++ b)) (by omega)
      have k5 := c22 (recsOf 60 0 (a ++ b)).length (by omega)
      repeat (first | simp only [go_sem, seval, reduceCtorEq, d5, k, k1, k2, k3, k4, k5, c11]| rw [wN] | rw [wU] | rw [wA] | rw [mA] | rw [mB] | rw [mC] | rw [cA] | rw [sY] | rw [sN] | rw [gY] | rw [gN] | rw [aY] | rw [aN] | rw [pY] | rw [pN] | rw [oY] | rw [oN] | rw [nY] | rw [nN] )
    · rw [if_neg hv] at k1 k2
      repeat (first | simp only [go_sem, seval, reduceCtorEq, d5, k, k1, k2, c11, n20, n21, n22]| rw [wN] | rw [wU] | rw [wA] | rw [mA] | rw [mB] | rw [mC] | rw [cA] | rw [sY] | rw [sN] | rw [gY] | rw [gN] | rw [aY] | rw [aN] | rw [pY] | rw [pN] | rw [oY] | rw [oN] | rw [nY] | rw [nN] )
  · rw [if_neg h] at k
    repeat (first | simp only [go_sem, seval, reduceCtorEq, d5, k]| rw [wN] | rw [wU] | rw [wA] | rw [mA] | rw [mB] | rw [mC] | rw [cA] | rw [sY] | rw [sN] | rw [gY] | rw [gN] | rw [aY] | rw [aN] | rw [pY] | rw [pN] | rw [oY] | rw [oN] | rw [nY] | rw [nN] )
end Go.Proofs.T
namespace Go.Proofs.T
open Go Go.AX Go.Proofs
/-! The draws' cursor: a place in some bytes, and a seed. -/
inductive CV where
  | nil
  | sl (s : List UInt8)
  | row (s : List UInt8)
def CV.len : CV → Nat
  | .nil => 0
  | .sl s => s.length
  | .row s => s.length
def cur (c : CV) (a : Nat) (sd : Int) : Store := match c with
  | .nil => [.live ⟨.box, true, [.nilsl, .int .i64 a, .int .u64 sd]⟩]
  | .sl s => [.live ⟨.box, false, [.sl 1 0 s.length, .int .i64 a, .int .u64 sd]⟩, .live ⟨.ro, true, u8s s⟩]
  | .row s => [.live ⟨.box, false, [.row 1 s.length, .int .i64 a, .int .u64 sd]⟩, .live ⟨.row 5 1, true, u8s s⟩]
theorem u8s_length {s : List UInt8} : (u8s s).length = s.length := by simp [u8s]
theorem u8s_get {s : List UInt8} {j : Nat} (h : j < s.length) : (u8s s)[j]? = some (.int .u8 (s.getD j 0).toNat) := by
  simp [u8s, List.getD_eq_getElem?_getD, h]
theorem u8s_locs : ∀ {s : List UInt8}, AV.locsL (u8s s) = []
  | [] => rfl
  | x :: s => by
    have := u8s_locs (s := s)
    simp only [u8s] at this
    simp only [u8s, List.map_cons, AV.locsL, AV.locs, this, List.nil_append]
theorem and255 (x : BitVec 64) : (x &&& 255#64).toNat ≤ 255 := by
  rw [BitVec.toNat_and]
  exact Nat.le_trans Nat.and_le_right (by decide)
/-- The seed behind a step, and the number that is drawn where there is no byte. -/
def sdn (sd b : Int) : Int := IntKind.u64.wrap (IntKind.u64.wrap (IntKind.u64.wrap (sd * 6364136223846793005) + IntKind.u64.wrap b) + 462197)
def sdx (sd : Int) : Int := IntKind.i64.wrap (IntKind.u64.wrap ((BitVec.ofInt 64 (sd.fdiv (2 ^ min 40 64)) &&& 255#64).toNat : Nat))
theorem sdx_nat (sd : Int) : ∃ m : Nat, sdx sd = m ∧ m ≤ 255 := by
  have h := and255 (BitVec.ofInt 64 (sd.fdiv (2 ^ min 40 64)))
  refine ⟨(BitVec.ofInt 64 (sd.fdiv (2 ^ min 40 64)) &&& 255#64).toNat, ?_, h⟩
  unfold sdx
  rw [IntKind.wrap_u64, IntKind.wrap_i64]
  omega
theorem sdn_fold (sd b : Int) : IntKind.u64.wrap (IntKind.u64.wrap (IntKind.u64.wrap (sd * 6364136223846793005) + IntKind.u64.wrap b) + 462197) = sdn sd b := rfl
theorem sdx_fold (sd : Int) : IntKind.i64.wrap (IntKind.u64.wrap ((BitVec.ofInt 64 (sd.fdiv (2 ^ min 40 64)) &&& 255#64).toNat : Nat)) = sdx sd := rfl
theorem c83 (c : CV) (a : Nat) (sd : Int) (ha : a ≤ 1000000) (hc : c.len ≤ 1000000) :
    ∃ x : Nat, ∃ sd' : Int, W Γ 83 [.ptr 0 0] (cur c a sd) = some (.int .i64 x, cur c (a + 1) sd') ∧ x ≤ 255 := by
  rw [W_code (fd := d83) rfl]
  cases c with
  | nil =>
    obtain ⟨m, hm, hb⟩ := sdx_nat (sdn sd 0)
    refine ⟨m, sdn sd 0, ?_, hb⟩
    simp only [cur]
    repeat (first | simp only [go_sem, seval, reduceCtorEq, d83, sdn_fold]| rw [wN] | rw [wU] | rw [wA] | rw [mA] | rw [mB] | rw [mC] | rw [cA] | rw [sY] | rw [sN] | rw [gY] | rw [gN] | rw [aY] | rw [aN] | rw [pY] | rw [pN] | rw [oY] | rw [oN] | rw [nY] | rw [nN] )
    unfold sdx at hm
    rw [← hm]
    rfl
  | sl s =>
    simp only [CV.len] at hc
    by_cases h : a < s.length
    · have hg := u8s_get h
      have := u8_lt (s.getD a 0)
      refine ⟨(s.getD a 0).toNat, sdn sd (s.getD a 0).toNat, ?_, by omega⟩
      simp only [cur]
      repeat (first | simp only [go_sem, seval, reduceCtorEq, d83, hg, sdn_fold]| rw [wN] | rw [wU] | rw [wA] | rw [mA] | rw [mB] | rw [mC] | rw [cA] | rw [sY] | rw [sN] | rw [gY] | rw [gN] | rw [aY] | rw [aN] | rw [pY] | rw [pN] | rw [oY] | rw [oN] | rw [nY] | rw [nN] )
    · obtain ⟨m, hm, hb⟩ := sdx_nat (sdn sd 0)
      refine ⟨m, sdn sd 0, ?_, hb⟩
      simp only [cur]
      repeat (first | simp only [go_sem, seval, reduceCtorEq, d83, sdn_fold]| rw [wN] | rw [wU] | rw [wA] | rw [mA] | rw [mB] | rw [mC] | rw [cA] | rw [sY] | rw [sN] | rw [gY] | rw [gN] | rw [aY] | rw [aN] | rw [pY] | rw [pN] | rw [oY] | rw [oN] | rw [nY] | rw [nN] )
      unfold sdx at hm
      rw [← hm]
      rfl
  | row s =>
    simp only [CV.len] at hc
    by_cases h : a < s.length
    · have hg := u8s_get h
      have := u8_lt (s.getD a 0)
      refine ⟨(s.getD a 0).toNat, sdn sd (s.getD a 0).toNat, ?_, by omega⟩
      simp only [cur]
      repeat (first | simp only [go_sem, seval, reduceCtorEq, d83, hg, sdn_fold]| rw [wN] | rw [wU] | rw [wA] | rw [mA] | rw [mB] | rw [mC] | rw [cA] | rw [sY] | rw [sN] | rw [gY] | rw [gN] | rw [aY] | rw [aN] | rw [pY] | rw [pN] | rw [oY] | rw [oN] | rw [nY] | rw [nN] )
    · obtain ⟨m, hm, hb⟩ := sdx_nat (sdn sd 0)
      refine ⟨m, sdn sd 0, ?_, hb⟩
      simp only [cur]
      repeat (first | simp only [go_sem, seval, reduceCtorEq, d83, sdn_fold]| rw [wN] | rw [wU] | rw [wA] | rw [mA] | rw [mB] | rw [mC] | rw [cA] | rw [sY] | rw [sN] | rw [gY] | rw [gN] | rw [aY] | rw [aN] | rw [pY] | rw [pN] | rw [oY] | rw [oN] | rw [nY] | rw [nN] )
      unfold sdx at hm
      rw [← hm]
      rfl
theorem c64 (c : CV) (a : Nat) (sd : Int) (n : Int) (ha : a ≤ 900000) (hc : c.len ≤ 1000000) (hn : n ≤ 1000000) :
    ∃ x a' : Nat, ∃ sd' : Int, W Γ 64 [.ptr 0 0, .int .i64 n] (cur c a sd) = some (.int .i64 x, cur c a' sd') ∧ a' ≤ a + 2 ∧ (1 < n → (x : Int) < n) ∧ (n ≤ 1 → x = 0) := by
  rw [W_code (fd := d64) rfl]
  by_cases h1 : n ≤ 1
  · refine ⟨0, a, sd, ?_, by omega, by omega, by omega⟩
    cases c <;> simp only [cur] <;> repeat (first | simp only [go_sem, seval, reduceCtorEq, d64]| rw [wN] | rw [wU] | rw [wA] | rw [mA] | rw [mB] | rw [mC] | rw [cA] | rw [sY] | rw [sN] | rw [gY] | rw [gN] | rw [aY] | rw [aN] | rw [pY] | rw [pN] | rw [oY] | rw [oN] | rw [nY] | rw [nN] )
  · obtain ⟨n, rfl⟩ : ∃ m : Nat, n = m := ⟨n.toNat, by omega⟩
    obtain ⟨x1, sd1, e1, b1⟩ := c83 c a sd (by omega) hc
    obtain ⟨x2, sd2, e2, b2⟩ := c83 c (a + 1) sd1 (by omega) hc
    by_cases h2 : 200 < n
    · refine ⟨(x1 * 256 + x2) % n, a + 2, sd2, ?_, by omega, fun _ => ?_, by omega⟩
      · cases c <;> simp only [cur] at e1 e2 ⊢ <;> repeat (first | simp only [go_sem, seval, reduceCtorEq, d64, e1, e2]| rw [wN] | rw [wU] | rw [wA] | rw [mA] | rw [mB] | rw [mC] | rw [cA] | rw [sY] | rw [sN] | rw [gY] | rw [gN] | rw [aY] | rw [aN] | rw [pY] | rw [pN] | rw [oY] | rw [oN] | rw [nY] | rw [nN] )
      · have := Nat.mod_lt (x1 * 256 + x2) (show n > 0 by omega)
        omega
    · refine ⟨x1 % n, a + 1, sd1, ?_, by omega, fun _ => ?_, by omega⟩
      · cases c <;> simp only [cur] at e1 e2 ⊢ <;> repeat (first | simp only [go_sem, seval, reduceCtorEq, d64, e1]| rw [wN] | rw [wU] | rw [wA] | rw [mA] | rw [mB] | rw [mC] | rw [cA] | rw [sY] | rw [sN] | rw [gY] | rw [gN] | rw [aY] | rw [aN] | rw [pY] | rw [pN] | rw [oY] | rw [oN] | rw [nY] | rw [nN] )
      · have := Nat.mod_lt x1 (show n > 0 by omega)
        omega
end Go.Proofs.T
