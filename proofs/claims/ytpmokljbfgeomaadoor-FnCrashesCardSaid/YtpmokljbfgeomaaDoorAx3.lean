/- What is proved here: equations by which the executor is evaluated without a bound on rounds, and how a law over plain arguments, or over slices of plain elements, follows from a run of it; no condition but those written in each theorem. -/
import Derived.Test.YtpmokljbfgeomaaDoorAx2
import Derived.ChangeSame
import Derived.Deep.DeepHandedRow
import Derived.OpenShut
import Derived.Deep.Slices
import Derived.WideKeyArgs
set_option linter.unusedSimpArgs false
set_option linter.unusedVariables false
namespace Go.AX

def Le (R R' : Run) : Prop := ∀ f a σ r, R f a σ = some r → R' f a σ = some r
theorem Le.refl (R : Run) : Le R R := fun _ _ _ _ h => h
theorem Le.trans {R R' R'' : Run} (h : Le R R') (h' : Le R' R'') : Le R R'' := fun f a σ r e => h' f a σ r (h f a σ r e)

/-- A number from which on all is done, as the limit does it. -/
theorem callA_use {R : Run} {f : Nat} {args : List AV} {σ : Store} {slot k : Nat} {r : AV × Store} (h : callA R f args σ slot k = some r) :
    ∃ a' σ' r', R f a' σ' = some r' ∧ ∀ R' : Run, R' f a' σ' = some r' → callA R' f args σ slot k = some r := by
  simp only [callA] at h
  cases hp : partF σ (AV.locsL args) with
  | none => simp [hp] at h
  | some F =>
    simp only [hp] at h
    cases hrun : R f (AV.rnL (idx F) args) (view σ F F) with
    | none => simp [hrun] at h
    | some rs =>
      refine ⟨_, _, rs, hrun, fun R' hR' => ?_⟩
      simp only [callA, hp, hR']
      simpa only [hrun] using h

section
variable {Rn : Nat → Run} {R : Run}

/-- A chain of runs, and one that does nothing that none of them does. -/
structure Chain (Rn : Nat → Run) (R : Run) : Prop where
  up : ∀ n, Le (Rn n) (Rn (n + 1))
  lim : ∀ f a σ r, R f a σ = some r → ∃ n, Rn n f a σ = some r

theorem Chain.le (h : Chain Rn R) {n m : Nat} (hnm : n ≤ m) : Le (Rn n) (Rn m) := by
  induction hnm with
  | refl => exact Le.refl _
  | step _ ih => exact ih.trans (h.up _)

theorem Chain.of_le {R R' : Run} (h : Le R R') : Chain (fun _ => R') R := ⟨fun _ => Le.refl _, fun f a σ r e => ⟨0, h f a σ r e⟩⟩

theorem opn_cont (hc : Chain Rn R) {base : Nat} {o : Opn} {s : St} {r : AV × Store} (h : opn R base o s = some r) : ∃ n, ∀ m, n ≤ m → opn (Rn m) base o s = some r := by
  cases o with
  | p o xs => exact ⟨0, fun m _ => h⟩
  | m o sl xs => exact ⟨0, fun m _ => h⟩
  | call f xs slot k =>
    simp only [opn] at h
    split at h <;> try (simp at h; done)
    rename_i g fs cap hf
    obtain ⟨a', σ', r', h1, h2⟩ := callA_use h
    obtain ⟨n, hn⟩ := hc.lim _ _ _ _ h1
    exact ⟨n, fun m hm => by simp only [opn, hf]; exact h2 _ (hc.le hm _ _ _ _ hn)⟩

theorem opStep_cont (hc : Chain Rn R) {base : Nat} {o : AOp} {s s' : St} (h : opStep R base o s = some s') : ∃ n, ∀ m, n ≤ m → opStep (Rn m) base o s = some s' := by
  unfold opStep at h
  cases hg : o.guard with
  | none =>
    simp only [hg] at h
    split at h <;> simp only [reduceCtorEq, Option.some.injEq] at h
    rename_i v σ' hop
    obtain ⟨n, hn⟩ := opn_cont hc hop
    exact ⟨n, fun m hm => by simp only [opStep, hg, hn m hm, h]⟩
  | some gw =>
    obtain ⟨g, want⟩ := gw
    simp only [hg] at h
    split at h <;> try (simp at h; done)
    · rename_i b hb
      split at h
      · rename_i hw
        split at h <;> simp only [reduceCtorEq, Option.some.injEq] at h
        rename_i v σ' hop
        obtain ⟨n, hn⟩ := opn_cont hc hop
        exact ⟨n, fun m hm => by simp only [opStep, hg, hb, hw, if_true, hn m hm, h]⟩
      · rename_i hw
        exact ⟨0, fun m _ => by simp only [opStep, hg, hb, if_neg hw, h]⟩
    · rename_i hb
      exact ⟨0, fun m _ => by simp only [opStep, hg, hb, h]⟩

theorem opsRun_cont (hc : Chain Rn R) {base : Nat} : ∀ {l : List AOp} {s s' : St}, opsRun R base l s = some s' → ∃ n, ∀ m, n ≤ m → opsRun (Rn m) base l s = some s'
  | [], s, s', h => ⟨0, fun m _ => h⟩
  | o :: l, s, s', h => by
    simp only [opsRun] at h
    split at h <;> try (simp at h; done)
    rename_i s1 h1
    obtain ⟨n1, hn1⟩ := opStep_cont hc h1
    obtain ⟨n2, hn2⟩ := opsRun_cont hc h
    exact ⟨max n1 n2, fun m hm => by simp only [opsRun, hn1 m (by omega), hn2 m (by omega)]⟩

theorem opsFoot_cont (hc : Chain Rn R) {base : Nat} : ∀ {l : List AOp} {s : St} {r : St × List (List Nat)}, opsFoot R base l s = some r → ∃ n, ∀ m, n ≤ m → opsFoot (Rn m) base l s = some r
  | [], s, s', h => ⟨0, fun m _ => h⟩
  | o :: l, s, r, h => by
    simp only [opsFoot] at h
    split at h <;> try (simp at h; done)
    rename_i s1 h1
    split at h <;> simp only [reduceCtorEq, Option.some.injEq] at h
    rename_i s2 fs h2
    obtain ⟨n1, hn1⟩ := opStep_cont hc h1
    obtain ⟨n2, hn2⟩ := opsFoot_cont hc h2
    exact ⟨max n1 n2, fun m hm => by simp only [opsFoot, hn1 m (by omega), hn2 m (by omega), h]⟩

/-- What a piece of code does with the limit and a number of rounds, it does with each run from some number on and with any more rounds. -/
theorem ex_cont (hc : Chain Rn R) {M : Nat} : ∀ (k : Nat) (c : Cd) (s : St) (r : Ex × St), ex R M k c s = some r → ∃ n, ∀ m, n ≤ m → ∀ k', k ≤ k' → ex (Rn m) M k' c s = some r
  | k, .ops n l live, s, r, h => by
    simp only [ex] at h
    split at h <;> try (simp at h; done)
    rename_i s' h1
    obtain ⟨n1, hn1⟩ := opsRun_cont hc h1
    exact ⟨n1, fun m hm k' _ => by simp only [ex, hn1 m hm, h]⟩
  | k, .draw n [] l live, s, r, h => by
    simp only [ex] at h
    split at h <;> try (simp at h; done)
    rename_i s' h1
    obtain ⟨n1, hn1⟩ := opsRun_cont hc h1
    exact ⟨n1, fun m hm k' _ => by simp only [ex, hn1 m hm, h]⟩
  | k, .draw n (p :: ps) l live, s, r, h => by
    simp only [ex] at h
    split at h <;> try (simp at h; done)
    rename_i s' fs h1
    split at h <;> try (simp at h; done)
    rename_i h2
    obtain ⟨n1, hn1⟩ := opsFoot_cont hc h1
    exact ⟨n1, fun m hm k' _ => by simp only [ex, hn1 m hm, h2, if_true, h]⟩
  | k, .seq a b, s, r, h => by
    simp only [ex] at h
    cases ha : ex R M k a s with
    | none => simp [ha] at h
    | some ra =>
      obtain ⟨e, s1⟩ := ra
      obtain ⟨n1, hn1⟩ := ex_cont hc k a s _ ha
      cases e with
      | norm =>
        simp only [ha] at h
        obtain ⟨n2, hn2⟩ := ex_cont hc k b s1 r h
        exact ⟨max n1 n2, fun m hm k' hk => by simp only [ex, hn1 m (by omega) k' hk, hn2 m (by omega) k' hk]⟩
      | exit i =>
        simp only [ha] at h
        exact ⟨n1, fun m hm k' hk => by simp only [ex, hn1 m hm k' hk]; exact h⟩
      | ret =>
        simp only [ha] at h
        exact ⟨n1, fun m hm k' hk => by simp only [ex, hn1 m hm k' hk]; exact h⟩
  | k, .cond c a b, s, r, h => by
    simp only [ex] at h
    split at h <;> try (simp at h; done)
    · rename_i e
      obtain ⟨n1, hn1⟩ := ex_cont hc k a s r h
      exact ⟨n1, fun m hm k' hk => by simp only [ex, e, hn1 m hm k' hk]⟩
    · rename_i e
      obtain ⟨n1, hn1⟩ := ex_cont hc k b s r h
      exact ⟨n1, fun m hm k' hk => by simp only [ex, e, hn1 m hm k' hk]⟩
  | k, .block id live a, s, r, h => by
    simp only [ex] at h
    cases ha : ex R M k a s with
    | none => simp [ha] at h
    | some ra =>
      obtain ⟨n1, hn1⟩ := ex_cont hc k a s _ ha
      rw [ha] at h
      exact ⟨n1, fun m hm k' hk => by simp only [ex, hn1 m hm k' hk]; exact h⟩
  | 0, .loop live a, s, r, h => by simp [ex] at h
  | k + 1, .loop live a, s, r, h => by
    simp only [ex] at h
    split at h <;> try (simp at h; done)
    rename_i vs σ hn
    cases ha : ex R M k a ⟨zt live vs, σ⟩ with
    | none => simp [ha] at h
    | some ra =>
      obtain ⟨e, s1⟩ := ra
      obtain ⟨n1, hn1⟩ := ex_cont hc k a _ _ ha
      cases e with
      | norm =>
        simp only [ha] at h
        obtain ⟨n2, hn2⟩ := ex_cont hc k (.loop live a) s1 r h
        refine ⟨max n1 n2, fun m hm k' hk => ?_⟩
        obtain ⟨k'', rfl⟩ : ∃ k'', k' = k'' + 1 := ⟨k' - 1, by omega⟩
        simp only [ex, hn, hn1 m (by omega) k'' (by omega), hn2 m (by omega) k'' (by omega)]
      | exit i =>
        simp only [ha] at h
        refine ⟨n1, fun m hm k' hk => ?_⟩
        obtain ⟨k'', rfl⟩ : ∃ k'', k' = k'' + 1 := ⟨k' - 1, by omega⟩
        simp only [ex, hn, hn1 m hm k'' (by omega)]
        exact h
      | ret =>
        simp only [ha] at h
        refine ⟨n1, fun m hm k' hk => ?_⟩
        obtain ⟨k'', rfl⟩ : ∃ k'', k' = k'' + 1 := ⟨k' - 1, by omega⟩
        simp only [ex, hn, hn1 m hm k'' (by omega)]
        exact h
  | k, .exit id, s, r, h => ⟨0, fun m _ k' _ => by simp only [ex] at h ⊢; exact h⟩
  | k, .skip, s, r, h => ⟨0, fun m _ k' _ => by simp only [ex] at h ⊢; exact h⟩
  | k, .ret, s, r, h => ⟨0, fun m _ k' _ => by simp only [ex] at h ⊢; exact h⟩
termination_by k c => (k, SizeOf.sizeOf c)
end

theorem ex_mono {R R' : Run} (h : Le R R') {M k k' : Nat} (hk : k ≤ k') {c : Cd} {s : St} {r : Ex × St} (he : ex R M k c s = some r) : ex R' M k' c s = some r := by
  obtain ⟨n, hn⟩ := ex_cont (Chain.of_le h) k c s r he
  exact hn n (Nat.le_refl _) k' hk

/-- What stands behind all rounds. -/
noncomputable def X (R : Run) (M : Nat) (c : Cd) (s : St) : Option (Ex × St) :=
  open Classical in if h : ∃ r k, ex R M k c s = some r then some h.choose else none

theorem X_iff {R : Run} {M : Nat} {c : Cd} {s : St} {r : Ex × St} : X R M c s = some r ↔ ∃ k, ex R M k c s = some r := by
  unfold X
  constructor
  · intro h
    split at h <;> simp only [reduceCtorEq, Option.some.injEq] at h
    rename_i hx
    rw [← h]
    exact hx.choose_spec
  · rintro ⟨k, hk⟩
    have hx : ∃ r k, ex R M k c s = some r := ⟨r, k, hk⟩
    rw [dif_pos hx]
    obtain ⟨k', hk'⟩ := hx.choose_spec
    have h1 := ex_mono (Le.refl R) (Nat.le_max_left k k') hk
    have h2 := ex_mono (Le.refl R) (Nat.le_max_right k k') hk'
    rw [h1] at h2
    exact h2.symm

section
variable {R : Run} {M : Nat} {s : St}
theorem X_const {c : Cd} {o : Option (Ex × St)} (h : ∀ k, ex R M k c s = o) : X R M c s = o := by
  apply Option.ext
  intro r
  rw [X_iff]
  exact ⟨fun ⟨k, hk⟩ => by rw [← h k]; exact hk, fun hr => ⟨0, by rw [h 0]; exact hr⟩⟩
theorem X_ops {n : Nat} {l : List AOp} {live : List Nat} : X R M (.ops n l live) s = match opsRun R s.s.length l ⟨s.t, s.s ++ frees n⟩ with
    | some s' => nz live (norm M (tgs s'.t live) s'.s)
    | none => none := X_const (fun k => by simp only [ex]; rfl)
theorem X_draw0 {n : Nat} {l : List AOp} {live : List Nat} : X R M (.draw n [] l live) s = match opsRun R s.s.length l ⟨s.t, s.s ++ frees n⟩ with
    | some s' => nz live (norm M (tgs s'.t live) s'.s)
    | none => none := X_const (fun k => by simp only [ex]; rfl)
theorem X_draw {n : Nat} {p : Nat × Nat} {ps : List (Nat × Nat)} {l : List AOp} {live : List Nat} : X R M (.draw n (p :: ps) l live) s = match opsFoot R s.s.length l ⟨s.t, s.s ++ frees n⟩ with
    | some (s', fs) => if pairsOk fs (p :: ps) then nz live (norm M (tgs s'.t live) s'.s) else none
    | none => none := X_const (fun k => by simp only [ex]; rfl)
theorem X_exit {id : Nat} : X R M (.exit id) s = some (.exit id, s) := X_const (fun k => by simp only [ex])
theorem X_skip : X R M .skip s = some (.norm, s) := X_const (fun k => by simp only [ex])
theorem X_ret : X R M .ret s = some (.ret, s) := X_const (fun k => by simp only [ex])
theorem X_cond {c : Opd} {a b : Cd} : X R M (.cond c a b) s = match s.get c with
    | .bool true => X R M a s
    | .bool false => X R M b s
    | _ => none := by
  apply Option.ext
  intro r
  rw [X_iff]
  simp only [ex]
  generalize s.get c = v
  cases v
  case bool b => cases b <;> simp [X_iff]
  all_goals simp
theorem X_seq {a b : Cd} : X R M (.seq a b) s = match X R M a s with
    | some (.norm, s') => X R M b s'
    | r => r := by
  apply Option.ext
  intro r
  rw [X_iff]
  constructor
  · rintro ⟨k, hk⟩
    simp only [ex] at hk
    cases ha : ex R M k a s with
    | none => simp [ha] at hk
    | some ra =>
      obtain ⟨e, s1⟩ := ra
      rw [X_iff.2 ⟨k, ha⟩]
      rw [ha] at hk
      cases e with
      | norm => exact X_iff.2 ⟨k, hk⟩
      | exit i => exact hk
      | ret => exact hk
  · intro h
    cases ha : X R M a s with
    | none => simp [ha] at h
    | some ra =>
      obtain ⟨e, s1⟩ := ra
      obtain ⟨k1, hk1⟩ := X_iff.1 ha
      rw [ha] at h
      cases e with
      | norm =>
        obtain ⟨k2, hk2⟩ := X_iff.1 h
        refine ⟨max k1 k2, ?_⟩
        simp only [ex, ex_mono (Le.refl R) (Nat.le_max_left k1 k2) hk1, ex_mono (Le.refl R) (Nat.le_max_right k1 k2) hk2]
      | exit i => exact ⟨k1, by simp only [ex, hk1]; exact h⟩
      | ret => exact ⟨k1, by simp only [ex, hk1]; exact h⟩
theorem X_block {id : Nat} {live : List Nat} {a : Cd} : X R M (.block id live a) s = match X R M a s with
    | some (.norm, s') => nz live (norm M (tgs s'.t live) s'.s)
    | some (.exit j, s') => if j = id then nz live (norm M (tgs s'.t live) s'.s) else some (.exit j, s')
    | r => r := by
  apply Option.ext
  intro r
  rw [X_iff]
  constructor
  · rintro ⟨k, hk⟩
    simp only [ex] at hk
    cases ha : ex R M k a s with
    | none => simp [ha] at hk
    | some ra =>
      rw [X_iff.2 ⟨k, ha⟩]
      rw [ha] at hk
      exact hk
  · intro h
    cases ha : X R M a s with
    | none => simp [ha] at h
    | some ra =>
      obtain ⟨k1, hk1⟩ := X_iff.1 ha
      rw [ha] at h
      exact ⟨k1, by simp only [ex, hk1]; exact h⟩
theorem X_loop {live : List Nat} {a : Cd} : X R M (.loop live a) s = match norm M (tgs s.t live) s.s with
    | none => none
    | some (vs, σ) => match X R M a ⟨zt live vs, σ⟩ with
      | some (.norm, s') => X R M (.loop live a) s'
      | r => r := by
  apply Option.ext
  intro r
  rw [X_iff]
  constructor
  · rintro ⟨k, hk⟩
    cases k with
    | zero => simp [ex] at hk
    | succ k =>
      simp only [ex] at hk
      split at hk <;> try (simp at hk; done)
      rename_i vs σ hn
      simp only [hn]
      cases ha : ex R M k a ⟨zt live vs, σ⟩ with
      | none => simp [ha] at hk
      | some ra =>
        obtain ⟨e, s1⟩ := ra
        rw [X_iff.2 ⟨k, ha⟩]
        rw [ha] at hk
        cases e with
        | norm => exact X_iff.2 ⟨k, hk⟩
        | exit i => exact hk
        | ret => exact hk
  · intro h
    split at h <;> try (simp at h; done)
    rename_i vs σ hn
    cases ha : X R M a ⟨zt live vs, σ⟩ with
    | none => simp [ha] at h
    | some ra =>
      obtain ⟨e, s1⟩ := ra
      obtain ⟨k1, hk1⟩ := X_iff.1 ha
      rw [ha] at h
      cases e with
      | norm =>
        obtain ⟨k2, hk2⟩ := X_iff.1 h
        refine ⟨max k1 k2 + 1, ?_⟩
        simp only [ex, hn, ex_mono (Le.refl R) (Nat.le_max_left k1 k2) hk1, ex_mono (Le.refl R) (Nat.le_max_right k1 k2) hk2]
      | exit i => exact ⟨k1 + 1, by simp only [ex, hn, hk1]; exact h⟩
      | ret => exact ⟨k1 + 1, by simp only [ex, hn, hk1]; exact h⟩
end

section
variable {Γ : Env}

/-- How a function's body ends, as what it hands back. -/
def leave (M : Nat) (rs : List RV) : Option (Ex × St) → Option (AV × Store)
  | some (.ret, s) => finish M rs s
  | some (.norm, s) => finish M rs s
  | _ => none

theorem runF_mono {R R' : Run} (h : Le R R') {k k' : Nat} (hk : k ≤ k') : Le (runF Γ R k) (runF Γ R' k') := by
  intro f args σ r he
  simp only [runF] at he ⊢
  cases hf : Γ f with
  | none => simp [hf] at he
  | some fe =>
    cases fe with
    | prim p => simpa [hf] using he
    | code fd =>
      simp only [hf] at he ⊢
      cases hx : ex R σ.length k fd.body ⟨argT 0 args, σ⟩ with
      | none => simp [hx] at he
      | some x => rw [ex_mono h hk hx]; rw [hx] at he; exact he
theorem run_up : ∀ n, Le (run Γ n) (run Γ (n + 1))
  | 0 => fun f a σ r h => by simp [run] at h
  | n + 1 => by
    have := run_up n
    intro f a σ r h
    rw [run] at h ⊢
    exact runF_mono this (Nat.le_succ n) f a σ r h

/-- The program's own limit. -/
noncomputable def W (Γ : Env) : Run := fun f args σ => open Classical in if h : ∃ r n, run Γ n f args σ = some r then some h.choose else none
theorem run_le {n m : Nat} (h : n ≤ m) : Le (run Γ n) (run Γ m) := by
  induction h with
  | refl => exact Le.refl _
  | step _ ih => exact ih.trans (run_up _)
theorem W_iff {f : Nat} {args : List AV} {σ : Store} {r : AV × Store} : W Γ f args σ = some r ↔ ∃ n, run Γ n f args σ = some r := by
  unfold W
  constructor
  · intro h
    split at h <;> simp only [reduceCtorEq, Option.some.injEq] at h
    rename_i hx
    rw [← h]
    exact hx.choose_spec
  · rintro ⟨n, hn⟩
    have hx : ∃ r n, run Γ n f args σ = some r := ⟨r, n, hn⟩
    rw [dif_pos hx]
    obtain ⟨n', hn'⟩ := hx.choose_spec
    have h1 := run_le (Nat.le_max_left n n') _ _ _ _ hn
    have h2 := run_le (Nat.le_max_right n n') _ _ _ _ hn'
    rw [h1] at h2
    exact h2.symm
theorem W_chain : Chain (run Γ) (W Γ) := ⟨run_up, fun f a σ r h => W_iff.1 h⟩

theorem W_prim {f : Nat} {p : List AV → Store → Option (AV × Store)} (hf : Γ f = some (.prim p)) (args : List AV) (σ : Store) : W Γ f args σ = p args σ := by
  apply Option.ext
  intro r
  rw [W_iff]
  constructor
  · rintro ⟨n, hn⟩
    cases n with
    | zero => simp [run] at hn
    | succ n => simpa [run, runF, hf] using hn
  · intro h
    exact ⟨1, by simpa [run, runF, hf] using h⟩
theorem W_code {f : Nat} {fd : FD} (hf : Γ f = some (.code fd)) (args : List AV) (σ : Store) :
    W Γ f args σ = leave σ.length fd.results (X (W Γ) σ.length fd.body ⟨argT 0 args, σ⟩) := by
  have key : ∀ (o : Option (Ex × St)), (match o with
      | some (.ret, s) => finish σ.length fd.results s
      | some (.norm, s) => finish σ.length fd.results s
      | _ => none) = leave σ.length fd.results o := by
    intro o
    match o with
    | none => rfl
    | some (.ret, s) => rfl
    | some (.norm, s) => rfl
    | some (.exit i, s) => rfl
  apply Option.ext
  intro r
  rw [W_iff]
  constructor
  · rintro ⟨n, hn⟩
    cases n with
    | zero => simp [run] at hn
    | succ n =>
      simp only [run, runF, hf, key] at hn
      cases hx : ex (run Γ n) σ.length n fd.body ⟨argT 0 args, σ⟩ with
      | none => simp [hx, leave] at hn
      | some x =>
        have : X (W Γ) σ.length fd.body ⟨argT 0 args, σ⟩ = some x :=
          X_iff.2 ⟨n, ex_mono (R' := W Γ) (fun f a σ r h => W_iff.2 ⟨n, h⟩) (Nat.le_refl n) hx⟩
        rw [this, ← hx]
        exact hn
  · intro h
    cases hx : X (W Γ) σ.length fd.body ⟨argT 0 args, σ⟩ with
    | none => simp [hx, leave] at h
    | some x =>
      obtain ⟨k, hk⟩ := X_iff.1 hx
      obtain ⟨n, hn⟩ := ex_cont W_chain k _ _ _ hk
      refine ⟨max n k + 1, ?_⟩
      simp only [run, runF, hf, key]
      rw [hn (max n k) (Nat.le_max_left n k) (max n k) (Nat.le_max_right n k), ← hx]
      exact h
end
end Go.AX
namespace Go.AX

section
variable {R : Run} {base M : Nat} {t : Tm} {σ : Store} {r : List AOp} {d : Option Nat} {xs : List Opd}

def gets (t : Tm) : List Opd → List AV
  | [] => []
  | .t n :: r => tg t n :: gets t r
  | .c v :: r => v :: gets t r
theorem gets_eq (s : St) : ∀ xs : List Opd, s.gets xs = gets s.t xs
  | [] => rfl
  | .t n :: r => by simp [St.gets, St.get, gets, gets_eq s r]
  | .c v :: r => by simp [St.gets, St.get, gets, gets_eq s r]
def getO (t : Tm) : Opd → AV
  | .t n => tg t n
  | .c v => v
theorem getO_eq (s : St) (x : Opd) : s.get x = getO s.t x := by cases x <;> rfl

/-- What follows an operation. -/
def next (R : Run) (base : Nat) (d : Option Nat) (r : List AOp) (t : Tm) : Option (AV × Store) → Option St
  | some (v, σ) => opsRun R base r ⟨setD t d v, σ⟩
  | none => none
def pnext (R : Run) (base : Nat) (d : Option Nat) (r : List AOp) (t : Tm) (σ : Store) : Option AV → Option St
  | some v => opsRun R base r ⟨setD t d v, σ⟩
  | none => none
/-- An operation that a word guards: what is to be done, and the word. -/
def gd (R : Run) (base : Nat) (w : Bool) (o : AOp) (r : List AOp) (t : Tm) (σ : Store) : AV → Option St
  | .bool b => if b = w then opsRun R base (⟨o.dst, none, o.op⟩ :: r) ⟨t, σ⟩ else opsRun R base r ⟨setD t o.dst (.tup []), σ⟩
  | .tup [] => opsRun R base r ⟨setD t o.dst (.tup []), σ⟩
  | _ => none
/-- An operation on memory. -/
def mrun (base slot : Nat) (o : MOp) (vs : List AV) (σ : Store) : Option (AV × Store) :=
  match msem (base + slot) o vs (gts σ (mft o vs)) with
  | some (v, bs, nw) =>
    match putNew (if o.wr then pts σ (mft o vs) bs else σ) (base + slot) nw with
    | some σ => some (v, σ)
    | none => none
  | none => none
def crun (R : Run) (base slot k : Nat) (vs : List AV) (σ : Store) : AV → Option (AV × Store)
  | .fn g fs cap => callA R g (fs ++ (vs ++ cap)) σ (base + slot) k
  | _ => none

theorem run_nil : opsRun R base [] ⟨t, σ⟩ = some ⟨t, σ⟩ := rfl
theorem run_p {o : POp} : opsRun R base (⟨d, none, .p o xs⟩ :: r) ⟨t, σ⟩ = pnext R base d r t σ (psem o (gets t xs)) := by
  simp only [opsRun, opStep, opn, gets_eq]
  cases psem o (gets t xs) <;> rfl
theorem run_m {o : MOp} {slot : Nat} : opsRun R base (⟨d, none, .m o slot xs⟩ :: r) ⟨t, σ⟩ = next R base d r t (mrun base slot o (gets t xs) σ) := by
  simp only [opsRun, opStep, opn, gets_eq, mrun]
  generalize msem (base + slot) o (gets t xs) (gts σ (mft o (gets t xs))) = x
  rcases x with _ | ⟨v, bs, nw⟩
  · rfl
  · simp only
    generalize putNew _ _ _ = y
    cases y <;> rfl
theorem run_c {f : Opd} {slot k : Nat} : opsRun R base (⟨d, none, .call f xs slot k⟩ :: r) ⟨t, σ⟩ = next R base d r t (crun R base slot k (gets t xs) σ (getO t f)) := by
  simp only [opsRun, opStep, opn, gets_eq, getO_eq]
  generalize getO t f = g
  cases g <;> simp only [crun, next]
  generalize callA _ _ _ _ _ _ = y
  rcases y with _ | ⟨v, σ'⟩ <;> rfl
theorem run_g {o : Opn} {g : Nat} {w : Bool} : opsRun R base (⟨d, some (g, w), o⟩ :: r) ⟨t, σ⟩ = gd R base w ⟨d, none, o⟩ r t σ (tg t g) := by
  simp only [opsRun, opStep]
  generalize tg t g = x
  rcases x with _ | b | _ | _ | _ | _ | _ | _ | _ | _ | _ | _ | _ | _ | _ | _ | (_ | _) <;> simp only [gd]
  by_cases hb : b = w
  · rw [if_pos hb, if_pos hb]; rfl
  · rw [if_neg hb, if_neg hb]

/-- The end of operations: those that live on. -/
def fin (M : Nat) (live : List Nat) : Option St → Option (Ex × St)
  | some s => nz live (norm M (tgs s.t live) s.s)
  | none => none
theorem x_ops {n : Nat} {l : List AOp} {live : List Nat} : X R M (.ops n l live) ⟨t, σ⟩ = fin M live (opsRun R σ.length l ⟨t, σ ++ frees n⟩) := by
  rw [X_ops]
  simp only
  cases opsRun R σ.length l ⟨t, σ ++ frees n⟩ <;> rfl
theorem x_draw0 {n : Nat} {l : List AOp} {live : List Nat} : X R M (.draw n [] l live) ⟨t, σ⟩ = fin M live (opsRun R σ.length l ⟨t, σ ++ frees n⟩) := by
  rw [X_draw0]
  simp only
  cases opsRun R σ.length l ⟨t, σ ++ frees n⟩ <;> rfl
/-- A piece, and what follows. -/
noncomputable def andThen (R : Run) (M : Nat) (b : Cd) : Option (Ex × St) → Option (Ex × St)
  | some (.norm, s') => X R M b s'
  | r => r
theorem x_seq {a b : Cd} : X R M (.seq a b) ⟨t, σ⟩ = andThen R M b (X R M a ⟨t, σ⟩) := by
  rw [X_seq]
  generalize X R M a ⟨t, σ⟩ = x
  rcases x with _ | ⟨e, s⟩
  · rfl
  · cases e <;> rfl
noncomputable def sel (R : Run) (M : Nat) (a b : Cd) (t : Tm) (σ : Store) : AV → Option (Ex × St)
  | .bool c => if c then X R M a ⟨t, σ⟩ else X R M b ⟨t, σ⟩
  | _ => none
theorem x_cond {c : Opd} {a b : Cd} : X R M (.cond c a b) ⟨t, σ⟩ = sel R M a b t σ (getO t c) := by
  rw [X_cond, getO_eq]
  generalize getO t c = x
  cases x <;> simp only [sel]
  rename_i b
  cases b <;> rfl
def outOf (M : Nat) (id : Nat) (live : List Nat) : Option (Ex × St) → Option (Ex × St)
  | some (.norm, s') => nz live (norm M (tgs s'.t live) s'.s)
  | some (.exit j, s') => if j = id then nz live (norm M (tgs s'.t live) s'.s) else some (.exit j, s')
  | r => r
theorem x_block {id : Nat} {live : List Nat} {a : Cd} : X R M (.block id live a) ⟨t, σ⟩ = outOf M id live (X R M a ⟨t, σ⟩) := by
  rw [X_block]
  generalize X R M a ⟨t, σ⟩ = x
  rcases x with _ | ⟨e, s⟩
  · rfl
  · cases e <;> rfl
/-- A round of a loop. -/
noncomputable def rnd (R : Run) (M : Nat) (l : Cd) (live : List Nat) (a : Cd) : Option (List AV × Store) → Option (Ex × St)
  | none => none
  | some (vs, σ) => andThen R M l (X R M a ⟨zt live vs, σ⟩)
theorem x_loop {l : Cd} {live : List Nat} {a : Cd} (hl : l = .loop live a) : X R M l ⟨t, σ⟩ = rnd R M l live a (norm M (tgs t live) σ) := by
  subst hl
  rw [X_loop]
  simp only
  generalize norm M (tgs t live) σ = x
  rcases x with _ | ⟨vs, σ'⟩
  · rfl
  · simp only [rnd]
    generalize X R M a ⟨zt live vs, σ'⟩ = y
    rcases y with _ | ⟨e, s⟩
    · rfl
    · cases e <;> rfl

theorem partF_nil : partF σ [] = some [] := by simp [partF, reach, subN, closedB, nodupB]
theorem norm_nil : norm 0 [] σ = some ([], []) := by simp [norm, rangeN, AV.locsL, partF_nil, prefixB, AV.rnL, view]

mutual
theorem rn_plain {π : Nat → Nat} : ∀ (a : AV), a.locs = [] → a.rn π = a
  | .any, _ => rfl
  | .bool _, _ => rfl
  | .int _ _, _ => rfl
  | .str _, _ => rfl
  | .ptr _ _, h => by simp [AV.locs] at h
  | .nilptr, _ => rfl
  | .row _ _, h => by simp [AV.locs] at h
  | .sl _ _ _, h => by simp [AV.locs] at h
  | .nilsl, _ => rfl
  | .fn f fs cap, h => by
    simp only [AV.locs, List.append_eq_nil_iff] at h
    simp [AV.rn, rnL_plain fs h.1, rnL_plain cap h.2]
  | .nilfn, _ => rfl
  | .map _, h => by simp [AV.locs] at h
  | .nilmap, _ => rfl
  | .iface t v, h => by
    simp only [AV.locs] at h
    simp [AV.rn, rn_plain v h]
  | .niliface, _ => rfl
  | .agg cs, h => by
    simp only [AV.locs] at h
    simp [AV.rn, rnL_plain cs h]
  | .tup cs, h => by
    simp only [AV.locs] at h
    simp [AV.rn, rnL_plain cs h]
theorem rnL_plain {π : Nat → Nat} : ∀ (cs : List AV), AV.locsL cs = [] → AV.rnL π cs = cs
  | [], _ => rfl
  | c :: cs, h => by
    simp only [AV.locsL, List.append_eq_nil_iff] at h
    simp [AV.rnL, rn_plain c h.1, rnL_plain cs h.2]
end

/-- Where nothing is reached. -/
theorem norm_plain {vs : List AV} (h : AV.locsL vs = []) : norm 0 vs σ = some (vs, []) := by
  simp [norm, rangeN, h, partF_nil, prefixB, rnL_plain vs h, view]

/-- What a call that reaches nothing hands back, laid into the store. -/
def place (σ : Store) (slot k : Nat) : Option (AV × Store) → Option (AV × Store)
  | none => none
  | some (r, σ') =>
    if allIn σ'.length r.locs && wholeB σ'.length σ' then
      match newOnes σ (fun i => slot + i) slot k σ' with
      | none => none
      | some σ2 => some (r.rn (fun i => slot + i), σ2)
    else none
theorem callA_plain {f : Nat} {args : List AV} {slot k : Nat} (h : AV.locsL args = []) : callA R f args σ slot k = place σ slot k (R f args []) := by
  simp only [callA, h, partF_nil, rnL_plain args h, view]
  generalize R f args [] = x
  rcases x with _ | ⟨r, σ'⟩
  · rfl
  · simp only [place, writeBack, List.length_nil, Nat.not_lt_zero, if_false, Nat.sub_zero]
    rfl
theorem place_plain {slot k : Nat} {r : AV} (h : r.locs = []) : place σ slot k (some (r, [])) = some (r, σ) := by
  simp only [place, h, allIn, wholeB, List.length_nil, Bool.and_self, if_true]
  cases k <;> simp [newOnes, rn_plain r h]

/-- The same, with what is reached in sight. -/
def nrmG (vs : List AV) (σ : Store) : Option (List Nat) → Option (List AV × Store)
  | none => none
  | some F => some (AV.rnL (idx F) vs, view σ F F)
theorem nrmG_some {vs : List AV} {F : List Nat} : nrmG vs σ (some F) = some (AV.rnL (idx F) vs, view σ F F) := rfl
def nrm0 (vs : List AV) (σ : Store) : List Nat → Option (List AV × Store)
  | [] => some (vs, [])
  | a :: l => nrmG vs σ (partF σ (a :: l))
theorem nrm0_cons {vs : List AV} {a : Nat} {l : List Nat} : nrm0 vs σ (a :: l) = nrmG vs σ (partF σ (a :: l)) := rfl
theorem norm_nrm0 {vs : List AV} : norm 0 vs σ = nrm0 vs σ (AV.locsL vs) := by
  cases h : AV.locsL vs with
  | nil => rw [norm_plain h]; rfl
  | cons a l =>
    simp only [norm, rangeN, List.nil_append, h, nrm0]
    cases partF σ (a :: l) with
    | none => rfl
    | some F => simp [prefixB, nrmG]
theorem nrm0_nil {vs : List AV} : nrm0 vs σ [] = some (vs, []) := rfl
def call1 (R : Run) (f : Nat) (args : List AV) (σ : Store) (slot k : Nat) : Option (List Nat) → Option (AV × Store)
  | none => none
  | some F => match R f (AV.rnL (idx F) args) (view σ F F) with
    | none => none
    | some (r, σ') =>
      if allIn σ'.length r.locs && wholeB σ'.length σ' then
        match writeBack σ (fun i => if i < F.length then nthN F i else slot + (i - F.length)) F σ' with
        | none => none
        | some (σ1, rest) =>
          match newOnes σ1 (fun i => if i < F.length then nthN F i else slot + (i - F.length)) slot k rest with
          | none => none
          | some σ2 => some (r.rn (fun i => if i < F.length then nthN F i else slot + (i - F.length)), σ2)
      else none
theorem callA_call1 {f : Nat} {args : List AV} {slot k : Nat} : callA R f args σ slot k = call1 R f args σ slot k (partF σ (AV.locsL args)) := by
  simp only [callA]
  cases partF σ (AV.locsL args) <;> rfl
def call0 (R : Run) (f : Nat) (args : List AV) (σ : Store) (slot k : Nat) : List Nat → Option (AV × Store)
  | [] => place σ slot k (R f args [])
  | a :: l => call1 R f args σ slot k (partF σ (a :: l))
theorem callA_call0 {f : Nat} {args : List AV} {slot k : Nat} : callA R f args σ slot k = call0 R f args σ slot k (AV.locsL args) := by
  cases h : AV.locsL args with
  | nil => rw [callA_plain h]; rfl
  | cons a l => rw [callA_call1, h]; rfl
theorem call0_nil {f : Nat} {args : List AV} {slot k : Nat} : call0 R f args σ slot k [] = place σ slot k (R f args []) := rfl
/-- What a call hands back, laid into the store. -/
def bring (σ : Store) (F : List Nat) (slot k : Nat) : Option (AV × Store) → Option (AV × Store)
  | none => none
  | some (r, σ') =>
      if allIn σ'.length r.locs && wholeB σ'.length σ' then
        match writeBack σ (fun i => if i < F.length then nthN F i else slot + (i - F.length)) F σ' with
        | none => none
        | some (σ1, rest) =>
          match newOnes σ1 (fun i => if i < F.length then nthN F i else slot + (i - F.length)) slot k rest with
          | none => none
          | some σ2 => some (r.rn (fun i => if i < F.length then nthN F i else slot + (i - F.length)), σ2)
      else none
theorem call1_some {f : Nat} {args : List AV} {slot k : Nat} {F : List Nat} : call1 R f args σ slot k (some F) = bring σ F slot k (R f (AV.rnL (idx F) args) (view σ F F)) := rfl
theorem call0_cons {f : Nat} {args : List AV} {slot k : Nat} {a : Nat} {l : List Nat} : call0 R f args σ slot k (a :: l) = call1 R f args σ slot k (partF σ (a :: l)) := rfl
/-- The places reached, and whether they are whole. -/
def pfin (σ : Store) (ls F : List Nat) : Option (List Nat) := if subN ls F && closedB σ F F && nodupB F then some F else none
theorem partF_pfin {ls : List Nat} : partF σ ls = pfin σ ls (reach σ 100 ls []) := rfl
theorem pfin_eq {ls F : List Nat} : pfin σ ls F = if (subN ls F && (closedB σ F F && nodupB F)) = true then some F else none := by
  unfold pfin
  rw [Bool.and_assoc]
def clB (F : List Nat) : Sl → Bool
  | .free => false
  | s => subN s.locs F
theorem clB_dead {F : List Nat} : clB F .dead = true := rfl
theorem clB_live {F : List Nat} {b : Blk} : clB F (.live b) = subN b.locs F := rfl
theorem closedB_cons {F r : List Nat} {l : Nat} : closedB σ F (l :: r) = (clB F (gt σ l) && closedB σ F r) := by
  simp only [closedB]
  cases gt σ l <;> rfl
theorem closedB_nil {F : List Nat} : closedB σ F [] = true := rfl
theorem locs_live {b : Blk} : (Sl.live b).locs = b.locs := rfl
theorem locs_dead : Sl.dead.locs = [] := rfl
theorem blk_flat {k : BK} {cs : List AV} : Blk.locs ⟨k, true, cs⟩ = [] := rfl
theorem blk_deep {k : BK} {cs : List AV} : Blk.locs ⟨k, false, cs⟩ = AV.locsL cs := rfl
theorem sl_flat {π : Nat → Nat} {k : BK} {cs : List AV} : (Sl.live ⟨k, true, cs⟩).rn π = .live ⟨k, true, cs⟩ := rfl
theorem sl_deep {π : Nat → Nat} {k : BK} {cs : List AV} : (Sl.live ⟨k, false, cs⟩).rn π = .live ⟨k, false, AV.rnL π cs⟩ := rfl
theorem sl_dead {π : Nat → Nat} : Sl.dead.rn π = .dead := rfl
theorem wholeB_live {n : Nat} {b : Blk} {r : Store} : wholeB n (.live b :: r) = (allIn n b.locs && wholeB n r) := rfl
theorem wholeB_dead {n : Nat} {r : Store} : wholeB n (.dead :: r) = (allIn n [] && wholeB n r) := rfl
theorem wholeB_nil {n : Nat} : wholeB n [] = true := rfl
/-- The new blocks, one by one. -/
def put2 (v : AV) : Option Store → Option (AV × Store)
  | some σ => some (v, σ)
  | none => none
def lay (σ : Store) (ρ : Nat → Nat) (slot : Nat) : Nat → Store → Option Store
  | _, [] => some σ
  | 0, _ :: _ => none
  | k + 1, s :: r => match gt σ slot with
    | .free => if slot < σ.length then lay (pt σ slot (s.rn ρ)) ρ (slot + 1) k r else none
    | _ => none
theorem place_some {slot k : Nat} {r : AV} {s : Sl} {σ' : Store} : place σ slot k (some (r, s :: σ')) = if (allIn (s :: σ').length r.locs && wholeB (s :: σ').length (s :: σ')) = true then put2 (r.rn (fun i => slot + i)) (newOnes σ (fun i => slot + i) slot k (s :: σ')) else none := by
  simp only [place]
  split
  · cases newOnes σ (fun i => slot + i) slot k (s :: σ') <;> rfl
  · rfl
theorem put2_some {v : AV} : put2 v (some σ) = some (v, σ) := rfl
theorem new_nil {ρ : Nat → Nat} {slot k : Nat} : newOnes σ ρ slot k [] = some σ := by cases k <;> rfl
def new1 (σ : Store) (ρ : Nat → Nat) (slot k : Nat) (s : Sl) (r : Store) : Sl → Option Store
  | .free => if slot < σ.length then newOnes (pt σ slot (s.rn ρ)) ρ (slot + 1) k r else none
  | _ => none
theorem new_cons {ρ : Nat → Nat} {slot k : Nat} {s : Sl} {r : Store} : newOnes σ ρ slot (k + 1) (s :: r) = new1 σ ρ slot k s r (gt σ slot) := by
  simp only [newOnes]
  cases gt σ slot <;> rfl
theorem new1_free {ρ : Nat → Nat} {slot k : Nat} {s : Sl} {r : Store} : new1 σ ρ slot k s r .free = if slot < σ.length then newOnes (pt σ slot (s.rn ρ)) ρ (slot + 1) k r else none := rfl

def placed (σ : Store) (r : AV) : List Nat → Option (AV × Store)
  | [] => some (r, σ)
  | _ => none
theorem placed_nil {r : AV} : placed σ r [] = some (r, σ) := rfl
theorem place_nil {slot k : Nat} {r : AV} : place σ slot k (some (r, [])) = placed σ r r.locs := by
  cases h : r.locs with
  | nil => rw [place_plain h]; rfl
  | cons a l => simp [place, h, allIn, placed]

/-! One by one. -/
theorem gd_tt {o : AOp} : gd R base true o r t σ (.bool true) = opsRun R base (⟨o.dst, none, o.op⟩ :: r) ⟨t, σ⟩ := rfl
theorem gd_ff {o : AOp} : gd R base false o r t σ (.bool false) = opsRun R base (⟨o.dst, none, o.op⟩ :: r) ⟨t, σ⟩ := rfl
theorem gd_tf {o : AOp} : gd R base true o r t σ (.bool false) = opsRun R base r ⟨setD t o.dst (.tup []), σ⟩ := rfl
theorem gd_ft {o : AOp} : gd R base false o r t σ (.bool true) = opsRun R base r ⟨setD t o.dst (.tup []), σ⟩ := rfl
theorem gd_tup {w : Bool} {o : AOp} : gd R base w o r t σ (.tup []) = opsRun R base r ⟨setD t o.dst (.tup []), σ⟩ := rfl
theorem next_some {v : AV} : next R base d r t (some (v, σ)) = opsRun R base r ⟨setD t d v, σ⟩ := rfl
theorem pnext_some {v : AV} : pnext R base d r t σ (some v) = opsRun R base r ⟨setD t d v, σ⟩ := rfl
theorem nz_some {live : List Nat} {vs : List AV} : nz live (some (vs, σ)) = some (.norm, ⟨zt live vs, σ⟩) := rfl
theorem fin_some {live : List Nat} : fin M live (some ⟨t, σ⟩) = nz live (norm M (tgs t live) σ) := rfl
theorem andThen_norm {b : Cd} {s : St} : andThen R M b (some (.norm, s)) = X R M b s := rfl
theorem andThen_exit {b : Cd} {s : St} {i : Nat} : andThen R M b (some (.exit i, s)) = some (.exit i, s) := rfl
theorem andThen_ret {b : Cd} {s : St} : andThen R M b (some (.ret, s)) = some (.ret, s) := rfl
theorem sel_true {a b : Cd} : sel R M a b t σ (.bool true) = X R M a ⟨t, σ⟩ := rfl
theorem sel_false {a b : Cd} : sel R M a b t σ (.bool false) = X R M b ⟨t, σ⟩ := rfl
theorem outOf_norm {id : Nat} {live : List Nat} : outOf M id live (some (.norm, ⟨t, σ⟩)) = nz live (norm M (tgs t live) σ) := rfl
theorem outOf_exit {id : Nat} {live : List Nat} {j : Nat} : outOf M id live (some (.exit j, ⟨t, σ⟩)) = if j = id then nz live (norm M (tgs t live) σ) else some (.exit j, ⟨t, σ⟩) := rfl
theorem outOf_ret {id : Nat} {live : List Nat} {s : St} : outOf M id live (some (.ret, s)) = some (.ret, s) := rfl
theorem rnd_some {l : Cd} {live : List Nat} {a : Cd} {vs : List AV} : rnd R M l live a (some (vs, σ)) = andThen R M l (X R M a ⟨zt live vs, σ⟩) := rfl
theorem leave_ret {rs : List RV} {s : St} : leave M rs (some (.ret, s)) = finish M rs s := rfl
theorem leave_norm {rs : List RV} {s : St} : leave M rs (some (.norm, s)) = finish M rs s := rfl
theorem setD_some {n : Nat} {v : AV} : setD t (some n) v = (n, v) :: t := rfl
theorem setD_none {v : AV} : setD t none v = t := rfl
theorem crun_fn {slot k g : Nat} {vs fs cap : List AV} : crun R base slot k vs σ (.fn g fs cap) = call0 R g (fs ++ (vs ++ cap)) σ (base + slot) k (AV.locsL (fs ++ (vs ++ cap))) := by
  rw [← callA_call0]
  rfl

/-! The operations, each by itself. -/
def pk (c : Bool) (a b : AV) : AV := if c then a else b
theorem pk_true {a b : AV} : pk true a b = a := rfl
theorem pk_false {a b : AV} : pk false a b = b := rfl
theorem pk_bool {c a b : Bool} : pk c (.bool a) (.bool b) = .bool (c && a || !c && b) := by cases c <;> cases a <;> cases b <;> rfl
def aggO : Option (List AV) → Option AV
  | some cs => some (.agg cs)
  | none => none
theorem aggO_some {cs : List AV} : aggO (some cs) = some (.agg cs) := rfl
theorem p_mv {x : AV} : psem .mv [x] = some x := rfl
theorem p_pick {c : Bool} {a b : AV} : psem .pick [.bool c, a, b] = some (pk c a b) := rfl
theorem p_build {zs vs : List AV} {ps : List (Nat × Nat)} : psem (.build zs ps) vs = aggO (fillA zs ps vs) := by
  have : psem (.build zs ps) vs = (fillA zs ps vs).map .agg := by cases vs <;> rfl
  rw [this]
  cases fillA zs ps vs <;> rfl
theorem p_nilCheck {l off : Nat} : psem .nilCheck [.ptr l off] = some (.ptr l off) := rfl
theorem p_nilCheckf {f : Nat} {fs cap : List AV} : psem .nilCheck [.fn f fs cap] = some (.fn f fs cap) := rfl
theorem p_not {b : Bool} : psem .not [.bool b] = some (.bool !b) := rfl
theorem p_neg {k : IntKind} {n : Int} : psem .neg [.int k n] = some (.int k (k.wrap (0 - n))) := rfl
theorem p_convInt {k k' : IntKind} {n : Int} : psem (.convInt k) [.int k' n] = some (.int k (k.wrap n)) := rfl
theorem p_convStr {x : List UInt8} : psem .convStr [.str x] = some (.str x) := rfl
theorem p_mkfn {f n : Nat} {vs : List AV} : psem (.mkfn f n) vs = some (.fn f (vs.take n) (vs.drop n)) := by cases vs <;> rfl
theorem p_fieldAddr {off l o : Nat} : psem (.fieldAddr off) [.ptr l o] = some (.ptr l (o + off)) := rfl
theorem p_indexArr {n sz l o : Nat} {k : IntKind} {i : Int} : psem (.indexArr n sz) [.ptr l o, .int k i] = if 0 ≤ i ∧ i < n then some (.ptr l (o + i.toNat * sz)) else none := rfl
theorem p_indexRow {sz l n : Nat} {k : IntKind} {i : Int} : psem (.indexSl sz) [.row l n, .int k i] = if 0 ≤ i ∧ i < n then some (.ptr l (0 + i.toNat * sz)) else none := rfl
theorem p_indexSl {sz l off n : Nat} {k : IntKind} {i : Int} : psem (.indexSl sz) [.sl l off n, .int k i] = if 0 ≤ i ∧ i < n then some (.ptr l (off + i.toNat * sz)) else none := rfl
theorem p_indexAgg1 {n sz : Nat} {cs : List AV} {k : IntKind} {i : Int} : psem (.indexAgg n sz false) [.agg cs, .int k i] = if 0 ≤ i ∧ i < n then cs[i.toNat * sz]? else none := rfl
theorem p_indexAgg2 {n sz : Nat} {cs : List AV} {k : IntKind} {i : Int} : psem (.indexAgg n sz true) [.agg cs, .int k i] = if 0 ≤ i ∧ i < n then (if i.toNat * sz + sz ≤ cs.length then some (.agg ((cs.drop (i.toNat * sz)).take sz)) else none) else none := rfl
theorem p_indexStr {x : List UInt8} {k : IntKind} {i : Int} : psem .indexStr [.str x, .int k i] = if 0 ≤ i then (x[i.toNat]?).map fun b => .int .u8 b.toNat else none := rfl
theorem p_sliceStr {x : List UInt8} : psem (.sliceStr false false) [.str x] = some (.str x) := by
  simp [psem, loHi, bound]
theorem p_sliceStrL {x : List UInt8} {k : IntKind} {a : Int} : psem (.sliceStr true false) [.str x, .int k a] = if 0 ≤ a ∧ a ≤ x.length then some (.str (x.drop a.toNat)) else none := by
  simp only [psem, loHi, bound]
  by_cases h : 0 ≤ a
  · simp only [h, if_true, true_and, List.take_length, Nat.le_refl, and_true]
    by_cases h' : a ≤ x.length
    · rw [if_pos (by omega), if_pos h']
    · rw [if_neg (by omega), if_neg h']
  · simp [h]
theorem p_sliceStrH {x : List UInt8} {k : IntKind} {b : Int} : psem (.sliceStr false true) [.str x, .int k b] = if 0 ≤ b ∧ b ≤ x.length then some (.str (x.take b.toNat)) else none := by
  simp only [psem, loHi, bound]
  by_cases h : 0 ≤ b
  · simp only [h, if_true, true_and, List.drop_zero, Nat.zero_le]
    by_cases h' : b ≤ x.length
    · rw [if_pos (by omega), if_pos h']
    · rw [if_neg (by omega), if_neg h']
  · simp [h]
theorem p_sliceStrLH {x : List UInt8} {k k' : IntKind} {a b : Int} : psem (.sliceStr true true) [.str x, .int k a, .int k' b] = if 0 ≤ a ∧ a ≤ b ∧ b ≤ x.length then some (.str ((x.take b.toNat).drop a.toNat)) else none := by
  simp only [psem, loHi, bound]
  by_cases h : 0 ≤ a
  · by_cases h2 : 0 ≤ b
    · simp only [h, h2, if_true, true_and]
      by_cases h' : a ≤ b ∧ b ≤ x.length
      · rw [if_pos (by omega), if_pos h']
      · rw [if_neg (by omega), if_neg h']
    · simp only [h, h2, if_true, if_false]
      rw [if_neg (by omega)]
  · simp [h]
theorem p_extract {i : Nat} {vs : List AV} : psem (.extract i) [.tup vs] = vs[i]? := rfl
theorem p_lenStr {x : List UInt8} : psem .lenStr [.str x] = some (.int .i64 x.length) := rfl
theorem p_lenRow {l n : Nat} : psem .lenSl [.row l n] = some (.int .i64 n) := rfl
theorem p_lenSl {l off n : Nat} : psem .lenSl [.sl l off n] = some (.int .i64 n) := rfl
theorem p_lenNil : psem .lenSl [.nilsl] = some (.int .i64 0) := rfl
theorem p_lenArr {n : Nat} {x : AV} : psem (.lenArr n) [x] = some (.int .i64 n) := rfl
theorem p_min {k k' : IntKind} {a b : Int} : psem .minI [.int k a, .int k' b] = some (.int k (if b < a then b else a)) := rfl
theorem p_max {k k' : IntKind} {a b : Int} : psem .maxI [.int k a, .int k' b] = some (.int k (if b > a then b else a)) := rfl
theorem p_iface {n : Nat} {v : AV} : psem (.iface n) [v] = some (.iface n v) := rfl
theorem p_bin {op : BinOp} {ty : ETy} {x y : AV} : psem (.bin op ty) [x, y] = pbin op ty x y := rfl
section bin
variable {ty : ETy} {k k' : IntKind} {a b : Int} {x y : List UInt8}
theorem b_add : pbin .add ty (.int k a) (.int k b) = some (.int k (k.wrap (a + b))) := by simp [pbin, intBin]
theorem b_sub : pbin .sub ty (.int k a) (.int k b) = some (.int k (k.wrap (a - b))) := by simp [pbin, intBin]
theorem b_mul : pbin .mul ty (.int k a) (.int k b) = some (.int k (k.wrap (a * b))) := by simp [pbin, intBin]
theorem b_quo : pbin .quo ty (.int k a) (.int k b) = if b = 0 then none else some (.int k (k.wrap (a.tdiv b))) := by simp [pbin, intBin]
theorem b_rem : pbin .rem ty (.int k a) (.int k b) = if b = 0 then none else some (.int k (a.tmod b)) := by simp [pbin, intBin]
theorem b_and : pbin .and ty (.int k a) (.int k b) = some (.int k (k.wrap (BitVec.ofInt k.bits a &&& BitVec.ofInt k.bits b).toNat)) := by simp [pbin, intBin]
theorem b_or : pbin .or ty (.int k a) (.int k b) = some (.int k (k.wrap (BitVec.ofInt k.bits a ||| BitVec.ofInt k.bits b).toNat)) := by simp [pbin, intBin]
theorem b_xor : pbin .xor ty (.int k a) (.int k b) = some (.int k (k.wrap (BitVec.ofInt k.bits a ^^^ BitVec.ofInt k.bits b).toNat)) := by simp [pbin, intBin]
theorem b_andNot : pbin .andNot ty (.int k a) (.int k b) = some (.int k (k.wrap (BitVec.ofInt k.bits a &&& ~~~ BitVec.ofInt k.bits b).toNat)) := by simp [pbin, intBin]
theorem b_shl : pbin .shl ty (.int k a) (.int k' b) = if b < 0 then none else some (.int k (k.wrap (a * 2 ^ (min b.toNat k.bits)))) := by simp [pbin, shiftBin]
theorem b_shr : pbin .shr ty (.int k a) (.int k' b) = if b < 0 then none else some (.int k (a.fdiv (2 ^ (min b.toNat k.bits)))) := by simp [pbin, shiftBin]
theorem b_eql : pbin .eql ty (.int k a) (.int k b) = some (.bool (decide (a = b))) := by simp [pbin, intBin]; rfl
theorem b_neq : pbin .neq ty (.int k a) (.int k b) = some (.bool (!decide (a = b))) := by simp [pbin, intBin]; rfl
theorem b_lss : pbin .lss ty (.int k a) (.int k b) = some (.bool (decide (a < b))) := by simp [pbin, intBin]
theorem b_leq : pbin .leq ty (.int k a) (.int k b) = some (.bool (decide (a ≤ b))) := by simp [pbin, intBin]
theorem b_gtr : pbin .gtr ty (.int k a) (.int k b) = some (.bool (decide (b < a))) := by simp [pbin, intBin]
theorem b_geq : pbin .geq ty (.int k a) (.int k b) = some (.bool (decide (b ≤ a))) := by simp [pbin, intBin]
theorem b_sadd : pbin .add ty (.str x) (.str y) = if x.length + y.length ≤ 9223372036854775807 then some (.str (x ++ y)) else none := rfl
theorem b_seql : pbin .eql ty (.str x) (.str y) = some (.bool (decide (x = y))) := by
  have e : (x == y) = decide (x = y) := by rw [Bool.eq_iff_iff]; simp
  show some (AV.bool (x == y)) = _
  rw [e]
theorem b_sneq : pbin .neq ty (.str x) (.str y) = some (.bool (!decide (x = y))) := by
  have e : (x == y) = decide (x = y) := by rw [Bool.eq_iff_iff]; simp
  show some (AV.bool (!(x == y))) = _
  rw [e]
theorem b_beql {p q : Bool} : pbin .eql .bool (.bool p) (.bool q) = some (.bool (p == q)) := rfl
theorem b_bneq {p q : Bool} : pbin .neq .bool (.bool p) (.bool q) = some (.bool (!(p == q))) := rfl
theorem b_aeql {ls : List LK} {xs ys : List AV} : pbin .eql (.agg ls) (.agg xs) (.agg ys) = if (lks xs ls && lks ys ls) = true then some (.bool (eqL xs ys)) else none := rfl
theorem b_aneq {ls : List LK} {xs ys : List AV} : pbin .neq (.agg ls) (.agg xs) (.agg ys) = if (lks xs ls && lks ys ls) = true then some (.bool (!eqL xs ys)) else none := rfl
theorem b_ieql {n : Nat} {v : AV} : pbin .eql .iface (.iface n v) .niliface = some (.bool false) := rfl
theorem b_ineq {n : Nat} {v : AV} : pbin .neq .iface (.iface n v) .niliface = some (.bool true) := rfl
theorem b_neql : pbin .eql .iface .niliface .niliface = some (.bool true) := rfl
theorem b_nneq : pbin .neq .iface .niliface .niliface = some (.bool false) := rfl
end bin

/-! Only what decides is looked at. -/
theorem lazy_gd {w : Bool} {o : AOp} {a a' : AV} (h : a = a') : gd R base w o r t σ a = gd R base w o r t σ a' := by rw [h]
theorem lazy_sel {x y : Cd} {a a' : AV} (h : a = a') : sel R M x y t σ a = sel R M x y t σ a' := by rw [h]
theorem lazy_next {x x' : Option (AV × Store)} (h : x = x') : next R base d r t x = next R base d r t x' := by rw [h]
theorem lazy_pnext {x x' : Option AV} (h : x = x') : pnext R base d r t σ x = pnext R base d r t σ x' := by rw [h]
theorem lazy_nz {live : List Nat} {x x' : Option (List AV × Store)} (h : x = x') : nz live x = nz live x' := by rw [h]
theorem lazy_fin {live : List Nat} {x x' : Option St} (h : x = x') : fin M live x = fin M live x' := by rw [h]
theorem lazy_andThen {b : Cd} {x x' : Option (Ex × St)} (h : x = x') : andThen R M b x = andThen R M b x' := by rw [h]
theorem lazy_outOf {id : Nat} {live : List Nat} {x x' : Option (Ex × St)} (h : x = x') : outOf M id live x = outOf M id live x' := by rw [h]
theorem lazy_leave {rs : List RV} {x x' : Option (Ex × St)} (h : x = x') : leave M rs x = leave M rs x' := by rw [h]
theorem lazy_rnd {l : Cd} {live : List Nat} {a : Cd} {x x' : Option (List AV × Store)} (h : x = x') : rnd R M l live a x = rnd R M l live a x' := by rw [h]
theorem lazy_X {c : Cd} {s s' : St} (h : s = s') : X R M c s = X R M c s' := by rw [h]
theorem lazy_opsRun {b b' : Nat} {l : List AOp} {s s' : St} (hb : b = b') (h : s = s') : opsRun R b l s = opsRun R b' l s' := by rw [hb, h]
end
end Go.AX
namespace Go.AX

/-- A block into a free place. -/
def pn : Store → Nat → Blk → Option Store
  | .free :: r, 0, b => some (.live b :: r)
  | s :: r, n + 1, b => match pn r n b with
    | some r' => some (s :: r')
    | none => none
  | _, _, _ => none
theorem pn_eq : ∀ (σ : Store) (l : Nat) (b : Blk), putNew σ l (some b) = pn σ l b
  | [], l, b => by cases l <;> simp [putNew, gt, pn]
  | .free :: r, 0, b => by simp [putNew, gt, pn, pt]
  | .dead :: r, 0, b => by simp [putNew, gt, pn]
  | .live c :: r, 0, b => by simp [putNew, gt, pn]
  | s :: r, n + 1, b => by
    have h := pn_eq r n b
    simp only [pn, ← h]
    simp only [putNew, gt, pt, List.length_cons]
    cases gt r n with
    | free =>
      by_cases hl : n < r.length
      · simp [hl]
      · simp [hl]
    | dead => rfl
    | live c => rfl
theorem pn_zero {r : Store} {b : Blk} : pn (.free :: r) 0 b = some (.live b :: r) := rfl
def pns (s : Sl) : Option Store → Option Store
  | some r => some (s :: r)
  | none => none
theorem pns_some {s : Sl} {r : Store} : pns s (some r) = some (s :: r) := rfl
theorem pn_succ {s : Sl} {r : Store} {n : Nat} {b : Blk} : pn (s :: r) (n + 1) b = pns s (pn r n b) := by
  cases s <;> simp only [pn] <;> cases pn r n b <;> rfl
def withV (v : AV) : Option Store → Option (AV × Store)
  | some σ => some (v, σ)
  | none => none
theorem withV_some {v : AV} {σ : Store} : withV v (some σ) = some (v, σ) := rfl

section
variable {base slot : Nat} {σ : Store}
theorem mnew {o : MOp} {vs : List AV} {v : AV} {b : Blk} (hw : o.wr = false) (h : msem (base + slot) o vs (gts σ (mft o vs)) = some (v, [], some b)) : mrun base slot o vs σ = withV v (pn σ (base + slot) b) := by
  simp only [mrun, h, hw, Bool.false_eq_true, if_false, pn_eq]
  cases pn σ (base + slot) b <;> rfl
theorem m_alloc {zs : List AV} : mrun base slot (.alloc zs) [] σ = withV (.ptr (base + slot) 0) (pn σ (base + slot) ⟨.box, flatB zs, zs⟩) := mnew rfl rfl
def boxed (σ : Store) (l : Nat) : List AV → Option (AV × Store)
  | [] => none
  | c :: cs => withV (.ptr l 0) (pn σ l ⟨.box, flatB (c :: cs), c :: cs⟩)
theorem boxed_cons {l : Nat} {c : AV} {cs : List AV} : boxed σ l (c :: cs) = withV (.ptr l 0) (pn σ l ⟨.box, flatB (c :: cs), c :: cs⟩) := rfl
theorem m_box {v : AV} : mrun base slot .box [v] σ = boxed σ (base + slot) v.cells := by
  cases h : v.cells with
  | nil => simp [mrun, mft, gts, msem, h, boxed]
  | cons c cs => exact mnew rfl (by simp [mft, gts, msem, h])
def built (σ : Store) (l e sz len : Nat) : Option (List AV) → Option (AV × Store)
  | some cs => withV (.row l len) (pn σ l ⟨.row e sz, flatB cs, cs⟩)
  | none => none
theorem built_some {l e sz len : Nat} {cs : List AV} : built σ l e sz len (some cs) = withV (.row l len) (pn σ l ⟨.row e sz, flatB cs, cs⟩) := rfl
theorem m_build {e sz len : Nat} {zs : List AV} {ps : List (Nat × Nat)} {vs : List AV} : mrun base slot (.buildSlice e sz len zs ps) vs σ = built σ (base + slot) e sz len (fillA zs ps vs) := by
  cases h : fillA zs ps vs with
  | none =>
    have : msem (base + slot) (.buildSlice e sz len zs ps) vs (gts σ (mft (.buildSlice e sz len zs ps) vs)) = none := by simp [mft, gts, msem, h]
    simp [mrun, this, built]
  | some cs => exact mnew rfl (by simp [mft, gts, msem, h])
def ldc (σ : Store) : Option AV → Option (AV × Store)
  | some c => some (c, σ)
  | none => none
theorem ldc_some {c : AV} : ldc σ (some c) = some (c, σ) := rfl
def ld1 (σ : Store) (off : Nat) : Sl → Option (AV × Store)
  | .live b => ldc σ b.cells[off]?
  | _ => none
theorem ld1_live {off : Nat} {b : Blk} : ld1 σ off (.live b) = ldc σ b.cells[off]? := rfl
theorem m_load1 {l off sz : Nat} : mrun base slot (.load false sz) [.ptr l off] σ = ld1 σ off (gt σ l) := by
  simp only [mrun, mft, gts]
  cases h : gt σ l with
  | free => simp [msem, ld1]
  | dead => simp [msem, ld1]
  | live b =>
    simp only [msem, Bool.false_eq_true, if_false, ld1]
    cases b.cells[off]? <;> simp [ldc, MOp.wr, putNew]
def ld2 (σ : Store) (off sz : Nat) : Sl → Option (AV × Store)
  | .live b => if off + sz ≤ b.cells.length then some (.agg ((b.cells.drop off).take sz), σ) else none
  | _ => none
theorem ld2_live {off sz : Nat} {b : Blk} : ld2 σ off sz (.live b) = if off + sz ≤ b.cells.length then some (.agg ((b.cells.drop off).take sz), σ) else none := rfl
theorem m_load2 {l off sz : Nat} : mrun base slot (.load true sz) [.ptr l off] σ = ld2 σ off sz (gt σ l) := by
  simp only [mrun, mft, gts]
  cases h : gt σ l with
  | free => simp [msem, ld2]
  | dead => simp [msem, ld2]
  | live b =>
    simp only [msem, if_true, ld2]
    by_cases hc : off + sz ≤ b.cells.length <;> simp [hc, MOp.wr, putNew]
def st1 (σ : Store) (l off sz : Nat) (v : AV) : Sl → Option (AV × Store)
  | .live b => if b.kind ≠ .ro ∧ v.cells.length = sz ∧ off + sz ≤ b.cells.length ∧ v.cells.all AV.one ∧ (b.flat = true → flatB v.cells = true) then
      some (.any, pt σ l (.live ⟨b.kind, b.flat, b.cells.take off ++ v.cells ++ b.cells.drop (off + sz)⟩)) else none
  | _ => none
theorem st1_live {l off sz : Nat} {v : AV} {k : BK} {f : Bool} {cs : List AV} : st1 σ l off sz v (.live ⟨k, f, cs⟩) = if k ≠ .ro ∧ v.cells.length = sz ∧ off + sz ≤ cs.length ∧ v.cells.all AV.one ∧ (f = true → flatB v.cells = true) then
      some (.any, pt σ l (.live ⟨k, f, cs.take off ++ v.cells ++ cs.drop (off + sz)⟩)) else none := rfl
theorem m_store {l off sz : Nat} {v : AV} : mrun base slot (.store sz) [.ptr l off, v] σ = st1 σ l off sz v (gt σ l) := by
  simp only [mrun, mft, gts]
  cases h : gt σ l with
  | free => simp [msem, st1]
  | dead => simp [msem, st1]
  | live b =>
    simp only [msem, st1]
    by_cases hc : b.kind ≠ .ro ∧ v.cells.length = sz ∧ off + sz ≤ b.cells.length ∧ v.cells.all AV.one ∧ (b.flat = true → flatB v.cells = true)
    · rw [if_pos hc, if_pos hc]; rfl
    · rw [if_neg hc, if_neg hc]
/-- A row grown by another one's first cells. -/
def ap1 (σ : Store) (s e sz bs l n m : Nat) (ne : Bool) : Sl → Sl → Option (AV × Store)
  | .live b, .live c => if m * sz ≤ c.cells.length ∧ b.kind = .row e sz ∧ b.cells.length = n * sz ∧ ne = true ∧ (c.cells.take (m * sz)).all AV.one ∧ n + m ≤ 9223372036854775807 ∧ (n + m) * bs ≤ 140737488355328 then
      withV (.row s (n + m)) (pn (pt σ l .dead) s ⟨.row e sz, b.flat && flatB (c.cells.take (m * sz)), b.cells ++ c.cells.take (m * sz)⟩) else none
  | _, _ => none
theorem ap1_live {s e sz bs l n m : Nat} {ne : Bool} {k k' : BK} {f f' : Bool} {cs cs' : List AV} : ap1 σ s e sz bs l n m ne (.live ⟨k, f, cs⟩) (.live ⟨k', f', cs'⟩) = if m * sz ≤ cs'.length ∧ k = .row e sz ∧ cs.length = n * sz ∧ ne = true ∧ (cs'.take (m * sz)).all AV.one ∧ n + m ≤ 9223372036854775807 ∧ (n + m) * bs ≤ 140737488355328 then
      withV (.row s (n + m)) (pn (pt σ l .dead) s ⟨.row e sz, f && flatB (cs'.take (m * sz)), cs ++ cs'.take (m * sz)⟩) else none := rfl
theorem m_append {e sz bs l n l' m : Nat} : mrun base slot (.append e sz bs) [.row l n, .row l' m] σ = ap1 σ (base + slot) e sz bs l n m (decide (l ≠ l')) (gt σ l) (gt σ l') := by
  simp only [mrun, mft, AV.slice3, List.cons_append, List.nil_append, gts]
  cases h : gt σ l with
  | free => simp [msem, ap1]
  | dead => simp [msem, ap1]
  | live b =>
    cases h' : gt σ l' with
    | free => simp [msem, ap1]
    | dead => simp [msem, ap1]
    | live c =>
      simp only [msem, cellsOf, AV.slice3, Nat.zero_add, List.drop_zero, ap1]
      by_cases hm : m * sz ≤ c.cells.length
      · rw [if_pos hm]
        simp only [hm, true_and]
        by_cases hc : b.kind = .row e sz ∧ b.cells.length = n * sz ∧ l ≠ l' ∧ (c.cells.take (m * sz)).all AV.one ∧ n + m ≤ 9223372036854775807 ∧ (n + m) * bs ≤ 140737488355328
        · have hne : l ≠ l' := hc.2.2.1
          have hc' : b.kind = .row e sz ∧ b.cells.length = n * sz ∧ decide (l ≠ l') = true ∧ (c.cells.take (m * sz)).all AV.one ∧ n + m ≤ 9223372036854775807 ∧ (n + m) * bs ≤ 140737488355328 := by simpa using hc
          rw [if_pos hc, if_pos hc']
          have hpt : pt (pt σ l .dead) l' (.live c) = pt σ l .dead := pt_self (by rw [gt_pt _ _ _ _ (gt_lt (by rw [h]; simp)), if_neg (Ne.symm hne)]; exact h')
          simp only [MOp.wr, if_true, pts, hpt, pn_eq]
          cases pn (pt σ l .dead) (base + slot) _ <;> rfl
        · have hc' : ¬ (b.kind = .row e sz ∧ b.cells.length = n * sz ∧ decide (l ≠ l') = true ∧ (c.cells.take (m * sz)).all AV.one ∧ n + m ≤ 9223372036854775807 ∧ (n + m) * bs ≤ 140737488355328) := by simpa using hc
          rw [if_neg hc, if_neg hc']
      · rw [if_neg hm]
        simp [hm]
def ap0 (σ : Store) (s e sz bs m : Nat) : Sl → Option (AV × Store)
  | .live c => if m * sz ≤ c.cells.length ∧ 0 < m ∧ (c.cells.take (m * sz)).all AV.one ∧ m ≤ 9223372036854775807 ∧ m * bs ≤ 140737488355328 then
      withV (.row s m) (pn σ s ⟨.row e sz, flatB (c.cells.take (m * sz)), c.cells.take (m * sz)⟩) else none
  | _ => none
theorem ap0_live {s e sz bs m : Nat} {k' : BK} {f' : Bool} {cs' : List AV} : ap0 σ s e sz bs m (.live ⟨k', f', cs'⟩) = if m * sz ≤ cs'.length ∧ 0 < m ∧ (cs'.take (m * sz)).all AV.one ∧ m ≤ 9223372036854775807 ∧ m * bs ≤ 140737488355328 then
      withV (.row s m) (pn σ s ⟨.row e sz, flatB (cs'.take (m * sz)), cs'.take (m * sz)⟩) else none := rfl
theorem m_append0 {e sz bs l' m : Nat} : mrun base slot (.append e sz bs) [.nilsl, .row l' m] σ = ap0 σ (base + slot) e sz bs m (gt σ l') := by
  simp only [mrun, mft, AV.slice3, List.nil_append, gts]
  cases h' : gt σ l' with
  | free => simp [msem, AV.slice3, ap0]
  | dead => simp [msem, AV.slice3, ap0]
  | live c =>
    simp only [msem, cellsOf, AV.slice3, Nat.zero_add, List.drop_zero, ap0]
    by_cases hm : m * sz ≤ c.cells.length
    · rw [if_pos hm]
      simp only [hm, true_and]
      by_cases hc : 0 < m ∧ (c.cells.take (m * sz)).all AV.one ∧ m ≤ 9223372036854775807 ∧ m * bs ≤ 140737488355328
      · rw [if_pos hc, if_pos hc]
        simp only [MOp.wr, if_true, pts, pt_self h', pn_eq]
        cases pn σ (base + slot) _ <;> rfl
      · rw [if_neg hc, if_neg hc]
    · rw [if_neg hm]
      simp [hm]
theorem m_bytes {s : List UInt8} : mrun base slot .bytes [.str s] σ = if s.length ≤ 140737488355328 then withV (.sl (base + slot) 0 s.length) (pn σ (base + slot) ⟨.box, true, u8s s⟩) else none := by
  by_cases h : s.length ≤ 140737488355328
  · rw [if_pos h]; exact mnew rfl (by simp [mft, gts, msem, h])
  · rw [if_neg h]; simp [mrun, mft, gts, msem, h]
theorem m_make {e sz bs : Nat} {zs : List AV} {k k' : IntKind} {n m : Int} : mrun base slot (.makeSlice e sz bs zs) [.int k n, .int k' m] σ = if n = m ∧ 0 ≤ n ∧ n ≤ 9223372036854775807 ∧ n * bs ≤ 140737488355328 then withV (.row (base + slot) n.toNat) (pn σ (base + slot) ⟨.row e sz, flatB zs, repA zs n.toNat⟩) else none := by
  by_cases h : n = m ∧ 0 ≤ n ∧ n ≤ 9223372036854775807 ∧ n * bs ≤ 140737488355328
  · rw [if_pos h]; exact mnew rfl (by simp only [mft, gts, msem]; rw [if_pos h])
  · rw [if_neg h]
    have : msem (base + slot) (.makeSlice e sz bs zs) [.int k n, .int k' m] (gts σ (mft (.makeSlice e sz bs zs) [.int k n, .int k' m])) = none := by simp only [mft, gts, msem]; rw [if_neg h]
    simp [mrun, this]
end

section
variable {R : Run} {base M : Nat} {t : Tm} {σ : Store} {r : List AOp} {d : Option Nat} {xs : List Opd}
/-- Operations whose places are kept in mind. -/
def consF (f : List Nat) : Option (St × List (List Nat)) → Option (St × List (List Nat))
  | some (s, fs) => some (s, f :: fs)
  | none => none
theorem consF_some {f : List Nat} {s : St} {fs : List (List Nat)} : consF f (some (s, fs)) = some (s, f :: fs) := rfl
theorem lazy_consF {f : List Nat} {x x' : Option (St × List (List Nat))} (h : x = x') : consF f x = consF f x' := by rw [h]
def nextF (R : Run) (base : Nat) (d : Option Nat) (r : List AOp) (t : Tm) (f : List Nat) : Option (AV × Store) → Option (St × List (List Nat))
  | some (v, σ) => consF f (opsFoot R base r ⟨setD t d v, σ⟩)
  | none => none
theorem nextF_some {f : List Nat} {v : AV} : nextF R base d r t f (some (v, σ)) = consF f (opsFoot R base r ⟨setD t d v, σ⟩) := rfl
theorem lazy_nextF {f f' : List Nat} {x x' : Option (AV × Store)} (hf : f = f') (h : x = x') : nextF R base d r t f x = nextF R base d r t f' x' := by rw [hf, h]
def pnextF (R : Run) (base : Nat) (d : Option Nat) (r : List AOp) (t : Tm) (σ : Store) : Option AV → Option (St × List (List Nat))
  | some v => consF [] (opsFoot R base r ⟨setD t d v, σ⟩)
  | none => none
theorem pnextF_some {v : AV} : pnextF R base d r t σ (some v) = consF [] (opsFoot R base r ⟨setD t d v, σ⟩) := rfl
theorem lazy_pnextF {x x' : Option AV} (h : x = x') : pnextF R base d r t σ x = pnextF R base d r t σ x' := by rw [h]
def mfoot (l : Nat) (vs : List AV) (o : MOp) : List Nat := if o.news then l :: mft o vs else mft o vs
def cfoot (l k : Nat) (vs : List AV) (σ : Store) : AV → List Nat
  | .fn _ fs cap => match partF σ (AV.locsL (fs ++ (vs ++ cap))) with
    | some F => rangeN l k ++ F
    | none => []
  | _ => []
theorem foot_nil : opsFoot R base [] ⟨t, σ⟩ = some (⟨t, σ⟩, []) := rfl
theorem foot_p {o : POp} : opsFoot R base (⟨d, none, .p o xs⟩ :: r) ⟨t, σ⟩ = pnextF R base d r t σ (psem o (gets t xs)) := by
  simp only [opsFoot, opStep, opn, gets_eq, foot, opFoot]
  cases psem o (gets t xs) with
  | none => rfl
  | some v =>
    simp only [pnextF]
    cases opsFoot R base r ⟨setD t d v, σ⟩ with
    | none => rfl
    | some x => rfl
theorem foot_m {o : MOp} {slot : Nat} : opsFoot R base (⟨d, none, .m o slot xs⟩ :: r) ⟨t, σ⟩ = nextF R base d r t (mfoot (base + slot) (gets t xs) o) (mrun base slot o (gets t xs) σ) := by
  have h := run_m (R := R) (base := base) (t := t) (σ := σ) (r := []) (d := d) (xs := xs) (o := o) (slot := slot)
  simp only [opsRun] at h
  simp only [opsFoot]
  cases hs : opStep R base ⟨d, none, .m o slot xs⟩ ⟨t, σ⟩ with
  | none =>
    rw [hs] at h
    cases hm : mrun base slot o (gets t xs) σ with
    | none => rfl
    | some x => rw [hm] at h; simp [next, opsRun] at h
  | some s' =>
    rw [hs] at h
    cases hm : mrun base slot o (gets t xs) σ with
    | none => rw [hm] at h; simp [next] at h
    | some x =>
      rw [hm] at h
      simp only [next, opsRun, Option.some.injEq] at h
      subst h
      simp only [nextF, foot, opFoot, gets_eq, mfoot]
      cases opsFoot R base r ⟨setD t d x.1, x.2⟩ with
      | none => rfl
      | some y => rfl
theorem foot_c {f : Opd} {slot k : Nat} : opsFoot R base (⟨d, none, .call f xs slot k⟩ :: r) ⟨t, σ⟩ = nextF R base d r t (cfoot (base + slot) k (gets t xs) σ (getO t f)) (crun R base slot k (gets t xs) σ (getO t f)) := by
  have h := run_c (R := R) (base := base) (t := t) (σ := σ) (r := []) (d := d) (xs := xs) (f := f) (slot := slot) (k := k)
  simp only [opsRun] at h
  simp only [opsFoot]
  cases hs : opStep R base ⟨d, none, .call f xs slot k⟩ ⟨t, σ⟩ with
  | none =>
    rw [hs] at h
    cases hm : crun R base slot k (gets t xs) σ (getO t f) with
    | none => rfl
    | some x => rw [hm] at h; simp [next, opsRun] at h
  | some s' =>
    rw [hs] at h
    cases hm : crun R base slot k (gets t xs) σ (getO t f) with
    | none => rw [hm] at h; simp [next] at h
    | some x =>
      rw [hm] at h
      simp only [next, opsRun, Option.some.injEq] at h
      subst h
      have hf : foot base ⟨d, none, .call f xs slot k⟩ ⟨t, σ⟩ = cfoot (base + slot) k (gets t xs) σ (getO t f) := by
        simp only [foot, opFoot, gets_eq, getO_eq]
        cases getO t f <;> rfl
      rw [hf]
      simp only [nextF]
      cases opsFoot R base r ⟨setD t d x.1, x.2⟩ with
      | none => rfl
      | some y => rfl
def gdF (R : Run) (base : Nat) (w : Bool) (o : AOp) (r : List AOp) (t : Tm) (σ : Store) : AV → Option (St × List (List Nat))
  | .bool b => if b = w then opsFoot R base (⟨o.dst, none, o.op⟩ :: r) ⟨t, σ⟩ else consF [] (opsFoot R base r ⟨setD t o.dst (.tup []), σ⟩)
  | .tup [] => consF [] (opsFoot R base r ⟨setD t o.dst (.tup []), σ⟩)
  | _ => none
theorem foot_g {o : Opn} {g : Nat} {w : Bool} : opsFoot R base (⟨d, some (g, w), o⟩ :: r) ⟨t, σ⟩ = gdF R base w ⟨d, none, o⟩ r t σ (tg t g) := by
  simp only [opsFoot, opStep, foot]
  generalize tg t g = x
  rcases x with _ | b | _ | _ | _ | _ | _ | _ | _ | _ | _ | _ | _ | _ | _ | _ | (_ | _) <;> simp only [gdF]
  · by_cases hb : b = w
    · subst hb
      simp only [if_true]
      rfl
    · simp only [if_neg hb]
      cases opsFoot R base r ⟨setD t d (.tup []), σ⟩ <;> rfl
  · cases opsFoot R base r ⟨setD t d (.tup []), σ⟩ <;> rfl
theorem gdF_tt {o : AOp} : gdF R base true o r t σ (.bool true) = opsFoot R base (⟨o.dst, none, o.op⟩ :: r) ⟨t, σ⟩ := rfl
theorem gdF_ff {o : AOp} : gdF R base false o r t σ (.bool false) = opsFoot R base (⟨o.dst, none, o.op⟩ :: r) ⟨t, σ⟩ := rfl
theorem gdF_tf {o : AOp} : gdF R base true o r t σ (.bool false) = consF [] (opsFoot R base r ⟨setD t o.dst (.tup []), σ⟩) := rfl
theorem gdF_ft {o : AOp} : gdF R base false o r t σ (.bool true) = consF [] (opsFoot R base r ⟨setD t o.dst (.tup []), σ⟩) := rfl
theorem gdF_tup {w : Bool} {o : AOp} : gdF R base w o r t σ (.tup []) = consF [] (opsFoot R base r ⟨setD t o.dst (.tup []), σ⟩) := rfl
theorem lazy_gdF {w : Bool} {o : AOp} {a a' : AV} (h : a = a') : gdF R base w o r t σ a = gdF R base w o r t σ a' := by rw [h]
/-- The end of operations in any order. -/
def finF (M : Nat) (live : List Nat) (ps : List (Nat × Nat)) : Option (St × List (List Nat)) → Option (Ex × St)
  | some (s, fs) => if pairsOk fs ps then nz live (norm M (tgs s.t live) s.s) else none
  | none => none
theorem finF_some {live : List Nat} {ps : List (Nat × Nat)} {fs : List (List Nat)} : finF M live ps (some (⟨t, σ⟩, fs)) = if pairsOk fs ps = true then nz live (norm M (tgs t live) σ) else none := rfl
theorem lazy_finF {live : List Nat} {ps : List (Nat × Nat)} {x x' : Option (St × List (List Nat))} (h : x = x') : finF M live ps x = finF M live ps x' := by rw [h]
theorem x_draw {n : Nat} {p : Nat × Nat} {ps : List (Nat × Nat)} {l : List AOp} {live : List Nat} : X R M (.draw n (p :: ps) l live) ⟨t, σ⟩ = finF M live (p :: ps) (opsFoot R σ.length l ⟨t, σ ++ frees n⟩) := by
  rw [X_draw]
  simp only
  generalize opsFoot R σ.length l ⟨t, σ ++ frees n⟩ = x
  rcases x with _ | ⟨s, fs⟩ <;> rfl
theorem lazy_opsFoot {b b' : Nat} {l : List AOp} {s s' : St} (hb : b = b') (h : s = s') : opsFoot R b l s = opsFoot R b' l s' := by rw [hb, h]
def cfoot0 (l k : Nat) : Option (List Nat) → List Nat
  | some F => rangeN l k ++ F
  | none => []
theorem cfoot_fn {l k g : Nat} {vs fs cap : List AV} : cfoot l k vs σ (.fn g fs cap) = cfoot0 l k (partF σ (AV.locsL (fs ++ (vs ++ cap)))) := by
  simp only [cfoot]
  cases partF σ (AV.locsL (fs ++ (vs ++ cap))) <;> rfl
theorem cfoot0_some {l k : Nat} {F : List Nat} : cfoot0 l k (some F) = rangeN l k ++ F := rfl
theorem f_load {l : Nat} {a : Bool} {sz p off : Nat} : mfoot l [.ptr p off] (.load a sz) = [p] := rfl
theorem f_store {l : Nat} {sz p off : Nat} {v : AV} : mfoot l [.ptr p off, v] (.store sz) = [p] := rfl
theorem f_alloc {l : Nat} {zs : List AV} : mfoot l [] (.alloc zs) = [l] := rfl
theorem f_box {l : Nat} {v : AV} : mfoot l [v] .box = [l] := rfl
theorem f_bytes {l : Nat} {v : AV} : mfoot l [v] .bytes = [l] := rfl
theorem f_build {l e sz len : Nat} {zs vs : List AV} {ps : List (Nat × Nat)} : mfoot l vs (.buildSlice e sz len zs ps) = [l] := by
  simp [mfoot, mft, MOp.news]
theorem f_append {l e sz bs p n q m : Nat} : mfoot l [.row p n, .row q m] (.append e sz bs) = [l, p, q] := rfl
end

section
variable {M : Nat} {t : Tm} {σ : Store}
/-! What a function hands back. -/
def consO : Option AV → Option (List AV) → Option (List AV)
  | some v, some vs => some (v :: vs)
  | _, _ => none
theorem consO_some {v : AV} {vs : List AV} : consO (some v) (some vs) = some (v :: vs) := rfl
theorem rvs_nil {s : St} : rvs s [] = some [] := rfl
theorem rvs_cons {s : St} {r : RV} {rs : List RV} : rvs s (r :: rs) = consO (rv s r) (rvs s rs) := by
  simp only [rvs]
  cases rv s r with
  | none => rfl
  | some v => cases rvs s rs <;> rfl
theorem rv_t {n : Nat} : rv ⟨t, σ⟩ (.t n) = some (tg t n) := rfl
def rvl1 (off : Nat) : Sl → Option AV
  | .live b => b.cells[off]?
  | _ => none
theorem rvl1_live {off : Nat} {b : Blk} : rvl1 off (.live b) = b.cells[off]? := rfl
def rvl2 (off sz : Nat) : Sl → Option AV
  | .live b => if off + sz ≤ b.cells.length then some (.agg ((b.cells.drop off).take sz)) else none
  | _ => none
theorem rvl2_live {off sz : Nat} {b : Blk} : rvl2 off sz (.live b) = if off + sz ≤ b.cells.length then some (.agg ((b.cells.drop off).take sz)) else none := rfl
def rvc (a : Bool) (sz : Nat) (σ : Store) : AV → Option AV
  | .ptr l off => if a then rvl2 off sz (gt σ l) else rvl1 off (gt σ l)
  | _ => none
theorem rvc_true {sz l off : Nat} : rvc true sz σ (.ptr l off) = rvl2 off sz (gt σ l) := rfl
theorem rvc_false {sz l off : Nat} : rvc false sz σ (.ptr l off) = rvl1 off (gt σ l) := rfl
theorem rv_c {n sz : Nat} {a : Bool} : rv ⟨t, σ⟩ (.cell n a sz) = rvc a sz σ (tg t n) := by
  simp only [rv]
  cases tg t n <;> simp only [rvc]
  rename_i l off
  cases h : gt σ l with
  | free => cases a <;> simp [msem, rvl1, rvl2]
  | dead => cases a <;> simp [msem, rvl1, rvl2]
  | live b =>
    cases a with
    | true =>
      simp only [msem, if_true, rvl2]
      by_cases hc : off + sz ≤ b.cells.length <;> simp [hc]
    | false =>
      simp only [msem, Bool.false_eq_true, if_false, rvl1]
      cases b.cells[off]? <;> rfl
def one : Option (List AV × Store) → Option (AV × Store)
  | none => none
  | some ([v], σ) => some (v, σ)
  | some (vs, σ) => some (.tup vs, σ)
theorem one_one {v : AV} : one (some ([v], σ)) = some (v, σ) := rfl
theorem one_nil : one (some ([], σ)) = some (.tup [], σ) := rfl
theorem one_more {a b : AV} {r : List AV} : one (some (a :: b :: r, σ)) = some (.tup (a :: b :: r), σ) := rfl
def finO (M : Nat) (σ : Store) : Option (List AV) → Option (AV × Store)
  | some vs => one (norm M vs σ)
  | none => none
theorem finO_some {vs : List AV} : finO M σ (some vs) = one (norm M vs σ) := rfl
theorem finish_eq {rs : List RV} : finish M rs ⟨t, σ⟩ = finO M σ (rvs ⟨t, σ⟩ rs) := by
  simp only [finish]
  cases rvs ⟨t, σ⟩ rs with
  | none => rfl
  | some vs =>
    simp only [finO]
    rcases norm M vs σ with _ | ⟨vs', σ'⟩
    · rfl
    · rcases vs' with _ | ⟨a, _ | ⟨b, r⟩⟩ <;> rfl
end
end Go.AX
namespace Go.AX
/-- A condition on the side: an evaluator asks omega for it. -/
noncomputable def chk (c : Prop) {α : Type} (x : Option α) : Option α := open Classical in if c then x else none
section
variable {α : Type} {c d : Prop} {x y : Option α}
theorem chk_yes (h : c) : chk c x = x := by unfold chk; rw [if_pos h]
theorem chk_true : chk True x = x := chk_yes trivial
theorem chk_and : chk (c ∧ d) x = chk c (chk d x) := by
  by_cases h : c
  · by_cases h' : d
    · rw [chk_yes h, chk_yes ⟨h, h'⟩, chk_yes h']
    · rw [chk_yes h]; unfold chk; rw [if_neg h', if_neg (fun q => h' q.2)]
  · unfold chk; rw [if_neg h, if_neg (fun q => h q.1)]
theorem chk_ite [Decidable c] : (if c then x else none) = chk c x := by
  by_cases h : c
  · rw [if_pos h, chk_yes h]
  · unfold chk; rw [if_neg h, if_neg h]
theorem chk_nite [Decidable c] : (if c then none else x) = chk (¬ c) x := by
  by_cases h : c
  · unfold chk; rw [if_pos h, if_neg (fun q => q h)]
  · rw [if_neg h, chk_yes h]
theorem lazy_chk (h : c = d) : chk c x = chk d x := by rw [h]
end

section
variable {k k' : IntKind} {i a b : Int} {n sz l o off : Nat} {cs : List AV} {s : List UInt8}
theorem q_indexArr : psem (.indexArr n sz) [.ptr l o, .int k i] = chk (0 ≤ i ∧ i < n) (some (.ptr l (o + i.toNat * sz))) := by rw [← chk_ite]; rfl
theorem q_indexRow : psem (.indexSl sz) [.row l n, .int k i] = chk (0 ≤ i ∧ i < n) (some (.ptr l (i.toNat * sz))) := by rw [← chk_ite, p_indexRow, Nat.zero_add]
theorem q_indexSl : psem (.indexSl sz) [.sl l off n, .int k i] = chk (0 ≤ i ∧ i < n) (some (.ptr l (off + i.toNat * sz))) := by rw [← chk_ite]; rfl
theorem q_indexAgg1 : psem (.indexAgg n sz false) [.agg cs, .int k i] = chk (0 ≤ i ∧ i < n) cs[i.toNat * sz]? := by rw [← chk_ite]; rfl
theorem q_indexAgg2 : psem (.indexAgg n sz true) [.agg cs, .int k i] = chk ((0 ≤ i ∧ i < n) ∧ i.toNat * sz + sz ≤ cs.length) (some (.agg ((cs.drop (i.toNat * sz)).take sz))) := by rw [chk_and, ← chk_ite, ← chk_ite]; rfl
theorem q_indexStr : psem .indexStr [.str s, .int k i] = chk (0 ≤ i ∧ i < s.length) (some (.int .u8 (s.getD i.toNat 0).toNat)) := by
  rw [p_indexStr, chk_and, ← chk_ite]
  by_cases h : 0 ≤ i
  · rw [if_pos h, if_pos h]
    by_cases h' : i < s.length
    · have : i.toNat < s.length := by omega
      rw [chk_yes h', List.getD_eq_getElem?_getD, List.getElem?_eq_getElem this]
      rfl
    · have : s.length ≤ i.toNat := by omega
      unfold chk
      rw [if_neg h', List.getElem?_eq_none this]
      rfl
  · rw [if_neg h, if_neg h]
theorem q_sliceStrL : psem (.sliceStr true false) [.str s, .int k a] = chk (0 ≤ a ∧ a ≤ s.length) (some (.str (s.drop a.toNat))) := by rw [← chk_ite, p_sliceStrL]
theorem q_sliceStrH : psem (.sliceStr false true) [.str s, .int k b] = chk (0 ≤ b ∧ b ≤ s.length) (some (.str (s.take b.toNat))) := by rw [← chk_ite, p_sliceStrH]
theorem q_sliceStrLH : psem (.sliceStr true true) [.str s, .int k a, .int k' b] = chk (0 ≤ a ∧ a ≤ b ∧ b ≤ s.length) (some (.str ((s.take b.toNat).drop a.toNat))) := by rw [← chk_ite, p_sliceStrLH]
theorem q_sliceRow : psem (.sliceSl sz false false) [.row l n] = some (.sl l 0 n) := by simp [psem, AV.slice3, loHi, bound]
theorem q_sliceRowL : psem (.sliceSl sz true false) [.row l n, .int k a] = chk (0 ≤ a ∧ a ≤ n) (some (.sl l (a.toNat * sz) (n - a.toNat))) := by
  rw [← chk_ite]
  simp only [psem, AV.slice3, loHi, bound, Nat.zero_add]
  by_cases h : 0 ≤ a
  · have e : (a.toNat ≤ n ∧ n ≤ n) ↔ (0 ≤ a ∧ a ≤ n) := by omega
    simp only [if_pos h, e]
  · have e : ¬ (0 ≤ a ∧ a ≤ n) := by omega
    simp only [if_neg h, if_neg e]
theorem q_sliceRowH : psem (.sliceSl sz false true) [.row l n, .int k b] = chk (0 ≤ b ∧ b ≤ n) (some (.sl l 0 b.toNat)) := by
  rw [← chk_ite]
  simp only [psem, AV.slice3, loHi, bound, Nat.zero_add]
  by_cases h : 0 ≤ b
  · have e : (0 ≤ b.toNat ∧ b.toNat ≤ n) ↔ (0 ≤ b ∧ b ≤ n) := by omega
    simp only [if_pos h, e, Nat.zero_mul, Nat.sub_zero]
  · have e : ¬ (0 ≤ b ∧ b ≤ n) := by omega
    simp only [if_neg h, if_neg e]
theorem q_sliceRowLH : psem (.sliceSl sz true true) [.row l n, .int k a, .int k' b] = chk (0 ≤ a ∧ a ≤ b ∧ b ≤ n) (some (.sl l (a.toNat * sz) (b.toNat - a.toNat))) := by
  rw [← chk_ite]
  simp only [psem, AV.slice3, loHi, bound, Nat.zero_add]
  by_cases h : 0 ≤ a
  · by_cases h' : 0 ≤ b
    · have e : (a.toNat ≤ b.toNat ∧ b.toNat ≤ n) ↔ (0 ≤ a ∧ a ≤ b ∧ b ≤ n) := by omega
      simp only [if_pos h, if_pos h', e]
    · have e : ¬ (0 ≤ a ∧ a ≤ b ∧ b ≤ n) := by omega
      simp only [if_pos h, if_neg h', if_neg e]
  · have e : ¬ (0 ≤ a ∧ a ≤ b ∧ b ≤ n) := by omega
    simp only [if_neg h, if_neg e]
theorem q_sliceSl : psem (.sliceSl sz false false) [.sl l off n] = some (.sl l off n) := by simp [psem, AV.slice3, loHi, bound]
theorem q_sliceSlL : psem (.sliceSl sz true false) [.sl l off n, .int k a] = chk (0 ≤ a ∧ a ≤ n) (some (.sl l (off + a.toNat * sz) (n - a.toNat))) := by
  rw [← chk_ite]
  simp only [psem, AV.slice3, loHi, bound]
  by_cases h : 0 ≤ a
  · have e : (a.toNat ≤ n ∧ n ≤ n) ↔ (0 ≤ a ∧ a ≤ n) := by omega
    simp only [if_pos h, e]
  · have e : ¬ (0 ≤ a ∧ a ≤ n) := by omega
    simp only [if_neg h, if_neg e]
theorem q_sliceSlH : psem (.sliceSl sz false true) [.sl l off n, .int k b] = chk (0 ≤ b ∧ b ≤ n) (some (.sl l off b.toNat)) := by
  rw [← chk_ite]
  simp only [psem, AV.slice3, loHi, bound]
  by_cases h : 0 ≤ b
  · have e : (0 ≤ b.toNat ∧ b.toNat ≤ n) ↔ (0 ≤ b ∧ b ≤ n) := by omega
    simp only [if_pos h, e, Nat.zero_mul, Nat.sub_zero, Nat.add_zero]
  · have e : ¬ (0 ≤ b ∧ b ≤ n) := by omega
    simp only [if_neg h, if_neg e]
theorem q_sliceSlLH : psem (.sliceSl sz true true) [.sl l off n, .int k a, .int k' b] = chk (0 ≤ a ∧ a ≤ b ∧ b ≤ n) (some (.sl l (off + a.toNat * sz) (b.toNat - a.toNat))) := by
  rw [← chk_ite]
  simp only [psem, AV.slice3, loHi, bound]
  by_cases h : 0 ≤ a
  · by_cases h' : 0 ≤ b
    · have e : (a.toNat ≤ b.toNat ∧ b.toNat ≤ n) ↔ (0 ≤ a ∧ a ≤ b ∧ b ≤ n) := by omega
      simp only [if_pos h, if_pos h', e]
    · have e : ¬ (0 ≤ a ∧ a ≤ b ∧ b ≤ n) := by omega
      simp only [if_pos h, if_neg h', if_neg e]
  · have e : ¬ (0 ≤ a ∧ a ≤ b ∧ b ≤ n) := by omega
    simp only [if_neg h, if_neg e]
theorem q_sliceArr : psem (.sliceArr n sz false false) [.ptr l off] = some (.sl l off n) := by simp [psem, loHi, bound]
theorem q_sliceArrH : psem (.sliceArr n sz false true) [.ptr l off, .int k b] = chk (0 ≤ b ∧ b ≤ n) (some (.sl l off b.toNat)) := by
  rw [← chk_ite]
  simp only [psem, loHi, bound]
  by_cases h : 0 ≤ b
  · have e : (0 ≤ b.toNat ∧ b.toNat ≤ n) ↔ (0 ≤ b ∧ b ≤ n) := by omega
    simp only [if_pos h, e, Nat.zero_mul, Nat.sub_zero, Nat.add_zero]
  · have e : ¬ (0 ≤ b ∧ b ≤ n) := by omega
    simp only [if_neg h, if_neg e]
variable {ty : ETy}
theorem q_quo : pbin .quo ty (.int k a) (.int k b) = chk (¬ b = 0) (some (.int k (k.wrap (a.tdiv b)))) := by rw [← chk_nite, b_quo]
theorem q_rem : pbin .rem ty (.int k a) (.int k b) = chk (¬ b = 0) (some (.int k (a.tmod b))) := by rw [← chk_nite, b_rem]
theorem q_shl : pbin .shl ty (.int k a) (.int k' b) = chk (¬ b < 0) (some (.int k (k.wrap (a * 2 ^ (min b.toNat k.bits))))) := by rw [← chk_nite, b_shl]
theorem q_shr : pbin .shr ty (.int k a) (.int k' b) = chk (¬ b < 0) (some (.int k (a.fdiv (2 ^ (min b.toNat k.bits))))) := by rw [← chk_nite, b_shr]
theorem q_sadd {x y : List UInt8} : pbin .add ty (.str x) (.str y) = chk (x.length + y.length ≤ 9223372036854775807) (some (.str (x ++ y))) := by rw [← chk_ite, b_sadd]
theorem q_aeql {ls : List LK} {xs ys : List AV} : pbin .eql (.agg ls) (.agg xs) (.agg ys) = chk (lks xs ls = true ∧ lks ys ls = true) (some (.bool (eqL xs ys))) := by rw [← chk_ite, b_aeql]; simp only [Bool.and_eq_true]
theorem q_aneq {ls : List LK} {xs ys : List AV} : pbin .neq (.agg ls) (.agg xs) (.agg ys) = chk (lks xs ls = true ∧ lks ys ls = true) (some (.bool (!eqL xs ys))) := by rw [← chk_ite, b_aneq]; simp only [Bool.and_eq_true]
end

section
variable {σ : Store} {base slot off sz l e bs n m : Nat} {k k' : BK} {f f' : Bool} {cs cs' : List AV} {v : AV}
theorem q_ld2 {b : Blk} : ld2 σ off sz (.live b) = chk (off + sz ≤ b.cells.length) (some (.agg ((b.cells.drop off).take sz), σ)) := by rw [← chk_ite]; rfl
theorem q_rvl2 {b : Blk} : rvl2 off sz (.live b) = chk (off + sz ≤ b.cells.length) (some (.agg ((b.cells.drop off).take sz))) := by rw [← chk_ite]; rfl
theorem q_st1 : st1 σ l off sz v (.live ⟨k, f, cs⟩) = chk (k ≠ .ro ∧ v.cells.length = sz ∧ off + sz ≤ cs.length ∧ v.cells.all AV.one = true ∧ (f = true → flatB v.cells = true))
    (some (.any, pt σ l (.live ⟨k, f, cs.take off ++ v.cells ++ cs.drop (off + sz)⟩))) := by rw [← chk_ite]; rfl
theorem q_ap1 {s : Nat} {ne : Bool} : ap1 σ s e sz bs l n m ne (.live ⟨k, f, cs⟩) (.live ⟨k', f', cs'⟩) = chk (m * sz ≤ cs'.length ∧ k = .row e sz ∧ cs.length = n * sz ∧ ne = true ∧ (cs'.take (m * sz)).all AV.one = true ∧ n + m ≤ 9223372036854775807 ∧ (n + m) * bs ≤ 140737488355328)
    (withV (.row s (n + m)) (pn (pt σ l .dead) s ⟨.row e sz, f && flatB (cs'.take (m * sz)), cs ++ cs'.take (m * sz)⟩)) := by rw [← chk_ite]; rfl
theorem q_ap0 {s : Nat} : ap0 σ s e sz bs m (.live ⟨k', f', cs'⟩) = chk (m * sz ≤ cs'.length ∧ 0 < m ∧ (cs'.take (m * sz)).all AV.one = true ∧ m ≤ 9223372036854775807 ∧ m * bs ≤ 140737488355328)
    (withV (.row s m) (pn σ s ⟨.row e sz, flatB (cs'.take (m * sz)), cs'.take (m * sz)⟩)) := by rw [← chk_ite]; rfl
theorem q_bytes {s : List UInt8} : mrun base slot .bytes [.str s] σ = chk (s.length ≤ 140737488355328) (withV (.sl (base + slot) 0 s.length) (pn σ (base + slot) ⟨.box, true, u8s s⟩)) := by rw [← chk_ite, m_bytes]
theorem q_make {zs : List AV} {k k' : IntKind} {n m : Int} : mrun base slot (.makeSlice e sz bs zs) [.int k n, .int k' m] σ = chk (n = m ∧ 0 ≤ n ∧ n ≤ 9223372036854775807 ∧ n * bs ≤ 140737488355328) (withV (.row (base + slot) n.toNat) (pn σ (base + slot) ⟨.row e sz, flatB zs, repA zs n.toNat⟩)) := by rw [← chk_ite, m_make]
end

/-! Numbers that are not negative: the cast is kept outside. -/
section
variable (a b n : Nat)
theorem nn_add : (a : Int) + (b : Int) = ((a + b : Nat) : Int) := rfl
theorem nn_mul : (a : Int) * (b : Int) = ((a * b : Nat) : Int) := rfl
theorem nn_addl : (a : Int) + (no_index (OfNat.ofNat n : Int)) = ((a + OfNat.ofNat n : Nat) : Int) := rfl
theorem nn_addr : (no_index (OfNat.ofNat n : Int)) + (a : Int) = ((OfNat.ofNat n + a : Nat) : Int) := rfl
theorem nn_mull : (a : Int) * (no_index (OfNat.ofNat n : Int)) = ((a * OfNat.ofNat n : Nat) : Int) := rfl
theorem nn_mulr : (no_index (OfNat.ofNat n : Int)) * (a : Int) = ((OfNat.ofNat n * a : Nat) : Int) := rfl
theorem nn_tdiv : (a : Int).tdiv (b : Int) = ((a / b : Nat) : Int) := rfl
theorem nn_tmod : (a : Int).tmod (b : Int) = ((a % b : Nat) : Int) := rfl
theorem nn_tdivl : (a : Int).tdiv (no_index (OfNat.ofNat n : Int)) = ((a / OfNat.ofNat n : Nat) : Int) := rfl
theorem nn_tmodl : (a : Int).tmod (no_index (OfNat.ofNat n : Int)) = ((a % OfNat.ofNat n : Nat) : Int) := rfl
theorem nn_le : ((a : Int) ≤ (b : Int)) = (a ≤ b) := propext Int.ofNat_le
theorem nn_lt : ((a : Int) < (b : Int)) = (a < b) := propext Int.ofNat_lt
theorem nn_eq : ((a : Int) = (b : Int)) = (a = b) := propext Int.ofNat_inj
theorem nn_lel : ((a : Int) ≤ (no_index (OfNat.ofNat n : Int))) = (a ≤ OfNat.ofNat n) := propext Int.ofNat_le
theorem nn_ltl : ((a : Int) < (no_index (OfNat.ofNat n : Int))) = (a < OfNat.ofNat n) := propext Int.ofNat_lt
theorem nn_eql : ((a : Int) = (no_index (OfNat.ofNat n : Int))) = (a = OfNat.ofNat n) := propext Int.ofNat_inj
theorem nn_ler : ((no_index (OfNat.ofNat n : Int)) ≤ (a : Int)) = (OfNat.ofNat n ≤ a) := propext Int.ofNat_le
theorem nn_ltr : ((no_index (OfNat.ofNat n : Int)) < (a : Int)) = (OfNat.ofNat n < a) := propext Int.ofNat_lt
theorem nn_eqr : ((no_index (OfNat.ofNat n : Int)) = (a : Int)) = (OfNat.ofNat n = a) := propext Int.ofNat_inj
theorem nn_sub (h : b ≤ a) : (a : Int) - (b : Int) = ((a - b : Nat) : Int) := by omega
theorem nn_subl (h : OfNat.ofNat n ≤ a) : (a : Int) - (no_index (OfNat.ofNat n : Int)) = ((a - OfNat.ofNat n : Nat) : Int) := by
  have : ((OfNat.ofNat n : Nat) : Int) = (OfNat.ofNat n : Int) := rfl
  rw [← this]; omega
theorem nn_subr (h : a ≤ OfNat.ofNat n) : (no_index (OfNat.ofNat n : Int)) - (a : Int) = ((OfNat.ofNat n - a : Nat) : Int) := by
  have : ((OfNat.ofNat n : Nat) : Int) = (OfNat.ofNat n : Int) := rfl
  rw [← this]; omega
end

section
variable {R : Run} {base M : Nat} {t : Tm} {σ : Store} {r : List AOp} {p : Prop} [Decidable p]
theorem sel_yes {a b : Cd} (h : p) : sel R M a b t σ (.bool (decide p)) = X R M a ⟨t, σ⟩ := by rw [decide_eq_true h]; rfl
theorem sel_no {a b : Cd} (h : ¬ p) : sel R M a b t σ (.bool (decide p)) = X R M b ⟨t, σ⟩ := by rw [decide_eq_false h]; rfl
theorem gd_yes {w : Bool} {o : AOp} (h : p) : gd R base w o r t σ (.bool (decide p)) = gd R base w o r t σ (.bool true) := by rw [decide_eq_true h]
theorem gd_no {w : Bool} {o : AOp} (h : ¬ p) : gd R base w o r t σ (.bool (decide p)) = gd R base w o r t σ (.bool false) := by rw [decide_eq_false h]
theorem gdF_yes {w : Bool} {o : AOp} (h : p) : gdF R base w o r t σ (.bool (decide p)) = gdF R base w o r t σ (.bool true) := by rw [decide_eq_true h]
theorem gdF_no {w : Bool} {o : AOp} (h : ¬ p) : gdF R base w o r t σ (.bool (decide p)) = gdF R base w o r t σ (.bool false) := by rw [decide_eq_false h]
end
/-! A condition that is not: the other way. -/
section
variable {R : Run} {base M : Nat} {t : Tm} {σ : Store} {r : List AOp} {b : Bool}
theorem sel_not {x y : Cd} : sel R M x y t σ (.bool !b) = sel R M y x t σ (.bool b) := by cases b <;> rfl
theorem gd_not {w : Bool} {o : AOp} : gd R base w o r t σ (.bool !b) = gd R base (!w) o r t σ (.bool b) := by cases b <;> cases w <;> rfl
theorem gdF_not {w : Bool} {o : AOp} : gdF R base w o r t σ (.bool !b) = gdF R base (!w) o r t σ (.bool b) := by cases b <;> cases w <;> rfl
end

/-! Operations in any order, what they touch kept at hand. -/
section
variable {R : Run} {base M : Nat} {t : Tm} {σ : Store} {r : List AOp} {d : Option Nat} {xs : List Opd} {acc : List (List Nat)}
def ahd (acc : List (List Nat)) : Option (St × List (List Nat)) → Option (St × List (List Nat))
  | some (s, fs) => some (s, acc ++ fs)
  | none => none
def ofA (R : Run) (base : Nat) (l : List AOp) (s : St) (acc : List (List Nat)) : Option (St × List (List Nat)) := ahd acc (opsFoot R base l s)
theorem ahd_consF {f : List Nat} {x : Option (St × List (List Nat))} : ahd acc (consF f x) = ahd (acc ++ [f]) x := by
  rcases x with _ | ⟨s, fs⟩
  · rfl
  · simp [ahd, consF]
def nextA (R : Run) (base : Nat) (d : Option Nat) (r : List AOp) (t : Tm) (acc : List (List Nat)) (f : List Nat) : Option (AV × Store) → Option (St × List (List Nat))
  | some (v, σ) => ofA R base r ⟨setD t d v, σ⟩ (acc ++ [f])
  | none => none
def pnextA (R : Run) (base : Nat) (d : Option Nat) (r : List AOp) (t : Tm) (σ : Store) (acc : List (List Nat)) : Option AV → Option (St × List (List Nat))
  | some v => ofA R base r ⟨setD t d v, σ⟩ (acc ++ [[]])
  | none => none
def gdA (R : Run) (base : Nat) (w : Bool) (o : AOp) (r : List AOp) (t : Tm) (σ : Store) (acc : List (List Nat)) : AV → Option (St × List (List Nat))
  | .bool b => if b = w then ofA R base (⟨o.dst, none, o.op⟩ :: r) ⟨t, σ⟩ acc else ofA R base r ⟨setD t o.dst (.tup []), σ⟩ (acc ++ [[]])
  | .tup [] => ofA R base r ⟨setD t o.dst (.tup []), σ⟩ (acc ++ [[]])
  | _ => none
theorem nextA_some {f : List Nat} {v : AV} : nextA R base d r t acc f (some (v, σ)) = ofA R base r ⟨setD t d v, σ⟩ (acc ++ [f]) := rfl
theorem pnextA_some {v : AV} : pnextA R base d r t σ acc (some v) = ofA R base r ⟨setD t d v, σ⟩ (acc ++ [[]]) := rfl
theorem gdA_tt {o : AOp} : gdA R base true o r t σ acc (.bool true) = ofA R base (⟨o.dst, none, o.op⟩ :: r) ⟨t, σ⟩ acc := rfl
theorem gdA_ff {o : AOp} : gdA R base false o r t σ acc (.bool false) = ofA R base (⟨o.dst, none, o.op⟩ :: r) ⟨t, σ⟩ acc := rfl
theorem gdA_tf {o : AOp} : gdA R base true o r t σ acc (.bool false) = ofA R base r ⟨setD t o.dst (.tup []), σ⟩ (acc ++ [[]]) := rfl
theorem gdA_ft {o : AOp} : gdA R base false o r t σ acc (.bool true) = ofA R base r ⟨setD t o.dst (.tup []), σ⟩ (acc ++ [[]]) := rfl
theorem gdA_tup {w : Bool} {o : AOp} : gdA R base w o r t σ acc (.tup []) = ofA R base r ⟨setD t o.dst (.tup []), σ⟩ (acc ++ [[]]) := rfl
theorem gdA_not {w : Bool} {o : AOp} {b : Bool} : gdA R base w o r t σ acc (.bool !b) = gdA R base (!w) o r t σ acc (.bool b) := by cases b <;> cases w <;> rfl
theorem gdA_yes {w : Bool} {o : AOp} {p : Prop} [Decidable p] (h : p) : gdA R base w o r t σ acc (.bool (decide p)) = gdA R base w o r t σ acc (.bool true) := by rw [decide_eq_true h]
theorem gdA_no {w : Bool} {o : AOp} {p : Prop} [Decidable p] (h : ¬ p) : gdA R base w o r t σ acc (.bool (decide p)) = gdA R base w o r t σ acc (.bool false) := by rw [decide_eq_false h]
theorem ofA_nil : ofA R base [] ⟨t, σ⟩ acc = some (⟨t, σ⟩, acc) := by simp [ofA, foot_nil, ahd]
theorem ofA_p {o : POp} : ofA R base (⟨d, none, .p o xs⟩ :: r) ⟨t, σ⟩ acc = pnextA R base d r t σ acc (psem o (gets t xs)) := by
  simp only [ofA, foot_p]
  cases psem o (gets t xs) with
  | none => rfl
  | some v => simp only [pnextF, ahd_consF, pnextA, ofA]
theorem ofA_m {o : MOp} {slot : Nat} : ofA R base (⟨d, none, .m o slot xs⟩ :: r) ⟨t, σ⟩ acc = nextA R base d r t acc (mfoot (base + slot) (gets t xs) o) (mrun base slot o (gets t xs) σ) := by
  simp only [ofA, foot_m]
  rcases mrun base slot o (gets t xs) σ with _ | ⟨v, σ'⟩
  · rfl
  · simp only [nextF, ahd_consF, nextA, ofA]
theorem ofA_c {f : Opd} {slot k : Nat} : ofA R base (⟨d, none, .call f xs slot k⟩ :: r) ⟨t, σ⟩ acc = nextA R base d r t acc (cfoot (base + slot) k (gets t xs) σ (getO t f)) (crun R base slot k (gets t xs) σ (getO t f)) := by
  simp only [ofA, foot_c]
  rcases crun R base slot k (gets t xs) σ (getO t f) with _ | ⟨v, σ'⟩
  · rfl
  · simp only [nextF, ahd_consF, nextA, ofA]
theorem ofA_g {o : Opn} {g : Nat} {w : Bool} : ofA R base (⟨d, some (g, w), o⟩ :: r) ⟨t, σ⟩ acc = gdA R base w ⟨d, none, o⟩ r t σ acc (tg t g) := by
  simp only [ofA, foot_g]
  generalize tg t g = x
  rcases x with _ | b | _ | _ | _ | _ | _ | _ | _ | _ | _ | _ | _ | _ | _ | _ | (_ | _) <;> try rfl
  · simp only [gdF, gdA]
    split
    · rfl
    · simp only [ahd_consF, ofA]
  · simp only [gdF, gdA, ahd_consF, ofA]
theorem y_draw {n : Nat} {p : Nat × Nat} {ps : List (Nat × Nat)} {l : List AOp} {live : List Nat} : X R M (.draw n (p :: ps) l live) ⟨t, σ⟩ = finF M live (p :: ps) (ofA R σ.length l ⟨t, σ ++ frees n⟩ []) := by
  rw [x_draw]
  simp only [ofA]
  rcases opsFoot R σ.length l ⟨t, σ ++ frees n⟩ with _ | ⟨s, fs⟩ <;> rfl
theorem lazy_nextA {f f' : List Nat} {x x' : Option (AV × Store)} (hf : f = f') (h : x = x') : nextA R base d r t acc f x = nextA R base d r t acc f' x' := by rw [hf, h]
theorem lazy_pnextA {x x' : Option AV} (h : x = x') : pnextA R base d r t σ acc x = pnextA R base d r t σ acc x' := by rw [h]
theorem lazy_gdA {w : Bool} {o : AOp} {a a' : AV} (h : a = a') : gdA R base w o r t σ acc a = gdA R base w o r t σ acc a' := by rw [h]
theorem lazy_ofA {b b' : Nat} {l : List AOp} {s s' : St} {acc' : List (List Nat)} (hb : b = b') (h : s = s') (ha : acc = acc') : ofA R b l s acc = ofA R b' l s' acc' := by rw [hb, h, ha]
end
section
variable {b : Bool} {x y : AV} {p : Prop} [Decidable p]
theorem pk_not : pk (!b) x y = pk b y x := by cases b <;> rfl
theorem pk_yes (h : p) : pk (decide p) x y = x := by rw [decide_eq_true h]; rfl
theorem pk_no (h : ¬ p) : pk (decide p) x y = y := by rw [decide_eq_false h]; rfl
end

section
variable {b : Bool} {p : Prop} [Decidable p]
theorem or_yes (h : p) : (decide p || b) = true := by simp [h]
theorem or_no (h : ¬ p) : (decide p || b) = b := by simp [h]
theorem and_yes (h : p) : (decide p && b) = b := by simp [h]
theorem and_no (h : ¬ p) : (decide p && b) = false := by simp [h]
end
end Go.AX
namespace Go.AX
/-! What a call that reaches places hands back. -/
def rho (F : List Nat) (slot i : Nat) : Nat := if i < F.length then nthN F i else slot + (i - F.length)
section
variable {σ : Store} {F : List Nat} {slot k : Nat} {r : AV} {σ' : Store} {ρ : Nat → Nat}
def br2 (ρ : Nat → Nat) (slot k : Nat) (r : AV) : Option (Store × Store) → Option (AV × Store)
  | some (σ1, rest) => put2 (r.rn ρ) (newOnes σ1 ρ slot k rest)
  | none => none
theorem br2_some {σ1 rest : Store} : br2 ρ slot k r (some (σ1, rest)) = put2 (r.rn ρ) (newOnes σ1 ρ slot k rest) := rfl
theorem lazy_br2 {x x' : Option (Store × Store)} (h : x = x') : br2 ρ slot k r x = br2 ρ slot k r x' := by rw [h]
theorem bring_some : bring σ F slot k (some (r, σ')) = if (allIn σ'.length r.locs && wholeB σ'.length σ') = true then br2 (rho F slot) slot k r (writeBack σ (rho F slot) F σ') else none := by
  have e : rho F slot = fun i => if i < F.length then nthN F i else slot + (i - F.length) := rfl
  simp only [bring, ← e]
  split
  · cases writeBack σ (rho F slot) F σ' with
    | none => rfl
    | some x =>
      obtain ⟨σ1, rest⟩ := x
      simp only [br2]
      cases newOnes σ1 (rho F slot) slot k rest <;> rfl
  · rfl
theorem wb_nil : writeBack σ ρ [] σ' = some (σ, σ') := by cases σ' <;> rfl
theorem wb_cons {l : Nat} {r : List Nat} {s : Sl} : writeBack σ ρ (l :: r) (s :: σ') = writeBack (pt σ l (s.rn ρ)) ρ r σ' := rfl
theorem lazy_bring {x x' : Option (AV × Store)} (h : x = x') : bring σ F slot k x = bring σ F slot k x' := by rw [h]
theorem lazy_place {x x' : Option (AV × Store)} (h : x = x') : place σ slot k x = place σ slot k x' := by rw [h]
end
/-! The same, with what is to be decided asked of omega. -/
section
theorem wA {n : Int} (h : -9223372036854775808 ≤ n := by first | omega | (simp only [IntKind.wrap_i64, List.length_append, List.length_cons, List.length_nil, List.length_drop, List.length_take]; omega))
    (h' : n ≤ 9223372036854775807 := by first | omega | (simp only [IntKind.wrap_i64, List.length_append, List.length_cons, List.length_nil, List.length_drop, List.length_take]; omega)) : IntKind.i64.wrap n = n := by
  rw [IntKind.wrap_i64]; omega
variable {α : Type} {c : Prop} {x : Option α}
theorem cA (h : c := by first | omega | (simp only [IntKind.wrap_i64, List.length_append, List.length_cons, List.length_nil, List.length_drop, List.length_take]; omega)) : chk c x = x := chk_yes h
variable {R : Run} {base M : Nat} {t : Tm} {σ : Store} {r : List AOp} {p : Prop} [Decidable p]
theorem sY {a b : Cd} (h : p := by first | omega | (simp only [IntKind.wrap_i64, List.length_append, List.length_cons, List.length_nil, List.length_drop, List.length_take]; omega)) : sel R M a b t σ (.bool (decide p)) = X R M a ⟨t, σ⟩ := sel_yes h
theorem sN {a b : Cd} (h : ¬ p := by first | omega | (simp only [IntKind.wrap_i64, List.length_append, List.length_cons, List.length_nil, List.length_drop, List.length_take]; omega)) : sel R M a b t σ (.bool (decide p)) = X R M b ⟨t, σ⟩ := sel_no h
theorem gY {w : Bool} {o : AOp} (h : p := by first | omega | (simp only [IntKind.wrap_i64, List.length_append, List.length_cons, List.length_nil, List.length_drop, List.length_take]; omega)) : gd R base w o r t σ (.bool (decide p)) = gd R base w o r t σ (.bool true) := gd_yes h
theorem gN {w : Bool} {o : AOp} (h : ¬ p := by first | omega | (simp only [IntKind.wrap_i64, List.length_append, List.length_cons, List.length_nil, List.length_drop, List.length_take]; omega)) : gd R base w o r t σ (.bool (decide p)) = gd R base w o r t σ (.bool false) := gd_no h
variable {acc : List (List Nat)}
theorem aY {w : Bool} {o : AOp} (h : p := by first | omega | (simp only [IntKind.wrap_i64, List.length_append, List.length_cons, List.length_nil, List.length_drop, List.length_take]; omega)) : gdA R base w o r t σ acc (.bool (decide p)) = gdA R base w o r t σ acc (.bool true) := gdA_yes h
theorem aN {w : Bool} {o : AOp} (h : ¬ p := by first | omega | (simp only [IntKind.wrap_i64, List.length_append, List.length_cons, List.length_nil, List.length_drop, List.length_take]; omega)) : gdA R base w o r t σ acc (.bool (decide p)) = gdA R base w o r t σ acc (.bool false) := gdA_no h
variable {b : Bool} {x y : AV}
theorem pY (h : p := by first | omega | (simp only [IntKind.wrap_i64, List.length_append, List.length_cons, List.length_nil, List.length_drop, List.length_take]; omega)) : pk (decide p) x y = x := pk_yes h
theorem pN (h : ¬ p := by first | omega | (simp only [IntKind.wrap_i64, List.length_append, List.length_cons, List.length_nil, List.length_drop, List.length_take]; omega)) : pk (decide p) x y = y := pk_no h
theorem oY (h : p := by first | omega | (simp only [IntKind.wrap_i64, List.length_append, List.length_cons, List.length_nil, List.length_drop, List.length_take]; omega)) : (decide p || b) = true := or_yes h
theorem oN (h : ¬ p := by first | omega | (simp only [IntKind.wrap_i64, List.length_append, List.length_cons, List.length_nil, List.length_drop, List.length_take]; omega)) : (decide p || b) = b := or_no h
theorem nY (h : p := by first | omega | (simp only [IntKind.wrap_i64, List.length_append, List.length_cons, List.length_nil, List.length_drop, List.length_take]; omega)) : (decide p && b) = b := and_yes h
theorem nN (h : ¬ p := by first | omega | (simp only [IntKind.wrap_i64, List.length_append, List.length_cons, List.length_nil, List.length_drop, List.length_take]; omega)) : (decide p && b) = false := and_no h
variable {m n : Nat}
theorem mA (h : n ≤ m := by first | omega | (simp only [IntKind.wrap_i64, List.length_append, List.length_cons, List.length_nil, List.length_drop, List.length_take]; omega)) : (m : Int) - (n : Int) = ((m - n : Nat) : Int) := nn_sub _ _ h
theorem mB (h : OfNat.ofNat n ≤ m := by first | omega | (simp only [IntKind.wrap_i64, List.length_append, List.length_cons, List.length_nil, List.length_drop, List.length_take]; omega)) : (m : Int) - (OfNat.ofNat n : Int) = ((m - OfNat.ofNat n : Nat) : Int) := nn_subl _ _ h
theorem mC (h : m ≤ OfNat.ofNat n := by first | omega | (simp only [IntKind.wrap_i64, List.length_append, List.length_cons, List.length_nil, List.length_drop, List.length_take]; omega)) : (OfNat.ofNat n : Int) - (m : Int) = ((OfNat.ofNat n - m : Nat) : Int) := nn_subr _ _ h
end
theorem not_dec {p : Prop} [Decidable p] : (!decide p) = decide (¬ p) := by simp
theorem wN {m : Nat} (h : m ≤ 9223372036854775807 := by first | omega | (simp only [List.length_append, List.length_cons, List.length_nil, List.length_drop, List.length_take]; omega)) : IntKind.i64.wrap (m : Int) = (m : Int) := by
  rw [IntKind.wrap_i64]; omega
section
variable {base slot n l off : Nat} {σ : Store}
def strO (σ : Store) : Option (List UInt8) → Option (AV × Store)
  | some s => some (.str s, σ)
  | none => none
theorem strO_some {s : List UInt8} : strO σ (some s) = some (.str s, σ) := rfl
theorem lazy_strO {x x' : Option (List UInt8)} (h : x = x') : strO σ x = strO σ x' := by rw [h]
noncomputable def str1 (σ : Store) (off n : Nat) : Sl → Option (AV × Store)
  | .live b => chk (off + n ≤ b.cells.length) (strO σ (bytesOf ((b.cells.drop off).take n)))
  | _ => none
theorem str1_live {b : Blk} : str1 σ off n (.live b) = chk (off + n ≤ b.cells.length) (strO σ (bytesOf ((b.cells.drop off).take n))) := rfl
theorem m_stringSl : mrun base slot .string [.sl l off n] σ = str1 σ off n (gt σ l) := by
  simp only [mrun, mft, AV.slice3, gts]
  cases h : gt σ l with
  | free => simp [msem, str1]
  | dead => simp [msem, str1]
  | live b =>
    simp only [msem, cellsOf, AV.slice3, Nat.mul_one, str1]
    rw [← chk_ite]
    by_cases hc : off + n ≤ b.cells.length
    · rw [if_pos hc, if_pos hc]
      simp only
      cases bytesOf ((b.cells.drop off).take n) <;> simp [strO, MOp.wr, putNew]
    · rw [if_neg hc, if_neg hc]
theorem m_stringRow : mrun base slot .string [.row l n] σ = str1 σ 0 n (gt σ l) := by
  rw [← m_stringSl (base := base) (slot := slot)]
  simp only [mrun, mft, AV.slice3, gts]
  cases h : gt σ l with
  | free => simp [msem]
  | dead => simp [msem]
  | live b => simp only [msem, cellsOf, AV.slice3]
theorem bytes_nil : bytesOf [] = some [] := rfl
def byC (n : Int) : Option (List UInt8) → Option (List UInt8)
  | some s => some (UInt8.ofNat n.toNat :: s)
  | none => none
theorem bytes_cons {n : Int} {r : List AV} : bytesOf (.int .u8 n :: r) = byC n (bytesOf r) := by
  simp only [bytesOf]
  cases bytesOf r <;> rfl
theorem byC_some {n : Int} {s : List UInt8} : byC n (some s) = some (UInt8.ofNat n.toNat :: s) := rfl
theorem wU {m : Nat} (h : m ≤ 255 := by omega) : IntKind.u8.wrap (m : Int) = (m : Int) := by
  rw [IntKind.wrap_u8]; omega
end
section
variable {σ : Store} {m : Nat} {vs : List AV} {F : List Nat}
def nrmM (m : Nat) (vs : List AV) (σ : Store) : Option (List Nat) → Option (List AV × Store)
  | none => none
  | some F => if prefixB (rangeN 0 m) F then some (AV.rnL (idx F) vs, view σ F F) else none
theorem norm_pos : norm (m + 1) vs σ = nrmM (m + 1) vs σ (partF σ (rangeN 0 (m + 1) ++ AV.locsL vs)) := by
  simp only [norm, nrmM]
  cases partF σ (rangeN 0 (m + 1) ++ AV.locsL vs) <;> rfl
theorem nrmM_some : nrmM m vs σ (some F) = if prefixB (rangeN 0 m) F = true then some (AV.rnL (idx F) vs, view σ F F) else none := rfl
theorem lazy_nrmM {x x' : Option (List Nat)} (h : x = x') : nrmM m vs σ x = nrmM m vs σ x' := by rw [h]
theorem prefix_nil : prefixB [] F = true := by cases F <;> rfl
theorem prefix_cons {a b : Nat} {l : List Nat} : prefixB (a :: l) (b :: F) = (decide (a = b) && prefixB l F) := rfl
end
theorem boxed_len {σ : Store} {l : Nat} {cs : List AV} (h : 0 < cs.length) : boxed σ l cs = withV (.ptr l 0) (pn σ l ⟨.box, flatB cs, cs⟩) := by
  cases cs with
  | nil => simp at h
  | cons c cs => rfl
theorem dec_yes {p : Prop} [Decidable p] (h : p) : decide p = true := decide_eq_true h
theorem dec_no {p : Prop} [Decidable p] (h : ¬ p) : decide p = false := decide_eq_false h
end Go.AX
/-! More of the evaluator's equations: slices of rows appended, slices that are nil. -/
namespace Go.AX
section
variable {σ : Store} {base slot : Nat}
/-- A row grown by the cells of a slice. -/
noncomputable def apS (σ : Store) (s e sz bs l n off m : Nat) (ne : Bool) : Sl → Sl → Option (AV × Store)
  | .live b, .live c => chk (off + m * sz ≤ c.cells.length ∧ b.kind = .row e sz ∧ b.cells.length = n * sz ∧ ne = true ∧ ((c.cells.drop off).take (m * sz)).all AV.one = true ∧ n + m ≤ 9223372036854775807 ∧ (n + m) * bs ≤ 140737488355328)
      (withV (.row s (n + m)) (pn (pt σ l .dead) s ⟨.row e sz, b.flat && flatB ((c.cells.drop off).take (m * sz)), b.cells ++ (c.cells.drop off).take (m * sz)⟩))
  | _, _ => none
theorem apS_live {s e sz bs l n off m : Nat} {ne : Bool} {k k' : BK} {f f' : Bool} {cs cs' : List AV} : apS σ s e sz bs l n off m ne (.live ⟨k, f, cs⟩) (.live ⟨k', f', cs'⟩) =
    chk (off + m * sz ≤ cs'.length ∧ k = .row e sz ∧ cs.length = n * sz ∧ ne = true ∧ ((cs'.drop off).take (m * sz)).all AV.one = true ∧ n + m ≤ 9223372036854775807 ∧ (n + m) * bs ≤ 140737488355328)
      (withV (.row s (n + m)) (pn (pt σ l .dead) s ⟨.row e sz, f && flatB ((cs'.drop off).take (m * sz)), cs ++ (cs'.drop off).take (m * sz)⟩)) := rfl
theorem m_appendS {e sz bs l n l' off m : Nat} : mrun base slot (.append e sz bs) [.row l n, .sl l' off m] σ = apS σ (base + slot) e sz bs l n off m (decide (l ≠ l')) (gt σ l) (gt σ l') := by
  simp only [mrun, mft, AV.slice3, List.cons_append, List.nil_append, gts]
  cases h : gt σ l with
  | free => simp [msem, apS]
  | dead => simp [msem, apS]
  | live b =>
    cases h' : gt σ l' with
    | free => simp [msem, apS]
    | dead => simp [msem, apS]
    | live c =>
      simp only [msem, cellsOf, AV.slice3, apS]
      rw [← chk_ite]
      by_cases hm : off + m * sz ≤ c.cells.length
      · rw [if_pos hm]
        simp only [hm, true_and]
        by_cases hc : b.kind = .row e sz ∧ b.cells.length = n * sz ∧ l ≠ l' ∧ ((c.cells.drop off).take (m * sz)).all AV.one ∧ n + m ≤ 9223372036854775807 ∧ (n + m) * bs ≤ 140737488355328
        · have hne : l ≠ l' := hc.2.2.1
          have hc' : b.kind = .row e sz ∧ b.cells.length = n * sz ∧ decide (l ≠ l') = true ∧ ((c.cells.drop off).take (m * sz)).all AV.one ∧ n + m ≤ 9223372036854775807 ∧ (n + m) * bs ≤ 140737488355328 := by simpa using hc
          rw [if_pos hc, if_pos hc']
          have hpt : pt (pt σ l .dead) l' (.live c) = pt σ l .dead := pt_self (by rw [gt_pt _ _ _ _ (gt_lt (by rw [h]; simp)), if_neg (Ne.symm hne)]; exact h')
          simp only [MOp.wr, if_true, pts, hpt, pn_eq]
          cases pn (pt σ l .dead) (base + slot) _ <;> rfl
        · have hc' : ¬ (b.kind = .row e sz ∧ b.cells.length = n * sz ∧ decide (l ≠ l') = true ∧ ((c.cells.drop off).take (m * sz)).all AV.one ∧ n + m ≤ 9223372036854775807 ∧ (n + m) * bs ≤ 140737488355328) := by simpa using hc
          rw [if_neg hc, if_neg hc']
      · rw [if_neg hm]
        simp [hm]
noncomputable def ap0S (σ : Store) (s e sz bs off m : Nat) : Sl → Option (AV × Store)
  | .live c => chk (off + m * sz ≤ c.cells.length ∧ 0 < m ∧ ((c.cells.drop off).take (m * sz)).all AV.one = true ∧ m ≤ 9223372036854775807 ∧ m * bs ≤ 140737488355328)
      (withV (.row s m) (pn σ s ⟨.row e sz, flatB ((c.cells.drop off).take (m * sz)), (c.cells.drop off).take (m * sz)⟩))
  | _ => none
theorem ap0S_live {s e sz bs off m : Nat} {k' : BK} {f' : Bool} {cs' : List AV} : ap0S σ s e sz bs off m (.live ⟨k', f', cs'⟩) =
    chk (off + m * sz ≤ cs'.length ∧ 0 < m ∧ ((cs'.drop off).take (m * sz)).all AV.one = true ∧ m ≤ 9223372036854775807 ∧ m * bs ≤ 140737488355328)
      (withV (.row s m) (pn σ s ⟨.row e sz, flatB ((cs'.drop off).take (m * sz)), (cs'.drop off).take (m * sz)⟩)) := rfl
theorem m_append0S {e sz bs l' off m : Nat} : mrun base slot (.append e sz bs) [.nilsl, .sl l' off m] σ = ap0S σ (base + slot) e sz bs off m (gt σ l') := by
  simp only [mrun, mft, AV.slice3, List.nil_append, gts]
  cases h' : gt σ l' with
  | free => simp [msem, AV.slice3, ap0S]
  | dead => simp [msem, AV.slice3, ap0S]
  | live c =>
    simp only [msem, cellsOf, AV.slice3, ap0S]
    rw [← chk_ite]
    by_cases hm : off + m * sz ≤ c.cells.length
    · rw [if_pos hm]
      simp only [hm, true_and]
      by_cases hc : 0 < m ∧ ((c.cells.drop off).take (m * sz)).all AV.one ∧ m ≤ 9223372036854775807 ∧ m * bs ≤ 140737488355328
      · rw [if_pos hc, if_pos hc]
        simp only [MOp.wr, if_true, pts, pt_self h', pn_eq]
        cases pn σ (base + slot) _ <;> rfl
      · rw [if_neg hc, if_neg hc]
    · rw [if_neg hm]
      simp [hm]
noncomputable def apN (σ : Store) (e sz l n : Nat) : Sl → Option (AV × Store)
  | .live b => chk (b.kind = .row e sz ∧ b.cells.length = n * sz) (some (.row l n, σ))
  | _ => none
theorem apN_live {e sz l n : Nat} {k : BK} {f : Bool} {cs : List AV} : apN σ e sz l n (.live ⟨k, f, cs⟩) = chk (k = .row e sz ∧ cs.length = n * sz) (some (.row l n, σ)) := rfl
theorem m_appendN {e sz bs l n : Nat} : mrun base slot (.append e sz bs) [.row l n, .nilsl] σ = apN σ e sz l n (gt σ l) := by
  simp only [mrun, mft, AV.slice3, List.append_nil, gts]
  cases h : gt σ l with
  | free => simp [msem, apN]
  | dead => simp [msem, apN]
  | live b =>
    simp only [msem, apN]
    rw [← chk_ite]
    by_cases hc : b.kind = .row e sz ∧ b.cells.length = n * sz
    · rw [if_pos hc, if_pos hc]
      simp only [MOp.wr, if_true, pts, pt_self h, putNew]
    · rw [if_neg hc, if_neg hc]
theorem f_appendS {l e sz bs p n q off m : Nat} : mfoot l [.row p n, .sl q off m] (.append e sz bs) = [l, p, q] := rfl
theorem f_append0 {l e sz bs q m : Nat} : mfoot l [.nilsl, .row q m] (.append e sz bs) = [l, q] := rfl
theorem f_append0S {l e sz bs q off m : Nat} : mfoot l [.nilsl, .sl q off m] (.append e sz bs) = [l, q] := rfl
theorem f_appendN {l e sz bs p n : Nat} : mfoot l [.row p n, .nilsl] (.append e sz bs) = [l, p] := rfl
end
section
variable {sz : Nat} {k k' : IntKind} {a b : Int}
theorem q_sliceNil : psem (.sliceSl sz false false) [.nilsl] = some .nilsl := by simp [psem, AV.slice3, loHi, bound]
theorem q_sliceNilL : psem (.sliceSl sz true false) [.nilsl, .int k a] = chk (a = 0) (some .nilsl) := by
  rw [← chk_ite]
  simp only [psem, AV.slice3, loHi, bound]
  by_cases h : a = 0
  · subst h; simp
  · by_cases h' : 0 ≤ a
    · rw [if_pos h', if_neg h, if_neg (by simp; omega)]
    · rw [if_neg h', if_neg h, if_neg (by simp)]
theorem q_sliceNilH : psem (.sliceSl sz false true) [.nilsl, .int k a] = chk (a = 0) (some .nilsl) := by
  rw [← chk_ite]
  simp only [psem, AV.slice3, loHi, bound]
  by_cases h : a = 0
  · subst h; simp
  · by_cases h' : 0 ≤ a
    · rw [if_pos h', if_neg h, if_neg (by simp; omega)]
    · rw [if_neg h', if_neg h, if_neg (by simp)]
end
end Go.AX
namespace Go.AX
open Go.ChangeShapes Go.WideShapes Go.RowKit

section
variable {H : Type} {enc : TypeId × Value → H} {P : Program}

/-- A cell of a plain kind. -/
def okC : LK → Value → Prop
  | .bool, v => ∃ b, v = .bool b
  | .int k, v => ∃ n, v = .int k n ∧ (Lit.int k n).wf = true
  | .str, v => ∃ s : ByteArray, v = .string s ∧ s.size ≤ maxLen
def okCs : List LK → List Value → Prop
  | [], cs => cs = []
  | k :: ks, cs => ∃ c r, cs = c :: r ∧ okC k c ∧ okCs ks r
theorem okCs_append : ∀ {ks ls : List LK} {cs ds : List Value}, okCs ks cs → okCs ls ds → okCs (ks ++ ls) (cs ++ ds)
  | [], ls, cs, ds, h, h' => by
    simp only [okCs] at h
    subst h
    exact h'
  | k :: ks, ls, cs, ds, h, h' => by
    obtain ⟨c, r, rfl, h1, h2⟩ := h
    exact ⟨c, r ++ ds, rfl, h1, okCs_append h2 h'⟩
theorem okCs_length : ∀ {ks : List LK} {cs : List Value}, okCs ks cs → cs.length = ks.length
  | [], cs, h => by simp only [okCs] at h; simp [h]
  | k :: ks, cs, h => by
    obtain ⟨c, r, rfl, _, h2⟩ := h
    simp [okCs_length h2]

/-- The kinds of a plain type's cells, in order. -/
def shpF (P : Program) (g : TypeId → Option (List LK)) : List Field → Nat → Option (List LK)
  | [], _ => some []
  | f :: r, off => match g f.type with
    | some ls => if f.offset = off ∧ P.cellsOf f.type = ls.length then (match shpF P g r (off + ls.length) with | some l => some (ls ++ l) | none => none) else none
    | none => none
def repL (ls : List LK) : Nat → List LK
  | 0 => []
  | n + 1 => ls ++ repL ls n
def shp (P : Program) : Nat → TypeId → Option (List LK)
  | 0, _ => none
  | d + 1, t => match P.underlying t with
    | some .bool => some [.bool]
    | some (.int k) => some [.int k]
    | some .string => some [.str]
    | some (.struct fs) => match shpF P (shp P d) fs.toList 0 with
      | some ls => if P.cellsOf t = ls.length then some ls else none
      | none => none
    | some (.array n e) => match shp P d e with
      | some ls => if P.cellsOf e = ls.length ∧ P.cellsOf t = n * ls.length then some (repL ls n) else none
      | none => none
    | _ => none
theorem repL_length (ls : List LK) (n : Nat) : (repL ls n).length = n * ls.length := by
  induction n with
  | zero => simp [repL]
  | succ n ih => simp [repL, ih, Nat.add_mul]; omega

/-- What is told of a plain type's cells. -/
def PlainT (enc : TypeId × Value → H) (P : Program) (t : TypeId) (ls : List LK) : Prop :=
  ∀ (w : World) (base : Nat) (sp : Nat → Bool) (held : Bool) (fuel : Nat) (cs : List Value) (x : DataW H × List MemPlace), DataW.trod enc P w base sp held fuel t cs = some x →
    okCs ls cs ∧ x.2 = [] ∧ ∀ w' base' sp' held', DataW.trod enc P w' base' sp' held' fuel t cs = some x

theorem plain_fields {g : TypeId → Option (List LK)} (hg : ∀ t ls, g t = some ls → PlainT enc P t ls) (w : World) (base : Nat) (sp : Nat → Bool) (held : Bool) (fuel : Nat) (cs : List Value) : ∀ (fs : List Field) (off : Nat) (ls : List LK) (xs : List (DataW H × List MemPlace)), shpF P g fs off = some ls → cs.length = off + ls.length →
    (fs.mapM fun f => DataW.trod enc P w base sp held fuel f.type ((cs.drop f.offset).take (P.cellsOf f.type))) = some xs →
    okCs ls (cs.drop off) ∧ xs.flatMap (·.2) = [] ∧ ∀ w' base' sp' held', (fs.mapM fun f => DataW.trod enc P w' base' sp' held' fuel f.type ((cs.drop f.offset).take (P.cellsOf f.type))) = some xs
  | [], off, ls, xs, hs, hl, h => by
    simp only [shpF, Option.some.injEq] at hs
    subst hs
    simp only [List.mapM_nil, Option.pure_def, Option.some.injEq] at h
    subst h
    simp only [List.length_nil, Nat.add_zero] at hl
    exact ⟨by simp [okCs, hl], rfl, fun _ _ _ _ => rfl⟩
  | f :: fs, off, ls, xs, hs, hl, h => by
    simp only [shpF] at hs
    split at hs <;> try (simp at hs; done)
    rename_i l1 h1
    split at hs <;> try (simp at hs; done)
    rename_i hc
    split at hs <;> simp only [reduceCtorEq, Option.some.injEq] at hs
    rename_i l2 h2
    subst hs
    obtain ⟨hc1, hc2⟩ := hc
    simp only [List.mapM_cons, Option.bind_eq_bind, Option.pure_def] at h
    cases hx : DataW.trod enc P w base sp held fuel f.type ((cs.drop f.offset).take (P.cellsOf f.type)) with
    | none => simp [hx] at h
    | some x =>
      simp only [hx, Option.bind_some] at h
      cases hr : (fs.mapM fun f => DataW.trod enc P w base sp held fuel f.type ((cs.drop f.offset).take (P.cellsOf f.type))) with
      | none => simp [hr] at h
      | some r =>
        simp only [hr, Option.bind_some, Option.some.injEq] at h
        subst h
        obtain ⟨a1, a2, a3⟩ := hg _ _ h1 w base sp held fuel _ _ hx
        obtain ⟨b1, b2, b3⟩ := plain_fields hg w base sp held fuel cs fs (off + l1.length) l2 r h2 (by rw [hl, List.length_append]; omega) hr
        refine ⟨?_, by simp [a2, b2], fun w' base' sp' held' => ?_⟩
        · have e : cs.drop off = (cs.drop off).take l1.length ++ cs.drop (off + l1.length) := by
            rw [← List.drop_drop, List.take_append_drop]
          rw [e]
          rw [hc1, hc2] at a1
          exact okCs_append a1 b1
        · simp only [List.mapM_cons, Option.bind_eq_bind, Option.pure_def, a3 w' base' sp' held', b3 w' base' sp' held', Option.bind_some]

theorem plain_range {e : TypeId} {ls : List LK} (hg : PlainT enc P e ls) (w : World) (base : Nat) (sp : Nat → Bool) (held : Bool) (fuel : Nat) (cs : List Value) (hsz : P.cellsOf e = ls.length) : ∀ (k i : Nat) (xs : List (DataW H × List MemPlace)), cs.length = (i + k) * ls.length →
    ((List.range' i k).mapM fun i => DataW.trod enc P w base sp held fuel e ((cs.drop (i * P.cellsOf e)).take (P.cellsOf e))) = some xs →
    okCs (repL ls k) (cs.drop (i * ls.length)) ∧ xs.flatMap (·.2) = [] ∧ ∀ w' base' sp' held', ((List.range' i k).mapM fun i => DataW.trod enc P w' base' sp' held' fuel e ((cs.drop (i * P.cellsOf e)).take (P.cellsOf e))) = some xs
  | 0, i, xs, hl, h => by
    simp only [List.range'_zero, List.mapM_nil, Option.pure_def, Option.some.injEq] at h
    subst h
    simp only [Nat.add_zero] at hl
    exact ⟨by simp [okCs, repL, hl], rfl, fun _ _ _ _ => rfl⟩
  | k + 1, i, xs, hl, h => by
    simp only [List.range'_succ, List.mapM_cons, Option.bind_eq_bind, Option.pure_def] at h
    cases hx : DataW.trod enc P w base sp held fuel e ((cs.drop (i * P.cellsOf e)).take (P.cellsOf e)) with
    | none => simp [hx] at h
    | some x =>
      simp only [hx, Option.bind_some] at h
      cases hr : ((List.range' (i + 1) k).mapM fun i => DataW.trod enc P w base sp held fuel e ((cs.drop (i * P.cellsOf e)).take (P.cellsOf e))) with
      | none => simp [hr] at h
      | some r =>
        simp only [hr, Option.bind_some, Option.some.injEq] at h
        subst h
        obtain ⟨a1, a2, a3⟩ := hg w base sp held fuel _ _ hx
        obtain ⟨b1, b2, b3⟩ := plain_range hg w base sp held fuel cs hsz k (i + 1) r (by rw [hl]; congr 1; omega) hr
        refine ⟨?_, by simp [a2, b2], fun w' base' sp' held' => ?_⟩
        · have e : cs.drop (i * ls.length) = (cs.drop (i * ls.length)).take ls.length ++ cs.drop ((i + 1) * ls.length) := by
            have : (i + 1) * ls.length = i * ls.length + ls.length := by rw [Nat.add_mul, Nat.one_mul]
            rw [this, ← List.drop_drop, List.take_append_drop]
          rw [e]
          rw [hsz] at a1
          exact okCs_append a1 b1
        · simp only [List.range'_succ, List.mapM_cons, Option.bind_eq_bind, Option.pure_def, a3 w' base' sp' held', b3 w' base' sp' held', Option.bind_some]

theorem plain_trod : ∀ (d : Nat) (t : TypeId) (ls : List LK), shp P d t = some ls → PlainT enc P t ls
  | 0, t, ls, hs => by simp [shp] at hs
  | d + 1, t, ls, hs => by
    intro w base sp held fuel cs x h
    cases fuel with
    | zero => simp [DataW.trod] at h
    | succ fuel =>
      simp only [shp] at hs
      split at hs <;> try (simp at hs; done)
      · rename_i ht
        simp only [Option.some.injEq] at hs
        subst hs
        simp only [DataW.trod, ht] at h ⊢
        split at h <;> simp_all [okCs, okC]
        obtain rfl := h
        rfl
      · rename_i k ht
        simp only [Option.some.injEq] at hs
        subst hs
        obtain ⟨n, rfl, rfl, hw⟩ := DataW.trod_int ht h
        exact ⟨by simp [okCs, okC, hw], rfl, fun w' base' sp' held' => by simp [DataW.trod, ht, hw]⟩
      · rename_i ht
        simp only [Option.some.injEq] at hs
        subst hs
        obtain ⟨s, rfl, rfl, hw⟩ := DataW.trod_string ht h
        exact ⟨by simp [okCs, okC, hw], rfl, fun w' base' sp' held' => by simp [DataW.trod, ht, hw]⟩
      · rename_i fs ht
        split at hs <;> try (simp at hs; done)
        rename_i l hl
        split at hs <;> simp only [reduceCtorEq, Option.some.injEq] at hs
        rename_i hc
        subst hs
        simp only [DataW.trod, ht] at h ⊢
        split at h <;> try (simp at h; done)
        rename_i hlen
        simp only [Option.map_eq_some_iff] at h
        obtain ⟨xs, hxs, rfl⟩ := h
        obtain ⟨a1, a2, a3⟩ := plain_fields (fun t ls h => plain_trod d t ls h) w base sp held fuel cs fs.toList 0 l xs hl (by omega) hxs
        refine ⟨by simpa using a1, a2, fun w' base' sp' held' => ?_⟩
        rw [if_pos hlen, a3 w' base' sp' held']
        rfl
      · rename_i n e ht
        split at hs <;> try (simp at hs; done)
        rename_i l hl
        split at hs <;> simp only [reduceCtorEq, Option.some.injEq] at hs
        rename_i hc
        subst hs
        simp only [DataW.trod, ht] at h ⊢
        split at h <;> try (simp at h; done)
        rename_i hlen
        simp only [Option.map_eq_some_iff] at h
        obtain ⟨xs, hxs, rfl⟩ := h
        rw [List.range_eq_range'] at hxs
        obtain ⟨a1, a2, a3⟩ := plain_range (plain_trod d e l hl) w base sp held fuel cs hc.1 n 0 xs (by rw [Nat.zero_add]; omega) hxs
        refine ⟨by simpa using a1, a2, fun w' base' sp' held' => ?_⟩
        rw [if_pos hlen, List.range_eq_range', a3 w' base' sp' held']
        rfl

/-- The abstract cells of plain kinds. -/
def tyd : List LK → List AV → Prop
  | [], as => as = []
  | .bool :: ks, as => ∃ b r, as = .bool b :: r ∧ tyd ks r
  | .int k :: ks, as => ∃ n r, as = .int k n :: r ∧ (Lit.int k n).wf = true ∧ tyd ks r
  | .str :: ks, as => ∃ s r, as = .str s :: r ∧ s.length ≤ maxLen ∧ tyd ks r
theorem tyd_locs : ∀ {ks : List LK} {as : List AV}, tyd ks as → AV.locsL as = []
  | [], as, h => by simp only [tyd] at h; subst h; rfl
  | .bool :: ks, as, h => by
    obtain ⟨b, r, rfl, h⟩ := h
    simp [AV.locsL, AV.locs, tyd_locs h]
  | .int k :: ks, as, h => by
    obtain ⟨b, r, rfl, _, h⟩ := h
    simp [AV.locsL, AV.locs, tyd_locs h]
  | .str :: ks, as, h => by
    obtain ⟨b, r, rfl, _, h⟩ := h
    simp [AV.locsL, AV.locs, tyd_locs h]
theorem okCs_tyd {β : Nat → Loc} : ∀ {ks : List LK} {cs : List Value}, okCs ks cs → ∃ as, tyd ks as ∧ DenL β as cs
  | [], cs, h => by simp only [okCs] at h; subst h; exact ⟨[], rfl, rfl⟩
  | k :: ks, cs, h => by
    obtain ⟨c, r, rfl, h1, h2⟩ := h
    obtain ⟨as, t, d⟩ := okCs_tyd (β := β) h2
    cases k with
    | bool =>
      obtain ⟨b, rfl⟩ := h1
      exact ⟨.bool b :: as, ⟨b, as, rfl, t⟩, DenL_cons rfl d⟩
    | int k =>
      obtain ⟨n, rfl, hw⟩ := h1
      exact ⟨.int k n :: as, ⟨n, as, rfl, hw, t⟩, DenL_cons rfl d⟩
    | str =>
      obtain ⟨s, rfl, hw⟩ := h1
      refine ⟨.str s.data.toList :: as, ⟨_, as, rfl, by simpa using hw, t⟩, DenL_cons ?_ d⟩
      simp only [Den]

/-- A value of a plain type: alone, or as an aggregate. -/
def avOf (P : Program) (t : TypeId) (as : List AV) (a : AV) : Prop :=
  match P.underlying t with
  | some (.struct _) | some (.array _ _) => a = .agg as
  | _ => as = [a]
theorem avOf_locs {t : TypeId} {as : List AV} {a : AV} (h : avOf P t as a) (hl : AV.locsL as = []) : a.locs = [] := by
  unfold avOf at h
  split at h
  · subst h; simpa [AV.locs] using hl
  · subst h; simpa [AV.locs] using hl
  · subst h; simpa [AV.locsL] using hl

theorem plain_arg {β : Nat → Loc} {w : World} {b0 : Nat} {t : TypeId} {v : Value} {ls : List LK} {x : DataW H × List MemPlace} {sp : Nat → Bool} {base fuel : Nat} {held : Bool} {d : Nat} (hs : shp P d t = some ls) (hv : Value.okWide P w .any b0 t v) (h : DataW.trod enc P w base sp held fuel t v.cells.toList = some x) :
    ∃ as a, tyd ls as ∧ avOf P t as a ∧ Den β a v := by
  obtain ⟨h1, _, _⟩ := plain_trod d t ls hs w base sp held fuel _ _ h
  obtain ⟨as, ht, hd⟩ := okCs_tyd (β := β) h1
  unfold Value.okWide at hv
  unfold avOf
  split at hv
  · rename_i fs hu
    obtain ⟨cs, rfl, _⟩ := hv
    rw [hu]
    exact ⟨as, .agg as, ht, rfl, ⟨cs.toList, by simp, by simpa [Value.cells] using hd⟩⟩
  · rename_i n e hu
    obtain ⟨cs, rfl, _⟩ := hv
    rw [hu]
    exact ⟨as, .agg as, ht, rfl, ⟨cs.toList, by simp, by simpa [Value.cells] using hd⟩⟩
  · rename_i hne1 hne2
    have hag : v.cells.toList = [v] ∧ ∀ fs n e, P.underlying t ≠ some (.struct fs) ∧ P.underlying t ≠ some (.array n e) := by
      cases d with
      | zero => simp [shp] at hs
      | succ d =>
        simp only [shp] at hs
        split at hs <;> try (simp at hs; done)
        · rename_i hu
          obtain ⟨b, rfl⟩ := okWide_bool hu (show Value.okWide P w .any b0 t v by unfold Value.okWide; rw [hu]; simpa [hu] using hv)
          exact ⟨rfl, by simp [hu]⟩
        · rename_i k hu
          obtain ⟨b, rfl⟩ := okWide_int hu (show Value.okWide P w .any b0 t v by unfold Value.okWide; rw [hu]; simpa [hu] using hv)
          exact ⟨rfl, by simp [hu]⟩
        · rename_i hu
          obtain ⟨b, rfl⟩ := okWide_string hu (show Value.okWide P w .any b0 t v by unfold Value.okWide; rw [hu]; simpa [hu] using hv)
          exact ⟨rfl, by simp [hu]⟩
        · rename_i fs hu
          exact absurd hu (hne1 fs)
        · rename_i n e hu
          exact absurd hu (hne2 n e)
    rw [hag.1] at hd
    match as, hd with
    | [], hd => simp [DenL] at hd
    | [a], hd =>
      obtain ⟨u, us, e, h2, _⟩ := hd
      obtain ⟨rfl, rfl⟩ := List.cons.inj e
      refine ⟨[a], a, ht, ?_, h2⟩
      split
      · rename_i fs hu; exact absurd hu (hag.2 fs 0 0).1
      · rename_i n e hu; exact absurd hu (hag.2 #[] n e).2
      · rfl
    | a :: a' :: r, hd =>
      obtain ⟨u, us, e, _, h2⟩ := hd
      obtain ⟨rfl, rfl⟩ := List.cons.inj e
      simp [DenL] at h2

/-- Arguments of plain types. -/
def argsOk (P : Program) : List TypeId → List AV → Prop
  | [], as => as = []
  | t :: ts, as => ∃ ls cells a r, shp P 8 t = some ls ∧ tyd ls cells ∧ avOf P t cells a ∧ as = a :: r ∧ argsOk P ts r
theorem argsOk_locs : ∀ {ts : List TypeId} {as : List AV}, argsOk P ts as → AV.locsL as = []
  | [], as, h => by simp only [argsOk] at h; subst h; rfl
  | t :: ts, as, h => by
    obtain ⟨ls, cells, a, r, _, h2, h3, rfl, h5⟩ := h
    simp [AV.locsL, avOf_locs h3 (tyd_locs h2), argsOk_locs h5]

theorem trodAll_plain {W : World} {sp : Nat → Bool} {b0 base : Nat} {held : Bool} {β : Nat → Loc} : ∀ {ts : List TypeId} {vs : List Value} {ds : List (DataW H)} {ps : List MemPlace}, (∀ t ∈ ts, (shp P 8 t).isSome = true) → (∀ (j : Nat) t v, ts[j]? = some t → vs[j]? = some v → Value.okWide P W .any b0 t v) →
    DataW.TrodAll enc P W base sp held ts vs ds ps → ∃ as, argsOk P ts as ∧ DenL β as vs ∧ ps = [] ∧ ds.length = ts.length ∧ ∀ W' b sp' hd, DataW.TrodAll enc P W' b sp' hd ts vs ds []
  | [], vs, ds, ps, _, _, h => by
    obtain ⟨rfl, rfl, rfl⟩ := trodAll_nil h
    exact ⟨[], rfl, rfl, rfl, rfl, fun _ _ _ _ => rfl⟩
  | t :: ts, vs, ds, ps, hs, hv, h => by
    obtain ⟨v, vs', d, ds', p, q, rfl, rfl, rfl, h1, h2⟩ := trodAll_cons h
    obtain ⟨as, a1, a2, rfl, a4, a5⟩ := trodAll_plain (β := β) (fun t ht => hs t (by simp [ht])) (fun j t v e1 e2 => hv (j + 1) t v (by simpa using e1) (by simpa using e2)) h2
    obtain ⟨ls, hls⟩ := Option.isSome_iff_exists.1 (hs t (by simp))
    obtain ⟨fuel, hf⟩ := h1
    obtain ⟨cells, a, b1, b2, b3⟩ := plain_arg (β := β) hls (hv 0 t v (by simp) (by simp)) hf
    obtain ⟨_, c2, c3⟩ := plain_trod 8 t ls hls W base sp held fuel _ _ hf
    simp only at c2
    subst c2
    exact ⟨a :: as, ⟨ls, cells, a, as, hls, b1, b2, rfl, a1⟩, DenL_cons b3 a2, rfl, by simp [a4], fun W' b sp' hd => ⟨[], [], ⟨fuel, c3 W' b sp' hd⟩, a5 W' b sp' hd, rfl⟩⟩

/-- What was there stands: the law's end. -/
theorem post_kept {f : Func} {s : ChangeSpec} {apart fresh handsOn again : Bool} {W W' : World} {args : Array Value} {v : Value} {ds gs : List (DataW H)} {before pa pv : List MemPlace}
    (hW : DataW.Whole enc P f.params.toList s.vars apart W args.toList ds gs before)
    (hres : ∀ (b : Nat) (sp : Nat → Bool) (hd : Bool), DataW.TrodAll enc P W' b sp hd f.resultTypes.toList (v.resultList f.resultTypes.size) (s.fn H (ds ++ gs)).results [])
    (hargs : ∀ sp : Nat → Bool, (∀ p ∈ before, sp p.block = true) → DataW.TrodAll enc P W' 0 sp true f.params.toList args.toList (s.fn H (ds ++ gs)).args pa)
    (hvars : ∀ sp : Nat → Bool, (∀ p ∈ before, sp p.block = true) → DataW.TrodVars enc P W' sp s.vars (s.fn H (ds ++ gs)).vars pv)
    (hps : before = pa ++ pv) (hk : Below W.heap.size W W')
    (hok : ∀ (j : Nat) (t : TypeId) (r : Value), f.resultTypes[j]? = some t → (v.resultList f.resultTypes.size)[j]? = some r → Value.okWide P W' .any 0 t r) :
    s.post enc P f apart fresh handsOn again W args v W' := by
  have hold : ∀ p ∈ before, (fun b => decide (b < W.heap.size)) p.block = true := fun p hp => by simpa using hW.lt p hp
  have hlt : ∀ p ∈ before, p.block < W.heap.size := fun p hp => by simpa using hold p hp
  refine ⟨ds, gs, before, [], pa, pv, hW, hres _ _ _, hargs _ hold, hvars _ hold, hk.frame _, fun _ => ?_⟩
  obtain ⟨_, _, _, _, _, hz, hn⟩ := hW
  refine ⟨hok, _, _, ([] ++ pa) ++ pv, ⟨[] ++ pa, pv, trodAll_append (hargs _ (fun _ _ => rfl)) (hres _ _ _), hvars _ (fun _ _ => rfl), rfl, ?_, ?_⟩, ?_⟩
  · intro b off hp
    have hp' : MemPlace.cell b off ∈ before := by rw [hps]; simpa using hp
    rw [hk.frozen (p := ⟨b, off, none⟩) (hlt _ hp')]
    exact hz b off hp'
  · intro ha
    have := hn ha
    rw [hps] at this
    simpa using this
  · intro p hp _
    rw [hps]
    simpa using hp

/-- A law over plain arguments that returns true. -/
theorem law_plain {f : Nat} {fn : Func} {s : ChangeSpec} {apart fresh handsOn again : Bool} {W : World} {base : Nat} {args : Array Value} {ds gs : List (DataW H)} {before : List MemPlace} {tb : TypeId} {Γ : Env}
    (hΓ : EnvOk P W Γ) (hm : P.follows .mixedOrders = true) (hres : fn.resultTypes = #[tb]) (htb : P.underlying tb = some .bool) (hvars : s.vars = [])
    (hs : ∀ ds : List (DataW H), ds.length = fn.params.toList.length → s.fn H ds = { results := [.lit (.bool true)], args := ds })
    (hsh : ∀ t ∈ fn.params.toList, (shp P 8 t).isSome = true) (law : ∀ as, argsOk P fn.params.toList as → ∃ n, run Γ n f as [] = some (.bool true, []))
    (hval : ∀ (j : Nat) t v, fn.params[j]? = some t → args[j]? = some v → Value.okWide P W .any base t v)
    (hW : DataW.Whole enc P fn.params.toList s.vars apart W args.toList ds gs before) :
    Calls P f args W fun e W' => ∃ v, e = .returned v ∧ s.post enc P fn apart fresh handsOn again W args v W' := by
  have hW0 := hW
  obtain ⟨p, q, hA, hV, rfl, _, _⟩ := hW
  have hV' : gs = [] ∧ q = [] := by
    rw [hvars] at hV
    cases gs with
    | nil => exact ⟨rfl, by simpa [DataW.TrodVars] using hV⟩
    | cons => simp [DataW.TrodVars] at hV
  obtain ⟨rfl, rfl⟩ := hV'
  obtain ⟨as, a1, a2, rfl, a4, a5⟩ := trodAll_plain (β := fun _ => default) hsh (fun j t v e1 e2 => hval j t v (by simpa using e1) (by simpa using e2)) hA
  obtain ⟨n, hn⟩ := law as a1
  obtain ⟨_, hac⟩ := run_sound hΓ hm n _ _ _ _ _ hn
  have := hac (fun _ => default) W args.toList ⟨Below.refl _ _, fun l b h => by simp [gt] at h, fun l l' b b' k h => by simp [gt] at h⟩ (fun i h => by simp at h) (fun i b h => by simp [gt] at h) a2 (by rw [argsOk_locs a1]; simp)
  rw [Array.toArray_toList] at this
  refine this.mono ?_
  rintro e W' ⟨v, β', rfl, hrel, _, hd, hk, _, _⟩
  have hv : v = .bool true := hd
  subst hv
  have hb : Below W.heap.size W W' := ⟨hk.os, hk.tape, hk.output, hk.size, fun k hk' => hk.block k hk' (by rintro ⟨l, b, h, _⟩; simp [gt] at h)⟩
  have hfn := hs (ds ++ []) (by simpa using a4)
  refine ⟨_, rfl, post_kept (pa := []) (pv := []) hW0 ?_ ?_ ?_ rfl hb ?_⟩
  · intro b sp hd'
    rw [hfn, hres]
    exact ⟨[], [], ⟨1, by simp [DataW.trod, htb, Value.cells]⟩, rfl, rfl⟩
  · intro sp _
    rw [hfn]
    simpa using a5 W' 0 sp true
  · intro sp _
    rw [hfn, hvars]
    exact rfl
  · exact ok_one hres rfl (okWide_bool_mk htb _)
end
end Go.AX
namespace Go.AX
open Go.ChangeShapes Go.WideShapes Go.RowKit

/-- The kinds of an argument's cells: a plain one, or a slice of plain elements. -/
inductive SK where
  | k (x : LK)
  | s (ls : List LK)

section
variable {H : Type} {enc : TypeId × Value → H} {P : Program}

def kS (ls : List LK) : List SK := ls.map .k
def shpF2 (P : Program) (g : TypeId → Option (List SK)) : List Field → Nat → Option (List SK)
  | [], _ => some []
  | f :: r, off => match g f.type with
    | some ls => if f.offset = off ∧ P.cellsOf f.type = ls.length then (match shpF2 P g r (off + ls.length) with | some l => some (ls ++ l) | none => none) else none
    | none => none
def shp2 (P : Program) : Nat → TypeId → Option (List SK)
  | 0, _ => none
  | d + 1, t => match shp P 8 t with
    | some ls => some (kS ls)
    | none => match P.underlying t with
      | some (.slice e) => match shp P 8 e with
        | some ls => if 0 < ls.length ∧ P.cellsOf e = ls.length then some [.s ls] else none
        | none => none
      | some (.struct fs) => match shpF2 P (shp2 P d) fs.toList 0 with
        | some ls => if P.cellsOf t = ls.length then some ls else none
        | none => none
      | _ => none

/-- What a slice's cell leads to. -/
def okS (W : World) (ls : List LK) (v : Value) : Prop :=
  v = .slice none 0 0 ∨ ∃ a len cap vs, v = .slice (some a) len cap ∧ len ≤ cap ∧ cap ≤ 9223372036854775807 ∧ okCs (repL ls len) vs ∧ vs.length = len * ls.length ∧ 0 < ls.length ∧
    ∀ j u, vs[j]? = some u → W.cell? ⟨a.block, a.off + j, none⟩ = some u ∧ a.spot = none
def okC2 (W : World) : SK → Value → Prop
  | .k x, v => okC x v
  | .s ls, v => okS W ls v
def okCs2 (W : World) : List SK → List Value → Prop
  | [], cs => cs = []
  | k :: ks, cs => ∃ c r, cs = c :: r ∧ okC2 W k c ∧ okCs2 W ks r
theorem okCs2_append {W : World} : ∀ {ks ls : List SK} {cs ds : List Value}, okCs2 W ks cs → okCs2 W ls ds → okCs2 W (ks ++ ls) (cs ++ ds)
  | [], ls, cs, ds, h, h' => by
    simp only [okCs2] at h
    subst h
    exact h'
  | k :: ks, ls, cs, ds, h, h' => by
    obtain ⟨c, r, rfl, h1, h2⟩ := h
    exact ⟨c, r ++ ds, rfl, h1, okCs2_append h2 h'⟩
theorem okCs2_of {W : World} : ∀ {ls : List LK} {cs : List Value}, okCs ls cs → okCs2 W (kS ls) cs
  | [], cs, h => h
  | k :: ks, cs, h => by
    obtain ⟨c, r, rfl, h1, h2⟩ := h
    exact ⟨c, r, rfl, h1, okCs2_of h2⟩
def PlainT2 (enc : TypeId × Value → H) (P : Program) (t : TypeId) (ls : List SK) : Prop :=
  ∀ (w : World) (fuel : Nat) (cs : List Value) (x : DataW H × List MemPlace), DataW.trod enc P w 0 (fun _ => true) true fuel t cs = some x → okCs2 w ls cs

theorem plain_fields2 {g : TypeId → Option (List SK)} (hg : ∀ t ls, g t = some ls → PlainT2 enc P t ls) (w : World) (fuel : Nat) (cs : List Value) : ∀ (fs : List Field) (off : Nat) (ls : List SK) (xs : List (DataW H × List MemPlace)), shpF2 P g fs off = some ls → cs.length = off + ls.length →
    (fs.mapM fun f => DataW.trod enc P w 0 (fun _ => true) true fuel f.type ((cs.drop f.offset).take (P.cellsOf f.type))) = some xs → okCs2 w ls (cs.drop off)
  | [], off, ls, xs, hs, hl, h => by
    simp only [shpF2, Option.some.injEq] at hs
    subst hs
    simp only [List.length_nil, Nat.add_zero] at hl
    simp [okCs2, hl]
  | f :: fs, off, ls, xs, hs, hl, h => by
    simp only [shpF2] at hs
    split at hs <;> try (simp at hs; done)
    rename_i l1 h1
    split at hs <;> try (simp at hs; done)
    rename_i hc
    split at hs <;> simp only [reduceCtorEq, Option.some.injEq] at hs
    rename_i l2 h2
    subst hs
    obtain ⟨hc1, hc2⟩ := hc
    simp only [List.mapM_cons, Option.bind_eq_bind, Option.pure_def] at h
    cases hx : DataW.trod enc P w 0 (fun _ => true) true fuel f.type ((cs.drop f.offset).take (P.cellsOf f.type)) with
    | none => simp [hx] at h
    | some x =>
      simp only [hx, Option.bind_some] at h
      cases hr : (fs.mapM fun f => DataW.trod enc P w 0 (fun _ => true) true fuel f.type ((cs.drop f.offset).take (P.cellsOf f.type))) with
      | none => simp [hr] at h
      | some r =>
        have a1 := hg _ _ h1 w fuel _ _ hx
        have b1 := plain_fields2 hg w fuel cs fs (off + l1.length) l2 r h2 (by rw [hl, List.length_append]; omega) hr
        have e : cs.drop off = (cs.drop off).take l1.length ++ cs.drop (off + l1.length) := by
          rw [← List.drop_drop, List.take_append_drop]
        rw [e]
        rw [hc1, hc2] at a1
        exact okCs2_append a1 b1

theorem okCs_range {w : World} {e : TypeId} {ls : List LK} (hg : PlainT enc P e ls) (hsz : P.cellsOf e = ls.length) {a : Addr} {n : Nat} {D : Nat → DataW H} {Pl : Nat → List MemPlace} : ∀ (k i : Nat),
    (∀ j, i ≤ j → j < i + k → ∃ cs', w.cells? 0 (a.add (j * P.cellsOf e)) (P.cellsOf e) = some cs' ∧ DataW.trod enc P w 0 (fun _ => true) true n e cs' = some (D j, Pl j)) →
    ∃ vs, vs.length = k * ls.length ∧ okCs (repL ls k) vs ∧ ∀ j, j < k * ls.length → w.cell? (a.add (i * ls.length + j)) = vs[j]?
  | 0, i, h => ⟨[], by simp, rfl, fun j hj => by simp at hj⟩
  | k + 1, i, h => by
    obtain ⟨c, h1, h2⟩ := h i (Nat.le_refl _) (by omega)
    obtain ⟨vs, v1, v2, v3⟩ := okCs_range hg hsz k (i + 1) (fun j h3 h4 => h j (by omega) (by omega))
    obtain ⟨_, hlen, hcell⟩ := World.cells?_some h1
    rw [hsz] at hlen hcell
    refine ⟨c ++ vs, by rw [List.length_append, hlen, v1, Nat.add_mul]; omega, ?_, fun j hj => ?_⟩
    · simp only [repL]
      exact okCs_append (hg _ _ _ _ _ _ _ h2).1 v2
    · by_cases hj' : j < ls.length
      · have := hcell j hj'
        rw [Deep.add_add] at this
        rw [this, List.getElem?_append_left (by omega)]
      · have := v3 (j - ls.length) (by rw [Nat.add_mul] at hj; omega)
        rw [List.getElem?_append_right (by omega), hlen, ← this]
        congr 2
        rw [Nat.add_mul]; omega

theorem plain_trod2 : ∀ (d : Nat) (t : TypeId) (ls : List SK), shp2 P d t = some ls → PlainT2 enc P t ls
  | 0, t, ls, hs => by simp [shp2] at hs
  | d + 1, t, ls, hs => by
    intro w fuel cs x h
    simp only [shp2] at hs
    split at hs
    · rename_i l hl
      simp only [Option.some.injEq] at hs
      subst hs
      exact okCs2_of (plain_trod 8 t l hl w 0 _ _ fuel cs x h).1
    · split at hs <;> try (simp at hs; done)
      · rename_i e ht
        split at hs <;> try (simp at hs; done)
        rename_i l hl
        split at hs <;> simp only [reduceCtorEq, Option.some.injEq] at hs
        rename_i hc
        subst hs
        rcases Deep.open_slice ht h with ⟨rfl, _⟩ | ⟨a, len, cap, m, n, D, Pl, rfl, _, hlen, hcap, hm, _, hx⟩
        · exact ⟨_, [], rfl, .inl rfl, rfl⟩
        · simp only [if_true] at hm
          subst hm
          obtain ⟨vs, v1, v2, v3⟩ := okCs_range (plain_trod 8 e l hl) hc.2 len 0 (fun j _ hj => hx j (by omega))
          refine ⟨_, [], rfl, .inr ⟨a, len, _, vs, rfl, hlen, by simpa [Go.maxLen] using hcap, v2, v1, hc.1, fun j u hu => ?_⟩, rfl⟩
          have hj : j < len * l.length := by rw [← v1]; exact (List.getElem?_eq_some_iff.1 hu).1
          have h3 := v3 j hj
          rw [Nat.zero_mul, Nat.zero_add, hu] at h3
          have hsp : a.spot = none := by
            have h0 := v3 0 (by omega)
            rw [Nat.zero_mul, Nat.zero_add] at h0
            obtain ⟨u0, hu0⟩ : ∃ u0, vs[0]? = some u0 := ⟨vs[0]'(by omega), List.getElem?_eq_getElem (by omega)⟩
            rw [hu0] at h0
            simp only [Addr.add, if_true] at h0
            unfold World.cell? at h0
            split at h0 <;> try (simp at h0; done)
            split at h0
            · simp at h0
            · rename_i hn
              simpa using hn
          refine ⟨?_, hsp⟩
          rw [← h3]
          congr 1
          unfold Addr.add
          split
          · subst_vars
            obtain ⟨b, o, s⟩ := a
            simp only at hsp
            subst hsp
            simp
          · rfl
      · rename_i fs ht
        split at hs <;> try (simp at hs; done)
        rename_i l hl
        split at hs <;> simp only [reduceCtorEq, Option.some.injEq] at hs
        rename_i hc
        subst hs
        cases fuel with
        | zero => simp [DataW.trod] at h
        | succ fuel =>
          simp only [DataW.trod, ht] at h
          split at h <;> try (simp at h; done)
          rename_i hlen
          simp only [Option.map_eq_some_iff] at h
          obtain ⟨xs, hxs, rfl⟩ := h
          have := plain_fields2 (fun t ls h => plain_trod2 d t ls h) w fuel cs fs.toList 0 l xs hl (by omega) hxs
          simpa using this

/-- The abstract cells, and the blocks that they lead to, from place number n on. -/
def tyd2 : List SK → Nat → List AV → Store → Prop
  | [], _, as, σ => as = [] ∧ σ = []
  | .k x :: ks, n, as, σ => ∃ a r, as = a :: r ∧ tyd [x] [a] ∧ tyd2 ks n r σ
  | .s ls :: ks, n, as, σ => (∃ r, as = .nilsl :: r ∧ tyd2 ks n r σ) ∨
      ∃ len cs r σ', as = .sl n 0 len :: r ∧ σ = .live ⟨.ro, true, cs⟩ :: σ' ∧ len ≤ 9223372036854775807 ∧ tyd (repL ls len) cs ∧ tyd2 ks (n + 1) r σ'
def blkOk (W : World) (β : Nat → Loc) (n : Nat) (σ : Store) : Prop := ∀ i b, gt σ i = .live b → BlkRel W β W (β (n + i)) b ∧ b.kind = .ro ∧ b.flat = true
theorem tyd_one {k : LK} {v : Value} {β : Nat → Loc} (h : okC k v) : ∃ a, tyd [k] [a] ∧ Den β a v := by
  obtain ⟨as, t, d⟩ := okCs_tyd (β := β) (ks := [k]) (cs := [v]) ⟨v, [], rfl, h, rfl⟩
  match as, d with
  | [a], d =>
    obtain ⟨u, us, e, h1, _⟩ := d
    obtain ⟨rfl, _⟩ := List.cons.inj e
    exact ⟨a, t, h1⟩
  | [], d => simp [DenL] at d
  | _ :: _ :: _, d =>
    obtain ⟨u, us, e, _, u2, us2, e2, _⟩ := d
    obtain ⟨_, rfl⟩ := List.cons.inj e
    simp at e2
theorem den_plain {k : LK} {a : AV} {v : Value} {β β' : Nat → Loc} (h : tyd [k] [a]) (hd : Den β a v) : Den β' a v :=
  Den_congr a v (fun l hl => by have := tyd_locs h; simp only [AV.locsL, List.append_nil] at this; rw [this] at hl; cases hl) hd
theorem blkOk_cons {W : World} {β : Nat → Loc} {n : Nat} {b : Blk} {σ : Store} (h : BlkRel W β W (β n) b ∧ b.kind = .ro ∧ b.flat = true) (hs : blkOk W β (n + 1) σ) : blkOk W β n (.live b :: σ) := by
  intro i c hc
  cases i with
  | zero =>
    simp only [gt, Sl.live.injEq] at hc
    subst hc
    exact h
  | succ i =>
    have := hs i c (by simpa [gt] using hc)
    rwa [show n + 1 + i = n + (i + 1) by omega] at this
/-- Cells read: told, with where they lie. -/
theorem cells_tell {W : World} (hW : 0 < W.heap.size) : ∀ {ks : List SK} {cs : List Value} (pre : List Loc), okCs2 W ks cs →
    ∃ as σ seg, tyd2 ks pre.length as σ ∧ seg.length = σ.length ∧ ∀ post : List Loc, DenL (fun i => (pre ++ seg ++ post).getD i default) as cs ∧ blkOk W (fun i => (pre ++ seg ++ post).getD i default) pre.length σ
  | [], cs, pre, h => by
    simp only [okCs2] at h
    subst h
    exact ⟨[], [], [], ⟨rfl, rfl⟩, rfl, fun post => ⟨DenL_nil, fun i b hb => by simp [gt] at hb⟩⟩
  | .k x :: ks, cs, pre, h => by
    obtain ⟨c, r, rfl, h1, h2⟩ := h
    obtain ⟨as, σ, seg, t1, t2, t3⟩ := cells_tell hW pre h2
    obtain ⟨a, ta, da⟩ := tyd_one (β := fun _ => default) h1
    exact ⟨a :: as, σ, seg, ⟨a, as, rfl, ta, t1⟩, t2, fun post => ⟨DenL_cons (den_plain ta da) (t3 post).1, (t3 post).2⟩⟩
  | .s ls :: ks, cs, pre, h => by
    obtain ⟨c, r, rfl, h1, h2⟩ := h
    rcases h1 with rfl | ⟨a, len, cap, vs, rfl, hl, hcap, hvs, hvl, hls, hcell⟩
    · obtain ⟨as, σ, seg, t1, t2, t3⟩ := cells_tell hW pre h2
      exact ⟨.nilsl :: as, σ, seg, .inl ⟨as, rfl, t1⟩, t2, fun post => ⟨DenL_cons (by simp [Den]) (t3 post).1, (t3 post).2⟩⟩
    · have hlc : ∃ lc : Loc, lc.blk < W.heap.size ∧ (0 < len → a = ⟨lc.blk, lc.base, none⟩) ∧ ∀ j u, vs[j]? = some u → W.cell? ⟨lc.blk, lc.base + j, none⟩ = some u := by
        by_cases h0 : 0 < len
        · have hpos : 0 < vs.length := by rw [hvl]; exact Nat.mul_pos h0 hls
          obtain ⟨c0, s0⟩ := hcell 0 _ (List.getElem?_eq_getElem hpos)
          refine ⟨⟨a.block, a.off, default⟩, ?_, fun _ => ?_, fun j u hu => (hcell j u hu).1⟩
          · unfold World.cell? at c0
            split at c0 <;> try (simp at c0; done)
            rename_i hh
            exact (Array.getElem?_eq_some_iff.1 hh).1
          · obtain ⟨b, o, s⟩ := a
            simp only at s0
            subst s0
            rfl
        · have : len = 0 := by omega
          subst this
          have : vs = [] := List.eq_nil_of_length_eq_zero (by simpa using hvl)
          subst this
          exact ⟨⟨0, 0, default⟩, hW, fun h => absurd h h0, fun j u hu => by simp at hu⟩
      obtain ⟨lc, l1, l2, l3⟩ := hlc
      obtain ⟨as, σ, seg, t1, t2, t3⟩ := cells_tell hW (pre ++ [lc]) h2
      obtain ⟨bs, tb, db⟩ := okCs_tyd (β := fun _ => default) hvs
      rw [List.length_append, List.length_cons, List.length_nil] at t1
      refine ⟨.sl pre.length 0 len :: as, .live ⟨.ro, true, bs⟩ :: σ, lc :: seg, .inr ⟨len, bs, as, σ, rfl, rfl, by omega, tb, t1⟩, by simp [t2], fun post => ?_⟩
      obtain ⟨p1, p2⟩ := t3 post
      have e : pre ++ [lc] ++ seg ++ post = pre ++ lc :: seg ++ post := by simp
      rw [e] at p1 p2
      have eb : (pre ++ lc :: seg ++ post).getD pre.length default = lc := by simp
      refine ⟨DenL_cons ?_ p1, ?_⟩
      · simp only [Den, eb]
        exact ⟨some a, cap, rfl, hl, fun h0 => by rw [l2 h0]; rfl⟩
      · refine blkOk_cons ?_ (by simpa using p2)
        refine ⟨⟨fun _ => tyd_locs tb, ?_⟩, rfl, rfl⟩
        simp only [eb]
        exact ⟨l1, vs, DenL_congr _ _ (fun l hl => by rw [tyd_locs tb] at hl; cases hl) db, l3⟩

/-- Arguments, and the blocks that they lead to, from place number n on. -/
def argsOk2 (P : Program) : List TypeId → Nat → List AV → Store → Prop
  | [], _, xs, σ => xs = [] ∧ σ = []
  | t :: ts, n, xs, σ => ∃ ks cells a r σ1 σ2, shp2 P 8 t = some ks ∧ tyd2 ks n cells σ1 ∧ avOf P t cells a ∧ xs = a :: r ∧ σ = σ1 ++ σ2 ∧ argsOk2 P ts (n + σ1.length) r σ2

theorem lone {W : World} {b0 : Nat} {t : TypeId} {v : Value} {ks : List SK} (hs : shp2 P 8 t = some ks) (hv : Value.okWide P W .any b0 t v) :
    (∃ cs, v = .agg cs ∧ ((∃ fs, P.underlying t = some (.struct fs)) ∨ ∃ n e, P.underlying t = some (.array n e))) ∨
    (v.cells.toList = [v] ∧ ∀ fs n e, P.underlying t ≠ some (.struct fs) ∧ P.underlying t ≠ some (.array n e)) := by
  simp only [shp2] at hs
  have hv' := hv
  unfold Value.okWide at hv
  split at hv
  · rename_i fs hu
    obtain ⟨cs, rfl, _⟩ := hv
    exact .inl ⟨cs, rfl, .inl ⟨fs, hu⟩⟩
  · rename_i n e hu
    obtain ⟨cs, rfl, _⟩ := hv
    exact .inl ⟨cs, rfl, .inr ⟨n, e, hu⟩⟩
  · rename_i hn1 hn2
    right
    refine ⟨?_, fun fs n e => ⟨hn1 fs, hn2 n e⟩⟩
    split at hs
    · rename_i l hl
      simp only [shp] at hl
      split at hl <;> try (simp at hl; done)
      · rename_i hu
        obtain ⟨b, rfl⟩ := okWide_bool hu hv'
        rfl
      · rename_i k hu
        obtain ⟨b, rfl⟩ := okWide_int hu hv'
        rfl
      · rename_i hu
        obtain ⟨b, rfl⟩ := okWide_string hu hv'
        rfl
      · rename_i fs hu
        exact absurd hu (hn1 fs)
      · rename_i n e hu
        exact absurd hu (hn2 n e)
    · split at hs <;> try (simp at hs; done)
      · rename_i e hu
        obtain ⟨a, l, c, rfl⟩ := okWide_slice hu hv'
        rfl
      · rename_i fs hu
        exact absurd hu (hn1 fs)

theorem args_tell {W : World} (hW : 0 < W.heap.size) {b0 : Nat} : ∀ {ts : List TypeId} {vs : List Value} {ds : List (DataW H)} {ps : List MemPlace} (pre : List Loc), (∀ t ∈ ts, (shp2 P 8 t).isSome = true) → (∀ (j : Nat) t v, ts[j]? = some t → vs[j]? = some v → Value.okWide P W .any b0 t v) →
    DataW.TrodAll enc P W 0 (fun _ => true) true ts vs ds ps → ∃ xs σ seg, argsOk2 P ts pre.length xs σ ∧ seg.length = σ.length ∧ ds.length = ts.length ∧ ∀ post : List Loc, DenL (fun i => (pre ++ seg ++ post).getD i default) xs vs ∧ blkOk W (fun i => (pre ++ seg ++ post).getD i default) pre.length σ
  | [], vs, ds, ps, pre, _, _, h => by
    obtain ⟨rfl, rfl, rfl⟩ := trodAll_nil h
    exact ⟨[], [], [], ⟨rfl, rfl⟩, rfl, rfl, fun post => ⟨DenL_nil, fun i b hb => by simp [gt] at hb⟩⟩
  | t :: ts, vs, ds, ps, pre, hs, hv, h => by
    obtain ⟨v, vs', d, ds', p, q, rfl, rfl, rfl, h1, h2⟩ := trodAll_cons h
    obtain ⟨ks, hks⟩ := Option.isSome_iff_exists.1 (hs t (by simp))
    obtain ⟨fuel, hf⟩ := h1
    obtain ⟨cells, σ1, seg1, c1, c2, c3⟩ := cells_tell hW pre (plain_trod2 8 t ks hks W fuel _ _ hf)
    obtain ⟨r, σ2, seg2, d1, d2, d3, d4⟩ := args_tell hW (pre ++ seg1) (fun t ht => hs t (by simp [ht])) (fun j t v e1 e2 => hv (j + 1) t v (by simpa using e1) (by simpa using e2)) h2
    rw [List.length_append, c2] at d1
    have e : ∀ post : List Loc, pre ++ seg1 ++ seg2 ++ post = pre ++ (seg1 ++ seg2) ++ post := fun post => by simp
    have e' : ∀ post : List Loc, pre ++ seg1 ++ (seg2 ++ post) = pre ++ (seg1 ++ seg2) ++ post := fun post => by simp
    have hblk : ∀ post : List Loc, blkOk W (fun i => (pre ++ (seg1 ++ seg2) ++ post).getD i default) pre.length (σ1 ++ σ2) := by
      intro post i b hb
      obtain ⟨_, q1⟩ := c3 (seg2 ++ post)
      obtain ⟨_, q2⟩ := d4 post
      rw [e'] at q1
      rw [e, List.length_append, c2] at q2
      by_cases hi : i < σ1.length
      · exact q1 i b (by rw [gt_eq] at hb ⊢; rwa [List.getElem?_append_left hi] at hb)
      · have := q2 (i - σ1.length) b (by rw [gt_eq] at hb ⊢; rwa [List.getElem?_append_right (by omega)] at hb)
        rwa [show pre.length + σ1.length + (i - σ1.length) = pre.length + i by omega] at this
    rcases lone hks (hv 0 t v (by simp) (by simp)) with ⟨cs, rfl, hu⟩ | ⟨hc, hu⟩
    · refine ⟨.agg cells :: r, σ1 ++ σ2, seg1 ++ seg2, ⟨ks, cells, _, r, σ1, σ2, hks, c1, ?_, rfl, rfl, d1⟩, by simp [c2, d2], by simp [d3], fun post => ⟨DenL_cons ?_ ?_, hblk post⟩⟩
      · unfold avOf
        rcases hu with ⟨fs, hu⟩ | ⟨n, e, hu⟩ <;> rw [hu]
      · have := (c3 (seg2 ++ post)).1
        rw [e'] at this
        exact ⟨cs.toList, by simp, by simpa [Value.cells] using this⟩
      · have := (d4 post).1
        rwa [e] at this
    · rw [hc] at c3
      match cells, c1, c3 with
      | [], c1, c3 => have := (c3 []).1; simp [DenL] at this
      | [a], c1, c3 =>
        refine ⟨a :: r, σ1 ++ σ2, seg1 ++ seg2, ⟨ks, [a], a, r, σ1, σ2, hks, c1, ?_, rfl, rfl, d1⟩, by simp [c2, d2], by simp [d3], fun post => ⟨DenL_cons ?_ ?_, hblk post⟩⟩
        · unfold avOf
          split
          · rename_i fs hq; exact absurd hq (hu fs 0 0).1
          · rename_i n e hq; exact absurd hq (hu #[] n e).2
          · rfl
        · have := (c3 (seg2 ++ post)).1
          rw [e'] at this
          obtain ⟨u, us, e1, h1, _⟩ := this
          obtain ⟨rfl, _⟩ := List.cons.inj e1
          exact h1
        · have := (d4 post).1
          rwa [e] at this
      | a :: a' :: as, c1, c3 =>
        obtain ⟨u, us, e1, _, h2⟩ := (c3 []).1
        obtain ⟨_, rfl⟩ := List.cons.inj e1
        simp [DenL] at h2
theorem tyd2_locs : ∀ {ks : List SK} {n : Nat} {as : List AV} {σ : Store}, tyd2 ks n as σ → ∀ x ∈ AV.locsL as, n ≤ x ∧ x < n + σ.length
  | [], n, as, σ, h => by obtain ⟨rfl, rfl⟩ := h; simp [AV.locsL]
  | .k x :: ks, n, as, σ, h => by
    obtain ⟨a, r, rfl, ta, h⟩ := h
    have := tyd_locs ta
    simp only [AV.locsL, List.append_nil] at this
    simp only [AV.locsL, this, List.nil_append]
    exact tyd2_locs h
  | .s ls :: ks, n, as, σ, h => by
    rcases h with ⟨r, rfl, h⟩ | ⟨len, cs, r, σ', rfl, rfl, _, _, h⟩
    · simp only [AV.locsL, AV.locs, List.nil_append]
      exact tyd2_locs h
    · intro x hx
      simp only [AV.locsL, AV.locs, List.cons_append, List.nil_append, List.mem_cons] at hx
      simp only [List.length_cons]
      rcases hx with rfl | hx
      · omega
      · have := tyd2_locs h x hx
        omega
theorem tyd2_live : ∀ {ks : List SK} {n : Nat} {as : List AV} {σ : Store}, tyd2 ks n as σ → ∀ i, i < σ.length → ∃ b, gt σ i = .live b
  | [], n, as, σ, h, i, hi => by obtain ⟨_, rfl⟩ := h; simp at hi
  | .k x :: ks, n, as, σ, h, i, hi => by
    obtain ⟨a, r, rfl, _, h⟩ := h
    exact tyd2_live h i hi
  | .s ls :: ks, n, as, σ, h, i, hi => by
    rcases h with ⟨r, rfl, h⟩ | ⟨len, cs, r, σ', rfl, rfl, _, _, h⟩
    · exact tyd2_live h i hi
    · cases i with
      | zero => exact ⟨_, rfl⟩
      | succ i => exact tyd2_live h i (by simpa using hi)
theorem argsOk2_locs : ∀ {ts : List TypeId} {n : Nat} {xs : List AV} {σ : Store}, argsOk2 P ts n xs σ → (∀ x ∈ AV.locsL xs, n ≤ x ∧ x < n + σ.length) ∧ ∀ i, i < σ.length → ∃ b, gt σ i = .live b
  | [], n, xs, σ, h => by obtain ⟨rfl, rfl⟩ := h; simp [AV.locsL]
  | t :: ts, n, xs, σ, h => by
    obtain ⟨ks, cells, a, r, σ1, σ2, _, h2, h3, rfl, rfl, h5⟩ := h
    obtain ⟨i1, i2⟩ := argsOk2_locs h5
    have hl := tyd2_locs h2
    have ha : ∀ x ∈ a.locs, x ∈ AV.locsL cells := by
      unfold avOf at h3
      split at h3 <;> subst h3 <;> simp [AV.locs, AV.locsL]
    refine ⟨fun x hx => ?_, fun i hi => ?_⟩
    · simp only [AV.locsL, List.mem_append] at hx
      rw [List.length_append]
      rcases hx with hx | hx
      · have := hl x (ha x hx); omega
      · have := i1 x hx; omega
    · by_cases h : i < σ1.length
      · obtain ⟨b, hb⟩ := tyd2_live h2 i h
        exact ⟨b, by rw [gt_eq] at hb ⊢; rwa [List.getElem?_append_left h]⟩
      · obtain ⟨b, hb⟩ := i2 (i - σ1.length) (by rw [List.length_append] at hi; omega)
        exact ⟨b, by rw [gt_eq] at hb ⊢; rwa [List.getElem?_append_right (by omega)]⟩

theorem trodAll_stays {W W' : World} {sp' : Nat → Bool} (hl : laidOutB P = true) : ∀ {ts : List TypeId} {vs : List Value} {ds : List (DataW H)} {ps : List MemPlace}, (∀ t ∈ ts, P.readableRec t = true ∧ t < P.types.size) →
    DataW.TrodAll enc P W 0 (fun _ => true) true ts vs ds ps → (∀ p ∈ ps, W.sameAt W' p) → (∀ p ∈ ps, sp' p.block = true) → DataW.TrodAll enc P W' 0 sp' true ts vs ds ps
  | [], vs, ds, ps, _, h, _, _ => by
    obtain ⟨rfl, rfl, rfl⟩ := trodAll_nil h
    exact rfl
  | t :: ts, vs, ds, ps, hr, h, hsame, hsp => by
    obtain ⟨v, vs', d, ds', p, q, rfl, rfl, rfl, h1, h2⟩ := trodAll_cons h
    obtain ⟨r1, r2⟩ := hr t (by simp)
    exact ⟨p, q, WideElems.Trod_stays hl r1 r2 h1 (fun x hx => hsame x (by simp [hx])) (fun x hx => hsp x (by simp [hx])), trodAll_stays hl (fun t ht => hr t (by simp [ht])) h2 (fun x hx => hsame x (by simp [hx])) (fun x hx => hsp x (by simp [hx])), rfl⟩

/-- A law over plain arguments and slices of plain elements that returns true. -/
theorem law_slices {f : Nat} {fn : Func} {s : ChangeSpec} {apart fresh handsOn again : Bool} {W : World} {base : Nat} {args : Array Value} {ds gs : List (DataW H)} {before : List MemPlace} {tb : TypeId} {Γ : Env}
    (hΓ : EnvOk P W Γ) (hW0 : 0 < W.heap.size) (hm : P.follows .mixedOrders = true) (hres : fn.resultTypes = #[tb]) (htb : P.underlying tb = some .bool) (hvars : s.vars = [])
    (hs : ∀ ds : List (DataW H), ds.length = fn.params.toList.length → s.fn H ds = { results := [.lit (.bool true)], args := ds })
    (hlo : laidOutB P = true) (hrd : ∀ t ∈ fn.params.toList, P.readableRec t = true ∧ t < P.types.size)
    (hsh : ∀ t ∈ fn.params.toList, (shp2 P 8 t).isSome = true) (law : ∀ xs σ, argsOk2 P fn.params.toList 0 xs σ → ∃ n σ', run Γ n f xs σ = some (.bool true, σ'))
    (hval : ∀ (j : Nat) t v, fn.params[j]? = some t → args[j]? = some v → Value.okWide P W .any base t v)
    (hW : DataW.Whole enc P fn.params.toList s.vars apart W args.toList ds gs before) :
    Calls P f args W fun e W' => ∃ v, e = .returned v ∧ s.post enc P fn apart fresh handsOn again W args v W' := by
  have hWh := hW
  obtain ⟨p, q, hA, hV, rfl, _, _⟩ := hW
  have hV' : gs = [] ∧ q = [] := by
    rw [hvars] at hV
    cases gs with
    | nil => exact ⟨rfl, by simpa [DataW.TrodVars] using hV⟩
    | cons => simp [DataW.TrodVars] at hV
  obtain ⟨rfl, rfl⟩ := hV'
  obtain ⟨xs, σ, seg, a1, a2, a3, a4⟩ := args_tell hW0 [] hsh (fun j t v e1 e2 => hval j t v (by simpa using e1) (by simpa using e2)) hA
  obtain ⟨a5, a6⟩ := a4 []
  simp only [List.length_nil] at a1
  obtain ⟨b1, b2⟩ := argsOk2_locs a1
  obtain ⟨n, σ', hn⟩ := law xs σ a1
  obtain ⟨_, hac⟩ := run_sound hΓ hm n _ _ _ _ _ hn
  have hro : ∀ l b, gt σ l = .live b → BlkRel W (fun i => (([] : List Loc) ++ seg ++ []).getD i default) W ((fun i => (([] : List Loc) ++ seg ++ []).getD i default) l) b ∧ b.kind = .ro ∧ b.flat = true := by
    intro l b h
    have := a6 l b h
    simpa using this
  have hrel : Rel W (fun i => (([] : List Loc) ++ seg ++ []).getD i default) σ W := by
    refine ⟨Below.refl _ _, fun l b h => (hro l b h).1, fun l l' b b' k h h' hk => ?_⟩
    rw [(hro l b h).2.1] at hk
    simp [own] at hk
  have hfoot : ∀ k, ¬ Foot (fun i => (([] : List Loc) ++ seg ++ []).getD i default) σ k := by
    rintro k ⟨l, b, h, hk⟩
    rw [(hro l b h).2.1] at hk
    simp [own] at hk
  have := hac _ W args.toList hrel (fun i hi => by obtain ⟨b, hb⟩ := b2 i hi; rw [hb]; simp) (fun i b h x hx => by have := (hro i b h).2.2; simp [Blk.locs, this] at hx) a5 (fun x hx => by have := b1 x hx; omega)
  rw [Array.toArray_toList] at this
  refine this.mono ?_
  rintro e W' ⟨v, β', rfl, hrel', _, hd, hk, _, _⟩
  have hv : v = .bool true := hd
  subst hv
  have hb : Below W.heap.size W W' := ⟨hk.os, hk.tape, hk.output, hk.size, fun k hk' => hk.block k hk' (hfoot k)⟩
  have hlt : ∀ x ∈ p, x.block < W.heap.size := fun x hx => by
    have := hWh.lt x (by simpa using hx)
    simpa using this
  have hlen : ds.length = fn.params.toList.length := a3
  have hfn := hs (ds ++ []) (by simpa using hlen)
  refine ⟨_, rfl, post_kept (pa := p) (pv := []) hWh ?_ ?_ ?_ (by simp) hb ?_⟩
  · intro b sp hd'
    rw [hfn, hres]
    exact ⟨[], [], ⟨1, by simp [DataW.trod, htb, Value.cells]⟩, rfl, rfl⟩
  · intro sp hsp
    rw [hfn]
    simp only [List.append_nil]
    exact trodAll_stays hlo hrd hA (fun x hx => hb.same (hlt x hx)) (fun x hx => hsp x (by simpa using hx))
  · intro sp _
    rw [hfn, hvars]
    exact rfl
  · exact ok_one hres rfl (okWide_bool_mk htb _)
end
end Go.AX
