/- What is proved here: the table of functions, and that each entry stands for its function; its condition: the table of powers of ten reads as the program's text lays it. -/
import Derived.Test.YtpmokljbfgeomaaDoorTd
import Derived.Test.YtpmokljbfgeomaaDoorAx4
import Derived.Test.YtpmokljbfgeomaaDoorAx3
import Derived.Lib.ItoaMem
import Derived.Lib.ItoaLen
import Derived.Test.YtpmokljbfgeomaaDoorShelf
set_option linter.unusedSimpArgs false
set_option linter.unusedVariables false
namespace Go.Proofs.T
open Go Go.AX Go.Proofs
open Go.RowKit
/-- strconv.Itoa -/
def p60 : List AV → Store → Option (AV × Store)
  | [.int .i64 n], [] => if -9223372036854775808 ≤ n ∧ n ≤ 9223372036854775807 then some (.str (Lib.itoa n), []) else none
  | _, _ => none
/-- strings.Contains, one byte -/
def p81 : List AV → Store → Option (AV × Store)
  | [.str s, .str [c]], [] => some (.bool (decide (0 ≤ Lib.indexByte s c)), [])
  | _, _ => none
/-- stringslite.Index, one byte -/
def p97 : List AV → Store → Option (AV × Store)
  | [.str s, .str [c]], [] => some (.int .i64 (Lib.indexByte s c), [])
  | _, _ => none
def L : List (Nat × FE) := [(3, .code d3), (4, .code d4), (5, .code d5), (6, .code d6), (7, .code d7), (8, .code d8), (9, .code d9), (10, .code d10), (11, .code d11), (12, .code d12), (13, .code d13), (14, .code d14), (15, .code d15), (16, .code d16), (17, .code d17), (18, .code d18), (19, .code d19), (20, .code d20), (21, .code d21), (22, .code d22), (23, .code d23), (24, .code d24), (25, .code d25), (26, .code d26), (27, .code d27), (28, .code d28), (29, .code d29), (30, .code d30), (31, .code d31), (32, .code d32), (33, .code d33), (34, .code d34), (35, .code d35), (36, .code d36), (37, .code d37), (38, .code d38), (39, .code d39), (40, .code d40), (41, .code d41), (42, .code d42), (43, .code d43), (44, .code d44), (45, .code d45), (46, .code d46), (47, .code d47), (48, .code d48), (49, .code d49), (50, .code d50), (51, .code d51), (52, .code d52), (53, .code d53), (54, .code d54), (55, .code d55), (56, .code d56), (57, .code d57), (58, .code d58), (59, .code d59), (61, .code d61), (62, .code d62), (63, .code d63), (64, .code d64), (65, .code d65), (66, .code d66), (67, .code d67), (68, .code d68), (69, .code d69), (70, .code d70), (71, .code d71), (72, .code d72), (73, .code d73), (74, .code d74), (75, .code d75), (76, .code d76), (77, .code d77), (78, .code d78), (79, .code d79), (80, .code d80), (83, .code d83), (84, .code d84), (85, .code d85), (86, .code d86), (87, .code d87), (88, .code d88), (89, .code d89), (92, .code d92), (93, .code d93), (94, .code d94), (95, .code d95), (96, .code d96), (102, .code d102), (60, .prim p60), (81, .prim p81), (97, .prim p97)]
noncomputable def Γ : Env := lk L
end Go.Proofs.T
namespace Go.Proofs.T
open Go Go.AX Go.Proofs
open Go.RowKit Go.Lib Go.Sort
theorem keep_grow {ft : Nat → Prop} {w w' : World} (h : Keep ft w w') (os : Array Obj) : Keep ft w (grow w' os) :=
  ⟨h.os, h.tape, h.output, Nat.le_trans h.size (by simp [grow]), fun k hk hn => by
    have : k < w'.heap.size := Nat.lt_of_lt_of_le hk h.size
    simp only [grow]
    rw [Array.getElem?_append_left this]
    exact h.block k hk hn⟩
theorem mem_cell {P : Program} {W w : World} {name : String} {k : IntKind} {zs : List Int} (h : Lib.TabIs P W name k zs) (hb : Below W.heap.size W w) : Lib.TabIs P w name k zs := by
  unfold Lib.TabIs World.var? at *
  cases hg : P.globalNamed name with
  | none => simp [hg] at h
  | some g =>
    simp only [hg, Option.bind_some] at h ⊢
    have hlt : g < W.heap.size := by
      rcases Nat.lt_or_ge g W.heap.size with h' | h'
      · exact h'
      · rw [Array.getElem?_eq_none h'] at h; simp at h
    rw [hb.block g hlt]
    exact h
theorem str_of {s : List UInt8} : (⟨s.toArray⟩ : ByteArray).data.toList = s := by simp
theorem e60 {W0 : World} (ht : Lib.TabIs Tryd.prog W0 "internal/strconv.uint64pow10" .u64 Lib.pow10Tab) : EntOk Tryd.prog W0 60 (.prim p60) := by
  refine ⟨⟨_, Tryd.func60, by kernel_rfl, by kernel_rfl⟩, fun args σ r σ' h => ?_⟩
  unfold p60 at h
  split at h <;> try (simp at h; done)
  rename_i n
  split at h <;> simp only [reduceCtorEq, Option.some.injEq, Prod.mk.injEq] at h
  rename_i hn
  obtain ⟨rfl, rfl⟩ := h
  refine ac_of (fun β w vs hb hd => ?_)
  obtain ⟨u, us, rfl, h1, h2⟩ := hd
  simp only [DenL] at h2
  subst h2
  simp only [Den] at h1
  subst h1
  refine (Tryd.strconv_Itoa n hn.1 hn.2 w (mem_cell ht hb)).mono ?_
  rintro e w' ⟨rfl, k, os, rfl⟩
  exact ⟨_, rfl, fun _ => rfl, keep_grow (Keep.drawn _ _) os⟩
theorem e81 {W0 : World} (ht : Lib.TabIs Tryd.prog W0 "internal/strconv.uint64pow10" .u64 Lib.pow10Tab) : EntOk Tryd.prog W0 81 (.prim p81) := by
  refine ⟨⟨_, Tryd.func81, by kernel_rfl, by kernel_rfl⟩, fun args σ r σ' h => ?_⟩
  unfold p81 at h
  split at h <;> simp only [reduceCtorEq, Option.some.injEq, Prod.mk.injEq] at h
  obtain ⟨rfl, rfl⟩ := h
  refine ac_of (fun β w vs hb hd => ?_)
  obtain ⟨u, us, rfl, h1, u', us', rfl, h2, h3⟩ := hd
  simp only [DenL] at h3
  subst h3
  simp only [Den] at h1 h2
  subst h1
  subst h2
  refine (Tryd.strings_Contains_one _ _ w).mono ?_
  rintro e w' ⟨rfl, rfl⟩
  exact ⟨_, rfl, fun _ => by simp only [Den, str_of], Keep.refl _ _⟩
theorem e97 {W0 : World} (ht : Lib.TabIs Tryd.prog W0 "internal/strconv.uint64pow10" .u64 Lib.pow10Tab) : EntOk Tryd.prog W0 97 (.prim p97) := by
  refine ⟨⟨_, Tryd.func97, by kernel_rfl, by kernel_rfl⟩, fun args σ r σ' h => ?_⟩
  unfold p97 at h
  split at h <;> simp only [reduceCtorEq, Option.some.injEq, Prod.mk.injEq] at h
  obtain ⟨rfl, rfl⟩ := h
  refine ac_of (fun β w vs hb hd => ?_)
  obtain ⟨u, us, rfl, h1, u', us', rfl, h2, h3⟩ := hd
  simp only [DenL] at h3
  subst h3
  simp only [Den] at h1 h2
  subst h1
  subst h2
  refine (Tryd.stringslite_Index_one _ _ w).mono ?_
  rintro e w' ⟨rfl, rfl⟩
  exact ⟨_, rfl, fun _ => by simp only [Den, str_of], Keep.refl _ _⟩
theorem envOk {W0 : World} (ht : Lib.TabIs Tryd.prog W0 "internal/strconv.uint64pow10" .u64 Lib.pow10Tab) : EnvOk Tryd.prog W0 Γ :=
  lk_cons (ent_code Tryd.func3 (by kernel_rfl) (by kernel_rfl) t3) (lk_cons (ent_code Tryd.func4 (by kernel_rfl) (by kernel_rfl) t4) (lk_cons (ent_code Tryd.func5 (by kernel_rfl) (by kernel_rfl) t5) (lk_cons (ent_code Tryd.func6 (by kernel_rfl) (by kernel_rfl) t6) (
  lk_cons (ent_code Tryd.func7 (by kernel_rfl) (by kernel_rfl) t7) (lk_cons (ent_code Tryd.func8 (by kernel_rfl) (by kernel_rfl) t8) (lk_cons (ent_code Tryd.func9 (by kernel_rfl) (by kernel_rfl) t9) (lk_cons (ent_code Tryd.func10 (by kernel_rfl) (by kernel_rfl) t10) (
  lk_cons (ent_code Tryd.func11 (by kernel_rfl) (by kernel_rfl) t11) (lk_cons (ent_code Tryd.func12 (by kernel_rfl) (by kernel_rfl) t12) (lk_cons (ent_code Tryd.func13 (by kernel_rfl) (by kernel_rfl) t13) (lk_cons (ent_code Tryd.func14 (by kernel_rfl) (by kernel_rfl) t14) (
  lk_cons (ent_code Tryd.func15 (by kernel_rfl) (by kernel_rfl) t15) (lk_cons (ent_code Tryd.func16 (by kernel_rfl) (by kernel_rfl) t16) (lk_cons (ent_code Tryd.func17 (by kernel_rfl) (by kernel_rfl) t17) (lk_cons (ent_code Tryd.func18 (by kernel_rfl) (by kernel_rfl) t18) (
  lk_cons (ent_code Tryd.func19 (by kernel_rfl) (by kernel_rfl) t19) (lk_cons (ent_code Tryd.func20 (by kernel_rfl) (by kernel_rfl) t20) (lk_cons (ent_code Tryd.func21 (by kernel_rfl) (by kernel_rfl) t21) (lk_cons (ent_code Tryd.func22 (by kernel_rfl) (by kernel_rfl) t22) (
  lk_cons (ent_code Tryd.func23 (by kernel_rfl) (by kernel_rfl) t23) (lk_cons (ent_code Tryd.func24 (by kernel_rfl) (by kernel_rfl) t24) (lk_cons (ent_code Tryd.func25 (by kernel_rfl) (by kernel_rfl) t25) (lk_cons (ent_code Tryd.func26 (by kernel_rfl) (by kernel_rfl) t26) (
  lk_cons (ent_code Tryd.func27 (by kernel_rfl) (by kernel_rfl) t27) (lk_cons (ent_code Tryd.func28 (by kernel_rfl) (by kernel_rfl) t28) (lk_cons (ent_code Tryd.func29 (by kernel_rfl) (by kernel_rfl) t29) (lk_cons (ent_code Tryd.func30 (by kernel_rfl) (by kernel_rfl) t30) (
  lk_cons (ent_code Tryd.func31 (by kernel_rfl) (by kernel_rfl) t31) (lk_cons (ent_code Tryd.func32 (by kernel_rfl) (by kernel_rfl) t32) (lk_cons (ent_code Tryd.func33 (by kernel_rfl) (by kernel_rfl) t33) (lk_cons (ent_code Tryd.func34 (by kernel_rfl) (by kernel_rfl) t34) (
  lk_cons (ent_code Tryd.func35 (by kernel_rfl) (by kernel_rfl) t35) (lk_cons (ent_code Tryd.func36 (by kernel_rfl) (by kernel_rfl) t36) (lk_cons (ent_code Tryd.func37 (by kernel_rfl) (by kernel_rfl) t37) (lk_cons (ent_code Tryd.func38 (by kernel_rfl) (by kernel_rfl) t38) (
  lk_cons (ent_code Tryd.func39 (by kernel_rfl) (by kernel_rfl) t39) (lk_cons (ent_code Tryd.func40 (by kernel_rfl) (by kernel_rfl) t40) (lk_cons (ent_code Tryd.func41 (by kernel_rfl) (by kernel_rfl) t41) (lk_cons (ent_code Tryd.func42 (by kernel_rfl) (by kernel_rfl) t42) (
  lk_cons (ent_code Tryd.func43 (by kernel_rfl) (by kernel_rfl) t43) (lk_cons (ent_code Tryd.func44 (by kernel_rfl) (by kernel_rfl) t44) (lk_cons (ent_code Tryd.func45 (by kernel_rfl) (by kernel_rfl) t45) (lk_cons (ent_code Tryd.func46 (by kernel_rfl) (by kernel_rfl) t46) (
  lk_cons (ent_code Tryd.func47 (by kernel_rfl) (by kernel_rfl) t47) (lk_cons (ent_code Tryd.func48 (by kernel_rfl) (by kernel_rfl) t48) (lk_cons (ent_code Tryd.func49 (by kernel_rfl) (by kernel_rfl) t49) (lk_cons (ent_code Tryd.func50 (by kernel_rfl) (by kernel_rfl) t50) (
  lk_cons (ent_code Tryd.func51 (by kernel_rfl) (by kernel_rfl) t51) (lk_cons (ent_code Tryd.func52 (by kernel_rfl) (by kernel_rfl) t52) (lk_cons (ent_code Tryd.func53 (by kernel_rfl) (by kernel_rfl) t53) (lk_cons (ent_code Tryd.func54 (by kernel_rfl) (by kernel_rfl) t54) (
  lk_cons (ent_code Tryd.func55 (by kernel_rfl) (by kernel_rfl) t55) (lk_cons (ent_code Tryd.func56 (by kernel_rfl) (by kernel_rfl) t56) (lk_cons (ent_code Tryd.func57 (by kernel_rfl) (by kernel_rfl) t57) (lk_cons (ent_code Tryd.func58 (by kernel_rfl) (by kernel_rfl) t58) (
  lk_cons (ent_code Tryd.func59 (by kernel_rfl) (by kernel_rfl) t59) (lk_cons (ent_code Tryd.func61 (by kernel_rfl) (by kernel_rfl) t61) (lk_cons (ent_code Tryd.func62 (by kernel_rfl) (by kernel_rfl) t62) (lk_cons (ent_code Tryd.func63 (by kernel_rfl) (by kernel_rfl) t63) (
  lk_cons (ent_code Tryd.func64 (by kernel_rfl) (by kernel_rfl) t64) (lk_cons (ent_code Tryd.func65 (by kernel_rfl) (by kernel_rfl) t65) (lk_cons (ent_code Tryd.func66 (by kernel_rfl) (by kernel_rfl) t66) (lk_cons (ent_code Tryd.func67 (by kernel_rfl) (by kernel_rfl) t67) (
  lk_cons (ent_code Tryd.func68 (by kernel_rfl) (by kernel_rfl) t68) (lk_cons (ent_code Tryd.func69 (by kernel_rfl) (by kernel_rfl) t69) (lk_cons (ent_code Tryd.func70 (by kernel_rfl) (by kernel_rfl) t70) (lk_cons (ent_code Tryd.func71 (by kernel_rfl) (by kernel_rfl) t71) (
  lk_cons (ent_code Tryd.func72 (by kernel_rfl) (by kernel_rfl) t72) (lk_cons (ent_code Tryd.func73 (by kernel_rfl) (by kernel_rfl) t73) (lk_cons (ent_code Tryd.func74 (by kernel_rfl) (by kernel_rfl) t74) (lk_cons (ent_code Tryd.func75 (by kernel_rfl) (by kernel_rfl) t75) (
  lk_cons (ent_code Tryd.func76 (by kernel_rfl) (by kernel_rfl) t76) (lk_cons (ent_code Tryd.func77 (by kernel_rfl) (by kernel_rfl) t77) (lk_cons (ent_code Tryd.func78 (by kernel_rfl) (by kernel_rfl) t78) (lk_cons (ent_code Tryd.func79 (by kernel_rfl) (by kernel_rfl) t79) (
  lk_cons (ent_code Tryd.func80 (by kernel_rfl) (by kernel_rfl) t80) (lk_cons (ent_code Tryd.func83 (by kernel_rfl) (by kernel_rfl) t83) (lk_cons (ent_code Tryd.func84 (by kernel_rfl) (by kernel_rfl) t84) (lk_cons (ent_code Tryd.func85 (by kernel_rfl) (by kernel_rfl) t85) (
  lk_cons (ent_code Tryd.func86 (by kernel_rfl) (by kernel_rfl) t86) (lk_cons (ent_code Tryd.func87 (by kernel_rfl) (by kernel_rfl) t87) (lk_cons (ent_code Tryd.func88 (by kernel_rfl) (by kernel_rfl) t88) (lk_cons (ent_code Tryd.func89 (by kernel_rfl) (by kernel_rfl) t89) (
  lk_cons (ent_code Tryd.func92 (by kernel_rfl) (by kernel_rfl) t92) (lk_cons (ent_code Tryd.func93 (by kernel_rfl) (by kernel_rfl) t93) (lk_cons (ent_code Tryd.func94 (by kernel_rfl) (by kernel_rfl) t94) (lk_cons (ent_code Tryd.func95 (by kernel_rfl) (by kernel_rfl) t95) (
  lk_cons (ent_code Tryd.func96 (by kernel_rfl) (by kernel_rfl) t96) (lk_cons (ent_code Tryd.func102 (by kernel_rfl) (by kernel_rfl) t102) (lk_cons (e60 ht) (lk_cons (e81 ht) (
  lk_cons (e97 ht) (lk_nil)))))))))))))))))))))))))))))))))))))))))))))))))))))))))))))))))))))))))))))))))))))))))))))
end Go.Proofs.T
