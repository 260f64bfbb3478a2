/- What is proved here: for all arguments the law FnExactIsValidConsole returns true and its arguments read as they did; its conditions are those of the given row: the listed tables read as laid, which the card ties to the program's text. -/
import Derived.Test.YtpmokljbfgeomaaDoorC2
import Derived.Test.YtpmokljbfgeomaaDoorTe
import Derived.Test.YtpmokljbfgeomaaDoorCards
import Derived.Test.YtpmokljbfgeomaaDoorTie
import Derived.WalkKit
import Derived.ProofKit
import Derived.OpenShut
import Derived.Deep.DeepHandedRow
import Derived.Lib.LaidTab
import Derived.Stop.LaidErr
set_option linter.unusedSimpArgs false
set_option linter.unusedVariables false
namespace Go.Proofs.T
open Go Go.AX Go.Proofs
set_option maxRecDepth 100000 in
theorem lawFnExactIsValidConsole (xs : List AV) (h : argsOk Tryd.prog [51] xs) : ∃ n, run Γ n 6 xs [] = some (.bool true, []) := by
  obtain ⟨ls0, cs0, a0, r0, h1, h2, h3, rfl, h⟩ := h
  obtain rfl := Option.some.inj ((show shp Tryd.prog 8 51 = some [.int .i64, .int .i64, .int .i64, .int .i64, .int .i64, .int .i64, .int .i64, .int .i64, .int .i64, .int .i64, .int .i64, .int .i64, .int .i64, .int .i64, .int .i64, .int .i64, .int .i64, .int .i64, .str, .str, .int .i64] by kernel_rfl).symm.trans h1)
  obtain ⟨v0_0, _, rfl, w0_0, ⟨v0_1, _, rfl, w0_1, ⟨v0_2, _, rfl, w0_2, ⟨v0_3, _, rfl, w0_3, ⟨v0_4, _, rfl, w0_4, ⟨v0_5, _, rfl, w0_5, ⟨v0_6, _, rfl, w0_6, ⟨v0_7, _, rfl, w0_7, ⟨v0_8, _, rfl, w0_8, ⟨v0_9, _, rfl, w0_9, ⟨v0_10, _, rfl, w0_10, ⟨v0_11, _, rfl, w0_11, ⟨v0_12, _, rfl, w0_12, ⟨v0_13, _, rfl, w0_13, ⟨v0_14, _, rfl, w0_14, ⟨v0_15, _, rfl, w0_15, ⟨v0_16, _, rfl, w0_16, ⟨v0_17, _, rfl, w0_17, ⟨v0_18, _, rfl, l0_18, ⟨v0_19, _, rfl, l0_19, ⟨v0_20, _, rfl, w0_20, rfl⟩⟩⟩⟩⟩⟩⟩⟩⟩⟩⟩⟩⟩⟩⟩⟩⟩⟩⟩⟩⟩ := h2
  simp only [avOf, Tryd.underlying51] at h3
  subst h3
  simp only [argsOk] at h
  subst h
  exact W_iff.1 (c6 v0_0 v0_1 v0_2 v0_3 v0_4 v0_5 v0_6 v0_7 v0_8 v0_9 v0_10 v0_11 v0_12 v0_13 v0_14 v0_15 v0_16 v0_17 v0_18 v0_19 v0_20 l0_18 l0_19)
end Go.Proofs.T
namespace Go.Proofs.YtpmokljbfgeomaaDoor
open Go.ChangeShapes Go.WideShapes Go.ChangeAt Go.RowKit Go.AX Go.Proofs.T
theorem fnExactIsValidConsole_own : ownKnob Tryd.prog.godebug = none := by kernel_rfl
theorem fnExactIsValidConsole_eTab : (Rows.laid_internal_strconv_uint64pow10 : DataW Unit) = Lib.tabData .u64 Lib.pow10Tab := by kernel_rfl
theorem fnExactIsValidConsole_tab {W : World} (h : laidMetH Tryd.prog Rows.fnExactIsValidConsoleRow.laid W) : Lib.TabIs Tryd.prog W "internal/strconv.uint64pow10" .u64 Lib.pow10Tab := by
  have h2 : laidMet Tryd.prog [_, _, ("internal/strconv.uint64pow10", Rows.laid_internal_strconv_uint64pow10)] W := h
  rw [fnExactIsValidConsole_eTab] at h2
  exact Lib.tabIs_of_head (show Tryd.prog.globalNamed "internal/strconv.uint64pow10" = some 1 by kernel_rfl) (show (Tryd.prog.globals[1]?).map (·.type) = some 136 by kernel_rfl) (show Tryd.prog.underlying 136 = some (.array 20 88) by kernel_rfl) (show Tryd.prog.underlying 88 = some (.int .u64) by kernel_rfl) (show Tryd.prog.cellsOf 88 = 1 by kernel_rfl) (show Tryd.prog.cellsOf 136 = 20 by kernel_rfl) h2.tail.tail
noncomputable def fnExactIsValidConsole_world (os : Os) : World := { (World.holding Tryd.prog os ⟨#[], #[], []⟩) with heap := ((((World.holding Tryd.prog os ⟨#[], #[], []⟩).heap.modify 2 fun | .cells _ t frozen => .cells #[.int .u8 0, .int .u8 1, .int .u8 28, .int .u8 2, .int .u8 29, .int .u8 14, .int .u8 24, .int .u8 3, .int .u8 30, .int .u8 22, .int .u8 20, .int .u8 15, .int .u8 25, .int .u8 17, .int .u8 4, .int .u8 8, .int .u8 31, .int .u8 27, .int .u8 13, .int .u8 23, .int .u8 21, .int .u8 19, .int .u8 16, .int .u8 7, .int .u8 26, .int .u8 12, .int .u8 18, .int .u8 6, .int .u8 11, .int .u8 5, .int .u8 10, .int .u8 9] t frozen | o => o).modify 3 fun | .cells _ t frozen => .cells #[.int .u8 0, .int .u8 1, .int .u8 56, .int .u8 2, .int .u8 57, .int .u8 49, .int .u8 28, .int .u8 3, .int .u8 61, .int .u8 58, .int .u8 42, .int .u8 50, .int .u8 38, .int .u8 29, .int .u8 17, .int .u8 4, .int .u8 62, .int .u8 47, .int .u8 59, .int .u8 36, .int .u8 45, .int .u8 43, .int .u8 51, .int .u8 22, .int .u8 53, .int .u8 39, .int .u8 33, .int .u8 30, .int .u8 24, .int .u8 18, .int .u8 12, .int .u8 5, .int .u8 63, .int .u8 55, .int .u8 48, .int .u8 27, .int .u8 60, .int .u8 41, .int .u8 37, .int .u8 16, .int .u8 46, .int .u8 35, .int .u8 44, .int .u8 21, .int .u8 52, .int .u8 32, .int .u8 23, .int .u8 11, .int .u8 54, .int .u8 26, .int .u8 40, .int .u8 15, .int .u8 34, .int .u8 20, .int .u8 31, .int .u8 10, .int .u8 25, .int .u8 14, .int .u8 19, .int .u8 9, .int .u8 13, .int .u8 8, .int .u8 7, .int .u8 6] t frozen | o => o).modify 1 fun | .cells _ t frozen => .cells #[.int .u64 1, .int .u64 10, .int .u64 100, .int .u64 1000, .int .u64 10000, .int .u64 100000, .int .u64 1000000, .int .u64 10000000, .int .u64 100000000, .int .u64 1000000000, .int .u64 10000000000, .int .u64 100000000000, .int .u64 1000000000000, .int .u64 10000000000000, .int .u64 100000000000000, .int .u64 1000000000000000, .int .u64 10000000000000000, .int .u64 100000000000000000, .int .u64 1000000000000000000, .int .u64 10000000000000000000] t frozen | o => o) }
theorem fnExactIsValidConsole_met (os : Os) : laidMet Tryd.prog Rows.fnExactIsValidConsoleRow.laid ((fnExactIsValidConsole_world os).forCall (fun _ _ => 0) ⟨#[], #[.agg #[.int .i64 0, .int .i64 0, .int .i64 0, .int .i64 0, .int .i64 0, .int .i64 0, .int .i64 0, .int .i64 0, .int .i64 0, .int .i64 0, .int .i64 0, .int .i64 0, .int .i64 0, .int .i64 0, .int .i64 0, .int .i64 0, .int .i64 0, .int .i64 0, .string ⟨#[]⟩, .string ⟨#[]⟩, .int .i64 0]], []⟩).memory :=
  laidMet_of_run' 8 (by kernel_rfl) (by kernel_rfl)
theorem fnExactIsValidConsole_reads (os : Os) {H : Type} (enc : TypeId × Value → H) : (DataW.whole enc Tryd.prog ((fnExactIsValidConsole_world os).forCall (fun _ _ => 0) ⟨#[], #[.agg #[.int .i64 0, .int .i64 0, .int .i64 0, .int .i64 0, .int .i64 0, .int .i64 0, .int .i64 0, .int .i64 0, .int .i64 0, .int .i64 0, .int .i64 0, .int .i64 0, .int .i64 0, .int .i64 0, .int .i64 0, .int .i64 0, .int .i64 0, .int .i64 0, .string ⟨#[]⟩, .string ⟨#[]⟩, .int .i64 0]], []⟩).memory Tryd.f6.params.toList Rows.fnExactIsValidConsoleSpec.vars false #[.agg #[.int .i64 0, .int .i64 0, .int .i64 0, .int .i64 0, .int .i64 0, .int .i64 0, .int .i64 0, .int .i64 0, .int .i64 0, .int .i64 0, .int .i64 0, .int .i64 0, .int .i64 0, .int .i64 0, .int .i64 0, .int .i64 0, .int .i64 0, .int .i64 0, .string ⟨#[]⟩, .string ⟨#[]⟩, .int .i64 0]].toList 8).isSome = true := by kernel_rfl
set_option maxRecDepth 100000 in
theorem fnExactIsValidConsole_lifted (os : Os) (started : os.Started) (H : Type) (enc : TypeId × Value → H) (F : Stop.Interp) :
    ReturnsInHanded {} Tryd.checked os 6 .any ((OpenSpec.ofChange Rows.fnExactIsValidConsoleSpec).preRow enc Tryd.prog Tryd.f6 Rows.fnExactIsValidConsoleRow.domain false Rows.fnExactIsValidConsoleRow.laid) (((OpenSpec.ofChange Rows.fnExactIsValidConsoleSpec).at F).post enc Tryd.prog Tryd.f6 false true false false) := by
  obtain ⟨x, hx⟩ := Option.isSome_iff_exists.1 (fnExactIsValidConsole_reads os enc)
  refine returnsInHanded_of_row (C := Tryd.checked) (s := OpenSpec.ofChange Rows.fnExactIsValidConsoleSpec) fnExactIsValidConsole_own started (by kernel_rfl) Tryd.func6
    (witness_row_at (enc := enc) (C := Tryd.checked) false (fnExactIsValidConsole_world os) #[.agg #[.int .i64 0, .int .i64 0, .int .i64 0, .int .i64 0, .int .i64 0, .int .i64 0, .int .i64 0, .int .i64 0, .int .i64 0, .int .i64 0, .int .i64 0, .int .i64 0, .int .i64 0, .int .i64 0, .int .i64 0, .int .i64 0, .int .i64 0, .int .i64 0, .string ⟨#[]⟩, .string ⟨#[]⟩, .int .i64 0]] rfl (by kernel_rfl) (by kernel_rfl) (by kernel_rfl)
      (OpenSpec.preRow_of_cond 8 hx (by kernel_rfl) (fun k hk => by cases hk) (by kernel_rfl) (fnExactIsValidConsole_met os))) ?_
  intro W base args ds gs before hval hW _ _ _ hL _ _
  exact law_plain (envOk (fnExactIsValidConsole_tab hL)) (by kernel_rfl) (by kernel_rfl) (show Tryd.prog.underlying 4 = some .bool by kernel_rfl) rfl
    (fun ds hds => by
      have : ds.length = 1 := hds
      match ds, this with
      | [d0], _ => rfl)
    (fun t ht => by
      rw [Tryd.params6] at ht
      simp only [List.mem_cons, List.not_mem_nil, or_false] at ht
      obtain rfl := ht
      kernel_rfl)
    (fun xs has => lawFnExactIsValidConsole xs (by rw [Tryd.params6] at has; exact has)) hval hW
theorem fnExactIsValidConsole_said : Rows.FnExactIsValidConsoleSaid :=
  OpenClaim.holds_of_cond 6 Tryd.f6 rfl rfl rfl rfl rfl rfl rfl ⟨rfl, rfl, rfl, rfl, rfl⟩ rfl rfl rfl rfl rfl (by kernel_rfl) Tryd.func6 (by kernel_rfl)
    (of_decide_eq_true (by kernel_rfl)) (by unfold Func.isWrapper; first | (rw [if_pos (by decide +kernel)]; kernel_rfl) | (rw [if_neg (by decide +kernel)]; exact ⟨rfl, rfl⟩))
    (fun os started H enc _ F => by rw [OpenClaim.pre_eq_preRow]; exact fnExactIsValidConsole_lifted os started H enc F)
theorem fnExactIsValidConsole_plain (f : FuncId) (fn : Func) (hf : Tryd.pinned.checked.prog.funcNamed "loop.example/g01194/laws.FnExactIsValidConsole" = some f) (hfn : Tryd.pinned.checked.prog.funcs[f]? = some fn) :
    false = Tryd.pinned.checked.prog.looks [] ∧ ∀ (j : Nat) t, fn.params[j]? = some t → Tryd.pinned.checked.prog.wantsStandIn t = false := by
  obtain rfl : f = 6 := Option.some.inj ((show Tryd.prog.funcNamed "loop.example/g01194/laws.FnExactIsValidConsole" = some 6 by kernel_rfl).symm.trans hf) |>.symm
  obtain rfl : fn = Tryd.f6 := (Option.some.inj (Tryd.func6.symm.trans hfn)).symm
  refine ⟨by kernel_rfl, fun j t ht => ?_⟩
  rw [Tryd.params6] at ht
  have ht := Array.mem_of_getElem? ht
  simp only [List.mem_toArray, List.mem_cons, List.not_mem_nil, or_false] at ht
  obtain rfl := ht
  exact (show Tryd.prog.wantsStandIn 51 = false by kernel_rfl)
/-- The card. -/
theorem fnExactIsValidConsole_card : Rows.FnExactIsValidConsoleCardSaid :=
  Claim7.holds_tied_plain_at .later [] _ _ _ _ fnExactIsValidConsole_said (fun _ h => by cases h) (by kernel_rfl) (fun _ h => by cases h) fnExactIsValidConsole_row_tie rfl ⟨rfl, rfl⟩ (by kernel_rfl) rfl fnExactIsValidConsole_plain (by kernel_rfl)
end Go.Proofs.YtpmokljbfgeomaaDoor
