/- What is proved here: for all arguments the law FnExactLogRecords returns true and its arguments read as they did; its conditions are those of the given row: the listed tables read as laid, which the card ties to the program's text. -/
import Derived.Test.YtpmokljbfgeomaaDoorC1
import Derived.Test.YtpmokljbfgeomaaDoorTe
import Derived.Test.YtpmokljbfgeomaaDoorCards
import Derived.Test.YtpmokljbfgeomaaDoorTie
import Derived.WalkKit
import Derived.ProofKit
import Derived.OpenShut
import Derived.Deep.DeepHandedRow
import Derived.Lib.LaidTab
import Derived.Stop.LaidErr
set_option linter.unusedSimpArgs false
set_option linter.unusedVariables false
namespace Go.Proofs.T
open Go Go.AX Go.Proofs
set_option maxRecDepth 100000 in
theorem lawFnExactLogRecords (xs : List AV) (h : argsOk Tryd.prog [23] xs) : ∃ n, run Γ n 5 xs [] = some (.bool true, []) := by
  obtain ⟨ls0, cs0, a0, r0, h1, h2, h3, rfl, h⟩ := h
  obtain rfl := Option.some.inj ((show shp Tryd.prog 8 23 = some [.str, .str, .int .i64] by kernel_rfl).symm.trans h1)
  obtain ⟨v0_0, _, rfl, l0_0, ⟨v0_1, _, rfl, l0_1, ⟨v0_2, _, rfl, w0_2, rfl⟩⟩⟩ := h2
  simp only [avOf, Tryd.underlying23] at h3
  subst h3
  simp only [argsOk] at h
  subst h
  exact W_iff.1 (c5 v0_0 v0_1 v0_2 l0_0 l0_1)
end Go.Proofs.T
namespace Go.Proofs.YtpmokljbfgeomaaDoor
open Go.ChangeShapes Go.WideShapes Go.ChangeAt Go.RowKit Go.AX Go.Proofs.T
theorem fnExactLogRecords_own : ownKnob Tryd.prog.godebug = none := by kernel_rfl
theorem fnExactLogRecords_eTab : (Rows.laid_internal_strconv_uint64pow10 : DataW Unit) = Lib.tabData .u64 Lib.pow10Tab := by kernel_rfl
theorem fnExactLogRecords_tab {W : World} (h : laidMetH Tryd.prog Rows.fnExactLogRecordsRow.laid W) : Lib.TabIs Tryd.prog W "internal/strconv.uint64pow10" .u64 Lib.pow10Tab := by
  have h2 : laidMet Tryd.prog [_, _, ("internal/strconv.uint64pow10", Rows.laid_internal_strconv_uint64pow10)] W := h
  rw [fnExactLogRecords_eTab] at h2
  exact Lib.tabIs_of_head (show Tryd.prog.globalNamed "internal/strconv.uint64pow10" = some 1 by kernel_rfl) (show (Tryd.prog.globals[1]?).map (·.type) = some 136 by kernel_rfl) (show Tryd.prog.underlying 136 = some (.array 20 88) by kernel_rfl) (show Tryd.prog.underlying 88 = some (.int .u64) by kernel_rfl) (show Tryd.prog.cellsOf 88 = 1 by kernel_rfl) (show Tryd.prog.cellsOf 136 = 20 by kernel_rfl) h2.tail.tail
noncomputable def fnExactLogRecords_world (os : Os) : World := { (World.holding Tryd.prog os ⟨#[], #[], []⟩) with heap := ((((World.holding Tryd.prog os ⟨#[], #[], []⟩).heap.modify 2 fun | .cells _ t frozen => .cells #[.int .u8 0, .int .u8 1, .int .u8 28, .int .u8 2, .int .u8 29, .int .u8 14, .int .u8 24, .int .u8 3, .int .u8 30, .int .u8 22, .int .u8 20, .int .u8 15, .int .u8 25, .int .u8 17, .int .u8 4, .int .u8 8, .int .u8 31, .int .u8 27, .int .u8 13, .int .u8 23, .int .u8 21, .int .u8 19, .int .u8 16, .int .u8 7, .int .u8 26, .int .u8 12, .int .u8 18, .int .u8 6, .int .u8 11, .int .u8 5, .int .u8 10, .int .u8 9] t frozen | o => o).modify 3 fun | .cells _ t frozen => .cells #[.int .u8 0, .int .u8 1, .int .u8 56, .int .u8 2, .int .u8 57, .int .u8 49, .int .u8 28, .int .u8 3, .int .u8 61, .int .u8 58, .int .u8 42, .int .u8 50, .int .u8 38, .int .u8 29, .int .u8 17, .int .u8 4, .int .u8 62, .int .u8 47, .int .u8 59, .int .u8 36, .int .u8 45, .int .u8 43, .int .u8 51, .int .u8 22, .int .u8 53, .int .u8 39, .int .u8 33, .int .u8 30, .int .u8 24, .int .u8 18, .int .u8 12, .int .u8 5, .int .u8 63, .int .u8 55, .int .u8 48, .int .u8 27, .int .u8 60, .int .u8 41, .int .u8 37, .int .u8 16, .int .u8 46, .int .u8 35, .int .u8 44, .int .u8 21, .int .u8 52, .int .u8 32, .int .u8 23, .int .u8 11, .int .u8 54, .int .u8 26, .int .u8 40, .int .u8 15, .int .u8 34, .int .u8 20, .int .u8 31, .int .u8 10, .int .u8 25, .int .u8 14, .int .u8 19, .int .u8 9, .int .u8 13, .int .u8 8, .int .u8 7, .int .u8 6] t frozen | o => o).modify 1 fun | .cells _ t frozen => .cells #[.int .u64 1, .int .u64 10, .int .u64 100, .int .u64 1000, .int .u64 10000, .int .u64 100000, .int .u64 1000000, .int .u64 10000000, .int .u64 100000000, .int .u64 1000000000, .int .u64 10000000000, .int .u64 100000000000, .int .u64 1000000000000, .int .u64 10000000000000, .int .u64 100000000000000, .int .u64 1000000000000000, .int .u64 10000000000000000, .int .u64 100000000000000000, .int .u64 1000000000000000000, .int .u64 10000000000000000000] t frozen | o => o) }
theorem fnExactLogRecords_met (os : Os) : laidMet Tryd.prog Rows.fnExactLogRecordsRow.laid ((fnExactLogRecords_world os).forCall (fun _ _ => 0) ⟨#[], #[.agg #[.string ⟨#[]⟩, .string ⟨#[]⟩, .int .i64 0]], []⟩).memory :=
  laidMet_of_run' 8 (by kernel_rfl) (by kernel_rfl)
theorem fnExactLogRecords_reads (os : Os) {H : Type} (enc : TypeId × Value → H) : (DataW.whole enc Tryd.prog ((fnExactLogRecords_world os).forCall (fun _ _ => 0) ⟨#[], #[.agg #[.string ⟨#[]⟩, .string ⟨#[]⟩, .int .i64 0]], []⟩).memory Tryd.f5.params.toList Rows.fnExactLogRecordsSpec.vars false #[.agg #[.string ⟨#[]⟩, .string ⟨#[]⟩, .int .i64 0]].toList 8).isSome = true := by kernel_rfl
set_option maxRecDepth 100000 in
theorem fnExactLogRecords_lifted (os : Os) (started : os.Started) (H : Type) (enc : TypeId × Value → H) (F : Stop.Interp) :
    ReturnsInHanded {} Tryd.checked os 5 .any ((OpenSpec.ofChange Rows.fnExactLogRecordsSpec).preRow enc Tryd.prog Tryd.f5 Rows.fnExactLogRecordsRow.domain false Rows.fnExactLogRecordsRow.laid) (((OpenSpec.ofChange Rows.fnExactLogRecordsSpec).at F).post enc Tryd.prog Tryd.f5 false true false false) := by
  obtain ⟨x, hx⟩ := Option.isSome_iff_exists.1 (fnExactLogRecords_reads os enc)
  refine returnsInHanded_of_row (C := Tryd.checked) (s := OpenSpec.ofChange Rows.fnExactLogRecordsSpec) fnExactLogRecords_own started (by kernel_rfl) Tryd.func5
    (witness_row_at (enc := enc) (C := Tryd.checked) false (fnExactLogRecords_world os) #[.agg #[.string ⟨#[]⟩, .string ⟨#[]⟩, .int .i64 0]] rfl (by kernel_rfl) (by kernel_rfl) (by kernel_rfl)
      (OpenSpec.preRow_of_cond 8 hx (by kernel_rfl) (fun k hk => by cases hk) (by kernel_rfl) (fnExactLogRecords_met os))) ?_
  intro W base args ds gs before hval hW _ _ _ hL _ _
  exact law_plain (envOk (fnExactLogRecords_tab hL)) (by kernel_rfl) (by kernel_rfl) (show Tryd.prog.underlying 4 = some .bool by kernel_rfl) rfl
    (fun ds hds => by
      have : ds.length = 1 := hds
      match ds, this with
      | [d0], _ => rfl)
    (fun t ht => by
      rw [Tryd.params5] at ht
      simp only [List.mem_cons, List.not_mem_nil, or_false] at ht
      obtain rfl := ht
      kernel_rfl)
    (fun xs has => lawFnExactLogRecords xs (by rw [Tryd.params5] at has; exact has)) hval hW
theorem fnExactLogRecords_said : Rows.FnExactLogRecordsSaid :=
  OpenClaim.holds_of_cond 5 Tryd.f5 rfl rfl rfl rfl rfl rfl rfl ⟨rfl, rfl, rfl, rfl, rfl⟩ rfl rfl rfl rfl rfl (by kernel_rfl) Tryd.func5 (by kernel_rfl)
    (of_decide_eq_true (by kernel_rfl)) (by unfold Func.isWrapper; first | (rw [if_pos (by decide +kernel)]; kernel_rfl) | (rw [if_neg (by decide +kernel)]; exact ⟨rfl, rfl⟩))
    (fun os started H enc _ F => by rw [OpenClaim.pre_eq_preRow]; exact fnExactLogRecords_lifted os started H enc F)
theorem fnExactLogRecords_plain (f : FuncId) (fn : Func) (hf : Tryd.pinned.checked.prog.funcNamed "loop.example/g01194/laws.FnExactLogRecords" = some f) (hfn : Tryd.pinned.checked.prog.funcs[f]? = some fn) :
    false = Tryd.pinned.checked.prog.looks [] ∧ ∀ (j : Nat) t, fn.params[j]? = some t → Tryd.pinned.checked.prog.wantsStandIn t = false := by
  obtain rfl : f = 5 := Option.some.inj ((show Tryd.prog.funcNamed "loop.example/g01194/laws.FnExactLogRecords" = some 5 by kernel_rfl).symm.trans hf) |>.symm
  obtain rfl : fn = Tryd.f5 := (Option.some.inj (Tryd.func5.symm.trans hfn)).symm
  refine ⟨by kernel_rfl, fun j t ht => ?_⟩
  rw [Tryd.params5] at ht
  have ht := Array.mem_of_getElem? ht
  simp only [List.mem_toArray, List.mem_cons, List.not_mem_nil, or_false] at ht
  obtain rfl := ht
  exact (show Tryd.prog.wantsStandIn 23 = false by kernel_rfl)
/-- The card. -/
theorem fnExactLogRecords_card : Rows.FnExactLogRecordsCardSaid :=
  Claim7.holds_tied_plain_at .later [] _ _ _ _ fnExactLogRecords_said (fun _ h => by cases h) (by kernel_rfl) (fun _ h => by cases h) fnExactLogRecords_row_tie rfl ⟨rfl, rfl⟩ (by kernel_rfl) rfl fnExactLogRecords_plain (by kernel_rfl)
end Go.Proofs.YtpmokljbfgeomaaDoor
