/- What is proved here: for all arguments the law FnCrashes returns true and its arguments read as they did; its conditions are those of the given row: the listed tables read as laid, which the card ties to the program's text. -/
import Derived.Test.YtpmokljbfgeomaaDoorC2
import Derived.Lib.LaidTab
import Derived.Test.YtpmokljbfgeomaaDoorTe
import Derived.Test.YtpmokljbfgeomaaDoorCards
import Derived.Test.YtpmokljbfgeomaaDoorTie
import Derived.WalkKit
import Derived.ProofKit
import Derived.OpenShut
import Derived.Deep.DeepHandedRow
import Derived.Stop.LaidErr
set_option linter.unusedSimpArgs false
set_option linter.unusedVariables false
namespace Go.Proofs.T
open Go Go.AX Go.Proofs
set_option maxRecDepth 100000 in
theorem lawFnCrashes (xs : List AV) (σ : Store) (h : argsOk2 Tryd.prog [61] 0 xs σ) : ∃ n σ', run Γ n 8 xs σ = some (.bool true, σ') := by
  obtain ⟨ks, cells, a, r, σ1, σ2, h1, h2, h3, rfl, rfl, h5⟩ := h
  obtain rfl := Option.some.inj ((show shp2 Tryd.prog 8 61 = some [.s [.int .u8]] by kernel_rfl).symm.trans h1)
  simp only [avOf, Tryd.underlying61] at h3
  obtain ⟨rfl, rfl⟩ := h5
  obtain ⟨c, rfl, rfl⟩ := code_args h2 h3
  obtain ⟨σ', e⟩ := c8 c
  obtain ⟨n, hn⟩ := W_iff.1 e
  exact ⟨n, σ', by rw [List.append_nil]; exact hn⟩
end Go.Proofs.T
namespace Go.Proofs.YtpmokljbfgeomaaDoor
open Go.ChangeShapes Go.WideShapes Go.ChangeAt Go.RowKit Go.AX Go.Proofs.T
theorem fnCrashes_own : ownKnob Tryd.prog.godebug = none := by kernel_rfl
theorem fnCrashes_eTab : (Rows.laid_internal_strconv_uint64pow10 : DataW Unit) = Lib.tabData .u64 Lib.pow10Tab := by kernel_rfl
theorem fnCrashes_tab {W : World} (h : laidMetH Tryd.prog Rows.fnCrashesRow.laid W) : Lib.TabIs Tryd.prog W "internal/strconv.uint64pow10" .u64 Lib.pow10Tab := by
  have h2 : laidMet Tryd.prog [_, _, ("internal/strconv.uint64pow10", Rows.laid_internal_strconv_uint64pow10)] W := h
  rw [fnCrashes_eTab] at h2
  exact Lib.tabIs_of_head (show Tryd.prog.globalNamed "internal/strconv.uint64pow10" = some 1 by kernel_rfl) (show (Tryd.prog.globals[1]?).map (·.type) = some 136 by kernel_rfl) (show Tryd.prog.underlying 136 = some (.array 20 88) by kernel_rfl) (show Tryd.prog.underlying 88 = some (.int .u64) by kernel_rfl) (show Tryd.prog.cellsOf 88 = 1 by kernel_rfl) (show Tryd.prog.cellsOf 136 = 20 by kernel_rfl) h2.tail.tail
noncomputable def fnCrashes_world (os : Os) : World := { (World.holding Tryd.prog os ⟨#[], #[], []⟩) with heap := ((((World.holding Tryd.prog os ⟨#[], #[], []⟩).heap.modify 2 fun | .cells _ t frozen => .cells #[.int .u8 0, .int .u8 1, .int .u8 28, .int .u8 2, .int .u8 29, .int .u8 14, .int .u8 24, .int .u8 3, .int .u8 30, .int .u8 22, .int .u8 20, .int .u8 15, .int .u8 25, .int .u8 17, .int .u8 4, .int .u8 8, .int .u8 31, .int .u8 27, .int .u8 13, .int .u8 23, .int .u8 21, .int .u8 19, .int .u8 16, .int .u8 7, .int .u8 26, .int .u8 12, .int .u8 18, .int .u8 6, .int .u8 11, .int .u8 5, .int .u8 10, .int .u8 9] t frozen | o => o).modify 3 fun | .cells _ t frozen => .cells #[.int .u8 0, .int .u8 1, .int .u8 56, .int .u8 2, .int .u8 57, .int .u8 49, .int .u8 28, .int .u8 3, .int .u8 61, .int .u8 58, .int .u8 42, .int .u8 50, .int .u8 38, .int .u8 29, .int .u8 17, .int .u8 4, .int .u8 62, .int .u8 47, .int .u8 59, .int .u8 36, .int .u8 45, .int .u8 43, .int .u8 51, .int .u8 22, .int .u8 53, .int .u8 39, .int .u8 33, .int .u8 30, .int .u8 24, .int .u8 18, .int .u8 12, .int .u8 5, .int .u8 63, .int .u8 55, .int .u8 48, .int .u8 27, .int .u8 60, .int .u8 41, .int .u8 37, .int .u8 16, .int .u8 46, .int .u8 35, .int .u8 44, .int .u8 21, .int .u8 52, .int .u8 32, .int .u8 23, .int .u8 11, .int .u8 54, .int .u8 26, .int .u8 40, .int .u8 15, .int .u8 34, .int .u8 20, .int .u8 31, .int .u8 10, .int .u8 25, .int .u8 14, .int .u8 19, .int .u8 9, .int .u8 13, .int .u8 8, .int .u8 7, .int .u8 6] t frozen | o => o).modify 1 fun | .cells _ t frozen => .cells #[.int .u64 1, .int .u64 10, .int .u64 100, .int .u64 1000, .int .u64 10000, .int .u64 100000, .int .u64 1000000, .int .u64 10000000, .int .u64 100000000, .int .u64 1000000000, .int .u64 10000000000, .int .u64 100000000000, .int .u64 1000000000000, .int .u64 10000000000000, .int .u64 100000000000000, .int .u64 1000000000000000, .int .u64 10000000000000000, .int .u64 100000000000000000, .int .u64 1000000000000000000, .int .u64 10000000000000000000] t frozen | o => o) }
theorem fnCrashes_met (os : Os) : laidMet Tryd.prog Rows.fnCrashesRow.laid ((fnCrashes_world os).forCall (fun _ _ => 0) ⟨#[], #[.slice none 0 0], []⟩).memory :=
  laidMet_of_run' 8 (by kernel_rfl) (by kernel_rfl)
theorem fnCrashes_reads (os : Os) {H : Type} (enc : TypeId × Value → H) : (DataW.whole enc Tryd.prog ((fnCrashes_world os).forCall (fun _ _ => 0) ⟨#[], #[.slice none 0 0], []⟩).memory Tryd.f8.params.toList Rows.fnCrashesSpec.vars false #[.slice none 0 0].toList 8).isSome = true := by kernel_rfl
set_option maxRecDepth 100000 in
theorem fnCrashes_lifted (os : Os) (started : os.Started) (H : Type) (enc : TypeId × Value → H) (F : Stop.Interp) :
    ReturnsInHanded {} Tryd.checked os 8 .any ((OpenSpec.ofChange Rows.fnCrashesSpec).preRow enc Tryd.prog Tryd.f8 Rows.fnCrashesRow.domain false Rows.fnCrashesRow.laid) (((OpenSpec.ofChange Rows.fnCrashesSpec).at F).post enc Tryd.prog Tryd.f8 false true false false) := by
  obtain ⟨x, hx⟩ := Option.isSome_iff_exists.1 (fnCrashes_reads os enc)
  refine returnsInHanded_of_row (C := Tryd.checked) (s := OpenSpec.ofChange Rows.fnCrashesSpec) fnCrashes_own started (by kernel_rfl) Tryd.func8
    (witness_row_at (enc := enc) (C := Tryd.checked) false (fnCrashes_world os) #[.slice none 0 0] rfl (by kernel_rfl) (by kernel_rfl) (by kernel_rfl)
      (OpenSpec.preRow_of_cond 8 hx (by kernel_rfl) (fun k hk => by cases hk) (by kernel_rfl) (fnCrashes_met os))) ?_
  intro W base args ds gs before hval hW _ _ _ hL _ _
  exact law_slices (envOk (fnCrashes_tab hL)) (tab_pos (fnCrashes_tab hL)) (by kernel_rfl) (by kernel_rfl) (show Tryd.prog.underlying 4 = some .bool by kernel_rfl) rfl
    (fun ds hds => by
      have : ds.length = 1 := hds
      match ds, this with
      | [d0], _ => rfl)
    (by kernel_rfl)
    (fun t ht => by
      rw [Tryd.params8] at ht
      simp only [List.mem_cons, List.not_mem_nil, or_false] at ht
      obtain rfl := ht
      exact ⟨by kernel_rfl, by decide +kernel⟩)
    (fun t ht => by
      rw [Tryd.params8] at ht
      simp only [List.mem_cons, List.not_mem_nil, or_false] at ht
      obtain rfl := ht
      kernel_rfl)
    (fun xs σ has => lawFnCrashes xs σ (by rw [Tryd.params8] at has; exact has)) hval hW
theorem fnCrashes_said : Rows.FnCrashesSaid :=
  OpenClaim.holds_of_cond 8 Tryd.f8 rfl rfl rfl rfl rfl rfl rfl ⟨rfl, rfl, rfl, rfl, rfl⟩ rfl rfl rfl rfl rfl (by kernel_rfl) Tryd.func8 (by kernel_rfl)
    (of_decide_eq_true (by kernel_rfl)) (by unfold Func.isWrapper; first | (rw [if_pos (by decide +kernel)]; kernel_rfl) | (rw [if_neg (by decide +kernel)]; exact ⟨rfl, rfl⟩))
    (fun os started H enc _ F => by rw [OpenClaim.pre_eq_preRow]; exact fnCrashes_lifted os started H enc F)
theorem fnCrashes_plain (f : FuncId) (fn : Func) (hf : Tryd.pinned.checked.prog.funcNamed "loop.example/g01194/laws.FnCrashes" = some f) (hfn : Tryd.pinned.checked.prog.funcs[f]? = some fn) :
    false = Tryd.pinned.checked.prog.looks [] ∧ ∀ (j : Nat) t, fn.params[j]? = some t → Tryd.pinned.checked.prog.wantsStandIn t = false := by
  obtain rfl : f = 8 := Option.some.inj ((show Tryd.prog.funcNamed "loop.example/g01194/laws.FnCrashes" = some 8 by kernel_rfl).symm.trans hf) |>.symm
  obtain rfl : fn = Tryd.f8 := (Option.some.inj (Tryd.func8.symm.trans hfn)).symm
  refine ⟨by kernel_rfl, fun j t ht => ?_⟩
  rw [Tryd.params8] at ht
  have ht := Array.mem_of_getElem? ht
  simp only [List.mem_toArray, List.mem_cons, List.not_mem_nil, or_false] at ht
  obtain rfl := ht
  exact (show Tryd.prog.wantsStandIn 61 = false by kernel_rfl)
/-- The card. -/
theorem fnCrashes_card : Rows.FnCrashesCardSaid :=
  Claim7.holds_tied_plain_at .later [] _ _ _ _ fnCrashes_said (fun _ h => by cases h) (by kernel_rfl) (fun _ h => by cases h) fnCrashes_row_tie rfl ⟨rfl, rfl⟩ (by kernel_rfl) rfl fnCrashes_plain (by kernel_rfl)
end Go.Proofs.YtpmokljbfgeomaaDoor
