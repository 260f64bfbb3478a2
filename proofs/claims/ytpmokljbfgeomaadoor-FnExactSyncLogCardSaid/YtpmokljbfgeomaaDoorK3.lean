/- What is proved here: for each log the law FnExactSyncLog returns true and its argument reads as it did; its conditions are those of the given row: the listed tables read as laid, which the card ties to the program's text. -/
import Derived.Test.YtpmokljbfgeomaaDoorCb
import Derived.Test.YtpmokljbfgeomaaDoorTe
import Derived.Test.YtpmokljbfgeomaaDoorCards
import Derived.Test.YtpmokljbfgeomaaDoorTie
import Derived.WalkKit
import Derived.ProofKit
import Derived.OpenShut
import Derived.Deep.DeepHandedRow
import Derived.Lib.LaidTab
import Derived.Stop.LaidErr
set_option linter.unusedSimpArgs false
set_option linter.unusedVariables false
namespace Go.Proofs.T
open Go Go.AX Go.Proofs
--p
set_option maxRecDepth 100000 in
theorem law3 (xs : List AV) (h : argsOk Tryd.prog [23] xs) : ∃ n, run Γ n 3 xs [] = some (.bool true, []) := by
  obtain ⟨ls, cells, a, r, h1, h2, h3, rfl, h5⟩ := h
  have e : shp Tryd.prog 8 23 = some [.str, .str, .int .i64] := by kernel_rfl
  obtain rfl := Option.some.inj (e.symm.trans h1)
  simp only [argsOk] at h5
  subst h5
  have hu : ∃ fs, Tryd.prog.underlying 23 = some (.struct fs) := ⟨_, Tryd.underlying23⟩
  obtain ⟨fs, hu⟩ := hu
  simp only [avOf, hu] at h3
  subst h3
  obtain ⟨s1, r1, rfl, l1, s2, r2, rfl, l2, n, r3, rfl, l3, rfl⟩ := h2
  exact W_iff.1 (c3 s1 s2 n l1 l2)
end Go.Proofs.T
namespace Go.Proofs.YtpmokljbfgeomaaDoor
open Go.ChangeShapes Go.WideShapes Go.ChangeAt Go.RowKit Go.AX Go.Proofs.T
theorem own : ownKnob Tryd.prog.godebug = none := by kernel_rfl
theorem gTab : Tryd.prog.globalNamed "internal/strconv.uint64pow10" = some 1 := by kernel_rfl
theorem gTabType : (Tryd.prog.globals[1]?).map (·.type) = some 136 := by kernel_rfl
theorem tab_ty : Tryd.prog.underlying 136 = some (.array 20 88) := by kernel_rfl
theorem tab_el : Tryd.prog.underlying 88 = some (.int .u64) := by kernel_rfl
theorem tab_ce : Tryd.prog.cellsOf 88 = 1 := by kernel_rfl
theorem tab_ct : Tryd.prog.cellsOf 136 = 20 := by kernel_rfl
theorem eTab : (Rows.laid_internal_strconv_uint64pow10 : DataW Unit) = Lib.tabData .u64 Lib.pow10Tab := by kernel_rfl
theorem fnExactSyncLog_tab {W : World} (h : laidMetH Tryd.prog Rows.fnExactSyncLogRow.laid W) : Lib.TabIs Tryd.prog W "internal/strconv.uint64pow10" .u64 Lib.pow10Tab := by
  have h2 : laidMet Tryd.prog [_, _, ("internal/strconv.uint64pow10", Rows.laid_internal_strconv_uint64pow10)] W := h
  rw [eTab] at h2
  exact Lib.tabIs_of_head gTab gTabType tab_ty tab_el tab_ce tab_ct h2.tail.tail
noncomputable def fnExactSyncLog_world (os : Os) : World := { (World.holding Tryd.prog os ⟨#[], #[], []⟩) with heap := ((((World.holding Tryd.prog os ⟨#[], #[], []⟩).heap.modify 1 fun | .cells _ t frozen => .cells #[.int .u64 1, .int .u64 10, .int .u64 100, .int .u64 1000, .int .u64 10000, .int .u64 100000, .int .u64 1000000, .int .u64 10000000, .int .u64 100000000, .int .u64 1000000000, .int .u64 10000000000, .int .u64 100000000000, .int .u64 1000000000000, .int .u64 10000000000000, .int .u64 100000000000000, .int .u64 1000000000000000, .int .u64 10000000000000000, .int .u64 100000000000000000, .int .u64 1000000000000000000, .int .u64 10000000000000000000] t frozen | o => o).modify 2 fun | .cells _ t frozen => .cells #[.int .u8 0, .int .u8 1, .int .u8 28, .int .u8 2, .int .u8 29, .int .u8 14, .int .u8 24, .int .u8 3, .int .u8 30, .int .u8 22, .int .u8 20, .int .u8 15, .int .u8 25, .int .u8 17, .int .u8 4, .int .u8 8, .int .u8 31, .int .u8 27, .int .u8 13, .int .u8 23, .int .u8 21, .int .u8 19, .int .u8 16, .int .u8 7, .int .u8 26, .int .u8 12, .int .u8 18, .int .u8 6, .int .u8 11, .int .u8 5, .int .u8 10, .int .u8 9] t frozen | o => o).modify 3 fun | .cells _ t frozen => .cells #[.int .u8 0, .int .u8 1, .int .u8 56, .int .u8 2, .int .u8 57, .int .u8 49, .int .u8 28, .int .u8 3, .int .u8 61, .int .u8 58, .int .u8 42, .int .u8 50, .int .u8 38, .int .u8 29, .int .u8 17, .int .u8 4, .int .u8 62, .int .u8 47, .int .u8 59, .int .u8 36, .int .u8 45, .int .u8 43, .int .u8 51, .int .u8 22, .int .u8 53, .int .u8 39, .int .u8 33, .int .u8 30, .int .u8 24, .int .u8 18, .int .u8 12, .int .u8 5, .int .u8 63, .int .u8 55, .int .u8 48, .int .u8 27, .int .u8 60, .int .u8 41, .int .u8 37, .int .u8 16, .int .u8 46, .int .u8 35, .int .u8 44, .int .u8 21, .int .u8 52, .int .u8 32, .int .u8 23, .int .u8 11, .int .u8 54, .int .u8 26, .int .u8 40, .int .u8 15, .int .u8 34, .int .u8 20, .int .u8 31, .int .u8 10, .int .u8 25, .int .u8 14, .int .u8 19, .int .u8 9, .int .u8 13, .int .u8 8, .int .u8 7, .int .u8 6] t frozen | o => o) }
theorem fnExactSyncLog_met (os : Os) : laidMet Tryd.prog Rows.fnExactSyncLogRow.laid ((fnExactSyncLog_world os).forCall (fun _ _ => 0) ⟨#[], #[.agg #[.string ⟨#[]⟩, .string ⟨#[]⟩, .int .i64 0]], []⟩).memory :=
  laidMet_of_run' 8 (by kernel_rfl) (by kernel_rfl)
theorem fnExactSyncLog_reads (os : Os) {H : Type} (enc : TypeId × Value → H) : (DataW.whole enc Tryd.prog ((fnExactSyncLog_world os).forCall (fun _ _ => 0) ⟨#[], #[.agg #[.string ⟨#[]⟩, .string ⟨#[]⟩, .int .i64 0]], []⟩).memory Tryd.f3.params.toList Rows.fnExactSyncLogSpec.vars false #[.agg #[.string ⟨#[]⟩, .string ⟨#[]⟩, .int .i64 0]].toList 8).isSome = true := by kernel_rfl
set_option maxRecDepth 100000 in
theorem fnExactSyncLog_lifted (os : Os) (started : os.Started) (H : Type) (enc : TypeId × Value → H) (F : Stop.Interp) :
    ReturnsInHanded {} Tryd.checked os 3 .any ((OpenSpec.ofChange Rows.fnExactSyncLogSpec).preRow enc Tryd.prog Tryd.f3 Rows.fnExactSyncLogRow.domain false Rows.fnExactSyncLogRow.laid) (((OpenSpec.ofChange Rows.fnExactSyncLogSpec).at F).post enc Tryd.prog Tryd.f3 false true false false) := by
  obtain ⟨x, hx⟩ := Option.isSome_iff_exists.1 (fnExactSyncLog_reads os enc)
  refine returnsInHanded_of_row (C := Tryd.checked) (s := OpenSpec.ofChange Rows.fnExactSyncLogSpec) own started (by kernel_rfl) Tryd.func3
    (witness_row_at (enc := enc) (C := Tryd.checked) false (fnExactSyncLog_world os) #[.agg #[.string ⟨#[]⟩, .string ⟨#[]⟩, .int .i64 0]] rfl (by kernel_rfl) (by kernel_rfl) (by kernel_rfl)
      (OpenSpec.preRow_of_cond 8 hx (by kernel_rfl) (fun k hk => by cases hk) (by kernel_rfl) (fnExactSyncLog_met os))) ?_
  intro W base args ds gs before hval hW _ _ _ hL _ _
  exact law_plain (envOk (fnExactSyncLog_tab hL)) (by kernel_rfl) (by kernel_rfl) (show Tryd.prog.underlying 4 = some .bool by kernel_rfl) rfl
    (fun ds hds => by
      have : ds.length = 1 := hds
      match ds, this with
      | [d0], _ => rfl)
    (fun t ht => by
      rw [Tryd.params3] at ht
      simp only [List.mem_cons, List.not_mem_nil, or_false] at ht
      obtain rfl := ht
      kernel_rfl)
    (fun xs has => law3 xs (by rw [Tryd.params3] at has; exact has)) hval hW
theorem fnExactSyncLog_said : Rows.FnExactSyncLogSaid :=
  OpenClaim.holds_of_cond 3 Tryd.f3 rfl rfl rfl rfl rfl rfl rfl ⟨rfl, rfl, rfl, rfl, rfl⟩ rfl rfl rfl rfl rfl (by kernel_rfl) Tryd.func3 (by kernel_rfl)
    (of_decide_eq_true (by kernel_rfl)) (by unfold Func.isWrapper; first | (rw [if_pos (by decide +kernel)]; kernel_rfl) | (rw [if_neg (by decide +kernel)]; exact ⟨rfl, rfl⟩))
    (fun os started H enc _ F => by rw [OpenClaim.pre_eq_preRow]; exact fnExactSyncLog_lifted os started H enc F)
theorem fnExactSyncLog_plain (f : FuncId) (fn : Func) (hf : Tryd.pinned.checked.prog.funcNamed "loop.example/g01194/laws.FnExactSyncLog" = some f) (hfn : Tryd.pinned.checked.prog.funcs[f]? = some fn) :
    false = Tryd.pinned.checked.prog.looks [] ∧ ∀ (j : Nat) t, fn.params[j]? = some t → Tryd.pinned.checked.prog.wantsStandIn t = false := by
  obtain rfl : f = 3 := Option.some.inj ((show Tryd.prog.funcNamed "loop.example/g01194/laws.FnExactSyncLog" = some 3 by kernel_rfl).symm.trans hf) |>.symm
  obtain rfl : fn = Tryd.f3 := (Option.some.inj (Tryd.func3.symm.trans hfn)).symm
  refine ⟨by kernel_rfl, fun j t ht => ?_⟩
  rw [Tryd.params3] at ht
  have ht := Array.mem_of_getElem? ht
  simp only [List.mem_toArray, List.mem_cons, List.not_mem_nil, or_false] at ht
  obtain rfl := ht
  exact (show Tryd.prog.wantsStandIn 23 = false by kernel_rfl)
/-- The card. -/
theorem fnExactSyncLog_card : Rows.FnExactSyncLogCardSaid :=
  Claim7.holds_tied_plain_at .later [] _ _ _ _ fnExactSyncLog_said (fun _ h => by cases h) (by kernel_rfl) (fun _ h => by cases h) fnExactSyncLog_row_tie rfl ⟨rfl, rfl⟩ (by kernel_rfl) rfl fnExactSyncLog_plain (by kernel_rfl)
end Go.Proofs.YtpmokljbfgeomaaDoor
