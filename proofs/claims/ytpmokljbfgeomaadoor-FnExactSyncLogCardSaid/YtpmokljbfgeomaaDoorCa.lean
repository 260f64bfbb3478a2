/- What is proved here: what functions on records and logs return; the conditions are bounds on lengths, written in each theorem. -/
import Derived.Test.YtpmokljbfgeomaaDoorTe
set_option linter.unusedSimpArgs false
set_option linter.unusedVariables false
namespace Go.Proofs.T
open Go Go.AX Go.Proofs
attribute [local go_sem] run_nil run_p run_m run_c run_g next_some pnext_some gd_tt gd_ff gd_tf gd_ft gd_tup crun_fn gets getO tg setD_some setD_none nz_some fin_some tgs zt argT x_ops x_draw0 x_seq x_cond x_block X_exit X_skip X_ret andThen_norm andThen_exit andThen_ret sel_true sel_false outOf_norm outOf_exit outOf_ret leave_ret leave_norm frees
attribute [local go_sem] pk_true pk_false pk_bool aggO_some p_mv p_pick p_build p_nilCheck p_nilCheckf p_not p_neg p_convInt p_convStr p_mkfn p_fieldAddr p_indexArr p_indexRow p_indexSl p_indexAgg1 p_indexAgg2 p_indexStr p_sliceStr p_sliceStrL p_sliceStrH p_sliceStrLH p_extract p_lenStr p_lenRow p_lenSl p_lenNil p_lenArr p_min p_max p_iface p_bin
attribute [local go_sem] b_add b_sub b_mul b_quo b_rem b_and b_or b_xor b_andNot b_shl b_shr b_eql b_neq b_lss b_leq b_gtr b_geq b_seql b_sneq b_beql b_bneq b_aeql b_aneq b_ieql b_ineq b_neql b_nneq
attribute [local go_sem] finish_eq finO_some one_one one_nil one_more consO_some rvs_nil rvs_cons rv_t rv_c rvc_true rvc_false rvl1_live rvl2_live norm_nrm0 nrm0_nil nrm0_cons nrmG_some AV.locs AV.locsL AV.rn AV.rnL call0_nil call0_cons call1_some place_nil placed_nil place_some put2_some new_nil new_cons new1_free partF_pfin pfin_eq clB_dead clB_live closedB_cons closedB_nil locs_live locs_dead blk_flat blk_deep sl_flat sl_deep sl_dead wholeB_live wholeB_dead wholeB_nil reach memN subN nodupB idx nthN view allIn gt pt rangeN
attribute [local go_sem] pn_zero pns_some pn_succ withV_some m_alloc boxed_cons m_box built_some m_build ldc_some ld1_live m_load1 ld2_live m_load2 st1_live m_store ap1_live m_append ap0_live m_append0 m_bytes m_make AV.cells fillA flatB
attribute [local go_sem] foot_g gdF_tt gdF_ff gdF_tf gdF_ft gdF_tup consF_some nextF_some pnextF_some foot_nil foot_p foot_m foot_c finF_some x_draw cfoot_fn cfoot0_some f_load f_store f_alloc f_box f_bytes f_build f_append pairsOk disj nthF
attribute [local congr] lazy_gdF lazy_consF lazy_nextF lazy_pnextF lazy_finF lazy_opsFoot
attribute [local congr] lazy_gd lazy_sel lazy_next lazy_pnext lazy_nz lazy_fin lazy_andThen lazy_outOf lazy_leave lazy_rnd lazy_X lazy_opsRun
attribute [local go_sem] List.length_cons List.length_nil List.nil_append List.cons_append List.append_nil List.append_assoc if_true if_false decide_true decide_false Bool.not_true Bool.not_false Bool.true_and Bool.and_true Bool.false_and Bool.and_false Bool.true_or Bool.or_true Bool.false_or Bool.or_false and_self true_and and_true false_and and_false or_true true_or or_false false_or not_true not_false_eq_true Int.toNat_natCast Option.map_some Option.map_none List.drop_zero List.take_zero List.drop_succ_cons List.take_succ_cons List.getElem?_cons_zero List.getElem?_cons_succ ge_iff_le gt_iff_lt Nat.le_refl Int.le_refl decide_eq_true_eq Bool.decide_eq_true reduceCtorEq Int.natCast_nonneg Int.ofNat_lt Int.ofNat_le Int.lt_irrefl Nat.lt_irrefl List.isEmpty_nil List.isEmpty_cons Bool.and_self ne_eq List.all_cons List.all_nil AV.one implies_true not_true_eq_false imp_self forall_const
theorem wrapi {n : Int} (h : -9223372036854775808 ≤ n) (h' : n ≤ 9223372036854775807) : IntKind.i64.wrap n = n := by rw [IntKind.wrap_i64]; omega

theorem saddC {ty : ETy} {x y : List UInt8} (h : x.length + y.length ≤ 9223372036854775807) : pbin .add ty (.str x) (.str y) = some (.str (x ++ y)) := by rw [b_sadd, if_pos h]
theorem c58 (a lo hi : Int) : W Γ 58 [.int .i64 a, .int .i64 lo, .int .i64 hi] [] = some (.bool (decide (lo ≤ a) && decide (a ≤ hi)), []) := by
  rw [W_code (fd := d58) rfl]
  by_cases h : lo ≤ a <;> simp [go_sem, wrapi, d58, h]
theorem c61 (a lo hi : Int) : W Γ 61 [.int .i64 a, .int .i64 lo, .int .i64 hi] [] = some (.bool (decide (lo ≤ a) && decide (a ≤ hi)), []) := by
  rw [W_code (fd := d61) rfl]
  by_cases h : lo ≤ a <;> simp [go_sem, wrapi, d61, h]

/-- The bound that no string of these laws outgrows. -/
abbrev Short (s : List UInt8) : Prop := s.length ≤ 4611686018427387904

theorem step_at {s : List UInt8} {i : Nat} (h : i < s.length) : s.drop i = s[i] :: s.drop (i + 1) := List.drop_eq_getElem_cons h

theorem loop71 (s : List UInt8) (b : UInt8) (hs : Short s) : ∀ (k i : Nat), i + k = s.length →
    outOf 0 0 [] (rnd (W Γ) 0 l71_0 [0, 1, 5] b71_0 (some ([.str s, .int .u8 b.toNat, .int .i64 i], []))) = if b ∈ s.drop i then some (.ret, ⟨[(4, .bool true)], []⟩) else some (.norm, ⟨[], []⟩) := by
  intro k
  induction k with
  | zero =>
    intro i hi
    rw [rnd_some]
    obtain rfl : i = s.length := by omega
    simp [go_sem, wrapi, b71_0]
  | succ k ih =>
    intro i hi
    have hlt : i < s.length := by omega
    have hw : IntKind.i64.wrap ((i : Int) + 1) = ((i + 1 : Nat) : Int) := by rw [wrapi] <;> omega
    have := ih (i + 1) (by omega)
    rw [rnd_some, step_at hlt]
    by_cases hb : s[i] = b
    · simp [go_sem, wrapi, b71_0, x71_0, hlt, hb]
    · have hb' : ¬ ((s[i].toNat : Int) = (b.toNat : Int)) := fun e => hb (UInt8.toNat_inj.1 (by omega))
      have hb2 : ¬ b = s[i] := fun e => hb e.symm
      simp only [List.mem_cons, hb2, false_or]
      rw [← this]
      simp [go_sem, wrapi, b71_0, x71_0, hlt, hb', hw]
theorem c71 (s : List UInt8) (b : UInt8) (hs : Short s) : W Γ 71 [.str s, .int .u8 b.toNat] [] = some (.bool (decide (b ∈ s)), []) := by
  rw [W_code (fd := d71) rfl]
  have := loop71 s b hs s.length 0 (by omega)
  simp only [List.drop_zero, Int.cast_ofNat_Int] at this
  by_cases hb : b ∈ s
  · simp [go_sem, wrapi, d71, x71_0, this, hb]
  · simp [go_sem, wrapi, d71, x71_0, this, hb]

def okB (c : UInt8) : Bool := decide (32 ≤ c.toNat) && decide (c.toNat ≤ 126) && !decide (c.toNat = 35)
theorem loop66 (s : List UInt8) (m : Int) (hs : Short s) : ∀ (k i : Nat), i + k = s.length →
    outOf 0 0 [0, 1] (rnd (W Γ) 0 l66_0 [0, 1, 7, 8] b66_0 (some ([.str s, .int .i64 m, .int .i64 s.length, .int .i64 i], []))) = if (s.drop i).all okB = true then some (.norm, ⟨[(0, .str s), (1, .int .i64 m)], []⟩) else some (.ret, ⟨[(4, .bool false)], []⟩) := by
  intro k
  induction k with
  | zero =>
    intro i hi
    rw [rnd_some]
    obtain rfl : i = s.length := by omega
    simp [go_sem, wrapi, b66_0]
  | succ k ih =>
    intro i hi
    have hlt : i < s.length := by omega
    have hw : IntKind.i64.wrap ((i : Int) + 1) = ((i + 1 : Nat) : Int) := by rw [wrapi] <;> omega
    have := ih (i + 1) (by omega)
    rw [rnd_some, step_at hlt, List.all_cons]
    generalize hc : s[i] = c
    by_cases h1 : (c.toNat : Int) < 32
    · have : okB c = false := by simp [okB]; omega
      simp [go_sem, wrapi, b66_0, x66_0, hlt, hc, h1, this]
    · by_cases h2 : (126 : Int) < c.toNat
      · have : okB c = false := by simp [okB]; omega
        simp [go_sem, wrapi, b66_0, x66_0, hlt, hc, h1, h2, this]
      · by_cases h3 : (c.toNat : Int) = 35
        · have : okB c = false := by simp [okB]; omega
          simp [go_sem, wrapi, b66_0, x66_0, hlt, hc, h1, h2, h3, this]
        · have hok : okB c = true := by simp [okB]; omega
          rw [hok, Bool.true_and, ← this]
          simp [go_sem, wrapi, b66_0, x66_0, hlt, hc, h1, h2, h3, hw]
def pr (s : List UInt8) (m : Int) : Bool := s.all okB && decide ((s.length : Int) ≤ m)
theorem c66 (s : List UInt8) (m : Int) (hs : Short s) : W Γ 66 [.str s, .int .i64 m] [] = some (.bool (pr s m), []) := by
  rw [W_code (fd := d66) rfl]
  have := loop66 s m hs s.length 0 (by omega)
  simp only [List.drop_zero, Int.cast_ofNat_Int] at this
  cases h : s.all okB
  · rw [h] at this
    simp [go_sem, wrapi, d66, x66_0, this, pr, h]
  · rw [h] at this
    simp [go_sem, wrapi, d66, x66_0, this, pr, h]
theorem loop70 (s : List UInt8) (m : Int) (hs : Short s) : ∀ (k i : Nat), i + k = s.length →
    outOf 0 0 [0, 1] (rnd (W Γ) 0 l70_0 [0, 1, 5] b70_0 (some ([.str s, .int .i64 m, .int .i64 i], []))) = if (s.drop i).all okB = true then some (.norm, ⟨[(0, .str s), (1, .int .i64 m)], []⟩) else some (.ret, ⟨[(4, .bool false)], []⟩) := by
  intro k
  induction k with
  | zero =>
    intro i hi
    rw [rnd_some]
    obtain rfl : i = s.length := by omega
    simp [go_sem, wrapi, b70_0]
  | succ k ih =>
    intro i hi
    have hlt : i < s.length := by omega
    have hw : IntKind.i64.wrap ((i : Int) + 1) = ((i + 1 : Nat) : Int) := by rw [wrapi] <;> omega
    have := ih (i + 1) (by omega)
    rw [rnd_some, step_at hlt, List.all_cons]
    generalize hc : s[i] = c
    have hcw : IntKind.i64.wrap (c.toNat : Int) = c.toNat := by have := c.toNat_lt; rw [wrapi] <;> omega
    by_cases h1 : (32 : Int) ≤ c.toNat ∧ (c.toNat : Int) ≤ 126
    · by_cases h3 : (c.toNat : Int) = 35
      · have : okB c = false := by simp [okB]; omega
        simp [go_sem, wrapi, b70_0, x70_0, hlt, hc, hcw, c61, h1.1, h1.2, h3, this]
      · have hok : okB c = true := by simp [okB]; omega
        rw [hok, Bool.true_and, ← this]
        simp [go_sem, wrapi, b70_0, x70_0, hlt, hc, hcw, c61, h1.1, h1.2, h3, hw]
    · have hd : (decide ((32 : Int) ≤ c.toNat) && decide ((c.toNat : Int) ≤ 126)) = false := by simpa using h1
      have : okB c = false := by simp [okB]; omega
      simp [go_sem, wrapi, b70_0, x70_0, hlt, hc, hcw, c61, hd, this]
theorem c70 (s : List UInt8) (m : Int) (hs : Short s) : W Γ 70 [.str s, .int .i64 m] [] = some (.bool (pr s m), []) := by
  rw [W_code (fd := d70) rfl]
  have := loop70 s m hs s.length 0 (by omega)
  simp only [List.drop_zero, Int.cast_ofNat_Int] at this
  cases h : s.all okB
  · rw [h] at this
    simp [go_sem, wrapi, d70, x70_0, this, pr, h]
  · rw [h] at this
    simp [go_sem, wrapi, d70, x70_0, this, pr, h]
end Go.Proofs.T
namespace Go.Proofs.T
open Go Go.AX Go.Proofs
attribute [local go_sem] run_nil run_p run_m run_c run_g next_some pnext_some gd_tt gd_ff gd_tf gd_ft gd_tup crun_fn gets getO tg setD_some setD_none nz_some fin_some tgs zt argT x_ops x_draw0 x_seq x_cond x_block X_exit X_skip X_ret andThen_norm andThen_exit andThen_ret sel_true sel_false outOf_norm outOf_exit outOf_ret leave_ret leave_norm frees
attribute [local go_sem] pk_true pk_false pk_bool aggO_some p_mv p_pick p_build p_nilCheck p_nilCheckf p_not p_neg p_convInt p_convStr p_mkfn p_fieldAddr p_indexArr p_indexRow p_indexSl p_indexAgg1 p_indexAgg2 p_indexStr p_sliceStr p_sliceStrL p_sliceStrH p_sliceStrLH p_extract p_lenStr p_lenRow p_lenSl p_lenNil p_lenArr p_min p_max p_iface p_bin
attribute [local go_sem] b_add b_sub b_mul b_quo b_rem b_and b_or b_xor b_andNot b_shl b_shr b_eql b_neq b_lss b_leq b_gtr b_geq b_seql b_sneq b_beql b_bneq b_aeql b_aneq b_ieql b_ineq b_neql b_nneq
attribute [local go_sem] finish_eq finO_some one_one one_nil one_more consO_some rvs_nil rvs_cons rv_t rv_c rvc_true rvc_false rvl1_live rvl2_live norm_nrm0 nrm0_nil nrm0_cons nrmG_some AV.locs AV.locsL AV.rn AV.rnL call0_nil call0_cons call1_some place_nil placed_nil place_some put2_some new_nil new_cons new1_free partF_pfin pfin_eq clB_dead clB_live closedB_cons closedB_nil locs_live locs_dead blk_flat blk_deep sl_flat sl_deep sl_dead wholeB_live wholeB_dead wholeB_nil reach memN subN nodupB idx nthN view allIn gt pt rangeN
attribute [local go_sem] pn_zero pns_some pn_succ withV_some m_alloc boxed_cons m_box built_some m_build ldc_some ld1_live m_load1 ld2_live m_load2 st1_live m_store ap1_live m_append ap0_live m_append0 m_bytes m_make AV.cells fillA flatB
attribute [local go_sem] foot_g gdF_tt gdF_ff gdF_tf gdF_ft gdF_tup consF_some nextF_some pnextF_some foot_nil foot_p foot_m foot_c finF_some x_draw cfoot_fn cfoot0_some f_load f_store f_alloc f_box f_bytes f_build f_append pairsOk disj nthF
attribute [local congr] lazy_gdF lazy_consF lazy_nextF lazy_pnextF lazy_finF lazy_opsFoot
attribute [local congr] lazy_gd lazy_sel lazy_next lazy_pnext lazy_nz lazy_fin lazy_andThen lazy_outOf lazy_leave lazy_rnd lazy_X lazy_opsRun
attribute [local go_sem] List.length_cons List.length_nil List.nil_append List.cons_append List.append_nil List.append_assoc if_true if_false decide_true decide_false Bool.not_true Bool.not_false Bool.true_and Bool.and_true Bool.false_and Bool.and_false Bool.true_or Bool.or_true Bool.false_or Bool.or_false and_self true_and and_true false_and and_false or_true true_or or_false false_or not_true not_false_eq_true Int.toNat_natCast Option.map_some Option.map_none List.drop_zero List.take_zero List.drop_succ_cons List.take_succ_cons List.getElem?_cons_zero List.getElem?_cons_succ ge_iff_le gt_iff_lt Nat.le_refl Int.le_refl decide_eq_true_eq Bool.decide_eq_true reduceCtorEq Int.natCast_nonneg Int.ofNat_lt Int.ofNat_le Int.lt_irrefl Nat.lt_irrefl List.isEmpty_nil List.isEmpty_cons Bool.and_self ne_eq List.all_cons List.all_nil AV.one implies_true not_true_eq_false imp_self forall_const
theorem dig {n : Nat} (h : n < 10) : (([48, 49, 50, 51, 52, 53, 54, 55, 56, 57] : List UInt8).take (n + 1)).drop n = [UInt8.ofNat (48 + n)] := by
  revert n
  decide
theorem tdiv10 (n : Nat) : (n : Int).tdiv 10 = ((n / 10 : Nat) : Int) := by rw [Int.tdiv_eq_ediv_of_nonneg (by omega)]; omega
theorem tmod10 (n : Nat) : (n : Int).tmod 10 = ((n % 10 : Nat) : Int) := by rw [Int.tmod_eq_emod_of_nonneg (by omega)]; omega
theorem decDigits_len {n : Nat} : (Lib.decDigits n).length ≤ n + 1 := by
  induction n using Nat.strongRecOn with
  | _ n ih =>
    rw [Lib.decDigits]
    split
    · simp
    · have := ih (n / 10) (by omega)
      simp only [List.length_append, List.length_cons, List.length_nil]
      omega
theorem c73 (n : Nat) (hn : n ≤ 4611686018427387904) : W Γ 73 [.int .i64 n] [] = some (.str (Lib.decDigits n), []) := by
  induction n using Nat.strongRecOn with
  | _ n ih =>
    rw [W_code (fd := d73) rfl, Lib.decDigits]
    have h0 : ¬ ((n : Int) < 0) := by omega
    by_cases h : n < 10
    · have h1 : (n : Int) < 10 := by omega
      have hw : IntKind.i64.wrap ((n : Int) + 1) = ((n + 1 : Nat) : Int) := by rw [wrapi] <;> omega
      have h2 : (n : Int) ≤ ((n + 1 : Nat) : Int) ∧ ((n + 1 : Nat) : Int) ≤ 10 := by omega
      have hd := dig h
      simp only [List.take_succ_cons] at hd
      simp only [go_sem, reduceCtorEq, reduceIte, reduceDIte, Nat.reduceEqDiff, Nat.reduceAdd, Nat.reduceMul, Nat.reduceSub, Nat.reduceDiv, Nat.reduceMod, Nat.reduceLeDiff, Nat.reduceLT, Nat.lt_add_one, Nat.zero_lt_succ, Int.reduceLE, Int.reduceLT, Int.reduceEq, Int.reduceNeg, Int.reduceAdd, Int.reduceSub, Int.reduceMul, Int.reduceToNat, Int.cast_ofNat_Int, b_sadd, d73, h0, h1, hw, h, h2, hd]
    · have h1 : ¬ (n : Int) < 10 := by omega
      have hq : IntKind.i64.wrap ((n / 10 : Nat) : Int) = ((n / 10 : Nat) : Int) := by rw [wrapi] <;> omega
      have hw : IntKind.i64.wrap (((n % 10 : Nat) : Int) + 1) = ((n % 10 + 1 : Nat) : Int) := by rw [wrapi] <;> omega
      have hd := dig (Nat.mod_lt n (by decide : 10 > 0))
      have hi := ih (n / 10) (by omega) (by omega)
      have h2 : ((n % 10 : Nat) : Int) ≤ ((n % 10 + 1 : Nat) : Int) ∧ ((n % 10 + 1 : Nat) : Int) ≤ 10 := by omega
      simp only [List.take_succ_cons] at hd
      have hl : (Lib.decDigits (n / 10)).length + 1 ≤ 9223372036854775807 := by have := decDigits_len (n := n / 10); omega
      simp only [go_sem, reduceCtorEq, reduceIte, reduceDIte, Nat.reduceEqDiff, Nat.reduceAdd, Nat.reduceMul, Nat.reduceSub, Nat.reduceDiv, Nat.reduceMod, Nat.reduceLeDiff, Nat.reduceLT, Nat.lt_add_one, Nat.zero_lt_succ, Int.reduceLE, Int.reduceLT, Int.reduceEq, Int.reduceNeg, Int.reduceAdd, Int.reduceSub, Int.reduceMul, Int.reduceToNat, Int.cast_ofNat_Int, b_sadd, d73, h0, h1, tdiv10, tmod10, hq, hw, h, hd, hi, hl, h2]
end Go.Proofs.T
namespace Go.Proofs.T
open Go Go.AX Go.Proofs
attribute [local go_sem] run_nil run_p run_m run_c run_g next_some pnext_some gd_tt gd_ff gd_tf gd_ft gd_tup crun_fn gets getO tg setD_some setD_none nz_some fin_some tgs zt argT x_ops x_draw0 x_seq x_cond x_block X_exit X_skip X_ret andThen_norm andThen_exit andThen_ret sel_true sel_false outOf_norm outOf_exit outOf_ret leave_ret leave_norm frees
attribute [local go_sem] pk_true pk_false pk_bool aggO_some p_mv p_pick p_build p_nilCheck p_nilCheckf p_not p_neg p_convInt p_convStr p_mkfn p_fieldAddr p_indexArr p_indexRow p_indexSl p_indexAgg1 p_indexAgg2 p_indexStr p_sliceStr p_sliceStrL p_sliceStrH p_sliceStrLH p_extract p_lenStr p_lenRow p_lenSl p_lenNil p_lenArr p_min p_max p_iface p_bin
attribute [local go_sem] b_add b_sub b_mul b_quo b_rem b_and b_or b_xor b_andNot b_shl b_shr b_eql b_neq b_lss b_leq b_gtr b_geq b_seql b_sneq b_beql b_bneq b_aeql b_aneq b_ieql b_ineq b_neql b_nneq
attribute [local go_sem] finish_eq finO_some one_one one_nil one_more consO_some rvs_nil rvs_cons rv_t rv_c rvc_true rvc_false rvl1_live rvl2_live norm_nrm0 nrm0_nil nrm0_cons nrmG_some AV.locs AV.locsL AV.rn AV.rnL call0_nil call0_cons call1_some place_nil placed_nil place_some put2_some new_nil new_cons new1_free partF_pfin pfin_eq clB_dead clB_live closedB_cons closedB_nil locs_live locs_dead blk_flat blk_deep sl_flat sl_deep sl_dead wholeB_live wholeB_dead wholeB_nil reach memN subN nodupB idx nthN view allIn gt pt rangeN
attribute [local go_sem] pn_zero pns_some pn_succ withV_some m_alloc boxed_cons m_box built_some m_build ldc_some ld1_live m_load1 ld2_live m_load2 st1_live m_store ap1_live m_append ap0_live m_append0 m_bytes m_make AV.cells fillA flatB
attribute [local go_sem] foot_g gdF_tt gdF_ff gdF_tf gdF_ft gdF_tup consF_some nextF_some pnextF_some foot_nil foot_p foot_m foot_c finF_some x_draw cfoot_fn cfoot0_some f_load f_store f_alloc f_box f_bytes f_build f_append pairsOk disj nthF
attribute [local congr] lazy_gdF lazy_consF lazy_nextF lazy_pnextF lazy_finF lazy_opsFoot
attribute [local congr] lazy_gd lazy_sel lazy_next lazy_pnext lazy_nz lazy_fin lazy_andThen lazy_outOf lazy_leave lazy_rnd lazy_X lazy_opsRun
attribute [local go_sem] List.length_cons List.length_nil List.nil_append List.cons_append List.append_nil List.append_assoc if_true if_false decide_true decide_false Bool.not_true Bool.not_false Bool.true_and Bool.and_true Bool.false_and Bool.and_false Bool.true_or Bool.or_true Bool.false_or Bool.or_false and_self true_and and_true false_and and_false or_true true_or or_false false_or not_true not_false_eq_true Int.toNat_natCast Option.map_some Option.map_none List.drop_zero List.take_zero List.drop_succ_cons List.take_succ_cons List.getElem?_cons_zero List.getElem?_cons_succ ge_iff_le gt_iff_lt Nat.le_refl Int.le_refl decide_eq_true_eq Bool.decide_eq_true reduceCtorEq Int.natCast_nonneg Int.ofNat_lt Int.ofNat_le Int.lt_irrefl Nat.lt_irrefl List.isEmpty_nil List.isEmpty_cons Bool.and_self ne_eq List.all_cons List.all_nil AV.one implies_true not_true_eq_false imp_self forall_const
def chk (h : Nat) : List UInt8 → Nat
  | [] => h
  | b :: r => chk ((41 * h + b.toNat + 1) % 999979) r
theorem chk_lt : ∀ (s : List UInt8) (h : Nat), h < 999979 → chk h s < 999979
  | [], h, hh => hh
  | b :: r, h, _ => chk_lt r _ (Nat.mod_lt _ (by decide))
theorem chk_step {h : Nat} {b : UInt8} (hh : h < 999979) : IntKind.i64.wrap (41 * (h : Int)) = ((41 * h : Nat) : Int) ∧ IntKind.i64.wrap ((b.toNat : Nat) : Int) = (b.toNat : Int) ∧ IntKind.i64.wrap (((41 * h : Nat) : Int) + (b.toNat : Int)) = ((41 * h + b.toNat : Nat) : Int) ∧ IntKind.i64.wrap (((41 * h + b.toNat : Nat) : Int) + 1) = ((41 * h + b.toNat + 1 : Nat) : Int) ∧ ((41 * h + b.toNat + 1 : Nat) : Int).tmod 999979 = (((41 * h + b.toNat + 1) % 999979 : Nat) : Int) := by
  have := b.toNat_lt
  refine ⟨?_, ?_, ?_, ?_, ?_⟩
  · rw [wrapi] <;> omega
  · rw [wrapi] <;> omega
  · rw [wrapi] <;> omega
  · rw [wrapi] <;> omega
  · rw [Int.tmod_eq_emod_of_nonneg (by omega)]; omega
theorem loop85 (s : List UInt8) (hs : Short s) : ∀ (k i h : Nat), i + k = s.length → h < 999979 →
    outOf 0 0 [3] (rnd (W Γ) 0 l85_0 [0, 3, 4] b85_0 (some ([.str s, .int .i64 h, .int .i64 i], []))) = some (.norm, ⟨[(3, .int .i64 (chk h (s.drop i)))], []⟩) := by
  intro k
  induction k with
  | zero =>
    intro i h hi hh
    rw [rnd_some]
    obtain rfl : i = s.length := by omega
    simp [go_sem, wrapi, b85_0, chk]
  | succ k ih =>
    intro i h hi hh
    have hlt : i < s.length := by omega
    have hw : IntKind.i64.wrap ((i : Int) + 1) = ((i + 1 : Nat) : Int) := by rw [wrapi] <;> omega
    have hg : s[i]? = some s[i] := List.getElem?_eq_getElem hlt
    obtain ⟨w1, w2, w3, w4, w5⟩ := chk_step (b := s[i]) hh
    have := ih (i + 1) ((41 * h + s[i].toNat + 1) % 999979) (by omega) (Nat.mod_lt _ (by decide))
    rw [rnd_some, step_at hlt]
    simp only [chk]
    rw [← this]
    simp only [go_sem, reduceCtorEq, reduceIte, reduceDIte, Nat.reduceEqDiff, Nat.reduceAdd, Nat.reduceMul, Nat.reduceSub, Nat.reduceDiv, Nat.reduceMod, Nat.reduceLeDiff, Nat.reduceLT, Nat.lt_add_one, Nat.zero_lt_succ, Int.reduceLE, Int.reduceLT, Int.reduceEq, Int.reduceNeg, Int.reduceAdd, Int.reduceSub, Int.reduceMul, Int.reduceToNat, Int.cast_ofNat_Int, b_sadd, b85_0, x85_0, hlt, hw, hg, w1, w2, w3, w4, w5]
theorem c85 (s : List UInt8) (hs : Short s) : W Γ 85 [.str s] [] = some (.int .i64 (chk 7 s), []) := by
  rw [W_code (fd := d85) rfl]
  have := loop85 s hs s.length 0 7 (by omega) (by decide)
  simp only [List.drop_zero, Int.cast_ofNat_Int] at this
  simp only [go_sem, reduceCtorEq, reduceIte, reduceDIte, Nat.reduceEqDiff, Nat.reduceAdd, Nat.reduceMul, Nat.reduceSub, Nat.reduceDiv, Nat.reduceMod, Nat.reduceLeDiff, Nat.reduceLT, Nat.lt_add_one, Nat.zero_lt_succ, Int.reduceLE, Int.reduceLT, Int.reduceEq, Int.reduceNeg, Int.reduceAdd, Int.reduceSub, Int.reduceMul, Int.reduceToNat, Int.cast_ofNat_Int, b_sadd, d85, x85_0, this]
theorem loop80 (s : List UInt8) (hs : Short s) : ∀ (k i h : Nat), i + k = s.length → h < 999979 →
    outOf 0 0 [4] (rnd (W Γ) 0 l80_0 [0, 4, 10, 11] b80_0 (some ([.str s, .int .i64 h, .int .i64 s.length, .int .i64 i], []))) = some (.norm, ⟨[(4, .int .i64 (chk h (s.drop i)))], []⟩) := by
  intro k
  induction k with
  | zero =>
    intro i h hi hh
    rw [rnd_some]
    obtain rfl : i = s.length := by omega
    simp [go_sem, wrapi, b80_0, chk]
  | succ k ih =>
    intro i h hi hh
    have hlt : i < s.length := by omega
    have hw : IntKind.i64.wrap ((i : Int) + 1) = ((i + 1 : Nat) : Int) := by rw [wrapi] <;> omega
    have hg : s[i]? = some s[i] := List.getElem?_eq_getElem hlt
    obtain ⟨w1, w2, w3, w4, w5⟩ := chk_step (b := s[i]) hh
    have := ih (i + 1) ((41 * h + s[i].toNat + 1) % 999979) (by omega) (Nat.mod_lt _ (by decide))
    rw [rnd_some, step_at hlt]
    simp only [chk]
    rw [← this]
    simp only [go_sem, reduceCtorEq, reduceIte, reduceDIte, Nat.reduceEqDiff, Nat.reduceAdd, Nat.reduceMul, Nat.reduceSub, Nat.reduceDiv, Nat.reduceMod, Nat.reduceLeDiff, Nat.reduceLT, Nat.lt_add_one, Nat.zero_lt_succ, Int.reduceLE, Int.reduceLT, Int.reduceEq, Int.reduceNeg, Int.reduceAdd, Int.reduceSub, Int.reduceMul, Int.reduceToNat, Int.cast_ofNat_Int, b_sadd, b80_0, x80_0, hlt, hw, hg, w1, w2, w3, w4, w5]
theorem c80 (s : List UInt8) (hs : s.length ≤ 4000) : W Γ 80 [.str s] [] = some (.tup [.int .i64 (chk 7 s), .bool true], []) := by
  rw [W_code (fd := d80) rfl]
  have := loop80 s (by unfold Short; omega) s.length 0 7 (by omega) (by decide)
  simp only [List.drop_zero, Int.cast_ofNat_Int] at this
  have h : ¬ ((4000 : Int) < s.length) := by omega
  simp only [go_sem, reduceCtorEq, reduceIte, reduceDIte, Nat.reduceEqDiff, Nat.reduceAdd, Nat.reduceMul, Nat.reduceSub, Nat.reduceDiv, Nat.reduceMod, Nat.reduceLeDiff, Nat.reduceLT, Nat.lt_add_one, Nat.zero_lt_succ, Int.reduceLE, Int.reduceLT, Int.reduceEq, Int.reduceNeg, Int.reduceAdd, Int.reduceSub, Int.reduceMul, Int.reduceToNat, Int.cast_ofNat_Int, b_sadd, d80, x80_0, this, h]
/-- A record's line without what seals it. -/
theorem c72 (s : List UInt8) (hs : Short s) : W Γ 72 [.str s] [] = some (.str (s ++ 35 :: Lib.decDigits (chk 7 s)), []) := by
  rw [W_code (fd := d72) rfl]
  have h1 := chk_lt s 7 (by decide)
  have h2 : s.length + 1 ≤ 9223372036854775807 := by unfold Short at hs; omega
  have h3 : s.length + 1 + (Lib.decDigits (chk 7 s)).length ≤ 9223372036854775807 := by have := decDigits_len (n := chk 7 s); unfold Short at hs; omega
  simp only [go_sem, reduceCtorEq, reduceIte, reduceDIte, Nat.reduceEqDiff, Nat.reduceAdd, Nat.reduceMul, Nat.reduceSub, Nat.reduceDiv, Nat.reduceMod, Nat.reduceLeDiff, Nat.reduceLT, Nat.lt_add_one, Nat.zero_lt_succ, Int.reduceLE, Int.reduceLT, Int.reduceEq, Int.reduceNeg, Int.reduceAdd, Int.reduceSub, Int.reduceMul, Int.reduceToNat, Int.cast_ofNat_Int, b_sadd, d72, c85 s hs, c73 (chk 7 s) (by omega), h2, h3, List.length_append]
end Go.Proofs.T
namespace Go.Proofs.T
open Go Go.AX Go.Proofs
attribute [local go_sem] run_nil run_p run_m run_c run_g next_some pnext_some gd_tt gd_ff gd_tf gd_ft gd_tup crun_fn gets getO tg setD_some setD_none nz_some fin_some tgs zt argT x_ops x_draw0 x_seq x_cond x_block X_exit X_skip X_ret andThen_norm andThen_exit andThen_ret sel_true sel_false outOf_norm outOf_exit outOf_ret leave_ret leave_norm frees
attribute [local go_sem] pk_true pk_false pk_bool aggO_some p_mv p_pick p_build p_nilCheck p_nilCheckf p_not p_neg p_convInt p_convStr p_mkfn p_fieldAddr p_indexArr p_indexRow p_indexSl p_indexAgg1 p_indexAgg2 p_indexStr p_sliceStr p_sliceStrL p_sliceStrH p_sliceStrLH p_extract p_lenStr p_lenRow p_lenSl p_lenNil p_lenArr p_min p_max p_iface p_bin
attribute [local go_sem] b_add b_sub b_mul b_quo b_rem b_and b_or b_xor b_andNot b_shl b_shr b_eql b_neq b_lss b_leq b_gtr b_geq b_seql b_sneq b_beql b_bneq b_aeql b_aneq b_ieql b_ineq b_neql b_nneq
attribute [local go_sem] finish_eq finO_some one_one one_nil one_more consO_some rvs_nil rvs_cons rv_t rv_c rvc_true rvc_false rvl1_live rvl2_live norm_nrm0 nrm0_nil nrm0_cons nrmG_some AV.locs AV.locsL AV.rn AV.rnL call0_nil call0_cons call1_some place_nil placed_nil place_some put2_some new_nil new_cons new1_free partF_pfin pfin_eq clB_dead clB_live closedB_cons closedB_nil locs_live locs_dead blk_flat blk_deep sl_flat sl_deep sl_dead wholeB_live wholeB_dead wholeB_nil reach memN subN nodupB idx nthN view allIn gt pt rangeN
attribute [local go_sem] pn_zero pns_some pn_succ withV_some m_alloc boxed_cons m_box built_some m_build ldc_some ld1_live m_load1 ld2_live m_load2 st1_live m_store ap1_live m_append ap0_live m_append0 m_bytes m_make AV.cells fillA flatB
attribute [local go_sem] foot_g gdF_tt gdF_ff gdF_tf gdF_ft gdF_tup consF_some nextF_some pnextF_some foot_nil foot_p foot_m foot_c finF_some x_draw cfoot_fn cfoot0_some f_load f_store f_alloc f_box f_bytes f_build f_append pairsOk disj nthF
attribute [local congr] lazy_gdF lazy_consF lazy_nextF lazy_pnextF lazy_finF lazy_opsFoot
attribute [local congr] lazy_gd lazy_sel lazy_next lazy_pnext lazy_nz lazy_fin lazy_andThen lazy_outOf lazy_leave lazy_rnd lazy_X lazy_opsRun
attribute [local go_sem] List.length_cons List.length_nil List.nil_append List.cons_append List.append_nil List.append_assoc if_true if_false decide_true decide_false Bool.not_true Bool.not_false Bool.true_and Bool.and_true Bool.false_and Bool.and_false Bool.true_or Bool.or_true Bool.false_or Bool.or_false and_self true_and and_true false_and and_false or_true true_or or_false false_or not_true not_false_eq_true Int.toNat_natCast Option.map_some Option.map_none List.drop_zero List.take_zero List.drop_succ_cons List.take_succ_cons List.getElem?_cons_zero List.getElem?_cons_succ ge_iff_le gt_iff_lt Nat.le_refl Int.le_refl decide_eq_true_eq Bool.decide_eq_true reduceCtorEq Int.natCast_nonneg Int.ofNat_lt Int.ofNat_le Int.lt_irrefl Nat.lt_irrefl List.isEmpty_nil List.isEmpty_cons Bool.and_self ne_eq List.all_cons List.all_nil AV.one implies_true not_true_eq_false imp_self forall_const
theorem c60 (n : Nat) (hn : n ≤ 4611686018427387904) : W Γ 60 [.int .i64 n] [] = some (.str (Lib.decDigits n), []) := by
  rw [W_prim (p := p60) rfl]
  simp only [p60]
  rw [if_pos (by omega), Lib.itoa_nonneg]
theorem index_mem (c : UInt8) : ∀ s : List UInt8, 0 ≤ Lib.indexByte s c ↔ c ∈ s
  | [] => by simp [Lib.indexByte]
  | b :: s => by
    have h := index_mem c s
    have hg := Lib.indexByte_ge s c
    simp only [Lib.indexByte]
    by_cases hb : b = c
    · simp [hb]
    · have hb' : ¬ c = b := fun e => hb e.symm
      simp only [beq_iff_eq, hb, if_false, List.mem_cons, hb', false_or]
      rw [← h]
      split <;> omega
theorem c81 (s : List UInt8) (c : UInt8) : W Γ 81 [.str s, .str [c]] [] = some (.bool (decide (c ∈ s)), []) := by
  rw [W_prim (p := p81) rfl]
  simp only [p81]
  rw [decide_eq_decide.2 (index_mem c s)]
def cmdB (s : List UInt8) : Bool := decide (s ≠ []) && pr s 160 && !decide (64 ∈ s)
def recB (c r : List UInt8) : Bool := cmdB c && pr r 250
theorem c65 (s : List UInt8) (hs : Short s) : W Γ 65 [.str s] [] = some (.bool (cmdB s), []) := by
  rw [W_code (fd := d65) rfl]
  unfold cmdB
  by_cases h1 : s = []
  · simp only [go_sem, reduceCtorEq, reduceIte, reduceDIte, Nat.reduceEqDiff, Nat.reduceAdd, Nat.reduceMul, Nat.reduceSub, Nat.reduceDiv, Nat.reduceMod, Nat.reduceLeDiff, Nat.reduceLT, Nat.lt_add_one, Nat.zero_lt_succ, Int.reduceLE, Int.reduceLT, Int.reduceEq, Int.reduceNeg, Int.reduceAdd, Int.reduceSub, Int.reduceMul, Int.reduceToNat, Int.cast_ofNat_Int, b_sadd, d65, h1, ne_eq]
  · cases h2 : pr s 160
    · simp only [go_sem, reduceCtorEq, reduceIte, reduceDIte, Nat.reduceEqDiff, Nat.reduceAdd, Nat.reduceMul, Nat.reduceSub, Nat.reduceDiv, Nat.reduceMod, Nat.reduceLeDiff, Nat.reduceLT, Nat.lt_add_one, Nat.zero_lt_succ, Int.reduceLE, Int.reduceLT, Int.reduceEq, Int.reduceNeg, Int.reduceAdd, Int.reduceSub, Int.reduceMul, Int.reduceToNat, Int.cast_ofNat_Int, b_sadd, d65, h1, h2, c66 s 160 hs, ne_eq]
    · simp only [go_sem, reduceCtorEq, reduceIte, reduceDIte, Nat.reduceEqDiff, Nat.reduceAdd, Nat.reduceMul, Nat.reduceSub, Nat.reduceDiv, Nat.reduceMod, Nat.reduceLeDiff, Nat.reduceLT, Nat.lt_add_one, Nat.zero_lt_succ, Int.reduceLE, Int.reduceLT, Int.reduceEq, Int.reduceNeg, Int.reduceAdd, Int.reduceSub, Int.reduceMul, Int.reduceToNat, Int.cast_ofNat_Int, b_sadd, d65, h1, h2, c66 s 160 hs, ne_eq, c81 s 64]
theorem c35 (c r : List UInt8) (hc : Short c) (hr : Short r) : W Γ 35 [.agg [.str c, .str r]] [] = some (.bool (recB c r), []) := by
  rw [W_code (fd := d35) rfl]
  unfold recB
  cases h : cmdB c
  · simp only [go_sem, reduceCtorEq, reduceIte, reduceDIte, Nat.reduceEqDiff, Nat.reduceAdd, Nat.reduceMul, Nat.reduceSub, Nat.reduceDiv, Nat.reduceMod, Nat.reduceLeDiff, Nat.reduceLT, Nat.lt_add_one, Nat.zero_lt_succ, Int.reduceLE, Int.reduceLT, Int.reduceEq, Int.reduceNeg, Int.reduceAdd, Int.reduceSub, Int.reduceMul, Int.reduceToNat, Int.cast_ofNat_Int, b_sadd, d35, c65 c hc, h]
  · simp only [go_sem, reduceCtorEq, reduceIte, reduceDIte, Nat.reduceEqDiff, Nat.reduceAdd, Nat.reduceMul, Nat.reduceSub, Nat.reduceDiv, Nat.reduceMod, Nat.reduceLeDiff, Nat.reduceLT, Nat.lt_add_one, Nat.zero_lt_succ, Int.reduceLE, Int.reduceLT, Int.reduceEq, Int.reduceNeg, Int.reduceAdd, Int.reduceSub, Int.reduceMul, Int.reduceToNat, Int.cast_ofNat_Int, b_sadd, d35, c65 c hc, h, c66 r 250 hr]
theorem c47 (c r : List UInt8) (hc : Short c) (hr : Short r) : W Γ 47 [.agg [.str c, .str r]] [] = some (.bool (recB c r), []) := by
  rw [W_code (fd := d47) rfl]
  unfold recB cmdB
  have h71 := c71 c 64 hc
  simp only [show ((64 : UInt8).toNat : Int) = 64 from rfl] at h71
  by_cases h1 : c = []
  · simp only [go_sem, reduceCtorEq, reduceIte, reduceDIte, Nat.reduceEqDiff, Nat.reduceAdd, Nat.reduceMul, Nat.reduceSub, Nat.reduceDiv, Nat.reduceMod, Nat.reduceLeDiff, Nat.reduceLT, Nat.lt_add_one, Nat.zero_lt_succ, Int.reduceLE, Int.reduceLT, Int.reduceEq, Int.reduceNeg, Int.reduceAdd, Int.reduceSub, Int.reduceMul, Int.reduceToNat, Int.cast_ofNat_Int, b_sadd, d47, h1, ne_eq]
  · cases h2 : pr c 160
    · simp only [go_sem, reduceCtorEq, reduceIte, reduceDIte, Nat.reduceEqDiff, Nat.reduceAdd, Nat.reduceMul, Nat.reduceSub, Nat.reduceDiv, Nat.reduceMod, Nat.reduceLeDiff, Nat.reduceLT, Nat.lt_add_one, Nat.zero_lt_succ, Int.reduceLE, Int.reduceLT, Int.reduceEq, Int.reduceNeg, Int.reduceAdd, Int.reduceSub, Int.reduceMul, Int.reduceToNat, Int.cast_ofNat_Int, b_sadd, d47, h1, h2, c70 c 160 hc, ne_eq]
    · by_cases h3 : 64 ∈ c
      · simp only [go_sem, reduceCtorEq, reduceIte, reduceDIte, Nat.reduceEqDiff, Nat.reduceAdd, Nat.reduceMul, Nat.reduceSub, Nat.reduceDiv, Nat.reduceMod, Nat.reduceLeDiff, Nat.reduceLT, Nat.lt_add_one, Nat.zero_lt_succ, Int.reduceLE, Int.reduceLT, Int.reduceEq, Int.reduceNeg, Int.reduceAdd, Int.reduceSub, Int.reduceMul, Int.reduceToNat, Int.cast_ofNat_Int, b_sadd, d47, h1, h2, h3, c70 c 160 hc, ne_eq, h71]
      · simp only [go_sem, reduceCtorEq, reduceIte, reduceDIte, Nat.reduceEqDiff, Nat.reduceAdd, Nat.reduceMul, Nat.reduceSub, Nat.reduceDiv, Nat.reduceMod, Nat.reduceLeDiff, Nat.reduceLT, Nat.lt_add_one, Nat.zero_lt_succ, Int.reduceLE, Int.reduceLT, Int.reduceEq, Int.reduceNeg, Int.reduceAdd, Int.reduceSub, Int.reduceMul, Int.reduceToNat, Int.cast_ofNat_Int, b_sadd, d47, h1, h2, h3, c70 c 160 hc, c70 r 250 hr, ne_eq, h71]
end Go.Proofs.T
namespace Go.Proofs.T
open Go Go.AX Go.Proofs
attribute [local go_sem] run_nil run_p run_m run_c run_g next_some pnext_some gd_tt gd_ff gd_tf gd_ft gd_tup crun_fn gets getO tg setD_some setD_none nz_some fin_some tgs zt argT x_ops x_draw0 x_seq x_cond x_block X_exit X_skip X_ret andThen_norm andThen_exit andThen_ret sel_true sel_false outOf_norm outOf_exit outOf_ret leave_ret leave_norm frees
attribute [local go_sem] pk_true pk_false pk_bool aggO_some p_mv p_pick p_build p_nilCheck p_nilCheckf p_not p_neg p_convInt p_convStr p_mkfn p_fieldAddr p_indexArr p_indexRow p_indexSl p_indexAgg1 p_indexAgg2 p_indexStr p_sliceStr p_sliceStrL p_sliceStrH p_sliceStrLH p_extract p_lenStr p_lenRow p_lenSl p_lenNil p_lenArr p_min p_max p_iface p_bin
attribute [local go_sem] b_add b_sub b_mul b_quo b_rem b_and b_or b_xor b_andNot b_shl b_shr b_eql b_neq b_lss b_leq b_gtr b_geq b_seql b_sneq b_beql b_bneq b_aeql b_aneq b_ieql b_ineq b_neql b_nneq
attribute [local go_sem] finish_eq finO_some one_one one_nil one_more consO_some rvs_nil rvs_cons rv_t rv_c rvc_true rvc_false rvl1_live rvl2_live norm_nrm0 nrm0_nil nrm0_cons nrmG_some AV.locs AV.locsL AV.rn AV.rnL call0_nil call0_cons call1_some place_nil placed_nil place_some put2_some new_nil new_cons new1_free partF_pfin pfin_eq clB_dead clB_live closedB_cons closedB_nil locs_live locs_dead blk_flat blk_deep sl_flat sl_deep sl_dead wholeB_live wholeB_dead wholeB_nil reach memN subN nodupB idx nthN view allIn gt pt rangeN
attribute [local go_sem] pn_zero pns_some pn_succ withV_some m_alloc boxed_cons m_box built_some m_build ldc_some ld1_live m_load1 ld2_live m_load2 st1_live m_store ap1_live m_append ap0_live m_append0 m_bytes m_make AV.cells fillA flatB
attribute [local go_sem] foot_g gdF_tt gdF_ff gdF_tf gdF_ft gdF_tup consF_some nextF_some pnextF_some foot_nil foot_p foot_m foot_c finF_some x_draw cfoot_fn cfoot0_some f_load f_store f_alloc f_box f_bytes f_build f_append pairsOk disj nthF
attribute [local congr] lazy_gdF lazy_consF lazy_nextF lazy_pnextF lazy_finF lazy_opsFoot
attribute [local congr] lazy_gd lazy_sel lazy_next lazy_pnext lazy_nz lazy_fin lazy_andThen lazy_outOf lazy_leave lazy_rnd lazy_X lazy_opsRun
attribute [local go_sem] List.length_cons List.length_nil List.nil_append List.cons_append List.append_nil List.append_assoc if_true if_false decide_true decide_false Bool.not_true Bool.not_false Bool.true_and Bool.and_true Bool.false_and Bool.and_false Bool.true_or Bool.or_true Bool.false_or Bool.or_false and_self true_and and_true false_and and_false or_true true_or or_false false_or not_true not_false_eq_true Int.toNat_natCast Option.map_some Option.map_none List.drop_zero List.take_zero List.drop_succ_cons List.take_succ_cons List.getElem?_cons_zero List.getElem?_cons_succ ge_iff_le gt_iff_lt Nat.le_refl Int.le_refl decide_eq_true_eq Bool.decide_eq_true reduceCtorEq Int.natCast_nonneg Int.ofNat_lt Int.ofNat_le Int.lt_irrefl Nat.lt_irrefl List.isEmpty_nil List.isEmpty_cons Bool.and_self ne_eq List.all_cons List.all_nil AV.one implies_true not_true_eq_false imp_self forall_const
def bodyB (k : Nat) (c r : List UInt8) : List UInt8 := Lib.decDigits k ++ [32] ++ c ++ [64] ++ r
def lineB (k : Nat) (c r : List UInt8) : List UInt8 := bodyB k c r ++ 35 :: Lib.decDigits (chk 7 (bodyB k c r)) ++ [10]
/-- At most four thousand bytes. -/
abbrev Low (s : List UInt8) : Prop := s.length ≤ 1000000
theorem decLen {k : Nat} (hk : k < 1000000) : (Lib.decDigits k).length ≤ 1000000 := by have := decDigits_len (n := k); omega
theorem c48 (k : Nat) (c r : List UInt8) (hk : k < 1000000) (hc : Low c) (hr : Low r) : W Γ 48 [.int .i64 k, .agg [.str c, .str r]] [] = some (.str (lineB k c r), []) := by
  rw [W_code (fd := d48) rfl]
  have hd := decLen hk
  have hlc := hc
  have hlr := hr
  unfold Low at hlc hlr
  have hq := decLen (k := chk 7 (bodyB k c r)) (by have := chk_lt (bodyB k c r) 7 (by decide); omega)
  have hb : Lib.decDigits k ++ 32 :: (c ++ 64 :: r) = bodyB k c r := by simp [bodyB]
  have h72 := c72 (bodyB k c r) (by unfold Short bodyB; simp only [List.length_append, List.length_cons, List.length_nil]; omega)
  have hlen : (bodyB k c r).length ≤ 3000003 := by unfold bodyB; simp only [List.length_append, List.length_cons, List.length_nil]; omega
  have hb2 : (bodyB k c r).length + ((Lib.decDigits (chk 7 (bodyB k c r))).length + 1) + 1 ≤ 9223372036854775807 := by omega
  simp only [go_sem, reduceCtorEq, reduceIte, reduceDIte, Nat.reduceEqDiff, Nat.reduceAdd, Nat.reduceMul, Nat.reduceSub, Nat.reduceDiv, Nat.reduceMod, Nat.reduceLeDiff, Nat.reduceLT, Nat.lt_add_one, Nat.zero_lt_succ, Int.reduceLE, Int.reduceLT, Int.reduceEq, Int.reduceNeg, Int.reduceAdd, Int.reduceSub, Int.reduceMul, Int.reduceToNat, Int.cast_ofNat_Int, b_sadd, d48, c73 k (by omega), hb, h72, List.length_append]
  rw [if_pos (by omega)]
  simp only [go_sem, reduceCtorEq, reduceIte, reduceDIte, Nat.reduceEqDiff, Nat.reduceAdd, Nat.reduceMul, Nat.reduceSub, Nat.reduceDiv, Nat.reduceMod, Nat.reduceLeDiff, Nat.reduceLT, Nat.lt_add_one, Nat.zero_lt_succ, Int.reduceLE, Int.reduceLT, Int.reduceEq, Int.reduceNeg, Int.reduceAdd, Int.reduceSub, Int.reduceMul, Int.reduceToNat, Int.cast_ofNat_Int, b_sadd, hb, h72, List.length_append]
  rw [if_pos (by omega)]
  simp only [go_sem, reduceCtorEq, reduceIte, reduceDIte, Nat.reduceEqDiff, Nat.reduceAdd, Nat.reduceMul, Nat.reduceSub, Nat.reduceDiv, Nat.reduceMod, Nat.reduceLeDiff, Nat.reduceLT, Nat.lt_add_one, Nat.zero_lt_succ, Int.reduceLE, Int.reduceLT, Int.reduceEq, Int.reduceNeg, Int.reduceAdd, Int.reduceSub, Int.reduceMul, Int.reduceToNat, Int.cast_ofNat_Int, b_sadd, hb, h72, List.length_append]
  rw [if_pos (by omega)]
  simp only [go_sem, reduceCtorEq, reduceIte, reduceDIte, Nat.reduceEqDiff, Nat.reduceAdd, Nat.reduceMul, Nat.reduceSub, Nat.reduceDiv, Nat.reduceMod, Nat.reduceLeDiff, Nat.reduceLT, Nat.lt_add_one, Nat.zero_lt_succ, Int.reduceLE, Int.reduceLT, Int.reduceEq, Int.reduceNeg, Int.reduceAdd, Int.reduceSub, Int.reduceMul, Int.reduceToNat, Int.cast_ofNat_Int, b_sadd, hb, h72, List.length_append]
  rw [if_pos (by omega)]
  simp only [go_sem, reduceCtorEq, reduceIte, reduceDIte, Nat.reduceEqDiff, Nat.reduceAdd, Nat.reduceMul, Nat.reduceSub, Nat.reduceDiv, Nat.reduceMod, Nat.reduceLeDiff, Nat.reduceLT, Nat.lt_add_one, Nat.zero_lt_succ, Int.reduceLE, Int.reduceLT, Int.reduceEq, Int.reduceNeg, Int.reduceAdd, Int.reduceSub, Int.reduceMul, Int.reduceToNat, Int.cast_ofNat_Int, b_sadd, hb, h72, List.length_append]
  rw [if_pos (by omega)]
  simp only [go_sem, reduceCtorEq, reduceIte, reduceDIte, Nat.reduceEqDiff, Nat.reduceAdd, Nat.reduceMul, Nat.reduceSub, Nat.reduceDiv, Nat.reduceMod, Nat.reduceLeDiff, Nat.reduceLT, Nat.lt_add_one, Nat.zero_lt_succ, Int.reduceLE, Int.reduceLT, Int.reduceEq, Int.reduceNeg, Int.reduceAdd, Int.reduceSub, Int.reduceMul, Int.reduceToNat, Int.cast_ofNat_Int, b_sadd, hb, h72, List.length_append]
  simp [lineB]
theorem c59 (s : List UInt8) (hs : s.length ≤ 450) (h35 : 35 ∉ s) : W Γ 59 [.str s] [] = some (.tup [.str (s ++ 35 :: Lib.decDigits (chk 7 s)), .bool true], []) := by
  rw [W_code (fd := d59) rfl]
  have hc := chk_lt s 7 (by decide)
  have hl := Lib.itoa_length_le (chk 7 s) (by omega) (by omega)
  rw [Lib.itoa_nonneg] at hl
  have hn : ¬ ((4000 : Int) < ((s.length + ((Lib.decDigits (chk 7 s)).length + 1) : Nat) : Int)) := by omega
  simp only [go_sem, reduceCtorEq, reduceIte, reduceDIte, Nat.reduceEqDiff, Nat.reduceAdd, Nat.reduceMul, Nat.reduceSub, Nat.reduceDiv, Nat.reduceMod, Nat.reduceLeDiff, Nat.reduceLT, Nat.lt_add_one, Nat.zero_lt_succ, Int.reduceLE, Int.reduceLT, Int.reduceEq, Int.reduceNeg, Int.reduceAdd, Int.reduceSub, Int.reduceMul, Int.reduceToNat, Int.cast_ofNat_Int, b_sadd, d59, c80 s (by omega), c60 (chk 7 s) (by omega), c81 s 35, h35, hn, List.length_append]
  rw [if_pos (by omega)]
  simp only [go_sem, reduceCtorEq, reduceIte, reduceDIte, Nat.reduceEqDiff, Nat.reduceAdd, Nat.reduceMul, Nat.reduceSub, Nat.reduceDiv, Nat.reduceMod, Nat.reduceLeDiff, Nat.reduceLT, Nat.lt_add_one, Nat.zero_lt_succ, Int.reduceLE, Int.reduceLT, Int.reduceEq, Int.reduceNeg, Int.reduceAdd, Int.reduceSub, Int.reduceMul, Int.reduceToNat, Int.cast_ofNat_Int, b_sadd, c60 (chk 7 s) (by omega), c81 s 35, h35, hn, List.length_append]
  rw [if_pos (by omega)]
  simp only [go_sem, reduceCtorEq, reduceIte, reduceDIte, Nat.reduceEqDiff, Nat.reduceAdd, Nat.reduceMul, Nat.reduceSub, Nat.reduceDiv, Nat.reduceMod, Nat.reduceLeDiff, Nat.reduceLT, Nat.lt_add_one, Nat.zero_lt_succ, Int.reduceLE, Int.reduceLT, Int.reduceEq, Int.reduceNeg, Int.reduceAdd, Int.reduceSub, Int.reduceMul, Int.reduceToNat, Int.cast_ofNat_Int, b_sadd, c81 s 35, h35, hn, List.length_append]
end Go.Proofs.T
namespace Go.Proofs.T
open Go Go.AX Go.Proofs
attribute [local go_sem] run_nil run_p run_m run_c run_g next_some pnext_some gd_tt gd_ff gd_tf gd_ft gd_tup crun_fn gets getO tg setD_some setD_none nz_some fin_some tgs zt argT x_ops x_draw0 x_seq x_cond x_block X_exit X_skip X_ret andThen_norm andThen_exit andThen_ret sel_true sel_false outOf_norm outOf_exit outOf_ret leave_ret leave_norm frees
attribute [local go_sem] pk_true pk_false pk_bool aggO_some p_mv p_pick p_build p_nilCheck p_nilCheckf p_not p_neg p_convInt p_convStr p_mkfn p_fieldAddr p_indexArr p_indexRow p_indexSl p_indexAgg1 p_indexAgg2 p_indexStr p_sliceStr p_sliceStrL p_sliceStrH p_sliceStrLH p_extract p_lenStr p_lenRow p_lenSl p_lenNil p_lenArr p_min p_max p_iface p_bin
attribute [local go_sem] b_add b_sub b_mul b_quo b_rem b_and b_or b_xor b_andNot b_shl b_shr b_eql b_neq b_lss b_leq b_gtr b_geq b_seql b_sneq b_beql b_bneq b_aeql b_aneq b_ieql b_ineq b_neql b_nneq
attribute [local go_sem] finish_eq finO_some one_one one_nil one_more consO_some rvs_nil rvs_cons rv_t rv_c rvc_true rvc_false rvl1_live rvl2_live norm_nrm0 nrm0_nil nrm0_cons nrmG_some AV.locs AV.locsL AV.rn AV.rnL call0_nil call0_cons call1_some place_nil placed_nil place_some put2_some new_nil new_cons new1_free partF_pfin pfin_eq clB_dead clB_live closedB_cons closedB_nil locs_live locs_dead blk_flat blk_deep sl_flat sl_deep sl_dead wholeB_live wholeB_dead wholeB_nil reach memN subN nodupB idx nthN view allIn gt pt rangeN
attribute [local go_sem] pn_zero pns_some pn_succ withV_some m_alloc boxed_cons m_box built_some m_build ldc_some ld1_live m_load1 ld2_live m_load2 st1_live m_store ap1_live m_append ap0_live m_append0 m_bytes m_make AV.cells fillA flatB
attribute [local go_sem] foot_g gdF_tt gdF_ff gdF_tf gdF_ft gdF_tup consF_some nextF_some pnextF_some foot_nil foot_p foot_m foot_c finF_some x_draw cfoot_fn cfoot0_some f_load f_store f_alloc f_box f_bytes f_build f_append pairsOk disj nthF
attribute [local congr] lazy_gdF lazy_consF lazy_nextF lazy_pnextF lazy_finF lazy_opsFoot
attribute [local congr] lazy_gd lazy_sel lazy_next lazy_pnext lazy_nz lazy_fin lazy_andThen lazy_outOf lazy_leave lazy_rnd lazy_X lazy_opsRun
attribute [local go_sem] List.length_cons List.length_nil List.nil_append List.cons_append List.append_nil List.append_assoc if_true if_false decide_true decide_false Bool.not_true Bool.not_false Bool.true_and Bool.and_true Bool.false_and Bool.and_false Bool.true_or Bool.or_true Bool.false_or Bool.or_false and_self true_and and_true false_and and_false or_true true_or or_false false_or not_true not_false_eq_true Int.toNat_natCast Option.map_some Option.map_none List.drop_zero List.take_zero List.drop_succ_cons List.take_succ_cons List.getElem?_cons_zero List.getElem?_cons_succ ge_iff_le gt_iff_lt Nat.le_refl Int.le_refl decide_eq_true_eq Bool.decide_eq_true reduceCtorEq Int.natCast_nonneg Int.ofNat_lt Int.ofNat_le Int.lt_irrefl Nat.lt_irrefl List.isEmpty_nil List.isEmpty_cons Bool.and_self ne_eq List.all_cons List.all_nil AV.one implies_true not_true_eq_false imp_self forall_const
theorem dec_mem (n : Nat) : ∀ b ∈ Lib.decDigits n, 48 ≤ b.toNat ∧ b.toNat ≤ 57 := by
  induction n using Nat.strongRecOn with
  | _ n ih =>
    rw [Lib.decDigits]
    split
    · intro b hb
      simp only [List.mem_singleton] at hb
      subst hb
      rw [UInt8.toNat_ofNat']
      omega
    · intro b hb
      simp only [List.mem_append, List.mem_singleton] at hb
      rcases hb with hb | hb
      · exact ih (n / 10) (by omega) b hb
      · subst hb
        rw [UInt8.toNat_ofNat']
        omega
theorem pr_spec {s : List UInt8} {m : Int} (h : pr s m = true) : (s.length : Int) ≤ m ∧ ∀ b ∈ s, 32 ≤ b.toNat ∧ b.toNat ≤ 126 ∧ b.toNat ≠ 35 := by
  simp only [pr, Bool.and_eq_true, List.all_eq_true, decide_eq_true_eq] at h
  refine ⟨h.2, fun b hb => ?_⟩
  have := h.1 b hb
  simp only [okB, Bool.and_eq_true, decide_eq_true_eq, Bool.not_eq_true', decide_eq_false_iff_not] at this
  exact ⟨this.1.1, this.1.2, this.2⟩
theorem rec_spec {c r : List UInt8} (h : recB c r = true) : c ≠ [] ∧ c.length ≤ 160 ∧ r.length ≤ 250 ∧ (∀ b ∈ c, 32 ≤ b.toNat ∧ b.toNat ≤ 126 ∧ b.toNat ≠ 35) ∧ (∀ b ∈ r, 32 ≤ b.toNat ∧ b.toNat ≤ 126 ∧ b.toNat ≠ 35) ∧ 64 ∉ c := by
  simp only [recB, cmdB, Bool.and_eq_true, decide_eq_true_eq, Bool.not_eq_true', decide_eq_false_iff_not] at h
  obtain ⟨⟨⟨h1, h2⟩, h3⟩, h4⟩ := h
  obtain ⟨a1, a2⟩ := pr_spec h2
  obtain ⟨b1, b2⟩ := pr_spec h4
  exact ⟨h1, by omega, by omega, a2, b2, h3⟩
theorem dec_len2 {k : Nat} (hk : k ≤ 59) : (Lib.decDigits k).length ≤ 2 := by
  rw [Lib.decDigits]
  split
  · simp
  · rw [Lib.decDigits, dif_pos (by omega)]
    simp
theorem body_ok {k : Nat} {c r : List UInt8} (hk : k ≤ 59) (h : recB c r = true) : (bodyB k c r).length ≤ 450 ∧ 35 ∉ bodyB k c r := by
  obtain ⟨_, h2, h3, h4, h5, _⟩ := rec_spec h
  have := dec_len2 hk
  refine ⟨by unfold bodyB; simp only [List.length_append, List.length_cons, List.length_nil]; omega, fun hm => ?_⟩
  simp only [bodyB, List.mem_append, List.mem_singleton] at hm
  rcases hm with (((hm | hm) | hm) | hm) | hm
  · have := dec_mem k 35 hm
    simp at this
  · simp at hm
  · exact (h4 35 hm).2.2 rfl
  · simp at hm
  · exact (h5 35 hm).2.2 rfl
def encB (k : Nat) (c r : List UInt8) : List AV := if k ≤ 59 ∧ recB c r = true then [.str (lineB k c r), .bool true] else [.str [], .bool false]
theorem c31 (k : Nat) (c r : List UInt8) (hk : k < 1000000) (hc : Short c) (hr : Short r) : W Γ 31 [.int .i64 k, .agg [.str c, .str r]] [] = some (.tup (encB k c r), []) := by
  rw [W_code (fd := d31) rfl]
  unfold encB
  by_cases h1 : k ≤ 59
  · have h1' : (k : Int) ≤ 59 := by omega
    cases h2 : recB c r
    · simp only [go_sem, reduceCtorEq, reduceIte, reduceDIte, Nat.reduceEqDiff, Nat.reduceAdd, Nat.reduceMul, Nat.reduceSub, Nat.reduceDiv, Nat.reduceMod, Nat.reduceLeDiff, Nat.reduceLT, Nat.lt_add_one, Nat.zero_lt_succ, Int.reduceLE, Int.reduceLT, Int.reduceEq, Int.reduceNeg, Int.reduceAdd, Int.reduceSub, Int.reduceMul, Int.reduceToNat, Int.cast_ofNat_Int, b_sadd, d31, c58 k 0 59, h1, h1', h2, c35 c r hc hr]
    · obtain ⟨g1, g2⟩ := body_ok h1 h2
      obtain ⟨_, q2, q3, _⟩ := rec_spec h2
      have q1 := dec_len2 h1
      have hb : Lib.decDigits k ++ 32 :: (c ++ 64 :: r) = bodyB k c r := by simp [bodyB]
      have hch := chk_lt (bodyB k c r) 7 (by decide)
      have hl := Lib.itoa_length_le (chk 7 (bodyB k c r)) (by omega) (by omega)
      rw [Lib.itoa_nonneg] at hl
      simp only [go_sem, reduceCtorEq, reduceIte, reduceDIte, Nat.reduceEqDiff, Nat.reduceAdd, Nat.reduceMul, Nat.reduceSub, Nat.reduceDiv, Nat.reduceMod, Nat.reduceLeDiff, Nat.reduceLT, Nat.lt_add_one, Nat.zero_lt_succ, Int.reduceLE, Int.reduceLT, Int.reduceEq, Int.reduceNeg, Int.reduceAdd, Int.reduceSub, Int.reduceMul, Int.reduceToNat, Int.cast_ofNat_Int, b_sadd, d31, c58 k 0 59, h1, h1', h2, c35 c r hc hr, c60 k (by omega), List.length_append]
      rw [if_pos (by omega)]
      simp only [go_sem, reduceCtorEq, reduceIte, reduceDIte, Nat.reduceEqDiff, Nat.reduceAdd, Nat.reduceMul, Nat.reduceSub, Nat.reduceDiv, Nat.reduceMod, Nat.reduceLeDiff, Nat.reduceLT, Nat.lt_add_one, Nat.zero_lt_succ, Int.reduceLE, Int.reduceLT, Int.reduceEq, Int.reduceNeg, Int.reduceAdd, Int.reduceSub, Int.reduceMul, Int.reduceToNat, Int.cast_ofNat_Int, b_sadd, hb, c59 _ g1 g2, List.length_append]
      rw [if_pos (by omega)]
      simp only [go_sem, reduceCtorEq, reduceIte, reduceDIte, Nat.reduceEqDiff, Nat.reduceAdd, Nat.reduceMul, Nat.reduceSub, Nat.reduceDiv, Nat.reduceMod, Nat.reduceLeDiff, Nat.reduceLT, Nat.lt_add_one, Nat.zero_lt_succ, Int.reduceLE, Int.reduceLT, Int.reduceEq, Int.reduceNeg, Int.reduceAdd, Int.reduceSub, Int.reduceMul, Int.reduceToNat, Int.cast_ofNat_Int, b_sadd, hb, c59 _ g1 g2, List.length_append]
      rw [if_pos (by omega)]
      simp only [go_sem, reduceCtorEq, reduceIte, reduceDIte, Nat.reduceEqDiff, Nat.reduceAdd, Nat.reduceMul, Nat.reduceSub, Nat.reduceDiv, Nat.reduceMod, Nat.reduceLeDiff, Nat.reduceLT, Nat.lt_add_one, Nat.zero_lt_succ, Int.reduceLE, Int.reduceLT, Int.reduceEq, Int.reduceNeg, Int.reduceAdd, Int.reduceSub, Int.reduceMul, Int.reduceToNat, Int.cast_ofNat_Int, b_sadd, hb, c59 _ g1 g2, List.length_append]
      rw [if_pos (by omega)]
      simp only [go_sem, reduceCtorEq, reduceIte, reduceDIte, Nat.reduceEqDiff, Nat.reduceAdd, Nat.reduceMul, Nat.reduceSub, Nat.reduceDiv, Nat.reduceMod, Nat.reduceLeDiff, Nat.reduceLT, Nat.lt_add_one, Nat.zero_lt_succ, Int.reduceLE, Int.reduceLT, Int.reduceEq, Int.reduceNeg, Int.reduceAdd, Int.reduceSub, Int.reduceMul, Int.reduceToNat, Int.cast_ofNat_Int, b_sadd, hb, c59 _ g1 g2, List.length_append]
      rw [if_pos (by omega)]
      simp only [go_sem, reduceCtorEq, reduceIte, reduceDIte, Nat.reduceEqDiff, Nat.reduceAdd, Nat.reduceMul, Nat.reduceSub, Nat.reduceDiv, Nat.reduceMod, Nat.reduceLeDiff, Nat.reduceLT, Nat.lt_add_one, Nat.zero_lt_succ, Int.reduceLE, Int.reduceLT, Int.reduceEq, Int.reduceNeg, Int.reduceAdd, Int.reduceSub, Int.reduceMul, Int.reduceToNat, Int.cast_ofNat_Int, b_sadd, hb, c59 _ g1 g2, List.length_append]
      simp [lineB]
  · have h1' : ¬ (k : Int) ≤ 59 := by omega
    simp only [go_sem, reduceCtorEq, reduceIte, reduceDIte, Nat.reduceEqDiff, Nat.reduceAdd, Nat.reduceMul, Nat.reduceSub, Nat.reduceDiv, Nat.reduceMod, Nat.reduceLeDiff, Nat.reduceLT, Nat.lt_add_one, Nat.zero_lt_succ, Int.reduceLE, Int.reduceLT, Int.reduceEq, Int.reduceNeg, Int.reduceAdd, Int.reduceSub, Int.reduceMul, Int.reduceToNat, Int.cast_ofNat_Int, b_sadd, d31, c58 k 0 59, h1, h1']
end Go.Proofs.T
namespace Go.Proofs.T
open Go Go.AX Go.Proofs
attribute [local go_sem] run_nil run_p run_m run_c run_g next_some pnext_some gd_tt gd_ff gd_tf gd_ft gd_tup crun_fn gets getO tg setD_some setD_none nz_some fin_some tgs zt argT x_ops x_draw0 x_seq x_cond x_block X_exit X_skip X_ret andThen_norm andThen_exit andThen_ret sel_true sel_false outOf_norm outOf_exit outOf_ret leave_ret leave_norm frees
attribute [local go_sem] pk_true pk_false pk_bool aggO_some p_mv p_pick p_build p_nilCheck p_nilCheckf p_not p_neg p_convInt p_convStr p_mkfn p_fieldAddr p_indexArr p_indexRow p_indexSl p_indexAgg1 p_indexAgg2 p_indexStr p_sliceStr p_sliceStrL p_sliceStrH p_sliceStrLH p_extract p_lenStr p_lenRow p_lenSl p_lenNil p_lenArr p_min p_max p_iface p_bin
attribute [local go_sem] b_add b_sub b_mul b_quo b_rem b_and b_or b_xor b_andNot b_shl b_shr b_eql b_neq b_lss b_leq b_gtr b_geq b_seql b_sneq b_beql b_bneq b_aeql b_aneq b_ieql b_ineq b_neql b_nneq
attribute [local go_sem] finish_eq finO_some one_one one_nil one_more consO_some rvs_nil rvs_cons rv_t rv_c rvc_true rvc_false rvl1_live rvl2_live norm_nrm0 nrm0_nil nrm0_cons nrmG_some AV.locs AV.locsL AV.rn AV.rnL call0_nil call0_cons call1_some place_nil placed_nil place_some put2_some new_nil new_cons new1_free partF_pfin pfin_eq clB_dead clB_live closedB_cons closedB_nil locs_live locs_dead blk_flat blk_deep sl_flat sl_deep sl_dead wholeB_live wholeB_dead wholeB_nil reach memN subN nodupB idx nthN view allIn gt pt rangeN
attribute [local go_sem] pn_zero pns_some pn_succ withV_some m_alloc boxed_cons m_box built_some m_build ldc_some ld1_live m_load1 ld2_live m_load2 st1_live m_store ap1_live m_append ap0_live m_append0 m_bytes m_make AV.cells fillA flatB
attribute [local go_sem] foot_g gdF_tt gdF_ff gdF_tf gdF_ft gdF_tup consF_some nextF_some pnextF_some foot_nil foot_p foot_m foot_c finF_some x_draw cfoot_fn cfoot0_some f_load f_store f_alloc f_box f_bytes f_build f_append pairsOk disj nthF
attribute [local congr] lazy_gdF lazy_consF lazy_nextF lazy_pnextF lazy_finF lazy_opsFoot
attribute [local congr] lazy_gd lazy_sel lazy_next lazy_pnext lazy_nz lazy_fin lazy_andThen lazy_outOf lazy_leave lazy_rnd lazy_X lazy_opsRun
attribute [local go_sem] List.length_cons List.length_nil List.nil_append List.cons_append List.append_nil List.append_assoc if_true if_false decide_true decide_false Bool.not_true Bool.not_false Bool.true_and Bool.and_true Bool.false_and Bool.and_false Bool.true_or Bool.or_true Bool.false_or Bool.or_false and_self true_and and_true false_and and_false or_true true_or or_false false_or not_true not_false_eq_true Int.toNat_natCast Option.map_some Option.map_none List.drop_zero List.take_zero List.drop_succ_cons List.take_succ_cons List.getElem?_cons_zero List.getElem?_cons_succ ge_iff_le gt_iff_lt Nat.le_refl Int.le_refl decide_eq_true_eq Bool.decide_eq_true reduceCtorEq Int.natCast_nonneg Int.ofNat_lt Int.ofNat_le Int.lt_irrefl Nat.lt_irrefl List.isEmpty_nil List.isEmpty_cons Bool.and_self ne_eq List.all_cons List.all_nil AV.one implies_true not_true_eq_false imp_self forall_const
def ahead (s : List UInt8) (c : UInt8) : List UInt8 := s.takeWhile (· != c)
def behind (s : List UInt8) (c : UInt8) : List UInt8 := (s.dropWhile (· != c)).drop 1
theorem index_in (c : UInt8) : ∀ s : List UInt8, c ∈ s → Lib.indexByte s c = (ahead s c).length ∧ s = ahead s c ++ c :: behind s c
  | [], h => by cases h
  | b :: s, h => by
    simp only [Lib.indexByte, ahead, behind]
    by_cases hb : b = c
    · subst hb; simp
    · have hm : c ∈ s := by
        rcases List.mem_cons.1 h with e | e
        · exact absurd e.symm hb
        · exact e
      obtain ⟨h1, h2⟩ := index_in c s hm
      have hne : (b != c) = true := by simp [hb]
      simp only [beq_iff_eq, hb, if_false]
      rw [h1, if_neg (by omega)]
      simp only [List.takeWhile_cons, List.dropWhile_cons, hne, if_true, List.length_cons]
      refine ⟨by simp [ahead], ?_⟩
      simp only [ahead, behind] at h2
      rw [List.cons_append, ← h2]
theorem index_out (c : UInt8) (s : List UInt8) (h : c ∉ s) : Lib.indexByte s c = -1 ∧ ahead s c = s := by
  have h1 := index_mem c s
  have h2 := Lib.indexByte_ge s c
  refine ⟨?_, ?_⟩
  · have : ¬ 0 ≤ Lib.indexByte s c := fun hh => h (h1.1 hh)
    omega
  · unfold ahead
    clear h1 h2
    induction s with
    | nil => rfl
    | cons b s ih =>
      have hb : (b != c) = true := by simp only [bne_iff_ne, ne_eq]; exact fun e => h (by simp [e])
      rw [List.takeWhile_cons, hb, if_pos rfl, ih (fun hm => h (by simp [hm]))]
theorem c97 (s : List UInt8) (c : UInt8) : W Γ 97 [.str s, .str [c]] [] = some (.int .i64 (Lib.indexByte s c), []) := by
  rw [W_prim (p := p97) rfl]
  rfl
theorem take_mid (a b : List UInt8) (c : UInt8) : (a ++ c :: b).take a.length = a := by
  induction a with
  | nil => rfl
  | cons x a ih => simp only [List.cons_append, List.length_cons, List.take_succ_cons, ih]
theorem drop_mid (a b : List UInt8) (c : UInt8) : (a ++ c :: b).drop (a.length + 1) = b := by
  induction a with
  | nil => rfl
  | cons x a ih => simp only [List.cons_append, List.length_cons, List.drop_succ_cons, ih]
def cutB (s : List UInt8) (c : UInt8) : List AV := if c ∈ s then [.str (ahead s c), .str (behind s c), .bool true] else [.str s, .str [], .bool false]
theorem c92 (s : List UInt8) (c : UInt8) (hs : Short s) : W Γ 92 [.str s, .str [c]] [] = some (.tup (cutB s c), []) := by
  rw [W_code (fd := d92) rfl]
  unfold cutB
  by_cases h : c ∈ s
  · obtain ⟨h1, h2⟩ := index_in c s h
    have hl : (ahead s c).length + (1 + (behind s c).length) = s.length := by
      have := congrArg List.length h2
      simp only [List.length_append, List.length_cons] at this
      omega
    unfold Short at hs
    have h3 : (0 : Int) ≤ (ahead s c).length := by omega
    have h4 : ((ahead s c).length : Int) ≤ s.length := by omega
    have h5 : IntKind.i64.wrap (((ahead s c).length : Int) + 1) = (((ahead s c).length + 1 : Nat) : Int) := by rw [wrapi] <;> omega
    have h6 : (0 : Int) ≤ (((ahead s c).length + 1 : Nat) : Int) ∧ (((ahead s c).length + 1 : Nat) : Int) ≤ s.length := by omega
    have h7 : s.take (ahead s c).length = ahead s c := (congrArg (List.take (ahead s c).length) h2).trans (take_mid _ _ _)
    have h8 : s.drop ((ahead s c).length + 1) = behind s c := (congrArg (List.drop ((ahead s c).length + 1)) h2).trans (drop_mid _ _ _)
    simp only [go_sem, reduceCtorEq, reduceIte, reduceDIte, Nat.reduceEqDiff, Nat.reduceAdd, Nat.reduceMul, Nat.reduceSub, Nat.reduceDiv, Nat.reduceMod, Nat.reduceLeDiff, Nat.reduceLT, Nat.lt_add_one, Nat.zero_lt_succ, Int.reduceLE, Int.reduceLT, Int.reduceEq, Int.reduceNeg, Int.reduceAdd, Int.reduceSub, Int.reduceMul, Int.reduceToNat, Int.cast_ofNat_Int, b_sadd, d92, c97, h1, h3, h4, h5, h6, h7, h8, h]
  · obtain ⟨h1, h2⟩ := index_out c s h
    simp only [go_sem, reduceCtorEq, reduceIte, reduceDIte, Nat.reduceEqDiff, Nat.reduceAdd, Nat.reduceMul, Nat.reduceSub, Nat.reduceDiv, Nat.reduceMod, Nat.reduceLeDiff, Nat.reduceLT, Nat.lt_add_one, Nat.zero_lt_succ, Int.reduceLE, Int.reduceLT, Int.reduceEq, Int.reduceNeg, Int.reduceAdd, Int.reduceSub, Int.reduceMul, Int.reduceToNat, Int.cast_ofNat_Int, b_sadd, d92, c97, h1, h]
theorem c84 (s : List UInt8) (c : UInt8) (hs : Short s) : W Γ 84 [.str s, .str [c]] [] = some (.tup (cutB s c), []) := by
  rw [W_code (fd := d84) rfl]
  have h92 := c92 s c hs
  unfold cutB at h92 ⊢
  by_cases h : c ∈ s
  · rw [if_pos h] at h92 ⊢
    simp only [go_sem, reduceCtorEq, reduceIte, reduceDIte, Nat.reduceEqDiff, Nat.reduceAdd, Nat.reduceMul, Nat.reduceSub, Nat.reduceDiv, Nat.reduceMod, Nat.reduceLeDiff, Nat.reduceLT, Nat.lt_add_one, Nat.zero_lt_succ, Int.reduceLE, Int.reduceLT, Int.reduceEq, Int.reduceNeg, Int.reduceAdd, Int.reduceSub, Int.reduceMul, Int.reduceToNat, Int.cast_ofNat_Int, b_sadd, d84, h92]
  · rw [if_neg h] at h92 ⊢
    simp only [go_sem, reduceCtorEq, reduceIte, reduceDIte, Nat.reduceEqDiff, Nat.reduceAdd, Nat.reduceMul, Nat.reduceSub, Nat.reduceDiv, Nat.reduceMod, Nat.reduceLeDiff, Nat.reduceLT, Nat.lt_add_one, Nat.zero_lt_succ, Int.reduceLE, Int.reduceLT, Int.reduceEq, Int.reduceNeg, Int.reduceAdd, Int.reduceSub, Int.reduceMul, Int.reduceToNat, Int.cast_ofNat_Int, b_sadd, d84, h92]
end Go.Proofs.T
namespace Go.Proofs.T
open Go Go.AX Go.Proofs
attribute [local go_sem] run_nil run_p run_m run_c run_g next_some pnext_some gd_tt gd_ff gd_tf gd_ft gd_tup crun_fn gets getO tg setD_some setD_none nz_some fin_some tgs zt argT x_ops x_draw0 x_seq x_cond x_block X_exit X_skip X_ret andThen_norm andThen_exit andThen_ret sel_true sel_false outOf_norm outOf_exit outOf_ret leave_ret leave_norm frees
attribute [local go_sem] pk_true pk_false pk_bool aggO_some p_mv p_pick p_build p_nilCheck p_nilCheckf p_not p_neg p_convInt p_convStr p_mkfn p_fieldAddr p_indexArr p_indexRow p_indexSl p_indexAgg1 p_indexAgg2 p_indexStr p_sliceStr p_sliceStrL p_sliceStrH p_sliceStrLH p_extract p_lenStr p_lenRow p_lenSl p_lenNil p_lenArr p_min p_max p_iface p_bin
attribute [local go_sem] b_add b_sub b_mul b_quo b_rem b_and b_or b_xor b_andNot b_shl b_shr b_eql b_neq b_lss b_leq b_gtr b_geq b_seql b_sneq b_beql b_bneq b_aeql b_aneq b_ieql b_ineq b_neql b_nneq
attribute [local go_sem] finish_eq finO_some one_one one_nil one_more consO_some rvs_nil rvs_cons rv_t rv_c rvc_true rvc_false rvl1_live rvl2_live norm_nrm0 nrm0_nil nrm0_cons nrmG_some AV.locs AV.locsL AV.rn AV.rnL call0_nil call0_cons call1_some place_nil placed_nil place_some put2_some new_nil new_cons new1_free partF_pfin pfin_eq clB_dead clB_live closedB_cons closedB_nil locs_live locs_dead blk_flat blk_deep sl_flat sl_deep sl_dead wholeB_live wholeB_dead wholeB_nil reach memN subN nodupB idx nthN view allIn gt pt rangeN
attribute [local go_sem] pn_zero pns_some pn_succ withV_some m_alloc boxed_cons m_box built_some m_build ldc_some ld1_live m_load1 ld2_live m_load2 st1_live m_store ap1_live m_append ap0_live m_append0 m_bytes m_make AV.cells fillA flatB
attribute [local go_sem] foot_g gdF_tt gdF_ff gdF_tf gdF_ft gdF_tup consF_some nextF_some pnextF_some foot_nil foot_p foot_m foot_c finF_some x_draw cfoot_fn cfoot0_some f_load f_store f_alloc f_box f_bytes f_build f_append pairsOk disj nthF
attribute [local congr] lazy_gdF lazy_consF lazy_nextF lazy_pnextF lazy_finF lazy_opsFoot
attribute [local congr] lazy_gd lazy_sel lazy_next lazy_pnext lazy_nz lazy_fin lazy_andThen lazy_outOf lazy_leave lazy_rnd lazy_X lazy_opsRun
attribute [local go_sem] List.length_cons List.length_nil List.nil_append List.cons_append List.append_nil List.append_assoc if_true if_false decide_true decide_false Bool.not_true Bool.not_false Bool.true_and Bool.and_true Bool.false_and Bool.and_false Bool.true_or Bool.or_true Bool.false_or Bool.or_false and_self true_and and_true false_and and_false or_true true_or or_false false_or not_true not_false_eq_true Int.toNat_natCast Option.map_some Option.map_none List.drop_zero List.take_zero List.drop_succ_cons List.take_succ_cons List.getElem?_cons_zero List.getElem?_cons_succ ge_iff_le gt_iff_lt Nat.le_refl Int.le_refl decide_eq_true_eq Bool.decide_eq_true reduceCtorEq Int.natCast_nonneg Int.ofNat_lt Int.ofNat_le Int.lt_irrefl Nat.lt_irrefl List.isEmpty_nil List.isEmpty_cons Bool.and_self ne_eq List.all_cons List.all_nil AV.one implies_true not_true_eq_false imp_self forall_const
theorem cutB_eq (s : List UInt8) (c : UInt8) : cutB s c = [.str (ahead s c), .str (behind s c), .bool (decide (c ∈ s))] := by
  unfold cutB
  by_cases h : c ∈ s
  · simp [h]
  · have h2 := (index_out c s h).2
    have : behind s c = [] := by
      unfold behind
      have h3 : s.dropWhile (· != c) = [] := by
        clear h2
        induction s with
        | nil => rfl
        | cons b s ih =>
          have hb : (b != c) = true := by simp only [bne_iff_ne, ne_eq]; exact fun e => h (by simp [e])
          rw [List.dropWhile_cons, hb, if_pos rfl, ih (fun hm => h (by simp [hm]))]
      rw [h3]; rfl
    simp [h, h2, this]
theorem ahead_len (s : List UInt8) (c : UInt8) : (ahead s c).length ≤ s.length := by
  unfold ahead
  induction s with
  | nil => simp
  | cons b s ih =>
    rw [List.takeWhile_cons]
    split
    · simp only [List.length_cons]; omega
    · simp
theorem behind_len (s : List UInt8) (c : UInt8) : (behind s c).length ≤ s.length := by
  unfold behind
  induction s with
  | nil => simp
  | cons b s ih =>
    rw [List.dropWhile_cons]
    split
    · simp only [List.length_cons, List.length_drop] at ih ⊢; omega
    · simp
/-- What a line holds. -/
def cmdOf (line : List UInt8) : List UInt8 := ahead (behind (ahead line 35) 32) 64
def repOf (line : List UInt8) : List UInt8 := behind (behind (ahead line 35) 32) 64
def good (n : Nat) (rest : List UInt8) : Bool := decide (10 ∈ rest) && (decide (n ≤ 59) && recB (cmdOf (ahead rest 10)) (repOf (ahead rest 10)) && decide (lineB n (cmdOf (ahead rest 10)) (repOf (ahead rest 10)) = ahead rest 10 ++ [10]))
theorem good_bad {n : Nat} {rest : List UInt8} (g1 : ¬ (n ≤ 59 ∧ recB (cmdOf (ahead rest 10)) (repOf (ahead rest 10)) = true)) : good n rest = false := by
  unfold good
  simp only [Bool.and_eq_false_iff, decide_eq_false_iff_not]
  right; left
  by_cases q : n ≤ 59
  · exact .inr (by simpa [q] using g1)
  · exact .inl q
theorem row69 (s : List UInt8) (hs : s.length ≤ 1000000) (n at' : Nat) (hn : n < 60) (ha : at' ≤ s.length) (cells : List AV) (hc : cells.length = n * 2) (z : Option (Ex × St))
    (hz : good n (s.drop at') = true → outOf 0 0 [4, 5] (rnd (W Γ) 0 l69_0 [0, 4, 5] b69_0 (some ([.str s, .row 0 (n + 1), .int .i64 ((at' + (ahead (s.drop at') 10).length + 1 : Nat) : Int)], [.live ⟨.row 36 2, true, cells ++ [.str (cmdOf (ahead (s.drop at') 10)), .str (repOf (ahead (s.drop at') 10))]⟩]))) = z) :
    outOf 0 0 [4, 5] (rnd (W Γ) 0 l69_0 [0, 4, 5] b69_0 (some ([.str s, .row 0 n, .int .i64 at'], [.live ⟨.row 36 2, true, cells⟩]))) =
      if good n (s.drop at') = true then z else some (.norm, ⟨[(4, .row 0 n), (5, .int .i64 at')], [.live ⟨.row 36 2, true, cells⟩]⟩) := by
  rw [rnd_some]
  have h1 : (n : Int) < 60 := by omega
  have h2 : (at' : Int) ≤ s.length := by omega
  have hld : at' + (s.drop at').length = s.length := by rw [List.length_drop]; omega
  generalize hrest : s.drop at' = rest at hld hz
  have hl := ahead_len rest 10
  have hb1 := ahead_len (ahead rest 10) 35
  have hb2 := behind_len (ahead (ahead rest 10) 35) 32
  have hb3 := ahead_len (behind (ahead (ahead rest 10) 35) 32) 64
  have hb4 := behind_len (behind (ahead (ahead rest 10) 35) 32) 64
  have k1 := c84 rest 10 (by unfold Short; omega)
  have k2 := c84 (ahead rest 10) 35 (by unfold Short; omega)
  have k3 := c84 (ahead (ahead rest 10) 35) 32 (by unfold Short; omega)
  have k4 := c84 (behind (ahead (ahead rest 10) 35) 32) 64 (by unfold Short; omega)
  rw [cutB_eq] at k1 k2 k3 k4
  have k5 := c31 n (cmdOf (ahead rest 10)) (repOf (ahead rest 10)) (by omega) (by unfold Short cmdOf; omega) (by unfold Short repOf; omega)
  change W Γ 31 [AV.int IntKind.i64 n, AV.agg [AV.str (ahead (behind (ahead (ahead rest 10) 35) 32) 64), AV.str (behind (behind (ahead (ahead rest 10) 35) 32) 64)]] [] = _ at k5
  unfold encB at k5
  by_cases g0 : 10 ∈ rest
  · by_cases g1 : n ≤ 59 ∧ recB (cmdOf (ahead rest 10)) (repOf (ahead rest 10)) = true
    · rw [if_pos g1] at k5
      have hle : (ahead rest 10).length ≤ 9223372036854775806 := by omega
      by_cases g2 : lineB n (cmdOf (ahead rest 10)) (repOf (ahead rest 10)) = ahead rest 10 ++ [10]
      · have hg : good n rest = true := by unfold good; simp [g0, g1.1, g1.2, g2]
        have w1 : IntKind.i64.wrap ((at' : Int) + (ahead rest 10).length) = ((at' + (ahead rest 10).length : Nat) : Int) := by rw [wrapi] <;> omega
        have w2 : IntKind.i64.wrap (((at' + (ahead rest 10).length : Nat) : Int) + 1) = ((at' + (ahead rest 10).length + 1 : Nat) : Int) := by rw [wrapi] <;> omega
        have q1 : n + 1 ≤ 9223372036854775807 ∧ (n + 1) * 32 ≤ 140737488355328 := by omega
        simp only [go_sem, reduceCtorEq, ↓reduceIte, ↓reduceDIte, Nat.reduceEqDiff, Nat.reduceAdd, Nat.reduceMul, Nat.reduceSub, Nat.reduceDiv, Nat.reduceMod, Nat.reduceLeDiff, Nat.reduceLT, Nat.lt_add_one, Nat.zero_lt_succ, Int.reduceLE, Int.reduceLT, Int.reduceEq, Int.reduceNeg, Int.reduceAdd, Int.reduceSub, Int.reduceMul, Int.reduceToNat, Int.cast_ofNat_Int, b_sadd, b69_0, x69_0, h1, h2, hrest, k1, k2, k3, k4, k5, g0, hg, g2, hle, w1, w2, hc, q1]
        have hz' := hz hg
        unfold b69_0 cmdOf repOf at hz'
        exact hz'
      · have hg : good n rest = false := by unfold good; simp [g2]
        simp only [go_sem, reduceCtorEq, ↓reduceIte, ↓reduceDIte, Nat.reduceEqDiff, Nat.reduceAdd, Nat.reduceMul, Nat.reduceSub, Nat.reduceDiv, Nat.reduceMod, Nat.reduceLeDiff, Nat.reduceLT, Nat.lt_add_one, Nat.zero_lt_succ, Int.reduceLE, Int.reduceLT, Int.reduceEq, Int.reduceNeg, Int.reduceAdd, Int.reduceSub, Int.reduceMul, Int.reduceToNat, Int.cast_ofNat_Int, b_sadd, b69_0, x69_0, h1, h2, hrest, k1, k2, k3, k4, k5, g0, hg, g2, hle]
    · rw [if_neg g1] at k5
      simp only [go_sem, reduceCtorEq, ↓reduceIte, ↓reduceDIte, Nat.reduceEqDiff, Nat.reduceAdd, Nat.reduceMul, Nat.reduceSub, Nat.reduceDiv, Nat.reduceMod, Nat.reduceLeDiff, Nat.reduceLT, Nat.lt_add_one, Nat.zero_lt_succ, Int.reduceLE, Int.reduceLT, Int.reduceEq, Int.reduceNeg, Int.reduceAdd, Int.reduceSub, Int.reduceMul, Int.reduceToNat, Int.cast_ofNat_Int, b_sadd, b69_0, x69_0, h1, h2, hrest, k1, k2, k3, k4, k5, g0, good_bad g1]
  · have hg : good n rest = false := by unfold good; simp [g0]
    by_cases g1 : n ≤ 59 ∧ recB (cmdOf (ahead rest 10)) (repOf (ahead rest 10)) = true
    · rw [if_pos g1] at k5
      simp only [go_sem, reduceCtorEq, ↓reduceIte, ↓reduceDIte, Nat.reduceEqDiff, Nat.reduceAdd, Nat.reduceMul, Nat.reduceSub, Nat.reduceDiv, Nat.reduceMod, Nat.reduceLeDiff, Nat.reduceLT, Nat.lt_add_one, Nat.zero_lt_succ, Int.reduceLE, Int.reduceLT, Int.reduceEq, Int.reduceNeg, Int.reduceAdd, Int.reduceSub, Int.reduceMul, Int.reduceToNat, Int.cast_ofNat_Int, b_sadd, b69_0, x69_0, h1, h2, hrest, k1, k2, k3, k4, k5, g0, hg]
    · rw [if_neg g1] at k5
      simp only [go_sem, reduceCtorEq, ↓reduceIte, ↓reduceDIte, Nat.reduceEqDiff, Nat.reduceAdd, Nat.reduceMul, Nat.reduceSub, Nat.reduceDiv, Nat.reduceMod, Nat.reduceLeDiff, Nat.reduceLT, Nat.lt_add_one, Nat.zero_lt_succ, Int.reduceLE, Int.reduceLT, Int.reduceEq, Int.reduceNeg, Int.reduceAdd, Int.reduceSub, Int.reduceMul, Int.reduceToNat, Int.cast_ofNat_Int, b_sadd, b69_0, x69_0, h1, h2, hrest, k1, k2, k3, k4, k5, g0, hg]
end Go.Proofs.T
namespace Go.Proofs.T
open Go Go.AX Go.Proofs
attribute [local go_sem] run_nil run_p run_m run_c run_g next_some pnext_some gd_tt gd_ff gd_tf gd_ft gd_tup crun_fn gets getO tg setD_some setD_none nz_some fin_some tgs zt argT x_ops x_draw0 x_seq x_cond x_block X_exit X_skip X_ret andThen_norm andThen_exit andThen_ret sel_true sel_false outOf_norm outOf_exit outOf_ret leave_ret leave_norm frees
attribute [local go_sem] pk_true pk_false pk_bool aggO_some p_mv p_pick p_build p_nilCheck p_nilCheckf p_not p_neg p_convInt p_convStr p_mkfn p_fieldAddr p_indexArr p_indexRow p_indexSl p_indexAgg1 p_indexAgg2 p_indexStr p_sliceStr p_sliceStrL p_sliceStrH p_sliceStrLH p_extract p_lenStr p_lenRow p_lenSl p_lenNil p_lenArr p_min p_max p_iface p_bin
attribute [local go_sem] b_add b_sub b_mul b_quo b_rem b_and b_or b_xor b_andNot b_shl b_shr b_eql b_neq b_lss b_leq b_gtr b_geq b_seql b_sneq b_beql b_bneq b_aeql b_aneq b_ieql b_ineq b_neql b_nneq
attribute [local go_sem] finish_eq finO_some one_one one_nil one_more consO_some rvs_nil rvs_cons rv_t rv_c rvc_true rvc_false rvl1_live rvl2_live norm_nrm0 nrm0_nil nrm0_cons nrmG_some AV.locs AV.locsL AV.rn AV.rnL call0_nil call0_cons call1_some place_nil placed_nil place_some put2_some new_nil new_cons new1_free partF_pfin pfin_eq clB_dead clB_live closedB_cons closedB_nil locs_live locs_dead blk_flat blk_deep sl_flat sl_deep sl_dead wholeB_live wholeB_dead wholeB_nil reach memN subN nodupB idx nthN view allIn gt pt rangeN
attribute [local go_sem] pn_zero pns_some pn_succ withV_some m_alloc boxed_cons m_box built_some m_build ldc_some ld1_live m_load1 ld2_live m_load2 st1_live m_store ap1_live m_append ap0_live m_append0 m_bytes m_make AV.cells fillA flatB
attribute [local go_sem] foot_g gdF_tt gdF_ff gdF_tf gdF_ft gdF_tup consF_some nextF_some pnextF_some foot_nil foot_p foot_m foot_c finF_some x_draw cfoot_fn cfoot0_some f_load f_store f_alloc f_box f_bytes f_build f_append pairsOk disj nthF
attribute [local congr] lazy_gdF lazy_consF lazy_nextF lazy_pnextF lazy_finF lazy_opsFoot
attribute [local congr] lazy_gd lazy_sel lazy_next lazy_pnext lazy_nz lazy_fin lazy_andThen lazy_outOf lazy_leave lazy_rnd lazy_X lazy_opsRun
attribute [local go_sem] List.length_cons List.length_nil List.nil_append List.cons_append List.append_nil List.append_assoc if_true if_false decide_true decide_false Bool.not_true Bool.not_false Bool.true_and Bool.and_true Bool.false_and Bool.and_false Bool.true_or Bool.or_true Bool.false_or Bool.or_false and_self true_and and_true false_and and_false or_true true_or or_false false_or not_true not_false_eq_true Int.toNat_natCast Option.map_some Option.map_none List.drop_zero List.take_zero List.drop_succ_cons List.take_succ_cons List.getElem?_cons_zero List.getElem?_cons_succ ge_iff_le gt_iff_lt Nat.le_refl Int.le_refl decide_eq_true_eq Bool.decide_eq_true reduceCtorEq Int.natCast_nonneg Int.ofNat_lt Int.ofNat_le Int.lt_irrefl Nat.lt_irrefl List.isEmpty_nil List.isEmpty_cons Bool.and_self ne_eq List.all_cons List.all_nil AV.one implies_true not_true_eq_false imp_self forall_const
/-- Records at the start of a text: their cells, how many, how many bytes. -/
def rd : Nat → Nat → List UInt8 → List AV × Nat × Nat
  | 0, _, _ => ([], 0, 0)
  | k + 1, n, rest => if good n rest = true then
      ([.str (cmdOf (ahead rest 10)), .str (repOf (ahead rest 10))] ++ (rd k (n + 1) (rest.drop ((ahead rest 10).length + 1))).1, (rd k (n + 1) (rest.drop ((ahead rest 10).length + 1))).2.1 + 1, (ahead rest 10).length + 1 + (rd k (n + 1) (rest.drop ((ahead rest 10).length + 1))).2.2)
    else ([], 0, 0)
theorem good_len {n : Nat} {rest : List UInt8} (h : good n rest = true) : (ahead rest 10).length + 1 ≤ rest.length := by
  unfold good at h
  simp only [Bool.and_eq_true, decide_eq_true_eq] at h
  have := congrArg List.length (index_in 10 rest h.1).2
  simp only [List.length_append, List.length_cons] at this
  omega
theorem loop69 (s : List UInt8) (hs : s.length ≤ 1000000) : ∀ (k n at' : Nat) (cells : List AV), n + k = 60 → at' ≤ s.length → cells.length = n * 2 →
    outOf 0 0 [4, 5] (rnd (W Γ) 0 l69_0 [0, 4, 5] b69_0 (some ([.str s, .row 0 n, .int .i64 at'], [.live ⟨.row 36 2, true, cells⟩]))) =
      some (.norm, ⟨[(4, .row 0 (n + (rd k n (s.drop at')).2.1)), (5, .int .i64 ((at' + (rd k n (s.drop at')).2.2 : Nat) : Int))], [.live ⟨.row 36 2, true, cells ++ (rd k n (s.drop at')).1⟩]⟩) := by
  intro k
  induction k with
  | zero =>
    intro n at' cells hn ha hc
    obtain rfl : n = 60 := by omega
    have h1 : ¬ ((60 : Int) < 60) := by omega
    rw [rnd_some]
    simp only [go_sem, reduceCtorEq, reduceIte, reduceDIte, Nat.reduceEqDiff, Nat.reduceAdd, Nat.reduceMul, Nat.reduceSub, Nat.reduceDiv, Nat.reduceMod, Nat.reduceLeDiff, Nat.reduceLT, Nat.lt_add_one, Nat.zero_lt_succ, Int.reduceLE, Int.reduceLT, Int.reduceEq, Int.reduceNeg, Int.reduceAdd, Int.reduceSub, Int.reduceMul, Int.reduceToNat, Int.cast_ofNat_Int, b_sadd, b69_0, rd, h1, List.append_nil, Nat.add_zero]
  | succ k ih =>
    intro n at' cells hn ha hc
    have key := row69 s hs n at' (by omega) ha cells hc _ (fun hg => by
      have hl := good_len hg
      have := List.length_drop (i := at') (l := s)
      refine (ih (n + 1) (at' + (ahead (s.drop at') 10).length + 1) _ (by omega) (by omega) ?_)
      simp only [List.length_append, List.length_cons, List.length_nil, hc]
      omega)
    rw [key]
    by_cases hg : good n (s.drop at') = true
    · rw [if_pos hg]
      have hd : s.drop (at' + (ahead (s.drop at') 10).length + 1) = (s.drop at').drop ((ahead (s.drop at') 10).length + 1) := by rw [List.drop_drop]; congr 1
      rw [hd]
      simp only [rd, hg, if_true]
      have e1 : n + 1 + (rd k (n + 1) ((s.drop at').drop ((ahead (s.drop at') 10).length + 1))).2.1 = n + ((rd k (n + 1) ((s.drop at').drop ((ahead (s.drop at') 10).length + 1))).2.1 + 1) := by omega
      have e2 : at' + (ahead (s.drop at') 10).length + 1 + (rd k (n + 1) ((s.drop at').drop ((ahead (s.drop at') 10).length + 1))).2.2 = at' + ((ahead (s.drop at') 10).length + 1 + (rd k (n + 1) ((s.drop at').drop ((ahead (s.drop at') 10).length + 1))).2.2) := by omega
      rw [e1, e2, List.append_assoc]
    · rw [if_neg hg]
      have hr : rd (k + 1) n (s.drop at') = ([], 0, 0) := by rw [rd, if_neg hg]
      rw [hr]
      simp only [Nat.add_zero, List.append_nil]
theorem c69 (s : List UInt8) (hs : s.length ≤ 1000000) : W Γ 69 [.str s] [] = some (.tup [.row 0 (rd 60 0 s).2.1, .int .i64 (rd 60 0 s).2.2], [.live ⟨.row 36 2, true, (rd 60 0 s).1⟩]) := by
  rw [W_code (fd := d69) rfl]
  have := loop69 s hs 60 0 0 [] (by omega) (by omega) rfl
  simp only [List.drop_zero, Int.cast_ofNat_Int, Nat.zero_add, List.nil_append] at this
  simp only [go_sem, reduceCtorEq, reduceIte, reduceDIte, Nat.reduceEqDiff, Nat.reduceAdd, Nat.reduceMul, Nat.reduceSub, Nat.reduceDiv, Nat.reduceMod, Nat.reduceLeDiff, Nat.reduceLT, Nat.lt_add_one, Nat.zero_lt_succ, Int.reduceLE, Int.reduceLT, Int.reduceEq, Int.reduceNeg, Int.reduceAdd, Int.reduceSub, Int.reduceMul, Int.reduceToNat, Int.cast_ofNat_Int, b_sadd, d69, x69_0, this]
end Go.Proofs.T
namespace Go.Proofs.T
open Go Go.AX Go.Proofs
attribute [local go_sem] run_nil run_p run_m run_c run_g next_some pnext_some gd_tt gd_ff gd_tf gd_ft gd_tup crun_fn gets getO tg setD_some setD_none nz_some fin_some tgs zt argT x_ops x_draw0 x_seq x_cond x_block X_exit X_skip X_ret andThen_norm andThen_exit andThen_ret sel_true sel_false outOf_norm outOf_exit outOf_ret leave_ret leave_norm frees
attribute [local go_sem] pk_true pk_false pk_bool aggO_some p_mv p_pick p_build p_nilCheck p_nilCheckf p_not p_neg p_convInt p_convStr p_mkfn p_fieldAddr p_indexArr p_indexRow p_indexSl p_indexAgg1 p_indexAgg2 p_indexStr p_sliceStr p_sliceStrL p_sliceStrH p_sliceStrLH p_extract p_lenStr p_lenRow p_lenSl p_lenNil p_lenArr p_min p_max p_iface p_bin
attribute [local go_sem] b_add b_sub b_mul b_quo b_rem b_and b_or b_xor b_andNot b_shl b_shr b_eql b_neq b_lss b_leq b_gtr b_geq b_seql b_sneq b_beql b_bneq b_aeql b_aneq b_ieql b_ineq b_neql b_nneq
attribute [local go_sem] finish_eq finO_some one_one one_nil one_more consO_some rvs_nil rvs_cons rv_t rv_c rvc_true rvc_false rvl1_live rvl2_live norm_nrm0 nrm0_nil nrm0_cons nrmG_some AV.locs AV.locsL AV.rn AV.rnL call0_nil call0_cons call1_some place_nil placed_nil place_some put2_some new_nil new_cons new1_free partF_pfin pfin_eq clB_dead clB_live closedB_cons closedB_nil locs_live locs_dead blk_flat blk_deep sl_flat sl_deep sl_dead wholeB_live wholeB_dead wholeB_nil reach memN subN nodupB idx nthN view allIn gt pt rangeN
attribute [local go_sem] pn_zero pns_some pn_succ withV_some m_alloc boxed_cons m_box built_some m_build ldc_some ld1_live m_load1 ld2_live m_load2 st1_live m_store ap1_live m_append ap0_live m_append0 m_bytes m_make AV.cells fillA flatB
attribute [local go_sem] foot_g gdF_tt gdF_ff gdF_tf gdF_ft gdF_tup consF_some nextF_some pnextF_some foot_nil foot_p foot_m foot_c finF_some x_draw cfoot_fn cfoot0_some f_load f_store f_alloc f_box f_bytes f_build f_append pairsOk disj nthF
attribute [local congr] lazy_gdF lazy_consF lazy_nextF lazy_pnextF lazy_finF lazy_opsFoot
attribute [local congr] lazy_gd lazy_sel lazy_next lazy_pnext lazy_nz lazy_fin lazy_andThen lazy_outOf lazy_leave lazy_rnd lazy_X lazy_opsRun
attribute [local go_sem] List.length_cons List.length_nil List.nil_append List.cons_append List.append_nil List.append_assoc if_true if_false decide_true decide_false Bool.not_true Bool.not_false Bool.true_and Bool.and_true Bool.false_and Bool.and_false Bool.true_or Bool.or_true Bool.false_or Bool.or_false and_self true_and and_true false_and and_false or_true true_or or_false false_or not_true not_false_eq_true Int.toNat_natCast Option.map_some Option.map_none List.drop_zero List.take_zero List.drop_succ_cons List.take_succ_cons List.getElem?_cons_zero List.getElem?_cons_succ ge_iff_le gt_iff_lt Nat.le_refl Int.le_refl decide_eq_true_eq Bool.decide_eq_true reduceCtorEq Int.natCast_nonneg Int.ofNat_lt Int.ofNat_le Int.lt_irrefl Nat.lt_irrefl List.isEmpty_nil List.isEmpty_cons Bool.and_self ne_eq List.all_cons List.all_nil AV.one implies_true not_true_eq_false imp_self forall_const
theorem c11 (a b : List UInt8) (n : Int) : W Γ 11 [.agg [.str a, .str b, .int .i64 n]] [] = some (.agg [.str a, .str b, .int .i64 n], []) := by
  rw [W_code (fd := d11) rfl]
  simp only [go_sem, reduceCtorEq, ↓reduceIte, ↓reduceDIte, Nat.reduceEqDiff, Nat.reduceAdd, Nat.reduceMul, Nat.reduceSub, Nat.reduceDiv, Nat.reduceMod, Nat.reduceLeDiff, Nat.reduceLT, Nat.lt_add_one, Nat.zero_lt_succ, Int.reduceLE, Int.reduceLT, Int.reduceEq, Int.reduceNeg, Int.reduceAdd, Int.reduceSub, Int.reduceMul, Int.reduceToNat, Int.cast_ofNat_Int, b_sadd, d11]
theorem c13 (a b a' b' : List UInt8) (n n' : Int) : W Γ 13 [.agg [.str a, .str b, .int .i64 n], .agg [.str a', .str b', .int .i64 n']] [] = some (.bool (decide (a = a') && decide (b = b') && decide (n = n')), []) := by
  rw [W_code (fd := d13) rfl]
  by_cases h1 : a = a'
  · by_cases h2 : b = b'
    · by_cases h3 : n = n'
      · simp only [go_sem, reduceCtorEq, ↓reduceIte, ↓reduceDIte, Nat.reduceEqDiff, Nat.reduceAdd, Nat.reduceMul, Nat.reduceSub, Nat.reduceDiv, Nat.reduceMod, Nat.reduceLeDiff, Nat.reduceLT, Nat.lt_add_one, Nat.zero_lt_succ, Int.reduceLE, Int.reduceLT, Int.reduceEq, Int.reduceNeg, Int.reduceAdd, Int.reduceSub, Int.reduceMul, Int.reduceToNat, Int.cast_ofNat_Int, b_sadd, d13, h1, h2, h3]
      · simp only [go_sem, reduceCtorEq, ↓reduceIte, ↓reduceDIte, Nat.reduceEqDiff, Nat.reduceAdd, Nat.reduceMul, Nat.reduceSub, Nat.reduceDiv, Nat.reduceMod, Nat.reduceLeDiff, Nat.reduceLT, Nat.lt_add_one, Nat.zero_lt_succ, Int.reduceLE, Int.reduceLT, Int.reduceEq, Int.reduceNeg, Int.reduceAdd, Int.reduceSub, Int.reduceMul, Int.reduceToNat, Int.cast_ofNat_Int, b_sadd, d13, h1, h2, h3]
    · simp only [go_sem, reduceCtorEq, ↓reduceIte, ↓reduceDIte, Nat.reduceEqDiff, Nat.reduceAdd, Nat.reduceMul, Nat.reduceSub, Nat.reduceDiv, Nat.reduceMod, Nat.reduceLeDiff, Nat.reduceLT, Nat.lt_add_one, Nat.zero_lt_succ, Int.reduceLE, Int.reduceLT, Int.reduceEq, Int.reduceNeg, Int.reduceAdd, Int.reduceSub, Int.reduceMul, Int.reduceToNat, Int.cast_ofNat_Int, b_sadd, d13, h1, h2]
  · simp only [go_sem, reduceCtorEq, ↓reduceIte, ↓reduceDIte, Nat.reduceEqDiff, Nat.reduceAdd, Nat.reduceMul, Nat.reduceSub, Nat.reduceDiv, Nat.reduceMod, Nat.reduceLeDiff, Nat.reduceLT, Nat.lt_add_one, Nat.zero_lt_succ, Int.reduceLE, Int.reduceLT, Int.reduceEq, Int.reduceNeg, Int.reduceAdd, Int.reduceSub, Int.reduceMul, Int.reduceToNat, Int.cast_ofNat_Int, b_sadd, d13, h1]
def okLog (a b : List UInt8) (n : Int) : Bool := decide ((rd 60 0 (a ++ b)).2.2 = a.length + b.length) && decide ((rd 60 0 a).2.2 = a.length) && decide (((rd 60 0 (a ++ b)).2.1 : Int) = n)
theorem c50 (a b : List UInt8) (n : Int) (ha : a.length ≤ 2000000) (hb : b.length ≤ 2000000) : W Γ 50 [.agg [.str a, .str b, .int .i64 n]] [] =
    if a.length + b.length ≤ 30000 then some (.tup [.row 0 (rd 60 0 (a ++ b)).2.1, .bool (okLog a b n)], [.live ⟨.row 36 2, true, (rd 60 0 (a ++ b)).1⟩]) else some (.tup [.nilsl, .bool false], []) := by
  rw [W_code (fd := d50) rfl]
  have hw : IntKind.i64.wrap ((a.length : Int) + b.length) = ((a.length + b.length : Nat) : Int) := by rw [wrapi] <;> omega
  by_cases h : a.length + b.length ≤ 30000
  · have h1 : ¬ ((30000 : Int) < ((a.length + b.length : Nat) : Int)) := by omega
    have h2 : a.length + b.length ≤ 9223372036854775807 := by omega
    have k1 := c69 (a ++ b) (by simp only [List.length_append]; omega)
    have k2 := c69 a (by omega)
    unfold okLog
    by_cases q1 : (rd 60 0 (a ++ b)).2.2 = a.length + b.length
    · have q1' : (((rd 60 0 (a ++ b)).2.2 : Nat) : Int) = ((a.length + b.length : Nat) : Int) := by omega
      by_cases q2 : (rd 60 0 a).2.2 = a.length
      · have q2' : (((rd 60 0 a).2.2 : Nat) : Int) = (a.length : Int) := by omega
        simp only [go_sem, reduceCtorEq, ↓reduceIte, ↓reduceDIte, Nat.reduceEqDiff, Nat.reduceAdd, Nat.reduceMul, Nat.reduceSub, Nat.reduceDiv, Nat.reduceMod, Nat.reduceLeDiff, Nat.reduceLT, Nat.lt_add_one, Nat.zero_lt_succ, Int.reduceLE, Int.reduceLT, Int.reduceEq, Int.reduceNeg, Int.reduceAdd, Int.reduceSub, Int.reduceMul, Int.reduceToNat, Int.cast_ofNat_Int, b_sadd, d50, hw, h, h1, h2, k1, k2, q1, q1', q2, q2']
      · have q2' : ¬ (((rd 60 0 a).2.2 : Nat) : Int) = (a.length : Int) := by omega
        simp only [go_sem, reduceCtorEq, ↓reduceIte, ↓reduceDIte, Nat.reduceEqDiff, Nat.reduceAdd, Nat.reduceMul, Nat.reduceSub, Nat.reduceDiv, Nat.reduceMod, Nat.reduceLeDiff, Nat.reduceLT, Nat.lt_add_one, Nat.zero_lt_succ, Int.reduceLE, Int.reduceLT, Int.reduceEq, Int.reduceNeg, Int.reduceAdd, Int.reduceSub, Int.reduceMul, Int.reduceToNat, Int.cast_ofNat_Int, b_sadd, d50, hw, h, h1, h2, k1, k2, q1, q1', q2, q2']
    · have q1' : ¬ (((rd 60 0 (a ++ b)).2.2 : Nat) : Int) = ((a.length + b.length : Nat) : Int) := by omega
      simp only [go_sem, reduceCtorEq, ↓reduceIte, ↓reduceDIte, Nat.reduceEqDiff, Nat.reduceAdd, Nat.reduceMul, Nat.reduceSub, Nat.reduceDiv, Nat.reduceMod, Nat.reduceLeDiff, Nat.reduceLT, Nat.lt_add_one, Nat.zero_lt_succ, Int.reduceLE, Int.reduceLT, Int.reduceEq, Int.reduceNeg, Int.reduceAdd, Int.reduceSub, Int.reduceMul, Int.reduceToNat, Int.cast_ofNat_Int, b_sadd, d50, hw, h, h1, h2, k1, k2, q1, q1']
  · have h1 : ((30000 : Int) < ((a.length + b.length : Nat) : Int)) := by omega
    simp only [go_sem, reduceCtorEq, ↓reduceIte, ↓reduceDIte, Nat.reduceEqDiff, Nat.reduceAdd, Nat.reduceMul, Nat.reduceSub, Nat.reduceDiv, Nat.reduceMod, Nat.reduceLeDiff, Nat.reduceLT, Nat.lt_add_one, Nat.zero_lt_succ, Int.reduceLE, Int.reduceLT, Int.reduceEq, Int.reduceNeg, Int.reduceAdd, Int.reduceSub, Int.reduceMul, Int.reduceToNat, Int.cast_ofNat_Int, b_sadd, d50, hw, h, h1]
end Go.Proofs.T
namespace Go.Proofs.T
open Go Go.AX Go.Proofs
attribute [local go_sem] run_nil run_p run_m run_c run_g next_some pnext_some gd_tt gd_ff gd_tf gd_ft gd_tup crun_fn gets getO tg setD_some setD_none nz_some fin_some tgs zt argT x_ops x_draw0 x_seq x_cond x_block X_exit X_skip X_ret andThen_norm andThen_exit andThen_ret sel_true sel_false outOf_norm outOf_exit outOf_ret leave_ret leave_norm frees
attribute [local go_sem] pk_true pk_false pk_bool aggO_some p_mv p_pick p_build p_nilCheck p_nilCheckf p_not p_neg p_convInt p_convStr p_mkfn p_fieldAddr p_indexArr p_indexRow p_indexSl p_indexAgg1 p_indexAgg2 p_indexStr p_sliceStr p_sliceStrL p_sliceStrH p_sliceStrLH p_extract p_lenStr p_lenRow p_lenSl p_lenNil p_lenArr p_min p_max p_iface p_bin
attribute [local go_sem] b_add b_sub b_mul b_quo b_rem b_and b_or b_xor b_andNot b_shl b_shr b_eql b_neq b_lss b_leq b_gtr b_geq b_seql b_sneq b_beql b_bneq b_aeql b_aneq b_ieql b_ineq b_neql b_nneq
attribute [local go_sem] finish_eq finO_some one_one one_nil one_more consO_some rvs_nil rvs_cons rv_t rv_c rvc_true rvc_false rvl1_live rvl2_live norm_nrm0 nrm0_nil nrm0_cons nrmG_some AV.locs AV.locsL AV.rn AV.rnL call0_nil call0_cons call1_some place_nil placed_nil place_some put2_some new_nil new_cons new1_free partF_pfin pfin_eq clB_dead clB_live closedB_cons closedB_nil locs_live locs_dead blk_flat blk_deep sl_flat sl_deep sl_dead wholeB_live wholeB_dead wholeB_nil reach memN subN nodupB idx nthN view allIn gt pt rangeN
attribute [local go_sem] pn_zero pns_some pn_succ withV_some m_alloc boxed_cons m_box built_some m_build ldc_some ld1_live m_load1 ld2_live m_load2 st1_live m_store ap1_live m_append ap0_live m_append0 m_bytes m_make AV.cells fillA flatB
attribute [local go_sem] foot_g gdF_tt gdF_ff gdF_tf gdF_ft gdF_tup consF_some nextF_some pnextF_some foot_nil foot_p foot_m foot_c finF_some x_draw cfoot_fn cfoot0_some f_load f_store f_alloc f_box f_bytes f_build f_append pairsOk disj nthF
attribute [local congr] lazy_gdF lazy_consF lazy_nextF lazy_pnextF lazy_finF lazy_opsFoot
attribute [local congr] lazy_gd lazy_sel lazy_next lazy_pnext lazy_nz lazy_fin lazy_andThen lazy_outOf lazy_leave lazy_rnd lazy_X lazy_opsRun
attribute [local go_sem] List.length_cons List.length_nil List.nil_append List.cons_append List.append_nil List.append_assoc if_true if_false decide_true decide_false Bool.not_true Bool.not_false Bool.true_and Bool.and_true Bool.false_and Bool.and_false Bool.true_or Bool.or_true Bool.false_or Bool.or_false and_self true_and and_true false_and and_false or_true true_or or_false false_or not_true not_false_eq_true Int.toNat_natCast Option.map_some Option.map_none List.drop_zero List.take_zero List.drop_succ_cons List.take_succ_cons List.getElem?_cons_zero List.getElem?_cons_succ ge_iff_le gt_iff_lt Nat.le_refl Int.le_refl decide_eq_true_eq Bool.decide_eq_true reduceCtorEq Int.natCast_nonneg Int.ofNat_lt Int.ofNat_le Int.lt_irrefl Nat.lt_irrefl List.isEmpty_nil List.isEmpty_cons Bool.and_self ne_eq List.all_cons List.all_nil AV.one implies_true not_true_eq_false imp_self forall_const
def valid (a b : List UInt8) (n : Int) : Bool := decide (a.length + b.length ≤ 30000) && okLog a b n
theorem c37 (a b : List UInt8) (n : Int) (ha : a.length ≤ 2000000) (hb : b.length ≤ 2000000) : W Γ 37 [.agg [.str a, .str b, .int .i64 n]] [] = some (.bool (valid a b n), []) := by
  rw [W_code (fd := d37) rfl]
  have k := c50 a b n ha hb
  unfold valid
  by_cases h : a.length + b.length ≤ 30000
  · rw [if_pos h] at k
    simp only [go_sem, reduceCtorEq, reduceIte, reduceDIte, Nat.reduceEqDiff, Nat.reduceAdd, Nat.reduceMul, Nat.reduceSub, Nat.reduceDiv, Nat.reduceMod, Nat.reduceLeDiff, Nat.reduceLT, Nat.lt_add_one, Nat.zero_lt_succ, Int.reduceLE, Int.reduceLT, Int.reduceEq, Int.reduceNeg, Int.reduceAdd, Int.reduceSub, Int.reduceMul, Int.reduceToNat, Int.cast_ofNat_Int, b_sadd, d37, k, h]
  · rw [if_neg h] at k
    simp only [go_sem, reduceCtorEq, reduceIte, reduceDIte, Nat.reduceEqDiff, Nat.reduceAdd, Nat.reduceMul, Nat.reduceSub, Nat.reduceDiv, Nat.reduceMod, Nat.reduceLeDiff, Nat.reduceLT, Nat.lt_add_one, Nat.zero_lt_succ, Int.reduceLE, Int.reduceLT, Int.reduceEq, Int.reduceNeg, Int.reduceAdd, Int.reduceSub, Int.reduceMul, Int.reduceToNat, Int.cast_ofNat_Int, b_sadd, d37, k, h]
def synced (a b : List UInt8) (n : Int) : List AV := if valid a b n = true then [.agg [.str (a ++ b), .str [], .int .i64 n], .bool true] else [.agg [.str [], .str [], .int .i64 0], .bool false]
theorem c12 (a b : List UInt8) (n : Int) (ha : a.length ≤ 2000000) (hb : b.length ≤ 2000000) : W Γ 12 [.agg [.str a, .str b, .int .i64 n]] [] = some (.tup (synced a b n), []) := by
  rw [W_code (fd := d12) rfl]
  have k := c37 a b n ha hb
  have h2 : a.length + b.length ≤ 9223372036854775807 := by omega
  unfold synced
  cases h : valid a b n
  · rw [h] at k
    simp only [go_sem, reduceCtorEq, reduceIte, reduceDIte, Nat.reduceEqDiff, Nat.reduceAdd, Nat.reduceMul, Nat.reduceSub, Nat.reduceDiv, Nat.reduceMod, Nat.reduceLeDiff, Nat.reduceLT, Nat.lt_add_one, Nat.zero_lt_succ, Int.reduceLE, Int.reduceLT, Int.reduceEq, Int.reduceNeg, Int.reduceAdd, Int.reduceSub, Int.reduceMul, Int.reduceToNat, Int.cast_ofNat_Int, b_sadd, d12, k]
  · rw [h] at k
    simp only [go_sem, reduceCtorEq, reduceIte, reduceDIte, Nat.reduceEqDiff, Nat.reduceAdd, Nat.reduceMul, Nat.reduceSub, Nat.reduceDiv, Nat.reduceMod, Nat.reduceLeDiff, Nat.reduceLT, Nat.lt_add_one, Nat.zero_lt_succ, Int.reduceLE, Int.reduceLT, Int.reduceEq, Int.reduceNeg, Int.reduceAdd, Int.reduceSub, Int.reduceMul, Int.reduceToNat, Int.cast_ofNat_Int, b_sadd, d12, k, h2]
theorem c9 (a b : List UInt8) (n left : Int) (hl : left ≤ 1048576) (h0 : 0 ≤ left) (ha : a.length ≤ maxLen) (hb : b.length ≤ maxLen) : W Γ 9 [.agg [.str a, .str b, .int .i64 n], .int .i64 left] [] =
    some (.int .i64 (if (a.length : Int) ≤ left ∧ (a.length : Int) + b.length ≤ left then left - a.length - b.length else -1), []) := by
  rw [W_code (fd := d9) rfl]
  unfold maxLen at ha hb
  have w1 : IntKind.i64.wrap (left - a.length) = left - a.length := by rw [wrapi] <;> omega
  by_cases h : (a.length : Int) ≤ left
  · have h1 : ¬ (left - a.length < 0) := by omega
    have w2 : IntKind.i64.wrap (left - a.length - b.length) = left - a.length - b.length := by rw [wrapi] <;> omega
    by_cases h2 : (a.length : Int) + b.length ≤ left
    · have h3 : ¬ (left - a.length - b.length < 0) := by omega
      simp only [go_sem, reduceCtorEq, reduceIte, reduceDIte, Nat.reduceEqDiff, Nat.reduceAdd, Nat.reduceMul, Nat.reduceSub, Nat.reduceDiv, Nat.reduceMod, Nat.reduceLeDiff, Nat.reduceLT, Nat.lt_add_one, Nat.zero_lt_succ, Int.reduceLE, Int.reduceLT, Int.reduceEq, Int.reduceNeg, Int.reduceAdd, Int.reduceSub, Int.reduceMul, Int.reduceToNat, Int.cast_ofNat_Int, b_sadd, d9, w1, w2, h, h1, h2, h3]
    · have h3 : left - a.length - b.length < 0 := by omega
      simp only [go_sem, reduceCtorEq, reduceIte, reduceDIte, Nat.reduceEqDiff, Nat.reduceAdd, Nat.reduceMul, Nat.reduceSub, Nat.reduceDiv, Nat.reduceMod, Nat.reduceLeDiff, Nat.reduceLT, Nat.lt_add_one, Nat.zero_lt_succ, Int.reduceLE, Int.reduceLT, Int.reduceEq, Int.reduceNeg, Int.reduceAdd, Int.reduceSub, Int.reduceMul, Int.reduceToNat, Int.cast_ofNat_Int, b_sadd, d9, w1, w2, h, h1, h2, h3]
  · have h1 : left - a.length < 0 := by omega
    simp only [go_sem, reduceCtorEq, reduceIte, reduceDIte, Nat.reduceEqDiff, Nat.reduceAdd, Nat.reduceMul, Nat.reduceSub, Nat.reduceDiv, Nat.reduceMod, Nat.reduceLeDiff, Nat.reduceLT, Nat.lt_add_one, Nat.zero_lt_succ, Int.reduceLE, Int.reduceLT, Int.reduceEq, Int.reduceNeg, Int.reduceAdd, Int.reduceSub, Int.reduceMul, Int.reduceToNat, Int.cast_ofNat_Int, b_sadd, d9, w1, h, h1]
end Go.Proofs.T
