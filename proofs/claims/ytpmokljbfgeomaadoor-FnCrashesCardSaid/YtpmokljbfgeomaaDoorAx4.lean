/- What is proved here: the executor over a number that falls with each step, which the kernel evaluates, and the set of equations for simp; no condition. -/
import Derived.Test.YtpmokljbfgeomaaDoorAx3
set_option linter.unusedSimpArgs false
set_option linter.unusedVariables false
namespace Go.AX
/-- The same, over a number that falls with each step: what the kernel can evaluate. -/
def exS (R : Run) (m : Nat) : Nat → Cd → St → Option (Ex × St)
  | 0, _, _ => none
  | n + 1, c, s => match c with
    | .ops k l live => match opsRun R s.s.length l ⟨s.t, s.s ++ frees k⟩ with
      | some s' => nz live (norm m (tgs s'.t live) s'.s)
      | none => none
    | .draw k [] l live => match opsRun R s.s.length l ⟨s.t, s.s ++ frees k⟩ with
      | some s' => nz live (norm m (tgs s'.t live) s'.s)
      | none => none
    | .draw k (p :: ps) l live => match opsFoot R s.s.length l ⟨s.t, s.s ++ frees k⟩ with
      | some (s', fs) => if pairsOk fs (p :: ps) then nz live (norm m (tgs s'.t live) s'.s) else none
      | none => none
    | .seq a b => match exS R m n a s with
      | some (.norm, s') => exS R m n b s'
      | r => r
    | .cond c a b => match s.get c with
      | .bool true => exS R m n a s
      | .bool false => exS R m n b s
      | _ => none
    | .block id live a => match exS R m n a s with
      | some (.norm, s') => nz live (norm m (tgs s'.t live) s'.s)
      | some (.exit j, s') => if j = id then nz live (norm m (tgs s'.t live) s'.s) else some (.exit j, s')
      | r => r
    | .loop live a => match norm m (tgs s.t live) s.s with
      | none => none
      | some (vs, σ) => match exS R m n a ⟨zt live vs, σ⟩ with
        | some (.norm, s') => exS R m n (.loop live a) s'
        | r => r
    | .exit id => some (.exit id, s)
    | .skip => some (.norm, s)
    | .ret => some (.ret, s)
theorem exS_X {R : Run} {m : Nat} : ∀ (n : Nat) (c : Cd) (s : St) (r : Ex × St), exS R m n c s = some r → X R m c s = some r
  | 0, c, s, r, h => by simp [exS] at h
  | n + 1, c, s, r, h => by
    cases c with
    | ops k l live => rw [X_ops]; simp only [exS] at h; exact h
    | draw k ps l live => cases ps with
      | nil => rw [X_draw0]; simp only [exS] at h; exact h
      | cons p ps => rw [X_draw]; simp only [exS] at h; exact h
    | seq a b =>
      rw [X_seq]
      simp only [exS] at h
      cases ha : exS R m n a s with
      | none => simp [ha] at h
      | some ra =>
        obtain ⟨e, s1⟩ := ra
        rw [exS_X n a s _ ha]
        simp only [ha] at h
        cases e with
        | norm => exact exS_X n b s1 r h
        | exit j => exact h
        | ret => exact h
    | cond c a b =>
      rw [X_cond]
      simp only [exS] at h
      split at h <;> try (simp at h; done)
      · rename_i e; simp only [e]; exact exS_X n a s r h
      · rename_i e; simp only [e]; exact exS_X n b s r h
    | block id live a =>
      rw [X_block]
      simp only [exS] at h
      cases ha : exS R m n a s with
      | none => simp [ha] at h
      | some ra =>
        rw [exS_X n a s _ ha]
        simp only [ha] at h
        exact h
    | loop live a =>
      rw [X_loop]
      simp only [exS] at h
      split at h <;> try (simp at h; done)
      rename_i vs σ hn
      simp only [hn]
      cases ha : exS R m n a ⟨zt live vs, σ⟩ with
      | none => simp [ha] at h
      | some ra =>
        obtain ⟨e, s1⟩ := ra
        rw [exS_X n a _ _ ha]
        simp only [ha] at h
        cases e with
        | norm => exact exS_X n _ s1 r h
        | exit j => exact h
        | ret => exact h
    | exit id => rw [X_exit]; simpa only [exS] using h
    | skip => rw [X_skip]; simpa only [exS] using h
    | ret => rw [X_ret]; simpa only [exS] using h

def runS (Γ : Env) (k : Nat) : Nat → Run
  | 0 => fun _ _ _ => none
  | n + 1 => fun f args σ => match Γ f with
    | none => none
    | some (.prim p) => p args σ
    | some (.code fd) => leave σ.length fd.results (exS (runS Γ k n) σ.length k fd.body ⟨argT 0 args, σ⟩)
theorem runS_le {Γ : Env} {k : Nat} : ∀ n, Le (runS Γ k n) (W Γ)
  | 0 => fun f args σ r h => by simp [runS] at h
  | n + 1 => fun f args σ r h => by
    simp only [runS] at h
    split at h
    · simp at h
    · rename_i p hp; rw [W_prim hp]; exact h
    · rename_i fd hfd
      rw [W_code hfd]
      cases he : exS (runS Γ k n) σ.length k fd.body ⟨argT 0 args, σ⟩ with
      | none => rw [he] at h; simp [leave] at h
      | some x =>
        obtain ⟨k', hk'⟩ := X_iff.1 (exS_X _ _ _ _ he)
        rw [X_iff.2 ⟨k', ex_mono (runS_le n) (Nat.le_refl _) hk'⟩, ← he]
        exact h
/-- What the kernel evaluates, holds. -/
theorem fast {Γ : Env} (k n : Nat) {f : Nat} {args : List AV} {σ : Store} {r : AV × Store} (h : runS Γ k n f args σ = some r) : W Γ f args σ = some r := runS_le n _ _ _ _ h
end Go.AX
namespace Go.AX
attribute [go_sem] run_nil run_p run_m run_c run_g next_some pnext_some gd_tt gd_ff gd_tf gd_ft gd_tup crun_fn gets getO tg setD_some setD_none nz_some fin_some tgs zt argT x_ops x_draw0 x_seq x_cond x_block X_exit X_skip X_ret andThen_norm andThen_exit andThen_ret sel_true sel_false outOf_norm outOf_exit outOf_ret leave_ret leave_norm frees
attribute [go_sem] pk_true pk_false pk_bool aggO_some p_mv p_pick p_build p_nilCheck p_nilCheckf p_not p_neg p_convInt p_convStr p_mkfn p_fieldAddr p_sliceStr p_extract p_lenStr p_lenRow p_lenSl p_lenNil p_lenArr p_min p_max p_iface p_bin
attribute [go_sem] b_add b_sub b_mul b_and b_or b_xor b_andNot b_eql b_neq b_lss b_leq b_gtr b_geq b_seql b_sneq b_beql b_bneq b_ieql b_ineq b_neql b_nneq
attribute [go_sem] finish_eq finO_some one_one one_nil one_more consO_some rvs_nil rvs_cons rv_t rv_c rvc_true rvc_false rvl1_live norm_nrm0 nrm0_nil nrm0_cons nrmG_some AV.locs AV.locsL AV.rn AV.rnL call0_nil call0_cons call1_some place_nil placed_nil place_some put2_some new_nil new_cons new1_free partF_pfin pfin_eq clB_dead clB_live closedB_cons closedB_nil locs_live locs_dead blk_flat blk_deep sl_flat sl_deep sl_dead wholeB_live wholeB_dead wholeB_nil reach memN subN nodupB idx nthN view allIn gt pt rangeN
attribute [go_sem] pn_zero pns_some pn_succ withV_some m_alloc boxed_cons m_box built_some m_build ldc_some ld1_live m_load1 m_load2 m_store m_append m_append0 AV.cells fillA flatB
attribute [go_sem] finF_some cfoot_fn cfoot0_some f_load f_store f_alloc f_box f_bytes f_build f_append pairsOk disj nthF
attribute [congr] lazy_finF
attribute [congr] lazy_gd lazy_sel lazy_next lazy_pnext lazy_nz lazy_fin lazy_andThen lazy_outOf lazy_leave lazy_rnd lazy_X lazy_opsRun
attribute [go_sem] List.length_cons List.length_nil List.nil_append List.cons_append List.append_nil List.append_assoc if_true if_false decide_true decide_false Bool.not_true Bool.not_false Bool.true_and Bool.and_true Bool.false_and Bool.and_false Bool.true_or Bool.or_true Bool.false_or Bool.or_false and_self true_and and_true false_and and_false or_true true_or or_false false_or not_true not_false_eq_true Int.toNat_natCast Option.map_some Option.map_none List.drop_zero List.take_zero List.drop_succ_cons List.take_succ_cons List.getElem?_cons_zero List.getElem?_cons_succ ge_iff_le gt_iff_lt Nat.le_refl Int.le_refl decide_eq_true_eq Bool.decide_eq_true reduceCtorEq Int.natCast_nonneg Int.lt_irrefl Nat.lt_irrefl List.isEmpty_nil List.isEmpty_cons Bool.and_self ne_eq List.all_cons List.all_nil AV.one implies_true not_true_eq_false imp_self forall_const
attribute [go_sem] q_indexArr q_indexRow q_indexSl q_indexAgg1 q_indexAgg2 q_indexStr q_sliceStrL q_sliceStrH q_sliceStrLH q_sliceRow q_sliceRowL q_sliceRowH q_sliceRowLH q_sliceSl q_sliceSlL q_sliceSlH q_sliceSlLH q_sliceArr q_sliceArrH q_quo q_rem q_shl q_shr q_sadd q_aeql q_aneq q_ld2 q_rvl2 q_st1 q_ap1 q_ap0 q_bytes q_make chk_true chk_and
attribute [congr] lazy_chk
attribute [go_sem] nn_add nn_mul nn_addl nn_addr nn_mull nn_mulr nn_tdiv nn_tmod nn_tdivl nn_tmodl nn_le nn_lt nn_eq nn_lel nn_ltl nn_eql nn_ler nn_ltr nn_eqr Int.toNat_natCast
attribute [go_sem] ofA_g gdA_tt gdA_ff gdA_tf gdA_ft gdA_tup nextA_some pnextA_some ofA_nil ofA_p ofA_m ofA_c y_draw gdA_not pk_not
attribute [congr] lazy_gdA lazy_nextA lazy_pnextA lazy_ofA
attribute [go_sem] sel_not gd_not
attribute [go_sem] beq_self_eq_true
attribute [go_sem] bring_some br2_some wb_nil wb_cons rho
attribute [congr] lazy_br2 lazy_bring lazy_place
attribute [go_sem] List.length_append List.length_take List.length_drop Nat.mul_one Nat.zero_add Nat.add_zero Nat.sub_zero Nat.one_mul Nat.zero_mul Nat.mul_zero
attribute [go_sem] Nat.lt_add_one Nat.zero_lt_succ Int.cast_ofNat_Int
attribute [go_sem] not_dec Bool.not_not
attribute [go_sem] strO_some str1_live m_stringSl m_stringRow bytes_nil bytes_cons byC_some
attribute [congr] lazy_strO
attribute [go_sem] norm_pos nrmM_some prefix_nil prefix_cons
attribute [congr] lazy_nrmM
attribute [go_sem] m_appendS m_append0S m_appendN apS_live ap0S_live apN_live f_appendS f_append0 f_append0S f_appendN q_sliceNil q_sliceNilL q_sliceNilH
end Go.AX
