/- Part of a proof: texts W3Si of the engine and what is proved with it; nothing is assumed. -/
import Derived.Test.YtcjkfmaoahojeaaDoorPlain
set_option linter.unusedVariables false
set_option linter.unusedSimpArgs false
/- They are right: printed by program. -/
namespace Go.P2
open Go.Eng
set_option maxRecDepth 100000
theorem si_kilnlaw06_ParseElses {lp : LpT} (hL : LpOk lp) (G : Roms) : SfOk G af_kilnlaw06_ParseElses (ar2 (s_kilnlaw06_ParseElses lp G)) := by
  intro call callE hle hd
  refine fun l H n k h0 => ?_
  obtain ⟨a0, a1, rfl, h⟩ := ar2_inv h0
  clear h0
  delta s_kilnlaw06_ParseElses at h
  refine f_intro rfl ?_
  refine c_seq ?_
  refine c_ops ?_
  refine ov_t (a := (.bool false)) (k_mv rfl) ?_
  refine o0 ?_
  refine c_seq ?_
  refine c_seq ?_
  refine c_ops ?_
  refine oe_s hle hd h (k_call xs0) fun v1 H n h => ?_
  refine on_t h (k_not rfl) fun v2 h => ?_
  refine o0 ?_
  refine c_cond h (xr sm) (fun h => ?_) (fun h => ?_)
  · refine c_seq ?_
    refine c_ops ?_
    refine ov_t (a := (.bool false)) (k_mv rfl) ?_
    refine o0 ?_
    refine c_ret ?_
    exact fin_no (rsT sm rs0) h
  · refine c_skip ?_
    refine c_seq ?_
    refine c_ops ?_
    refine on_s h (k_bin (xr (ne rfl (ne rfl rfl))) rfl) fun v3 h => ?_
    refine on_s h (k_bin rfl rfl) fun v4 h => ?_
    refine ov_t (a := v4) (k_mv rfl) ?_
    refine o0 ?_
    refine c_seq ?_
    refine c_ops ?_
    refine ov_t (a := (.str 17 42578138482624074712360392962652319540841)) (k_mv rfl) ?_
    refine o0 ?_
    refine c_seqj (fun R H n => ∃ a5_j5, rg R q5 = a5_j5 ∧ rg R q0 = v4 ∧ rg R q1 = a1 ∧ s_kilnlaw06_ParseElses_j5 lp G call k a1 v4 a5_j5 H n) ?_ fun j5 => ?_
    · rintro R H n ⟨a5_j5, f5, f0, f1, h⟩
      delta s_kilnlaw06_ParseElses_j5 at h
      refine c_seqj (fun R H n => ∃ a5_j6, rg R q5 = a5_j6 ∧ rg R q0 = v4 ∧ rg R q1 = a1 ∧ s_kilnlaw06_ParseElses_j6 lp G call k a1 v4 a5_j6 H n) ?_ fun j6 => ?_
      · rintro R H n ⟨a5_j6, f5, f0, f1, h⟩
        delta s_kilnlaw06_ParseElses_j6 at h
        refine c_seq ?_
        refine c_ops ?_
        refine on_s h (k_bin rfl (xr f5)) fun v7 h => ?_
        refine on_s h (k_bin rfl rfl) fun v8 h => ?_
        refine oe_s hle hd h (k_call (xsS rfl xs0)) fun v9 H n h => ?_
        refine on_s h (k_ext rfl) fun v10 h => ?_
        refine on_s h (k_ext rfl) fun v11 h => ?_
        refine oa_t h k_alloc fun v12 H n h => ?_
        refine oa_t h k_alloc fun v13 H n h => ?_
        refine oe_x hle hd h (k_st (xr (ne rfl sm)) rfl) fun v14 H n h => ?_
        refine oe_x hle hd h (k_st (xr sm) rfl) fun v15 H n h => ?_
        refine o0 ?_
        refine c_seq ?_
        refine c_seq ?_
        refine c_ops ?_
        refine on_s h (k_faddr (xr sm)) fun v16 h => ?_
        refine on_s h (k_ld1 rfl) fun v17 h => ?_
        refine on_s h (k_eq rfl rfl) fun v18 h => ?_
        refine ogn_s h rfl (k_faddr (xr (ne rfl sm))) fun v19 h => ?_
        refine ogn_s h rfl (k_ld1 rfl) fun v20 h => ?_
        refine ogn_s h rfl (k_iaddr rfl rfl) fun v21 h => ?_
        refine ogn_s h rfl (k_faddr rfl) fun v22 h => ?_
        refine ogn_s h rfl (k_ld1 rfl) fun v23 h => ?_
        refine ogn_s h rfl (k_lenL rfl) fun v24 h => ?_
        refine ogn_s h rfl (k_eq rfl rfl) fun v25 h => ?_
        refine on_t h (k_pick rfl rfl rfl) fun v26 h => ?_
        refine o0 ?_
        refine c_cond h (xr sm) (fun h => ?_) (fun h => ?_)
        · refine c_seq ?_
          refine c_ops ?_
          refine ov_t (a := (.bool false)) (k_mv rfl) ?_
          refine o0 ?_
          refine c_ret ?_
          exact fin_no (rsT sm rs0) h
        · refine c_skip ?_
          refine c_seq ?_
          refine c_ops ?_
          refine on_s h (k_faddr (xr (ne rfl (ne rfl sm)))) fun v27 h => ?_
          refine on_s h (k_ld1 rfl) fun v28 h => ?_
          refine on_s h (k_iaddr rfl rfl) fun v29 h => ?_
          refine on_s h (k_faddr rfl) fun v30 h => ?_
          refine on_s h (k_ld1 rfl) fun v31 h => ?_
          refine on_s h (k_iaddr rfl rfl) fun v32 h => ?_
          refine on_s h (k_ldn rfl) fun v33 h => ?_
          refine oa_t h k_alloc fun v34 H n h => ?_
          refine oe_x hle hd h (k_st (xr sm) rfl) fun v35 H n h => ?_
          refine o0 ?_
          refine c_seqj (fun R H n => s_kilnlaw06_ParseElses_j36 lp G call k H n) ?_ fun j36 => ?_
          · intro R H n h
            delta s_kilnlaw06_ParseElses_j36 at h
            refine c_seq ?_
            refine c_ops ?_
            refine ov_t (a := (.bool false)) (k_mv rfl) ?_
            refine o0 ?_
            refine c_ret ?_
            exact fin_no (rsT sm rs0) h
          · refine c_seq ?_
            refine c_ops ?_
            refine ov_t (a := (.int .i64 (.ofNat 0) 0)) (k_mv rfl) ?_
            refine o0 ?_
            refine c_block ?_
            refine c_loop hL (fun s R H n => rg R q10 = s.1 ∧ rg R q0 = v4 ∧ rg R q1 = a1 ∧ rg R q9 = v34 ∧ H = s.2.1 ∧ n = s.2.2) h ⟨sm, (ne rfl (ne rfl (ne rfl (ne rfl (ne rfl f0))))), (ne rfl (ne rfl (ne rfl (ne rfl (ne rfl f1))))), (ne rfl sm), rfl, rfl⟩ ?_
            rintro ih37 I37 hI37 ⟨a10_l37, H, n⟩ R H0 n0 ⟨f10, f0, f1, f9, eH, eN⟩ h
            replace h : s_kilnlaw06_ParseElses_l37 lp G call k a1 v34 v4 ih37 a10_l37 H n := h
            obtain rfl : H0 = H := eH
            obtain rfl : n0 = n := eN
            delta s_kilnlaw06_ParseElses_l37 at h
            refine c_seq ?_
            refine c_seq ?_
            refine c_ops ?_
            refine on_t h (k_bin (xr f10) (xr f0)) fun v38 h => ?_
            refine o0 ?_
            refine c_cond h (xr sm) (fun h => ?_) (fun h => ?_)
            · refine c_skip ?_
              refine c_seq ?_
              refine c_block ?_
              refine c_seq ?_
              refine c_seq ?_
              refine c_ops ?_
              refine on_s h (k_faddr (xr (ne rfl f9))) fun v39 h => ?_
              refine on_s h (k_ld1 rfl) fun v40 h => ?_
              refine on_s h (k_eq rfl rfl) fun v41 h => ?_
              refine ogn_s h rfl (k_faddr (xr (ne rfl f9))) fun v42 h => ?_
              refine ogn_s h rfl (k_ld1 rfl) fun v43 h => ?_
              refine ogn_s h rfl (k_lenL rfl) fun v44 h => ?_
              refine ogn_s h rfl (k_eq rfl rfl) fun v45 h => ?_
              refine on_s h (k_pick rfl rfl rfl) fun v46 h => ?_
              refine ogn_s h rfl (k_faddr (xr (ne rfl f9))) fun v47 h => ?_
              refine ogn_s h rfl (k_ld1 rfl) fun v48 h => ?_
              refine ogn_s h rfl (k_iaddr rfl rfl) fun v49 h => ?_
              refine ogn_s h rfl (k_faddr rfl) fun v50 h => ?_
              refine ogn_s h rfl (k_ld1 rfl) fun v51 h => ?_
              refine ogn_s h rfl (k_iaddr rfl rfl) fun v52 h => ?_
              refine ogn_s h rfl (k_faddr rfl) fun v53 h => ?_
              refine ogn_s h rfl (k_ld1 rfl) fun v54 h => ?_
              refine ogn_s h rfl (k_mv (xr (ne rfl f10))) fun v55 h => ?_
              refine ogn_s h rfl (k_eq rfl rfl) fun v56 h => ?_
              refine on_t h (k_pick rfl rfl rfl) fun v57 h => ?_
              refine o0 ?_
              refine c_cond h (xr sm) (fun h => ?_) (fun h => ?_)
              · refine c_seq ?_
                refine c_ops ?_
                refine ov_t (a := (.bool false)) (k_mv rfl) ?_
                refine o0 ?_
                refine c_ret ?_
                exact fin_no (rsT sm rs0) h
              · refine c_skip ?_
                refine c_seq ?_
                refine c_seq ?_
                refine c_ops ?_
                refine on_s h (k_bin (xr (ne rfl (ne rfl f0))) rfl) fun v58 h => ?_
                refine on_t h (k_eq (xr (ne rfl (ne rfl f10))) rfl) fun v59 h => ?_
                refine o0 ?_
                refine c_cond h (xr sm) (fun h => ?_) (fun h => ?_)
                · refine c_seq ?_
                  refine c_ops ?_
                  refine on_s h (k_faddr (xr (ne rfl (ne rfl (ne rfl f9))))) fun v60 h => ?_
                  refine on_s h (k_ld1 rfl) fun v61 h => ?_
                  refine on_s h (k_lenL rfl) fun v62 h => ?_
                  refine on_s h (k_eq rfl rfl) fun v63 h => ?_
                  refine ogn_s h rfl (k_mv (xr (ne rfl (ne rfl (ne rfl f1))))) fun v64 h => ?_
                  refine on_s h (k_pick rfl rfl rfl) fun v65 h => ?_
                  refine ogn_s h rfl (k_faddr (xr (ne rfl (ne rfl (ne rfl f9))))) fun v66 h => ?_
                  refine ogn_s h rfl (k_ld1 rfl) fun v67 h => ?_
                  refine ogn_s h rfl (k_lenL rfl) fun v68 h => ?_
                  refine ogn_s h rfl (k_eq rfl rfl) fun v69 h => ?_
                  refine ogn_s h rfl (k_mv rfl) fun v70 h => ?_
                  refine ogn_s h rfl (k_mv (xr (ne rfl (ne rfl (ne rfl f1))))) fun v71 h => ?_
                  refine ogn_s h rfl (k_not rfl) fun v72 h => ?_
                  refine ogn_s h rfl (k_pick rfl rfl rfl) fun v73 h => ?_
                  refine on_s h (k_pick rfl rfl rfl) fun v74 h => ?_
                  refine ov_t (a := v74) (k_mv rfl) ?_
                  refine o0 ?_
                  refine c_ret ?_
                  exact fin_no (rsT sm rs0) h
                · refine c_skip ?_
                  refine c_seq ?_
                  refine c_seq ?_
                  refine c_ops ?_
                  refine on_s h (k_faddr (xr (ne rfl (ne rfl (ne rfl f9))))) fun v75 h => ?_
                  refine on_s h (k_ld1 rfl) fun v76 h => ?_
                  refine on_s h (k_lenL rfl) fun v77 h => ?_
                  refine on_t h (k_eq rfl rfl) fun v78 h => ?_
                  refine o0 ?_
                  refine c_cond h (xr sm) (fun h => ?_) (fun h => ?_)
                  · refine c_seq ?_
                    refine c_ops ?_
                    refine ov_t (a := (.bool false)) (k_mv rfl) ?_
                    refine o0 ?_
                    refine c_ret ?_
                    exact fin_no (rsT sm rs0) h
                  · refine c_skip ?_
                    refine c_ops ?_
                    refine on_s h (k_faddr (xr (ne rfl (ne rfl (ne rfl (ne rfl f9)))))) fun v79 h => ?_
                    refine on_s h (k_ld1 rfl) fun v80 h => ?_
                    refine on_s h (k_iaddr rfl rfl) fun v81 h => ?_
                    refine on_s h (k_ldn rfl) fun v82 h => ?_
                    refine oe_x hle hd h (k_st (xr (ne rfl (ne rfl (ne rfl (ne rfl f9))))) rfl) fun v83 H n h => ?_
                    refine o0 ?_
                    refine c_ops ?_
                    refine on_s h (k_bin (xr (ne rfl (ne rfl (ne rfl (ne rfl f10))))) rfl) fun v84 h => ?_
                    refine ov_t (a := v84) (k_mv rfl) ?_
                    refine o0 ?_
                    exact hI37 (v84, H, n) _ _ _ ⟨sm, (ne rfl (ne rfl (ne rfl (ne rfl (ne rfl f0))))), (ne rfl (ne rfl (ne rfl (ne rfl (ne rfl f1))))), (ne rfl (ne rfl (ne rfl (ne rfl (ne rfl f9))))), rfl, rfl⟩ h
            · refine c_exit ?_
              refine bx_same ?_
              exact j36 _ _ _ h
      · refine c_seq ?_
        refine c_ops ?_
        refine ov_t (a := a1) (k_mv (xr f1)) ?_
        refine o0 ?_
        refine c_cond h (xr sm) (fun h => ?_) (fun h => ?_)
        · refine c_ops ?_
          refine on_s h (k_bin (xr (ne rfl f5)) rfl) fun v85 h => ?_
          refine ov_t (a := v85) (k_mv rfl) ?_
          refine o0 ?_
          exact j6 _ _ _ ⟨_, sm, (ne rfl (ne rfl f0)), (ne rfl (ne rfl f1)), h⟩
        · refine c_skip ?_
          exact j6 _ _ _ ⟨_, (ne rfl f5), (ne rfl f0), (ne rfl f1), h⟩
    · refine c_seq ?_
      refine c_ops ?_
      refine ov_t (a := (.int .i64 (.ofNat 1) 0)) (k_mv rfl) ?_
      refine o0 ?_
      refine c_block ?_
      refine c_loop hL (fun s R H n => rg R q5 = s.1 ∧ rg R q6 = s.2.1 ∧ rg R q0 = v4 ∧ rg R q1 = a1 ∧ H = s.2.2.1 ∧ n = s.2.2.2) h ⟨(ne rfl sm), sm, (ne rfl (ne rfl sm)), (ne rfl (ne rfl (ne rfl (ne rfl (ne rfl rfl))))), rfl, rfl⟩ ?_
      rintro ih86 I86 hI86 ⟨a5_l86, a6_l86, H, n⟩ R H0 n0 ⟨f5, f6, f0, f1, eH, eN⟩ h
      replace h : s_kilnlaw06_ParseElses_l86 lp G call k a1 v4 ih86 a5_l86 a6_l86 H n := h
      obtain rfl : H0 = H := eH
      obtain rfl : n0 = n := eN
      delta s_kilnlaw06_ParseElses_l86 at h
      refine c_seq ?_
      refine c_seq ?_
      refine c_ops ?_
      refine on_t h (k_bin (xr f6) (xr f0)) fun v87 h => ?_
      refine o0 ?_
      refine c_cond h (xr sm) (fun h => ?_) (fun h => ?_)
      · refine c_skip ?_
        refine c_seq ?_
        refine c_block ?_
        refine c_ops ?_
        refine on_s h (k_bin (xr (ne rfl f5)) rfl) fun v88 h => ?_
        refine oe_s hle hd h (k_call (xsS (xr (ne rfl f6)) xs0)) fun v89 H n h => ?_
        refine on_s h (k_bin rfl rfl) fun v90 h => ?_
        refine on_s h (k_bin rfl rfl) fun v91 h => ?_
        refine ov_t (a := v91) (k_mv rfl) ?_
        refine o0 ?_
        refine c_ops ?_
        refine on_s h (k_bin (xr (ne rfl (ne rfl f6))) rfl) fun v92 h => ?_
        refine ov_t (a := v92) (k_mv rfl) ?_
        refine o0 ?_
        exact hI86 (v91, v92, H, n) _ _ _ ⟨(ne rfl sm), sm, (ne rfl (ne rfl (ne rfl f0))), (ne rfl (ne rfl (ne rfl f1))), rfl, rfl⟩ h
      · refine c_exit ?_
        refine bx_same ?_
        exact j5 _ _ _ ⟨_, (ne rfl f5), (ne rfl f0), (ne rfl f1), h⟩
theorem si_kilnlaw06_head {lp : LpT} (hL : LpOk lp) (G : Roms) : SfOk G af_kilnlaw06_head (ar0 (s_kilnlaw06_head lp G)) := by
  intro call callE hle hd
  refine fun l H n k h0 => ?_
  obtain ⟨rfl, h⟩ := ar0_inv h0
  clear h0
  delta s_kilnlaw06_head at h
  refine f_intro rfl ?_
  refine c_seq ?_
  refine c_ops ?_
  refine ov_t (a := (.bool false)) (k_mv rfl) ?_
  refine o0 ?_
  refine c_seq ?_
  refine c_ops ?_
  refine oe_s hle hd h (k_call (xsS rfl xs0)) fun v1 H n h => ?_
  refine on_s h (k_ext rfl) fun v2 h => ?_
  refine on_s h (k_ext rfl) fun v3 h => ?_
  refine oa_t h k_alloc fun v4 H n h => ?_
  refine oa_t h k_alloc fun v5 H n h => ?_
  refine oe_x hle hd h (k_st (xr (ne rfl sm)) rfl) fun v6 H n h => ?_
  refine oe_x hle hd h (k_st (xr sm) rfl) fun v7 H n h => ?_
  refine o0 ?_
  refine c_seq ?_
  refine c_ops ?_
  refine on_s h (k_ldn (xr sm)) fun v8 h => ?_
  refine on_s h (k_build ps0) fun v9 h => ?_
  refine on_s h (k_eq rfl rfl) fun v10 h => ?_
  refine ogn_s h rfl (k_faddr (xr (ne rfl sm))) fun v11 h => ?_
  refine ogn_s h rfl (k_ld1 rfl) fun v12 h => ?_
  refine ogn_s h rfl (k_eq rfl rfl) fun v13 h => ?_
  refine on_s h (k_pick rfl rfl rfl) fun v14 h => ?_
  refine ogn_s h rfl (k_faddr (xr (ne rfl sm))) fun v15 h => ?_
  refine ogn_s h rfl (k_ld1 rfl) fun v16 h => ?_
  refine ogn_s h rfl (k_eq rfl rfl) fun v17 h => ?_
  refine on_s h (k_pick rfl rfl rfl) fun v18 h => ?_
  refine ogn_s h rfl (k_faddr (xr (ne rfl sm))) fun v19 h => ?_
  refine ogn_s h rfl (k_ld1 rfl) fun v20 h => ?_
  refine ogn_s h rfl (k_lenL rfl) fun v21 h => ?_
  refine ogn_s h rfl (k_eq rfl rfl) fun v22 h => ?_
  refine on_s h (k_pick rfl rfl rfl) fun v23 h => ?_
  refine ogn_s h rfl (k_faddr (xr (ne rfl sm))) fun v24 h => ?_
  refine ogn_s h rfl (k_ld1 rfl) fun v25 h => ?_
  refine ogn_s h rfl (k_iaddr rfl rfl) fun v26 h => ?_
  refine ogn_s h rfl (k_faddr rfl) fun v27 h => ?_
  refine ogn_s h rfl (k_ld1 rfl) fun v28 h => ?_
  refine ogn_s h rfl (k_eq rfl rfl) fun v29 h => ?_
  refine on_s h (k_pick rfl rfl rfl) fun v30 h => ?_
  refine ogn_s h rfl (k_faddr (xr (ne rfl sm))) fun v31 h => ?_
  refine ogn_s h rfl (k_ld1 rfl) fun v32 h => ?_
  refine ogn_s h rfl (k_iaddr rfl rfl) fun v33 h => ?_
  refine ogn_s h rfl (k_faddr rfl) fun v34 h => ?_
  refine ogn_s h rfl (k_ld1 rfl) fun v35 h => ?_
  refine ogn_s h rfl (k_eq rfl rfl) fun v36 h => ?_
  refine on_s h (k_pick rfl rfl rfl) fun v37 h => ?_
  refine ov_t (a := v37) (k_mv rfl) ?_
  refine o0 ?_
  refine c_ret ?_
  exact fin_no (rsT sm rs0) h
theorem si_parse_Class {lp : LpT} (hL : LpOk lp) (G : Roms) : SfOk G af_parse_Class (ar1 (s_parse_Class lp G)) := by
  intro call callE hle hd
  refine fun l H n k h0 => ?_
  obtain ⟨a0, rfl, h⟩ := ar1_inv h0
  clear h0
  delta s_parse_Class at h
  refine f_intro rfl ?_
  refine c_seq ?_
  refine c_ops ?_
  refine oa_t h k_alloc fun v1 H n h => ?_
  refine oa_t h k_alloc fun v2 H n h => ?_
  refine o0 ?_
  refine c_seq ?_
  refine c_ops ?_
  refine oe_s hle hd h (k_call (xsS (xr (ne rfl (ne rfl rfl))) xs0)) fun v3 H n h => ?_
  refine on_s h (k_ext rfl) fun v4 h => ?_
  refine on_s h (k_ext rfl) fun v5 h => ?_
  refine oa_t h k_alloc fun v6 H n h => ?_
  refine ov_t (a := v4) (k_mv rfl) ?_
  refine oe_x hle hd h (k_st (xr (ne rfl sm)) rfl) fun v7 H n h => ?_
  refine o0 ?_
  refine c_seq ?_
  refine c_seq ?_
  refine c_ops ?_
  refine on_s h (k_faddr (xr (ne rfl sm))) fun v8 h => ?_
  refine on_s h (k_ld1 rfl) fun v9 h => ?_
  refine on_t h (k_eq rfl rfl) fun v10 h => ?_
  refine o0 ?_
  refine c_cond h (xr sm) (fun h => ?_) (fun h => ?_)
  · refine c_seq ?_
    refine c_reg ?_
    refine in_t h (k_build ps0) fun v11 h => ?_
    refine in_t h (k_ldn (xr (ne rfl (ne rfl (ne rfl sm))))) fun v12 h => ?_
    refine ie_x hle hd h (k_st (xr (ne rfl (ne rfl (ne rfl (ne rfl (ne rfl (ne rfl sm))))))) (xr (ne rfl sm))) fun v13 H n h => ?_
    refine ire h sm (k_ldn (xr (ne rfl (ne rfl (ne rfl (ne rfl sm)))))) fun h => ?_
    refine ie_x hle hd h (k_st (xr (ne rfl (ne rfl (ne rfl (ne rfl (ne rfl sm)))))) (xr sm)) fun v14 H n h => ?_
    refine i0 ?_
    refine c_ret ?_
    exact fin_no (rsN (ne rfl (ne rfl (ne rfl (ne rfl (ne rfl (ne rfl sm)))))) (rsN (ne rfl (ne rfl (ne rfl (ne rfl (ne rfl sm))))) rs0)) h
  · refine c_skip ?_
    refine c_seq ?_
    refine c_ops ?_
    refine on_s h (k_build (psS (xr (ne rfl sm)) ps0)) fun v15 h => ?_
    refine oa_s h (k_box rfl) fun v16 H n h => ?_
    refine ov_t (a := v16) (k_mv rfl) ?_
    refine o0 ?_
    refine c_seq ?_
    refine c_ops ?_
    refine oe_s hle hd h (k_call (xsS (xr sm) xs0)) fun v17 H n h => ?_
    refine oa_t h k_alloc fun v18 H n h => ?_
    refine oe_x hle hd h (k_st (xr sm) rfl) fun v19 H n h => ?_
    refine o0 ?_
    refine c_seq ?_
    refine c_seq ?_
    refine c_ops ?_
    refine oe_s hle hd h (k_call (xsS (xr (ne rfl sm)) xs0)) fun v20 H n h => ?_
    refine on_t h (k_not rfl) fun v21 h => ?_
    refine o0 ?_
    refine c_cond h (xr sm) (fun h => ?_) (fun h => ?_)
    · refine c_seq ?_
      refine c_reg ?_
      refine in_t h (k_build ps0) fun v22 h => ?_
      refine iv_t (a := v16) (k_mv (xr (ne rfl (ne rfl (ne rfl sm))))) ?_
      refine in_t h (k_nilck (xr sm)) fun v23 h => ?_
      refine in_t h (k_faddr (xr sm)) fun v24 h => ?_
      refine in_t h (k_ldn (xr sm)) fun v25 h => ?_
      refine ie_x hle hd h (k_st (xr (ne rfl (ne rfl (ne rfl (ne rfl (ne rfl (ne rfl (ne rfl (ne rfl (ne rfl (ne rfl (ne rfl (ne rfl sm))))))))))))) (xr (ne rfl (ne rfl (ne rfl (ne rfl sm)))))) fun v26 H n h => ?_
      refine ire h sm (k_ldn (xr (ne rfl sm))) fun h => ?_
      refine ie_x hle hd h (k_st (xr (ne rfl (ne rfl (ne rfl (ne rfl (ne rfl (ne rfl (ne rfl (ne rfl (ne rfl (ne rfl (ne rfl sm)))))))))))) (xr sm)) fun v27 H n h => ?_
      refine i0 ?_
      refine c_ret ?_
      exact fin_no (rsN (ne rfl (ne rfl (ne rfl (ne rfl (ne rfl (ne rfl (ne rfl (ne rfl (ne rfl (ne rfl (ne rfl (ne rfl sm)))))))))))) (rsN (ne rfl (ne rfl (ne rfl (ne rfl (ne rfl (ne rfl (ne rfl (ne rfl (ne rfl (ne rfl (ne rfl sm))))))))))) rs0)) h
    · refine c_skip ?_
      refine c_seq ?_
      refine c_ops ?_
      refine on_s h (k_ldn (xr (ne rfl sm))) fun v28 h => ?_
      refine on_s h (k_build ps0) fun v29 h => ?_
      refine oe_x hle hd h (k_st (xr (ne rfl (ne rfl (ne rfl (ne rfl (ne rfl (ne rfl (ne rfl sm)))))))) rfl) fun v30 H n h => ?_
      refine oe_x hle hd h (k_st (xr (ne rfl (ne rfl (ne rfl (ne rfl (ne rfl (ne rfl sm))))))) rfl) fun v31 H n h => ?_
      refine o0 ?_
      refine c_ret ?_
      exact fin_no (rsN (ne rfl (ne rfl (ne rfl (ne rfl (ne rfl (ne rfl (ne rfl sm))))))) (rsN (ne rfl (ne rfl (ne rfl (ne rfl (ne rfl (ne rfl sm)))))) rs0)) h
theorem si_strconv_Itoa {lp : LpT} (hL : LpOk lp) (G : Roms) : SfOk G af_strconv_Itoa (ar1 (s_strconv_Itoa lp G)) := by
  intro call callE hle hd
  refine fun l H n k h0 => ?_
  obtain ⟨a0, rfl, h⟩ := ar1_inv h0
  clear h0
  delta s_strconv_Itoa at h
  refine f_intro rfl ?_
  refine c_seq ?_
  refine c_ops ?_
  refine ov_t (a := (.str 0 0)) (k_mv rfl) ?_
  refine o0 ?_
  refine c_seq ?_
  refine c_ops ?_
  refine oe_s hle hd h (k_call (xsS (xr (ne rfl rfl)) xs0)) fun v1 H n h => ?_
  refine ov_t (a := v1) (k_mv rfl) ?_
  refine o0 ?_
  refine c_ret ?_
  exact fin_no (rsT sm rs0) h
theorem si_kilnlaw06_ret {lp : LpT} (hL : LpOk lp) (G : Roms) : SfOk G af_kilnlaw06_ret (ar1 (s_kilnlaw06_ret lp G)) := by
  intro call callE hle hd
  refine fun l H n k h0 => ?_
  obtain ⟨a0, rfl, h⟩ := ar1_inv h0
  clear h0
  delta s_kilnlaw06_ret at h
  refine f_intro rfl ?_
  refine c_seq ?_
  refine c_ops ?_
  refine oa_t h k_alloc fun v1 H n h => ?_
  refine oa_t h k_alloc fun v2 H n h => ?_
  refine o0 ?_
  refine c_seq ?_
  refine c_ops ?_
  refine on_s h (k_bin rfl (xr (ne rfl (ne rfl rfl)))) fun v3 h => ?_
  refine on_s h (k_bin rfl rfl) fun v4 h => ?_
  refine oe_s hle hd h (k_call (xsS rfl xs0)) fun v5 H n h => ?_
  refine on_s h (k_ext rfl) fun v6 h => ?_
  refine on_s h (k_ext rfl) fun v7 h => ?_
  refine oa_t h k_alloc fun v8 H n h => ?_
  refine oa_t h k_alloc fun v9 H n h => ?_
  refine oe_x hle hd h (k_st (xr (ne rfl sm)) rfl) fun v10 H n h => ?_
  refine oe_x hle hd h (k_st (xr sm) rfl) fun v11 H n h => ?_
  refine o0 ?_
  refine c_seq ?_
  refine c_seq ?_
  refine c_ops ?_
  refine on_s h (k_faddr (xr sm)) fun v12 h => ?_
  refine on_s h (k_ld1 rfl) fun v13 h => ?_
  refine on_s h (k_eq rfl rfl) fun v14 h => ?_
  refine ogn_s h rfl (k_faddr (xr (ne rfl sm))) fun v15 h => ?_
  refine ogn_s h rfl (k_ld1 rfl) fun v16 h => ?_
  refine ogn_s h rfl (k_lenL rfl) fun v17 h => ?_
  refine ogn_s h rfl (k_eq rfl rfl) fun v18 h => ?_
  refine on_s h (k_pick rfl rfl rfl) fun v19 h => ?_
  refine ogn_s h rfl (k_faddr (xr (ne rfl sm))) fun v20 h => ?_
  refine ogn_s h rfl (k_ld1 rfl) fun v21 h => ?_
  refine ogn_s h rfl (k_iaddr rfl rfl) fun v22 h => ?_
  refine ogn_s h rfl (k_faddr rfl) fun v23 h => ?_
  refine ogn_s h rfl (k_ld1 rfl) fun v24 h => ?_
  refine ogn_s h rfl (k_lenL rfl) fun v25 h => ?_
  refine ogn_s h rfl (k_eq rfl rfl) fun v26 h => ?_
  refine on_s h (k_pick rfl rfl rfl) fun v27 h => ?_
  refine ogn_s h rfl (k_faddr (xr (ne rfl sm))) fun v28 h => ?_
  refine ogn_s h rfl (k_ld1 rfl) fun v29 h => ?_
  refine ogn_s h rfl (k_iaddr rfl rfl) fun v30 h => ?_
  refine ogn_s h rfl (k_faddr rfl) fun v31 h => ?_
  refine ogn_s h rfl (k_ld1 rfl) fun v32 h => ?_
  refine ogn_s h rfl (k_iaddr rfl rfl) fun v33 h => ?_
  refine ogn_s h rfl (k_faddr rfl) fun v34 h => ?_
  refine ogn_s h rfl (k_ld1 rfl) fun v35 h => ?_
  refine ogn_s h rfl (k_lenL rfl) fun v36 h => ?_
  refine ogn_s h rfl (k_eq rfl rfl) fun v37 h => ?_
  refine on_t h (k_pick rfl rfl rfl) fun v38 h => ?_
  refine o0 ?_
  refine c_cond h (xr sm) (fun h => ?_) (fun h => ?_)
  · refine c_seq ?_
    refine c_reg ?_
    refine in_t h (k_build ps0) fun v39 h => ?_
    refine in_t h (k_ldn (xr (ne rfl (ne rfl sm)))) fun v40 h => ?_
    refine ie_x hle hd h (k_st (xr (ne rfl (ne rfl (ne rfl (ne rfl (ne rfl (ne rfl sm))))))) (xr (ne rfl sm))) fun v41 H n h => ?_
    refine ire h sm (k_ldn (xr (ne rfl (ne rfl (ne rfl sm))))) fun h => ?_
    refine ie_x hle hd h (k_st (xr (ne rfl (ne rfl (ne rfl (ne rfl (ne rfl sm)))))) (xr sm)) fun v42 H n h => ?_
    refine i0 ?_
    refine c_ret ?_
    exact fin_no (rsN (ne rfl (ne rfl (ne rfl (ne rfl (ne rfl (ne rfl sm)))))) (rsN (ne rfl (ne rfl (ne rfl (ne rfl (ne rfl sm))))) rs0)) h
  · refine c_skip ?_
    refine c_seq ?_
    refine c_reg ?_
    refine in_t h (k_faddr (xr (ne rfl (ne rfl sm)))) fun v43 h => ?_
    refine in_t h (k_ld1 (xr sm)) fun v44 h => ?_
    refine in_t h (k_iaddr (xr sm) rfl) fun v45 h => ?_
    refine in_t h (k_faddr (xr sm)) fun v46 h => ?_
    refine in_t h (k_ld1 (xr sm)) fun v47 h => ?_
    refine in_t h (k_iaddr (xr sm) rfl) fun v48 h => ?_
    refine in_t h (k_faddr (xr sm)) fun v49 h => ?_
    refine in_t h (k_ld1 (xr sm)) fun v50 h => ?_
    refine in_t h (k_iaddr (xr sm) rfl) fun v51 h => ?_
    refine in_t h (k_ldn (xr sm)) fun v52 h => ?_
    refine in_t h (k_ldn (xr (ne rfl (ne rfl (ne rfl (ne rfl (ne rfl (ne rfl (ne rfl (ne rfl (ne rfl (ne rfl (ne rfl sm))))))))))))) fun v53 h => ?_
    refine ie_x hle hd h (k_st (xr (ne rfl (ne rfl (ne rfl (ne rfl (ne rfl (ne rfl (ne rfl (ne rfl (ne rfl (ne rfl (ne rfl (ne rfl (ne rfl (ne rfl (ne rfl sm)))))))))))))))) (xr (ne rfl sm))) fun v54 H n h => ?_
    refine ire h sm (k_ldn (xr (ne rfl (ne rfl (ne rfl (ne rfl (ne rfl (ne rfl (ne rfl (ne rfl (ne rfl (ne rfl (ne rfl (ne rfl sm)))))))))))))) fun h => ?_
    refine ie_x hle hd h (k_st (xr (ne rfl (ne rfl (ne rfl (ne rfl (ne rfl (ne rfl (ne rfl (ne rfl (ne rfl (ne rfl (ne rfl (ne rfl (ne rfl (ne rfl sm))))))))))))))) (xr sm)) fun v55 H n h => ?_
    refine i0 ?_
    refine c_ret ?_
    exact fin_no (rsN (ne rfl (ne rfl (ne rfl (ne rfl (ne rfl (ne rfl (ne rfl (ne rfl (ne rfl (ne rfl (ne rfl (ne rfl (ne rfl (ne rfl (ne rfl sm))))))))))))))) (rsN (ne rfl (ne rfl (ne rfl (ne rfl (ne rfl (ne rfl (ne rfl (ne rfl (ne rfl (ne rfl (ne rfl (ne rfl (ne rfl (ne rfl sm)))))))))))))) rs0)) h
theorem si_lex_All {lp : LpT} (hL : LpOk lp) (G : Roms) : SfOk G af_lex_All (ar1 (s_lex_All lp G)) := by
  intro call callE hle hd
  refine fun l H n k h0 => ?_
  obtain ⟨a0, rfl, h⟩ := ar1_inv h0
  clear h0
  delta s_lex_All at h
  refine f_intro rfl ?_
  refine c_seq ?_
  refine c_ops ?_
  refine ov_t (a := .nils) (k_mv rfl) ?_
  refine oa_t h k_alloc fun v1 H n h => ?_
  refine o0 ?_
  refine c_seq ?_
  refine c_ops ?_
  refine on_s h (k_build (psS rfl (psS rfl ps0))) fun v2 h => ?_
  refine on_s h (k_build (psS (xr (ne rfl (ne rfl rfl))) (psS rfl ps0))) fun v3 h => ?_
  refine oa_s h (k_box rfl) fun v4 H n h => ?_
  refine ov_t (a := v4) (k_mv rfl) ?_
  refine o0 ?_
  refine c_seq ?_
  refine c_seq ?_
  refine c_ops ?_
  refine on_s h (k_lenS (xr (ne rfl (ne rfl (ne rfl rfl))))) fun v5 h => ?_
  refine on_t h (k_bin rfl rfl) fun v6 h => ?_
  refine o0 ?_
  refine c_cond h (xr sm) (fun h => ?_) (fun h => ?_)
  · refine c_seq ?_
    refine c_reg ?_
    refine iv_t (a := v4) (k_mv (xr (ne rfl sm))) ?_
    refine in_t h (k_nilck (xr sm)) fun v7 h => ?_
    refine in_t h (k_faddr (xr sm)) fun v8 h => ?_
    refine in_t h (k_ldn (xr sm)) fun v9 h => ?_
    refine in_t h (k_build (psS rfl (psS (xr sm) ps0))) fun v10 h => ?_
    refine iv_t (a := .nils) (k_mv rfl) ?_
    refine ie_x hle hd h (k_st (xr (ne rfl (ne rfl (ne rfl (ne rfl (ne rfl (ne rfl (ne rfl (ne rfl sm))))))))) (xr (ne rfl sm))) fun v11 H n h => ?_
    refine i0 ?_
    refine c_ret ?_
    exact fin_no (rsT sm (rsN (ne rfl (ne rfl (ne rfl (ne rfl (ne rfl (ne rfl (ne rfl (ne rfl sm)))))))) rs0)) h
  · refine c_skip ?_
    refine c_seq ?_
    refine c_ops ?_
    refine ov_t (a := .nils) (k_mv rfl) ?_
    refine o0 ?_
    refine c_block ?_
    refine c_loop hL (fun s R H n => rg R q5 = s.1 ∧ rg R q3 = v1 ∧ rg R q4 = v4 ∧ H = s.2.1 ∧ n = s.2.2) h ⟨sm, (ne rfl (ne rfl (ne rfl sm))), (ne rfl (ne rfl sm)), rfl, rfl⟩ ?_
    rintro ih12 I12 hI12 ⟨a5_l12, H, n⟩ R H0 n0 ⟨f5, f3, f4, eH, eN⟩ h
    replace h : s_lex_All_l12 lp G call k v1 v4 ih12 a5_l12 H n := h
    obtain rfl : H0 = H := eH
    obtain rfl : n0 = n := eN
    delta s_lex_All_l12 at h
    refine c_block ?_
    refine c_seq ?_
    refine c_ops ?_
    refine oe_s hle hd h (k_call (xsS (xr f4) xs0)) fun v13 H n h => ?_
    refine o0 ?_
    refine c_seq ?_
    refine c_ops ?_
    refine oe_s hle hd h (k_call (xsS (xr f4) xs0)) fun v14 H n h => ?_
    refine on_s h (k_ext rfl) fun v15 h => ?_
    refine on_s h (k_ext rfl) fun v16 h => ?_
    refine oa_t h k_alloc fun v17 H n h => ?_
    refine oe_x hle hd h (k_st (xr sm) rfl) fun v18 H n h => ?_
    refine ov_t (a := v16) (k_mv rfl) ?_
    refine o0 ?_
    refine c_seq ?_
    refine c_seq ?_
    refine c_ops ?_
    refine on_t h (k_eq (xr sm) rfl) fun v19 h => ?_
    refine o0 ?_
    refine c_cond h (xr sm) (fun h => ?_) (fun h => ?_)
    · refine c_seq ?_
      refine c_reg ?_
      refine iv_t (a := v16) (k_mv (xr (ne rfl sm))) ?_
      refine iv_t (a := v4) (k_mv (xr (ne rfl (ne rfl (ne rfl (ne rfl f4)))))) ?_
      refine in_t h (k_nilck (xr sm)) fun v20 h => ?_
      refine in_t h (k_faddr (xr sm)) fun v21 h => ?_
      refine in_t h (k_ldn (xr sm)) fun v22 h => ?_
      refine in_t h (k_build (psS (xr (ne rfl (ne rfl (ne rfl (ne rfl sm))))) (psS (xr sm) ps0))) fun v23 h => ?_
      refine iv_t (a := .nils) (k_mv rfl) ?_
      refine ie_x hle hd h (k_st (xr (ne rfl (ne rfl (ne rfl (ne rfl (ne rfl (ne rfl (ne rfl (ne rfl (ne rfl (ne rfl f3))))))))))) (xr (ne rfl sm))) fun v24 H n h => ?_
      refine i0 ?_
      refine c_ret ?_
      exact fin_no (rsT sm (rsN (ne rfl (ne rfl (ne rfl (ne rfl (ne rfl (ne rfl (ne rfl (ne rfl (ne rfl (ne rfl f3)))))))))) rs0)) h
    · refine c_skip ?_
      refine c_seq ?_
      refine c_ops ?_
      refine on_s h (k_ldn (xr (ne rfl (ne rfl sm)))) fun v25 h => ?_
      refine oa_s h (k_bslice (pbS rfl pb0)) fun v26 H n h => ?_
      refine oe_s hle hd h (k_app (xr (ne rfl (ne rfl (ne rfl f5)))) rfl) fun v27 H n h => ?_
      refine ov_t (a := v27) (k_mv rfl) ?_
      refine o0 ?_
      refine c_seq ?_
      refine c_ops ?_
      refine on_s h (k_faddr (xr (ne rfl (ne rfl (ne rfl sm))))) fun v28 h => ?_
      refine on_s h (k_ld1 rfl) fun v29 h => ?_
      refine on_t h (k_eq rfl rfl) fun v30 h => ?_
      refine o0 ?_
      refine c_cond h (xr sm) (fun h => ?_) (fun h => ?_)
      · refine c_seq ?_
        refine c_ops ?_
        refine on_s h (k_build ps0) fun v31 h => ?_
        refine ov_t (a := v27) (k_mv (xr (ne rfl sm))) ?_
        refine oe_x hle hd h (k_st (xr (ne rfl (ne rfl (ne rfl (ne rfl (ne rfl (ne rfl f3))))))) rfl) fun v32 H n h => ?_
        refine o0 ?_
        refine c_ret ?_
        exact fin_no (rsT sm (rsN (ne rfl (ne rfl (ne rfl (ne rfl (ne rfl (ne rfl f3)))))) rs0)) h
      · refine c_skip ?_
        exact hI12 (v27, H, n) _ _ _ ⟨(ne rfl sm), (ne rfl (ne rfl (ne rfl (ne rfl (ne rfl f3))))), (ne rfl (ne rfl (ne rfl (ne rfl (ne rfl f4))))), rfl, rfl⟩ h
theorem si_parse_parser_class {lp : LpT} (hL : LpOk lp) (G : Roms) : SfOk G af_parse_parser_class (ar1 (s_parse_parser_class lp G)) := by
  intro call callE hle hd
  refine fun l H n k h0 => ?_
  obtain ⟨a0, rfl, h⟩ := ar1_inv h0
  clear h0
  delta s_parse_parser_class at h
  refine f_intro rfl ?_
  refine c_seq ?_
  refine c_ops ?_
  refine oa_t h k_alloc fun v1 H n h => ?_
  refine o0 ?_
  refine c_seq ?_
  refine c_ops ?_
  refine on_s h (k_nilck (xr (ne rfl rfl))) fun v2 h => ?_
  refine on_s h (k_faddr rfl) fun v3 h => ?_
  refine on_s h (k_ld1 rfl) fun v4 h => ?_
  refine on_s h (k_iaddr rfl rfl) fun v5 h => ?_
  refine on_s h (k_faddr rfl) fun v6 h => ?_
  refine on_s h (k_ldn rfl) fun v7 h => ?_
  refine on_s h (k_build (psS rfl ps0)) fun v8 h => ?_
  refine oa_t h k_alloc fun v9 H n h => ?_
  refine oe_x hle hd h (k_st (xr sm) rfl) fun v10 H n h => ?_
  refine o0 ?_
  refine c_seq ?_
  refine c_ops ?_
  refine oa_s h (k_bslice (pbS rfl pb0)) fun v11 H n h => ?_
  refine oe_s hle hd h (k_call (xsS (xr (ne rfl (ne rfl rfl))) (xsS rfl xs0))) fun v12 H n h => ?_
  refine o0 ?_
  refine c_seq ?_
  refine c_ops ?_
  refine oe_s hle hd h (k_call (xsS (xr (ne rfl (ne rfl rfl))) (xsS rfl xs0))) fun v13 H n h => ?_
  refine on_s h (k_faddr (xr sm)) fun v14 h => ?_
  refine oe_x hle hd h (k_st rfl rfl) fun v15 H n h => ?_
  refine o0 ?_
  refine c_seqj (fun R H n => rg R q0 = a0 ∧ rg R q2 = v1 ∧ rg R q3 = v9 ∧ s_parse_parser_class_j16 lp G call k a0 v1 v9 H n) ?_ fun j16 => ?_
  · rintro R H n ⟨f0, f2, f3, h⟩
    delta s_parse_parser_class_j16 at h
    refine c_seq ?_
    refine c_ops ?_
    refine oa_s h (k_bslice (pbS rfl pb0)) fun v17 H n h => ?_
    refine oe_s hle hd h (k_call (xsS (xr f0) (xsS rfl xs0))) fun v18 H n h => ?_
    refine o0 ?_
    refine c_seqj (fun R H n => rg R q0 = a0 ∧ rg R q2 = v1 ∧ rg R q3 = v9 ∧ s_parse_parser_class_j19 lp G call k a0 v1 v9 H n) ?_ fun j19 => ?_
    · rintro R H n ⟨f0, f2, f3, h⟩
      delta s_parse_parser_class_j19 at h
      refine c_seqj (fun R H n => rg R q2 = v1 ∧ rg R q3 = v9 ∧ s_parse_parser_class_j20 lp G call k v1 v9 H n) ?_ fun j20 => ?_
      · rintro R H n ⟨f2, f3, h⟩
        delta s_parse_parser_class_j20 at h
        refine c_seq ?_
        refine c_ops ?_
        refine on_s h (k_ldn (xr f3)) fun v21 h => ?_
        refine oe_x hle hd h (k_st (xr f2) rfl) fun v22 H n h => ?_
        refine o0 ?_
        refine c_ret ?_
        exact fin_no (rsN f2 rs0) h
      · refine c_seq ?_
        refine c_ops ?_
        refine oe_s hle hd h (k_call (xsS (xr f0) xs0)) fun v23 H n h => ?_
        refine ogn_s h rfl (k_mv (xr f0)) fun v24 h => ?_
        refine ogn_s h rfl (k_nilck rfl) fun v25 h => ?_
        refine ogn_s h rfl (k_faddr rfl) fun v26 h => ?_
        refine ogn_s h rfl (k_ld1 rfl) fun v27 h => ?_
        refine ogn_s h rfl (k_iaddr rfl rfl) fun v28 h => ?_
        refine ogn_s h rfl (k_faddr rfl) fun v29 h => ?_
        refine ogn_s h rfl (k_ld1 rfl) fun v30 h => ?_
        refine ogn_s h rfl (k_eq rfl rfl) fun v31 h => ?_
        refine on_t h (k_pick rfl rfl rfl) fun v32 h => ?_
        refine o0 ?_
        refine c_cond h (xr sm) (fun h => ?_) (fun h => ?_)
        · refine c_ops ?_
          refine oe_s hle hd h (k_call (xsS (xr (ne rfl f0)) (xsS rfl xs0))) fun v33 H n h => ?_
          refine o0 ?_
          exact j20 _ _ _ ⟨(ne rfl f2), (ne rfl f3), h⟩
        · refine c_skip ?_
          exact j20 _ _ _ ⟨(ne rfl f2), (ne rfl f3), h⟩
    · refine c_block ?_
      refine c_loop hL (fun s R H n => rg R q0 = a0 ∧ rg R q2 = v1 ∧ rg R q3 = v9 ∧ H = s.1 ∧ n = s.2) h ⟨f0, f2, f3, rfl, rfl⟩ ?_
      rintro ih34 I34 hI34 ⟨H, n⟩ R H0 n0 ⟨f0, f2, f3, eH, eN⟩ h
      replace h : s_parse_parser_class_l34 lp G call k a0 v1 v9 ih34 H n := h
      obtain rfl : H0 = H := eH
      obtain rfl : n0 = n := eN
      delta s_parse_parser_class_l34 at h
      refine c_seq ?_
      refine c_seq ?_
      refine c_ops ?_
      refine oe_s hle hd h (k_call (xsS (xr f0) xs0)) fun v35 H n h => ?_
      refine ogn_s h rfl (k_mv (xr f0)) fun v36 h => ?_
      refine oge_s hle hd h rfl (k_call (xsS rfl (xsS rfl xs0))) fun v37 H n h => ?_
      refine ogn_s h rfl (k_not rfl) fun v38 h => ?_
      refine on_t h (k_pick rfl rfl rfl) fun v39 h => ?_
      refine o0 ?_
      refine c_cond h (xr sm) (fun h => ?_) (fun h => ?_)
      · refine c_skip ?_
        refine c_block ?_
        refine c_block ?_
        refine c_seq ?_
        refine c_ops ?_
        refine oe_s hle hd h (k_call (xsS (xr (ne rfl f0)) (xsS rfl xs0))) fun v40 H n h => ?_
        refine ov_t (a := v40) (k_mv rfl) ?_
        refine o0 ?_
        refine c_cond h (xr sm) (fun h => ?_) (fun h => ?_)
        · refine c_seq ?_
          refine c_ops ?_
          refine oe_s hle hd h (k_call (xsS (xr (ne rfl (ne rfl f0))) xs0)) fun v41 H n h => ?_
          refine oa_t h k_alloc fun v42 H n h => ?_
          refine oe_x hle hd h (k_st (xr sm) rfl) fun v43 H n h => ?_
          refine o0 ?_
          refine c_seq ?_
          refine c_reg ?_
          refine in_t h (k_faddr (xr (ne rfl (ne rfl (ne rfl f3))))) fun v44 h => ?_
          refine in_t h (k_ld1 (xr sm)) fun v45 h => ?_
          refine iv_t (a := a0) (k_mv (xr (ne rfl (ne rfl (ne rfl (ne rfl (ne rfl f0))))))) ?_
          refine in_t h (k_ldn (xr (ne rfl (ne rfl (ne rfl sm))))) fun v46 h => ?_
          refine ie_t hle hd h (k_call (xsS (xr (ne rfl sm)) (xsS rfl xs0))) fun v47 H n h => ?_
          refine ire h (ne rfl (ne rfl (ne rfl sm))) (k_ld1 (xr (ne rfl (ne rfl (ne rfl (ne rfl sm)))))) fun h => ?_
          refine ire h (ne rfl sm) (k_ldn (xr (ne rfl (ne rfl (ne rfl (ne rfl (ne rfl sm))))))) fun h => ?_
          refine in_t h (k_build (psS (xr sm) (psS (xr (ne rfl sm)) ps0))) fun v48 h => ?_
          refine ia_t h (k_bslice (pbS (xr sm) pb0)) fun v49 H n h => ?_
          refine ie_t hle hd h (k_app (xr (ne rfl (ne rfl (ne rfl (ne rfl (ne rfl sm)))))) (xr sm)) fun v50 H n h => ?_
          refine in_t h (k_faddr (xr (ne rfl (ne rfl (ne rfl (ne rfl (ne rfl (ne rfl (ne rfl (ne rfl (ne rfl (ne rfl (ne rfl f3))))))))))))) fun v51 h => ?_
          refine ie_x hle hd h (k_st (xr sm) (xr (ne rfl sm))) fun v52 H n h => ?_
          refine i0 ?_
          refine c_seq ?_
          refine c_ops ?_
          refine on_s h (k_faddr (xr (ne rfl (ne rfl (ne rfl (ne rfl (ne rfl (ne rfl (ne rfl (ne rfl (ne rfl (ne rfl (ne rfl (ne rfl f3)))))))))))))) fun v53 h => ?_
          refine on_s h (k_ld1 rfl) fun v54 h => ?_
          refine on_s h (k_lenL rfl) fun v55 h => ?_
          refine oe_s hle hd h (k_call (xsS (xr (ne rfl (ne rfl (ne rfl (ne rfl (ne rfl (ne rfl (ne rfl (ne rfl (ne rfl (ne rfl (ne rfl (ne rfl f0))))))))))))) (xsS rfl xs0))) fun v56 H n h => ?_
          refine o0 ?_
          refine c_ops ?_
          refine oa_s h (k_bslice (pbS rfl pb0)) fun v57 H n h => ?_
          refine oe_s hle hd h (k_call (xsS (xr (ne rfl (ne rfl (ne rfl (ne rfl (ne rfl (ne rfl (ne rfl (ne rfl (ne rfl (ne rfl (ne rfl (ne rfl f0))))))))))))) (xsS rfl xs0))) fun v58 H n h => ?_
          refine o0 ?_
          exact hI34 (H, n) _ _ _ ⟨(ne rfl (ne rfl (ne rfl (ne rfl (ne rfl (ne rfl (ne rfl (ne rfl (ne rfl (ne rfl (ne rfl (ne rfl f0)))))))))))), (ne rfl (ne rfl (ne rfl (ne rfl (ne rfl (ne rfl (ne rfl (ne rfl (ne rfl (ne rfl (ne rfl (ne rfl f2)))))))))))), (ne rfl (ne rfl (ne rfl (ne rfl (ne rfl (ne rfl (ne rfl (ne rfl (ne rfl (ne rfl (ne rfl (ne rfl f3)))))))))))), rfl, rfl⟩ h
        · refine c_seq ?_
          refine c_ops ?_
          refine oa_s h (k_bslice (pbS rfl (pbS rfl pb0))) fun v59 H n h => ?_
          refine oe_s hle hd h (k_call (xsS (xr (ne rfl (ne rfl f0))) (xsS rfl xs0))) fun v60 H n h => ?_
          refine ov_t (a := v60) (k_mv rfl) ?_
          refine o0 ?_
          refine c_cond h (xr sm) (fun h => ?_) (fun h => ?_)
          · refine c_seq ?_
            refine c_reg ?_
            refine in_t h (k_faddr (xr (ne rfl (ne rfl (ne rfl f3))))) fun v61 h => ?_
            refine in_t h (k_ld1 (xr sm)) fun v62 h => ?_
            refine iv_t (a := a0) (k_mv (xr (ne rfl (ne rfl (ne rfl (ne rfl (ne rfl f0))))))) ?_
            refine ie_t hle hd h (k_call (xsS (xr sm) xs0)) fun v63 H n h => ?_
            refine ire h (ne rfl (ne rfl sm)) (k_ld1 (xr (ne rfl (ne rfl (ne rfl sm))))) fun h => ?_
            refine ia_t h (k_bslice (pbS (xr sm) pb0)) fun v64 H n h => ?_
            refine ie_t hle hd h (k_app (xr (ne rfl (ne rfl (ne rfl sm)))) (xr sm)) fun v65 H n h => ?_
            refine in_t h (k_faddr (xr (ne rfl (ne rfl (ne rfl (ne rfl (ne rfl (ne rfl (ne rfl (ne rfl (ne rfl f3))))))))))) fun v66 h => ?_
            refine ie_x hle hd h (k_st (xr sm) (xr (ne rfl sm))) fun v67 H n h => ?_
            refine i0 ?_
            refine c_ops ?_
            refine on_s h (k_faddr (xr (ne rfl (ne rfl (ne rfl (ne rfl (ne rfl (ne rfl (ne rfl (ne rfl (ne rfl (ne rfl f3)))))))))))) fun v68 h => ?_
            refine on_s h (k_ld1 rfl) fun v69 h => ?_
            refine on_s h (k_lenL rfl) fun v70 h => ?_
            refine oe_s hle hd h (k_call (xsS (xr (ne rfl (ne rfl (ne rfl (ne rfl (ne rfl (ne rfl (ne rfl (ne rfl (ne rfl (ne rfl f0))))))))))) (xsS rfl xs0))) fun v71 H n h => ?_
            refine o0 ?_
            exact hI34 (H, n) _ _ _ ⟨(ne rfl (ne rfl (ne rfl (ne rfl (ne rfl (ne rfl (ne rfl (ne rfl (ne rfl (ne rfl f0)))))))))), (ne rfl (ne rfl (ne rfl (ne rfl (ne rfl (ne rfl (ne rfl (ne rfl (ne rfl (ne rfl f2)))))))))), (ne rfl (ne rfl (ne rfl (ne rfl (ne rfl (ne rfl (ne rfl (ne rfl (ne rfl (ne rfl f3)))))))))), rfl, rfl⟩ h
          · refine c_ops ?_
            refine oe_s hle hd h (k_call (xsS (xr (ne rfl (ne rfl (ne rfl f0)))) (xsS rfl xs0))) fun v72 H n h => ?_
            refine o0 ?_
            exact hI34 (H, n) _ _ _ ⟨(ne rfl (ne rfl (ne rfl f0))), (ne rfl (ne rfl (ne rfl f2))), (ne rfl (ne rfl (ne rfl f3))), rfl, rfl⟩ h
      · refine c_exit ?_
        refine bx_same ?_
        exact j19 _ _ _ ⟨(ne rfl f0), (ne rfl f2), (ne rfl f3), h⟩
  · refine c_seq ?_
    refine c_ops ?_
    refine oe_t hle hd h (k_call (xsS (xr (ne rfl (ne rfl rfl))) (xsS rfl xs0))) fun v73 H n h => ?_
    refine o0 ?_
    refine c_cond h (xr sm) (fun h => ?_) (fun h => ?_)
    · refine c_ops ?_
      refine oe_s hle hd h (k_call (xsS (xr (ne rfl (ne rfl (ne rfl rfl)))) (xsS rfl xs0))) fun v74 H n h => ?_
      refine on_s h (k_faddr (xr (ne rfl sm))) fun v75 h => ?_
      refine oe_x hle hd h (k_st rfl rfl) fun v76 H n h => ?_
      refine o0 ?_
      exact j16 _ _ _ ⟨(ne rfl (ne rfl (ne rfl rfl))), (ne rfl (ne rfl sm)), (ne rfl sm), h⟩
    · refine c_skip ?_
      exact j16 _ _ _ ⟨(ne rfl (ne rfl (ne rfl rfl))), (ne rfl (ne rfl sm)), (ne rfl sm), h⟩
theorem si_parse_parser_ok {lp : LpT} (hL : LpOk lp) (G : Roms) : SfOk G af_parse_parser_ok (ar1 (s_parse_parser_ok lp G)) := by
  intro call callE hle hd
  refine fun l H n k h0 => ?_
  obtain ⟨a0, rfl, h⟩ := ar1_inv h0
  clear h0
  delta s_parse_parser_ok at h
  refine f_intro rfl ?_
  refine c_seq ?_
  refine c_ops ?_
  refine ov_t (a := (.bool false)) (k_mv rfl) ?_
  refine o0 ?_
  refine c_seq ?_
  refine c_ops ?_
  refine on_s h (k_nilck (xr (ne rfl rfl))) fun v1 h => ?_
  refine on_s h (k_faddr rfl) fun v2 h => ?_
  refine on_s h (k_faddr rfl) fun v3 h => ?_
  refine on_s h (k_ld1 rfl) fun v4 h => ?_
  refine on_s h (k_eq rfl rfl) fun v5 h => ?_
  refine ov_t (a := v5) (k_mv rfl) ?_
  refine o0 ?_
  refine c_ret ?_
  exact fin_no (rsT sm rs0) h
theorem si_internal_strconv_Itoa {lp : LpT} (hL : LpOk lp) (G : Roms) : SfOk G af_internal_strconv_Itoa (ar1 (s_internal_strconv_Itoa lp G)) := by
  intro call callE hle hd
  refine fun l H n k h0 => ?_
  obtain ⟨a0, rfl, h⟩ := ar1_inv h0
  clear h0
  delta s_internal_strconv_Itoa at h
  refine f_intro rfl ?_
  refine c_seq ?_
  refine c_ops ?_
  refine ov_t (a := (.str 0 0)) (k_mv rfl) ?_
  refine o0 ?_
  refine c_seq ?_
  refine c_ops ?_
  refine oe_s hle hd h (k_call (xsS (xr (ne rfl rfl)) (xsS rfl xs0))) fun v1 H n h => ?_
  refine ov_t (a := v1) (k_mv rfl) ?_
  refine o0 ?_
  refine c_ret ?_
  exact fin_no (rsT sm rs0) h
theorem si_internal_strconv_FormatInt {lp : LpT} (hL : LpOk lp) (G : Roms) : SfOk G af_internal_strconv_FormatInt (ar2 (s_internal_strconv_FormatInt lp G)) := by
  intro call callE hle hd
  refine fun l H n k h0 => ?_
  obtain ⟨a0, a1, rfl, h⟩ := ar2_inv h0
  clear h0
  delta s_internal_strconv_FormatInt at h
  refine f_intro rfl ?_
  refine c_seq ?_
  refine c_ops ?_
  refine ov_t (a := (.str 0 0)) (k_mv rfl) ?_
  refine o0 ?_
  refine c_seq ?_
  refine c_seq ?_
  refine c_ops ?_
  refine on_t h (k_eq (xr (ne rfl rfl)) rfl) fun v1 h => ?_
  refine o0 ?_
  refine c_cond h (xr sm) (fun h => ?_) (fun h => ?_)
  · refine c_seq ?_
    refine c_seq ?_
    refine c_ops ?_
    refine on_s h (k_bin rfl (xr (ne rfl (ne rfl rfl)))) fun v2 h => ?_
    refine ogn_s h rfl (k_mv (xr (ne rfl (ne rfl rfl)))) fun v3 h => ?_
    refine ogn_s h rfl (k_bin rfl rfl) fun v4 h => ?_
    refine on_t h (k_pick rfl rfl rfl) fun v5 h => ?_
    refine o0 ?_
    refine c_cond h (xr sm) (fun h => ?_) (fun h => ?_)
    · refine c_seq ?_
      refine c_ops ?_
      refine oe_s hle hd h (k_call (xsS (xr (ne rfl (ne rfl (ne rfl rfl)))) xs0)) fun v6 H n h => ?_
      refine ov_t (a := v6) (k_mv rfl) ?_
      refine o0 ?_
      refine c_ret ?_
      exact fin_no (rsT sm rs0) h
    · refine c_skip ?_
      refine c_seq ?_
      refine c_ops ?_
      refine oa_t h k_alloc fun v7 H n h => ?_
      refine o0 ?_
      refine c_seq ?_
      refine c_ops ?_
      refine on_s h (k_cvi (xr (ne rfl (ne rfl (ne rfl (ne rfl rfl)))))) fun v8 h => ?_
      refine ov_t (a := v8) (k_mv rfl) ?_
      refine o0 ?_
      refine c_seqj (fun R H n => ∃ a6_j9, rg R q6 = a6_j9 ∧ rg R q0 = a0 ∧ rg R q5 = v7 ∧ s_internal_strconv_FormatInt_j9 lp G call k a0 v7 a6_j9 H n) ?_ fun j9 => ?_
      · rintro R H n ⟨a6_j9, f6, f0, f5, h⟩
        delta s_internal_strconv_FormatInt_j9 at h
        refine c_seq ?_
        refine c_ops ?_
        refine oe_s hle hd h (k_call (xsS (xr f6) xs0)) fun v10 H n h => ?_
        refine ov_t (a := v10) (k_mv rfl) ?_
        refine o0 ?_
        refine c_seq ?_
        refine c_ops ?_
        refine on_s h (k_bin rfl (xr sm)) fun v11 h => ?_
        refine on_s h (k_slcA (xr (ne rfl f5)) (oxS rfl) (oxS rfl)) fun v12 h => ?_
        refine oe_s hle hd h (k_call (xsS rfl (xsS (xr (ne rfl f6)) xs0))) fun v13 H n h => ?_
        refine o0 ?_
        refine c_seq ?_
        refine c_seq ?_
        refine c_ops ?_
        refine on_t h (k_bin (xr (ne rfl f0)) rfl) fun v14 h => ?_
        refine o0 ?_
        refine c_cond h (xr sm) (fun h => ?_) (fun h => ?_)
        · refine c_seq ?_
          refine c_ops ?_
          refine on_s h (k_iaddrA (xr (ne rfl (ne rfl f5))) rfl) fun v15 h => ?_
          refine oe_x hle hd h (k_st rfl rfl) fun v16 H n h => ?_
          refine o0 ?_
          refine c_seq ?_
          refine c_ops ?_
          refine on_s h (k_bin rfl (xr (ne rfl sm))) fun v17 h => ?_
          refine on_s h (k_slcA (xr (ne rfl (ne rfl f5))) ox0 (oxS rfl)) fun v18 h => ?_
          refine on_s h (k_cvS rfl) fun v19 h => ?_
          refine ov_t (a := v19) (k_mv rfl) ?_
          refine o0 ?_
          refine c_ret ?_
          exact fin_no (rsT sm rs0) h
        · refine c_skip ?_
          refine c_seq ?_
          refine c_ops ?_
          refine on_s h (k_bin rfl (xr (ne rfl sm))) fun v20 h => ?_
          refine on_s h (k_slcA (xr (ne rfl (ne rfl f5))) (oxS rfl) (oxS rfl)) fun v21 h => ?_
          refine on_s h (k_cvS rfl) fun v22 h => ?_
          refine ov_t (a := v22) (k_mv rfl) ?_
          refine o0 ?_
          refine c_ret ?_
          exact fin_no (rsT sm rs0) h
      · refine c_seq ?_
        refine c_ops ?_
        refine on_t h (k_bin (xr (ne rfl (ne rfl (ne rfl (ne rfl (ne rfl rfl)))))) rfl) fun v23 h => ?_
        refine o0 ?_
        refine c_cond h (xr sm) (fun h => ?_) (fun h => ?_)
        · refine c_ops ?_
          refine on_s h (k_neg (xr (ne rfl sm))) fun v24 h => ?_
          refine ov_t (a := v24) (k_mv rfl) ?_
          refine o0 ?_
          exact j9 _ _ _ ⟨_, sm, (ne rfl (ne rfl (ne rfl (ne rfl (ne rfl (ne rfl (ne rfl rfl))))))), (ne rfl (ne rfl (ne rfl sm))), h⟩
        · refine c_skip ?_
          exact j9 _ _ _ ⟨_, (ne rfl sm), (ne rfl (ne rfl (ne rfl (ne rfl (ne rfl (ne rfl rfl)))))), (ne rfl (ne rfl sm)), h⟩
  · refine c_skip ?_
    refine c_seq ?_
    refine c_ops ?_
    refine on_s h (k_cvi (xr (ne rfl (ne rfl rfl)))) fun v25 h => ?_
    refine on_s h (k_bin (xr (ne rfl (ne rfl rfl))) rfl) fun v26 h => ?_
    refine oe_s hle hd h (k_call (xsS rfl (xsS rfl (xsS (xr (ne rfl (ne rfl rfl))) (xsS rfl (xsS rfl xs0)))))) fun v27 H n h => ?_
    refine on_s h (k_ext rfl) fun v28 h => ?_
    refine on_s h (k_ext rfl) fun v29 h => ?_
    refine ov_t (a := v29) (k_mv rfl) ?_
    refine o0 ?_
    refine c_seq ?_
    refine c_ops ?_
    refine ov_t (a := v29) (k_mv (xr sm)) ?_
    refine o0 ?_
    refine c_ret ?_
    exact fin_no (rsT sm rs0) h
theorem si_lex_lexer_skip {lp : LpT} (hL : LpOk lp) (G : Roms) : SfOk G af_lex_lexer_skip (ar1 (s_lex_lexer_skip lp G)) := by
  intro call callE hle hd
  refine fun l H n k h0 => ?_
  obtain ⟨a0, rfl, h⟩ := ar1_inv h0
  clear h0
  delta s_lex_lexer_skip at h
  refine f_intro rfl ?_
  refine c_block ?_
  refine c_loop hL (fun s R H n => rg R q0 = a0 ∧ H = s.1 ∧ n = s.2) h ⟨rfl, rfl, rfl⟩ ?_
  rintro ih1 I1 hI1 ⟨H, n⟩ R H0 n0 ⟨f0, eH, eN⟩ h
  replace h : s_lex_lexer_skip_l1 lp G call k a0 ih1 H n := h
  obtain rfl : H0 = H := eH
  obtain rfl : n0 = n := eN
  delta s_lex_lexer_skip_l1 at h
  refine c_seq ?_
  refine c_seq ?_
  refine c_reg ?_
  refine iv_t (a := a0) (k_mv (xr f0)) ?_
  refine in_t h (k_nilck (xr sm)) fun v2 h => ?_
  refine in_t h (k_faddr (xr sm)) fun v3 h => ?_
  refine in_t h (k_ld1 (xr sm)) fun v4 h => ?_
  refine iv_t (a := a0) (k_mv (xr (ne rfl (ne rfl (ne rfl (ne rfl f0)))))) ?_
  refine in_t h (k_nilck (xr sm)) fun v5 h => ?_
  refine in_t h (k_faddr (xr sm)) fun v6 h => ?_
  refine in_t h (k_ld1 (xr sm)) fun v7 h => ?_
  refine in_t h (k_lenS (xr sm)) fun v8 h => ?_
  refine in_t h (k_bin (xr (ne rfl (ne rfl (ne rfl (ne rfl (ne rfl sm)))))) (xr sm)) fun v9 h => ?_
  refine i0 ?_
  refine c_cond h (xr sm) (fun h => ?_) (fun h => ?_)
  · refine c_skip ?_
    refine c_block ?_
    refine c_seq ?_
    refine c_reg ?_
    refine iv_t (a := a0) (k_mv (xr (ne rfl (ne rfl (ne rfl (ne rfl (ne rfl (ne rfl (ne rfl (ne rfl (ne rfl (ne rfl f0)))))))))))) ?_
    refine in_t h (k_nilck (xr sm)) fun v10 h => ?_
    refine in_t h (k_faddr (xr sm)) fun v11 h => ?_
    refine in_t h (k_ld1 (xr sm)) fun v12 h => ?_
    refine iv_t (a := a0) (k_mv (xr (ne rfl (ne rfl (ne rfl (ne rfl (ne rfl (ne rfl (ne rfl (ne rfl (ne rfl (ne rfl (ne rfl (ne rfl (ne rfl (ne rfl f0)))))))))))))))) ?_
    refine in_t h (k_nilck (xr sm)) fun v13 h => ?_
    refine in_t h (k_faddr (xr sm)) fun v14 h => ?_
    refine in_t h (k_ld1 (xr sm)) fun v15 h => ?_
    refine in_t h (k_idxS (xr (ne rfl (ne rfl (ne rfl (ne rfl sm))))) (xr sm)) fun v16 h => ?_
    refine iv_t (a := v16) (k_mv (xr sm)) ?_
    refine i0 ?_
    refine c_block ?_
    refine c_seq ?_
    refine c_ops ?_
    refine on_s h (k_eq (xr sm) rfl) fun v17 h => ?_
    refine ogn_s h rfl (k_mv (xr sm)) fun v18 h => ?_
    refine ogn_s h rfl (k_eq rfl rfl) fun v19 h => ?_
    refine on_s h (k_pick rfl rfl rfl) fun v20 h => ?_
    refine ogn_s h rfl (k_mv (xr sm)) fun v21 h => ?_
    refine ogn_s h rfl (k_eq rfl rfl) fun v22 h => ?_
    refine on_s h (k_pick rfl rfl rfl) fun v23 h => ?_
    refine ogn_s h rfl (k_mv (xr sm)) fun v24 h => ?_
    refine ogn_s h rfl (k_eq rfl rfl) fun v25 h => ?_
    refine on_s h (k_pick rfl rfl rfl) fun v26 h => ?_
    refine ov_t (a := v26) (k_mv rfl) ?_
    refine o0 ?_
    refine c_cond h (xr sm) (fun h => ?_) (fun h => ?_)
    · refine c_ops ?_
      refine oe_s hle hd h (k_call (xsS (xr (ne rfl (ne rfl (ne rfl (ne rfl (ne rfl (ne rfl (ne rfl (ne rfl (ne rfl (ne rfl (ne rfl (ne rfl (ne rfl (ne rfl (ne rfl (ne rfl (ne rfl (ne rfl (ne rfl (ne rfl (ne rfl f0)))))))))))))))))))))) (xsS rfl xs0))) fun v27 H n h => ?_
      refine o0 ?_
      exact hI1 (H, n) _ _ _ ⟨(ne rfl (ne rfl (ne rfl (ne rfl (ne rfl (ne rfl (ne rfl (ne rfl (ne rfl (ne rfl (ne rfl (ne rfl (ne rfl (ne rfl (ne rfl (ne rfl (ne rfl (ne rfl (ne rfl (ne rfl (ne rfl f0))))))))))))))))))))), rfl, rfl⟩ h
    · refine c_seq ?_
      refine c_reg ?_
      refine iv_t (a := a0) (k_mv (xr (ne rfl (ne rfl (ne rfl (ne rfl (ne rfl (ne rfl (ne rfl (ne rfl (ne rfl (ne rfl (ne rfl (ne rfl (ne rfl (ne rfl (ne rfl (ne rfl (ne rfl (ne rfl (ne rfl (ne rfl (ne rfl f0))))))))))))))))))))))) ?_
      refine in_t h (k_nilck (xr sm)) fun v28 h => ?_
      refine in_t h (k_faddr (xr sm)) fun v29 h => ?_
      refine in_t h (k_ld1 (xr sm)) fun v30 h => ?_
      refine iv_t (a := a0) (k_mv (xr (ne rfl (ne rfl (ne rfl (ne rfl (ne rfl (ne rfl (ne rfl (ne rfl (ne rfl (ne rfl (ne rfl (ne rfl (ne rfl (ne rfl (ne rfl (ne rfl (ne rfl (ne rfl (ne rfl (ne rfl (ne rfl (ne rfl (ne rfl (ne rfl (ne rfl f0))))))))))))))))))))))))))) ?_
      refine in_t h (k_nilck (xr sm)) fun v31 h => ?_
      refine in_t h (k_faddr (xr sm)) fun v32 h => ?_
      refine in_t h (k_ld1 (xr sm)) fun v33 h => ?_
      refine in_t h (k_slcS (xr (ne rfl (ne rfl (ne rfl (ne rfl sm))))) (oxS (xr sm)) ox0) fun v34 h => ?_
      refine ie_t hle hd h (k_call (xsS (xr sm) (xsS rfl xs0))) fun v35 H n h => ?_
      refine iv_t (a := v35) (k_mv (xr sm)) ?_
      refine i0 ?_
      refine c_cond h (xr sm) (fun h => ?_) (fun h => ?_)
      · refine c_seq ?_
        refine c_reg ?_
        refine iv_t (a := a0) (k_mv (xr (ne rfl (ne rfl (ne rfl (ne rfl (ne rfl (ne rfl (ne rfl (ne rfl (ne rfl (ne rfl (ne rfl (ne rfl (ne rfl (ne rfl (ne rfl (ne rfl (ne rfl (ne rfl (ne rfl (ne rfl (ne rfl (ne rfl (ne rfl (ne rfl (ne rfl (ne rfl (ne rfl (ne rfl (ne rfl (ne rfl (ne rfl (ne rfl f0)))))))))))))))))))))))))))))))))) ?_
        refine in_t h (k_nilck (xr sm)) fun v36 h => ?_
        refine in_t h (k_faddr (xr sm)) fun v37 h => ?_
        refine in_t h (k_ld1 (xr sm)) fun v38 h => ?_
        refine iv_t (a := a0) (k_mv (xr (ne rfl (ne rfl (ne rfl (ne rfl (ne rfl (ne rfl (ne rfl (ne rfl (ne rfl (ne rfl (ne rfl (ne rfl (ne rfl (ne rfl (ne rfl (ne rfl (ne rfl (ne rfl (ne rfl (ne rfl (ne rfl (ne rfl (ne rfl (ne rfl (ne rfl (ne rfl (ne rfl (ne rfl (ne rfl (ne rfl (ne rfl (ne rfl (ne rfl (ne rfl (ne rfl (ne rfl f0)))))))))))))))))))))))))))))))))))))) ?_
        refine in_t h (k_nilck (xr sm)) fun v39 h => ?_
        refine in_t h (k_faddr (xr sm)) fun v40 h => ?_
        refine in_t h (k_ld1 (xr sm)) fun v41 h => ?_
        refine in_t h (k_slcS (xr (ne rfl (ne rfl (ne rfl (ne rfl sm))))) (oxS (xr sm)) ox0) fun v42 h => ?_
        refine ie_t hle hd h (k_call (xsS (xr sm) (xsS rfl xs0))) fun v43 H n h => ?_
        refine iv_t (a := v43) (k_mv (xr sm)) ?_
        refine i0 ?_
        refine c_seqj (fun R H n => ∃ a3_j44, rg R q3 = a3_j44 ∧ rg R q0 = a0 ∧ s_lex_lexer_skip_j44 lp G call k ih1 a0 a3_j44 H n) ?_ fun j44 => ?_
        · rintro R H n ⟨a3_j44, f3, f0, h⟩
          delta s_lex_lexer_skip_j44 at h
          refine c_ops ?_
          refine oe_s hle hd h (k_call (xsS (xr f0) (xsS (xr f3) xs0))) fun v45 H n h => ?_
          refine o0 ?_
          exact hI1 (H, n) _ _ _ ⟨f0, rfl, rfl⟩ h
        · refine c_seq ?_
          refine c_ops ?_
          refine on_t h (k_bin (xr sm) rfl) fun v46 h => ?_
          refine o0 ?_
          refine c_cond h (xr sm) (fun h => ?_) (fun h => ?_)
          · refine c_reg ?_
            refine iv_t (a := a0) (k_mv (xr (ne rfl (ne rfl (ne rfl (ne rfl (ne rfl (ne rfl (ne rfl (ne rfl (ne rfl (ne rfl (ne rfl (ne rfl (ne rfl (ne rfl (ne rfl (ne rfl (ne rfl (ne rfl (ne rfl (ne rfl (ne rfl (ne rfl (ne rfl (ne rfl (ne rfl (ne rfl (ne rfl (ne rfl (ne rfl (ne rfl (ne rfl (ne rfl (ne rfl (ne rfl (ne rfl (ne rfl (ne rfl (ne rfl (ne rfl (ne rfl (ne rfl (ne rfl (ne rfl (ne rfl f0)))))))))))))))))))))))))))))))))))))))))))))) ?_
            refine in_t h (k_nilck (xr sm)) fun v47 h => ?_
            refine in_t h (k_faddr (xr sm)) fun v48 h => ?_
            refine in_t h (k_ld1 (xr sm)) fun v49 h => ?_
            refine in_t h (k_lenS (xr sm)) fun v50 h => ?_
            refine iv_t (a := a0) (k_mv (xr (ne rfl (ne rfl (ne rfl (ne rfl (ne rfl (ne rfl (ne rfl (ne rfl (ne rfl (ne rfl (ne rfl (ne rfl (ne rfl (ne rfl (ne rfl (ne rfl (ne rfl (ne rfl (ne rfl (ne rfl (ne rfl (ne rfl (ne rfl (ne rfl (ne rfl (ne rfl (ne rfl (ne rfl (ne rfl (ne rfl (ne rfl (ne rfl (ne rfl (ne rfl (ne rfl (ne rfl (ne rfl (ne rfl (ne rfl (ne rfl (ne rfl (ne rfl (ne rfl (ne rfl (ne rfl (ne rfl (ne rfl (ne rfl (ne rfl f0))))))))))))))))))))))))))))))))))))))))))))))))))) ?_
            refine in_t h (k_nilck (xr sm)) fun v51 h => ?_
            refine in_t h (k_faddr (xr sm)) fun v52 h => ?_
            refine in_t h (k_ld1 (xr sm)) fun v53 h => ?_
            refine in_t h (k_bin (xr (ne rfl (ne rfl (ne rfl (ne rfl sm))))) (xr sm)) fun v54 h => ?_
            refine iv_t (a := v54) (k_mv (xr sm)) ?_
            refine i0 ?_
            exact j44 _ _ _ ⟨_, sm, (ne rfl (ne rfl (ne rfl (ne rfl (ne rfl (ne rfl (ne rfl (ne rfl (ne rfl (ne rfl (ne rfl (ne rfl (ne rfl (ne rfl (ne rfl (ne rfl (ne rfl (ne rfl (ne rfl (ne rfl (ne rfl (ne rfl (ne rfl (ne rfl (ne rfl (ne rfl (ne rfl (ne rfl (ne rfl (ne rfl (ne rfl (ne rfl (ne rfl (ne rfl (ne rfl (ne rfl (ne rfl (ne rfl (ne rfl (ne rfl (ne rfl (ne rfl (ne rfl (ne rfl (ne rfl (ne rfl (ne rfl (ne rfl (ne rfl (ne rfl (ne rfl (ne rfl (ne rfl (ne rfl (ne rfl f0))))))))))))))))))))))))))))))))))))))))))))))))))))))), h⟩
          · refine c_skip ?_
            exact j44 _ _ _ ⟨_, (ne rfl sm), (ne rfl (ne rfl (ne rfl (ne rfl (ne rfl (ne rfl (ne rfl (ne rfl (ne rfl (ne rfl (ne rfl (ne rfl (ne rfl (ne rfl (ne rfl (ne rfl (ne rfl (ne rfl (ne rfl (ne rfl (ne rfl (ne rfl (ne rfl (ne rfl (ne rfl (ne rfl (ne rfl (ne rfl (ne rfl (ne rfl (ne rfl (ne rfl (ne rfl (ne rfl (ne rfl (ne rfl (ne rfl (ne rfl (ne rfl (ne rfl (ne rfl (ne rfl (ne rfl (ne rfl f0)))))))))))))))))))))))))))))))))))))))))))), h⟩
      · refine c_ret ?_
        exact fin_no rs0 h
  · refine c_exit ?_
    refine bx_same ?_
    exact fin_no rs0 h
theorem si_lex_lexer_next {lp : LpT} (hL : LpOk lp) (G : Roms) : SfOk G af_lex_lexer_next (ar1 (s_lex_lexer_next lp G)) := by
  intro call callE hle hd
  refine fun l H n k h0 => ?_
  obtain ⟨a0, rfl, h⟩ := ar1_inv h0
  clear h0
  delta s_lex_lexer_next at h
  refine f_intro rfl ?_
  refine c_seq ?_
  refine c_ops ?_
  refine oa_t h k_alloc fun v1 H n h => ?_
  refine ov_t (a := (.int .i64 (.ofNat 0) 0)) (k_mv rfl) ?_
  refine o0 ?_
  refine c_seq ?_
  refine c_ops ?_
  refine on_s h (k_nilck (xr (ne rfl (ne rfl rfl)))) fun v2 h => ?_
  refine on_s h (k_faddr rfl) fun v3 h => ?_
  refine on_s h (k_ldn rfl) fun v4 h => ?_
  refine on_s h (k_build (psS rfl ps0)) fun v5 h => ?_
  refine oa_t h k_alloc fun v6 H n h => ?_
  refine oe_x hle hd h (k_st (xr sm) rfl) fun v7 H n h => ?_
  refine o0 ?_
  refine c_seq ?_
  refine c_seq ?_
  refine c_reg ?_
  refine iv_t (a := a0) (k_mv (xr (ne rfl (ne rfl (ne rfl rfl))))) ?_
  refine in_t h (k_nilck (xr sm)) fun v8 h => ?_
  refine in_t h (k_faddr (xr sm)) fun v9 h => ?_
  refine in_t h (k_ld1 (xr sm)) fun v10 h => ?_
  refine iv_t (a := a0) (k_mv (xr (ne rfl (ne rfl (ne rfl (ne rfl (ne rfl (ne rfl (ne rfl rfl))))))))) ?_
  refine in_t h (k_nilck (xr sm)) fun v11 h => ?_
  refine in_t h (k_faddr (xr sm)) fun v12 h => ?_
  refine in_t h (k_ld1 (xr sm)) fun v13 h => ?_
  refine in_t h (k_lenS (xr sm)) fun v14 h => ?_
  refine in_t h (k_eq (xr (ne rfl (ne rfl (ne rfl (ne rfl (ne rfl sm)))))) (xr sm)) fun v15 h => ?_
  refine i0 ?_
  refine c_cond h (xr sm) (fun h => ?_) (fun h => ?_)
  · refine c_seq ?_
    refine c_ops ?_
    refine on_s h (k_ldn (xr (ne rfl (ne rfl (ne rfl (ne rfl (ne rfl (ne rfl (ne rfl (ne rfl (ne rfl (ne rfl sm)))))))))))) fun v16 h => ?_
    refine oe_x hle hd h (k_st (xr (ne rfl (ne rfl (ne rfl (ne rfl (ne rfl (ne rfl (ne rfl (ne rfl (ne rfl (ne rfl (ne rfl (ne rfl sm))))))))))))) rfl) fun v17 H n h => ?_
    refine ov_t (a := (.int .i64 (.ofNat 0) 0)) (k_mv rfl) ?_
    refine o0 ?_
    refine c_ret ?_
    exact fin_no (rsN (ne rfl (ne rfl (ne rfl (ne rfl (ne rfl (ne rfl (ne rfl (ne rfl (ne rfl (ne rfl (ne rfl (ne rfl (ne rfl sm))))))))))))) (rsT sm rs0)) h
  · refine c_skip ?_
    refine c_seq ?_
    refine c_reg ?_
    refine iv_t (a := a0) (k_mv (xr (ne rfl (ne rfl (ne rfl (ne rfl (ne rfl (ne rfl (ne rfl (ne rfl (ne rfl (ne rfl (ne rfl (ne rfl (ne rfl rfl))))))))))))))) ?_
    refine in_t h (k_nilck (xr sm)) fun v18 h => ?_
    refine in_t h (k_faddr (xr sm)) fun v19 h => ?_
    refine in_t h (k_ld1 (xr sm)) fun v20 h => ?_
    refine iv_t (a := a0) (k_mv (xr (ne rfl (ne rfl (ne rfl (ne rfl (ne rfl (ne rfl (ne rfl (ne rfl (ne rfl (ne rfl (ne rfl (ne rfl (ne rfl (ne rfl (ne rfl (ne rfl (ne rfl rfl))))))))))))))))))) ?_
    refine in_t h (k_nilck (xr sm)) fun v21 h => ?_
    refine in_t h (k_faddr (xr sm)) fun v22 h => ?_
    refine in_t h (k_ld1 (xr sm)) fun v23 h => ?_
    refine in_t h (k_idxS (xr (ne rfl (ne rfl (ne rfl (ne rfl sm))))) (xr sm)) fun v24 h => ?_
    refine iv_t (a := v24) (k_mv (xr sm)) ?_
    refine i0 ?_
    refine c_seqj (fun R H n => rg R q0 = a0 ∧ rg R q2 = v1 ∧ rg R q4 = v6 ∧ s_lex_lexer_next_j25 lp G call k a0 v1 v6 H n) ?_ fun j25 => ?_
    · rintro R H n ⟨f0, f2, f4, h⟩
      delta s_lex_lexer_next_j25 at h
      refine c_seq ?_
      refine c_block ?_
      refine c_seq ?_
      refine c_ops ?_
      refine on_s h (k_faddr (xr f4)) fun v26 h => ?_
      refine on_s h (k_ld1 rfl) fun v27 h => ?_
      refine on_s h (k_eq rfl rfl) fun v28 h => ?_
      refine ov_t (a := v28) (k_mv rfl) ?_
      refine o0 ?_
      refine c_cond h (xr sm) (fun h => ?_) (fun h => ?_)
      · refine c_seq ?_
        refine c_ops ?_
        refine on_s h (k_build ps0) fun v29 h => ?_
        refine oe_x hle hd h (k_st (xr (ne rfl f2)) rfl) fun v30 H n h => ?_
        refine ov_t (a := (.int .i64 (.ofNat 20) 0)) (k_mv rfl) ?_
        refine o0 ?_
        refine c_ret ?_
        exact fin_no (rsN (ne rfl (ne rfl f2)) (rsT sm rs0)) h
      · refine c_seq ?_
        refine c_ops ?_
        refine on_s h (k_faddr (xr (ne rfl f4))) fun v31 h => ?_
        refine on_s h (k_ld1 rfl) fun v32 h => ?_
        refine on_s h (k_lenS rfl) fun v33 h => ?_
        refine on_s h (k_bin rfl rfl) fun v34 h => ?_
        refine ogn_s h rfl (k_faddr (xr (ne rfl f4))) fun v35 h => ?_
        refine ogn_s h rfl (k_ld1 rfl) fun v36 h => ?_
        refine ogn_s h rfl (k_eq rfl rfl) fun v37 h => ?_
        refine on_s h (k_pick rfl rfl rfl) fun v38 h => ?_
        refine ov_t (a := v38) (k_mv rfl) ?_
        refine o0 ?_
        refine c_cond h (xr sm) (fun h => ?_) (fun h => ?_)
        · refine c_seq ?_
          refine c_ops ?_
          refine on_s h (k_build ps0) fun v39 h => ?_
          refine oe_x hle hd h (k_st (xr (ne rfl (ne rfl f2))) rfl) fun v40 H n h => ?_
          refine ov_t (a := (.int .i64 (.ofNat 4) 0)) (k_mv rfl) ?_
          refine o0 ?_
          refine c_ret ?_
          exact fin_no (rsN (ne rfl (ne rfl (ne rfl f2))) (rsT sm rs0)) h
        · refine c_skip ?_
          refine c_seq ?_
          refine c_ops ?_
          refine on_s h (k_faddr (xr (ne rfl (ne rfl f4)))) fun v41 h => ?_
          refine on_s h (k_ld1 rfl) fun v42 h => ?_
          refine on_s h (k_lenS rfl) fun v43 h => ?_
          refine oe_s hle hd h (k_call (xsS (xr (ne rfl (ne rfl f0))) (xsS rfl xs0))) fun v44 H n h => ?_
          refine o0 ?_
          refine c_seq ?_
          refine c_ops ?_
          refine on_s h (k_ldn (xr (ne rfl (ne rfl f4)))) fun v45 h => ?_
          refine oe_x hle hd h (k_st (xr (ne rfl (ne rfl f2))) rfl) fun v46 H n h => ?_
          refine ov_t (a := (.int .i64 (.ofNat 0) 0)) (k_mv rfl) ?_
          refine o0 ?_
          refine c_ret ?_
          exact fin_no (rsN (ne rfl (ne rfl (ne rfl f2))) (rsT sm rs0)) h
    · refine c_block ?_
      refine c_seq ?_
      refine c_ops ?_
      refine oe_s hle hd h (k_call (xsS (xr sm) xs0)) fun v47 H n h => ?_
      refine ov_t (a := v47) (k_mv rfl) ?_
      refine o0 ?_
      refine c_cond h (xr sm) (fun h => ?_) (fun h => ?_)
      · refine c_ops ?_
        refine oe_s hle hd h (k_call (xsS (xr (ne rfl (ne rfl (ne rfl (ne rfl (ne rfl (ne rfl (ne rfl (ne rfl (ne rfl (ne rfl (ne rfl (ne rfl (ne rfl (ne rfl (ne rfl (ne rfl (ne rfl (ne rfl (ne rfl (ne rfl (ne rfl (ne rfl (ne rfl (ne rfl rfl))))))))))))))))))))))))) (xsS rfl xs0))) fun v48 H n h => ?_
        refine on_s h (k_faddr (xr (ne rfl (ne rfl (ne rfl (ne rfl (ne rfl (ne rfl (ne rfl (ne rfl (ne rfl (ne rfl (ne rfl (ne rfl (ne rfl (ne rfl (ne rfl (ne rfl (ne rfl (ne rfl (ne rfl (ne rfl (ne rfl sm))))))))))))))))))))))) fun v49 h => ?_
        refine oe_x hle hd h (k_st rfl rfl) fun v50 H n h => ?_
        refine on_s h (k_faddr (xr (ne rfl (ne rfl (ne rfl (ne rfl (ne rfl (ne rfl (ne rfl (ne rfl (ne rfl (ne rfl (ne rfl (ne rfl (ne rfl (ne rfl (ne rfl (ne rfl (ne rfl (ne rfl (ne rfl (ne rfl (ne rfl sm))))))))))))))))))))))) fun v51 h => ?_
        refine oe_x hle hd h (k_st rfl rfl) fun v52 H n h => ?_
        refine o0 ?_
        exact j25 _ _ _ ⟨(ne rfl (ne rfl (ne rfl (ne rfl (ne rfl (ne rfl (ne rfl (ne rfl (ne rfl (ne rfl (ne rfl (ne rfl (ne rfl (ne rfl (ne rfl (ne rfl (ne rfl (ne rfl (ne rfl (ne rfl (ne rfl (ne rfl (ne rfl (ne rfl rfl)))))))))))))))))))))))), (ne rfl (ne rfl (ne rfl (ne rfl (ne rfl (ne rfl (ne rfl (ne rfl (ne rfl (ne rfl (ne rfl (ne rfl (ne rfl (ne rfl (ne rfl (ne rfl (ne rfl (ne rfl (ne rfl (ne rfl (ne rfl (ne rfl (ne rfl sm))))))))))))))))))))))), (ne rfl (ne rfl (ne rfl (ne rfl (ne rfl (ne rfl (ne rfl (ne rfl (ne rfl (ne rfl (ne rfl (ne rfl (ne rfl (ne rfl (ne rfl (ne rfl (ne rfl (ne rfl (ne rfl (ne rfl (ne rfl sm))))))))))))))))))))), h⟩
      · refine c_seq ?_
        refine c_ops ?_
        refine oe_s hle hd h (k_call (xsS (xr (ne rfl sm)) xs0)) fun v53 H n h => ?_
        refine ov_t (a := v53) (k_mv rfl) ?_
        refine o0 ?_
        refine c_cond h (xr sm) (fun h => ?_) (fun h => ?_)
        · refine c_seq ?_
          refine c_ops ?_
          refine oe_s hle hd h (k_call (xsS (xr (ne rfl (ne rfl (ne rfl (ne rfl (ne rfl (ne rfl (ne rfl (ne rfl (ne rfl (ne rfl (ne rfl (ne rfl (ne rfl (ne rfl (ne rfl (ne rfl (ne rfl (ne rfl (ne rfl (ne rfl (ne rfl (ne rfl (ne rfl (ne rfl (ne rfl rfl)))))))))))))))))))))))))) (xsS rfl xs0))) fun v54 H n h => ?_
          refine on_s h (k_faddr (xr (ne rfl (ne rfl (ne rfl (ne rfl (ne rfl (ne rfl (ne rfl (ne rfl (ne rfl (ne rfl (ne rfl (ne rfl (ne rfl (ne rfl (ne rfl (ne rfl (ne rfl (ne rfl (ne rfl (ne rfl (ne rfl (ne rfl sm)))))))))))))))))))))))) fun v55 h => ?_
          refine oe_x hle hd h (k_st rfl rfl) fun v56 H n h => ?_
          refine on_s h (k_faddr (xr (ne rfl (ne rfl (ne rfl (ne rfl (ne rfl (ne rfl (ne rfl (ne rfl (ne rfl (ne rfl (ne rfl (ne rfl (ne rfl (ne rfl (ne rfl (ne rfl (ne rfl (ne rfl (ne rfl (ne rfl (ne rfl (ne rfl sm)))))))))))))))))))))))) fun v57 h => ?_
          refine oe_x hle hd h (k_st rfl rfl) fun v58 H n h => ?_
          refine o0 ?_
          refine c_seq ?_
          refine c_ops ?_
          refine on_s h (k_faddr (xr (ne rfl (ne rfl (ne rfl (ne rfl (ne rfl (ne rfl (ne rfl (ne rfl (ne rfl (ne rfl (ne rfl (ne rfl (ne rfl (ne rfl (ne rfl (ne rfl (ne rfl (ne rfl (ne rfl (ne rfl (ne rfl (ne rfl sm)))))))))))))))))))))))) fun v59 h => ?_
          refine on_s h (k_ld1 rfl) fun v60 h => ?_
          refine oe_t hle hd h (k_call (xsS rfl xs0)) fun v61 H n h => ?_
          refine o0 ?_
          refine c_cond h (xr sm) (fun h => ?_) (fun h => ?_)
          · refine c_ops ?_
            refine on_s h (k_faddr (xr (ne rfl (ne rfl (ne rfl (ne rfl (ne rfl (ne rfl (ne rfl (ne rfl (ne rfl (ne rfl (ne rfl (ne rfl (ne rfl (ne rfl (ne rfl (ne rfl (ne rfl (ne rfl (ne rfl (ne rfl (ne rfl (ne rfl (ne rfl sm))))))))))))))))))))))))) fun v62 h => ?_
            refine oe_x hle hd h (k_st rfl rfl) fun v63 H n h => ?_
            refine o0 ?_
            exact j25 _ _ _ ⟨(ne rfl (ne rfl (ne rfl (ne rfl (ne rfl (ne rfl (ne rfl (ne rfl (ne rfl (ne rfl (ne rfl (ne rfl (ne rfl (ne rfl (ne rfl (ne rfl (ne rfl (ne rfl (ne rfl (ne rfl (ne rfl (ne rfl (ne rfl (ne rfl (ne rfl (ne rfl rfl)))))))))))))))))))))))))), (ne rfl (ne rfl (ne rfl (ne rfl (ne rfl (ne rfl (ne rfl (ne rfl (ne rfl (ne rfl (ne rfl (ne rfl (ne rfl (ne rfl (ne rfl (ne rfl (ne rfl (ne rfl (ne rfl (ne rfl (ne rfl (ne rfl (ne rfl (ne rfl (ne rfl sm))))))))))))))))))))))))), (ne rfl (ne rfl (ne rfl (ne rfl (ne rfl (ne rfl (ne rfl (ne rfl (ne rfl (ne rfl (ne rfl (ne rfl (ne rfl (ne rfl (ne rfl (ne rfl (ne rfl (ne rfl (ne rfl (ne rfl (ne rfl (ne rfl (ne rfl sm))))))))))))))))))))))), h⟩
          · refine c_skip ?_
            exact j25 _ _ _ ⟨(ne rfl (ne rfl (ne rfl (ne rfl (ne rfl (ne rfl (ne rfl (ne rfl (ne rfl (ne rfl (ne rfl (ne rfl (ne rfl (ne rfl (ne rfl (ne rfl (ne rfl (ne rfl (ne rfl (ne rfl (ne rfl (ne rfl (ne rfl (ne rfl (ne rfl (ne rfl rfl)))))))))))))))))))))))))), (ne rfl (ne rfl (ne rfl (ne rfl (ne rfl (ne rfl (ne rfl (ne rfl (ne rfl (ne rfl (ne rfl (ne rfl (ne rfl (ne rfl (ne rfl (ne rfl (ne rfl (ne rfl (ne rfl (ne rfl (ne rfl (ne rfl (ne rfl (ne rfl (ne rfl sm))))))))))))))))))))))))), (ne rfl (ne rfl (ne rfl (ne rfl (ne rfl (ne rfl (ne rfl (ne rfl (ne rfl (ne rfl (ne rfl (ne rfl (ne rfl (ne rfl (ne rfl (ne rfl (ne rfl (ne rfl (ne rfl (ne rfl (ne rfl (ne rfl (ne rfl sm))))))))))))))))))))))), h⟩
        · refine c_seq ?_
          refine c_ops ?_
          refine oe_s hle hd h (k_call (xsS (xr (ne rfl (ne rfl sm))) xs0)) fun v64 H n h => ?_
          refine ov_t (a := v64) (k_mv rfl) ?_
          refine o0 ?_
          refine c_cond h (xr sm) (fun h => ?_) (fun h => ?_)
          · refine c_seq ?_
            refine c_ops ?_
            refine oe_s hle hd h (k_call (xsS (xr (ne rfl (ne rfl (ne rfl (ne rfl (ne rfl (ne rfl (ne rfl (ne rfl (ne rfl (ne rfl (ne rfl (ne rfl (ne rfl (ne rfl (ne rfl (ne rfl (ne rfl (ne rfl (ne rfl (ne rfl (ne rfl (ne rfl (ne rfl (ne rfl (ne rfl (ne rfl rfl))))))))))))))))))))))))))) (xsS rfl xs0))) fun v65 H n h => ?_
            refine on_s h (k_faddr (xr (ne rfl (ne rfl (ne rfl (ne rfl (ne rfl (ne rfl (ne rfl (ne rfl (ne rfl (ne rfl (ne rfl (ne rfl (ne rfl (ne rfl (ne rfl (ne rfl (ne rfl (ne rfl (ne rfl (ne rfl (ne rfl (ne rfl (ne rfl sm))))))))))))))))))))))))) fun v66 h => ?_
            refine oe_x hle hd h (k_st rfl rfl) fun v67 H n h => ?_
            refine on_s h (k_faddr (xr (ne rfl (ne rfl (ne rfl (ne rfl (ne rfl (ne rfl (ne rfl (ne rfl (ne rfl (ne rfl (ne rfl (ne rfl (ne rfl (ne rfl (ne rfl (ne rfl (ne rfl (ne rfl (ne rfl (ne rfl (ne rfl (ne rfl (ne rfl sm))))))))))))))))))))))))) fun v68 h => ?_
            refine oe_x hle hd h (k_st rfl rfl) fun v69 H n h => ?_
            refine o0 ?_
            refine c_seq ?_
            refine c_ops ?_
            refine ov_t (a := (.bool false)) (k_mv rfl) ?_
            refine o0 ?_
            refine c_seq ?_
            refine c_ops ?_
            refine on_s h (k_faddr (xr (ne rfl (ne rfl (ne rfl (ne rfl (ne rfl (ne rfl (ne rfl (ne rfl (ne rfl (ne rfl (ne rfl (ne rfl (ne rfl (ne rfl (ne rfl (ne rfl (ne rfl (ne rfl (ne rfl (ne rfl (ne rfl (ne rfl (ne rfl (ne rfl sm)))))))))))))))))))))))))) fun v70 h => ?_
            refine on_s h (k_ld1 rfl) fun v71 h => ?_
            refine oe_s hle hd h (k_call (xsS rfl xs0)) fun v72 H n h => ?_
            refine on_s h (k_ext rfl) fun v73 h => ?_
            refine on_s h (k_ext rfl) fun v74 h => ?_
            refine on_s h (k_faddr (xr (ne rfl (ne rfl (ne rfl (ne rfl (ne rfl (ne rfl (ne rfl (ne rfl (ne rfl (ne rfl (ne rfl (ne rfl (ne rfl (ne rfl (ne rfl (ne rfl (ne rfl (ne rfl (ne rfl (ne rfl (ne rfl (ne rfl (ne rfl (ne rfl sm)))))))))))))))))))))))))) fun v75 h => ?_
            refine oe_x hle hd h (k_st rfl rfl) fun v76 H n h => ?_
            refine ov_t (a := v74) (k_mv rfl) ?_
            refine o0 ?_
            refine c_seq ?_
            refine c_ops ?_
            refine on_t h (k_not (xr sm)) fun v77 h => ?_
            refine o0 ?_
            refine c_cond h (xr sm) (fun h => ?_) (fun h => ?_)
            · refine c_seq ?_
              refine c_ops ?_
              refine on_s h (k_build ps0) fun v78 h => ?_
              refine oe_x hle hd h (k_st (xr (ne rfl (ne rfl (ne rfl (ne rfl (ne rfl (ne rfl (ne rfl (ne rfl (ne rfl (ne rfl (ne rfl (ne rfl (ne rfl (ne rfl (ne rfl (ne rfl (ne rfl (ne rfl (ne rfl (ne rfl (ne rfl (ne rfl (ne rfl (ne rfl (ne rfl (ne rfl (ne rfl (ne rfl sm))))))))))))))))))))))))))))) rfl) fun v79 H n h => ?_
              refine ov_t (a := (.int .i64 (.ofNat 22) 0)) (k_mv rfl) ?_
              refine o0 ?_
              refine c_ret ?_
              exact fin_no (rsN (ne rfl (ne rfl (ne rfl (ne rfl (ne rfl (ne rfl (ne rfl (ne rfl (ne rfl (ne rfl (ne rfl (ne rfl (ne rfl (ne rfl (ne rfl (ne rfl (ne rfl (ne rfl (ne rfl (ne rfl (ne rfl (ne rfl (ne rfl (ne rfl (ne rfl (ne rfl (ne rfl (ne rfl (ne rfl sm))))))))))))))))))))))))))))) (rsT sm rs0)) h
            · refine c_skip ?_
              exact j25 _ _ _ ⟨(ne rfl (ne rfl (ne rfl (ne rfl (ne rfl (ne rfl (ne rfl (ne rfl (ne rfl (ne rfl (ne rfl (ne rfl (ne rfl (ne rfl (ne rfl (ne rfl (ne rfl (ne rfl (ne rfl (ne rfl (ne rfl (ne rfl (ne rfl (ne rfl (ne rfl (ne rfl (ne rfl (ne rfl (ne rfl rfl))))))))))))))))))))))))))))), (ne rfl (ne rfl (ne rfl (ne rfl (ne rfl (ne rfl (ne rfl (ne rfl (ne rfl (ne rfl (ne rfl (ne rfl (ne rfl (ne rfl (ne rfl (ne rfl (ne rfl (ne rfl (ne rfl (ne rfl (ne rfl (ne rfl (ne rfl (ne rfl (ne rfl (ne rfl (ne rfl (ne rfl sm)))))))))))))))))))))))))))), (ne rfl (ne rfl (ne rfl (ne rfl (ne rfl (ne rfl (ne rfl (ne rfl (ne rfl (ne rfl (ne rfl (ne rfl (ne rfl (ne rfl (ne rfl (ne rfl (ne rfl (ne rfl (ne rfl (ne rfl (ne rfl (ne rfl (ne rfl (ne rfl (ne rfl (ne rfl sm)))))))))))))))))))))))))), h⟩
          · refine c_seq ?_
            refine c_ops ?_
            refine on_t h (k_ldn rfl) fun v80 h => ?_
            refine ov_t (a := (.int .i64 (.ofNat 0) 0)) (k_mv rfl) ?_
            refine o0 ?_
            refine c_block ?_
            refine c_loop hL (fun s R H n => rg R q35 = s.1 ∧ rg R q0 = a0 ∧ rg R q2 = v1 ∧ rg R q4 = v6 ∧ rg R q34 = v80 ∧ H = s.2.1 ∧ n = s.2.2) h ⟨sm, (ne rfl (ne rfl (ne rfl (ne rfl (ne rfl (ne rfl (ne rfl (ne rfl (ne rfl (ne rfl (ne rfl (ne rfl (ne rfl (ne rfl (ne rfl (ne rfl (ne rfl (ne rfl (ne rfl (ne rfl (ne rfl (ne rfl (ne rfl (ne rfl (ne rfl (ne rfl (ne rfl (ne rfl rfl)))))))))))))))))))))))))))), (ne rfl (ne rfl (ne rfl (ne rfl (ne rfl (ne rfl (ne rfl (ne rfl (ne rfl (ne rfl (ne rfl (ne rfl (ne rfl (ne rfl (ne rfl (ne rfl (ne rfl (ne rfl (ne rfl (ne rfl (ne rfl (ne rfl (ne rfl (ne rfl (ne rfl (ne rfl (ne rfl sm))))))))))))))))))))))))))), (ne rfl (ne rfl (ne rfl (ne rfl (ne rfl (ne rfl (ne rfl (ne rfl (ne rfl (ne rfl (ne rfl (ne rfl (ne rfl (ne rfl (ne rfl (ne rfl (ne rfl (ne rfl (ne rfl (ne rfl (ne rfl (ne rfl (ne rfl (ne rfl (ne rfl sm))))))))))))))))))))))))), (ne rfl sm), rfl, rfl⟩ ?_
            rintro ih81 I81 hI81 ⟨a35_l81, H, n⟩ R H0 n0 ⟨f35, f0, f2, f4, f34, eH, eN⟩ h
            replace h : s_lex_lexer_next_l81 lp G call k a0 v1 v6 v80 ih81 a35_l81 H n := h
            obtain rfl : H0 = H := eH
            obtain rfl : n0 = n := eN
            delta s_lex_lexer_next_l81 at h
            refine c_seq ?_
            refine c_ops ?_
            refine on_t h (k_bin (xr f35) rfl) fun v82 h => ?_
            refine o0 ?_
            refine c_seq ?_
            refine c_cond h (xr sm) (fun h => ?_) (fun h => ?_)
            · refine c_skip ?_
              refine c_seq ?_
              refine c_block ?_
              refine c_seq ?_
              refine c_ops ?_
              refine on_s h (k_idxA (xr (ne rfl f34)) (xr (ne rfl f35))) fun v83 h => ?_
              refine ov_t (a := v83) (k_mv rfl) ?_
              refine o0 ?_
              refine c_seq ?_
              refine c_reg ?_
              refine iv_t (a := a0) (k_mv (xr (ne rfl (ne rfl f0)))) ?_
              refine in_t h (k_nilck (xr sm)) fun v84 h => ?_
              refine in_t h (k_faddr (xr sm)) fun v85 h => ?_
              refine in_t h (k_ld1 (xr sm)) fun v86 h => ?_
              refine iv_t (a := a0) (k_mv (xr (ne rfl (ne rfl (ne rfl (ne rfl (ne rfl (ne rfl f0)))))))) ?_
              refine in_t h (k_nilck (xr sm)) fun v87 h => ?_
              refine in_t h (k_faddr (xr sm)) fun v88 h => ?_
              refine in_t h (k_ld1 (xr sm)) fun v89 h => ?_
              refine in_t h (k_slcS (xr (ne rfl (ne rfl (ne rfl (ne rfl sm))))) (oxS (xr sm)) ox0) fun v90 h => ?_
              refine iv_t (a := v83) (k_mv (xr (ne rfl (ne rfl (ne rfl (ne rfl (ne rfl (ne rfl (ne rfl (ne rfl (ne rfl sm))))))))))) ?_
              refine ie_t hle hd h (k_call (xsS (xr (ne rfl sm)) (xsS (xr sm) xs0))) fun v91 H n h => ?_
              refine i0 ?_
              refine c_cond h (xr sm) (fun h => ?_) (fun h => ?_)
              · refine c_seq ?_
                refine c_ops ?_
                refine on_s h (k_faddr (xr (ne rfl (ne rfl (ne rfl (ne rfl (ne rfl (ne rfl (ne rfl (ne rfl (ne rfl (ne rfl (ne rfl (ne rfl (ne rfl f4))))))))))))))) fun v92 h => ?_
                refine oe_x hle hd h (k_st rfl rfl) fun v93 H n h => ?_
                refine on_s h (k_faddr (xr (ne rfl (ne rfl (ne rfl (ne rfl (ne rfl (ne rfl (ne rfl (ne rfl (ne rfl (ne rfl (ne rfl (ne rfl (ne rfl f4))))))))))))))) fun v94 h => ?_
                refine oe_x hle hd h (k_st rfl (xr (ne rfl (ne rfl (ne rfl (ne rfl (ne rfl (ne rfl (ne rfl (ne rfl (ne rfl (ne rfl (ne rfl sm))))))))))))) fun v95 H n h => ?_
                refine o0 ?_
                refine c_exit ?_
                refine bx_up rfl ?_
                refine bx_same ?_
                exact j25 _ _ _ ⟨(ne rfl (ne rfl (ne rfl (ne rfl (ne rfl (ne rfl (ne rfl (ne rfl (ne rfl (ne rfl (ne rfl (ne rfl (ne rfl f0))))))))))))), (ne rfl (ne rfl (ne rfl (ne rfl (ne rfl (ne rfl (ne rfl (ne rfl (ne rfl (ne rfl (ne rfl (ne rfl (ne rfl f2))))))))))))), (ne rfl (ne rfl (ne rfl (ne rfl (ne rfl (ne rfl (ne rfl (ne rfl (ne rfl (ne rfl (ne rfl (ne rfl (ne rfl f4))))))))))))), h⟩
              · refine c_skip ?_
                refine c_ops ?_
                refine on_s h (k_bin (xr (ne rfl (ne rfl (ne rfl (ne rfl (ne rfl (ne rfl (ne rfl (ne rfl (ne rfl (ne rfl (ne rfl (ne rfl (ne rfl f35)))))))))))))) rfl) fun v96 h => ?_
                refine ov_t (a := v96) (k_mv rfl) ?_
                refine o0 ?_
                exact hI81 (v96, H, n) _ _ _ ⟨sm, (ne rfl (ne rfl (ne rfl (ne rfl (ne rfl (ne rfl (ne rfl (ne rfl (ne rfl (ne rfl (ne rfl (ne rfl (ne rfl (ne rfl f0)))))))))))))), (ne rfl (ne rfl (ne rfl (ne rfl (ne rfl (ne rfl (ne rfl (ne rfl (ne rfl (ne rfl (ne rfl (ne rfl (ne rfl (ne rfl f2)))))))))))))), (ne rfl (ne rfl (ne rfl (ne rfl (ne rfl (ne rfl (ne rfl (ne rfl (ne rfl (ne rfl (ne rfl (ne rfl (ne rfl (ne rfl f4)))))))))))))), (ne rfl (ne rfl (ne rfl (ne rfl (ne rfl (ne rfl (ne rfl (ne rfl (ne rfl (ne rfl (ne rfl (ne rfl (ne rfl (ne rfl f34)))))))))))))), rfl, rfl⟩ h
            · refine c_exit ?_
              refine bx_same ?_
              exact j25 _ _ _ ⟨(ne rfl f0), (ne rfl f2), (ne rfl f4), h⟩
theorem si_parse_parser_want {lp : LpT} (hL : LpOk lp) (G : Roms) : SfOk G af_parse_parser_want (ar2 (s_parse_parser_want lp G)) := by
  intro call callE hle hd
  refine fun l H n k h0 => ?_
  obtain ⟨a0, a1, rfl, h⟩ := ar2_inv h0
  clear h0
  delta s_parse_parser_want at h
  refine f_intro rfl ?_
  refine c_seq ?_
  refine c_ops ?_
  refine ov_t (a := a1) (k_mv (xr rfl)) ?_
  refine on_t h (k_lenL (xr sm)) fun v1 h => ?_
  refine ov_t (a := (.int .i64 (.ofNat 0) 0)) (k_mv rfl) ?_
  refine o0 ?_
  refine c_block ?_
  refine c_loop hL (fun s R H n => rg R q8 = s.1 ∧ rg R q0 = a0 ∧ rg R q6 = a1 ∧ rg R q7 = v1 ∧ H = s.2.1 ∧ n = s.2.2) h ⟨sm, (ne rfl (ne rfl (ne rfl rfl))), (ne rfl (ne rfl sm)), (ne rfl sm), rfl, rfl⟩ ?_
  rintro ih2 I2 hI2 ⟨a8_l2, H, n⟩ R H0 n0 ⟨f8, f0, f6, f7, eH, eN⟩ h
  replace h : s_parse_parser_want_l2 lp G call k a0 a1 v1 ih2 a8_l2 H n := h
  obtain rfl : H0 = H := eH
  obtain rfl : n0 = n := eN
  delta s_parse_parser_want_l2 at h
  refine c_seq ?_
  refine c_ops ?_
  refine on_t h (k_bin (xr f8) (xr f7)) fun v3 h => ?_
  refine o0 ?_
  refine c_seq ?_
  refine c_cond h (xr sm) (fun h => ?_) (fun h => ?_)
  · refine c_skip ?_
    refine c_seqj (fun R H n => rg R q0 = a0 ∧ rg R q6 = a1 ∧ rg R q7 = v1 ∧ rg R q8 = a8_l2 ∧ s_parse_parser_want_j4 lp G call k ih2 a0 a1 a8_l2 v1 H n) ?_ fun j4 => ?_
    · rintro R H n ⟨f0, f6, f7, f8, h⟩
      delta s_parse_parser_want_j4 at h
      refine c_ops ?_
      refine on_s h (k_bin (xr f8) rfl) fun v5 h => ?_
      refine ov_t (a := v5) (k_mv rfl) ?_
      refine o0 ?_
      exact hI2 (v5, H, n) _ _ _ ⟨sm, (ne rfl f0), (ne rfl f6), (ne rfl f7), rfl, rfl⟩ h
    · refine c_block ?_
      refine c_seq ?_
      refine c_ops ?_
      refine on_s h (k_iaddr (xr (ne rfl f6)) (xr (ne rfl f8))) fun v6 h => ?_
      refine on_s h (k_ld1 rfl) fun v7 h => ?_
      refine ov_t (a := v7) (k_mv rfl) ?_
      refine o0 ?_
      refine c_seq ?_
      refine c_ops ?_
      refine oe_s hle hd h (k_call (xsS (xr (ne rfl (ne rfl f0))) (xsS (xr sm) xs0))) fun v8 H n h => ?_
      refine on_t h (k_not rfl) fun v9 h => ?_
      refine o0 ?_
      refine c_cond h (xr sm) (fun h => ?_) (fun h => ?_)
      · refine c_ops ?_
        refine oe_s hle hd h (k_call (xsS (xr (ne rfl (ne rfl (ne rfl f0)))) (xsS rfl xs0))) fun v10 H n h => ?_
        refine o0 ?_
        exact j4 _ _ _ ⟨(ne rfl (ne rfl (ne rfl f0))), (ne rfl (ne rfl (ne rfl f6))), (ne rfl (ne rfl (ne rfl f7))), (ne rfl (ne rfl (ne rfl f8))), h⟩
      · refine c_skip ?_
        exact j4 _ _ _ ⟨(ne rfl (ne rfl (ne rfl f0))), (ne rfl (ne rfl (ne rfl f6))), (ne rfl (ne rfl (ne rfl f7))), (ne rfl (ne rfl (ne rfl f8))), h⟩
  · refine c_exit ?_
    refine bx_same ?_
    exact fin_no rs0 h
theorem si_parse_parser_name {lp : LpT} (hL : LpOk lp) (G : Roms) : SfOk G af_parse_parser_name (ar2 (s_parse_parser_name lp G)) := by
  intro call callE hle hd
  refine fun l H n k h0 => ?_
  obtain ⟨a0, a1, rfl, h⟩ := ar2_inv h0
  clear h0
  delta s_parse_parser_name at h
  refine f_intro rfl ?_
  refine c_seq ?_
  refine c_ops ?_
  refine ov_t (a := (.str 0 0)) (k_mv rfl) ?_
  refine o0 ?_
  refine c_seq ?_
  refine c_seq ?_
  refine c_ops ?_
  refine oe_s hle hd h (k_call (xsS (xr (ne rfl rfl)) xs0)) fun v1 H n h => ?_
  refine on_s h (k_not rfl) fun v2 h => ?_
  refine ogn_s h rfl (k_mv (xr (ne rfl rfl))) fun v3 h => ?_
  refine ogn_s h rfl (k_nilck rfl) fun v4 h => ?_
  refine ogn_s h rfl (k_faddr rfl) fun v5 h => ?_
  refine ogn_s h rfl (k_ld1 rfl) fun v6 h => ?_
  refine ogn_s h rfl (k_iaddr rfl rfl) fun v7 h => ?_
  refine ogn_s h rfl (k_faddr rfl) fun v8 h => ?_
  refine ogn_s h rfl (k_ld1 rfl) fun v9 h => ?_
  refine ogn_s h rfl (k_mv (xr (ne rfl rfl))) fun v10 h => ?_
  refine ogn_s h rfl (k_eq rfl rfl) fun v11 h => ?_
  refine on_t h (k_pick rfl rfl rfl) fun v12 h => ?_
  refine o0 ?_
  refine c_cond h (xr sm) (fun h => ?_) (fun h => ?_)
  · refine c_seq ?_
    refine c_ops ?_
    refine oe_s hle hd h (k_call (xsS (xr (ne rfl (ne rfl rfl))) (xsS rfl xs0))) fun v13 H n h => ?_
    refine o0 ?_
    refine c_seq ?_
    refine c_ops ?_
    refine ov_t (a := (.str 0 0)) (k_mv rfl) ?_
    refine o0 ?_
    refine c_ret ?_
    exact fin_no (rsT sm rs0) h
  · refine c_skip ?_
    refine c_seq ?_
    refine c_ops ?_
    refine oe_s hle hd h (k_call (xsS (xr (ne rfl (ne rfl rfl))) xs0)) fun v14 H n h => ?_
    refine on_s h (k_field1 rfl) fun v15 h => ?_
    refine ov_t (a := v15) (k_mv rfl) ?_
    refine o0 ?_
    refine c_ret ?_
    exact fin_no (rsT sm rs0) h
theorem si_parse_parser_take {lp : LpT} (hL : LpOk lp) (G : Roms) : SfOk G af_parse_parser_take (ar2 (s_parse_parser_take lp G)) := by
  intro call callE hle hd
  refine fun l H n k h0 => ?_
  obtain ⟨a0, a1, rfl, h⟩ := ar2_inv h0
  clear h0
  delta s_parse_parser_take at h
  refine f_intro rfl ?_
  refine c_seq ?_
  refine c_ops ?_
  refine ov_t (a := (.bool false)) (k_mv rfl) ?_
  refine o0 ?_
  refine c_seq ?_
  refine c_seq ?_
  refine c_ops ?_
  refine oa_s h (k_bslice (pbS (xr (ne rfl rfl)) pb0)) fun v1 H n h => ?_
  refine oe_s hle hd h (k_call (xsS (xr (ne rfl rfl)) (xsS rfl xs0))) fun v2 H n h => ?_
  refine on_t h (k_not rfl) fun v3 h => ?_
  refine o0 ?_
  refine c_cond h (xr sm) (fun h => ?_) (fun h => ?_)
  · refine c_seq ?_
    refine c_ops ?_
    refine ov_t (a := (.bool false)) (k_mv rfl) ?_
    refine o0 ?_
    refine c_ret ?_
    exact fin_no (rsT sm rs0) h
  · refine c_skip ?_
    refine c_seq ?_
    refine c_ops ?_
    refine oe_s hle hd h (k_call (xsS (xr (ne rfl (ne rfl rfl))) xs0)) fun v4 H n h => ?_
    refine o0 ?_
    refine c_seq ?_
    refine c_ops ?_
    refine ov_t (a := (.bool true)) (k_mv rfl) ?_
    refine o0 ?_
    refine c_ret ?_
    exact fin_no (rsT sm rs0) h
theorem si_parse_parser_typ {lp : LpT} (hL : LpOk lp) (G : Roms) : SfOk G af_parse_parser_typ (ar1 (s_parse_parser_typ lp G)) := by
  intro call callE hle hd
  refine fun l H n k h0 => ?_
  obtain ⟨a0, rfl, h⟩ := ar1_inv h0
  clear h0
  delta s_parse_parser_typ at h
  refine f_intro rfl ?_
  refine c_seq ?_
  refine c_ops ?_
  refine oa_t h k_alloc fun v1 H n h => ?_
  refine o0 ?_
  refine c_seq ?_
  refine c_ops ?_
  refine oe_s hle hd h (k_call (xsS (xr (ne rfl rfl)) xs0)) fun v2 H n h => ?_
  refine oa_t h k_alloc fun v3 H n h => ?_
  refine oe_x hle hd h (k_st (xr sm) rfl) fun v4 H n h => ?_
  refine o0 ?_
  refine c_seqj (fun R H n => rg R q2 = v1 ∧ rg R q3 = v3 ∧ s_parse_parser_typ_j5 lp G call k v1 v3 H n) ?_ fun j5 => ?_
  · rintro R H n ⟨f2, f3, h⟩
    delta s_parse_parser_typ_j5 at h
    refine c_seq ?_
    refine c_ops ?_
    refine on_s h (k_ldn (xr f3)) fun v6 h => ?_
    refine oe_x hle hd h (k_st (xr f2) rfl) fun v7 H n h => ?_
    refine o0 ?_
    refine c_ret ?_
    exact fin_no (rsN f2 rs0) h
  · refine c_seq ?_
    refine c_ops ?_
    refine oe_t hle hd h (k_call (xsS (xr (ne rfl (ne rfl rfl))) (xsS rfl xs0))) fun v8 H n h => ?_
    refine o0 ?_
    refine c_cond h (xr sm) (fun h => ?_) (fun h => ?_)
    · refine c_seq ?_
      refine c_ops ?_
      refine oa_s h (k_bslice (pbS rfl pb0)) fun v9 H n h => ?_
      refine oe_s hle hd h (k_call (xsS (xr (ne rfl (ne rfl (ne rfl rfl)))) (xsS rfl xs0))) fun v10 H n h => ?_
      refine o0 ?_
      refine c_ops ?_
      refine on_s h (k_faddr (xr (ne rfl sm))) fun v11 h => ?_
      refine oe_x hle hd h (k_st rfl rfl) fun v12 H n h => ?_
      refine o0 ?_
      exact j5 _ _ _ ⟨(ne rfl (ne rfl sm)), (ne rfl sm), h⟩
    · refine c_skip ?_
      exact j5 _ _ _ ⟨(ne rfl (ne rfl sm)), (ne rfl sm), h⟩
theorem si_parse_parser_many {lp : LpT} (hL : LpOk lp) (G : Roms) : SfOk G af_parse_parser_many (ar2 (s_parse_parser_many lp G)) := by
  intro call callE hle hd
  refine fun l H n k h0 => ?_
  obtain ⟨a0, a1, rfl, h⟩ := ar2_inv h0
  clear h0
  delta s_parse_parser_many at h
  refine f_intro rfl ?_
  refine c_seq ?_
  refine c_ops ?_
  refine on_t h (k_bin (xr rfl) rfl) fun v1 h => ?_
  refine o0 ?_
  refine c_cond h (xr sm) (fun h => ?_) (fun h => ?_)
  · refine c_ops ?_
    refine oe_s hle hd h (k_call (xsS (xr (ne rfl rfl)) (xsS rfl xs0))) fun v2 H n h => ?_
    refine o0 ?_
    exact fin_no rs0 h
  · refine c_skip ?_
    exact fin_no rs0 h
theorem si_parse_parser_is {lp : LpT} (hL : LpOk lp) (G : Roms) : SfOk G af_parse_parser_is (ar2 (s_parse_parser_is lp G)) := by
  intro call callE hle hd
  refine fun l H n k h0 => ?_
  obtain ⟨a0, a1, rfl, h⟩ := ar2_inv h0
  clear h0
  delta s_parse_parser_is at h
  refine f_intro rfl ?_
  refine c_seq ?_
  refine c_ops ?_
  refine ov_t (a := (.bool false)) (k_mv rfl) ?_
  refine o0 ?_
  refine c_seqj (fun R H n => s_parse_parser_is_j1 lp G call k H n) ?_ fun j1 => ?_
  · intro R H n h
    delta s_parse_parser_is_j1 at h
    refine c_seq ?_
    refine c_ops ?_
    refine ov_t (a := (.bool false)) (k_mv rfl) ?_
    refine o0 ?_
    refine c_ret ?_
    exact fin_no (rsT sm rs0) h
  · refine c_seq ?_
    refine c_ops ?_
    refine ov_t (a := a1) (k_mv (xr (ne rfl rfl))) ?_
    refine on_t h (k_lenL (xr sm)) fun v2 h => ?_
    refine ov_t (a := (.int .i64 (.ofNat 0) 0)) (k_mv rfl) ?_
    refine o0 ?_
    refine c_block ?_
    refine c_loop hL (fun s R H n => rg R q9 = s.1 ∧ rg R q0 = a0 ∧ rg R q7 = a1 ∧ rg R q8 = v2 ∧ H = s.2.1 ∧ n = s.2.2) h ⟨sm, (ne rfl (ne rfl (ne rfl (ne rfl rfl)))), (ne rfl (ne rfl sm)), (ne rfl sm), rfl, rfl⟩ ?_
    rintro ih3 I3 hI3 ⟨a9_l3, H, n⟩ R H0 n0 ⟨f9, f0, f7, f8, eH, eN⟩ h
    replace h : s_parse_parser_is_l3 lp G call k a0 a1 v2 ih3 a9_l3 H n := h
    obtain rfl : H0 = H := eH
    obtain rfl : n0 = n := eN
    delta s_parse_parser_is_l3 at h
    refine c_seq ?_
    refine c_ops ?_
    refine on_t h (k_bin (xr f9) (xr f8)) fun v4 h => ?_
    refine o0 ?_
    refine c_seq ?_
    refine c_cond h (xr sm) (fun h => ?_) (fun h => ?_)
    · refine c_skip ?_
      refine c_seq ?_
      refine c_block ?_
      refine c_seq ?_
      refine c_ops ?_
      refine on_s h (k_iaddr (xr (ne rfl f7)) (xr (ne rfl f9))) fun v5 h => ?_
      refine on_s h (k_ld1 rfl) fun v6 h => ?_
      refine ov_t (a := v6) (k_mv rfl) ?_
      refine o0 ?_
      refine c_seq ?_
      refine c_ops ?_
      refine oe_s hle hd h (k_call (xsS (xr (ne rfl (ne rfl f0))) xs0)) fun v7 H n h => ?_
      refine ogn_s h rfl (k_mv (xr (ne rfl (ne rfl f0)))) fun v8 h => ?_
      refine ogn_s h rfl (k_nilck rfl) fun v9 h => ?_
      refine ogn_s h rfl (k_faddr rfl) fun v10 h => ?_
      refine ogn_s h rfl (k_ld1 rfl) fun v11 h => ?_
      refine ogn_s h rfl (k_iaddr rfl rfl) fun v12 h => ?_
      refine ogn_s h rfl (k_faddr rfl) fun v13 h => ?_
      refine ogn_s h rfl (k_ld1 rfl) fun v14 h => ?_
      refine ogn_s h rfl (k_eq rfl rfl) fun v15 h => ?_
      refine ogn_s h rfl (k_mv rfl) fun v16 h => ?_
      refine ogn_s h rfl (k_mv (xr (ne rfl (ne rfl f0)))) fun v17 h => ?_
      refine ogn_s h rfl (k_nilck rfl) fun v18 h => ?_
      refine ogn_s h rfl (k_faddr rfl) fun v19 h => ?_
      refine ogn_s h rfl (k_ld1 rfl) fun v20 h => ?_
      refine ogn_s h rfl (k_iaddr rfl rfl) fun v21 h => ?_
      refine ogn_s h rfl (k_faddr rfl) fun v22 h => ?_
      refine ogn_s h rfl (k_ld1 rfl) fun v23 h => ?_
      refine ogn_s h rfl (k_eq rfl rfl) fun v24 h => ?_
      refine ogn_s h rfl (k_pick rfl rfl rfl) fun v25 h => ?_
      refine on_s h (k_pick rfl rfl rfl) fun v26 h => ?_
      refine ogn_s h rfl (k_mv (xr (ne rfl (ne rfl f0)))) fun v27 h => ?_
      refine ogn_s h rfl (k_nilck rfl) fun v28 h => ?_
      refine ogn_s h rfl (k_faddr rfl) fun v29 h => ?_
      refine ogn_s h rfl (k_ld1 rfl) fun v30 h => ?_
      refine ogn_s h rfl (k_iaddr rfl rfl) fun v31 h => ?_
      refine ogn_s h rfl (k_faddr rfl) fun v32 h => ?_
      refine ogn_s h rfl (k_ld1 rfl) fun v33 h => ?_
      refine ogn_s h rfl (k_mv (xr sm)) fun v34 h => ?_
      refine ogn_s h rfl (k_eq rfl rfl) fun v35 h => ?_
      refine on_t h (k_pick rfl rfl rfl) fun v36 h => ?_
      refine o0 ?_
      refine c_cond h (xr sm) (fun h => ?_) (fun h => ?_)
      · refine c_seq ?_
        refine c_ops ?_
        refine ov_t (a := (.bool true)) (k_mv rfl) ?_
        refine o0 ?_
        refine c_ret ?_
        exact fin_no (rsT sm rs0) h
      · refine c_skip ?_
        refine c_ops ?_
        refine on_s h (k_bin (xr (ne rfl (ne rfl (ne rfl f9)))) rfl) fun v37 h => ?_
        refine ov_t (a := v37) (k_mv rfl) ?_
        refine o0 ?_
        exact hI3 (v37, H, n) _ _ _ ⟨sm, (ne rfl (ne rfl (ne rfl (ne rfl f0)))), (ne rfl (ne rfl (ne rfl (ne rfl f7)))), (ne rfl (ne rfl (ne rfl (ne rfl f8)))), rfl, rfl⟩ h
    · refine c_exit ?_
      refine bx_same ?_
      exact j1 _ _ _ h
theorem si_parse_parser_method {lp : LpT} (hL : LpOk lp) (G : Roms) : SfOk G af_parse_parser_method (ar1 (s_parse_parser_method lp G)) := by
  intro call callE hle hd
  refine fun l H n k h0 => ?_
  obtain ⟨a0, rfl, h⟩ := ar1_inv h0
  clear h0
  delta s_parse_parser_method at h
  refine f_intro rfl ?_
  refine c_seq ?_
  refine c_ops ?_
  refine oa_t h k_alloc fun v1 H n h => ?_
  refine o0 ?_
  refine c_seq ?_
  refine c_ops ?_
  refine on_s h (k_nilck (xr (ne rfl rfl))) fun v2 h => ?_
  refine on_s h (k_faddr rfl) fun v3 h => ?_
  refine on_s h (k_ld1 rfl) fun v4 h => ?_
  refine on_s h (k_iaddr rfl rfl) fun v5 h => ?_
  refine on_s h (k_faddr rfl) fun v6 h => ?_
  refine on_s h (k_ldn rfl) fun v7 h => ?_
  refine oa_t h k_alloc fun v8 H n h => ?_
  refine oe_x hle hd h (k_st (xr sm) rfl) fun v9 H n h => ?_
  refine o0 ?_
  refine c_seq ?_
  refine c_reg ?_
  refine in_t h (k_ldn (xr sm)) fun v10 h => ?_
  refine iv_t (a := a0) (k_mv (xr (ne rfl (ne rfl (ne rfl rfl))))) ?_
  refine ia_t h k_alloc fun v11 H n h => ?_
  refine ie_t hle hd h (k_call (xsS (xr (ne rfl sm)) (xsS rfl xs0))) fun v12 H n h => ?_
  refine ire h (ne rfl (ne rfl (ne rfl sm))) (k_ldn (xr (ne rfl (ne rfl (ne rfl (ne rfl sm)))))) fun h => ?_
  refine in_t h (k_build (psS (xr (ne rfl (ne rfl (ne rfl sm)))) (psS (xr sm) ps0))) fun v13 h => ?_
  refine ie_x hle hd h (k_st (xr (ne rfl (ne rfl sm))) (xr sm)) fun v14 H n h => ?_
  refine i0 ?_
  refine c_seq ?_
  refine c_ops ?_
  refine oa_s h (k_bslice (pbS rfl pb0)) fun v15 H n h => ?_
  refine oe_s hle hd h (k_call (xsS (xr (ne rfl (ne rfl (ne rfl (ne rfl (ne rfl (ne rfl (ne rfl rfl)))))))) (xsS rfl xs0))) fun v16 H n h => ?_
  refine o0 ?_
  refine c_seq ?_
  refine c_ops ?_
  refine oe_s hle hd h (k_call (xsS (xr (ne rfl (ne rfl (ne rfl (ne rfl (ne rfl (ne rfl (ne rfl rfl)))))))) xs0)) fun v17 H n h => ?_
  refine on_s h (k_faddr (xr (ne rfl (ne rfl sm)))) fun v18 h => ?_
  refine oe_x hle hd h (k_st rfl rfl) fun v19 H n h => ?_
  refine o0 ?_
  refine c_seq ?_
  refine c_ops ?_
  refine oe_s hle hd h (k_call (xsS (xr (ne rfl (ne rfl (ne rfl (ne rfl (ne rfl (ne rfl (ne rfl rfl)))))))) (xsS rfl xs0))) fun v20 H n h => ?_
  refine on_s h (k_faddr (xr (ne rfl (ne rfl sm)))) fun v21 h => ?_
  refine oe_x hle hd h (k_st rfl rfl) fun v22 H n h => ?_
  refine o0 ?_
  refine c_seq ?_
  refine c_ops ?_
  refine oa_s h (k_bslice (pbS rfl pb0)) fun v23 H n h => ?_
  refine oe_s hle hd h (k_call (xsS (xr (ne rfl (ne rfl (ne rfl (ne rfl (ne rfl (ne rfl (ne rfl rfl)))))))) (xsS rfl xs0))) fun v24 H n h => ?_
  refine o0 ?_
  refine c_seqj (fun R H n => rg R q0 = a0 ∧ rg R q2 = v1 ∧ rg R q4 = v11 ∧ s_parse_parser_method_j25 lp G call k a0 v1 v11 H n) ?_ fun j25 => ?_
  · rintro R H n ⟨f0, f2, f4, h⟩
    delta s_parse_parser_method_j25 at h
    refine c_seq ?_
    refine c_ops ?_
    refine oe_s hle hd h (k_call (xsS (xr f0) xs0)) fun v26 H n h => ?_
    refine on_s h (k_faddr (xr f4)) fun v27 h => ?_
    refine oe_x hle hd h (k_st rfl rfl) fun v28 H n h => ?_
    refine o0 ?_
    refine c_seq ?_
    refine c_ops ?_
    refine on_s h (k_ldn (xr f4)) fun v29 h => ?_
    refine oe_x hle hd h (k_st (xr f2) rfl) fun v30 H n h => ?_
    refine o0 ?_
    refine c_ret ?_
    exact fin_no (rsN f2 rs0) h
  · refine c_block ?_
    refine c_loop hL (fun s R H n => rg R q0 = a0 ∧ rg R q2 = v1 ∧ rg R q4 = v11 ∧ H = s.1 ∧ n = s.2) h ⟨(ne rfl (ne rfl (ne rfl (ne rfl (ne rfl (ne rfl (ne rfl rfl))))))), (ne rfl (ne rfl (ne rfl (ne rfl (ne rfl (ne rfl sm)))))), (ne rfl (ne rfl sm)), rfl, rfl⟩ ?_
    rintro ih31 I31 hI31 ⟨H, n⟩ R H0 n0 ⟨f0, f2, f4, eH, eN⟩ h
    replace h : s_parse_parser_method_l31 lp G call k a0 v1 v11 ih31 H n := h
    obtain rfl : H0 = H := eH
    obtain rfl : n0 = n := eN
    delta s_parse_parser_method_l31 at h
    refine c_seq ?_
    refine c_seq ?_
    refine c_ops ?_
    refine oe_s hle hd h (k_call (xsS (xr f0) xs0)) fun v32 H n h => ?_
    refine ogn_s h rfl (k_mv (xr f0)) fun v33 h => ?_
    refine oge_s hle hd h rfl (k_call (xsS rfl (xsS rfl xs0))) fun v34 H n h => ?_
    refine ogn_s h rfl (k_not rfl) fun v35 h => ?_
    refine on_t h (k_pick rfl rfl rfl) fun v36 h => ?_
    refine o0 ?_
    refine c_cond h (xr sm) (fun h => ?_) (fun h => ?_)
    · refine c_skip ?_
      refine c_block ?_
      refine c_seqj (fun R H n => rg R q0 = a0 ∧ rg R q2 = v1 ∧ rg R q4 = v11 ∧ s_parse_parser_method_j37 lp G call k ih31 a0 v1 v11 H n) ?_ fun j37 => ?_
      · rintro R H n ⟨f0, f2, f4, h⟩
        delta s_parse_parser_method_j37 at h
        refine c_seq ?_
        refine c_ops ?_
        refine oe_s hle hd h (k_call (xsS (xr f0) xs0)) fun v38 H n h => ?_
        refine oa_t h k_alloc fun v39 H n h => ?_
        refine oe_x hle hd h (k_st (xr sm) rfl) fun v40 H n h => ?_
        refine o0 ?_
        refine c_seq ?_
        refine c_reg ?_
        refine in_t h (k_faddr (xr (ne rfl f4))) fun v41 h => ?_
        refine in_t h (k_ld1 (xr sm)) fun v42 h => ?_
        refine iv_t (a := a0) (k_mv (xr (ne rfl (ne rfl (ne rfl f0))))) ?_
        refine in_t h (k_ldn (xr (ne rfl (ne rfl (ne rfl sm))))) fun v43 h => ?_
        refine ie_t hle hd h (k_call (xsS (xr (ne rfl sm)) (xsS rfl xs0))) fun v44 H n h => ?_
        refine ire h (ne rfl (ne rfl (ne rfl sm))) (k_ld1 (xr (ne rfl (ne rfl (ne rfl (ne rfl sm)))))) fun h => ?_
        refine ire h (ne rfl sm) (k_ldn (xr (ne rfl (ne rfl (ne rfl (ne rfl (ne rfl sm))))))) fun h => ?_
        refine in_t h (k_build (psS (xr sm) (psS (xr (ne rfl sm)) ps0))) fun v45 h => ?_
        refine ia_t h (k_bslice (pbS (xr sm) pb0)) fun v46 H n h => ?_
        refine ie_t hle hd h (k_app (xr (ne rfl (ne rfl (ne rfl (ne rfl (ne rfl sm)))))) (xr sm)) fun v47 H n h => ?_
        refine in_t h (k_faddr (xr (ne rfl (ne rfl (ne rfl (ne rfl (ne rfl (ne rfl (ne rfl (ne rfl (ne rfl f4))))))))))) fun v48 h => ?_
        refine ie_x hle hd h (k_st (xr sm) (xr (ne rfl sm))) fun v49 H n h => ?_
        refine i0 ?_
        refine c_ops ?_
        refine on_s h (k_faddr (xr (ne rfl (ne rfl (ne rfl (ne rfl (ne rfl (ne rfl (ne rfl (ne rfl (ne rfl (ne rfl f4)))))))))))) fun v50 h => ?_
        refine on_s h (k_ld1 rfl) fun v51 h => ?_
        refine on_s h (k_lenL rfl) fun v52 h => ?_
        refine oe_s hle hd h (k_call (xsS (xr (ne rfl (ne rfl (ne rfl (ne rfl (ne rfl (ne rfl (ne rfl (ne rfl (ne rfl (ne rfl f0))))))))))) (xsS rfl xs0))) fun v53 H n h => ?_
        refine o0 ?_
        exact hI31 (H, n) _ _ _ ⟨(ne rfl (ne rfl (ne rfl (ne rfl (ne rfl (ne rfl (ne rfl (ne rfl (ne rfl (ne rfl f0)))))))))), (ne rfl (ne rfl (ne rfl (ne rfl (ne rfl (ne rfl (ne rfl (ne rfl (ne rfl (ne rfl f2)))))))))), (ne rfl (ne rfl (ne rfl (ne rfl (ne rfl (ne rfl (ne rfl (ne rfl (ne rfl (ne rfl f4)))))))))), rfl, rfl⟩ h
      · refine c_seq ?_
        refine c_ops ?_
        refine on_s h (k_faddr (xr (ne rfl f4))) fun v54 h => ?_
        refine on_s h (k_ld1 rfl) fun v55 h => ?_
        refine on_s h (k_lenL rfl) fun v56 h => ?_
        refine on_t h (k_bin rfl rfl) fun v57 h => ?_
        refine o0 ?_
        refine c_cond h (xr sm) (fun h => ?_) (fun h => ?_)
        · refine c_ops ?_
          refine oa_s h (k_bslice (pbS rfl pb0)) fun v58 H n h => ?_
          refine oe_s hle hd h (k_call (xsS (xr (ne rfl (ne rfl f0))) (xsS rfl xs0))) fun v59 H n h => ?_
          refine o0 ?_
          exact j37 _ _ _ ⟨(ne rfl (ne rfl f0)), (ne rfl (ne rfl f2)), (ne rfl (ne rfl f4)), h⟩
        · refine c_skip ?_
          exact j37 _ _ _ ⟨(ne rfl (ne rfl f0)), (ne rfl (ne rfl f2)), (ne rfl (ne rfl f4)), h⟩
    · refine c_exit ?_
      refine bx_same ?_
      exact j25 _ _ _ ⟨(ne rfl f0), (ne rfl f2), (ne rfl f4), h⟩
theorem si_parse_parser_fail {lp : LpT} (hL : LpOk lp) (G : Roms) : SfOk G af_parse_parser_fail (ar2 (s_parse_parser_fail lp G)) := by
  intro call callE hle hd
  refine fun l H n k h0 => ?_
  obtain ⟨a0, a1, rfl, h⟩ := ar2_inv h0
  clear h0
  delta s_parse_parser_fail at h
  refine f_intro rfl ?_
  refine c_seq ?_
  refine c_ops ?_
  refine on_s h (k_nilck (xr rfl)) fun v1 h => ?_
  refine on_s h (k_faddr rfl) fun v2 h => ?_
  refine on_s h (k_faddr rfl) fun v3 h => ?_
  refine on_s h (k_ld1 rfl) fun v4 h => ?_
  refine on_t h (k_eq rfl rfl) fun v5 h => ?_
  refine o0 ?_
  refine c_cond h (xr sm) (fun h => ?_) (fun h => ?_)
  · refine c_ops ?_
    refine on_s h (k_nilck (xr (ne rfl rfl))) fun v6 h => ?_
    refine on_s h (k_faddr rfl) fun v7 h => ?_
    refine on_s h (k_ld1 rfl) fun v8 h => ?_
    refine on_s h (k_iaddr rfl rfl) fun v9 h => ?_
    refine on_s h (k_faddr rfl) fun v10 h => ?_
    refine on_s h (k_ldn rfl) fun v11 h => ?_
    refine on_s h (k_build (psS (xr (ne rfl rfl)) (psS rfl ps0))) fun v12 h => ?_
    refine on_s h (k_nilck (xr (ne rfl rfl))) fun v13 h => ?_
    refine on_s h (k_faddr rfl) fun v14 h => ?_
    refine oe_x hle hd h (k_st rfl rfl) fun v15 H n h => ?_
    refine o0 ?_
    exact fin_no rs0 h
  · refine c_skip ?_
    exact fin_no rs0 h
theorem si_internal_strconv_small {lp : LpT} (hL : LpOk lp) (G : Roms) : SfOk G af_internal_strconv_small (ar1 (s_internal_strconv_small lp G)) := by
  intro call callE hle hd
  refine fun l H n k h0 => ?_
  obtain ⟨a0, rfl, h⟩ := ar1_inv h0
  clear h0
  delta s_internal_strconv_small at h
  refine f_intro rfl ?_
  refine c_seq ?_
  refine c_ops ?_
  refine ov_t (a := (.str 0 0)) (k_mv rfl) ?_
  refine o0 ?_
  refine c_seq ?_
  refine c_seq ?_
  refine c_ops ?_
  refine on_t h (k_bin (xr (ne rfl rfl)) rfl) fun v1 h => ?_
  refine o0 ?_
  refine c_cond h (xr sm) (fun h => ?_) (fun h => ?_)
  · refine c_seq ?_
    refine c_ops ?_
    refine on_s h (k_bin (xr (ne rfl (ne rfl rfl))) rfl) fun v2 h => ?_
    refine on_s h (k_slcS rfl (oxS (xr (ne rfl (ne rfl rfl)))) (oxS rfl)) fun v3 h => ?_
    refine ov_t (a := v3) (k_mv rfl) ?_
    refine o0 ?_
    refine c_ret ?_
    exact fin_no (rsT sm rs0) h
  · refine c_skip ?_
    refine c_seq ?_
    refine c_ops ?_
    refine on_s h (k_bin (xr (ne rfl (ne rfl rfl))) rfl) fun v4 h => ?_
    refine on_s h (k_bin (xr (ne rfl (ne rfl rfl))) rfl) fun v5 h => ?_
    refine on_s h (k_bin rfl rfl) fun v6 h => ?_
    refine on_s h (k_slcS rfl (oxS rfl) (oxS rfl)) fun v7 h => ?_
    refine ov_t (a := v7) (k_mv rfl) ?_
    refine o0 ?_
    refine c_ret ?_
    exact fin_no (rsT sm rs0) h
theorem si_internal_strconv_numDigits {lp : LpT} (hL : LpOk lp) (G : Roms) : SfOk G af_internal_strconv_numDigits (ar1 (s_internal_strconv_numDigits lp G)) := by
  intro call callE hle hd
  refine fun l H n k h0 => ?_
  obtain ⟨a0, rfl, h⟩ := ar1_inv h0
  clear h0
  delta s_internal_strconv_numDigits at h
  refine f_intro rfl ?_
  refine c_seq ?_
  refine c_ops ?_
  refine ov_t (a := (.int .i64 (.ofNat 0) 0)) (k_mv rfl) ?_
  refine o0 ?_
  refine c_seq ?_
  refine c_ops ?_
  refine oe_s hle hd h (k_call (xsS (xr (ne rfl rfl)) xs0)) fun v1 H n h => ?_
  refine oe_s hle hd h (k_call (xsS rfl xs0)) fun v2 H n h => ?_
  refine ov_t (a := v2) (k_mv rfl) ?_
  refine o0 ?_
  refine c_seq ?_
  refine c_ops ?_
  refine on_s h (k_iaddrA rfl (xr sm)) fun v3 h => ?_
  refine on_s h (k_ld1 rfl) fun v4 h => ?_
  refine on_s h (k_bin (xr (ne rfl (ne rfl rfl))) rfl) fun v5 h => ?_
  refine oe_s hle hd h (k_call (xsS rfl xs0)) fun v6 H n h => ?_
  refine on_s h (k_bin (xr sm) rfl) fun v7 h => ?_
  refine ov_t (a := v7) (k_mv rfl) ?_
  refine o0 ?_
  refine c_ret ?_
  exact fin_no (rsT sm rs0) h
theorem si_internal_strconv_formatBase10 {lp : LpT} (hL : LpOk lp) (G : Roms) : SfOk G af_internal_strconv_formatBase10 (ar2 (s_internal_strconv_formatBase10 lp G)) := by
  intro call callE hle hd
  refine fun l H n k h0 => ?_
  obtain ⟨a0, a1, rfl, h⟩ := ar2_inv h0
  clear h0
  delta s_internal_strconv_formatBase10 at h
  refine f_intro rfl ?_
  refine c_seq ?_
  refine c_ops ?_
  refine on_s h (k_lenL (xr rfl)) fun v1 h => ?_
  refine ov_t (a := v1) (k_mv rfl) ?_
  refine o0 ?_
  refine c_seqj (fun R H n => ∃ a1_j2 a4_j2, rg R q1 = a1_j2 ∧ rg R q4 = a4_j2 ∧ rg R q0 = a0 ∧ s_internal_strconv_formatBase10_j2 lp G call k a0 a1_j2 a4_j2 H n) ?_ fun j2 => ?_
  · rintro R H n ⟨a1_j2, a4_j2, f1, f4, f0, h⟩
    delta s_internal_strconv_formatBase10_j2 at h
    refine c_seq ?_
    refine c_ops ?_
    refine on_s h (k_cvi (xr f1)) fun v3 h => ?_
    refine ov_t (a := v3) (k_mv rfl) ?_
    refine o0 ?_
    refine c_seqj (fun R H n => ∃ a4_j4 a12_j4, rg R q4 = a4_j4 ∧ rg R q12 = a12_j4 ∧ rg R q0 = a0 ∧ s_internal_strconv_formatBase10_j4 lp G call k a0 a4_j4 a12_j4 H n) ?_ fun j4 => ?_
    · rintro R H n ⟨a4_j4, a12_j4, f4, f12, f0, h⟩
      delta s_internal_strconv_formatBase10_j4 at h
      refine c_seqj (fun R H n => ∃ a4_j5 a12_j5, rg R q4 = a4_j5 ∧ rg R q12 = a12_j5 ∧ rg R q0 = a0 ∧ s_internal_strconv_formatBase10_j5 lp G call k a0 a4_j5 a12_j5 H n) ?_ fun j5 => ?_
      · rintro R H n ⟨a4_j5, a12_j5, f4, f12, f0, h⟩
        delta s_internal_strconv_formatBase10_j5 at h
        refine c_seq ?_
        refine c_ops ?_
        refine on_t h (k_bin (xr f4) rfl) fun v6 h => ?_
        refine o0 ?_
        refine c_cond h (xr sm) (fun h => ?_) (fun h => ?_)
        · refine c_ops ?_
          refine on_s h (k_bin rfl (xr (ne rfl f12))) fun v7 h => ?_
          refine on_s h (k_cvi rfl) fun v8 h => ?_
          refine on_s h (k_iaddr (xr (ne rfl f0)) rfl) fun v9 h => ?_
          refine oe_x hle hd h (k_st rfl rfl) fun v10 H n h => ?_
          refine o0 ?_
          exact fin_no rs0 h
        · refine c_skip ?_
          exact fin_no rs0 h
      · refine c_seq ?_
        refine c_ops ?_
        refine on_t h (k_bin (xr f4) rfl) fun v11 h => ?_
        refine o0 ?_
        refine c_cond h (xr sm) (fun h => ?_) (fun h => ?_)
        · refine c_seq ?_
          refine c_ops ?_
          refine on_s h (k_bin (xr (ne rfl f12)) rfl) fun v12 h => ?_
          refine on_s h (k_bin rfl rfl) fun v13 h => ?_
          refine ov_t (a := v13) (k_mv rfl) ?_
          refine o0 ?_
          refine c_seq ?_
          refine c_ops ?_
          refine on_s h (k_bin (xr (ne rfl (ne rfl f12))) rfl) fun v14 h => ?_
          refine ov_t (a := v14) (k_mv rfl) ?_
          refine o0 ?_
          refine c_seq ?_
          refine c_reg ?_
          refine iv_t (a := a0) (k_mv (xr (ne rfl (ne rfl (ne rfl f0))))) ?_
          refine iv_t (a := a4_j4) (k_mv (xr (ne rfl (ne rfl (ne rfl (ne rfl f4)))))) ?_
          refine in_t h (k_bin (xr sm) rfl) fun v15 h => ?_
          refine iv_t (a := a0) (k_mv (xr (ne rfl (ne rfl (ne rfl (ne rfl (ne rfl (ne rfl f0)))))))) ?_
          refine iv_t (a := a4_j4) (k_mv (xr (ne rfl (ne rfl (ne rfl (ne rfl (ne rfl (ne rfl (ne rfl f4))))))))) ?_
          refine in_t h (k_bin (xr sm) rfl) fun v16 h => ?_
          refine iv_t (a := v13) (k_mv (xr (ne rfl (ne rfl (ne rfl (ne rfl (ne rfl (ne rfl (ne rfl sm))))))))) ?_
          refine in_t h (k_bin (xr sm) rfl) fun v17 h => ?_
          refine in_t h (k_idxS rfl (xr sm)) fun v18 h => ?_
          refine iv_t (a := v13) (k_mv (xr (ne rfl (ne rfl (ne rfl (ne rfl (ne rfl (ne rfl (ne rfl (ne rfl (ne rfl (ne rfl sm)))))))))))) ?_
          refine in_t h (k_idxS rfl (xr sm)) fun v19 h => ?_
          refine in_t h (k_iaddr (xr (ne rfl (ne rfl (ne rfl (ne rfl (ne rfl (ne rfl (ne rfl (ne rfl (ne rfl (ne rfl sm))))))))))) (xr (ne rfl (ne rfl (ne rfl (ne rfl (ne rfl (ne rfl (ne rfl (ne rfl sm)))))))))) fun v20 h => ?_
          refine ie_x hle hd h (k_st (xr sm) (xr (ne rfl (ne rfl (ne rfl sm))))) fun v21 H n h => ?_
          refine in_t h (k_iaddr (xr (ne rfl (ne rfl (ne rfl (ne rfl (ne rfl (ne rfl (ne rfl (ne rfl sm))))))))) (xr (ne rfl (ne rfl (ne rfl (ne rfl (ne rfl (ne rfl sm)))))))) fun v22 h => ?_
          refine ie_x hle hd h (k_st (xr sm) (xr (ne rfl (ne rfl sm)))) fun v23 H n h => ?_
          refine i0 ?_
          refine c_ops ?_
          refine on_s h (k_bin (xr (ne rfl (ne rfl (ne rfl (ne rfl (ne rfl (ne rfl (ne rfl (ne rfl (ne rfl (ne rfl (ne rfl (ne rfl (ne rfl (ne rfl (ne rfl (ne rfl f4))))))))))))))))) rfl) fun v24 h => ?_
          refine ov_t (a := v24) (k_mv rfl) ?_
          refine o0 ?_
          exact j5 _ _ _ ⟨_, _, sm, (ne rfl (ne rfl (ne rfl (ne rfl (ne rfl (ne rfl (ne rfl (ne rfl (ne rfl (ne rfl (ne rfl (ne rfl (ne rfl (ne rfl sm)))))))))))))), (ne rfl (ne rfl (ne rfl (ne rfl (ne rfl (ne rfl (ne rfl (ne rfl (ne rfl (ne rfl (ne rfl (ne rfl (ne rfl (ne rfl (ne rfl (ne rfl (ne rfl f0))))))))))))))))), h⟩
        · refine c_skip ?_
          exact j5 _ _ _ ⟨_, _, (ne rfl f4), (ne rfl f12), (ne rfl f0), h⟩
    · refine c_seq ?_
      refine c_ops ?_
      refine on_t h (k_bin (xr (ne rfl f4)) rfl) fun v25 h => ?_
      refine o0 ?_
      refine c_cond h (xr sm) (fun h => ?_) (fun h => ?_)
      · refine c_seq ?_
        refine c_ops ?_
        refine on_s h (k_bin (xr (ne rfl sm)) rfl) fun v26 h => ?_
        refine ov_t (a := v26) (k_mv rfl) ?_
        refine o0 ?_
        refine c_seq ?_
        refine c_ops ?_
        refine on_s h (k_bin (xr (ne rfl (ne rfl sm))) rfl) fun v27 h => ?_
        refine ov_t (a := v27) (k_mv rfl) ?_
        refine o0 ?_
        refine c_seq ?_
        refine c_ops ?_
        refine on_s h (k_bin (xr (ne rfl sm)) rfl) fun v28 h => ?_
        refine on_s h (k_bin rfl rfl) fun v29 h => ?_
        refine on_s h (k_bin (xr (ne rfl sm)) rfl) fun v30 h => ?_
        refine on_s h (k_bin rfl rfl) fun v31 h => ?_
        refine ov_t (a := v29) (k_mv rfl) ?_
        refine ov_t (a := v31) (k_mv rfl) ?_
        refine o0 ?_
        refine c_seq ?_
        refine c_reg ?_
        refine iv_t (a := a0) (k_mv (xr (ne rfl (ne rfl (ne rfl (ne rfl (ne rfl (ne rfl f0)))))))) ?_
        refine iv_t (a := a4_j2) (k_mv (xr (ne rfl (ne rfl (ne rfl (ne rfl (ne rfl (ne rfl (ne rfl f4))))))))) ?_
        refine in_t h (k_bin (xr sm) rfl) fun v32 h => ?_
        refine iv_t (a := a0) (k_mv (xr (ne rfl (ne rfl (ne rfl (ne rfl (ne rfl (ne rfl (ne rfl (ne rfl (ne rfl f0))))))))))) ?_
        refine iv_t (a := a4_j2) (k_mv (xr (ne rfl (ne rfl (ne rfl (ne rfl (ne rfl (ne rfl (ne rfl (ne rfl (ne rfl (ne rfl f4)))))))))))) ?_
        refine in_t h (k_bin (xr sm) rfl) fun v33 h => ?_
        refine iv_t (a := v31) (k_mv (xr (ne rfl (ne rfl (ne rfl (ne rfl (ne rfl (ne rfl sm)))))))) ?_
        refine in_t h (k_bin (xr sm) rfl) fun v34 h => ?_
        refine in_t h (k_idxS rfl (xr sm)) fun v35 h => ?_
        refine iv_t (a := v31) (k_mv (xr (ne rfl (ne rfl (ne rfl (ne rfl (ne rfl (ne rfl (ne rfl (ne rfl (ne rfl sm))))))))))) ?_
        refine in_t h (k_idxS rfl (xr sm)) fun v36 h => ?_
        refine in_t h (k_iaddr (xr (ne rfl (ne rfl (ne rfl (ne rfl (ne rfl (ne rfl (ne rfl (ne rfl (ne rfl (ne rfl sm))))))))))) (xr (ne rfl (ne rfl (ne rfl (ne rfl (ne rfl (ne rfl (ne rfl (ne rfl sm)))))))))) fun v37 h => ?_
        refine ie_x hle hd h (k_st (xr sm) (xr (ne rfl (ne rfl (ne rfl sm))))) fun v38 H n h => ?_
        refine in_t h (k_iaddr (xr (ne rfl (ne rfl (ne rfl (ne rfl (ne rfl (ne rfl (ne rfl (ne rfl sm))))))))) (xr (ne rfl (ne rfl (ne rfl (ne rfl (ne rfl (ne rfl sm)))))))) fun v39 h => ?_
        refine ie_x hle hd h (k_st (xr sm) (xr (ne rfl (ne rfl sm)))) fun v40 H n h => ?_
        refine i0 ?_
        refine c_seq ?_
        refine c_reg ?_
        refine iv_t (a := a0) (k_mv (xr (ne rfl (ne rfl (ne rfl (ne rfl (ne rfl (ne rfl (ne rfl (ne rfl (ne rfl (ne rfl (ne rfl (ne rfl (ne rfl (ne rfl (ne rfl (ne rfl (ne rfl (ne rfl (ne rfl f0))))))))))))))))))))) ?_
        refine iv_t (a := a4_j2) (k_mv (xr (ne rfl (ne rfl (ne rfl (ne rfl (ne rfl (ne rfl (ne rfl (ne rfl (ne rfl (ne rfl (ne rfl (ne rfl (ne rfl (ne rfl (ne rfl (ne rfl (ne rfl (ne rfl (ne rfl (ne rfl f4)))))))))))))))))))))) ?_
        refine in_t h (k_bin (xr sm) rfl) fun v41 h => ?_
        refine iv_t (a := a0) (k_mv (xr (ne rfl (ne rfl (ne rfl (ne rfl (ne rfl (ne rfl (ne rfl (ne rfl (ne rfl (ne rfl (ne rfl (ne rfl (ne rfl (ne rfl (ne rfl (ne rfl (ne rfl (ne rfl (ne rfl (ne rfl (ne rfl (ne rfl f0)))))))))))))))))))))))) ?_
        refine iv_t (a := a4_j2) (k_mv (xr (ne rfl (ne rfl (ne rfl (ne rfl (ne rfl (ne rfl (ne rfl (ne rfl (ne rfl (ne rfl (ne rfl (ne rfl (ne rfl (ne rfl (ne rfl (ne rfl (ne rfl (ne rfl (ne rfl (ne rfl (ne rfl (ne rfl (ne rfl f4))))))))))))))))))))))))) ?_
        refine in_t h (k_bin (xr sm) rfl) fun v42 h => ?_
        refine iv_t (a := v29) (k_mv (xr (ne rfl (ne rfl (ne rfl (ne rfl (ne rfl (ne rfl (ne rfl (ne rfl (ne rfl (ne rfl (ne rfl (ne rfl (ne rfl (ne rfl (ne rfl (ne rfl (ne rfl (ne rfl (ne rfl (ne rfl sm)))))))))))))))))))))) ?_
        refine in_t h (k_bin (xr sm) rfl) fun v43 h => ?_
        refine in_t h (k_idxS rfl (xr sm)) fun v44 h => ?_
        refine iv_t (a := v29) (k_mv (xr (ne rfl (ne rfl (ne rfl (ne rfl (ne rfl (ne rfl (ne rfl (ne rfl (ne rfl (ne rfl (ne rfl (ne rfl (ne rfl (ne rfl (ne rfl (ne rfl (ne rfl (ne rfl (ne rfl (ne rfl (ne rfl (ne rfl (ne rfl sm))))))))))))))))))))))))) ?_
        refine in_t h (k_idxS rfl (xr sm)) fun v45 h => ?_
        refine in_t h (k_iaddr (xr (ne rfl (ne rfl (ne rfl (ne rfl (ne rfl (ne rfl (ne rfl (ne rfl (ne rfl (ne rfl sm))))))))))) (xr (ne rfl (ne rfl (ne rfl (ne rfl (ne rfl (ne rfl (ne rfl (ne rfl sm)))))))))) fun v46 h => ?_
        refine ie_x hle hd h (k_st (xr sm) (xr (ne rfl (ne rfl (ne rfl sm))))) fun v47 H n h => ?_
        refine in_t h (k_iaddr (xr (ne rfl (ne rfl (ne rfl (ne rfl (ne rfl (ne rfl (ne rfl (ne rfl sm))))))))) (xr (ne rfl (ne rfl (ne rfl (ne rfl (ne rfl (ne rfl sm)))))))) fun v48 h => ?_
        refine ie_x hle hd h (k_st (xr sm) (xr (ne rfl (ne rfl sm)))) fun v49 H n h => ?_
        refine i0 ?_
        refine c_ops ?_
        refine on_s h (k_bin (xr (ne rfl (ne rfl (ne rfl (ne rfl (ne rfl (ne rfl (ne rfl (ne rfl (ne rfl (ne rfl (ne rfl (ne rfl (ne rfl (ne rfl (ne rfl (ne rfl (ne rfl (ne rfl (ne rfl (ne rfl (ne rfl (ne rfl (ne rfl (ne rfl (ne rfl (ne rfl (ne rfl (ne rfl (ne rfl (ne rfl (ne rfl (ne rfl f4))))))))))))))))))))))))))))))))) rfl) fun v50 h => ?_
        refine ov_t (a := v50) (k_mv rfl) ?_
        refine o0 ?_
        exact j4 _ _ _ ⟨_, _, sm, (ne rfl (ne rfl (ne rfl (ne rfl (ne rfl (ne rfl (ne rfl (ne rfl (ne rfl (ne rfl (ne rfl (ne rfl (ne rfl (ne rfl (ne rfl (ne rfl (ne rfl (ne rfl (ne rfl (ne rfl (ne rfl (ne rfl (ne rfl (ne rfl (ne rfl (ne rfl (ne rfl (ne rfl (ne rfl sm))))))))))))))))))))))))))))), (ne rfl (ne rfl (ne rfl (ne rfl (ne rfl (ne rfl (ne rfl (ne rfl (ne rfl (ne rfl (ne rfl (ne rfl (ne rfl (ne rfl (ne rfl (ne rfl (ne rfl (ne rfl (ne rfl (ne rfl (ne rfl (ne rfl (ne rfl (ne rfl (ne rfl (ne rfl (ne rfl (ne rfl (ne rfl (ne rfl (ne rfl (ne rfl (ne rfl f0))))))))))))))))))))))))))))))))), h⟩
      · refine c_skip ?_
        exact j4 _ _ _ ⟨_, _, (ne rfl (ne rfl f4)), (ne rfl sm), (ne rfl (ne rfl f0)), h⟩
  · refine c_block ?_
    refine c_loop hL (fun s R H n => rg R q1 = s.1 ∧ rg R q4 = s.2.1 ∧ rg R q0 = a0 ∧ H = s.2.2.1 ∧ n = s.2.2.2) h ⟨(ne rfl rfl), sm, (ne rfl rfl), rfl, rfl⟩ ?_
    rintro ih51 I51 hI51 ⟨a1_l51, a4_l51, H, n⟩ R H0 n0 ⟨f1, f4, f0, eH, eN⟩ h
    replace h : s_internal_strconv_formatBase10_l51 lp G call k a0 ih51 a1_l51 a4_l51 H n := h
    obtain rfl : H0 = H := eH
    obtain rfl : n0 = n := eN
    delta s_internal_strconv_formatBase10_l51 at h
    refine c_seq ?_
    refine c_seq ?_
    refine c_ops ?_
    refine on_t h (k_bin (xr f4) rfl) fun v52 h => ?_
    refine o0 ?_
    refine c_cond h (xr sm) (fun h => ?_) (fun h => ?_)
    · refine c_skip ?_
      refine c_block ?_
      refine c_seq ?_
      refine c_ops ?_
      refine on_s h (k_bin (xr (ne rfl f1)) rfl) fun v53 h => ?_
      refine on_s h (k_cvi rfl) fun v54 h => ?_
      refine ov_t (a := v54) (k_mv rfl) ?_
      refine o0 ?_
      refine c_seq ?_
      refine c_ops ?_
      refine on_s h (k_bin (xr (ne rfl (ne rfl f1))) rfl) fun v55 h => ?_
      refine ov_t (a := v55) (k_mv rfl) ?_
      refine o0 ?_
      refine c_seq ?_
      refine c_ops ?_
      refine on_s h (k_bin (xr (ne rfl sm)) rfl) fun v56 h => ?_
      refine on_s h (k_bin (xr (ne rfl sm)) rfl) fun v57 h => ?_
      refine ov_t (a := v56) (k_mv rfl) ?_
      refine ov_t (a := v57) (k_mv rfl) ?_
      refine o0 ?_
      refine c_seq ?_
      refine c_ops ?_
      refine on_s h (k_bin (xr sm) rfl) fun v58 h => ?_
      refine on_s h (k_bin rfl rfl) fun v59 h => ?_
      refine on_s h (k_bin (xr sm) rfl) fun v60 h => ?_
      refine on_s h (k_bin rfl rfl) fun v61 h => ?_
      refine ov_t (a := v59) (k_mv rfl) ?_
      refine ov_t (a := v61) (k_mv rfl) ?_
      refine o0 ?_
      refine c_seq ?_
      refine c_ops ?_
      refine on_s h (k_bin (xr (ne rfl (ne rfl (ne rfl sm)))) rfl) fun v62 h => ?_
      refine on_s h (k_bin rfl rfl) fun v63 h => ?_
      refine on_s h (k_bin (xr (ne rfl (ne rfl (ne rfl sm)))) rfl) fun v64 h => ?_
      refine on_s h (k_bin rfl rfl) fun v65 h => ?_
      refine ov_t (a := v63) (k_mv rfl) ?_
      refine ov_t (a := v65) (k_mv rfl) ?_
      refine o0 ?_
      refine c_seq ?_
      refine c_reg ?_
      refine iv_t (a := a0) (k_mv (xr (ne rfl (ne rfl (ne rfl (ne rfl (ne rfl (ne rfl (ne rfl (ne rfl (ne rfl f0))))))))))) ?_
      refine iv_t (a := a4_l51) (k_mv (xr (ne rfl (ne rfl (ne rfl (ne rfl (ne rfl (ne rfl (ne rfl (ne rfl (ne rfl (ne rfl f4)))))))))))) ?_
      refine in_t h (k_bin (xr sm) rfl) fun v66 h => ?_
      refine iv_t (a := a0) (k_mv (xr (ne rfl (ne rfl (ne rfl (ne rfl (ne rfl (ne rfl (ne rfl (ne rfl (ne rfl (ne rfl (ne rfl (ne rfl f0)))))))))))))) ?_
      refine iv_t (a := a4_l51) (k_mv (xr (ne rfl (ne rfl (ne rfl (ne rfl (ne rfl (ne rfl (ne rfl (ne rfl (ne rfl (ne rfl (ne rfl (ne rfl (ne rfl f4))))))))))))))) ?_
      refine in_t h (k_bin (xr sm) rfl) fun v67 h => ?_
      refine iv_t (a := v61) (k_mv (xr (ne rfl (ne rfl (ne rfl (ne rfl (ne rfl (ne rfl (ne rfl (ne rfl sm)))))))))) ?_
      refine in_t h (k_bin (xr sm) rfl) fun v68 h => ?_
      refine in_t h (k_idxS rfl (xr sm)) fun v69 h => ?_
      refine iv_t (a := v61) (k_mv (xr (ne rfl (ne rfl (ne rfl (ne rfl (ne rfl (ne rfl (ne rfl (ne rfl (ne rfl (ne rfl (ne rfl sm))))))))))))) ?_
      refine in_t h (k_idxS rfl (xr sm)) fun v70 h => ?_
      refine in_t h (k_iaddr (xr (ne rfl (ne rfl (ne rfl (ne rfl (ne rfl (ne rfl (ne rfl (ne rfl (ne rfl (ne rfl sm))))))))))) (xr (ne rfl (ne rfl (ne rfl (ne rfl (ne rfl (ne rfl (ne rfl (ne rfl sm)))))))))) fun v71 h => ?_
      refine ie_x hle hd h (k_st (xr sm) (xr (ne rfl (ne rfl (ne rfl sm))))) fun v72 H n h => ?_
      refine in_t h (k_iaddr (xr (ne rfl (ne rfl (ne rfl (ne rfl (ne rfl (ne rfl (ne rfl (ne rfl sm))))))))) (xr (ne rfl (ne rfl (ne rfl (ne rfl (ne rfl (ne rfl sm)))))))) fun v73 h => ?_
      refine ie_x hle hd h (k_st (xr sm) (xr (ne rfl (ne rfl sm)))) fun v74 H n h => ?_
      refine i0 ?_
      refine c_seq ?_
      refine c_reg ?_
      refine iv_t (a := a0) (k_mv (xr (ne rfl (ne rfl (ne rfl (ne rfl (ne rfl (ne rfl (ne rfl (ne rfl (ne rfl (ne rfl (ne rfl (ne rfl (ne rfl (ne rfl (ne rfl (ne rfl (ne rfl (ne rfl (ne rfl (ne rfl (ne rfl (ne rfl f0)))))))))))))))))))))))) ?_
      refine iv_t (a := a4_l51) (k_mv (xr (ne rfl (ne rfl (ne rfl (ne rfl (ne rfl (ne rfl (ne rfl (ne rfl (ne rfl (ne rfl (ne rfl (ne rfl (ne rfl (ne rfl (ne rfl (ne rfl (ne rfl (ne rfl (ne rfl (ne rfl (ne rfl (ne rfl (ne rfl f4))))))))))))))))))))))))) ?_
      refine in_t h (k_bin (xr sm) rfl) fun v75 h => ?_
      refine iv_t (a := a0) (k_mv (xr (ne rfl (ne rfl (ne rfl (ne rfl (ne rfl (ne rfl (ne rfl (ne rfl (ne rfl (ne rfl (ne rfl (ne rfl (ne rfl (ne rfl (ne rfl (ne rfl (ne rfl (ne rfl (ne rfl (ne rfl (ne rfl (ne rfl (ne rfl (ne rfl (ne rfl f0))))))))))))))))))))))))))) ?_
      refine iv_t (a := a4_l51) (k_mv (xr (ne rfl (ne rfl (ne rfl (ne rfl (ne rfl (ne rfl (ne rfl (ne rfl (ne rfl (ne rfl (ne rfl (ne rfl (ne rfl (ne rfl (ne rfl (ne rfl (ne rfl (ne rfl (ne rfl (ne rfl (ne rfl (ne rfl (ne rfl (ne rfl (ne rfl (ne rfl f4)))))))))))))))))))))))))))) ?_
      refine in_t h (k_bin (xr sm) rfl) fun v76 h => ?_
      refine iv_t (a := v59) (k_mv (xr (ne rfl (ne rfl (ne rfl (ne rfl (ne rfl (ne rfl (ne rfl (ne rfl (ne rfl (ne rfl (ne rfl (ne rfl (ne rfl (ne rfl (ne rfl (ne rfl (ne rfl (ne rfl (ne rfl (ne rfl (ne rfl (ne rfl sm)))))))))))))))))))))))) ?_
      refine in_t h (k_bin (xr sm) rfl) fun v77 h => ?_
      refine in_t h (k_idxS rfl (xr sm)) fun v78 h => ?_
      refine iv_t (a := v59) (k_mv (xr (ne rfl (ne rfl (ne rfl (ne rfl (ne rfl (ne rfl (ne rfl (ne rfl (ne rfl (ne rfl (ne rfl (ne rfl (ne rfl (ne rfl (ne rfl (ne rfl (ne rfl (ne rfl (ne rfl (ne rfl (ne rfl (ne rfl (ne rfl (ne rfl (ne rfl sm))))))))))))))))))))))))))) ?_
      refine in_t h (k_idxS rfl (xr sm)) fun v79 h => ?_
      refine in_t h (k_iaddr (xr (ne rfl (ne rfl (ne rfl (ne rfl (ne rfl (ne rfl (ne rfl (ne rfl (ne rfl (ne rfl sm))))))))))) (xr (ne rfl (ne rfl (ne rfl (ne rfl (ne rfl (ne rfl (ne rfl (ne rfl sm)))))))))) fun v80 h => ?_
      refine ie_x hle hd h (k_st (xr sm) (xr (ne rfl (ne rfl (ne rfl sm))))) fun v81 H n h => ?_
      refine in_t h (k_iaddr (xr (ne rfl (ne rfl (ne rfl (ne rfl (ne rfl (ne rfl (ne rfl (ne rfl sm))))))))) (xr (ne rfl (ne rfl (ne rfl (ne rfl (ne rfl (ne rfl sm)))))))) fun v82 h => ?_
      refine ie_x hle hd h (k_st (xr sm) (xr (ne rfl (ne rfl sm)))) fun v83 H n h => ?_
      refine i0 ?_
      refine c_seq ?_
      refine c_reg ?_
      refine iv_t (a := a0) (k_mv (xr (ne rfl (ne rfl (ne rfl (ne rfl (ne rfl (ne rfl (ne rfl (ne rfl (ne rfl (ne rfl (ne rfl (ne rfl (ne rfl (ne rfl (ne rfl (ne rfl (ne rfl (ne rfl (ne rfl (ne rfl (ne rfl (ne rfl (ne rfl (ne rfl (ne rfl (ne rfl (ne rfl (ne rfl (ne rfl (ne rfl (ne rfl (ne rfl (ne rfl (ne rfl (ne rfl f0))))))))))))))))))))))))))))))))))))) ?_
      refine iv_t (a := a4_l51) (k_mv (xr (ne rfl (ne rfl (ne rfl (ne rfl (ne rfl (ne rfl (ne rfl (ne rfl (ne rfl (ne rfl (ne rfl (ne rfl (ne rfl (ne rfl (ne rfl (ne rfl (ne rfl (ne rfl (ne rfl (ne rfl (ne rfl (ne rfl (ne rfl (ne rfl (ne rfl (ne rfl (ne rfl (ne rfl (ne rfl (ne rfl (ne rfl (ne rfl (ne rfl (ne rfl (ne rfl (ne rfl f4)))))))))))))))))))))))))))))))))))))) ?_
      refine in_t h (k_bin (xr sm) rfl) fun v84 h => ?_
      refine iv_t (a := a0) (k_mv (xr (ne rfl (ne rfl (ne rfl (ne rfl (ne rfl (ne rfl (ne rfl (ne rfl (ne rfl (ne rfl (ne rfl (ne rfl (ne rfl (ne rfl (ne rfl (ne rfl (ne rfl (ne rfl (ne rfl (ne rfl (ne rfl (ne rfl (ne rfl (ne rfl (ne rfl (ne rfl (ne rfl (ne rfl (ne rfl (ne rfl (ne rfl (ne rfl (ne rfl (ne rfl (ne rfl (ne rfl (ne rfl (ne rfl f0)))))))))))))))))))))))))))))))))))))))) ?_
      refine iv_t (a := a4_l51) (k_mv (xr (ne rfl (ne rfl (ne rfl (ne rfl (ne rfl (ne rfl (ne rfl (ne rfl (ne rfl (ne rfl (ne rfl (ne rfl (ne rfl (ne rfl (ne rfl (ne rfl (ne rfl (ne rfl (ne rfl (ne rfl (ne rfl (ne rfl (ne rfl (ne rfl (ne rfl (ne rfl (ne rfl (ne rfl (ne rfl (ne rfl (ne rfl (ne rfl (ne rfl (ne rfl (ne rfl (ne rfl (ne rfl (ne rfl (ne rfl f4))))))))))))))))))))))))))))))))))))))))) ?_
      refine in_t h (k_bin (xr sm) rfl) fun v85 h => ?_
      refine iv_t (a := v65) (k_mv (xr (ne rfl (ne rfl (ne rfl (ne rfl (ne rfl (ne rfl (ne rfl (ne rfl (ne rfl (ne rfl (ne rfl (ne rfl (ne rfl (ne rfl (ne rfl (ne rfl (ne rfl (ne rfl (ne rfl (ne rfl (ne rfl (ne rfl (ne rfl (ne rfl (ne rfl (ne rfl (ne rfl (ne rfl (ne rfl (ne rfl (ne rfl (ne rfl sm)))))))))))))))))))))))))))))))))) ?_
      refine in_t h (k_bin (xr sm) rfl) fun v86 h => ?_
      refine in_t h (k_idxS rfl (xr sm)) fun v87 h => ?_
      refine iv_t (a := v65) (k_mv (xr (ne rfl (ne rfl (ne rfl (ne rfl (ne rfl (ne rfl (ne rfl (ne rfl (ne rfl (ne rfl (ne rfl (ne rfl (ne rfl (ne rfl (ne rfl (ne rfl (ne rfl (ne rfl (ne rfl (ne rfl (ne rfl (ne rfl (ne rfl (ne rfl (ne rfl (ne rfl (ne rfl (ne rfl (ne rfl (ne rfl (ne rfl (ne rfl (ne rfl (ne rfl (ne rfl sm))))))))))))))))))))))))))))))))))))) ?_
      refine in_t h (k_idxS rfl (xr sm)) fun v88 h => ?_
      refine in_t h (k_iaddr (xr (ne rfl (ne rfl (ne rfl (ne rfl (ne rfl (ne rfl (ne rfl (ne rfl (ne rfl (ne rfl sm))))))))))) (xr (ne rfl (ne rfl (ne rfl (ne rfl (ne rfl (ne rfl (ne rfl (ne rfl sm)))))))))) fun v89 h => ?_
      refine ie_x hle hd h (k_st (xr sm) (xr (ne rfl (ne rfl (ne rfl sm))))) fun v90 H n h => ?_
      refine in_t h (k_iaddr (xr (ne rfl (ne rfl (ne rfl (ne rfl (ne rfl (ne rfl (ne rfl (ne rfl sm))))))))) (xr (ne rfl (ne rfl (ne rfl (ne rfl (ne rfl (ne rfl sm)))))))) fun v91 h => ?_
      refine ie_x hle hd h (k_st (xr sm) (xr (ne rfl (ne rfl sm)))) fun v92 H n h => ?_
      refine i0 ?_
      refine c_seq ?_
      refine c_reg ?_
      refine iv_t (a := a0) (k_mv (xr (ne rfl (ne rfl (ne rfl (ne rfl (ne rfl (ne rfl (ne rfl (ne rfl (ne rfl (ne rfl (ne rfl (ne rfl (ne rfl (ne rfl (ne rfl (ne rfl (ne rfl (ne rfl (ne rfl (ne rfl (ne rfl (ne rfl (ne rfl (ne rfl (ne rfl (ne rfl (ne rfl (ne rfl (ne rfl (ne rfl (ne rfl (ne rfl (ne rfl (ne rfl (ne rfl (ne rfl (ne rfl (ne rfl (ne rfl (ne rfl (ne rfl (ne rfl (ne rfl (ne rfl (ne rfl (ne rfl (ne rfl (ne rfl f0)))))))))))))))))))))))))))))))))))))))))))))))))) ?_
      refine iv_t (a := a4_l51) (k_mv (xr (ne rfl (ne rfl (ne rfl (ne rfl (ne rfl (ne rfl (ne rfl (ne rfl (ne rfl (ne rfl (ne rfl (ne rfl (ne rfl (ne rfl (ne rfl (ne rfl (ne rfl (ne rfl (ne rfl (ne rfl (ne rfl (ne rfl (ne rfl (ne rfl (ne rfl (ne rfl (ne rfl (ne rfl (ne rfl (ne rfl (ne rfl (ne rfl (ne rfl (ne rfl (ne rfl (ne rfl (ne rfl (ne rfl (ne rfl (ne rfl (ne rfl (ne rfl (ne rfl (ne rfl (ne rfl (ne rfl (ne rfl (ne rfl (ne rfl f4))))))))))))))))))))))))))))))))))))))))))))))))))) ?_
      refine in_t h (k_bin (xr sm) rfl) fun v93 h => ?_
      refine iv_t (a := a0) (k_mv (xr (ne rfl (ne rfl (ne rfl (ne rfl (ne rfl (ne rfl (ne rfl (ne rfl (ne rfl (ne rfl (ne rfl (ne rfl (ne rfl (ne rfl (ne rfl (ne rfl (ne rfl (ne rfl (ne rfl (ne rfl (ne rfl (ne rfl (ne rfl (ne rfl (ne rfl (ne rfl (ne rfl (ne rfl (ne rfl (ne rfl (ne rfl (ne rfl (ne rfl (ne rfl (ne rfl (ne rfl (ne rfl (ne rfl (ne rfl (ne rfl (ne rfl (ne rfl (ne rfl (ne rfl (ne rfl (ne rfl (ne rfl (ne rfl (ne rfl (ne rfl (ne rfl f0))))))))))))))))))))))))))))))))))))))))))))))))))))) ?_
      refine iv_t (a := a4_l51) (k_mv (xr (ne rfl (ne rfl (ne rfl (ne rfl (ne rfl (ne rfl (ne rfl (ne rfl (ne rfl (ne rfl (ne rfl (ne rfl (ne rfl (ne rfl (ne rfl (ne rfl (ne rfl (ne rfl (ne rfl (ne rfl (ne rfl (ne rfl (ne rfl (ne rfl (ne rfl (ne rfl (ne rfl (ne rfl (ne rfl (ne rfl (ne rfl (ne rfl (ne rfl (ne rfl (ne rfl (ne rfl (ne rfl (ne rfl (ne rfl (ne rfl (ne rfl (ne rfl (ne rfl (ne rfl (ne rfl (ne rfl (ne rfl (ne rfl (ne rfl (ne rfl (ne rfl (ne rfl f4)))))))))))))))))))))))))))))))))))))))))))))))))))))) ?_
      refine in_t h (k_bin (xr sm) rfl) fun v94 h => ?_
      refine iv_t (a := v63) (k_mv (xr (ne rfl (ne rfl (ne rfl (ne rfl (ne rfl (ne rfl (ne rfl (ne rfl (ne rfl (ne rfl (ne rfl (ne rfl (ne rfl (ne rfl (ne rfl (ne rfl (ne rfl (ne rfl (ne rfl (ne rfl (ne rfl (ne rfl (ne rfl (ne rfl (ne rfl (ne rfl (ne rfl (ne rfl (ne rfl (ne rfl (ne rfl (ne rfl (ne rfl (ne rfl (ne rfl (ne rfl (ne rfl (ne rfl (ne rfl (ne rfl (ne rfl (ne rfl (ne rfl (ne rfl (ne rfl (ne rfl sm)))))))))))))))))))))))))))))))))))))))))))))))) ?_
      refine in_t h (k_bin (xr sm) rfl) fun v95 h => ?_
      refine in_t h (k_idxS rfl (xr sm)) fun v96 h => ?_
      refine iv_t (a := v63) (k_mv (xr (ne rfl (ne rfl (ne rfl (ne rfl (ne rfl (ne rfl (ne rfl (ne rfl (ne rfl (ne rfl (ne rfl (ne rfl (ne rfl (ne rfl (ne rfl (ne rfl (ne rfl (ne rfl (ne rfl (ne rfl (ne rfl (ne rfl (ne rfl (ne rfl (ne rfl (ne rfl (ne rfl (ne rfl (ne rfl (ne rfl (ne rfl (ne rfl (ne rfl (ne rfl (ne rfl (ne rfl (ne rfl (ne rfl (ne rfl (ne rfl (ne rfl (ne rfl (ne rfl (ne rfl (ne rfl (ne rfl (ne rfl (ne rfl (ne rfl sm))))))))))))))))))))))))))))))))))))))))))))))))))) ?_
      refine in_t h (k_idxS rfl (xr sm)) fun v97 h => ?_
      refine in_t h (k_iaddr (xr (ne rfl (ne rfl (ne rfl (ne rfl (ne rfl (ne rfl (ne rfl (ne rfl (ne rfl (ne rfl sm))))))))))) (xr (ne rfl (ne rfl (ne rfl (ne rfl (ne rfl (ne rfl (ne rfl (ne rfl sm)))))))))) fun v98 h => ?_
      refine ie_x hle hd h (k_st (xr sm) (xr (ne rfl (ne rfl (ne rfl sm))))) fun v99 H n h => ?_
      refine in_t h (k_iaddr (xr (ne rfl (ne rfl (ne rfl (ne rfl (ne rfl (ne rfl (ne rfl (ne rfl sm))))))))) (xr (ne rfl (ne rfl (ne rfl (ne rfl (ne rfl (ne rfl sm)))))))) fun v100 h => ?_
      refine ie_x hle hd h (k_st (xr sm) (xr (ne rfl (ne rfl sm)))) fun v101 H n h => ?_
      refine i0 ?_
      refine c_ops ?_
      refine on_s h (k_bin (xr (ne rfl (ne rfl (ne rfl (ne rfl (ne rfl (ne rfl (ne rfl (ne rfl (ne rfl (ne rfl (ne rfl (ne rfl (ne rfl (ne rfl (ne rfl (ne rfl (ne rfl (ne rfl (ne rfl (ne rfl (ne rfl (ne rfl (ne rfl (ne rfl (ne rfl (ne rfl (ne rfl (ne rfl (ne rfl (ne rfl (ne rfl (ne rfl (ne rfl (ne rfl (ne rfl (ne rfl (ne rfl (ne rfl (ne rfl (ne rfl (ne rfl (ne rfl (ne rfl (ne rfl (ne rfl (ne rfl (ne rfl (ne rfl (ne rfl (ne rfl (ne rfl (ne rfl (ne rfl (ne rfl (ne rfl (ne rfl (ne rfl (ne rfl (ne rfl (ne rfl (ne rfl f4)))))))))))))))))))))))))))))))))))))))))))))))))))))))))))))) rfl) fun v102 h => ?_
      refine ov_t (a := v102) (k_mv rfl) ?_
      refine o0 ?_
      exact hI51 (v55, v102, H, n) _ _ _ ⟨(ne rfl (ne rfl (ne rfl (ne rfl (ne rfl (ne rfl (ne rfl (ne rfl (ne rfl (ne rfl (ne rfl (ne rfl (ne rfl (ne rfl (ne rfl (ne rfl (ne rfl (ne rfl (ne rfl (ne rfl (ne rfl (ne rfl (ne rfl (ne rfl (ne rfl (ne rfl (ne rfl (ne rfl (ne rfl (ne rfl (ne rfl (ne rfl (ne rfl (ne rfl (ne rfl (ne rfl (ne rfl (ne rfl (ne rfl (ne rfl (ne rfl (ne rfl (ne rfl (ne rfl (ne rfl (ne rfl (ne rfl (ne rfl (ne rfl (ne rfl (ne rfl (ne rfl (ne rfl (ne rfl (ne rfl (ne rfl (ne rfl (ne rfl (ne rfl sm))))))))))))))))))))))))))))))))))))))))))))))))))))))))))), sm, (ne rfl (ne rfl (ne rfl (ne rfl (ne rfl (ne rfl (ne rfl (ne rfl (ne rfl (ne rfl (ne rfl (ne rfl (ne rfl (ne rfl (ne rfl (ne rfl (ne rfl (ne rfl (ne rfl (ne rfl (ne rfl (ne rfl (ne rfl (ne rfl (ne rfl (ne rfl (ne rfl (ne rfl (ne rfl (ne rfl (ne rfl (ne rfl (ne rfl (ne rfl (ne rfl (ne rfl (ne rfl (ne rfl (ne rfl (ne rfl (ne rfl (ne rfl (ne rfl (ne rfl (ne rfl (ne rfl (ne rfl (ne rfl (ne rfl (ne rfl (ne rfl (ne rfl (ne rfl (ne rfl (ne rfl (ne rfl (ne rfl (ne rfl (ne rfl (ne rfl (ne rfl (ne rfl f0)))))))))))))))))))))))))))))))))))))))))))))))))))))))))))))), rfl, rfl⟩ h
    · refine c_exit ?_
      refine bx_same ?_
      exact j2 _ _ _ ⟨_, _, (ne rfl f1), (ne rfl f4), (ne rfl f0), h⟩
theorem si_internal_strconv_formatBits {lp : LpT} (hL : LpOk lp) (G : Roms) : SfOk G af_internal_strconv_formatBits (ar5 (s_internal_strconv_formatBits lp G)) := by
  intro call callE hle hd
  refine fun l H n k h0 => ?_
  obtain ⟨a0, a1, a2, a3, a4, rfl, h⟩ := ar5_inv h0
  clear h0
  delta s_internal_strconv_formatBits at h
  refine f_intro rfl ?_
  refine c_seq ?_
  refine c_ops ?_
  refine ov_t (a := .nils) (k_mv rfl) ?_
  refine ov_t (a := (.str 0 0)) (k_mv rfl) ?_
  refine o0 ?_
  refine c_seqj (fun R H n => rg R q0 = a0 ∧ rg R q1 = a1 ∧ rg R q2 = a2 ∧ rg R q3 = a3 ∧ rg R q4 = a4 ∧ rg R q10 = .nils ∧ rg R q11 = (.str 0 0) ∧ s_internal_strconv_formatBits_j1 lp G call k a0 a1 a2 a3 a4 H n) ?_ fun j1 => ?_
  · rintro R H n ⟨f0, f1, f2, f3, f4, f10, f11, h⟩
    delta s_internal_strconv_formatBits_j1 at h
    refine c_seq ?_
    refine c_ops ?_
    refine oa_t h k_alloc fun v2 H n h => ?_
    refine o0 ?_
    refine c_seq ?_
    refine c_ops ?_
    refine ov_t (a := (.int .i64 (.ofNat 65) 0)) (k_mv rfl) ?_
    refine o0 ?_
    refine c_seqj (fun R H n => ∃ a1_j3, rg R q1 = a1_j3 ∧ rg R q0 = a0 ∧ rg R q2 = a2 ∧ rg R q3 = a3 ∧ rg R q4 = a4 ∧ rg R q10 = .nils ∧ rg R q11 = (.str 0 0) ∧ rg R q12 = v2 ∧ rg R q13 = (.int .i64 (.ofNat 65) 0) ∧ s_internal_strconv_formatBits_j3 lp G call k a0 a2 a3 a4 v2 a1_j3 H n) ?_ fun j3 => ?_
    · rintro R H n ⟨a1_j3, f1, f0, f2, f3, f4, f10, f11, f12, f13, h⟩
      delta s_internal_strconv_formatBits_j3 at h
      refine c_seqj (fun R H n => ∃ a13_j4, rg R q13 = a13_j4 ∧ rg R q0 = a0 ∧ rg R q3 = a3 ∧ rg R q4 = a4 ∧ rg R q10 = .nils ∧ rg R q11 = (.str 0 0) ∧ rg R q12 = v2 ∧ s_internal_strconv_formatBits_j4 lp G call k a0 a3 a4 v2 a13_j4 H n) ?_ fun j4 => ?_
      · rintro R H n ⟨a13_j4, f13, f0, f3, f4, f10, f11, f12, h⟩
        delta s_internal_strconv_formatBits_j4 at h
        refine c_seqj (fun R H n => ∃ a13_j5, rg R q13 = a13_j5 ∧ rg R q0 = a0 ∧ rg R q4 = a4 ∧ rg R q10 = .nils ∧ rg R q11 = (.str 0 0) ∧ rg R q12 = v2 ∧ s_internal_strconv_formatBits_j5 lp G call k a0 a4 v2 a13_j5 H n) ?_ fun j5 => ?_
        · rintro R H n ⟨a13_j5, f13, f0, f4, f10, f11, f12, h⟩
          delta s_internal_strconv_formatBits_j5 at h
          refine c_seq ?_
          refine c_seq ?_
          refine c_ops ?_
          refine ov_t (a := a4) (k_mv (xr f4)) ?_
          refine o0 ?_
          refine c_cond h (xr sm) (fun h => ?_) (fun h => ?_)
          · refine c_seq ?_
            refine c_ops ?_
            refine on_s h (k_slcA (xr (ne rfl f12)) (oxS (xr (ne rfl f13))) ox0) fun v6 h => ?_
            refine oe_s hle hd h (k_app (xr (ne rfl f0)) rfl) fun v7 H n h => ?_
            refine ov_t (a := v7) (k_mv rfl) ?_
            refine o0 ?_
            refine c_ret ?_
            exact fin_no (rsT sm (rsT (ne rfl (ne rfl f11)) rs0)) h
          · refine c_skip ?_
            refine c_seq ?_
            refine c_ops ?_
            refine on_s h (k_slcA (xr (ne rfl f12)) (oxS (xr (ne rfl f13))) ox0) fun v8 h => ?_
            refine on_s h (k_cvS rfl) fun v9 h => ?_
            refine ov_t (a := v9) (k_mv rfl) ?_
            refine o0 ?_
            refine c_ret ?_
            exact fin_no (rsT (ne rfl (ne rfl f10)) (rsT sm rs0)) h
        · refine c_seq ?_
          refine c_ops ?_
          refine ov_t (a := a3) (k_mv (xr f3)) ?_
          refine o0 ?_
          refine c_cond h (xr sm) (fun h => ?_) (fun h => ?_)
          · refine c_seq ?_
            refine c_ops ?_
            refine on_s h (k_bin (xr (ne rfl f13)) rfl) fun v10 h => ?_
            refine ov_t (a := v10) (k_mv rfl) ?_
            refine o0 ?_
            refine c_ops ?_
            refine on_s h (k_iaddrA (xr (ne rfl (ne rfl f12))) (xr sm)) fun v11 h => ?_
            refine oe_x hle hd h (k_st rfl rfl) fun v12 H n h => ?_
            refine o0 ?_
            exact j5 _ _ _ ⟨_, sm, (ne rfl (ne rfl f0)), (ne rfl (ne rfl f4)), (ne rfl (ne rfl f10)), (ne rfl (ne rfl f11)), (ne rfl (ne rfl f12)), h⟩
          · refine c_skip ?_
            exact j5 _ _ _ ⟨_, (ne rfl f13), (ne rfl f0), (ne rfl f4), (ne rfl f10), (ne rfl f11), (ne rfl f12), h⟩
      · refine c_seq ?_
        refine c_ops ?_
        refine oe_t hle hd h (k_call (xsS (xr f2) xs0)) fun v13 H n h => ?_
        refine o0 ?_
        refine c_cond h (xr sm) (fun h => ?_) (fun h => ?_)
        · refine c_seq ?_
          refine c_ops ?_
          refine on_s h (k_cvi (xr (ne rfl f2))) fun v14 h => ?_
          refine oe_s hle hd h (k_call (xsS rfl xs0)) fun v15 H n h => ?_
          refine on_s h (k_cvi rfl) fun v16 h => ?_
          refine ov_t (a := v16) (k_mv rfl) ?_
          refine o0 ?_
          refine c_seq ?_
          refine c_ops ?_
          refine on_s h (k_cvi (xr (ne rfl (ne rfl f2)))) fun v17 h => ?_
          refine ov_t (a := v17) (k_mv rfl) ?_
          refine o0 ?_
          refine c_seq ?_
          refine c_ops ?_
          refine on_s h (k_cvi (xr (ne rfl (ne rfl (ne rfl f2))))) fun v18 h => ?_
          refine on_s h (k_bin rfl rfl) fun v19 h => ?_
          refine ov_t (a := v19) (k_mv rfl) ?_
          refine o0 ?_
          refine c_seqj (fun R H n => ∃ a1_j20 a13_j20, rg R q1 = a1_j20 ∧ rg R q13 = a13_j20 ∧ rg R q0 = a0 ∧ rg R q3 = a3 ∧ rg R q4 = a4 ∧ rg R q10 = .nils ∧ rg R q11 = (.str 0 0) ∧ rg R q12 = v2 ∧ s_internal_strconv_formatBits_j20 lp G call k a0 a3 a4 v2 a1_j20 a13_j20 H n) ?_ fun j20 => ?_
          · rintro R H n ⟨a1_j20, a13_j20, f1, f13, f0, f3, f4, f10, f11, f12, h⟩
            delta s_internal_strconv_formatBits_j20 at h
            refine c_seq ?_
            refine c_ops ?_
            refine on_s h (k_bin (xr f13) rfl) fun v21 h => ?_
            refine ov_t (a := v21) (k_mv rfl) ?_
            refine o0 ?_
            refine c_ops ?_
            refine on_s h (k_idxS rfl (xr (ne rfl f1))) fun v22 h => ?_
            refine on_s h (k_iaddrA (xr (ne rfl f12)) (xr sm)) fun v23 h => ?_
            refine oe_x hle hd h (k_st rfl rfl) fun v24 H n h => ?_
            refine o0 ?_
            exact j4 _ _ _ ⟨_, sm, (ne rfl f0), (ne rfl f3), (ne rfl f4), (ne rfl f10), (ne rfl f11), (ne rfl f12), h⟩
          · refine c_block ?_
            refine c_loop hL (fun s R H n => rg R q1 = s.1 ∧ rg R q13 = s.2.1 ∧ rg R q0 = a0 ∧ rg R q3 = a3 ∧ rg R q4 = a4 ∧ rg R q10 = .nils ∧ rg R q11 = (.str 0 0) ∧ rg R q12 = v2 ∧ rg R q14 = v16 ∧ rg R q15 = v17 ∧ rg R q16 = v19 ∧ H = s.2.2.1 ∧ n = s.2.2.2) h ⟨(ne rfl (ne rfl (ne rfl (ne rfl f1)))), (ne rfl (ne rfl (ne rfl (ne rfl f13)))), (ne rfl (ne rfl (ne rfl (ne rfl f0)))), (ne rfl (ne rfl (ne rfl (ne rfl f3)))), (ne rfl (ne rfl (ne rfl (ne rfl f4)))), (ne rfl (ne rfl (ne rfl (ne rfl f10)))), (ne rfl (ne rfl (ne rfl (ne rfl f11)))), (ne rfl (ne rfl (ne rfl (ne rfl f12)))), (ne rfl (ne rfl sm)), (ne rfl sm), sm, rfl, rfl⟩ ?_
            rintro ih25 I25 hI25 ⟨a1_l25, a13_l25, H, n⟩ R H0 n0 ⟨f1, f13, f0, f3, f4, f10, f11, f12, f14, f15, f16, eH, eN⟩ h
            replace h : s_internal_strconv_formatBits_l25 lp G call k a0 a3 a4 v16 v17 v19 v2 ih25 a1_l25 a13_l25 H n := h
            obtain rfl : H0 = H := eH
            obtain rfl : n0 = n := eN
            delta s_internal_strconv_formatBits_l25 at h
            refine c_seq ?_
            refine c_seq ?_
            refine c_ops ?_
            refine on_t h (k_bin (xr f1) (xr f15)) fun v26 h => ?_
            refine o0 ?_
            refine c_cond h (xr sm) (fun h => ?_) (fun h => ?_)
            · refine c_skip ?_
              refine c_block ?_
              refine c_seq ?_
              refine c_ops ?_
              refine on_s h (k_bin (xr (ne rfl f13)) rfl) fun v27 h => ?_
              refine ov_t (a := v27) (k_mv rfl) ?_
              refine o0 ?_
              refine c_seq ?_
              refine c_ops ?_
              refine on_s h (k_bin (xr (ne rfl (ne rfl f1))) (xr (ne rfl (ne rfl f16)))) fun v28 h => ?_
              refine on_s h (k_idxS rfl rfl) fun v29 h => ?_
              refine on_s h (k_iaddrA (xr (ne rfl (ne rfl f12))) (xr sm)) fun v30 h => ?_
              refine oe_x hle hd h (k_st rfl rfl) fun v31 H n h => ?_
              refine o0 ?_
              refine c_ops ?_
              refine on_s h (k_bin (xr (ne rfl (ne rfl f1))) (xr (ne rfl (ne rfl f14)))) fun v32 h => ?_
              refine ov_t (a := v32) (k_mv rfl) ?_
              refine o0 ?_
              exact hI25 (v32, v27, H, n) _ _ _ ⟨sm, (ne rfl sm), (ne rfl (ne rfl (ne rfl f0))), (ne rfl (ne rfl (ne rfl f3))), (ne rfl (ne rfl (ne rfl f4))), (ne rfl (ne rfl (ne rfl f10))), (ne rfl (ne rfl (ne rfl f11))), (ne rfl (ne rfl (ne rfl f12))), (ne rfl (ne rfl (ne rfl f14))), (ne rfl (ne rfl (ne rfl f15))), (ne rfl (ne rfl (ne rfl f16))), rfl, rfl⟩ h
            · refine c_exit ?_
              refine bx_same ?_
              exact j20 _ _ _ ⟨_, _, (ne rfl f1), (ne rfl f13), (ne rfl f0), (ne rfl f3), (ne rfl f4), (ne rfl f10), (ne rfl f11), (ne rfl f12), h⟩
        · refine c_seq ?_
          refine c_ops ?_
          refine on_s h (k_cvi (xr (ne rfl f2))) fun v33 h => ?_
          refine ov_t (a := v33) (k_mv rfl) ?_
          refine o0 ?_
          refine c_seqj (fun R H n => ∃ a1_j34 a13_j34, rg R q1 = a1_j34 ∧ rg R q13 = a13_j34 ∧ rg R q0 = a0 ∧ rg R q3 = a3 ∧ rg R q4 = a4 ∧ rg R q10 = .nils ∧ rg R q11 = (.str 0 0) ∧ rg R q12 = v2 ∧ s_internal_strconv_formatBits_j34 lp G call k a0 a3 a4 v2 a1_j34 a13_j34 H n) ?_ fun j34 => ?_
          · rintro R H n ⟨a1_j34, a13_j34, f1, f13, f0, f3, f4, f10, f11, f12, h⟩
            delta s_internal_strconv_formatBits_j34 at h
            refine c_seq ?_
            refine c_ops ?_
            refine on_s h (k_bin (xr f13) rfl) fun v35 h => ?_
            refine ov_t (a := v35) (k_mv rfl) ?_
            refine o0 ?_
            refine c_ops ?_
            refine on_s h (k_idxS rfl (xr (ne rfl f1))) fun v36 h => ?_
            refine on_s h (k_iaddrA (xr (ne rfl f12)) (xr sm)) fun v37 h => ?_
            refine oe_x hle hd h (k_st rfl rfl) fun v38 H n h => ?_
            refine o0 ?_
            exact j4 _ _ _ ⟨_, sm, (ne rfl f0), (ne rfl f3), (ne rfl f4), (ne rfl f10), (ne rfl f11), (ne rfl f12), h⟩
          · refine c_block ?_
            refine c_loop hL (fun s R H n => rg R q1 = s.1 ∧ rg R q13 = s.2.1 ∧ rg R q0 = a0 ∧ rg R q3 = a3 ∧ rg R q4 = a4 ∧ rg R q10 = .nils ∧ rg R q11 = (.str 0 0) ∧ rg R q12 = v2 ∧ rg R q17 = v33 ∧ H = s.2.2.1 ∧ n = s.2.2.2) h ⟨(ne rfl (ne rfl f1)), (ne rfl (ne rfl f13)), (ne rfl (ne rfl f0)), (ne rfl (ne rfl f3)), (ne rfl (ne rfl f4)), (ne rfl (ne rfl f10)), (ne rfl (ne rfl f11)), (ne rfl (ne rfl f12)), sm, rfl, rfl⟩ ?_
            rintro ih39 I39 hI39 ⟨a1_l39, a13_l39, H, n⟩ R H0 n0 ⟨f1, f13, f0, f3, f4, f10, f11, f12, f17, eH, eN⟩ h
            replace h : s_internal_strconv_formatBits_l39 lp G call k a0 a3 a4 v2 v33 ih39 a1_l39 a13_l39 H n := h
            obtain rfl : H0 = H := eH
            obtain rfl : n0 = n := eN
            delta s_internal_strconv_formatBits_l39 at h
            refine c_seq ?_
            refine c_seq ?_
            refine c_ops ?_
            refine on_t h (k_bin (xr f1) (xr f17)) fun v40 h => ?_
            refine o0 ?_
            refine c_cond h (xr sm) (fun h => ?_) (fun h => ?_)
            · refine c_skip ?_
              refine c_block ?_
              refine c_seq ?_
              refine c_ops ?_
              refine on_s h (k_bin (xr (ne rfl f13)) rfl) fun v41 h => ?_
              refine ov_t (a := v41) (k_mv rfl) ?_
              refine o0 ?_
              refine c_seq ?_
              refine c_ops ?_
              refine on_s h (k_bin (xr (ne rfl (ne rfl f1))) (xr (ne rfl (ne rfl f17)))) fun v42 h => ?_
              refine ov_t (a := v42) (k_mv rfl) ?_
              refine o0 ?_
              refine c_seq ?_
              refine c_ops ?_
              refine on_s h (k_bin (xr sm) (xr (ne rfl (ne rfl (ne rfl f17))))) fun v43 h => ?_
              refine on_s h (k_bin (xr (ne rfl (ne rfl (ne rfl f1)))) rfl) fun v44 h => ?_
              refine on_s h (k_idxS rfl rfl) fun v45 h => ?_
              refine on_s h (k_iaddrA (xr (ne rfl (ne rfl (ne rfl f12)))) (xr (ne rfl sm))) fun v46 h => ?_
              refine oe_x hle hd h (k_st rfl rfl) fun v47 H n h => ?_
              refine o0 ?_
              refine c_ops ?_
              refine ov_t (a := v42) (k_mv (xr sm)) ?_
              refine o0 ?_
              exact hI39 (v42, v41, H, n) _ _ _ ⟨sm, (ne rfl (ne rfl sm)), (ne rfl (ne rfl (ne rfl (ne rfl f0)))), (ne rfl (ne rfl (ne rfl (ne rfl f3)))), (ne rfl (ne rfl (ne rfl (ne rfl f4)))), (ne rfl (ne rfl (ne rfl (ne rfl f10)))), (ne rfl (ne rfl (ne rfl (ne rfl f11)))), (ne rfl (ne rfl (ne rfl (ne rfl f12)))), (ne rfl (ne rfl (ne rfl (ne rfl f17)))), rfl, rfl⟩ h
            · refine c_exit ?_
              refine bx_same ?_
              exact j34 _ _ _ ⟨_, _, (ne rfl f1), (ne rfl f13), (ne rfl f0), (ne rfl f3), (ne rfl f4), (ne rfl f10), (ne rfl f11), (ne rfl f12), h⟩
    · refine c_seq ?_
      refine c_ops ?_
      refine ov_t (a := a3) (k_mv (xr (ne rfl (ne rfl f3)))) ?_
      refine o0 ?_
      refine c_cond h (xr sm) (fun h => ?_) (fun h => ?_)
      · refine c_ops ?_
        refine on_s h (k_neg (xr (ne rfl (ne rfl (ne rfl f1))))) fun v48 h => ?_
        refine ov_t (a := v48) (k_mv rfl) ?_
        refine o0 ?_
        exact j3 _ _ _ ⟨_, sm, (ne rfl (ne rfl (ne rfl (ne rfl f0)))), (ne rfl (ne rfl (ne rfl (ne rfl f2)))), (ne rfl (ne rfl (ne rfl (ne rfl f3)))), (ne rfl (ne rfl (ne rfl (ne rfl f4)))), (ne rfl (ne rfl (ne rfl (ne rfl f10)))), (ne rfl (ne rfl (ne rfl (ne rfl f11)))), (ne rfl (ne rfl (ne rfl sm))), (ne rfl (ne rfl sm)), h⟩
      · refine c_skip ?_
        exact j3 _ _ _ ⟨_, (ne rfl (ne rfl (ne rfl f1))), (ne rfl (ne rfl (ne rfl f0))), (ne rfl (ne rfl (ne rfl f2))), (ne rfl (ne rfl (ne rfl f3))), (ne rfl (ne rfl (ne rfl f4))), (ne rfl (ne rfl (ne rfl f10))), (ne rfl (ne rfl (ne rfl f11))), (ne rfl (ne rfl sm)), (ne rfl sm), h⟩
  · refine c_seq ?_
    refine c_ops ?_
    refine on_s h (k_bin (xr (ne rfl (ne rfl rfl))) rfl) fun v49 h => ?_
    refine ogn_s h rfl (k_mv (xr (ne rfl (ne rfl rfl)))) fun v50 h => ?_
    refine ogn_s h rfl (k_eq rfl rfl) fun v51 h => ?_
    refine on_s h (k_pick rfl rfl rfl) fun v52 h => ?_
    refine ogn_s h rfl (k_mv (xr (ne rfl (ne rfl rfl)))) fun v53 h => ?_
    refine ogn_s h rfl (k_bin rfl rfl) fun v54 h => ?_
    refine on_t h (k_pick rfl rfl rfl) fun v55 h => ?_
    refine o0 ?_
    refine c_cond h (xr sm) (fun h => ?_) (fun h => ?_)
    · refine c_ops ?_
      refine on_s h (k_nilck rfl) fun v56 h => ?_
      refine on_x h (k_nilck rfl) fun v57 h => ?_
      refine o0 ?_
      exact j1 _ _ _ ⟨(ne rfl (ne rfl (ne rfl rfl))), (ne rfl (ne rfl (ne rfl rfl))), (ne rfl (ne rfl (ne rfl rfl))), (ne rfl (ne rfl (ne rfl rfl))), (ne rfl (ne rfl (ne rfl rfl))), (ne rfl (ne rfl sm)), (ne rfl sm), h⟩
    · refine c_skip ?_
      exact j1 _ _ _ ⟨(ne rfl (ne rfl (ne rfl rfl))), (ne rfl (ne rfl (ne rfl rfl))), (ne rfl (ne rfl (ne rfl rfl))), (ne rfl (ne rfl (ne rfl rfl))), (ne rfl (ne rfl (ne rfl rfl))), (ne rfl (ne rfl sm)), (ne rfl sm), h⟩
theorem si_lex_lexer_step {lp : LpT} (hL : LpOk lp) (G : Roms) : SfOk G af_lex_lexer_step (ar2 (s_lex_lexer_step lp G)) := by
  intro call callE hle hd
  refine fun l H n k h0 => ?_
  obtain ⟨a0, a1, rfl, h⟩ := ar2_inv h0
  clear h0
  delta s_lex_lexer_step at h
  refine f_intro rfl ?_
  refine c_seq ?_
  refine c_ops ?_
  refine ov_t (a := a1) (k_mv (xr rfl)) ?_
  refine ov_t (a := (.int .i64 (.ofNat 0) 0)) (k_mv rfl) ?_
  refine o0 ?_
  refine c_block ?_
  refine c_loop hL (fun s R H n => rg R q5 = s.1 ∧ rg R q0 = a0 ∧ rg R q4 = a1 ∧ H = s.2.1 ∧ n = s.2.2) h ⟨sm, (ne rfl (ne rfl rfl)), (ne rfl sm), rfl, rfl⟩ ?_
  rintro ih1 I1 hI1 ⟨a5_l1, H, n⟩ R H0 n0 ⟨f5, f0, f4, eH, eN⟩ h
  replace h : s_lex_lexer_step_l1 lp G call k a0 a1 ih1 a5_l1 H n := h
  obtain rfl : H0 = H := eH
  obtain rfl : n0 = n := eN
  delta s_lex_lexer_step_l1 at h
  refine c_seq ?_
  refine c_ops ?_
  refine on_t h (k_bin (xr f5) (xr f4)) fun v2 h => ?_
  refine o0 ?_
  refine c_seq ?_
  refine c_cond h (xr sm) (fun h => ?_) (fun h => ?_)
  · refine c_skip ?_
    refine c_seq ?_
    refine c_block ?_
    refine c_seq ?_
    refine c_ops ?_
    refine on_s h (k_nilck (xr (ne rfl f0))) fun v3 h => ?_
    refine on_s h (k_faddr rfl) fun v4 h => ?_
    refine on_s h (k_faddr rfl) fun v5 h => ?_
    refine on_s h (k_ld1 rfl) fun v6 h => ?_
    refine on_s h (k_bin rfl rfl) fun v7 h => ?_
    refine on_s h (k_nilck (xr (ne rfl f0))) fun v8 h => ?_
    refine on_s h (k_faddr rfl) fun v9 h => ?_
    refine on_s h (k_faddr rfl) fun v10 h => ?_
    refine oe_x hle hd h (k_st rfl rfl) fun v11 H n h => ?_
    refine o0 ?_
    refine c_seqj (fun R H n => rg R q0 = a0 ∧ rg R q4 = a1 ∧ rg R q5 = a5_l1 ∧ s_lex_lexer_step_j12 lp G call k ih1 a0 a1 a5_l1 H n) ?_ fun j12 => ?_
    · rintro R H n ⟨f0, f4, f5, h⟩
      delta s_lex_lexer_step_j12 at h
      refine c_ops ?_
      refine on_s h (k_nilck (xr f0)) fun v13 h => ?_
      refine on_s h (k_faddr rfl) fun v14 h => ?_
      refine on_s h (k_ld1 rfl) fun v15 h => ?_
      refine on_s h (k_bin rfl rfl) fun v16 h => ?_
      refine on_s h (k_nilck (xr f0)) fun v17 h => ?_
      refine on_s h (k_faddr rfl) fun v18 h => ?_
      refine oe_x hle hd h (k_st rfl rfl) fun v19 H n h => ?_
      refine o0 ?_
      refine c_ops ?_
      refine on_s h (k_bin (xr f5) rfl) fun v20 h => ?_
      refine ov_t (a := v20) (k_mv rfl) ?_
      refine o0 ?_
      exact hI1 (v20, H, n) _ _ _ ⟨sm, (ne rfl f0), (ne rfl f4), rfl, rfl⟩ h
    · refine c_seq ?_
      refine c_reg ?_
      refine iv_t (a := a0) (k_mv (xr (ne rfl f0))) ?_
      refine in_t h (k_nilck (xr sm)) fun v21 h => ?_
      refine in_t h (k_faddr (xr sm)) fun v22 h => ?_
      refine in_t h (k_ld1 (xr sm)) fun v23 h => ?_
      refine iv_t (a := a0) (k_mv (xr (ne rfl (ne rfl (ne rfl (ne rfl (ne rfl f0))))))) ?_
      refine in_t h (k_nilck (xr sm)) fun v24 h => ?_
      refine in_t h (k_faddr (xr sm)) fun v25 h => ?_
      refine in_t h (k_ld1 (xr sm)) fun v26 h => ?_
      refine in_t h (k_idxS (xr (ne rfl (ne rfl (ne rfl (ne rfl sm))))) (xr sm)) fun v27 h => ?_
      refine in_t h (k_eq (xr sm) rfl) fun v28 h => ?_
      refine i0 ?_
      refine c_cond h (xr sm) (fun h => ?_) (fun h => ?_)
      · refine c_ops ?_
        refine on_s h (k_nilck (xr (ne rfl (ne rfl (ne rfl (ne rfl (ne rfl (ne rfl (ne rfl (ne rfl (ne rfl (ne rfl (ne rfl f0))))))))))))) fun v29 h => ?_
        refine on_s h (k_faddr rfl) fun v30 h => ?_
        refine on_s h (k_faddr rfl) fun v31 h => ?_
        refine on_s h (k_ld1 rfl) fun v32 h => ?_
        refine on_s h (k_bin rfl rfl) fun v33 h => ?_
        refine on_s h (k_build (psS rfl (psS rfl ps0))) fun v34 h => ?_
        refine on_s h (k_nilck (xr (ne rfl (ne rfl (ne rfl (ne rfl (ne rfl (ne rfl (ne rfl (ne rfl (ne rfl (ne rfl (ne rfl f0))))))))))))) fun v35 h => ?_
        refine on_s h (k_faddr rfl) fun v36 h => ?_
        refine oe_x hle hd h (k_st rfl rfl) fun v37 H n h => ?_
        refine o0 ?_
        exact j12 _ _ _ ⟨(ne rfl (ne rfl (ne rfl (ne rfl (ne rfl (ne rfl (ne rfl (ne rfl (ne rfl (ne rfl (ne rfl f0))))))))))), (ne rfl (ne rfl (ne rfl (ne rfl (ne rfl (ne rfl (ne rfl (ne rfl (ne rfl (ne rfl (ne rfl f4))))))))))), (ne rfl (ne rfl (ne rfl (ne rfl (ne rfl (ne rfl (ne rfl (ne rfl (ne rfl (ne rfl (ne rfl f5))))))))))), h⟩
      · refine c_skip ?_
        exact j12 _ _ _ ⟨(ne rfl (ne rfl (ne rfl (ne rfl (ne rfl (ne rfl (ne rfl (ne rfl (ne rfl (ne rfl (ne rfl f0))))))))))), (ne rfl (ne rfl (ne rfl (ne rfl (ne rfl (ne rfl (ne rfl (ne rfl (ne rfl (ne rfl (ne rfl f4))))))))))), (ne rfl (ne rfl (ne rfl (ne rfl (ne rfl (ne rfl (ne rfl (ne rfl (ne rfl (ne rfl (ne rfl f5))))))))))), h⟩
  · refine c_exit ?_
    refine bx_same ?_
    exact fin_no rs0 h
theorem si_strings_HasPrefix {lp : LpT} (hL : LpOk lp) (G : Roms) : SfOk G af_strings_HasPrefix (ar2 (s_strings_HasPrefix lp G)) := by
  intro call callE hle hd
  refine fun l H n k h0 => ?_
  obtain ⟨a0, a1, rfl, h⟩ := ar2_inv h0
  clear h0
  delta s_strings_HasPrefix at h
  refine f_intro rfl ?_
  refine c_seq ?_
  refine c_ops ?_
  refine ov_t (a := (.bool false)) (k_mv rfl) ?_
  refine o0 ?_
  refine c_seq ?_
  refine c_ops ?_
  refine oe_s hle hd h (k_call (xsS (xr (ne rfl rfl)) (xsS (xr (ne rfl rfl)) xs0))) fun v1 H n h => ?_
  refine ov_t (a := v1) (k_mv rfl) ?_
  refine o0 ?_
  refine c_ret ?_
  exact fin_no (rsT sm rs0) h
theorem si_strings_IndexByte {lp : LpT} (hL : LpOk lp) (G : Roms) : SfOk G af_strings_IndexByte (ar2 (s_strings_IndexByte lp G)) := by
  intro call callE hle hd
  refine fun l H n k h0 => ?_
  obtain ⟨a0, a1, rfl, h⟩ := ar2_inv h0
  clear h0
  delta s_strings_IndexByte at h
  refine f_intro rfl ?_
  refine c_seq ?_
  refine c_ops ?_
  refine ov_t (a := (.int .i64 (.ofNat 0) 0)) (k_mv rfl) ?_
  refine o0 ?_
  refine c_seq ?_
  refine c_ops ?_
  refine oe_s hle hd h (k_call (xsS (xr (ne rfl rfl)) (xsS (xr (ne rfl rfl)) xs0))) fun v1 H n h => ?_
  refine ov_t (a := v1) (k_mv rfl) ?_
  refine o0 ?_
  refine c_ret ?_
  exact fin_no (rsT sm rs0) h
theorem si_lex_great {lp : LpT} (hL : LpOk lp) (G : Roms) : SfOk G af_lex_great (ar1 (s_lex_great lp G)) := by
  intro call callE hle hd
  refine fun l H n k h0 => ?_
  obtain ⟨a0, rfl, h⟩ := ar1_inv h0
  clear h0
  delta s_lex_great at h
  refine f_intro rfl ?_
  refine c_seq ?_
  refine c_ops ?_
  refine ov_t (a := (.bool false)) (k_mv rfl) ?_
  refine o0 ?_
  refine c_seq ?_
  refine c_ops ?_
  refine on_s h (k_bin (xr (ne rfl rfl)) rfl) fun v1 h => ?_
  refine ogn_s h rfl (k_mv (xr (ne rfl rfl))) fun v2 h => ?_
  refine ogn_s h rfl (k_bin rfl rfl) fun v3 h => ?_
  refine on_s h (k_pick rfl rfl rfl) fun v4 h => ?_
  refine ov_t (a := v4) (k_mv rfl) ?_
  refine o0 ?_
  refine c_ret ?_
  exact fin_no (rsT sm rs0) h
theorem si_lex_lexer_run {lp : LpT} (hL : LpOk lp) (G : Roms) : SfOk G af_lex_lexer_run (ar2 (s_lex_lexer_run lp G)) := by
  intro call callE hle hd
  refine fun l H n k h0 => ?_
  obtain ⟨a0, a1, rfl, h⟩ := ar2_inv h0
  clear h0
  delta s_lex_lexer_run at h
  refine f_intro rfl ?_
  refine c_seq ?_
  refine c_ops ?_
  refine ov_t (a := (.str 0 0)) (k_mv rfl) ?_
  refine o0 ?_
  refine c_seq ?_
  refine c_ops ?_
  refine ov_t (a := (.int .i64 (.ofNat 0) 0)) (k_mv rfl) ?_
  refine o0 ?_
  refine c_seqj (fun R H n => ∃ a5_j1, rg R q5 = a5_j1 ∧ rg R q0 = a0 ∧ s_lex_lexer_run_j1 lp G call k a0 a5_j1 H n) ?_ fun j1 => ?_
  · rintro R H n ⟨a5_j1, f5, f0, h⟩
    delta s_lex_lexer_run_j1 at h
    refine c_seq ?_
    refine c_reg ?_
    refine iv_t (a := a0) (k_mv (xr f0)) ?_
    refine in_t h (k_nilck (xr sm)) fun v2 h => ?_
    refine in_t h (k_faddr (xr sm)) fun v3 h => ?_
    refine in_t h (k_ld1 (xr sm)) fun v4 h => ?_
    refine iv_t (a := a0) (k_mv (xr (ne rfl (ne rfl (ne rfl (ne rfl f0)))))) ?_
    refine in_t h (k_nilck (xr sm)) fun v5 h => ?_
    refine in_t h (k_faddr (xr sm)) fun v6 h => ?_
    refine in_t h (k_ld1 (xr sm)) fun v7 h => ?_
    refine iv_t (a := a0) (k_mv (xr (ne rfl (ne rfl (ne rfl (ne rfl (ne rfl (ne rfl (ne rfl (ne rfl f0)))))))))) ?_
    refine in_t h (k_nilck (xr sm)) fun v8 h => ?_
    refine in_t h (k_faddr (xr sm)) fun v9 h => ?_
    refine in_t h (k_ld1 (xr sm)) fun v10 h => ?_
    refine iv_t (a := a5_j1) (k_mv (xr (ne rfl (ne rfl (ne rfl (ne rfl (ne rfl (ne rfl (ne rfl (ne rfl (ne rfl (ne rfl (ne rfl (ne rfl f5)))))))))))))) ?_
    refine in_t h (k_bin (xr (ne rfl sm)) (xr sm)) fun v11 h => ?_
    refine in_t h (k_slcS (xr (ne rfl (ne rfl (ne rfl (ne rfl (ne rfl (ne rfl (ne rfl (ne rfl (ne rfl (ne rfl sm))))))))))) (oxS (xr (ne rfl (ne rfl (ne rfl (ne rfl (ne rfl (ne rfl sm)))))))) (oxS (xr sm))) fun v12 h => ?_
    refine iv_t (a := v12) (k_mv (xr sm)) ?_
    refine i0 ?_
    refine c_ret ?_
    exact fin_no (rsT sm rs0) h
  · refine c_block ?_
    refine c_loop hL (fun s R H n => rg R q5 = s.1 ∧ rg R q0 = a0 ∧ rg R q1 = a1 ∧ H = s.2.1 ∧ n = s.2.2) h ⟨sm, (ne rfl (ne rfl rfl)), (ne rfl (ne rfl rfl)), rfl, rfl⟩ ?_
    rintro ih13 I13 hI13 ⟨a5_l13, H, n⟩ R H0 n0 ⟨f5, f0, f1, eH, eN⟩ h
    replace h : s_lex_lexer_run_l13 lp G call k a0 a1 ih13 a5_l13 H n := h
    obtain rfl : H0 = H := eH
    obtain rfl : n0 = n := eN
    delta s_lex_lexer_run_l13 at h
    refine c_seq ?_
    refine c_seq ?_
    refine c_reg ?_
    refine iv_t (a := a0) (k_mv (xr f0)) ?_
    refine in_t h (k_nilck (xr sm)) fun v14 h => ?_
    refine in_t h (k_faddr (xr sm)) fun v15 h => ?_
    refine in_t h (k_ld1 (xr sm)) fun v16 h => ?_
    refine iv_t (a := a5_l13) (k_mv (xr (ne rfl (ne rfl (ne rfl (ne rfl f5)))))) ?_
    refine in_t h (k_bin (xr (ne rfl sm)) (xr sm)) fun v17 h => ?_
    refine iv_t (a := a0) (k_mv (xr (ne rfl (ne rfl (ne rfl (ne rfl (ne rfl (ne rfl f0)))))))) ?_
    refine in_t h (k_nilck (xr sm)) fun v18 h => ?_
    refine in_t h (k_faddr (xr sm)) fun v19 h => ?_
    refine in_t h (k_ld1 (xr sm)) fun v20 h => ?_
    refine in_t h (k_lenS (xr sm)) fun v21 h => ?_
    refine in_t h (k_bin (xr (ne rfl (ne rfl (ne rfl (ne rfl (ne rfl sm)))))) (xr sm)) fun v22 h => ?_
    refine iv_t (a := v22) (k_mv (xr sm)) ?_
    refine ign_t h (xr sm) (k_mv (xr (ne rfl (ne rfl (ne rfl (ne rfl (ne rfl (ne rfl (ne rfl (ne rfl (ne rfl (ne rfl (ne rfl (ne rfl (ne rfl f1))))))))))))))) fun v23 h => ?_
    refine ign_t h (xr (ne rfl sm)) (k_mv (xr (ne rfl (ne rfl (ne rfl (ne rfl (ne rfl (ne rfl (ne rfl (ne rfl (ne rfl (ne rfl (ne rfl (ne rfl (ne rfl (ne rfl f0)))))))))))))))) fun v24 h => ?_
    refine ign_t h (xr (ne rfl (ne rfl sm))) (k_nilck (xr sm)) fun v25 h => ?_
    refine ign_t h (xr (ne rfl (ne rfl (ne rfl sm)))) (k_faddr (xr sm)) fun v26 h => ?_
    refine ign_t h (xr (ne rfl (ne rfl (ne rfl (ne rfl sm))))) (k_ld1 (xr sm)) fun v27 h => ?_
    refine ign_t h (xr (ne rfl (ne rfl (ne rfl (ne rfl (ne rfl sm)))))) (k_mv (xr (ne rfl (ne rfl (ne rfl (ne rfl (ne rfl (ne rfl (ne rfl (ne rfl (ne rfl (ne rfl (ne rfl (ne rfl (ne rfl (ne rfl (ne rfl (ne rfl (ne rfl (ne rfl f0)))))))))))))))))))) fun v28 h => ?_
    refine ign_t h (xr (ne rfl (ne rfl (ne rfl (ne rfl (ne rfl (ne rfl sm))))))) (k_nilck (xr sm)) fun v29 h => ?_
    refine ign_t h (xr (ne rfl (ne rfl (ne rfl (ne rfl (ne rfl (ne rfl (ne rfl sm)))))))) (k_faddr (xr sm)) fun v30 h => ?_
    refine ign_t h (xr (ne rfl (ne rfl (ne rfl (ne rfl (ne rfl (ne rfl (ne rfl (ne rfl sm))))))))) (k_ld1 (xr sm)) fun v31 h => ?_
    refine ign_t h (xr (ne rfl (ne rfl (ne rfl (ne rfl (ne rfl (ne rfl (ne rfl (ne rfl (ne rfl sm)))))))))) (k_mv (xr (ne rfl (ne rfl (ne rfl (ne rfl (ne rfl (ne rfl (ne rfl (ne rfl (ne rfl (ne rfl (ne rfl (ne rfl (ne rfl (ne rfl (ne rfl (ne rfl (ne rfl (ne rfl (ne rfl (ne rfl (ne rfl (ne rfl f5)))))))))))))))))))))))) fun v32 h => ?_
    refine ign_t h (xr (ne rfl (ne rfl (ne rfl (ne rfl (ne rfl (ne rfl (ne rfl (ne rfl (ne rfl (ne rfl sm))))))))))) (k_bin (xr (ne rfl sm)) (xr sm)) fun v33 h => ?_
    refine ign_t h (xr (ne rfl (ne rfl (ne rfl (ne rfl (ne rfl (ne rfl (ne rfl (ne rfl (ne rfl (ne rfl (ne rfl sm)))))))))))) (k_idxS (xr (ne rfl (ne rfl (ne rfl (ne rfl (ne rfl (ne rfl sm))))))) (xr sm)) fun v34 h => ?_
    refine ige_t hle hd h (xr (ne rfl (ne rfl (ne rfl (ne rfl (ne rfl (ne rfl (ne rfl (ne rfl (ne rfl (ne rfl (ne rfl (ne rfl sm))))))))))))) (k_callv (xr (ne rfl (ne rfl (ne rfl (ne rfl (ne rfl (ne rfl (ne rfl (ne rfl (ne rfl (ne rfl (ne rfl sm)))))))))))) (xsS (xr sm) xs0)) fun v35 H n h => ?_
    refine in_t h (k_pick (xr (ne rfl (ne rfl (ne rfl (ne rfl (ne rfl (ne rfl (ne rfl (ne rfl (ne rfl (ne rfl (ne rfl (ne rfl (ne rfl sm)))))))))))))) (xr sm) rfl) fun v36 h => ?_
    refine i0 ?_
    refine c_cond h (xr sm) (fun h => ?_) (fun h => ?_)
    · refine c_skip ?_
      refine c_block ?_
      refine c_ops ?_
      refine on_s h (k_bin (xr (ne rfl (ne rfl (ne rfl (ne rfl (ne rfl (ne rfl (ne rfl (ne rfl (ne rfl (ne rfl (ne rfl (ne rfl (ne rfl (ne rfl (ne rfl (ne rfl (ne rfl (ne rfl (ne rfl (ne rfl (ne rfl (ne rfl (ne rfl (ne rfl (ne rfl (ne rfl (ne rfl f5)))))))))))))))))))))))))))) rfl) fun v37 h => ?_
      refine ov_t (a := v37) (k_mv rfl) ?_
      refine o0 ?_
      exact hI13 (v37, H, n) _ _ _ ⟨sm, (ne rfl (ne rfl (ne rfl (ne rfl (ne rfl (ne rfl (ne rfl (ne rfl (ne rfl (ne rfl (ne rfl (ne rfl (ne rfl (ne rfl (ne rfl (ne rfl (ne rfl (ne rfl (ne rfl (ne rfl (ne rfl (ne rfl (ne rfl (ne rfl (ne rfl (ne rfl (ne rfl (ne rfl f0)))))))))))))))))))))))))))), (ne rfl (ne rfl (ne rfl (ne rfl (ne rfl (ne rfl (ne rfl (ne rfl (ne rfl (ne rfl (ne rfl (ne rfl (ne rfl (ne rfl (ne rfl (ne rfl (ne rfl (ne rfl (ne rfl (ne rfl (ne rfl (ne rfl (ne rfl (ne rfl (ne rfl (ne rfl (ne rfl (ne rfl f1)))))))))))))))))))))))))))), rfl, rfl⟩ h
    · refine c_exit ?_
      refine bx_same ?_
      exact j1 _ _ _ ⟨_, (ne rfl (ne rfl (ne rfl (ne rfl (ne rfl (ne rfl (ne rfl (ne rfl (ne rfl (ne rfl (ne rfl (ne rfl (ne rfl (ne rfl (ne rfl (ne rfl (ne rfl (ne rfl (ne rfl (ne rfl (ne rfl (ne rfl (ne rfl (ne rfl (ne rfl (ne rfl (ne rfl f5))))))))))))))))))))))))))), (ne rfl (ne rfl (ne rfl (ne rfl (ne rfl (ne rfl (ne rfl (ne rfl (ne rfl (ne rfl (ne rfl (ne rfl (ne rfl (ne rfl (ne rfl (ne rfl (ne rfl (ne rfl (ne rfl (ne rfl (ne rfl (ne rfl (ne rfl (ne rfl (ne rfl (ne rfl (ne rfl f0))))))))))))))))))))))))))), h⟩
theorem si_lex_inner {lp : LpT} (hL : LpOk lp) (G : Roms) : SfOk G af_lex_inner (ar1 (s_lex_inner lp G)) := by
  intro call callE hle hd
  refine fun l H n k h0 => ?_
  obtain ⟨a0, rfl, h⟩ := ar1_inv h0
  clear h0
  delta s_lex_inner at h
  refine f_intro rfl ?_
  refine c_seq ?_
  refine c_ops ?_
  refine ov_t (a := (.bool false)) (k_mv rfl) ?_
  refine o0 ?_
  refine c_seq ?_
  refine c_ops ?_
  refine oe_s hle hd h (k_call (xsS (xr (ne rfl rfl)) xs0)) fun v1 H n h => ?_
  refine ogn_s h rfl (k_mv (xr (ne rfl rfl))) fun v2 h => ?_
  refine oge_s hle hd h rfl (k_call (xsS rfl xs0)) fun v3 H n h => ?_
  refine on_s h (k_pick rfl rfl rfl) fun v4 h => ?_
  refine ogn_s h rfl (k_mv (xr (ne rfl rfl))) fun v5 h => ?_
  refine oge_s hle hd h rfl (k_call (xsS rfl xs0)) fun v6 H n h => ?_
  refine on_s h (k_pick rfl rfl rfl) fun v7 h => ?_
  refine ogn_s h rfl (k_mv (xr (ne rfl rfl))) fun v8 h => ?_
  refine ogn_s h rfl (k_eq rfl rfl) fun v9 h => ?_
  refine on_s h (k_pick rfl rfl rfl) fun v10 h => ?_
  refine ov_t (a := v10) (k_mv rfl) ?_
  refine o0 ?_
  refine c_ret ?_
  exact fin_no (rsT sm rs0) h
theorem si_lex_small {lp : LpT} (hL : LpOk lp) (G : Roms) : SfOk G af_lex_small (ar1 (s_lex_small lp G)) := by
  intro call callE hle hd
  refine fun l H n k h0 => ?_
  obtain ⟨a0, rfl, h⟩ := ar1_inv h0
  clear h0
  delta s_lex_small at h
  refine f_intro rfl ?_
  refine c_seq ?_
  refine c_ops ?_
  refine ov_t (a := (.bool false)) (k_mv rfl) ?_
  refine o0 ?_
  refine c_seq ?_
  refine c_ops ?_
  refine on_s h (k_bin (xr (ne rfl rfl)) rfl) fun v1 h => ?_
  refine ogn_s h rfl (k_mv (xr (ne rfl rfl))) fun v2 h => ?_
  refine ogn_s h rfl (k_bin rfl rfl) fun v3 h => ?_
  refine on_s h (k_pick rfl rfl rfl) fun v4 h => ?_
  refine ov_t (a := v4) (k_mv rfl) ?_
  refine o0 ?_
  refine c_ret ?_
  exact fin_no (rsT sm rs0) h
theorem si_lex_words {lp : LpT} (hL : LpOk lp) (G : Roms) : SfOk G af_lex_words (ar1 (s_lex_words lp G)) := by
  intro call callE hle hd
  refine fun l H n k h0 => ?_
  obtain ⟨a0, rfl, h⟩ := ar1_inv h0
  clear h0
  delta s_lex_words at h
  refine f_intro rfl ?_
  refine c_seq ?_
  refine c_ops ?_
  refine ov_t (a := (.bool false)) (k_mv rfl) ?_
  refine o0 ?_
  refine c_seq ?_
  refine c_seq ?_
  refine c_ops ?_
  refine ov_t (a := a0) (k_mv (xr (ne rfl rfl))) ?_
  refine o0 ?_
  refine c_block ?_
  refine c_seqj (fun R H n => ∃ a4_j1, rg R q4 = a4_j1 ∧ s_lex_words_j1 lp G call k a4_j1 H n) ?_ fun j1 => ?_
  · rintro R H n ⟨a4_j1, f4, h⟩
    delta s_lex_words_j1 at h
    refine c_cond h (xr f4) (fun h => ?_) (fun h => ?_)
    · refine c_seq ?_
      refine c_ops ?_
      refine ov_t (a := (.bool true)) (k_mv rfl) ?_
      refine o0 ?_
      refine c_ret ?_
      exact fin_no (rsT sm rs0) h
    · refine c_skip ?_
      refine c_seq ?_
      refine c_ops ?_
      refine ov_t (a := (.bool false)) (k_mv rfl) ?_
      refine o0 ?_
      refine c_ret ?_
      exact fin_no (rsT sm rs0) h
  · refine c_seq ?_
    refine c_ops ?_
    refine on_s h (k_eq (xr sm) rfl) fun v2 h => ?_
    refine ov_t (a := v2) (k_mv rfl) ?_
    refine o0 ?_
    refine c_cond h (xr sm) (fun h => ?_) (fun h => ?_)
    · refine c_skip ?_
      exact j1 _ _ _ ⟨_, sm, h⟩
    · refine c_seq ?_
      refine c_ops ?_
      refine on_s h (k_eq (xr (ne rfl sm)) rfl) fun v3 h => ?_
      refine ov_t (a := v3) (k_mv rfl) ?_
      refine o0 ?_
      refine c_cond h (xr sm) (fun h => ?_) (fun h => ?_)
      · refine c_skip ?_
        exact j1 _ _ _ ⟨_, sm, h⟩
      · refine c_seq ?_
        refine c_ops ?_
        refine on_s h (k_eq (xr (ne rfl (ne rfl sm))) rfl) fun v4 h => ?_
        refine ov_t (a := v4) (k_mv rfl) ?_
        refine o0 ?_
        refine c_cond h (xr sm) (fun h => ?_) (fun h => ?_)
        · refine c_skip ?_
          exact j1 _ _ _ ⟨_, sm, h⟩
        · refine c_seq ?_
          refine c_ops ?_
          refine on_s h (k_eq (xr (ne rfl (ne rfl (ne rfl sm)))) rfl) fun v5 h => ?_
          refine ov_t (a := v5) (k_mv rfl) ?_
          refine o0 ?_
          refine c_cond h (xr sm) (fun h => ?_) (fun h => ?_)
          · refine c_skip ?_
            exact j1 _ _ _ ⟨_, sm, h⟩
          · refine c_seq ?_
            refine c_ops ?_
            refine on_s h (k_eq (xr (ne rfl (ne rfl (ne rfl (ne rfl sm))))) rfl) fun v6 h => ?_
            refine ov_t (a := v6) (k_mv rfl) ?_
            refine o0 ?_
            refine c_cond h (xr sm) (fun h => ?_) (fun h => ?_)
            · refine c_skip ?_
              exact j1 _ _ _ ⟨_, sm, h⟩
            · refine c_seq ?_
              refine c_ops ?_
              refine on_s h (k_eq (xr (ne rfl (ne rfl (ne rfl (ne rfl (ne rfl sm)))))) rfl) fun v7 h => ?_
              refine ov_t (a := v7) (k_mv rfl) ?_
              refine o0 ?_
              refine c_cond h (xr sm) (fun h => ?_) (fun h => ?_)
              · refine c_skip ?_
                exact j1 _ _ _ ⟨_, sm, h⟩
              · refine c_seq ?_
                refine c_ops ?_
                refine on_s h (k_eq (xr (ne rfl (ne rfl (ne rfl (ne rfl (ne rfl (ne rfl sm))))))) rfl) fun v8 h => ?_
                refine ov_t (a := v8) (k_mv rfl) ?_
                refine o0 ?_
                refine c_cond h (xr sm) (fun h => ?_) (fun h => ?_)
                · refine c_skip ?_
                  exact j1 _ _ _ ⟨_, sm, h⟩
                · refine c_seq ?_
                  refine c_ops ?_
                  refine on_s h (k_eq (xr (ne rfl (ne rfl (ne rfl (ne rfl (ne rfl (ne rfl (ne rfl sm)))))))) rfl) fun v9 h => ?_
                  refine ov_t (a := v9) (k_mv rfl) ?_
                  refine o0 ?_
                  refine c_cond h (xr sm) (fun h => ?_) (fun h => ?_)
                  · refine c_skip ?_
                    exact j1 _ _ _ ⟨_, sm, h⟩
                  · refine c_seq ?_
                    refine c_ops ?_
                    refine on_s h (k_eq (xr (ne rfl (ne rfl (ne rfl (ne rfl (ne rfl (ne rfl (ne rfl (ne rfl sm))))))))) rfl) fun v10 h => ?_
                    refine ov_t (a := v10) (k_mv rfl) ?_
                    refine o0 ?_
                    refine c_cond h (xr sm) (fun h => ?_) (fun h => ?_)
                    · refine c_skip ?_
                      exact j1 _ _ _ ⟨_, sm, h⟩
                    · refine c_seq ?_
                      refine c_ops ?_
                      refine on_s h (k_eq (xr (ne rfl (ne rfl (ne rfl (ne rfl (ne rfl (ne rfl (ne rfl (ne rfl (ne rfl sm)))))))))) rfl) fun v11 h => ?_
                      refine ov_t (a := v11) (k_mv rfl) ?_
                      refine o0 ?_
                      refine c_cond h (xr sm) (fun h => ?_) (fun h => ?_)
                      · refine c_skip ?_
                        exact j1 _ _ _ ⟨_, sm, h⟩
                      · refine c_seq ?_
                        refine c_ops ?_
                        refine on_s h (k_eq (xr (ne rfl (ne rfl (ne rfl (ne rfl (ne rfl (ne rfl (ne rfl (ne rfl (ne rfl (ne rfl sm))))))))))) rfl) fun v12 h => ?_
                        refine ov_t (a := v12) (k_mv rfl) ?_
                        refine o0 ?_
                        refine c_cond h (xr sm) (fun h => ?_) (fun h => ?_)
                        · refine c_skip ?_
                          exact j1 _ _ _ ⟨_, sm, h⟩
                        · refine c_seq ?_
                          refine c_ops ?_
                          refine on_s h (k_eq (xr (ne rfl (ne rfl (ne rfl (ne rfl (ne rfl (ne rfl (ne rfl (ne rfl (ne rfl (ne rfl (ne rfl sm)))))))))))) rfl) fun v13 h => ?_
                          refine ov_t (a := v13) (k_mv rfl) ?_
                          refine o0 ?_
                          refine c_cond h (xr sm) (fun h => ?_) (fun h => ?_)
                          · refine c_skip ?_
                            exact j1 _ _ _ ⟨_, sm, h⟩
                          · refine c_seq ?_
                            refine c_ops ?_
                            refine on_s h (k_eq (xr (ne rfl (ne rfl (ne rfl (ne rfl (ne rfl (ne rfl (ne rfl (ne rfl (ne rfl (ne rfl (ne rfl (ne rfl sm))))))))))))) rfl) fun v14 h => ?_
                            refine ov_t (a := v14) (k_mv rfl) ?_
                            refine o0 ?_
                            refine c_cond h (xr sm) (fun h => ?_) (fun h => ?_)
                            · refine c_skip ?_
                              exact j1 _ _ _ ⟨_, sm, h⟩
                            · refine c_seq ?_
                              refine c_ops ?_
                              refine on_s h (k_eq (xr (ne rfl (ne rfl (ne rfl (ne rfl (ne rfl (ne rfl (ne rfl (ne rfl (ne rfl (ne rfl (ne rfl (ne rfl (ne rfl sm)))))))))))))) rfl) fun v15 h => ?_
                              refine ov_t (a := v15) (k_mv rfl) ?_
                              refine o0 ?_
                              refine c_cond h (xr sm) (fun h => ?_) (fun h => ?_)
                              · refine c_skip ?_
                                exact j1 _ _ _ ⟨_, sm, h⟩
                              · refine c_seq ?_
                                refine c_ops ?_
                                refine on_s h (k_eq (xr (ne rfl (ne rfl (ne rfl (ne rfl (ne rfl (ne rfl (ne rfl (ne rfl (ne rfl (ne rfl (ne rfl (ne rfl (ne rfl (ne rfl sm))))))))))))))) rfl) fun v16 h => ?_
                                refine ov_t (a := v16) (k_mv rfl) ?_
                                refine o0 ?_
                                refine c_cond h (xr sm) (fun h => ?_) (fun h => ?_)
                                · refine c_skip ?_
                                  exact j1 _ _ _ ⟨_, sm, h⟩
                                · refine c_seq ?_
                                  refine c_ops ?_
                                  refine on_s h (k_eq (xr (ne rfl (ne rfl (ne rfl (ne rfl (ne rfl (ne rfl (ne rfl (ne rfl (ne rfl (ne rfl (ne rfl (ne rfl (ne rfl (ne rfl (ne rfl sm)))))))))))))))) rfl) fun v17 h => ?_
                                  refine ov_t (a := v17) (k_mv rfl) ?_
                                  refine o0 ?_
                                  refine c_cond h (xr sm) (fun h => ?_) (fun h => ?_)
                                  · refine c_skip ?_
                                    exact j1 _ _ _ ⟨_, sm, h⟩
                                  · refine c_seq ?_
                                    refine c_ops ?_
                                    refine on_s h (k_eq (xr (ne rfl (ne rfl (ne rfl (ne rfl (ne rfl (ne rfl (ne rfl (ne rfl (ne rfl (ne rfl (ne rfl (ne rfl (ne rfl (ne rfl (ne rfl (ne rfl sm))))))))))))))))) rfl) fun v18 h => ?_
                                    refine ov_t (a := v18) (k_mv rfl) ?_
                                    refine o0 ?_
                                    refine c_cond h (xr sm) (fun h => ?_) (fun h => ?_)
                                    · refine c_skip ?_
                                      exact j1 _ _ _ ⟨_, sm, h⟩
                                    · refine c_seq ?_
                                      refine c_ops ?_
                                      refine on_s h (k_eq (xr (ne rfl (ne rfl (ne rfl (ne rfl (ne rfl (ne rfl (ne rfl (ne rfl (ne rfl (ne rfl (ne rfl (ne rfl (ne rfl (ne rfl (ne rfl (ne rfl (ne rfl sm)))))))))))))))))) rfl) fun v19 h => ?_
                                      refine ov_t (a := v19) (k_mv rfl) ?_
                                      refine o0 ?_
                                      refine c_cond h (xr sm) (fun h => ?_) (fun h => ?_)
                                      · refine c_skip ?_
                                        exact j1 _ _ _ ⟨_, sm, h⟩
                                      · refine c_seq ?_
                                        refine c_ops ?_
                                        refine on_s h (k_eq (xr (ne rfl (ne rfl (ne rfl (ne rfl (ne rfl (ne rfl (ne rfl (ne rfl (ne rfl (ne rfl (ne rfl (ne rfl (ne rfl (ne rfl (ne rfl (ne rfl (ne rfl (ne rfl sm))))))))))))))))))) rfl) fun v20 h => ?_
                                        refine ov_t (a := v20) (k_mv rfl) ?_
                                        refine o0 ?_
                                        refine c_cond h (xr sm) (fun h => ?_) (fun h => ?_)
                                        · refine c_skip ?_
                                          exact j1 _ _ _ ⟨_, sm, h⟩
                                        · refine c_seq ?_
                                          refine c_ops ?_
                                          refine on_s h (k_eq (xr (ne rfl (ne rfl (ne rfl (ne rfl (ne rfl (ne rfl (ne rfl (ne rfl (ne rfl (ne rfl (ne rfl (ne rfl (ne rfl (ne rfl (ne rfl (ne rfl (ne rfl (ne rfl (ne rfl sm)))))))))))))))))))) rfl) fun v21 h => ?_
                                          refine ov_t (a := v21) (k_mv rfl) ?_
                                          refine o0 ?_
                                          refine c_cond h (xr sm) (fun h => ?_) (fun h => ?_)
                                          · refine c_skip ?_
                                            exact j1 _ _ _ ⟨_, sm, h⟩
                                          · refine c_ops ?_
                                            refine on_s h (k_eq (xr (ne rfl (ne rfl (ne rfl (ne rfl (ne rfl (ne rfl (ne rfl (ne rfl (ne rfl (ne rfl (ne rfl (ne rfl (ne rfl (ne rfl (ne rfl (ne rfl (ne rfl (ne rfl (ne rfl (ne rfl sm))))))))))))))))))))) rfl) fun v22 h => ?_
                                            refine ov_t (a := v22) (k_mv rfl) ?_
                                            refine o0 ?_
                                            exact j1 _ _ _ ⟨_, sm, h⟩
theorem si_lex_digit {lp : LpT} (hL : LpOk lp) (G : Roms) : SfOk G af_lex_digit (ar1 (s_lex_digit lp G)) := by
  intro call callE hle hd
  refine fun l H n k h0 => ?_
  obtain ⟨a0, rfl, h⟩ := ar1_inv h0
  clear h0
  delta s_lex_digit at h
  refine f_intro rfl ?_
  refine c_seq ?_
  refine c_ops ?_
  refine ov_t (a := (.bool false)) (k_mv rfl) ?_
  refine o0 ?_
  refine c_seq ?_
  refine c_ops ?_
  refine on_s h (k_bin (xr (ne rfl rfl)) rfl) fun v1 h => ?_
  refine ogn_s h rfl (k_mv (xr (ne rfl rfl))) fun v2 h => ?_
  refine ogn_s h rfl (k_bin rfl rfl) fun v3 h => ?_
  refine on_s h (k_pick rfl rfl rfl) fun v4 h => ?_
  refine ov_t (a := v4) (k_mv rfl) ?_
  refine o0 ?_
  refine c_ret ?_
  exact fin_no (rsT sm rs0) h
theorem si_lex_number {lp : LpT} (hL : LpOk lp) (G : Roms) : SfOk G af_lex_number (ar1 (s_lex_number lp G)) := by
  intro call callE hle hd
  refine fun l H n k h0 => ?_
  obtain ⟨a0, rfl, h⟩ := ar1_inv h0
  clear h0
  delta s_lex_number at h
  refine f_intro rfl ?_
  refine c_seq ?_
  refine c_ops ?_
  refine ov_t (a := (.int .i64 (.ofNat 0) 0)) (k_mv rfl) ?_
  refine ov_t (a := (.bool false)) (k_mv rfl) ?_
  refine o0 ?_
  refine c_seq ?_
  refine c_ops ?_
  refine ov_t (a := (.int .i64 (.ofNat 0) 0)) (k_mv rfl) ?_
  refine o0 ?_
  refine c_seqj (fun R H n => ∃ a4_j1, rg R q4 = a4_j1 ∧ s_lex_number_j1 lp G call k a4_j1 H n) ?_ fun j1 => ?_
  · rintro R H n ⟨a4_j1, f4, h⟩
    delta s_lex_number_j1 at h
    refine c_seq ?_
    refine c_ops ?_
    refine ov_t (a := a4_j1) (k_mv (xr f4)) ?_
    refine ov_t (a := (.bool true)) (k_mv rfl) ?_
    refine o0 ?_
    refine c_ret ?_
    exact fin_no (rsT (ne rfl sm) (rsT sm rs0)) h
  · refine c_seq ?_
    refine c_ops ?_
    refine oe_t hle hd h (k_cvB (xr (ne rfl (ne rfl (ne rfl rfl))))) fun v2 H n h => ?_
    refine on_t h (k_lenL (xr sm)) fun v3 h => ?_
    refine ov_t (a := (.int .i64 (.ofNat 0) 0)) (k_mv rfl) ?_
    refine o0 ?_
    refine c_block ?_
    refine c_loop hL (fun s R H n => rg R q4 = s.1 ∧ rg R q10 = s.2.1 ∧ rg R q8 = v2 ∧ rg R q9 = v3 ∧ H = s.2.2.1 ∧ n = s.2.2.2) h ⟨(ne rfl (ne rfl (ne rfl sm))), sm, (ne rfl (ne rfl sm)), (ne rfl sm), rfl, rfl⟩ ?_
    rintro ih4 I4 hI4 ⟨a4_l4, a10_l4, H, n⟩ R H0 n0 ⟨f4, f10, f8, f9, eH, eN⟩ h
    replace h : s_lex_number_l4 lp G call k v2 v3 ih4 a4_l4 a10_l4 H n := h
    obtain rfl : H0 = H := eH
    obtain rfl : n0 = n := eN
    delta s_lex_number_l4 at h
    refine c_seq ?_
    refine c_ops ?_
    refine on_t h (k_bin (xr f10) (xr f9)) fun v5 h => ?_
    refine o0 ?_
    refine c_seq ?_
    refine c_cond h (xr sm) (fun h => ?_) (fun h => ?_)
    · refine c_skip ?_
      refine c_seq ?_
      refine c_block ?_
      refine c_seq ?_
      refine c_ops ?_
      refine on_s h (k_iaddr (xr (ne rfl f8)) (xr (ne rfl f10))) fun v6 h => ?_
      refine on_s h (k_ld1 rfl) fun v7 h => ?_
      refine ov_t (a := v7) (k_mv rfl) ?_
      refine o0 ?_
      refine c_seq ?_
      refine c_ops ?_
      refine on_s h (k_bin (xr (ne rfl (ne rfl f4))) rfl) fun v8 h => ?_
      refine on_s h (k_bin (xr sm) rfl) fun v9 h => ?_
      refine on_s h (k_cvi rfl) fun v10 h => ?_
      refine on_s h (k_bin rfl rfl) fun v11 h => ?_
      refine ov_t (a := v11) (k_mv rfl) ?_
      refine o0 ?_
      refine c_seq ?_
      refine c_ops ?_
      refine on_t h (k_bin (xr sm) rfl) fun v12 h => ?_
      refine o0 ?_
      refine c_cond h (xr sm) (fun h => ?_) (fun h => ?_)
      · refine c_seq ?_
        refine c_ops ?_
        refine ov_t (a := (.int .i64 (.ofNat 0) 0)) (k_mv rfl) ?_
        refine ov_t (a := (.bool false)) (k_mv rfl) ?_
        refine o0 ?_
        refine c_ret ?_
        exact fin_no (rsT (ne rfl sm) (rsT sm rs0)) h
      · refine c_skip ?_
        refine c_ops ?_
        refine on_s h (k_bin (xr (ne rfl (ne rfl (ne rfl (ne rfl f10))))) rfl) fun v13 h => ?_
        refine ov_t (a := v13) (k_mv rfl) ?_
        refine o0 ?_
        exact hI4 (v11, v13, H0, n0) _ _ _ ⟨(ne rfl (ne rfl sm)), sm, (ne rfl (ne rfl (ne rfl (ne rfl (ne rfl f8))))), (ne rfl (ne rfl (ne rfl (ne rfl (ne rfl f9))))), rfl, rfl⟩ h
    · refine c_exit ?_
      refine bx_same ?_
      exact j1 _ _ _ ⟨_, (ne rfl f4), h⟩
theorem si_parse_parser_next {lp : LpT} (hL : LpOk lp) (G : Roms) : SfOk G af_parse_parser_next (ar1 (s_parse_parser_next lp G)) := by
  intro call callE hle hd
  refine fun l H n k h0 => ?_
  obtain ⟨a0, rfl, h⟩ := ar1_inv h0
  clear h0
  delta s_parse_parser_next at h
  refine f_intro rfl ?_
  refine c_seq ?_
  refine c_ops ?_
  refine oa_t h k_alloc fun v1 H n h => ?_
  refine o0 ?_
  refine c_seq ?_
  refine c_ops ?_
  refine on_s h (k_nilck (xr (ne rfl rfl))) fun v2 h => ?_
  refine on_s h (k_faddr rfl) fun v3 h => ?_
  refine on_s h (k_ld1 rfl) fun v4 h => ?_
  refine on_s h (k_iaddr rfl rfl) fun v5 h => ?_
  refine on_s h (k_ldn rfl) fun v6 h => ?_
  refine oa_t h k_alloc fun v7 H n h => ?_
  refine oe_x hle hd h (k_st (xr sm) rfl) fun v8 H n h => ?_
  refine o0 ?_
  refine c_seqj (fun R H n => rg R q2 = v1 ∧ rg R q3 = v7 ∧ s_parse_parser_next_j9 lp G call k v1 v7 H n) ?_ fun j9 => ?_
  · rintro R H n ⟨f2, f3, h⟩
    delta s_parse_parser_next_j9 at h
    refine c_seq ?_
    refine c_ops ?_
    refine on_s h (k_ldn (xr f3)) fun v10 h => ?_
    refine oe_x hle hd h (k_st (xr f2) rfl) fun v11 H n h => ?_
    refine o0 ?_
    refine c_ret ?_
    exact fin_no (rsN f2 rs0) h
  · refine c_seq ?_
    refine c_ops ?_
    refine on_s h (k_faddr (xr sm)) fun v12 h => ?_
    refine on_s h (k_ld1 rfl) fun v13 h => ?_
    refine on_t h (k_eq rfl rfl) fun v14 h => ?_
    refine o0 ?_
    refine c_cond h (xr sm) (fun h => ?_) (fun h => ?_)
    · refine c_ops ?_
      refine on_s h (k_nilck (xr (ne rfl (ne rfl (ne rfl rfl))))) fun v15 h => ?_
      refine on_s h (k_faddr rfl) fun v16 h => ?_
      refine on_s h (k_ld1 rfl) fun v17 h => ?_
      refine on_s h (k_slc rfl (oxS rfl) ox0 ox0) fun v18 h => ?_
      refine on_s h (k_nilck (xr (ne rfl (ne rfl (ne rfl rfl))))) fun v19 h => ?_
      refine on_s h (k_faddr rfl) fun v20 h => ?_
      refine oe_x hle hd h (k_st rfl rfl) fun v21 H n h => ?_
      refine o0 ?_
      exact j9 _ _ _ ⟨(ne rfl (ne rfl sm)), (ne rfl sm), h⟩
    · refine c_skip ?_
      exact j9 _ _ _ ⟨(ne rfl (ne rfl sm)), (ne rfl sm), h⟩
theorem si_parse_parser_base {lp : LpT} (hL : LpOk lp) (G : Roms) : SfOk G af_parse_parser_base (ar1 (s_parse_parser_base lp G)) := by
  intro call callE hle hd
  refine fun l H n k h0 => ?_
  obtain ⟨a0, rfl, h⟩ := ar1_inv h0
  clear h0
  delta s_parse_parser_base at h
  refine f_intro rfl ?_
  refine c_seq ?_
  refine c_ops ?_
  refine oa_t h k_alloc fun v1 H n h => ?_
  refine o0 ?_
  refine c_seq ?_
  refine c_block ?_
  refine c_seq ?_
  refine c_ops ?_
  refine oe_s hle hd h (k_call (xsS (xr (ne rfl rfl)) (xsS rfl xs0))) fun v2 H n h => ?_
  refine ov_t (a := v2) (k_mv rfl) ?_
  refine o0 ?_
  refine c_cond h (xr sm) (fun h => ?_) (fun h => ?_)
  · refine c_seq ?_
    refine c_ops ?_
    refine oe_s hle hd h (k_call xs0) fun v3 H n h => ?_
    refine oe_x hle hd h (k_st (xr (ne rfl sm)) rfl) fun v4 H n h => ?_
    refine o0 ?_
    refine c_ret ?_
    exact fin_no (rsN (ne rfl sm) rs0) h
  · refine c_seq ?_
    refine c_ops ?_
    refine oe_s hle hd h (k_call (xsS (xr (ne rfl (ne rfl rfl))) (xsS rfl xs0))) fun v5 H n h => ?_
    refine ov_t (a := v5) (k_mv rfl) ?_
    refine o0 ?_
    refine c_cond h (xr sm) (fun h => ?_) (fun h => ?_)
    · refine c_seq ?_
      refine c_ops ?_
      refine oe_s hle hd h (k_call xs0) fun v6 H n h => ?_
      refine oe_x hle hd h (k_st (xr (ne rfl (ne rfl sm))) rfl) fun v7 H n h => ?_
      refine o0 ?_
      refine c_ret ?_
      exact fin_no (rsN (ne rfl (ne rfl sm)) rs0) h
    · refine c_skip ?_
      refine c_seq ?_
      refine c_ops ?_
      refine oe_s hle hd h (k_call (xsS (xr (ne rfl (ne rfl (ne rfl rfl)))) (xsS rfl xs0))) fun v8 H n h => ?_
      refine oe_s hle hd h (k_call (xsS rfl xs0)) fun v9 H n h => ?_
      refine oe_x hle hd h (k_st (xr (ne rfl (ne rfl sm))) rfl) fun v10 H n h => ?_
      refine o0 ?_
      refine c_ret ?_
      exact fin_no (rsN (ne rfl (ne rfl sm)) rs0) h
theorem si_parse_parser_block {lp : LpT} (hL : LpOk lp) (G : Roms) : SfOk G af_parse_parser_block (ar1 (s_parse_parser_block lp G)) := by
  intro call callE hle hd
  refine fun l H n k h0 => ?_
  obtain ⟨a0, rfl, h⟩ := ar1_inv h0
  clear h0
  delta s_parse_parser_block at h
  refine f_intro rfl ?_
  refine c_seq ?_
  refine c_ops ?_
  refine ov_t (a := .nils) (k_mv rfl) ?_
  refine o0 ?_
  refine c_seq ?_
  refine c_ops ?_
  refine oe_s hle hd h (k_call (xsS (xr (ne rfl rfl)) xs0)) fun v1 H n h => ?_
  refine oe_t hle hd h (k_defer (ne rfl rfl) rfl xs0) fun v2 H n h => ?_
  refine o0 ?_
  refine c_seq ?_
  refine c_ops ?_
  refine oa_s h (k_bslice (pbS rfl pb0)) fun v3 H n h => ?_
  refine oe_s hle hd h (k_call (xsS (xr (ne rfl (ne rfl rfl))) (xsS rfl xs0))) fun v4 H n h => ?_
  refine o0 ?_
  refine c_seq ?_
  refine c_ops ?_
  refine ov_t (a := .nils) (k_mv rfl) ?_
  refine o0 ?_
  refine c_seqj (fun R H n => ∃ a3_j5, rg R q3 = a3_j5 ∧ rg R q22 = v2 ∧ s_parse_parser_block_j5 lp G call k v2 a3_j5 H n) ?_ fun j5 => ?_
  · rintro R H n ⟨a3_j5, f3, f22, h⟩
    delta s_parse_parser_block_j5 at h
    refine c_seq ?_
    refine c_ops ?_
    refine ov_t (a := a3_j5) (k_mv (xr f3)) ?_
    refine o0 ?_
    refine c_ret ?_
    exact fin_to hle hd (ne rfl f22) (rsT sm rs0) h
  · refine c_block ?_
    refine c_loop hL (fun s R H n => rg R q3 = s.1 ∧ rg R q0 = a0 ∧ rg R q22 = v2 ∧ H = s.2.1 ∧ n = s.2.2) h ⟨sm, (ne rfl (ne rfl (ne rfl rfl))), (ne rfl sm), rfl, rfl⟩ ?_
    rintro ih6 I6 hI6 ⟨a3_l6, H, n⟩ R H0 n0 ⟨f3, f0, f22, eH, eN⟩ h
    replace h : s_parse_parser_block_l6 lp G call k a0 v2 ih6 a3_l6 H n := h
    obtain rfl : H0 = H := eH
    obtain rfl : n0 = n := eN
    delta s_parse_parser_block_l6 at h
    refine c_seq ?_
    refine c_seq ?_
    refine c_ops ?_
    refine oe_s hle hd h (k_call (xsS (xr f0) xs0)) fun v7 H n h => ?_
    refine ogn_s h rfl (k_mv (xr f0)) fun v8 h => ?_
    refine oge_s hle hd h rfl (k_call (xsS rfl (xsS rfl xs0))) fun v9 H n h => ?_
    refine ogn_s h rfl (k_not rfl) fun v10 h => ?_
    refine on_t h (k_pick rfl rfl rfl) fun v11 h => ?_
    refine o0 ?_
    refine c_cond h (xr sm) (fun h => ?_) (fun h => ?_)
    · refine c_skip ?_
      refine c_block ?_
      refine c_ops ?_
      refine oe_s hle hd h (k_call (xsS (xr (ne rfl f0)) xs0)) fun v12 H n h => ?_
      refine oa_s h (k_bslice (pbS rfl pb0)) fun v13 H n h => ?_
      refine oe_s hle hd h (k_app (xr (ne rfl f3)) rfl) fun v14 H n h => ?_
      refine ov_t (a := v14) (k_mv rfl) ?_
      refine o0 ?_
      exact hI6 (v14, H, n) _ _ _ ⟨sm, (ne rfl (ne rfl f0)), (ne rfl (ne rfl f22)), rfl, rfl⟩ h
    · refine c_exit ?_
      refine bx_same ?_
      exact j5 _ _ _ ⟨_, (ne rfl f3), (ne rfl f22), h⟩
theorem si_internal_strconv_log10Pow2 {lp : LpT} (hL : LpOk lp) (G : Roms) : SfOk G af_internal_strconv_log10Pow2 (ar1 (s_internal_strconv_log10Pow2 lp G)) := by
  intro call callE hle hd
  refine fun l H n k h0 => ?_
  obtain ⟨a0, rfl, h⟩ := ar1_inv h0
  clear h0
  delta s_internal_strconv_log10Pow2 at h
  refine f_intro rfl ?_
  refine c_seq ?_
  refine c_ops ?_
  refine ov_t (a := (.int .i64 (.ofNat 0) 0)) (k_mv rfl) ?_
  refine o0 ?_
  refine c_seq ?_
  refine c_ops ?_
  refine on_s h (k_bin (xr (ne rfl rfl)) rfl) fun v1 h => ?_
  refine on_s h (k_bin rfl rfl) fun v2 h => ?_
  refine ov_t (a := v2) (k_mv rfl) ?_
  refine o0 ?_
  refine c_ret ?_
  exact fin_no (rsT sm rs0) h
theorem si_math_bits_Len64 {lp : LpT} (hL : LpOk lp) (G : Roms) : SfOk G af_math_bits_Len64 (ar1 (s_math_bits_Len64 lp G)) := by
  intro call callE hle hd
  refine fun l H n k h0 => ?_
  obtain ⟨a0, rfl, h⟩ := ar1_inv h0
  clear h0
  delta s_math_bits_Len64 at h
  refine f_intro rfl ?_
  refine c_seq ?_
  refine c_ops ?_
  refine ov_t (a := (.int .i64 (.ofNat 0) 0)) (k_mv rfl) ?_
  refine o0 ?_
  refine c_seqj (fun R H n => ∃ a0_j1 a2_j1, rg R q0 = a0_j1 ∧ rg R q2 = a2_j1 ∧ s_math_bits_Len64_j1 lp G call k a0_j1 a2_j1 H n) ?_ fun j1 => ?_
  · rintro R H n ⟨a0_j1, a2_j1, f0, f2, h⟩
    delta s_math_bits_Len64_j1 at h
    refine c_seqj (fun R H n => ∃ a0_j2 a2_j2, rg R q0 = a0_j2 ∧ rg R q2 = a2_j2 ∧ s_math_bits_Len64_j2 lp G call k a0_j2 a2_j2 H n) ?_ fun j2 => ?_
    · rintro R H n ⟨a0_j2, a2_j2, f0, f2, h⟩
      delta s_math_bits_Len64_j2 at h
      refine c_seqj (fun R H n => ∃ a0_j3 a2_j3, rg R q0 = a0_j3 ∧ rg R q2 = a2_j3 ∧ s_math_bits_Len64_j3 lp G call k a0_j3 a2_j3 H n) ?_ fun j3 => ?_
      · rintro R H n ⟨a0_j3, a2_j3, f0, f2, h⟩
        delta s_math_bits_Len64_j3 at h
        refine c_seq ?_
        refine c_ops ?_
        refine on_s h (k_cvi (xr f0)) fun v4 h => ?_
        refine on_s h (k_idxS rfl rfl) fun v5 h => ?_
        refine on_s h (k_cvi rfl) fun v6 h => ?_
        refine on_s h (k_bin (xr f2) rfl) fun v7 h => ?_
        refine ov_t (a := v7) (k_mv rfl) ?_
        refine o0 ?_
        refine c_ret ?_
        exact fin_no (rsT sm rs0) h
      · refine c_seq ?_
        refine c_ops ?_
        refine on_t h (k_bin (xr f0) rfl) fun v8 h => ?_
        refine o0 ?_
        refine c_cond h (xr sm) (fun h => ?_) (fun h => ?_)
        · refine c_seq ?_
          refine c_ops ?_
          refine on_s h (k_bin (xr (ne rfl f0)) rfl) fun v9 h => ?_
          refine ov_t (a := v9) (k_mv rfl) ?_
          refine o0 ?_
          refine c_ops ?_
          refine on_s h (k_bin (xr (ne rfl (ne rfl f2))) rfl) fun v10 h => ?_
          refine ov_t (a := v10) (k_mv rfl) ?_
          refine o0 ?_
          exact j3 _ _ _ ⟨_, _, (ne rfl sm), sm, h⟩
        · refine c_skip ?_
          exact j3 _ _ _ ⟨_, _, (ne rfl f0), (ne rfl f2), h⟩
    · refine c_seq ?_
      refine c_ops ?_
      refine on_t h (k_bin (xr f0) rfl) fun v11 h => ?_
      refine o0 ?_
      refine c_cond h (xr sm) (fun h => ?_) (fun h => ?_)
      · refine c_seq ?_
        refine c_ops ?_
        refine on_s h (k_bin (xr (ne rfl f0)) rfl) fun v12 h => ?_
        refine ov_t (a := v12) (k_mv rfl) ?_
        refine o0 ?_
        refine c_ops ?_
        refine on_s h (k_bin (xr (ne rfl (ne rfl f2))) rfl) fun v13 h => ?_
        refine ov_t (a := v13) (k_mv rfl) ?_
        refine o0 ?_
        exact j2 _ _ _ ⟨_, _, (ne rfl sm), sm, h⟩
      · refine c_skip ?_
        exact j2 _ _ _ ⟨_, _, (ne rfl f0), (ne rfl f2), h⟩
  · refine c_seq ?_
    refine c_ops ?_
    refine on_t h (k_bin (xr (ne rfl rfl)) rfl) fun v14 h => ?_
    refine o0 ?_
    refine c_cond h (xr sm) (fun h => ?_) (fun h => ?_)
    · refine c_seq ?_
      refine c_ops ?_
      refine on_s h (k_bin (xr (ne rfl (ne rfl rfl))) rfl) fun v15 h => ?_
      refine ov_t (a := v15) (k_mv rfl) ?_
      refine o0 ?_
      refine c_ops ?_
      refine ov_t (a := (.int .i64 (.ofNat 32) 0)) (k_mv rfl) ?_
      refine o0 ?_
      exact j1 _ _ _ ⟨_, _, (ne rfl sm), sm, h⟩
    · refine c_skip ?_
      exact j1 _ _ _ ⟨_, _, (ne rfl (ne rfl rfl)), (ne rfl sm), h⟩
theorem si_internal_strconv_bool2_int {lp : LpT} (hL : LpOk lp) (G : Roms) : SfOk G af_internal_strconv_bool2_int (ar1 (s_internal_strconv_bool2_int lp G)) := by
  intro call callE hle hd
  refine fun l H n k h0 => ?_
  obtain ⟨a0, rfl, h⟩ := ar1_inv h0
  clear h0
  delta s_internal_strconv_bool2_int at h
  refine f_intro rfl ?_
  refine c_seq ?_
  refine c_ops ?_
  refine ov_t (a := (.int .i64 (.ofNat 0) 0)) (k_mv rfl) ?_
  refine o0 ?_
  refine c_seq ?_
  refine c_seq ?_
  refine c_ops ?_
  refine ov_t (a := a0) (k_mv (xr (ne rfl rfl))) ?_
  refine o0 ?_
  refine c_cond h (xr sm) (fun h => ?_) (fun h => ?_)
  · refine c_seq ?_
    refine c_ops ?_
    refine ov_t (a := (.int .i64 (.ofNat 1) 0)) (k_mv rfl) ?_
    refine o0 ?_
    refine c_ret ?_
    exact fin_no (rsT sm rs0) h
  · refine c_skip ?_
    refine c_seq ?_
    refine c_ops ?_
    refine ov_t (a := (.int .i64 (.ofNat 0) 0)) (k_mv rfl) ?_
    refine o0 ?_
    refine c_ret ?_
    exact fin_no (rsT sm rs0) h
theorem si_internal_strconv_isPowerOfTwo {lp : LpT} (hL : LpOk lp) (G : Roms) : SfOk G af_internal_strconv_isPowerOfTwo (ar1 (s_internal_strconv_isPowerOfTwo lp G)) := by
  intro call callE hle hd
  refine fun l H n k h0 => ?_
  obtain ⟨a0, rfl, h⟩ := ar1_inv h0
  clear h0
  delta s_internal_strconv_isPowerOfTwo at h
  refine f_intro rfl ?_
  refine c_seq ?_
  refine c_ops ?_
  refine ov_t (a := (.bool false)) (k_mv rfl) ?_
  refine o0 ?_
  refine c_seq ?_
  refine c_ops ?_
  refine on_s h (k_bin (xr (ne rfl rfl)) rfl) fun v1 h => ?_
  refine on_s h (k_bin (xr (ne rfl rfl)) rfl) fun v2 h => ?_
  refine on_s h (k_eq rfl rfl) fun v3 h => ?_
  refine ov_t (a := v3) (k_mv rfl) ?_
  refine o0 ?_
  refine c_ret ?_
  exact fin_no (rsT sm rs0) h
theorem si_math_bits_TrailingZeros {lp : LpT} (hL : LpOk lp) (G : Roms) : SfOk G af_math_bits_TrailingZeros (ar1 (s_math_bits_TrailingZeros lp G)) := by
  intro call callE hle hd
  refine fun l H n k h0 => ?_
  obtain ⟨a0, rfl, h⟩ := ar1_inv h0
  clear h0
  delta s_math_bits_TrailingZeros at h
  refine f_intro rfl ?_
  refine c_seq ?_
  refine c_ops ?_
  refine ov_t (a := (.int .i64 (.ofNat 0) 0)) (k_mv rfl) ?_
  refine o0 ?_
  refine c_seq ?_
  refine c_cond h rfl (fun h => ?_) (fun h => ?_)
  · refine c_seq ?_
    refine c_ops ?_
    refine on_s h (k_cvi (xr (ne rfl rfl))) fun v1 h => ?_
    refine oe_s hle hd h (k_call (xsS rfl xs0)) fun v2 H n h => ?_
    refine ov_t (a := v2) (k_mv rfl) ?_
    refine o0 ?_
    refine c_ret ?_
    exact fin_no (rsT sm rs0) h
  · refine c_skip ?_
    refine c_seq ?_
    refine c_ops ?_
    refine oe_s hle hd h (k_call (xsS (xr (ne rfl rfl)) xs0)) fun v3 H n h => ?_
    refine ov_t (a := v3) (k_mv rfl) ?_
    refine o0 ?_
    refine c_ret ?_
    exact fin_no (rsT sm rs0) h
theorem si_internal_stringslite_HasPrefix {lp : LpT} (hL : LpOk lp) (G : Roms) : SfOk G af_internal_stringslite_HasPrefix (ar2 (s_internal_stringslite_HasPrefix lp G)) := by
  intro call callE hle hd
  refine fun l H n k h0 => ?_
  obtain ⟨a0, a1, rfl, h⟩ := ar2_inv h0
  clear h0
  delta s_internal_stringslite_HasPrefix at h
  refine f_intro rfl ?_
  refine c_seq ?_
  refine c_ops ?_
  refine ov_t (a := (.bool false)) (k_mv rfl) ?_
  refine o0 ?_
  refine c_seq ?_
  refine c_ops ?_
  refine on_s h (k_lenS (xr (ne rfl rfl))) fun v1 h => ?_
  refine on_s h (k_lenS (xr (ne rfl rfl))) fun v2 h => ?_
  refine on_s h (k_bin rfl rfl) fun v3 h => ?_
  refine ogn_s h rfl (k_mv (xr (ne rfl rfl))) fun v4 h => ?_
  refine ogn_s h rfl (k_mv (xr (ne rfl rfl))) fun v5 h => ?_
  refine ogn_s h rfl (k_lenS rfl) fun v6 h => ?_
  refine ogn_s h rfl (k_slcS rfl ox0 (oxS rfl)) fun v7 h => ?_
  refine ogn_s h rfl (k_mv (xr (ne rfl rfl))) fun v8 h => ?_
  refine ogn_s h rfl (k_eq rfl rfl) fun v9 h => ?_
  refine on_s h (k_pick rfl rfl rfl) fun v10 h => ?_
  refine ov_t (a := v10) (k_mv rfl) ?_
  refine o0 ?_
  refine c_ret ?_
  exact fin_no (rsT sm rs0) h
theorem si_internal_stringslite_IndexByte {lp : LpT} (hL : LpOk lp) (G : Roms) : SfOk G af_internal_stringslite_IndexByte (ar2 (s_internal_stringslite_IndexByte lp G)) := by
  intro call callE hle hd
  refine fun l H n k h0 => ?_
  obtain ⟨a0, a1, rfl, h⟩ := ar2_inv h0
  clear h0
  delta s_internal_stringslite_IndexByte at h
  refine f_intro rfl ?_
  refine c_seq ?_
  refine c_ops ?_
  refine ov_t (a := (.int .i64 (.ofNat 0) 0)) (k_mv rfl) ?_
  refine o0 ?_
  refine c_seq ?_
  refine c_ops ?_
  refine on_s h (k_idxByte (xr (ne rfl rfl)) (xr (ne rfl rfl))) fun v1 h => ?_
  refine ov_t (a := v1) (k_mv rfl) ?_
  refine o0 ?_
  refine c_ret ?_
  exact fin_no (rsT sm rs0) h
theorem si_ast_Int {lp : LpT} (hL : LpOk lp) (G : Roms) : SfOk G af_ast_Int (ar0 (s_ast_Int lp G)) := by
  intro call callE hle hd
  refine fun l H n k h0 => ?_
  obtain ⟨rfl, h⟩ := ar0_inv h0
  clear h0
  delta s_ast_Int at h
  refine f_intro rfl ?_
  refine c_seq ?_
  refine c_ops ?_
  refine oa_t h k_alloc fun v1 H n h => ?_
  refine o0 ?_
  refine c_seq ?_
  refine c_ops ?_
  refine on_s h (k_build (psS rfl ps0)) fun v2 h => ?_
  refine oe_x hle hd h (k_st (xr sm) rfl) fun v3 H n h => ?_
  refine o0 ?_
  refine c_ret ?_
  exact fin_no (rsN sm rs0) h
theorem si_ast_Bool {lp : LpT} (hL : LpOk lp) (G : Roms) : SfOk G af_ast_Bool (ar0 (s_ast_Bool lp G)) := by
  intro call callE hle hd
  refine fun l H n k h0 => ?_
  obtain ⟨rfl, h⟩ := ar0_inv h0
  clear h0
  delta s_ast_Bool at h
  refine f_intro rfl ?_
  refine c_seq ?_
  refine c_ops ?_
  refine oa_t h k_alloc fun v1 H n h => ?_
  refine o0 ?_
  refine c_seq ?_
  refine c_ops ?_
  refine on_s h (k_build (psS rfl ps0)) fun v2 h => ?_
  refine oe_x hle hd h (k_st (xr sm) rfl) fun v3 H n h => ?_
  refine o0 ?_
  refine c_ret ?_
  exact fin_no (rsN sm rs0) h
theorem si_ast_Of {lp : LpT} (hL : LpOk lp) (G : Roms) : SfOk G af_ast_Of (ar1 (s_ast_Of lp G)) := by
  intro call callE hle hd
  refine fun l H n k h0 => ?_
  obtain ⟨a0, rfl, h⟩ := ar1_inv h0
  clear h0
  delta s_ast_Of at h
  refine f_intro rfl ?_
  refine c_seq ?_
  refine c_ops ?_
  refine oa_t h k_alloc fun v1 H n h => ?_
  refine o0 ?_
  refine c_seq ?_
  refine c_ops ?_
  refine on_s h (k_build (psS (xr (ne rfl rfl)) ps0)) fun v2 h => ?_
  refine oe_x hle hd h (k_st (xr sm) rfl) fun v3 H n h => ?_
  refine o0 ?_
  refine c_ret ?_
  exact fin_no (rsN sm rs0) h
theorem si_parse_parser_down {lp : LpT} (hL : LpOk lp) (G : Roms) : SfOk G af_parse_parser_down (ar1 (s_parse_parser_down lp G)) := by
  intro call callE hle hd
  refine fun l H n k h0 => ?_
  obtain ⟨a0, rfl, h⟩ := ar1_inv h0
  clear h0
  delta s_parse_parser_down at h
  refine f_intro rfl ?_
  refine c_seq ?_
  refine c_ops ?_
  refine oa_t h (k_box (xr rfl)) fun v1 H n h => ?_
  refine ov_t (a := .nilf) (k_mv rfl) ?_
  refine o0 ?_
  refine c_seqj (fun R H n => rg R q1 = v1 ∧ s_parse_parser_down_j2 lp G call k v1 H n) ?_ fun j2 => ?_
  · rintro R H n ⟨f1, h⟩
    delta s_parse_parser_down_j2 at h
    refine c_seq ?_
    refine c_ops ?_
    refine ov_s (a := (.fn n_parse_parser_down_1 [] [v1])) (k_mkfn xs0 (xsS (xr f1) xs0)) ?_
    refine ov_t (a := (.fn n_parse_parser_down_1 [] [v1])) (k_mv rfl) ?_
    refine o0 ?_
    refine c_ret ?_
    exact fin_no (rsT sm rs0) h
  · refine c_seq ?_
    refine c_ops ?_
    refine on_s h (k_ld1 (xr (ne rfl sm))) fun v3 h => ?_
    refine on_s h (k_nilck rfl) fun v4 h => ?_
    refine on_s h (k_faddr rfl) fun v5 h => ?_
    refine on_s h (k_ld1 rfl) fun v6 h => ?_
    refine on_s h (k_bin rfl rfl) fun v7 h => ?_
    refine on_s h (k_nilck rfl) fun v8 h => ?_
    refine on_s h (k_faddr rfl) fun v9 h => ?_
    refine oe_x hle hd h (k_st rfl rfl) fun v10 H n h => ?_
    refine o0 ?_
    refine c_seq ?_
    refine c_ops ?_
    refine on_s h (k_ld1 (xr (ne rfl sm))) fun v11 h => ?_
    refine on_s h (k_nilck rfl) fun v12 h => ?_
    refine on_s h (k_faddr rfl) fun v13 h => ?_
    refine on_s h (k_ld1 rfl) fun v14 h => ?_
    refine on_t h (k_bin rfl rfl) fun v15 h => ?_
    refine o0 ?_
    refine c_cond h (xr sm) (fun h => ?_) (fun h => ?_)
    · refine c_ops ?_
      refine on_s h (k_ld1 (xr (ne rfl (ne rfl sm)))) fun v16 h => ?_
      refine oe_s hle hd h (k_call (xsS rfl (xsS rfl xs0))) fun v17 H n h => ?_
      refine o0 ?_
      exact j2 _ _ _ ⟨(ne rfl (ne rfl sm)), h⟩
    · refine c_skip ?_
      exact j2 _ _ _ ⟨(ne rfl (ne rfl sm)), h⟩
theorem si_parse_parser_stmt {lp : LpT} (hL : LpOk lp) (G : Roms) : SfOk G af_parse_parser_stmt (ar1 (s_parse_parser_stmt lp G)) := by
  intro call callE hle hd
  refine fun l H n k h0 => ?_
  obtain ⟨a0, rfl, h⟩ := ar1_inv h0
  clear h0
  delta s_parse_parser_stmt at h
  refine f_intro rfl ?_
  refine c_seq ?_
  refine c_ops ?_
  refine oa_t h k_alloc fun v1 H n h => ?_
  refine o0 ?_
  refine c_seq ?_
  refine c_ops ?_
  refine on_s h (k_nilck (xr (ne rfl rfl))) fun v2 h => ?_
  refine on_s h (k_faddr rfl) fun v3 h => ?_
  refine on_s h (k_ld1 rfl) fun v4 h => ?_
  refine on_s h (k_iaddr rfl rfl) fun v5 h => ?_
  refine on_s h (k_faddr rfl) fun v6 h => ?_
  refine on_s h (k_ldn rfl) fun v7 h => ?_
  refine on_s h (k_build (psS rfl ps0)) fun v8 h => ?_
  refine oa_t h k_alloc fun v9 H n h => ?_
  refine oe_x hle hd h (k_st (xr sm) rfl) fun v10 H n h => ?_
  refine o0 ?_
  refine c_seqj (fun R H n => rg R q0 = a0 ∧ rg R q2 = v1 ∧ rg R q3 = v9 ∧ s_parse_parser_stmt_j11 lp G call k a0 v1 v9 H n) ?_ fun j11 => ?_
  · rintro R H n ⟨f0, f2, f3, h⟩
    delta s_parse_parser_stmt_j11 at h
    refine c_seq ?_
    refine c_ops ?_
    refine oa_s h (k_bslice (pbS rfl pb0)) fun v12 H n h => ?_
    refine oe_s hle hd h (k_call (xsS (xr f0) (xsS rfl xs0))) fun v13 H n h => ?_
    refine o0 ?_
    refine c_seq ?_
    refine c_ops ?_
    refine on_s h (k_ldn (xr f3)) fun v14 h => ?_
    refine oe_x hle hd h (k_st (xr f2) rfl) fun v15 H n h => ?_
    refine o0 ?_
    refine c_ret ?_
    exact fin_no (rsN f2 rs0) h
  · refine c_block ?_
    refine c_seq ?_
    refine c_ops ?_
    refine oe_s hle hd h (k_call (xsS (xr (ne rfl (ne rfl rfl))) (xsS rfl xs0))) fun v16 H n h => ?_
    refine ov_t (a := v16) (k_mv rfl) ?_
    refine o0 ?_
    refine c_cond h (xr sm) (fun h => ?_) (fun h => ?_)
    · refine c_seq ?_
      refine c_ops ?_
      refine on_s h (k_faddr (xr (ne rfl sm))) fun v17 h => ?_
      refine oe_x hle hd h (k_st rfl rfl) fun v18 H n h => ?_
      refine o0 ?_
      refine c_seq ?_
      refine c_ops ?_
      refine oe_s hle hd h (k_call (xsS (xr (ne rfl (ne rfl (ne rfl rfl)))) xs0)) fun v19 H n h => ?_
      refine on_s h (k_faddr (xr (ne rfl sm))) fun v20 h => ?_
      refine oe_x hle hd h (k_st rfl rfl) fun v21 H n h => ?_
      refine o0 ?_
      refine c_seq ?_
      refine c_ops ?_
      refine oe_s hle hd h (k_call (xsS (xr (ne rfl (ne rfl (ne rfl rfl)))) (xsS rfl xs0))) fun v22 H n h => ?_
      refine on_s h (k_faddr (xr (ne rfl sm))) fun v23 h => ?_
      refine oe_x hle hd h (k_st rfl rfl) fun v24 H n h => ?_
      refine o0 ?_
      refine c_seq ?_
      refine c_ops ?_
      refine oa_s h (k_bslice (pbS rfl pb0)) fun v25 H n h => ?_
      refine oe_s hle hd h (k_call (xsS (xr (ne rfl (ne rfl (ne rfl rfl)))) (xsS rfl xs0))) fun v26 H n h => ?_
      refine o0 ?_
      refine c_ops ?_
      refine oe_s hle hd h (k_call (xsS (xr (ne rfl (ne rfl (ne rfl rfl)))) xs0)) fun v27 H n h => ?_
      refine oa_s h (k_bslice (pbS rfl pb0)) fun v28 H n h => ?_
      refine on_s h (k_faddr (xr (ne rfl sm))) fun v29 h => ?_
      refine oe_x hle hd h (k_st rfl rfl) fun v30 H n h => ?_
      refine o0 ?_
      exact j11 _ _ _ ⟨(ne rfl (ne rfl (ne rfl rfl))), (ne rfl (ne rfl sm)), (ne rfl sm), h⟩
    · refine c_seq ?_
      refine c_ops ?_
      refine oa_s h (k_bslice (pbS rfl pb0)) fun v31 H n h => ?_
      refine oe_s hle hd h (k_call (xsS (xr (ne rfl (ne rfl (ne rfl rfl)))) (xsS rfl xs0))) fun v32 H n h => ?_
      refine ov_t (a := v32) (k_mv rfl) ?_
      refine o0 ?_
      refine c_cond h (xr sm) (fun h => ?_) (fun h => ?_)
      · refine c_seq ?_
        refine c_ops ?_
        refine oe_s hle hd h (k_call (xsS (xr (ne rfl (ne rfl (ne rfl (ne rfl rfl))))) xs0)) fun v33 H n h => ?_
        refine oe_x hle hd h (k_st (xr (ne rfl (ne rfl (ne rfl sm)))) rfl) fun v34 H n h => ?_
        refine o0 ?_
        refine c_ret ?_
        exact fin_no (rsN (ne rfl (ne rfl (ne rfl sm))) rs0) h
      · refine c_seq ?_
        refine c_ops ?_
        refine oe_s hle hd h (k_call (xsS (xr (ne rfl (ne rfl (ne rfl (ne rfl rfl))))) (xsS rfl xs0))) fun v35 H n h => ?_
        refine ov_t (a := v35) (k_mv rfl) ?_
        refine o0 ?_
        refine c_cond h (xr sm) (fun h => ?_) (fun h => ?_)
        · refine c_seq ?_
          refine c_ops ?_
          refine on_s h (k_faddr (xr (ne rfl (ne rfl (ne rfl sm))))) fun v36 h => ?_
          refine oe_x hle hd h (k_st rfl rfl) fun v37 H n h => ?_
          refine o0 ?_
          refine c_seq ?_
          refine c_ops ?_
          refine oe_s hle hd h (k_call (xsS (xr (ne rfl (ne rfl (ne rfl (ne rfl (ne rfl rfl)))))) xs0)) fun v38 H n h => ?_
          refine oa_s h (k_bslice (pbS rfl pb0)) fun v39 H n h => ?_
          refine on_s h (k_faddr (xr (ne rfl (ne rfl (ne rfl sm))))) fun v40 h => ?_
          refine oe_x hle hd h (k_st rfl rfl) fun v41 H n h => ?_
          refine o0 ?_
          refine c_seq ?_
          refine c_ops ?_
          refine oe_s hle hd h (k_call (xsS (xr (ne rfl (ne rfl (ne rfl (ne rfl (ne rfl rfl)))))) xs0)) fun v42 H n h => ?_
          refine on_s h (k_faddr (xr (ne rfl (ne rfl (ne rfl sm))))) fun v43 h => ?_
          refine oe_x hle hd h (k_st rfl rfl) fun v44 H n h => ?_
          refine o0 ?_
          refine c_seq ?_
          refine c_ops ?_
          refine on_s h (k_ldn (xr (ne rfl (ne rfl (ne rfl sm))))) fun v45 h => ?_
          refine oe_x hle hd h (k_st (xr (ne rfl (ne rfl (ne rfl (ne rfl sm))))) rfl) fun v46 H n h => ?_
          refine o0 ?_
          refine c_ret ?_
          exact fin_no (rsN (ne rfl (ne rfl (ne rfl (ne rfl sm)))) rs0) h
        · refine c_seq ?_
          refine c_ops ?_
          refine oe_s hle hd h (k_call (xsS (xr (ne rfl (ne rfl (ne rfl (ne rfl (ne rfl rfl)))))) (xsS rfl xs0))) fun v47 H n h => ?_
          refine ov_t (a := v47) (k_mv rfl) ?_
          refine o0 ?_
          refine c_cond h (xr sm) (fun h => ?_) (fun h => ?_)
          · refine c_ops ?_
            refine oe_s hle hd h (k_call (xsS (xr (ne rfl (ne rfl (ne rfl (ne rfl (ne rfl (ne rfl rfl))))))) xs0)) fun v48 H n h => ?_
            refine oa_s h (k_bslice (pbS rfl pb0)) fun v49 H n h => ?_
            refine on_s h (k_faddr (xr (ne rfl (ne rfl (ne rfl (ne rfl sm)))))) fun v50 h => ?_
            refine oe_x hle hd h (k_st rfl rfl) fun v51 H n h => ?_
            refine on_s h (k_faddr (xr (ne rfl (ne rfl (ne rfl (ne rfl sm)))))) fun v52 h => ?_
            refine oe_x hle hd h (k_st rfl rfl) fun v53 H n h => ?_
            refine o0 ?_
            exact j11 _ _ _ ⟨(ne rfl (ne rfl (ne rfl (ne rfl (ne rfl (ne rfl rfl)))))), (ne rfl (ne rfl (ne rfl (ne rfl (ne rfl sm))))), (ne rfl (ne rfl (ne rfl (ne rfl sm)))), h⟩
          · refine c_seq ?_
            refine c_ops ?_
            refine oe_s hle hd h (k_call (xsS (xr (ne rfl (ne rfl (ne rfl (ne rfl (ne rfl (ne rfl rfl))))))) (xsS rfl xs0))) fun v54 H n h => ?_
            refine ov_t (a := v54) (k_mv rfl) ?_
            refine o0 ?_
            refine c_cond h (xr sm) (fun h => ?_) (fun h => ?_)
            · refine c_ops ?_
              refine oe_s hle hd h (k_call (xsS (xr (ne rfl (ne rfl (ne rfl (ne rfl (ne rfl (ne rfl (ne rfl rfl)))))))) xs0)) fun v55 H n h => ?_
              refine oa_s h (k_bslice (pbS rfl pb0)) fun v56 H n h => ?_
              refine on_s h (k_faddr (xr (ne rfl (ne rfl (ne rfl (ne rfl (ne rfl sm))))))) fun v57 h => ?_
              refine oe_x hle hd h (k_st rfl rfl) fun v58 H n h => ?_
              refine on_s h (k_faddr (xr (ne rfl (ne rfl (ne rfl (ne rfl (ne rfl sm))))))) fun v59 h => ?_
              refine oe_x hle hd h (k_st rfl rfl) fun v60 H n h => ?_
              refine o0 ?_
              exact j11 _ _ _ ⟨(ne rfl (ne rfl (ne rfl (ne rfl (ne rfl (ne rfl (ne rfl rfl))))))), (ne rfl (ne rfl (ne rfl (ne rfl (ne rfl (ne rfl sm)))))), (ne rfl (ne rfl (ne rfl (ne rfl (ne rfl sm))))), h⟩
            · refine c_ops ?_
              refine oe_s hle hd h (k_call (xsS (xr (ne rfl (ne rfl (ne rfl (ne rfl (ne rfl (ne rfl (ne rfl rfl)))))))) (xsS (xr (ne rfl (ne rfl (ne rfl (ne rfl (ne rfl sm)))))) xs0))) fun v61 H n h => ?_
              refine o0 ?_
              exact j11 _ _ _ ⟨(ne rfl (ne rfl (ne rfl (ne rfl (ne rfl (ne rfl (ne rfl rfl))))))), (ne rfl (ne rfl (ne rfl (ne rfl (ne rfl (ne rfl sm)))))), (ne rfl (ne rfl (ne rfl (ne rfl (ne rfl sm))))), h⟩
theorem si_math_bits_TrailingZeros32 {lp : LpT} (hL : LpOk lp) (G : Roms) : SfOk G af_math_bits_TrailingZeros32 (ar1 (s_math_bits_TrailingZeros32 lp G)) := by
  intro call callE hle hd
  refine fun l H n k h0 => ?_
  obtain ⟨a0, rfl, h⟩ := ar1_inv h0
  clear h0
  delta s_math_bits_TrailingZeros32 at h
  refine f_intro rfl ?_
  refine c_seq ?_
  refine c_ops ?_
  refine ov_t (a := (.int .i64 (.ofNat 0) 0)) (k_mv rfl) ?_
  refine o0 ?_
  refine c_seq ?_
  refine c_seq ?_
  refine c_ops ?_
  refine on_t h (k_eq (xr (ne rfl rfl)) rfl) fun v1 h => ?_
  refine o0 ?_
  refine c_cond h (xr sm) (fun h => ?_) (fun h => ?_)
  · refine c_seq ?_
    refine c_ops ?_
    refine ov_t (a := (.int .i64 (.ofNat 32) 0)) (k_mv rfl) ?_
    refine o0 ?_
    refine c_ret ?_
    exact fin_no (rsT sm rs0) h
  · refine c_skip ?_
    refine c_seq ?_
    refine c_ops ?_
    refine on_s h (k_neg (xr (ne rfl (ne rfl rfl)))) fun v2 h => ?_
    refine on_s h (k_bin (xr (ne rfl (ne rfl rfl))) rfl) fun v3 h => ?_
    refine on_s h (k_bin rfl rfl) fun v4 h => ?_
    refine on_s h (k_bin rfl rfl) fun v5 h => ?_
    refine on_s h (k_iaddrA rfl rfl) fun v6 h => ?_
    refine on_s h (k_ld1 rfl) fun v7 h => ?_
    refine on_s h (k_cvi rfl) fun v8 h => ?_
    refine ov_t (a := v8) (k_mv rfl) ?_
    refine o0 ?_
    refine c_ret ?_
    exact fin_no (rsT sm rs0) h
theorem si_math_bits_TrailingZeros64 {lp : LpT} (hL : LpOk lp) (G : Roms) : SfOk G af_math_bits_TrailingZeros64 (ar1 (s_math_bits_TrailingZeros64 lp G)) := by
  intro call callE hle hd
  refine fun l H n k h0 => ?_
  obtain ⟨a0, rfl, h⟩ := ar1_inv h0
  clear h0
  delta s_math_bits_TrailingZeros64 at h
  refine f_intro rfl ?_
  refine c_seq ?_
  refine c_ops ?_
  refine ov_t (a := (.int .i64 (.ofNat 0) 0)) (k_mv rfl) ?_
  refine o0 ?_
  refine c_seq ?_
  refine c_seq ?_
  refine c_ops ?_
  refine on_t h (k_eq (xr (ne rfl rfl)) rfl) fun v1 h => ?_
  refine o0 ?_
  refine c_cond h (xr sm) (fun h => ?_) (fun h => ?_)
  · refine c_seq ?_
    refine c_ops ?_
    refine ov_t (a := (.int .i64 (.ofNat 64) 0)) (k_mv rfl) ?_
    refine o0 ?_
    refine c_ret ?_
    exact fin_no (rsT sm rs0) h
  · refine c_skip ?_
    refine c_seq ?_
    refine c_ops ?_
    refine on_s h (k_neg (xr (ne rfl (ne rfl rfl)))) fun v2 h => ?_
    refine on_s h (k_bin (xr (ne rfl (ne rfl rfl))) rfl) fun v3 h => ?_
    refine on_s h (k_bin rfl rfl) fun v4 h => ?_
    refine on_s h (k_bin rfl rfl) fun v5 h => ?_
    refine on_s h (k_iaddrA rfl rfl) fun v6 h => ?_
    refine on_s h (k_ld1 rfl) fun v7 h => ?_
    refine on_s h (k_cvi rfl) fun v8 h => ?_
    refine ov_t (a := v8) (k_mv rfl) ?_
    refine o0 ?_
    refine c_ret ?_
    exact fin_no (rsT sm rs0) h
theorem si_parse_parser_down_1 {lp : LpT} (hL : LpOk lp) (G : Roms) : SfOk G af_parse_parser_down_1 (ar1 (s_parse_parser_down_1 lp G)) := by
  intro call callE hle hd
  refine fun l H n k h0 => ?_
  obtain ⟨a0, rfl, h⟩ := ar1_inv h0
  clear h0
  delta s_parse_parser_down_1 at h
  refine f_intro rfl ?_
  refine c_ops ?_
  refine on_s h (k_ld1 (xr rfl)) fun v1 h => ?_
  refine on_s h (k_nilck rfl) fun v2 h => ?_
  refine on_s h (k_faddr rfl) fun v3 h => ?_
  refine on_s h (k_ld1 rfl) fun v4 h => ?_
  refine on_s h (k_bin rfl rfl) fun v5 h => ?_
  refine on_s h (k_nilck rfl) fun v6 h => ?_
  refine on_s h (k_faddr rfl) fun v7 h => ?_
  refine oe_x hle hd h (k_st rfl rfl) fun v8 H n h => ?_
  refine o0 ?_
  exact fin_no rs0 h
theorem si_parse_parser_expr {lp : LpT} (hL : LpOk lp) (G : Roms) : SfOk G af_parse_parser_expr (ar1 (s_parse_parser_expr lp G)) := by
  intro call callE hle hd
  refine fun l H n k h0 => ?_
  obtain ⟨a0, rfl, h⟩ := ar1_inv h0
  clear h0
  delta s_parse_parser_expr at h
  refine f_intro rfl ?_
  refine c_seq ?_
  refine c_ops ?_
  refine oa_t h (k_box (xr rfl)) fun v1 H n h => ?_
  refine oa_t h k_alloc fun v2 H n h => ?_
  refine o0 ?_
  refine c_seq ?_
  refine c_ops ?_
  refine on_s h (k_ld1 (xr (ne rfl sm))) fun v3 h => ?_
  refine oe_s hle hd h (k_call (xsS rfl xs0)) fun v4 H n h => ?_
  refine oe_t hle hd h (k_defer (ne rfl (ne rfl rfl)) rfl xs0) fun v5 H n h => ?_
  refine o0 ?_
  refine c_seq ?_
  refine c_ops ?_
  refine on_s h (k_ld1 (xr (ne rfl (ne rfl sm)))) fun v6 h => ?_
  refine ov_s (a := (.fn n_parse_parser_expr_1 [] [v1])) (k_mkfn xs0 (xsS (xr (ne rfl (ne rfl sm))) xs0)) ?_
  refine oe_s hle hd h (k_call (xsS rfl (xsS rfl (xsS rfl (xsS rfl xs0))))) fun v7 H n h => ?_
  refine oe_x hle hd h (k_st (xr (ne rfl sm)) rfl) fun v8 H n h => ?_
  refine o0 ?_
  refine c_ret ?_
  exact fin_to hle hd sm (rsN (ne rfl sm) rs0) h
theorem si_parse_parser_choice {lp : LpT} (hL : LpOk lp) (G : Roms) : SfOk G af_parse_parser_choice (ar1 (s_parse_parser_choice lp G)) := by
  intro call callE hle hd
  refine fun l H n k h0 => ?_
  obtain ⟨a0, rfl, h⟩ := ar1_inv h0
  clear h0
  delta s_parse_parser_choice at h
  refine f_intro rfl ?_
  refine c_seq ?_
  refine c_ops ?_
  refine oa_t h k_alloc fun v1 H n h => ?_
  refine o0 ?_
  refine c_seq ?_
  refine c_ops ?_
  refine oe_s hle hd h (k_call (xsS (xr (ne rfl rfl)) xs0)) fun v2 H n h => ?_
  refine oe_t hle hd h (k_defer (ne rfl rfl) rfl xs0) fun v3 H n h => ?_
  refine o0 ?_
  refine c_seq ?_
  refine c_ops ?_
  refine on_s h (k_nilck (xr (ne rfl (ne rfl rfl)))) fun v4 h => ?_
  refine on_s h (k_faddr rfl) fun v5 h => ?_
  refine on_s h (k_ld1 rfl) fun v6 h => ?_
  refine on_s h (k_iaddr rfl rfl) fun v7 h => ?_
  refine on_s h (k_faddr rfl) fun v8 h => ?_
  refine on_s h (k_ldn rfl) fun v9 h => ?_
  refine on_s h (k_build (psS rfl (psS rfl ps0))) fun v10 h => ?_
  refine oa_t h k_alloc fun v11 H n h => ?_
  refine oe_x hle hd h (k_st (xr sm) rfl) fun v12 H n h => ?_
  refine o0 ?_
  refine c_seq ?_
  refine c_ops ?_
  refine oa_s h (k_bslice (pbS rfl pb0)) fun v13 H n h => ?_
  refine oe_s hle hd h (k_call (xsS (xr (ne rfl (ne rfl (ne rfl rfl)))) (xsS rfl xs0))) fun v14 H n h => ?_
  refine o0 ?_
  refine c_seq ?_
  refine c_ops ?_
  refine oe_s hle hd h (k_call (xsS (xr (ne rfl (ne rfl (ne rfl rfl)))) xs0)) fun v15 H n h => ?_
  refine oa_s h (k_bslice (pbS rfl pb0)) fun v16 H n h => ?_
  refine on_s h (k_faddr (xr sm)) fun v17 h => ?_
  refine oe_x hle hd h (k_st rfl rfl) fun v18 H n h => ?_
  refine o0 ?_
  refine c_seq ?_
  refine c_ops ?_
  refine oe_s hle hd h (k_call (xsS (xr (ne rfl (ne rfl (ne rfl rfl)))) xs0)) fun v19 H n h => ?_
  refine on_s h (k_faddr (xr sm)) fun v20 h => ?_
  refine oe_x hle hd h (k_st rfl rfl) fun v21 H n h => ?_
  refine o0 ?_
  refine c_seqj (fun R H n => rg R q2 = v1 ∧ rg R q3 = v11 ∧ rg R q37 = v3 ∧ s_parse_parser_choice_j22 lp G call k v1 v11 v3 H n) ?_ fun j22 => ?_
  · rintro R H n ⟨f2, f3, f37, h⟩
    delta s_parse_parser_choice_j22 at h
    refine c_seq ?_
    refine c_ops ?_
    refine on_s h (k_ldn (xr f3)) fun v23 h => ?_
    refine oe_x hle hd h (k_st (xr f2) rfl) fun v24 H n h => ?_
    refine o0 ?_
    refine c_ret ?_
    exact fin_to hle hd f37 (rsN f2 rs0) h
  · refine c_seq ?_
    refine c_ops ?_
    refine oe_t hle hd h (k_call (xsS (xr (ne rfl (ne rfl (ne rfl rfl)))) (xsS rfl xs0))) fun v25 H n h => ?_
    refine o0 ?_
    refine c_cond h (xr sm) (fun h => ?_) (fun h => ?_)
    · refine c_seq ?_
      refine c_ops ?_
      refine oa_s h (k_bslice (pbS rfl pb0)) fun v26 H n h => ?_
      refine oe_t hle hd h (k_call (xsS (xr (ne rfl (ne rfl (ne rfl (ne rfl rfl))))) (xsS rfl xs0))) fun v27 H n h => ?_
      refine o0 ?_
      refine c_cond h (xr sm) (fun h => ?_) (fun h => ?_)
      · refine c_ops ?_
        refine oe_s hle hd h (k_call (xsS (xr (ne rfl (ne rfl (ne rfl (ne rfl (ne rfl rfl)))))) xs0)) fun v28 H n h => ?_
        refine oa_s h (k_bslice (pbS rfl pb0)) fun v29 H n h => ?_
        refine on_s h (k_faddr (xr (ne rfl (ne rfl sm)))) fun v30 h => ?_
        refine oe_x hle hd h (k_st rfl rfl) fun v31 H n h => ?_
        refine o0 ?_
        exact j22 _ _ _ ⟨(ne rfl (ne rfl (ne rfl (ne rfl sm)))), (ne rfl (ne rfl sm)), (ne rfl (ne rfl (ne rfl sm))), h⟩
      · refine c_ops ?_
        refine oe_s hle hd h (k_call (xsS (xr (ne rfl (ne rfl (ne rfl (ne rfl (ne rfl rfl)))))) xs0)) fun v32 H n h => ?_
        refine on_s h (k_faddr (xr (ne rfl (ne rfl sm)))) fun v33 h => ?_
        refine oe_x hle hd h (k_st rfl rfl) fun v34 H n h => ?_
        refine o0 ?_
        exact j22 _ _ _ ⟨(ne rfl (ne rfl (ne rfl (ne rfl sm)))), (ne rfl (ne rfl sm)), (ne rfl (ne rfl (ne rfl sm))), h⟩
    · refine c_skip ?_
      exact j22 _ _ _ ⟨(ne rfl (ne rfl (ne rfl sm))), (ne rfl sm), (ne rfl (ne rfl sm)), h⟩
theorem si_parse_parser_plain {lp : LpT} (hL : LpOk lp) (G : Roms) : SfOk G af_parse_parser_plain (ar2 (s_parse_parser_plain lp G)) := by
  intro call callE hle hd
  refine fun l H n k h0 => ?_
  obtain ⟨a0, a1, rfl, h⟩ := ar2_inv h0
  clear h0
  delta s_parse_parser_plain at h
  refine f_intro rfl ?_
  refine c_seq ?_
  refine c_ops ?_
  refine oe_s hle hd h (k_call (xsS (xr rfl) xs0)) fun v1 H n h => ?_
  refine oa_t h k_alloc fun v2 H n h => ?_
  refine oe_x hle hd h (k_st (xr sm) rfl) fun v3 H n h => ?_
  refine o0 ?_
  refine c_seq ?_
  refine c_reg ?_
  refine iv_t (a := a1) (k_mv (xr (ne rfl rfl))) ?_
  refine iv_t (a := a1) (k_mv (xr (ne rfl (ne rfl rfl)))) ?_
  refine in_t h (k_ldn (xr (ne rfl (ne rfl sm)))) fun v4 h => ?_
  refine ia_t h (k_bslice (pbS (xr sm) pb0)) fun v5 H n h => ?_
  refine in_t h (k_nilck (xr (ne rfl (ne rfl (ne rfl sm))))) fun v6 h => ?_
  refine in_t h (k_faddr (xr sm)) fun v7 h => ?_
  refine ie_x hle hd h (k_st (xr sm) rfl) fun v8 H n h => ?_
  refine ire h (ne rfl (ne rfl (ne rfl sm))) (k_ldn (xr (ne rfl (ne rfl (ne rfl (ne rfl (ne rfl (ne rfl sm)))))))) fun h => ?_
  refine in_t h (k_nilck (xr (ne rfl (ne rfl (ne rfl (ne rfl sm)))))) fun v9 h => ?_
  refine in_t h (k_faddr (xr sm)) fun v10 h => ?_
  refine ie_x hle hd h (k_st (xr sm) (xr (ne rfl (ne rfl (ne rfl (ne rfl sm)))))) fun v11 H n h => ?_
  refine i0 ?_
  refine c_seq ?_
  refine c_seq ?_
  refine c_ops ?_
  refine oa_s h (k_bslice (pbS rfl pb0)) fun v12 H n h => ?_
  refine oe_s hle hd h (k_call (xsS (xr (ne rfl (ne rfl (ne rfl (ne rfl (ne rfl (ne rfl (ne rfl (ne rfl (ne rfl rfl)))))))))) (xsS rfl xs0))) fun v13 H n h => ?_
  refine on_t h (k_not rfl) fun v14 h => ?_
  refine o0 ?_
  refine c_cond h (xr sm) (fun h => ?_) (fun h => ?_)
  · refine c_seqj (fun R H n => s_parse_parser_plain_j15 lp G call k H n) ?_ fun j15 => ?_
    · intro R H n h
      delta s_parse_parser_plain_j15 at h
      refine c_ret ?_
      exact fin_no rs0 h
    · refine c_seq ?_
      refine c_ops ?_
      refine on_s h (k_faddr (xr (ne rfl (ne rfl (ne rfl (ne rfl (ne rfl (ne rfl (ne rfl (ne rfl (ne rfl sm))))))))))) fun v16 h => ?_
      refine on_s h (k_ld1 rfl) fun v17 h => ?_
      refine on_s h (k_eq rfl rfl) fun v18 h => ?_
      refine ogn_s h rfl (k_faddr (xr (ne rfl (ne rfl (ne rfl (ne rfl (ne rfl (ne rfl (ne rfl (ne rfl (ne rfl sm))))))))))) fun v19 h => ?_
      refine ogn_s h rfl (k_ld1 rfl) fun v20 h => ?_
      refine ogn_s h rfl (k_eq rfl rfl) fun v21 h => ?_
      refine on_t h (k_pick rfl rfl rfl) fun v22 h => ?_
      refine o0 ?_
      refine c_cond h (xr sm) (fun h => ?_) (fun h => ?_)
      · refine c_ops ?_
        refine oe_s hle hd h (k_call (xsS (xr (ne rfl (ne rfl (ne rfl (ne rfl (ne rfl (ne rfl (ne rfl (ne rfl (ne rfl (ne rfl (ne rfl rfl)))))))))))) (xsS rfl xs0))) fun v23 H n h => ?_
        refine o0 ?_
        exact j15 _ _ _ h
      · refine c_skip ?_
        exact j15 _ _ _ h
  · refine c_skip ?_
    refine c_seqj (fun R H n => rg R q0 = a0 ∧ rg R q1 = a1 ∧ s_parse_parser_plain_j24 lp G call k a0 a1 H n) ?_ fun j24 => ?_
    · rintro R H n ⟨f0, f1, h⟩
      delta s_parse_parser_plain_j24 at h
      refine c_seq ?_
      refine c_ops ?_
      refine oa_s h (k_bslice (pbS rfl pb0)) fun v25 H n h => ?_
      refine oe_s hle hd h (k_call (xsS (xr f0) (xsS rfl xs0))) fun v26 H n h => ?_
      refine o0 ?_
      refine c_reg ?_
      refine iv_t (a := a1) (k_mv (xr f1)) ?_
      refine iv_t (a := a1) (k_mv (xr (ne rfl f1))) ?_
      refine iv_t (a := a1) (k_mv (xr (ne rfl (ne rfl f1)))) ?_
      refine in_t h (k_nilck (xr sm)) fun v27 h => ?_
      refine in_t h (k_faddr (xr sm)) fun v28 h => ?_
      refine in_t h (k_ld1 (xr sm)) fun v29 h => ?_
      refine iv_t (a := a0) (k_mv (xr (ne rfl (ne rfl (ne rfl (ne rfl (ne rfl (ne rfl f0)))))))) ?_
      refine ie_t hle hd h (k_call (xsS (xr sm) xs0)) fun v30 H n h => ?_
      refine ire h (ne rfl (ne rfl sm)) (k_ld1 (xr (ne rfl (ne rfl (ne rfl sm))))) fun h => ?_
      refine ia_t h (k_bslice (pbS (xr sm) pb0)) fun v31 H n h => ?_
      refine ie_t hle hd h (k_app (xr (ne rfl (ne rfl (ne rfl sm)))) (xr sm)) fun v32 H n h => ?_
      refine in_t h (k_nilck (xr (ne rfl (ne rfl (ne rfl (ne rfl (ne rfl (ne rfl (ne rfl (ne rfl (ne rfl sm))))))))))) fun v33 h => ?_
      refine in_t h (k_faddr (xr sm)) fun v34 h => ?_
      refine ie_x hle hd h (k_st (xr sm) rfl) fun v35 H n h => ?_
      refine in_t h (k_nilck (xr (ne rfl (ne rfl (ne rfl (ne rfl (ne rfl (ne rfl (ne rfl (ne rfl (ne rfl (ne rfl sm)))))))))))) fun v36 h => ?_
      refine in_t h (k_faddr (xr sm)) fun v37 h => ?_
      refine ie_x hle hd h (k_st (xr sm) (xr (ne rfl (ne rfl (ne rfl (ne rfl sm)))))) fun v38 H n h => ?_
      refine i0 ?_
      exact fin_no rs0 h
    · refine c_seq ?_
      refine c_ops ?_
      refine on_s h (k_faddr (xr (ne rfl (ne rfl (ne rfl (ne rfl (ne rfl (ne rfl (ne rfl (ne rfl (ne rfl sm))))))))))) fun v39 h => ?_
      refine on_s h (k_ld1 rfl) fun v40 h => ?_
      refine on_s h (k_eq rfl rfl) fun v41 h => ?_
      refine ogn_s h rfl (k_faddr (xr (ne rfl (ne rfl (ne rfl (ne rfl (ne rfl (ne rfl (ne rfl (ne rfl (ne rfl sm))))))))))) fun v42 h => ?_
      refine ogn_s h rfl (k_ld1 rfl) fun v43 h => ?_
      refine ogn_s h rfl (k_eq rfl rfl) fun v44 h => ?_
      refine on_s h (k_pick rfl rfl rfl) fun v45 h => ?_
      refine ogn_s h rfl (k_faddr (xr (ne rfl (ne rfl (ne rfl (ne rfl (ne rfl (ne rfl (ne rfl (ne rfl (ne rfl sm))))))))))) fun v46 h => ?_
      refine ogn_s h rfl (k_ld1 rfl) fun v47 h => ?_
      refine ogn_s h rfl (k_eq rfl rfl) fun v48 h => ?_
      refine on_t h (k_pick rfl rfl rfl) fun v49 h => ?_
      refine o0 ?_
      refine c_cond h (xr sm) (fun h => ?_) (fun h => ?_)
      · refine c_ops ?_
        refine oe_s hle hd h (k_call (xsS (xr (ne rfl (ne rfl (ne rfl (ne rfl (ne rfl (ne rfl (ne rfl (ne rfl (ne rfl (ne rfl (ne rfl rfl)))))))))))) (xsS rfl xs0))) fun v50 H n h => ?_
        refine o0 ?_
        exact j24 _ _ _ ⟨(ne rfl (ne rfl (ne rfl (ne rfl (ne rfl (ne rfl (ne rfl (ne rfl (ne rfl (ne rfl (ne rfl rfl))))))))))), (ne rfl (ne rfl (ne rfl (ne rfl (ne rfl (ne rfl (ne rfl (ne rfl (ne rfl (ne rfl (ne rfl rfl))))))))))), h⟩
      · refine c_skip ?_
        exact j24 _ _ _ ⟨(ne rfl (ne rfl (ne rfl (ne rfl (ne rfl (ne rfl (ne rfl (ne rfl (ne rfl (ne rfl (ne rfl rfl))))))))))), (ne rfl (ne rfl (ne rfl (ne rfl (ne rfl (ne rfl (ne rfl (ne rfl (ne rfl (ne rfl (ne rfl rfl))))))))))), h⟩
theorem si_parse_parser_either {lp : LpT} (hL : LpOk lp) (G : Roms) : SfOk G af_parse_parser_either (ar4 (s_parse_parser_either lp G)) := by
  intro call callE hle hd
  refine fun l H n k h0 => ?_
  obtain ⟨a0, a1, a2, a3, rfl, h⟩ := ar4_inv h0
  clear h0
  delta s_parse_parser_either at h
  refine f_intro rfl ?_
  refine c_seq ?_
  refine c_ops ?_
  refine oa_t h k_alloc fun v1 H n h => ?_
  refine o0 ?_
  refine c_seq ?_
  refine c_ops ?_
  refine oe_s hle hd h (k_callv (xr (ne rfl rfl)) xs0) fun v2 H n h => ?_
  refine oa_t h k_alloc fun v3 H n h => ?_
  refine oe_x hle hd h (k_st (xr sm) rfl) fun v4 H n h => ?_
  refine o0 ?_
  refine c_seqj (fun R H n => rg R q8 = v1 ∧ rg R q9 = v3 ∧ s_parse_parser_either_j5 lp G call k v1 v3 H n) ?_ fun j5 => ?_
  · rintro R H n ⟨f8, f9, h⟩
    delta s_parse_parser_either_j5 at h
    refine c_seq ?_
    refine c_ops ?_
    refine on_s h (k_ldn (xr f9)) fun v6 h => ?_
    refine oe_x hle hd h (k_st (xr f8) rfl) fun v7 H n h => ?_
    refine o0 ?_
    refine c_ret ?_
    exact fin_no (rsN f8 rs0) h
  · refine c_block ?_
    refine c_loop hL (fun s R H n => rg R q0 = a0 ∧ rg R q1 = a1 ∧ rg R q2 = a2 ∧ rg R q3 = a3 ∧ rg R q8 = v1 ∧ rg R q9 = v3 ∧ H = s.1 ∧ n = s.2) h ⟨(ne rfl (ne rfl rfl)), (ne rfl (ne rfl rfl)), (ne rfl (ne rfl rfl)), (ne rfl (ne rfl rfl)), (ne rfl sm), sm, rfl, rfl⟩ ?_
    rintro ih8 I8 hI8 ⟨H, n⟩ R H0 n0 ⟨f0, f1, f2, f3, f8, f9, eH, eN⟩ h
    replace h : s_parse_parser_either_l8 lp G call k a0 a1 a2 a3 v1 v3 ih8 H n := h
    obtain rfl : H0 = H := eH
    obtain rfl : n0 = n := eN
    delta s_parse_parser_either_l8 at h
    refine c_seq ?_
    refine c_seq ?_
    refine c_ops ?_
    refine oa_s h (k_bslice (pbS (xr f2) pb0)) fun v9 H n h => ?_
    refine oe_t hle hd h (k_call (xsS (xr f0) (xsS rfl xs0))) fun v10 H n h => ?_
    refine o0 ?_
    refine c_cond h (xr sm) (fun h => ?_) (fun h => ?_)
    · refine c_skip ?_
      refine c_block ?_
      refine c_seq ?_
      refine c_ops ?_
      refine oe_s hle hd h (k_call (xsS (xr (ne rfl f0)) xs0)) fun v11 H n h => ?_
      refine on_s h (k_fieldn rfl) fun v12 h => ?_
      refine oa_t h k_alloc fun v13 H n h => ?_
      refine oe_x hle hd h (k_st (xr sm) rfl) fun v14 H n h => ?_
      refine o0 ?_
      refine c_reg ?_
      refine iv_t (a := a1) (k_mv (xr (ne rfl (ne rfl f1)))) ?_
      refine in_t h (k_ldn (xr (ne rfl sm))) fun v15 h => ?_
      refine in_t h (k_ldn (xr (ne rfl (ne rfl (ne rfl (ne rfl f9)))))) fun v16 h => ?_
      refine iv_t (a := a3) (k_mv (xr (ne rfl (ne rfl (ne rfl (ne rfl (ne rfl f3))))))) ?_
      refine ie_t hle hd h (k_callv (xr sm) xs0) fun v17 H n h => ?_
      refine ire h (ne rfl (ne rfl (ne rfl sm))) (k_ldn (xr (ne rfl (ne rfl (ne rfl (ne rfl (ne rfl sm))))))) fun h => ?_
      refine ire h (ne rfl (ne rfl sm)) (k_ldn (xr (ne rfl (ne rfl (ne rfl (ne rfl (ne rfl (ne rfl (ne rfl f9))))))))) fun h => ?_
      refine ia_t h (k_bslice (pbS (xr (ne rfl (ne rfl sm))) (pbS (xr sm) pb0))) fun v18 H n h => ?_
      refine in_t h (k_build (psS (xr (ne rfl (ne rfl (ne rfl (ne rfl (ne rfl sm)))))) (psS (xr (ne rfl (ne rfl (ne rfl (ne rfl sm))))) (psS (xr sm) ps0)))) fun v19 h => ?_
      refine ie_x hle hd h (k_st (xr (ne rfl (ne rfl (ne rfl (ne rfl (ne rfl (ne rfl (ne rfl (ne rfl (ne rfl f9)))))))))) (xr sm)) fun v20 H n h => ?_
      refine i0 ?_
      exact hI8 (H, n) _ _ _ ⟨(ne rfl (ne rfl (ne rfl (ne rfl (ne rfl (ne rfl (ne rfl (ne rfl (ne rfl f0))))))))), (ne rfl (ne rfl (ne rfl (ne rfl (ne rfl (ne rfl (ne rfl (ne rfl (ne rfl f1))))))))), (ne rfl (ne rfl (ne rfl (ne rfl (ne rfl (ne rfl (ne rfl (ne rfl (ne rfl f2))))))))), (ne rfl (ne rfl (ne rfl (ne rfl (ne rfl (ne rfl (ne rfl (ne rfl (ne rfl f3))))))))), (ne rfl (ne rfl (ne rfl (ne rfl (ne rfl (ne rfl (ne rfl (ne rfl (ne rfl f8))))))))), (ne rfl (ne rfl (ne rfl (ne rfl (ne rfl (ne rfl (ne rfl (ne rfl (ne rfl f9))))))))), rfl, rfl⟩ h
    · refine c_exit ?_
      refine bx_same ?_
      exact j5 _ _ _ ⟨(ne rfl f8), (ne rfl f9), h⟩
theorem si_parse_parser_expr_1 {lp : LpT} (hL : LpOk lp) (G : Roms) : SfOk G af_parse_parser_expr_1 (ar1 (s_parse_parser_expr_1 lp G)) := by
  intro call callE hle hd
  refine fun l H n k h0 => ?_
  obtain ⟨a0, rfl, h⟩ := ar1_inv h0
  clear h0
  delta s_parse_parser_expr_1 at h
  refine f_intro rfl ?_
  refine c_seq ?_
  refine c_ops ?_
  refine oa_t h k_alloc fun v1 H n h => ?_
  refine o0 ?_
  refine c_seq ?_
  refine c_ops ?_
  refine on_s h (k_ld1 (xr (ne rfl rfl))) fun v2 h => ?_
  refine on_s h (k_ld1 (xr (ne rfl rfl))) fun v3 h => ?_
  refine ov_s (a := (.fn n_parse_parser_compared [v3] [])) (k_mkfn (xsS rfl xs0) xs0) ?_
  refine oe_s hle hd h (k_call (xsS rfl (xsS rfl (xsS rfl (xsS rfl xs0))))) fun v4 H n h => ?_
  refine oe_x hle hd h (k_st (xr sm) rfl) fun v5 H n h => ?_
  refine o0 ?_
  refine c_ret ?_
  exact fin_no (rsN sm rs0) h
theorem si_parse_parser_compared {lp : LpT} (hL : LpOk lp) (G : Roms) : SfOk G af_parse_parser_compared (ar1 (s_parse_parser_compared lp G)) := by
  intro call callE hle hd
  refine fun l H n k h0 => ?_
  obtain ⟨a0, rfl, h⟩ := ar1_inv h0
  clear h0
  delta s_parse_parser_compared at h
  refine f_intro rfl ?_
  refine c_seq ?_
  refine c_ops ?_
  refine oa_t h (k_box (xr rfl)) fun v1 H n h => ?_
  refine oa_t h k_alloc fun v2 H n h => ?_
  refine o0 ?_
  refine c_seq ?_
  refine c_ops ?_
  refine ov_s (a := (.fn n_parse_parser_compared_1 [] [v1])) (k_mkfn xs0 (xsS (xr (ne rfl sm)) xs0)) ?_
  refine ov_t (a := (.fn n_parse_parser_compared_1 [] [v1])) (k_mv rfl) ?_
  refine o0 ?_
  refine c_seq ?_
  refine c_ops ?_
  refine oe_s hle hd h (k_callv (xr sm) xs0) fun v3 H n h => ?_
  refine oa_t h k_alloc fun v4 H n h => ?_
  refine oe_x hle hd h (k_st (xr sm) rfl) fun v5 H n h => ?_
  refine o0 ?_
  refine c_seqj (fun R H n => rg R q2 = v2 ∧ rg R q4 = v4 ∧ s_parse_parser_compared_j6 lp G call k v2 v4 H n) ?_ fun j6 => ?_
  · rintro R H n ⟨f2, f4, h⟩
    delta s_parse_parser_compared_j6 at h
    refine c_seq ?_
    refine c_ops ?_
    refine on_s h (k_ldn (xr f4)) fun v7 h => ?_
    refine oe_x hle hd h (k_st (xr f2) rfl) fun v8 H n h => ?_
    refine o0 ?_
    refine c_ret ?_
    exact fin_no (rsN f2 rs0) h
  · refine c_seq ?_
    refine c_ops ?_
    refine on_s h (k_ld1 (xr (ne rfl (ne rfl (ne rfl sm))))) fun v9 h => ?_
    refine oa_s h (k_bslice (pbS rfl (pbS rfl (pbS rfl (pbS rfl pb0))))) fun v10 H n h => ?_
    refine oe_t hle hd h (k_call (xsS rfl (xsS rfl xs0))) fun v11 H n h => ?_
    refine o0 ?_
    refine c_cond h (xr sm) (fun h => ?_) (fun h => ?_)
    · refine c_seq ?_
      refine c_ops ?_
      refine on_s h (k_ld1 (xr (ne rfl (ne rfl (ne rfl (ne rfl sm)))))) fun v12 h => ?_
      refine oe_s hle hd h (k_call (xsS rfl xs0)) fun v13 H n h => ?_
      refine oa_t h k_alloc fun v14 H n h => ?_
      refine oe_x hle hd h (k_st (xr sm) rfl) fun v15 H n h => ?_
      refine o0 ?_
      refine c_reg ?_
      refine in_t h (k_faddr (xr sm)) fun v16 h => ?_
      refine in_t h (k_ldn (xr sm)) fun v17 h => ?_
      refine in_t h (k_faddr (xr (ne rfl (ne rfl sm)))) fun v18 h => ?_
      refine in_t h (k_ld1 (xr sm)) fun v19 h => ?_
      refine in_t h (k_ldn (xr (ne rfl (ne rfl (ne rfl (ne rfl (ne rfl (ne rfl sm)))))))) fun v20 h => ?_
      refine iv_t (a := (.fn n_parse_parser_compared_1 [] [v1])) (k_mv (xr (ne rfl (ne rfl (ne rfl (ne rfl (ne rfl (ne rfl (ne rfl (ne rfl sm)))))))))) ?_
      refine ie_t hle hd h (k_callv (xr sm) xs0) fun v21 H n h => ?_
      refine ire h (ne rfl (ne rfl (ne rfl (ne rfl (ne rfl sm))))) (k_ldn (xr (ne rfl (ne rfl (ne rfl (ne rfl (ne rfl (ne rfl sm)))))))) fun h => ?_
      refine ire h (ne rfl (ne rfl (ne rfl sm))) (k_ld1 (xr (ne rfl (ne rfl (ne rfl (ne rfl sm)))))) fun h => ?_
      refine ire h (ne rfl (ne rfl sm)) (k_ldn (xr (ne rfl (ne rfl (ne rfl (ne rfl (ne rfl (ne rfl (ne rfl (ne rfl (ne rfl sm))))))))))) fun h => ?_
      refine ia_t h (k_bslice (pbS (xr (ne rfl (ne rfl sm))) (pbS (xr sm) pb0))) fun v22 H n h => ?_
      refine in_t h (k_build (psS rfl (psS (xr (ne rfl (ne rfl (ne rfl (ne rfl (ne rfl (ne rfl sm))))))) (psS (xr (ne rfl (ne rfl (ne rfl (ne rfl sm))))) (psS (xr sm) ps0))))) fun v23 h => ?_
      refine ie_x hle hd h (k_st (xr (ne rfl (ne rfl (ne rfl (ne rfl (ne rfl (ne rfl (ne rfl (ne rfl (ne rfl (ne rfl (ne rfl sm)))))))))))) (xr sm)) fun v24 H n h => ?_
      refine i0 ?_
      exact j6 _ _ _ ⟨(ne rfl (ne rfl (ne rfl (ne rfl (ne rfl (ne rfl (ne rfl (ne rfl (ne rfl (ne rfl (ne rfl (ne rfl (ne rfl sm))))))))))))), (ne rfl (ne rfl (ne rfl (ne rfl (ne rfl (ne rfl (ne rfl (ne rfl (ne rfl (ne rfl (ne rfl sm))))))))))), h⟩
    · refine c_skip ?_
      exact j6 _ _ _ ⟨(ne rfl (ne rfl (ne rfl sm))), (ne rfl sm), h⟩
theorem si_parse_parser_compared_1 {lp : LpT} (hL : LpOk lp) (G : Roms) : SfOk G af_parse_parser_compared_1 (ar1 (s_parse_parser_compared_1 lp G)) := by
  intro call callE hle hd
  refine fun l H n k h0 => ?_
  obtain ⟨a0, rfl, h⟩ := ar1_inv h0
  clear h0
  delta s_parse_parser_compared_1 at h
  refine f_intro rfl ?_
  refine c_seq ?_
  refine c_ops ?_
  refine oa_t h k_alloc fun v1 H n h => ?_
  refine o0 ?_
  refine c_seq ?_
  refine c_ops ?_
  refine on_s h (k_ld1 (xr (ne rfl rfl))) fun v2 h => ?_
  refine ov_s (a := (.fn n_parse_parser_compared_1_1 [] [a0])) (k_mkfn xs0 (xsS (xr (ne rfl rfl)) xs0)) ?_
  refine oa_s h (k_bslice (pbS rfl (pbS rfl pb0))) fun v3 H n h => ?_
  refine oe_s hle hd h (k_call (xsS rfl (xsS rfl (xsS rfl xs0)))) fun v4 H n h => ?_
  refine oe_x hle hd h (k_st (xr sm) rfl) fun v5 H n h => ?_
  refine o0 ?_
  refine c_ret ?_
  exact fin_no (rsN sm rs0) h
theorem si_parse_parser_signs {lp : LpT} (hL : LpOk lp) (G : Roms) : SfOk G af_parse_parser_signs (ar3 (s_parse_parser_signs lp G)) := by
  intro call callE hle hd
  refine fun l H n k h0 => ?_
  obtain ⟨a0, a1, a2, rfl, h⟩ := ar3_inv h0
  clear h0
  delta s_parse_parser_signs at h
  refine f_intro rfl ?_
  refine c_seq ?_
  refine c_ops ?_
  refine oa_t h k_alloc fun v1 H n h => ?_
  refine o0 ?_
  refine c_seq ?_
  refine c_ops ?_
  refine oe_s hle hd h (k_callv (xr (ne rfl rfl)) xs0) fun v2 H n h => ?_
  refine oa_t h k_alloc fun v3 H n h => ?_
  refine oe_x hle hd h (k_st (xr sm) rfl) fun v4 H n h => ?_
  refine o0 ?_
  refine c_seqj (fun R H n => rg R q6 = v1 ∧ rg R q7 = v3 ∧ s_parse_parser_signs_j5 lp G call k v1 v3 H n) ?_ fun j5 => ?_
  · rintro R H n ⟨f6, f7, h⟩
    delta s_parse_parser_signs_j5 at h
    refine c_seq ?_
    refine c_ops ?_
    refine on_s h (k_ldn (xr f7)) fun v6 h => ?_
    refine oe_x hle hd h (k_st (xr f6) rfl) fun v7 H n h => ?_
    refine o0 ?_
    refine c_ret ?_
    exact fin_no (rsN f6 rs0) h
  · refine c_block ?_
    refine c_loop hL (fun s R H n => rg R q0 = a0 ∧ rg R q1 = a1 ∧ rg R q2 = a2 ∧ rg R q6 = v1 ∧ rg R q7 = v3 ∧ H = s.1 ∧ n = s.2) h ⟨(ne rfl (ne rfl rfl)), (ne rfl (ne rfl rfl)), (ne rfl (ne rfl rfl)), (ne rfl sm), sm, rfl, rfl⟩ ?_
    rintro ih8 I8 hI8 ⟨H, n⟩ R H0 n0 ⟨f0, f1, f2, f6, f7, eH, eN⟩ h
    replace h : s_parse_parser_signs_l8 lp G call k a0 a1 a2 v1 v3 ih8 H n := h
    obtain rfl : H0 = H := eH
    obtain rfl : n0 = n := eN
    delta s_parse_parser_signs_l8 at h
    refine c_seq ?_
    refine c_seq ?_
    refine c_ops ?_
    refine oe_t hle hd h (k_call (xsS (xr f0) (xsS (xr f2) xs0))) fun v9 H n h => ?_
    refine o0 ?_
    refine c_cond h (xr sm) (fun h => ?_) (fun h => ?_)
    · refine c_skip ?_
      refine c_block ?_
      refine c_seq ?_
      refine c_ops ?_
      refine oe_s hle hd h (k_call (xsS (xr (ne rfl f0)) xs0)) fun v10 H n h => ?_
      refine oa_t h k_alloc fun v11 H n h => ?_
      refine oe_x hle hd h (k_st (xr sm) rfl) fun v12 H n h => ?_
      refine o0 ?_
      refine c_reg ?_
      refine in_t h (k_faddr (xr sm)) fun v13 h => ?_
      refine in_t h (k_ldn (xr sm)) fun v14 h => ?_
      refine in_t h (k_faddr (xr (ne rfl (ne rfl sm)))) fun v15 h => ?_
      refine in_t h (k_ld1 (xr sm)) fun v16 h => ?_
      refine in_t h (k_ldn (xr (ne rfl (ne rfl (ne rfl (ne rfl (ne rfl (ne rfl f7)))))))) fun v17 h => ?_
      refine iv_t (a := a1) (k_mv (xr (ne rfl (ne rfl (ne rfl (ne rfl (ne rfl (ne rfl (ne rfl f1))))))))) ?_
      refine ie_t hle hd h (k_callv (xr sm) xs0) fun v18 H n h => ?_
      refine ire h (ne rfl (ne rfl (ne rfl (ne rfl (ne rfl sm))))) (k_ldn (xr (ne rfl (ne rfl (ne rfl (ne rfl (ne rfl (ne rfl sm)))))))) fun h => ?_
      refine ire h (ne rfl (ne rfl (ne rfl sm))) (k_ld1 (xr (ne rfl (ne rfl (ne rfl (ne rfl sm)))))) fun h => ?_
      refine ire h (ne rfl (ne rfl sm)) (k_ldn (xr (ne rfl (ne rfl (ne rfl (ne rfl (ne rfl (ne rfl (ne rfl (ne rfl (ne rfl f7))))))))))) fun h => ?_
      refine ia_t h (k_bslice (pbS (xr (ne rfl (ne rfl sm))) (pbS (xr sm) pb0))) fun v19 H n h => ?_
      refine in_t h (k_build (psS rfl (psS (xr (ne rfl (ne rfl (ne rfl (ne rfl (ne rfl (ne rfl sm))))))) (psS (xr (ne rfl (ne rfl (ne rfl (ne rfl sm))))) (psS (xr sm) ps0))))) fun v20 h => ?_
      refine ie_x hle hd h (k_st (xr (ne rfl (ne rfl (ne rfl (ne rfl (ne rfl (ne rfl (ne rfl (ne rfl (ne rfl (ne rfl (ne rfl f7)))))))))))) (xr sm)) fun v21 H n h => ?_
      refine i0 ?_
      exact hI8 (H, n) _ _ _ ⟨(ne rfl (ne rfl (ne rfl (ne rfl (ne rfl (ne rfl (ne rfl (ne rfl (ne rfl (ne rfl (ne rfl f0))))))))))), (ne rfl (ne rfl (ne rfl (ne rfl (ne rfl (ne rfl (ne rfl (ne rfl (ne rfl (ne rfl (ne rfl f1))))))))))), (ne rfl (ne rfl (ne rfl (ne rfl (ne rfl (ne rfl (ne rfl (ne rfl (ne rfl (ne rfl (ne rfl f2))))))))))), (ne rfl (ne rfl (ne rfl (ne rfl (ne rfl (ne rfl (ne rfl (ne rfl (ne rfl (ne rfl (ne rfl f6))))))))))), (ne rfl (ne rfl (ne rfl (ne rfl (ne rfl (ne rfl (ne rfl (ne rfl (ne rfl (ne rfl (ne rfl f7))))))))))), rfl, rfl⟩ h
    · refine c_exit ?_
      refine bx_same ?_
      exact j5 _ _ _ ⟨(ne rfl f6), (ne rfl f7), h⟩
theorem si_parse_parser_compared_1_1 {lp : LpT} (hL : LpOk lp) (G : Roms) : SfOk G af_parse_parser_compared_1_1 (ar1 (s_parse_parser_compared_1_1 lp G)) := by
  intro call callE hle hd
  refine fun l H n k h0 => ?_
  obtain ⟨a0, rfl, h⟩ := ar1_inv h0
  clear h0
  delta s_parse_parser_compared_1_1 at h
  refine f_intro rfl ?_
  refine c_seq ?_
  refine c_ops ?_
  refine oa_t h k_alloc fun v1 H n h => ?_
  refine o0 ?_
  refine c_seq ?_
  refine c_ops ?_
  refine on_s h (k_ld1 (xr (ne rfl rfl))) fun v2 h => ?_
  refine on_s h (k_ld1 (xr (ne rfl rfl))) fun v3 h => ?_
  refine ov_s (a := (.fn n_parse_parser_unary [v3] [])) (k_mkfn (xsS rfl xs0) xs0) ?_
  refine oa_s h (k_bslice (pbS rfl (pbS rfl (pbS rfl pb0)))) fun v4 H n h => ?_
  refine oe_s hle hd h (k_call (xsS rfl (xsS rfl (xsS rfl xs0)))) fun v5 H n h => ?_
  refine oe_x hle hd h (k_st (xr sm) rfl) fun v6 H n h => ?_
  refine o0 ?_
  refine c_ret ?_
  exact fin_no (rsN sm rs0) h
theorem si_parse_parser_unary {lp : LpT} (hL : LpOk lp) (G : Roms) : SfOk G af_parse_parser_unary (ar1 (s_parse_parser_unary lp G)) := by
  intro call callE hle hd
  refine fun l H n k h0 => ?_
  obtain ⟨a0, rfl, h⟩ := ar1_inv h0
  clear h0
  delta s_parse_parser_unary at h
  refine f_intro rfl ?_
  refine c_seq ?_
  refine c_ops ?_
  refine oa_t h k_alloc fun v1 H n h => ?_
  refine o0 ?_
  refine c_seq ?_
  refine c_ops ?_
  refine on_s h (k_nilck (xr (ne rfl rfl))) fun v2 h => ?_
  refine on_s h (k_faddr rfl) fun v3 h => ?_
  refine on_s h (k_ld1 rfl) fun v4 h => ?_
  refine on_s h (k_iaddr rfl rfl) fun v5 h => ?_
  refine on_s h (k_faddr rfl) fun v6 h => ?_
  refine on_s h (k_ldn rfl) fun v7 h => ?_
  refine oa_t h k_alloc fun v8 H n h => ?_
  refine oe_x hle hd h (k_st (xr sm) rfl) fun v9 H n h => ?_
  refine o0 ?_
  refine c_seqj (fun R H n => ∃ a63_j10, rg R q63 = a63_j10 ∧ rg R q0 = a0 ∧ rg R q2 = v1 ∧ s_parse_parser_unary_j10 lp G call k a0 v1 a63_j10 H n) ?_ fun j10 => ?_
  · rintro R H n ⟨a63_j10, f63, f0, f2, h⟩
    delta s_parse_parser_unary_j10 at h
    refine c_seq ?_
    refine c_ops ?_
    refine oe_s hle hd h (k_call (xsS (xr f0) xs0)) fun v11 H n h => ?_
    refine oa_t h k_alloc fun v12 H n h => ?_
    refine oe_x hle hd h (k_st (xr sm) rfl) fun v13 H n h => ?_
    refine o0 ?_
    refine c_seqj (fun R H n => rg R q2 = v1 ∧ rg R q6 = v12 ∧ rg R q63 = a63_j10 ∧ s_parse_parser_unary_j14 lp G call k a63_j10 v1 v12 H n) ?_ fun j14 => ?_
    · rintro R H n ⟨f2, f6, f63, h⟩
      delta s_parse_parser_unary_j14 at h
      refine c_seq ?_
      refine c_ops ?_
      refine on_s h (k_ldn (xr f6)) fun v15 h => ?_
      refine oe_x hle hd h (k_st (xr f2) rfl) fun v16 H n h => ?_
      refine o0 ?_
      refine c_ret ?_
      exact fin_to hle hd f63 (rsN f2 rs0) h
    · refine c_block ?_
      refine c_loop hL (fun s R H n => rg R q0 = a0 ∧ rg R q2 = v1 ∧ rg R q6 = v12 ∧ rg R q63 = a63_j10 ∧ H = s.1 ∧ n = s.2) h ⟨(ne rfl f0), (ne rfl f2), sm, (ne rfl f63), rfl, rfl⟩ ?_
      rintro ih17 I17 hI17 ⟨H, n⟩ R H0 n0 ⟨f0, f2, f6, f63, eH, eN⟩ h
      replace h : s_parse_parser_unary_l17 lp G call k a0 a63_j10 v1 v12 ih17 H n := h
      obtain rfl : H0 = H := eH
      obtain rfl : n0 = n := eN
      delta s_parse_parser_unary_l17 at h
      refine c_seq ?_
      refine c_seq ?_
      refine c_ops ?_
      refine oa_s h (k_bslice (pbS rfl (pbS rfl pb0))) fun v18 H n h => ?_
      refine oe_t hle hd h (k_call (xsS (xr f0) (xsS rfl xs0))) fun v19 H n h => ?_
      refine o0 ?_
      refine c_cond h (xr sm) (fun h => ?_) (fun h => ?_)
      · refine c_skip ?_
        refine c_block ?_
        refine c_seq ?_
        refine c_ops ?_
        refine oe_s hle hd h (k_call (xsS (xr (ne rfl f0)) xs0)) fun v20 H n h => ?_
        refine oa_t h k_alloc fun v21 H n h => ?_
        refine oe_x hle hd h (k_st (xr sm) rfl) fun v22 H n h => ?_
        refine o0 ?_
        refine c_seq ?_
        refine c_ops ?_
        refine ov_t (a := (.int .i64 (.ofNat 19) 0)) (k_mv rfl) ?_
        refine o0 ?_
        refine c_seqj (fun R H n => ∃ a8_j23, rg R q8 = a8_j23 ∧ rg R q0 = a0 ∧ rg R q2 = v1 ∧ rg R q6 = v12 ∧ rg R q7 = v21 ∧ rg R q63 = a63_j10 ∧ s_parse_parser_unary_j23 lp G call k ih17 a0 a63_j10 v1 v12 v21 a8_j23 H n) ?_ fun j23 => ?_
        · rintro R H n ⟨a8_j23, f8, f0, f2, f6, f7, f63, h⟩
          delta s_parse_parser_unary_j23 at h
          refine c_reg ?_
          refine iv_t (a := a8_j23) (k_mv (xr f8)) ?_
          refine in_t h (k_faddr (xr (ne rfl f7))) fun v24 h => ?_
          refine in_t h (k_ldn (xr sm)) fun v25 h => ?_
          refine iv_t (a := a0) (k_mv (xr (ne rfl (ne rfl (ne rfl f0))))) ?_
          refine in_t h (k_ldn (xr (ne rfl (ne rfl (ne rfl (ne rfl f6)))))) fun v26 h => ?_
          refine ia_t h (k_bslice (pbS (xr sm) pb0)) fun v27 H n h => ?_
          refine ie_t hle hd h (k_call (xsS (xr (ne rfl (ne rfl sm))) (xsS rfl xs0))) fun v28 H n h => ?_
          refine ire h (ne rfl (ne rfl (ne rfl (ne rfl sm)))) (k_ldn (xr (ne rfl (ne rfl (ne rfl (ne rfl (ne rfl sm))))))) fun h => ?_
          refine ire h (ne rfl (ne rfl sm)) (k_ldn (xr (ne rfl (ne rfl (ne rfl (ne rfl (ne rfl (ne rfl (ne rfl f6))))))))) fun h => ?_
          refine ie_t hle hd h (k_call (xsS (xr sm) xs0)) fun v29 H n h => ?_
          refine ire h (ne rfl (ne rfl (ne rfl (ne rfl (ne rfl sm))))) (k_ldn (xr (ne rfl (ne rfl (ne rfl (ne rfl (ne rfl (ne rfl sm)))))))) fun h => ?_
          refine ire h (ne rfl (ne rfl (ne rfl sm))) (k_ldn (xr (ne rfl (ne rfl (ne rfl (ne rfl (ne rfl (ne rfl (ne rfl (ne rfl f6)))))))))) fun h => ?_
          refine in_t h (k_build (psS (xr (ne rfl (ne rfl (ne rfl (ne rfl (ne rfl (ne rfl (ne rfl sm)))))))) (psS (xr (ne rfl (ne rfl (ne rfl (ne rfl (ne rfl sm)))))) (psS (xr sm) (psS (xr (ne rfl (ne rfl sm))) ps0))))) fun v30 h => ?_
          refine ie_x hle hd h (k_st (xr (ne rfl (ne rfl (ne rfl (ne rfl (ne rfl (ne rfl (ne rfl (ne rfl (ne rfl f6)))))))))) (xr sm)) fun v31 H n h => ?_
          refine i0 ?_
          exact hI17 (H, n) _ _ _ ⟨(ne rfl (ne rfl (ne rfl (ne rfl (ne rfl (ne rfl (ne rfl (ne rfl (ne rfl f0))))))))), (ne rfl (ne rfl (ne rfl (ne rfl (ne rfl (ne rfl (ne rfl (ne rfl (ne rfl f2))))))))), (ne rfl (ne rfl (ne rfl (ne rfl (ne rfl (ne rfl (ne rfl (ne rfl (ne rfl f6))))))))), (ne rfl (ne rfl (ne rfl (ne rfl (ne rfl (ne rfl (ne rfl (ne rfl (ne rfl f63))))))))), rfl, rfl⟩ h
        · refine c_seq ?_
          refine c_ops ?_
          refine on_s h (k_faddr (xr (ne rfl sm))) fun v32 h => ?_
          refine on_s h (k_ld1 rfl) fun v33 h => ?_
          refine on_t h (k_eq rfl rfl) fun v34 h => ?_
          refine o0 ?_
          refine c_cond h (xr sm) (fun h => ?_) (fun h => ?_)
          · refine c_ops ?_
            refine ov_t (a := (.int .i64 (.ofNat 20) 0)) (k_mv rfl) ?_
            refine o0 ?_
            exact j23 _ _ _ ⟨_, sm, (ne rfl (ne rfl (ne rfl (ne rfl (ne rfl f0))))), (ne rfl (ne rfl (ne rfl (ne rfl (ne rfl f2))))), (ne rfl (ne rfl (ne rfl (ne rfl (ne rfl f6))))), (ne rfl (ne rfl (ne rfl sm))), (ne rfl (ne rfl (ne rfl (ne rfl (ne rfl f63))))), h⟩
          · refine c_skip ?_
            exact j23 _ _ _ ⟨_, (ne rfl sm), (ne rfl (ne rfl (ne rfl (ne rfl f0)))), (ne rfl (ne rfl (ne rfl (ne rfl f2)))), (ne rfl (ne rfl (ne rfl (ne rfl f6)))), (ne rfl (ne rfl sm)), (ne rfl (ne rfl (ne rfl (ne rfl f63)))), h⟩
      · refine c_exit ?_
        refine bx_same ?_
        exact j14 _ _ _ ⟨(ne rfl f2), (ne rfl f6), (ne rfl f63), h⟩
  · refine c_seq ?_
    refine c_ops ?_
    refine oa_t h (k_bslice (pbS rfl (pbS rfl pb0))) fun v35 H n h => ?_
    refine on_t h (k_lenL (xr sm)) fun v36 h => ?_
    refine ov_t (a := (.int .i64 (.ofNat 0) 0)) (k_mv rfl) ?_
    refine o0 ?_
    refine c_block ?_
    refine c_loop hL (fun s R H n => rg R q18 = s.1 ∧ rg R q63 = s.2.1 ∧ rg R q0 = a0 ∧ rg R q2 = v1 ∧ rg R q3 = v8 ∧ rg R q16 = v35 ∧ rg R q17 = v36 ∧ H = s.2.2.1 ∧ n = s.2.2.2) h ⟨sm, (ne rfl (ne rfl (ne rfl (ne rfl (ne rfl rfl))))), (ne rfl (ne rfl (ne rfl (ne rfl (ne rfl rfl))))), (ne rfl (ne rfl (ne rfl (ne rfl sm)))), (ne rfl (ne rfl (ne rfl sm))), (ne rfl (ne rfl sm)), (ne rfl sm), rfl, rfl⟩ ?_
    rintro ih37 I37 hI37 ⟨a18_l37, a63_l37, H, n⟩ R H0 n0 ⟨f18, f63, f0, f2, f3, f16, f17, eH, eN⟩ h
    replace h : s_parse_parser_unary_l37 lp G call k a0 v1 v35 v36 v8 ih37 a18_l37 a63_l37 H n := h
    obtain rfl : H0 = H := eH
    obtain rfl : n0 = n := eN
    delta s_parse_parser_unary_l37 at h
    refine c_seq ?_
    refine c_ops ?_
    refine on_t h (k_bin (xr f18) (xr f17)) fun v38 h => ?_
    refine o0 ?_
    refine c_seq ?_
    refine c_cond h (xr sm) (fun h => ?_) (fun h => ?_)
    · refine c_skip ?_
      refine c_seq ?_
      refine c_block ?_
      refine c_seq ?_
      refine c_ops ?_
      refine on_s h (k_iaddr (xr (ne rfl f16)) (xr (ne rfl f18))) fun v39 h => ?_
      refine on_s h (k_ld1 rfl) fun v40 h => ?_
      refine ov_t (a := a18_l37) (k_mv (xr (ne rfl f18))) ?_
      refine ov_t (a := v40) (k_mv rfl) ?_
      refine o0 ?_
      refine c_seq ?_
      refine c_ops ?_
      refine oa_s h (k_bslice (pbS (xr sm) pb0)) fun v41 H n h => ?_
      refine oe_t hle hd h (k_call (xsS (xr (ne rfl (ne rfl (ne rfl f0)))) (xsS rfl xs0))) fun v42 H n h => ?_
      refine o0 ?_
      refine c_cond h (xr sm) (fun h => ?_) (fun h => ?_)
      · refine c_seq ?_
        refine c_ops ?_
        refine oe_s hle hd h (k_call (xsS (xr (ne rfl (ne rfl (ne rfl (ne rfl f0))))) xs0)) fun v43 H n h => ?_
        refine oe_t hle hd h (k_defer (ne rfl (ne rfl (ne rfl (ne rfl f63)))) rfl xs0) fun v44 H n h => ?_
        refine o0 ?_
        refine c_seq ?_
        refine c_ops ?_
        refine oe_s hle hd h (k_call (xsS (xr (ne rfl (ne rfl (ne rfl (ne rfl (ne rfl f0)))))) xs0)) fun v45 H n h => ?_
        refine o0 ?_
        refine c_seq ?_
        refine c_reg ?_
        refine ia_t h (k_bslice (pbS rfl (pbS rfl pb0))) fun v46 H n h => ?_
        refine iv_t (a := a18_l37) (k_mv (xr (ne rfl (ne rfl (ne rfl (ne rfl sm)))))) ?_
        refine in_t h (k_iaddr (xr (ne rfl sm)) (xr sm)) fun v47 h => ?_
        refine in_t h (k_ld1 (xr sm)) fun v48 h => ?_
        refine in_t h (k_ldn (xr (ne rfl (ne rfl (ne rfl (ne rfl (ne rfl (ne rfl (ne rfl (ne rfl (ne rfl f3))))))))))) fun v49 h => ?_
        refine iv_t (a := a0) (k_mv (xr (ne rfl (ne rfl (ne rfl (ne rfl (ne rfl (ne rfl (ne rfl (ne rfl (ne rfl (ne rfl f0)))))))))))) ?_
        refine ie_t hle hd h (k_call (xsS (xr sm) xs0)) fun v50 H n h => ?_
        refine ire h (ne rfl (ne rfl (ne rfl sm))) (k_ld1 (xr (ne rfl (ne rfl (ne rfl (ne rfl sm)))))) fun h => ?_
        refine ire h (ne rfl (ne rfl sm)) (k_ldn (xr (ne rfl (ne rfl (ne rfl (ne rfl (ne rfl (ne rfl (ne rfl (ne rfl (ne rfl (ne rfl (ne rfl (ne rfl f3)))))))))))))) fun h => ?_
        refine ia_t h (k_bslice (pbS (xr sm) pb0)) fun v51 H n h => ?_
        refine ie_x hle hd h (k_st (xr (ne rfl (ne rfl (ne rfl (ne rfl (ne rfl (ne rfl (ne rfl (ne rfl (ne rfl (ne rfl (ne rfl (ne rfl (ne rfl f2)))))))))))))) rfl) fun v52 H n h => ?_
        refine ire h (ne rfl (ne rfl (ne rfl (ne rfl sm)))) (k_ld1 (xr (ne rfl (ne rfl (ne rfl (ne rfl (ne rfl sm))))))) fun h => ?_
        refine ire h (ne rfl (ne rfl (ne rfl sm))) (k_ldn (xr (ne rfl (ne rfl (ne rfl (ne rfl (ne rfl (ne rfl (ne rfl (ne rfl (ne rfl (ne rfl (ne rfl (ne rfl (ne rfl f3))))))))))))))) fun h => ?_
        refine in_t h (k_faddr (xr (ne rfl (ne rfl (ne rfl (ne rfl (ne rfl (ne rfl (ne rfl (ne rfl (ne rfl (ne rfl (ne rfl (ne rfl (ne rfl f2))))))))))))))) fun v53 h => ?_
        refine ie_x hle hd h (k_st (xr sm) (xr (ne rfl (ne rfl (ne rfl (ne rfl (ne rfl sm))))))) fun v54 H n h => ?_
        refine ire h (ne rfl (ne rfl (ne rfl (ne rfl sm)))) (k_ldn (xr (ne rfl (ne rfl (ne rfl (ne rfl (ne rfl (ne rfl (ne rfl (ne rfl (ne rfl (ne rfl (ne rfl (ne rfl (ne rfl (ne rfl f3)))))))))))))))) fun h => ?_
        refine in_t h (k_faddr (xr (ne rfl (ne rfl (ne rfl (ne rfl (ne rfl (ne rfl (ne rfl (ne rfl (ne rfl (ne rfl (ne rfl (ne rfl (ne rfl (ne rfl f2)))))))))))))))) fun v55 h => ?_
        refine ie_x hle hd h (k_st (xr sm) (xr (ne rfl (ne rfl (ne rfl (ne rfl (ne rfl sm))))))) fun v56 H n h => ?_
        refine in_t h (k_faddr (xr (ne rfl (ne rfl (ne rfl (ne rfl (ne rfl (ne rfl (ne rfl (ne rfl (ne rfl (ne rfl (ne rfl (ne rfl (ne rfl (ne rfl (ne rfl f2))))))))))))))))) fun v57 h => ?_
        refine ie_x hle hd h (k_st (xr sm) (xr (ne rfl (ne rfl (ne rfl sm))))) fun v58 H n h => ?_
        refine i0 ?_
        refine c_ret ?_
        exact fin_to hle hd (ne rfl (ne rfl (ne rfl (ne rfl (ne rfl (ne rfl (ne rfl (ne rfl (ne rfl (ne rfl (ne rfl sm))))))))))) (rsN (ne rfl (ne rfl (ne rfl (ne rfl (ne rfl (ne rfl (ne rfl (ne rfl (ne rfl (ne rfl (ne rfl (ne rfl (ne rfl (ne rfl (ne rfl (ne rfl f2)))))))))))))))) rs0) h
      · refine c_skip ?_
        refine c_ops ?_
        refine on_s h (k_bin (xr (ne rfl (ne rfl (ne rfl (ne rfl f18))))) rfl) fun v59 h => ?_
        refine ov_t (a := v59) (k_mv rfl) ?_
        refine o0 ?_
        exact hI37 (v59, a63_l37, H, n) _ _ _ ⟨sm, (ne rfl (ne rfl (ne rfl (ne rfl (ne rfl f63))))), (ne rfl (ne rfl (ne rfl (ne rfl (ne rfl f0))))), (ne rfl (ne rfl (ne rfl (ne rfl (ne rfl f2))))), (ne rfl (ne rfl (ne rfl (ne rfl (ne rfl f3))))), (ne rfl (ne rfl (ne rfl (ne rfl (ne rfl f16))))), (ne rfl (ne rfl (ne rfl (ne rfl (ne rfl f17))))), rfl, rfl⟩ h
    · refine c_exit ?_
      refine bx_same ?_
      exact j10 _ _ _ ⟨_, (ne rfl f63), (ne rfl f0), (ne rfl f2), h⟩
theorem si_parse_parser_parts {lp : LpT} (hL : LpOk lp) (G : Roms) : SfOk G af_parse_parser_parts (ar1 (s_parse_parser_parts lp G)) := by
  intro call callE hle hd
  refine fun l H n k h0 => ?_
  obtain ⟨a0, rfl, h⟩ := ar1_inv h0
  clear h0
  delta s_parse_parser_parts at h
  refine f_intro rfl ?_
  refine c_seq ?_
  refine c_ops ?_
  refine oa_t h k_alloc fun v1 H n h => ?_
  refine o0 ?_
  refine c_seq ?_
  refine c_ops ?_
  refine oe_s hle hd h (k_call (xsS (xr (ne rfl rfl)) xs0)) fun v2 H n h => ?_
  refine oa_t h k_alloc fun v3 H n h => ?_
  refine oe_x hle hd h (k_st (xr sm) rfl) fun v4 H n h => ?_
  refine o0 ?_
  refine c_block ?_
  refine c_loop hL (fun s R H n => rg R q0 = a0 ∧ rg R q2 = v1 ∧ rg R q3 = v3 ∧ H = s.1 ∧ n = s.2) h ⟨(ne rfl (ne rfl rfl)), (ne rfl sm), sm, rfl, rfl⟩ ?_
  rintro ih5 I5 hI5 ⟨H, n⟩ R H0 n0 ⟨f0, f2, f3, eH, eN⟩ h
  replace h : s_parse_parser_parts_l5 lp G call k a0 v1 v3 ih5 H n := h
  obtain rfl : H0 = H := eH
  obtain rfl : n0 = n := eN
  delta s_parse_parser_parts_l5 at h
  refine c_block ?_
  refine c_seq ?_
  refine c_ops ?_
  refine on_s h (k_nilck (xr f0)) fun v6 h => ?_
  refine on_s h (k_faddr rfl) fun v7 h => ?_
  refine on_s h (k_ld1 rfl) fun v8 h => ?_
  refine on_s h (k_iaddr rfl rfl) fun v9 h => ?_
  refine on_s h (k_faddr rfl) fun v10 h => ?_
  refine on_s h (k_ldn rfl) fun v11 h => ?_
  refine oa_t h k_alloc fun v12 H n h => ?_
  refine oe_x hle hd h (k_st (xr sm) rfl) fun v13 H n h => ?_
  refine o0 ?_
  refine c_block ?_
  refine c_seq ?_
  refine c_ops ?_
  refine oe_s hle hd h (k_call (xsS (xr (ne rfl f0)) (xsS rfl xs0))) fun v14 H n h => ?_
  refine ov_t (a := v14) (k_mv rfl) ?_
  refine o0 ?_
  refine c_cond h (xr sm) (fun h => ?_) (fun h => ?_)
  · refine c_seq ?_
    refine c_reg ?_
    refine in_t h (k_ldn (xr (ne rfl sm))) fun v15 h => ?_
    refine in_t h (k_ldn (xr (ne rfl (ne rfl (ne rfl f3))))) fun v16 h => ?_
    refine iv_t (a := a0) (k_mv (xr (ne rfl (ne rfl (ne rfl (ne rfl f0)))))) ?_
    refine ie_t hle hd h (k_call (xsS (xr sm) xs0)) fun v17 H n h => ?_
    refine ire h (ne rfl (ne rfl (ne rfl sm))) (k_ldn (xr (ne rfl (ne rfl (ne rfl (ne rfl (ne rfl sm))))))) fun h => ?_
    refine ire h (ne rfl (ne rfl sm)) (k_ldn (xr (ne rfl (ne rfl (ne rfl (ne rfl (ne rfl (ne rfl f3)))))))) fun h => ?_
    refine ia_t h (k_bslice (pbS (xr (ne rfl (ne rfl sm))) (pbS (xr sm) pb0))) fun v18 H n h => ?_
    refine in_t h (k_build (psS rfl (psS (xr (ne rfl (ne rfl (ne rfl (ne rfl sm))))) (psS (xr sm) ps0)))) fun v19 h => ?_
    refine ie_x hle hd h (k_st (xr (ne rfl (ne rfl (ne rfl (ne rfl (ne rfl (ne rfl (ne rfl (ne rfl f3))))))))) (xr sm)) fun v20 H n h => ?_
    refine i0 ?_
    refine c_ops ?_
    refine oa_s h (k_bslice (pbS rfl pb0)) fun v21 H n h => ?_
    refine oe_s hle hd h (k_call (xsS (xr (ne rfl (ne rfl (ne rfl (ne rfl (ne rfl (ne rfl (ne rfl (ne rfl f0))))))))) (xsS rfl xs0))) fun v22 H n h => ?_
    refine o0 ?_
    exact hI5 (H, n) _ _ _ ⟨(ne rfl (ne rfl (ne rfl (ne rfl (ne rfl (ne rfl (ne rfl (ne rfl f0)))))))), (ne rfl (ne rfl (ne rfl (ne rfl (ne rfl (ne rfl (ne rfl (ne rfl f2)))))))), (ne rfl (ne rfl (ne rfl (ne rfl (ne rfl (ne rfl (ne rfl (ne rfl f3)))))))), rfl, rfl⟩ h
  · refine c_seq ?_
    refine c_ops ?_
    refine oe_s hle hd h (k_call (xsS (xr (ne rfl (ne rfl f0))) (xsS rfl xs0))) fun v23 H n h => ?_
    refine ov_t (a := v23) (k_mv rfl) ?_
    refine o0 ?_
    refine c_cond h (xr sm) (fun h => ?_) (fun h => ?_)
    · refine c_ops ?_
      refine on_s h (k_ldn (xr (ne rfl (ne rfl (ne rfl f3))))) fun v24 h => ?_
      refine on_s h (k_ldn (xr (ne rfl (ne rfl sm)))) fun v25 h => ?_
      refine oe_s hle hd h (k_call (xsS (xr (ne rfl (ne rfl (ne rfl f0)))) (xsS rfl (xsS rfl xs0)))) fun v26 H n h => ?_
      refine oe_x hle hd h (k_st (xr (ne rfl (ne rfl (ne rfl f3)))) rfl) fun v27 H n h => ?_
      refine o0 ?_
      exact hI5 (H, n) _ _ _ ⟨(ne rfl (ne rfl (ne rfl f0))), (ne rfl (ne rfl (ne rfl f2))), (ne rfl (ne rfl (ne rfl f3))), rfl, rfl⟩ h
    · refine c_seq ?_
      refine c_ops ?_
      refine on_s h (k_ldn (xr (ne rfl (ne rfl (ne rfl f3))))) fun v28 h => ?_
      refine oe_x hle hd h (k_st (xr (ne rfl (ne rfl (ne rfl f2)))) rfl) fun v29 H n h => ?_
      refine o0 ?_
      refine c_ret ?_
      exact fin_no (rsN (ne rfl (ne rfl (ne rfl f2))) rs0) h
theorem si_parse_parser_prim {lp : LpT} (hL : LpOk lp) (G : Roms) : SfOk G af_parse_parser_prim (ar1 (s_parse_parser_prim lp G)) := by
  intro call callE hle hd
  refine fun l H n k h0 => ?_
  obtain ⟨a0, rfl, h⟩ := ar1_inv h0
  clear h0
  delta s_parse_parser_prim at h
  refine f_intro rfl ?_
  refine c_seq ?_
  refine c_ops ?_
  refine oa_t h k_alloc fun v1 H n h => ?_
  refine o0 ?_
  refine c_seq ?_
  refine c_ops ?_
  refine on_s h (k_nilck (xr (ne rfl rfl))) fun v2 h => ?_
  refine on_s h (k_faddr rfl) fun v3 h => ?_
  refine on_s h (k_ld1 rfl) fun v4 h => ?_
  refine on_s h (k_iaddr rfl rfl) fun v5 h => ?_
  refine on_s h (k_ldn rfl) fun v6 h => ?_
  refine oa_t h k_alloc fun v7 H n h => ?_
  refine oe_x hle hd h (k_st (xr sm) rfl) fun v8 H n h => ?_
  refine o0 ?_
  refine c_seq ?_
  refine c_ops ?_
  refine on_s h (k_faddr (xr sm)) fun v9 h => ?_
  refine on_s h (k_ldn rfl) fun v10 h => ?_
  refine on_s h (k_build (psS rfl ps0)) fun v11 h => ?_
  refine oa_t h k_alloc fun v12 H n h => ?_
  refine oe_x hle hd h (k_st (xr sm) rfl) fun v13 H n h => ?_
  refine o0 ?_
  refine c_seqj (fun R H n => rg R q2 = v1 ∧ rg R q4 = v12 ∧ s_parse_parser_prim_j14 lp G call k v1 v12 H n) ?_ fun j14 => ?_
  · rintro R H n ⟨f2, f4, h⟩
    delta s_parse_parser_prim_j14 at h
    refine c_seq ?_
    refine c_ops ?_
    refine on_s h (k_ldn (xr f4)) fun v15 h => ?_
    refine oe_x hle hd h (k_st (xr f2) rfl) fun v16 H n h => ?_
    refine o0 ?_
    refine c_ret ?_
    exact fin_no (rsN f2 rs0) h
  · refine c_block ?_
    refine c_seq ?_
    refine c_ops ?_
    refine oe_s hle hd h (k_call (xsS (xr (ne rfl (ne rfl (ne rfl rfl)))) xs0)) fun v17 H n h => ?_
    refine on_s h (k_not rfl) fun v18 h => ?_
    refine ov_t (a := v18) (k_mv rfl) ?_
    refine o0 ?_
    refine c_cond h (xr sm) (fun h => ?_) (fun h => ?_)
    · refine c_seq ?_
      refine c_ops ?_
      refine on_s h (k_ldn (xr (ne rfl sm))) fun v19 h => ?_
      refine oe_x hle hd h (k_st (xr (ne rfl (ne rfl (ne rfl sm)))) rfl) fun v20 H n h => ?_
      refine o0 ?_
      refine c_ret ?_
      exact fin_no (rsN (ne rfl (ne rfl (ne rfl sm))) rs0) h
    · refine c_seq ?_
      refine c_ops ?_
      refine on_s h (k_faddr (xr (ne rfl (ne rfl sm)))) fun v21 h => ?_
      refine on_s h (k_ld1 rfl) fun v22 h => ?_
      refine on_s h (k_eq rfl rfl) fun v23 h => ?_
      refine ov_t (a := v23) (k_mv rfl) ?_
      refine o0 ?_
      refine c_cond h (xr sm) (fun h => ?_) (fun h => ?_)
      · refine c_seq ?_
        refine c_ops ?_
        refine oe_s hle hd h (k_call (xsS (xr (ne rfl (ne rfl (ne rfl (ne rfl (ne rfl rfl)))))) xs0)) fun v24 H n h => ?_
        refine o0 ?_
        refine c_reg ?_
        refine in_t h (k_faddr (xr (ne rfl (ne rfl (ne rfl sm))))) fun v25 h => ?_
        refine in_t h (k_ld1 (xr sm)) fun v26 h => ?_
        refine in_t h (k_faddr (xr (ne rfl (ne rfl (ne rfl (ne rfl sm)))))) fun v27 h => ?_
        refine ie_x hle hd h (k_st (xr sm) rfl) fun v28 H n h => ?_
        refine ire h (ne rfl sm) (k_ld1 (xr (ne rfl (ne rfl sm)))) fun h => ?_
        refine in_t h (k_faddr (xr (ne rfl (ne rfl (ne rfl (ne rfl (ne rfl sm))))))) fun v29 h => ?_
        refine ie_x hle hd h (k_st (xr sm) (xr (ne rfl (ne rfl sm)))) fun v30 H n h => ?_
        refine i0 ?_
        exact j14 _ _ _ ⟨(ne rfl (ne rfl (ne rfl (ne rfl (ne rfl (ne rfl (ne rfl (ne rfl sm)))))))), (ne rfl (ne rfl (ne rfl (ne rfl (ne rfl (ne rfl sm)))))), h⟩
      · refine c_seq ?_
        refine c_ops ?_
        refine on_s h (k_faddr (xr (ne rfl (ne rfl (ne rfl sm))))) fun v31 h => ?_
        refine on_s h (k_ld1 rfl) fun v32 h => ?_
        refine on_s h (k_eq rfl rfl) fun v33 h => ?_
        refine ov_t (a := v33) (k_mv rfl) ?_
        refine o0 ?_
        refine c_cond h (xr sm) (fun h => ?_) (fun h => ?_)
        · refine c_seq ?_
          refine c_ops ?_
          refine oe_s hle hd h (k_call (xsS (xr (ne rfl (ne rfl (ne rfl (ne rfl (ne rfl (ne rfl rfl))))))) xs0)) fun v34 H n h => ?_
          refine o0 ?_
          refine c_reg ?_
          refine in_t h (k_faddr (xr (ne rfl (ne rfl (ne rfl (ne rfl sm)))))) fun v35 h => ?_
          refine in_t h (k_ld1 (xr sm)) fun v36 h => ?_
          refine in_t h (k_faddr (xr (ne rfl (ne rfl (ne rfl (ne rfl (ne rfl sm))))))) fun v37 h => ?_
          refine ie_x hle hd h (k_st (xr sm) rfl) fun v38 H n h => ?_
          refine ire h (ne rfl sm) (k_ld1 (xr (ne rfl (ne rfl sm)))) fun h => ?_
          refine in_t h (k_faddr (xr (ne rfl (ne rfl (ne rfl (ne rfl (ne rfl (ne rfl sm)))))))) fun v39 h => ?_
          refine ie_x hle hd h (k_st (xr sm) (xr (ne rfl (ne rfl sm)))) fun v40 H n h => ?_
          refine i0 ?_
          exact j14 _ _ _ ⟨(ne rfl (ne rfl (ne rfl (ne rfl (ne rfl (ne rfl (ne rfl (ne rfl (ne rfl sm))))))))), (ne rfl (ne rfl (ne rfl (ne rfl (ne rfl (ne rfl (ne rfl sm))))))), h⟩
        · refine c_seq ?_
          refine c_ops ?_
          refine on_s h (k_faddr (xr (ne rfl (ne rfl (ne rfl (ne rfl sm)))))) fun v41 h => ?_
          refine on_s h (k_ld1 rfl) fun v42 h => ?_
          refine on_s h (k_eq rfl rfl) fun v43 h => ?_
          refine ov_t (a := v43) (k_mv rfl) ?_
          refine o0 ?_
          refine c_cond h (xr sm) (fun h => ?_) (fun h => ?_)
          · refine c_seq ?_
            refine c_ops ?_
            refine oe_s hle hd h (k_call (xsS (xr (ne rfl (ne rfl (ne rfl (ne rfl (ne rfl (ne rfl (ne rfl rfl)))))))) xs0)) fun v44 H n h => ?_
            refine on_s h (k_field1 rfl) fun v45 h => ?_
            refine oe_s hle hd h (k_call (xsS rfl xs0)) fun v46 H n h => ?_
            refine on_s h (k_faddr (xr (ne rfl (ne rfl (ne rfl (ne rfl sm)))))) fun v47 h => ?_
            refine oe_x hle hd h (k_st rfl rfl) fun v48 H n h => ?_
            refine on_s h (k_faddr (xr (ne rfl (ne rfl (ne rfl (ne rfl sm)))))) fun v49 h => ?_
            refine oe_x hle hd h (k_st rfl rfl) fun v50 H n h => ?_
            refine o0 ?_
            refine c_seq ?_
            refine c_ops ?_
            refine oa_s h (k_bslice (pbS rfl pb0)) fun v51 H n h => ?_
            refine oe_s hle hd h (k_call (xsS (xr (ne rfl (ne rfl (ne rfl (ne rfl (ne rfl (ne rfl (ne rfl rfl)))))))) (xsS rfl xs0))) fun v52 H n h => ?_
            refine o0 ?_
            refine c_seq ?_
            refine c_ops ?_
            refine oe_s hle hd h (k_call (xsS (xr (ne rfl (ne rfl (ne rfl (ne rfl (ne rfl (ne rfl (ne rfl rfl)))))))) (xsS rfl xs0))) fun v53 H n h => ?_
            refine on_s h (k_faddr (xr (ne rfl (ne rfl (ne rfl (ne rfl sm)))))) fun v54 h => ?_
            refine oe_x hle hd h (k_st rfl rfl) fun v55 H n h => ?_
            refine o0 ?_
            refine c_ops ?_
            refine oe_s hle hd h (k_call (xsS (xr (ne rfl (ne rfl (ne rfl (ne rfl (ne rfl (ne rfl (ne rfl rfl)))))))) xs0)) fun v56 H n h => ?_
            refine on_s h (k_faddr (xr (ne rfl (ne rfl (ne rfl (ne rfl sm)))))) fun v57 h => ?_
            refine oe_x hle hd h (k_st rfl rfl) fun v58 H n h => ?_
            refine o0 ?_
            exact j14 _ _ _ ⟨(ne rfl (ne rfl (ne rfl (ne rfl (ne rfl (ne rfl sm)))))), (ne rfl (ne rfl (ne rfl (ne rfl sm)))), h⟩
          · refine c_seq ?_
            refine c_ops ?_
            refine oe_s hle hd h (k_call (xsS (xr (ne rfl (ne rfl (ne rfl (ne rfl (ne rfl (ne rfl (ne rfl rfl)))))))) (xsS rfl xs0))) fun v59 H n h => ?_
            refine ov_t (a := v59) (k_mv rfl) ?_
            refine o0 ?_
            refine c_cond h (xr sm) (fun h => ?_) (fun h => ?_)
            · refine c_ops ?_
              refine on_s h (k_faddr (xr (ne rfl (ne rfl (ne rfl (ne rfl (ne rfl sm))))))) fun v60 h => ?_
              refine oe_x hle hd h (k_st rfl rfl) fun v61 H n h => ?_
              refine o0 ?_
              exact j14 _ _ _ ⟨(ne rfl (ne rfl (ne rfl (ne rfl (ne rfl (ne rfl (ne rfl sm))))))), (ne rfl (ne rfl (ne rfl (ne rfl (ne rfl sm))))), h⟩
            · refine c_seq ?_
              refine c_ops ?_
              refine oe_s hle hd h (k_call (xsS (xr (ne rfl (ne rfl (ne rfl (ne rfl (ne rfl (ne rfl (ne rfl (ne rfl rfl))))))))) (xsS rfl xs0))) fun v62 H n h => ?_
              refine ov_t (a := v62) (k_mv rfl) ?_
              refine o0 ?_
              refine c_cond h (xr sm) (fun h => ?_) (fun h => ?_)
              · refine c_ops ?_
                refine on_s h (k_faddr (xr (ne rfl (ne rfl (ne rfl (ne rfl (ne rfl (ne rfl sm)))))))) fun v63 h => ?_
                refine oe_x hle hd h (k_st rfl rfl) fun v64 H n h => ?_
                refine o0 ?_
                exact j14 _ _ _ ⟨(ne rfl (ne rfl (ne rfl (ne rfl (ne rfl (ne rfl (ne rfl (ne rfl sm)))))))), (ne rfl (ne rfl (ne rfl (ne rfl (ne rfl (ne rfl sm)))))), h⟩
              · refine c_seq ?_
                refine c_ops ?_
                refine oe_s hle hd h (k_call (xsS (xr (ne rfl (ne rfl (ne rfl (ne rfl (ne rfl (ne rfl (ne rfl (ne rfl (ne rfl rfl)))))))))) (xsS rfl xs0))) fun v65 H n h => ?_
                refine ov_t (a := v65) (k_mv rfl) ?_
                refine o0 ?_
                refine c_cond h (xr sm) (fun h => ?_) (fun h => ?_)
                · refine c_ops ?_
                  refine on_s h (k_faddr (xr (ne rfl (ne rfl (ne rfl (ne rfl (ne rfl (ne rfl (ne rfl sm))))))))) fun v66 h => ?_
                  refine oe_x hle hd h (k_st rfl rfl) fun v67 H n h => ?_
                  refine o0 ?_
                  exact j14 _ _ _ ⟨(ne rfl (ne rfl (ne rfl (ne rfl (ne rfl (ne rfl (ne rfl (ne rfl (ne rfl sm))))))))), (ne rfl (ne rfl (ne rfl (ne rfl (ne rfl (ne rfl (ne rfl sm))))))), h⟩
                · refine c_seq ?_
                  refine c_ops ?_
                  refine oe_s hle hd h (k_call (xsS (xr (ne rfl (ne rfl (ne rfl (ne rfl (ne rfl (ne rfl (ne rfl (ne rfl (ne rfl (ne rfl rfl))))))))))) (xsS rfl xs0))) fun v68 H n h => ?_
                  refine ov_t (a := v68) (k_mv rfl) ?_
                  refine o0 ?_
                  refine c_cond h (xr sm) (fun h => ?_) (fun h => ?_)
                  · refine c_ops ?_
                    refine on_s h (k_faddr (xr (ne rfl (ne rfl (ne rfl (ne rfl (ne rfl (ne rfl (ne rfl (ne rfl sm)))))))))) fun v69 h => ?_
                    refine oe_x hle hd h (k_st rfl rfl) fun v70 H n h => ?_
                    refine o0 ?_
                    exact j14 _ _ _ ⟨(ne rfl (ne rfl (ne rfl (ne rfl (ne rfl (ne rfl (ne rfl (ne rfl (ne rfl (ne rfl sm)))))))))), (ne rfl (ne rfl (ne rfl (ne rfl (ne rfl (ne rfl (ne rfl (ne rfl sm)))))))), h⟩
                  · refine c_seq ?_
                    refine c_ops ?_
                    refine oe_s hle hd h (k_call (xsS (xr (ne rfl (ne rfl (ne rfl (ne rfl (ne rfl (ne rfl (ne rfl (ne rfl (ne rfl (ne rfl (ne rfl rfl)))))))))))) (xsS rfl xs0))) fun v71 H n h => ?_
                    refine ov_t (a := v71) (k_mv rfl) ?_
                    refine o0 ?_
                    refine c_cond h (xr sm) (fun h => ?_) (fun h => ?_)
                    · refine c_seq ?_
                      refine c_ops ?_
                      refine oe_s hle hd h (k_call (xsS (xr (ne rfl (ne rfl (ne rfl (ne rfl (ne rfl (ne rfl (ne rfl (ne rfl (ne rfl (ne rfl (ne rfl (ne rfl rfl))))))))))))) xs0)) fun v72 H n h => ?_
                      refine on_s h (k_faddr (xr (ne rfl (ne rfl (ne rfl (ne rfl (ne rfl (ne rfl (ne rfl (ne rfl (ne rfl sm))))))))))) fun v73 h => ?_
                      refine oe_x hle hd h (k_st rfl rfl) fun v74 H n h => ?_
                      refine on_s h (k_faddr (xr (ne rfl (ne rfl (ne rfl (ne rfl (ne rfl (ne rfl (ne rfl (ne rfl (ne rfl sm))))))))))) fun v75 h => ?_
                      refine oe_x hle hd h (k_st rfl rfl) fun v76 H n h => ?_
                      refine o0 ?_
                      refine c_seq ?_
                      refine c_ops ?_
                      refine oe_t hle hd h (k_call (xsS (xr (ne rfl (ne rfl (ne rfl (ne rfl (ne rfl (ne rfl (ne rfl (ne rfl (ne rfl (ne rfl (ne rfl (ne rfl rfl))))))))))))) (xsS rfl xs0))) fun v77 H n h => ?_
                      refine o0 ?_
                      refine c_cond h (xr sm) (fun h => ?_) (fun h => ?_)
                      · refine c_seq ?_
                        refine c_ops ?_
                        refine oe_s hle hd h (k_call (xsS (xr (ne rfl (ne rfl (ne rfl (ne rfl (ne rfl (ne rfl (ne rfl (ne rfl (ne rfl (ne rfl (ne rfl (ne rfl (ne rfl rfl)))))))))))))) xs0)) fun v78 H n h => ?_
                        refine oa_s h (k_bslice (pbS rfl pb0)) fun v79 H n h => ?_
                        refine on_s h (k_faddr (xr (ne rfl (ne rfl (ne rfl (ne rfl (ne rfl (ne rfl (ne rfl (ne rfl (ne rfl (ne rfl sm)))))))))))) fun v80 h => ?_
                        refine oe_x hle hd h (k_st rfl rfl) fun v81 H n h => ?_
                        refine on_s h (k_faddr (xr (ne rfl (ne rfl (ne rfl (ne rfl (ne rfl (ne rfl (ne rfl (ne rfl (ne rfl (ne rfl sm)))))))))))) fun v82 h => ?_
                        refine oe_x hle hd h (k_st rfl rfl) fun v83 H n h => ?_
                        refine o0 ?_
                        refine c_ops ?_
                        refine oa_s h (k_bslice (pbS rfl pb0)) fun v84 H n h => ?_
                        refine oe_s hle hd h (k_call (xsS (xr (ne rfl (ne rfl (ne rfl (ne rfl (ne rfl (ne rfl (ne rfl (ne rfl (ne rfl (ne rfl (ne rfl (ne rfl (ne rfl rfl)))))))))))))) (xsS rfl xs0))) fun v85 H n h => ?_
                        refine o0 ?_
                        exact j14 _ _ _ ⟨(ne rfl (ne rfl (ne rfl (ne rfl (ne rfl (ne rfl (ne rfl (ne rfl (ne rfl (ne rfl (ne rfl (ne rfl sm)))))))))))), (ne rfl (ne rfl (ne rfl (ne rfl (ne rfl (ne rfl (ne rfl (ne rfl (ne rfl (ne rfl sm)))))))))), h⟩
                      · refine c_seq ?_
                        refine c_ops ?_
                        refine on_s h (k_faddr (xr (ne rfl (ne rfl (ne rfl (ne rfl (ne rfl (ne rfl (ne rfl (ne rfl (ne rfl (ne rfl sm)))))))))))) fun v86 h => ?_
                        refine on_s h (k_ldn rfl) fun v87 h => ?_
                        refine oe_s hle hd h (k_call (xsS rfl xs0)) fun v88 H n h => ?_
                        refine on_t h (k_not rfl) fun v89 h => ?_
                        refine o0 ?_
                        refine c_cond h (xr sm) (fun h => ?_) (fun h => ?_)
                        · refine c_ops ?_
                          refine oe_s hle hd h (k_call (xsS (xr (ne rfl (ne rfl (ne rfl (ne rfl (ne rfl (ne rfl (ne rfl (ne rfl (ne rfl (ne rfl (ne rfl (ne rfl (ne rfl (ne rfl rfl))))))))))))))) (xsS rfl xs0))) fun v90 H n h => ?_
                          refine o0 ?_
                          exact j14 _ _ _ ⟨(ne rfl (ne rfl (ne rfl (ne rfl (ne rfl (ne rfl (ne rfl (ne rfl (ne rfl (ne rfl (ne rfl (ne rfl (ne rfl sm))))))))))))), (ne rfl (ne rfl (ne rfl (ne rfl (ne rfl (ne rfl (ne rfl (ne rfl (ne rfl (ne rfl (ne rfl sm))))))))))), h⟩
                        · refine c_skip ?_
                          exact j14 _ _ _ ⟨(ne rfl (ne rfl (ne rfl (ne rfl (ne rfl (ne rfl (ne rfl (ne rfl (ne rfl (ne rfl (ne rfl (ne rfl (ne rfl sm))))))))))))), (ne rfl (ne rfl (ne rfl (ne rfl (ne rfl (ne rfl (ne rfl (ne rfl (ne rfl (ne rfl (ne rfl sm))))))))))), h⟩
                    · refine c_seq ?_
                      refine c_ops ?_
                      refine oe_s hle hd h (k_call (xsS (xr (ne rfl (ne rfl (ne rfl (ne rfl (ne rfl (ne rfl (ne rfl (ne rfl (ne rfl (ne rfl (ne rfl (ne rfl rfl))))))))))))) (xsS rfl xs0))) fun v91 H n h => ?_
                      refine ov_t (a := v91) (k_mv rfl) ?_
                      refine o0 ?_
                      refine c_cond h (xr sm) (fun h => ?_) (fun h => ?_)
                      · refine c_seq ?_
                        refine c_ops ?_
                        refine oe_s hle hd h (k_call (xsS (xr (ne rfl (ne rfl (ne rfl (ne rfl (ne rfl (ne rfl (ne rfl (ne rfl (ne rfl (ne rfl (ne rfl (ne rfl (ne rfl rfl)))))))))))))) xs0)) fun v92 H n h => ?_
                        refine oe_x hle hd h (k_st (xr (ne rfl (ne rfl (ne rfl (ne rfl (ne rfl (ne rfl (ne rfl (ne rfl (ne rfl (ne rfl sm))))))))))) rfl) fun v93 H n h => ?_
                        refine o0 ?_
                        refine c_ops ?_
                        refine oa_s h (k_bslice (pbS rfl pb0)) fun v94 H n h => ?_
                        refine oe_s hle hd h (k_call (xsS (xr (ne rfl (ne rfl (ne rfl (ne rfl (ne rfl (ne rfl (ne rfl (ne rfl (ne rfl (ne rfl (ne rfl (ne rfl (ne rfl rfl)))))))))))))) (xsS rfl xs0))) fun v95 H n h => ?_
                        refine o0 ?_
                        exact j14 _ _ _ ⟨(ne rfl (ne rfl (ne rfl (ne rfl (ne rfl (ne rfl (ne rfl (ne rfl (ne rfl (ne rfl (ne rfl (ne rfl sm)))))))))))), (ne rfl (ne rfl (ne rfl (ne rfl (ne rfl (ne rfl (ne rfl (ne rfl (ne rfl (ne rfl sm)))))))))), h⟩
                      · refine c_ops ?_
                        refine oe_s hle hd h (k_call (xsS (xr (ne rfl (ne rfl (ne rfl (ne rfl (ne rfl (ne rfl (ne rfl (ne rfl (ne rfl (ne rfl (ne rfl (ne rfl (ne rfl rfl)))))))))))))) (xsS rfl xs0))) fun v96 H n h => ?_
                        refine o0 ?_
                        exact j14 _ _ _ ⟨(ne rfl (ne rfl (ne rfl (ne rfl (ne rfl (ne rfl (ne rfl (ne rfl (ne rfl (ne rfl (ne rfl (ne rfl sm)))))))))))), (ne rfl (ne rfl (ne rfl (ne rfl (ne rfl (ne rfl (ne rfl (ne rfl (ne rfl (ne rfl sm)))))))))), h⟩
theorem si_parse_parser_member {lp : LpT} (hL : LpOk lp) (G : Roms) : SfOk G af_parse_parser_member (ar3 (s_parse_parser_member lp G)) := by
  intro call callE hle hd
  refine fun l H n k h0 => ?_
  obtain ⟨a0, a1, a2, rfl, h⟩ := ar3_inv h0
  clear h0
  delta s_parse_parser_member at h
  refine f_intro rfl ?_
  refine c_seq ?_
  refine c_ops ?_
  refine oa_t h (k_box (xr rfl)) fun v1 H n h => ?_
  refine oa_t h (k_box (xr (ne rfl rfl))) fun v2 H n h => ?_
  refine oa_t h k_alloc fun v3 H n h => ?_
  refine o0 ?_
  refine c_seq ?_
  refine c_seq ?_
  refine c_ops ?_
  refine oe_t hle hd h (k_call (xsS (xr (ne rfl (ne rfl (ne rfl rfl)))) (xsS rfl xs0))) fun v4 H n h => ?_
  refine o0 ?_
  refine c_cond h (xr sm) (fun h => ?_) (fun h => ?_)
  · refine c_seq ?_
    refine c_ops ?_
    refine on_s h (k_ldn (xr (ne rfl (ne rfl sm)))) fun v5 h => ?_
    refine on_s h (k_ldn (xr (ne rfl (ne rfl (ne rfl sm))))) fun v6 h => ?_
    refine oa_s h (k_bslice (pbS rfl pb0)) fun v7 H n h => ?_
    refine on_s h (k_build (psS rfl (psS rfl (psS rfl ps0)))) fun v8 h => ?_
    refine oe_x hle hd h (k_st (xr (ne rfl sm)) rfl) fun v9 H n h => ?_
    refine o0 ?_
    refine c_ret ?_
    exact fin_no (rsN (ne rfl sm) rs0) h
  · refine c_skip ?_
    refine c_seq ?_
    refine c_ops ?_
    refine oe_s hle hd h (k_call (xsS (xr (ne rfl (ne rfl (ne rfl (ne rfl rfl))))) (xsS rfl xs0))) fun v10 H n h => ?_
    refine ov_t (a := v10) (k_mv rfl) ?_
    refine o0 ?_
    refine c_seq ?_
    refine c_seq ?_
    refine c_ops ?_
    refine oa_s h (k_bslice (pbS rfl pb0)) fun v11 H n h => ?_
    refine oe_s hle hd h (k_call (xsS (xr (ne rfl (ne rfl (ne rfl (ne rfl (ne rfl rfl)))))) (xsS rfl xs0))) fun v12 H n h => ?_
    refine on_t h (k_not rfl) fun v13 h => ?_
    refine o0 ?_
    refine c_cond h (xr sm) (fun h => ?_) (fun h => ?_)
    · refine c_seq ?_
      refine c_ops ?_
      refine on_s h (k_ldn (xr (ne rfl (ne rfl (ne rfl (ne rfl sm)))))) fun v14 h => ?_
      refine on_s h (k_ldn (xr (ne rfl (ne rfl (ne rfl (ne rfl (ne rfl sm))))))) fun v15 h => ?_
      refine oa_s h (k_bslice (pbS rfl pb0)) fun v16 H n h => ?_
      refine on_s h (k_build (psS rfl (psS rfl (psS (xr (ne rfl sm)) (psS rfl ps0))))) fun v17 h => ?_
      refine oe_x hle hd h (k_st (xr (ne rfl (ne rfl (ne rfl sm)))) rfl) fun v18 H n h => ?_
      refine o0 ?_
      refine c_ret ?_
      exact fin_no (rsN (ne rfl (ne rfl (ne rfl sm))) rs0) h
    · refine c_skip ?_
      refine c_seq ?_
      refine c_reg ?_
      refine in_t h (k_ldn (xr (ne rfl (ne rfl (ne rfl (ne rfl sm)))))) fun v19 h => ?_
      refine iv_t (a := v10) (k_mv (xr (ne rfl (ne rfl sm)))) ?_
      refine in_t h (k_ldn (xr (ne rfl (ne rfl (ne rfl (ne rfl (ne rfl (ne rfl (ne rfl sm))))))))) fun v20 h => ?_
      refine ia_t h (k_bslice (pbS (xr sm) pb0)) fun v21 H n h => ?_
      refine iv_t (a := a0) (k_mv (xr (ne rfl (ne rfl (ne rfl (ne rfl (ne rfl (ne rfl (ne rfl (ne rfl (ne rfl (ne rfl rfl)))))))))))) ?_
      refine ie_t hle hd h (k_call (xsS (xr sm) xs0)) fun v22 H n h => ?_
      refine ire h (ne rfl (ne rfl (ne rfl (ne rfl (ne rfl sm))))) (k_ldn (xr (ne rfl (ne rfl (ne rfl (ne rfl (ne rfl (ne rfl (ne rfl (ne rfl (ne rfl (ne rfl sm)))))))))))) fun h => ?_
      refine ire h (ne rfl (ne rfl (ne rfl sm))) (k_ldn (xr (ne rfl (ne rfl (ne rfl (ne rfl (ne rfl (ne rfl (ne rfl (ne rfl (ne rfl (ne rfl (ne rfl sm))))))))))))) fun h => ?_
      refine ie_t hle hd h (k_app (xr (ne rfl (ne rfl sm))) (xr sm)) fun v23 H n h => ?_
      refine ire h (ne rfl (ne rfl (ne rfl (ne rfl (ne rfl (ne rfl sm)))))) (k_ldn (xr (ne rfl (ne rfl (ne rfl (ne rfl (ne rfl (ne rfl (ne rfl (ne rfl (ne rfl (ne rfl (ne rfl sm))))))))))))) fun h => ?_
      refine in_t h (k_build (psS rfl (psS (xr (ne rfl (ne rfl (ne rfl (ne rfl (ne rfl (ne rfl sm))))))) (psS (xr (ne rfl (ne rfl (ne rfl (ne rfl (ne rfl sm)))))) (psS (xr sm) ps0))))) fun v24 h => ?_
      refine ie_x hle hd h (k_st (xr (ne rfl (ne rfl (ne rfl (ne rfl (ne rfl (ne rfl (ne rfl (ne rfl (ne rfl (ne rfl (ne rfl sm)))))))))))) (xr sm)) fun v25 H n h => ?_
      refine i0 ?_
      refine c_ret ?_
      exact fin_no (rsN (ne rfl (ne rfl (ne rfl (ne rfl (ne rfl (ne rfl (ne rfl (ne rfl (ne rfl (ne rfl (ne rfl sm))))))))))) rs0) h
theorem si_parse_parser_args {lp : LpT} (hL : LpOk lp) (G : Roms) : SfOk G af_parse_parser_args (ar1 (s_parse_parser_args lp G)) := by
  intro call callE hle hd
  refine fun l H n k h0 => ?_
  obtain ⟨a0, rfl, h⟩ := ar1_inv h0
  clear h0
  delta s_parse_parser_args at h
  refine f_intro rfl ?_
  refine c_seq ?_
  refine c_ops ?_
  refine ov_t (a := .nils) (k_mv rfl) ?_
  refine o0 ?_
  refine c_seq ?_
  refine c_ops ?_
  refine ov_t (a := .nils) (k_mv rfl) ?_
  refine o0 ?_
  refine c_seq ?_
  refine c_ops ?_
  refine oa_s h (k_bslice (pbS rfl pb0)) fun v1 H n h => ?_
  refine oe_s hle hd h (k_call (xsS (xr (ne rfl (ne rfl rfl))) (xsS rfl xs0))) fun v2 H n h => ?_
  refine o0 ?_
  refine c_seqj (fun R H n => ∃ a3_j3, rg R q3 = a3_j3 ∧ s_parse_parser_args_j3 lp G call k a3_j3 H n) ?_ fun j3 => ?_
  · rintro R H n ⟨a3_j3, f3, h⟩
    delta s_parse_parser_args_j3 at h
    refine c_seq ?_
    refine c_ops ?_
    refine ov_t (a := a3_j3) (k_mv (xr f3)) ?_
    refine o0 ?_
    refine c_ret ?_
    exact fin_no (rsT sm rs0) h
  · refine c_block ?_
    refine c_loop hL (fun s R H n => rg R q3 = s.1 ∧ rg R q0 = a0 ∧ H = s.2.1 ∧ n = s.2.2) h ⟨sm, (ne rfl (ne rfl rfl)), rfl, rfl⟩ ?_
    rintro ih4 I4 hI4 ⟨a3_l4, H, n⟩ R H0 n0 ⟨f3, f0, eH, eN⟩ h
    replace h : s_parse_parser_args_l4 lp G call k a0 ih4 a3_l4 H n := h
    obtain rfl : H0 = H := eH
    obtain rfl : n0 = n := eN
    delta s_parse_parser_args_l4 at h
    refine c_seq ?_
    refine c_seq ?_
    refine c_ops ?_
    refine oe_s hle hd h (k_call (xsS (xr f0) xs0)) fun v5 H n h => ?_
    refine ogn_s h rfl (k_mv (xr f0)) fun v6 h => ?_
    refine oge_s hle hd h rfl (k_call (xsS rfl (xsS rfl xs0))) fun v7 H n h => ?_
    refine ogn_s h rfl (k_not rfl) fun v8 h => ?_
    refine on_t h (k_pick rfl rfl rfl) fun v9 h => ?_
    refine o0 ?_
    refine c_cond h (xr sm) (fun h => ?_) (fun h => ?_)
    · refine c_skip ?_
      refine c_block ?_
      refine c_seqj (fun R H n => rg R q0 = a0 ∧ rg R q3 = a3_l4 ∧ s_parse_parser_args_j10 lp G call k ih4 a0 a3_l4 H n) ?_ fun j10 => ?_
      · rintro R H n ⟨f0, f3, h⟩
        delta s_parse_parser_args_j10 at h
        refine c_seq ?_
        refine c_ops ?_
        refine oe_s hle hd h (k_call (xsS (xr f0) xs0)) fun v11 H n h => ?_
        refine oa_s h (k_bslice (pbS rfl pb0)) fun v12 H n h => ?_
        refine oe_s hle hd h (k_app (xr f3) rfl) fun v13 H n h => ?_
        refine ov_t (a := v13) (k_mv rfl) ?_
        refine o0 ?_
        refine c_ops ?_
        refine on_s h (k_lenL (xr sm)) fun v14 h => ?_
        refine oe_s hle hd h (k_call (xsS (xr (ne rfl f0)) (xsS rfl xs0))) fun v15 H n h => ?_
        refine o0 ?_
        exact hI4 (v13, H, n) _ _ _ ⟨sm, (ne rfl f0), rfl, rfl⟩ h
      · refine c_seq ?_
        refine c_ops ?_
        refine on_s h (k_lenL (xr (ne rfl f3))) fun v16 h => ?_
        refine on_t h (k_bin rfl rfl) fun v17 h => ?_
        refine o0 ?_
        refine c_cond h (xr sm) (fun h => ?_) (fun h => ?_)
        · refine c_ops ?_
          refine oa_s h (k_bslice (pbS rfl pb0)) fun v18 H n h => ?_
          refine oe_s hle hd h (k_call (xsS (xr (ne rfl (ne rfl f0))) (xsS rfl xs0))) fun v19 H n h => ?_
          refine o0 ?_
          exact j10 _ _ _ ⟨(ne rfl (ne rfl f0)), (ne rfl (ne rfl f3)), h⟩
        · refine c_skip ?_
          exact j10 _ _ _ ⟨(ne rfl (ne rfl f0)), (ne rfl (ne rfl f3)), h⟩
    · refine c_exit ?_
      refine bx_same ?_
      exact j3 _ _ _ ⟨_, (ne rfl f3), h⟩
theorem si_ast_Type_Class {lp : LpT} (hL : LpOk lp) (G : Roms) : SfOk G af_ast_Type_Class (ar1 (s_ast_Type_Class lp G)) := by
  intro call callE hle hd
  refine fun l H n k h0 => ?_
  obtain ⟨a0, rfl, h⟩ := ar1_inv h0
  clear h0
  delta s_ast_Type_Class at h
  refine f_intro rfl ?_
  refine c_seq ?_
  refine c_ops ?_
  refine oa_t h (k_box (xr rfl)) fun v1 H n h => ?_
  refine ov_t (a := (.bool false)) (k_mv rfl) ?_
  refine o0 ?_
  refine c_seq ?_
  refine c_ops ?_
  refine on_s h (k_faddr (xr (ne rfl sm))) fun v2 h => ?_
  refine on_s h (k_ld1 rfl) fun v3 h => ?_
  refine on_s h (k_not rfl) fun v4 h => ?_
  refine ogn_s h rfl (k_faddr (xr (ne rfl sm))) fun v5 h => ?_
  refine ogn_s h rfl (k_ld1 rfl) fun v6 h => ?_
  refine ogn_s h rfl (k_eq rfl rfl) fun v7 h => ?_
  refine on_s h (k_pick rfl rfl rfl) fun v8 h => ?_
  refine ogn_s h rfl (k_faddr (xr (ne rfl sm))) fun v9 h => ?_
  refine ogn_s h rfl (k_ld1 rfl) fun v10 h => ?_
  refine ogn_s h rfl (k_idxS rfl rfl) fun v11 h => ?_
  refine ogn_s h rfl (k_bin rfl rfl) fun v12 h => ?_
  refine on_s h (k_pick rfl rfl rfl) fun v13 h => ?_
  refine ogn_s h rfl (k_faddr (xr (ne rfl sm))) fun v14 h => ?_
  refine ogn_s h rfl (k_ld1 rfl) fun v15 h => ?_
  refine ogn_s h rfl (k_idxS rfl rfl) fun v16 h => ?_
  refine ogn_s h rfl (k_bin rfl rfl) fun v17 h => ?_
  refine on_s h (k_pick rfl rfl rfl) fun v18 h => ?_
  refine ov_t (a := v18) (k_mv rfl) ?_
  refine o0 ?_
  refine c_ret ?_
  exact fin_no (rsT sm rs0) h
end Go.P2

