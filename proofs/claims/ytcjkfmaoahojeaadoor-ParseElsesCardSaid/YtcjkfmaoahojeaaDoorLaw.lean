/- Part of a proof: texts W3L of the engine and what is proved with it; nothing is assumed. -/
import Derived.Test.YtcjkfmaoahojeaaDoorPlainS
import Derived.Test.YtcjkfmaoahojeaaDoorTran
import Derived.Test.YtcjkfmaoahojeaaDoorEngF
set_option linter.unusedVariables false
set_option linter.unusedSimpArgs false
/- The law, with what it reads of its numbers. -/
namespace Go.P2
open Go.Eng
set_option maxRecDepth 100000
noncomputable def t_kilnlaw06_ParseElses_j35 (lp : LpT) (G : Roms) (call : CallT) (k : KV) (b1 : Bool) (x0 : Nat) (z0 : Int) (H : Heap) (n : Nat) : Prop :=
 k (.bool false) H n
noncomputable def t_kilnlaw06_ParseElses_l36 (lp : LpT) (G : Roms) (call : CallT) (k : KV) (b1 : Bool) (v3 : V) (v33 : V) (x0 : Nat) (z0 : Int) (ih36 : (V × Heap × Nat) → Prop) (a10_l36 : V) (H : Heap) (n : Nat) : Prop :=
 onV (B2.ev .lss a10_l36 v3) fun v37 =>
 onTst v37 true (onV (paddV 0 v33) fun v38 =>
 onV (ld1V v38 G H) fun v39 =>
 onV (eqV (.one .int) true v39 (.int .i64 (.ofNat 4) 0)) fun v40 =>
 onG v40 false (paddV 7 v33) fun v41 =>
 onG v40 false (ld1V v41 G H) fun v42 =>
 onG v40 false (lenV v42) fun v43 =>
 onG v40 false (eqV (.one .int) true v43 (.int .i64 (.ofNat 1) 0)) fun v44 =>
 onV (pickV v40 (.bool true) v44) fun v45 =>
 onG v45 false (paddV 7 v33) fun v46 =>
 onG v45 false (ld1V v46 G H) fun v47 =>
 onG v45 false (iaddrV 9 v47 (.int .i64 (.ofNat 0) 0)) fun v48 =>
 onG v45 false (paddV 6 v48) fun v49 =>
 onG v45 false (ld1V v49 G H) fun v50 =>
 onG v45 false (iaddrV 11 v50 (.int .i64 (.ofNat 0) 0)) fun v51 =>
 onG v45 false (paddV 3 v51) fun v52 =>
 onG v45 false (ld1V v52 G H) fun v53 =>
 onG v45 false (some a10_l36) fun v54 =>
 onG v45 false (eqV (.one .int) true v53 v54) fun v55 =>
 onV (pickV v45 (.bool true) v55) fun v56 =>
 onTst v56 true (k (.bool false) H n) (onV (B2.ev .sub v3 (.int .i64 (.ofNat 1) 0)) fun v57 =>
 onV (eqV (.one .int) false a10_l36 v57) fun v58 =>
 onTst v58 true (onV (paddV 8 v33) fun v59 =>
 onV (ld1V v59 G H) fun v60 =>
 onV (lenV v60) fun v61 =>
 onV (eqV (.one .int) false v61 (.int .i64 (.ofNat 2) 0)) fun v62 =>
 onG v62 true (some (.bool b1)) fun v63 =>
 onV (pickV v62 v63 (.bool false)) fun v64 =>
 onG v64 false (paddV 8 v33) fun v65 =>
 onG v64 false (ld1V v65 G H) fun v66 =>
 onG v64 false (lenV v66) fun v67 =>
 onG v64 false (eqV (.one .int) false v67 (.int .i64 (.ofNat 0) 0)) fun v68 =>
 onG v64 false (some v68) fun v69 =>
 onG v69 true (some (.bool b1)) fun v70 =>
 onG v69 true (notV v70) fun v71 =>
 onG v64 false (pickV v69 v71 (.bool false)) fun v72 =>
 onV (pickV v64 (.bool true) v72) fun v73 =>
 k v73 H n) (onV (paddV 8 v33) fun v74 =>
 onV (ld1V v74 G H) fun v75 =>
 onV (lenV v75) fun v76 =>
 onV (eqV (.one .int) true v76 (.int .i64 (.ofNat 1) 0)) fun v77 =>
 onTst v77 true (k (.bool false) H n) (onV (paddV 8 v33) fun v78 =>
 onV (ld1V v78 G H) fun v79 =>
 onV (iaddrV 9 v79 (.int .i64 (.ofNat 0) 0)) fun v80 =>
 onV (ldnV 9 v80 G H) fun v81 =>
 stV 9 v33 v81 H n fun v82 H n =>
 onV (B2.ev .add a10_l36 (.int .i64 (.ofNat 1) 0)) fun v83 =>
 ih36 (v83, H, n))))) (t_kilnlaw06_ParseElses_j35 lp G call k b1 x0 z0 H n)
noncomputable def t_kilnlaw06_ParseElses_j5 (lp : LpT) (G : Roms) (call : CallT) (k : KV) (b1 : Bool) (v3 : V) (x0 : Nat) (z0 : Int) (a5_j5 : V) (H : Heap) (n : Nat) : Prop :=
 onV (B2.ev .add (.str 27 13361891714458179349549316075936357978049634714877068622323346531) a5_j5) fun v6 =>
 onV (B2.ev .add v6 (.str 4 2099281184)) fun v7 =>
 call n_parse_Class [v7] H n fun v8 H n =>
 onV (extV v8 0) fun v9 =>
 onV (extV v8 1) fun v10 =>
 onA (aAlloc 6 [[(.int .i64 (.ofNat 0) 0), (.int .i64 (.ofNat 0) 0), (.str 0 0), (.str 0 0), .nils, .nils]] E0) H n fun v11 H n =>
 onA (aAlloc 3 [[(.int .i64 (.ofNat 0) 0), (.int .i64 (.ofNat 0) 0), (.int .i64 (.ofNat 0) 0)]] E0) H n fun v12 H n =>
 stV 6 v11 v9 H n fun v13 H n =>
 stV 3 v12 v10 H n fun v14 H n =>
 onV (paddV 0 v12) fun v15 =>
 onV (ld1V v15 G H) fun v16 =>
 onV (eqV (.one .int) true v16 (.int .i64 (.ofNat 0) 0)) fun v17 =>
 onG v17 false (paddV 5 v11) fun v18 =>
 onG v17 false (ld1V v18 G H) fun v19 =>
 onG v17 false (iaddrV 8 v19 (.int .i64 (.ofNat 0) 0)) fun v20 =>
 onG v17 false (paddV 7 v20) fun v21 =>
 onG v17 false (ld1V v21 G H) fun v22 =>
 onG v17 false (lenV v22) fun v23 =>
 onG v17 false (eqV (.one .int) true v23 (.int .i64 (.ofNat 1) 0)) fun v24 =>
 onV (pickV v17 (.bool true) v24) fun v25 =>
 onTst v25 true (k (.bool false) H n) (onV (paddV 5 v11) fun v26 =>
 onV (ld1V v26 G H) fun v27 =>
 onV (iaddrV 8 v27 (.int .i64 (.ofNat 0) 0)) fun v28 =>
 onV (paddV 7 v28) fun v29 =>
 onV (ld1V v29 G H) fun v30 =>
 onV (iaddrV 9 v30 (.int .i64 (.ofNat 0) 0)) fun v31 =>
 onV (ldnV 9 v31 G H) fun v32 =>
 onA (aAlloc 9 [[(.int .i64 (.ofNat 0) 0), (.int .i64 (.ofNat 0) 0), (.int .i64 (.ofNat 0) 0), (.str 0 0), (.str 0 0), (.bool false), .nils, .nils, .nils]] E0) H n fun v33 H n =>
 stV 9 v33 v32 H n fun v34 H n =>
 lp (V × Heap × Nat) (fun ih s => t_kilnlaw06_ParseElses_l36 lp G call k b1 v3 v33 x0 z0 ih s.1 s.2.1 s.2.2) ((.int .i64 (.ofNat 0) 0), H, n))
noncomputable def t_kilnlaw06_ParseElses_j4 (lp : LpT) (G : Roms) (call : CallT) (k : KV) (b1 : Bool) (v3 : V) (x0 : Nat) (z0 : Int) (a5_j4 : V) (H : Heap) (n : Nat) : Prop :=
 onTst (.bool b1) true (onV (B2.ev .add a5_j4 (.str 29 3373387688266565359136919999834046757122898627080910134699207674324256)) fun v84 =>
 t_kilnlaw06_ParseElses_j5 lp G call k b1 v3 x0 z0 v84 H n) (t_kilnlaw06_ParseElses_j5 lp G call k b1 v3 x0 z0 a5_j4 H n)
noncomputable def t_kilnlaw06_ParseElses_l85 (lp : LpT) (G : Roms) (call : CallT) (k : KV) (b1 : Bool) (v3 : V) (x0 : Nat) (z0 : Int) (ih85 : (V × V × Heap × Nat) → Prop) (a5_l85 a6_l85 : V) (H : Heap) (n : Nat) : Prop :=
 onV (B2.ev .lss a6_l85 v3) fun v86 =>
 onTst v86 true (onV (B2.ev .add a5_l85 (.str 19 723766442744561034942879277849587233573332256)) fun v87 =>
 call n_strconv_Itoa [a6_l85] H n fun v88 H n =>
 onV (B2.ev .add v87 v88) fun v89 =>
 onV (B2.ev .add v89 (.str 3 8200251)) fun v90 =>
 onV (B2.ev .add a6_l85 (.int .i64 (.ofNat 1) 0)) fun v91 =>
 ih85 (v90, v91, H, n)) (t_kilnlaw06_ParseElses_j4 lp G call k b1 v3 x0 z0 a5_l85 H n)
noncomputable def t_kilnlaw06_ParseElses (lp : LpT) (G : Roms) (call : CallT) (z0 : Int) (b1 : Bool) (x0 : Nat) (H : Heap) (n : Nat) (k : KV) : Prop :=
 call n_kilnlaw06_head [] H n fun v1 H n =>
 onV (notV v1) fun v2 =>
 onTst v2 true (k (.bool false) H n) (onV (B2.ev .add (.int .i64 (.ofNat 1) 0) (.int .i64 (.ofNat x0) 0)) fun v3 =>
 lp (V × V × Heap × Nat) (fun ih s => t_kilnlaw06_ParseElses_l85 lp G call k b1 v3 x0 z0 ih s.1 s.2.1 s.2.2.1 s.2.2.2) ((.str 17 42578138482624074712360392962652319540841), (.int .i64 (.ofNat 1) 0), H, n))
theorem ti_kilnlaw06_ParseElses {lp : LpT} (hL : LpOk lp) {G : Roms} {call callE : CallT} (z0 : Int) (b1 : Bool) (x0 : Nat) (ex0 : uand z0 31 = x0) (hle : CallLe call callE) (hd : CallDet callE) {H : Heap} {n : Nat} {k : KV} (h : t_kilnlaw06_ParseElses lp G call z0 b1 x0 H n k) : exFunL af_kilnlaw06_ParseElses G callE [(.int .i64 z0 0), (.bool b1)] H n k := by
  delta t_kilnlaw06_ParseElses at h
  refine f_intro rfl ?_
  refine c_seq ?_
  refine c_ops ?_
  refine ov_t (a := (.bool false)) (k_mv rfl) ?_
  refine o0 ?_
  refine c_seq ?_
  refine c_seq ?_
  refine c_ops ?_
  refine oe_s hle hd h (k_call xs0) fun v1 H n h => ?_
  refine on_t h (k_not rfl) fun v2 h => ?_
  refine o0 ?_
  refine c_cond h (xr sm) (fun h => ?_) (fun h => ?_)
  · refine c_seq ?_
    refine c_ops ?_
    refine ov_t (a := (.bool false)) (k_mv rfl) ?_
    refine o0 ?_
    refine c_ret ?_
    exact fin_no (rsT sm rs0) h
  · refine c_skip ?_
    refine c_seq ?_
    refine c_ops ?_
    refine ov_s (a := (.int .i64 (.ofNat x0) 0)) (km3 (by decide) ex0 (xr (ne rfl (ne rfl rfl)))) ?_
    refine on_s h (k_bin rfl rfl) fun v3 h => ?_
    refine ov_t (a := v3) (k_mv rfl) ?_
    refine o0 ?_
    refine c_seq ?_
    refine c_ops ?_
    refine ov_t (a := (.str 17 42578138482624074712360392962652319540841)) (k_mv rfl) ?_
    refine o0 ?_
    refine c_seqj (fun R H n => ∃ a5_j4, rg R q5 = a5_j4 ∧ rg R q0 = v3 ∧ rg R q1 = (.bool b1) ∧ t_kilnlaw06_ParseElses_j4 lp G call k b1 v3 x0 z0 a5_j4 H n) ?_ fun j4 => ?_
    · rintro R H n ⟨a5_j4, f5, f0, f1, h⟩
      delta t_kilnlaw06_ParseElses_j4 at h
      refine c_seqj (fun R H n => ∃ a5_j5, rg R q5 = a5_j5 ∧ rg R q0 = v3 ∧ rg R q1 = (.bool b1) ∧ t_kilnlaw06_ParseElses_j5 lp G call k b1 v3 x0 z0 a5_j5 H n) ?_ fun j5 => ?_
      · rintro R H n ⟨a5_j5, f5, f0, f1, h⟩
        delta t_kilnlaw06_ParseElses_j5 at h
        refine c_seq ?_
        refine c_ops ?_
        refine on_s h (k_bin rfl (xr f5)) fun v6 h => ?_
        refine on_s h (k_bin rfl rfl) fun v7 h => ?_
        refine oe_s hle hd h (k_call (xsS rfl xs0)) fun v8 H n h => ?_
        refine on_s h (k_ext rfl) fun v9 h => ?_
        refine on_s h (k_ext rfl) fun v10 h => ?_
        refine oa_t h k_alloc fun v11 H n h => ?_
        refine oa_t h k_alloc fun v12 H n h => ?_
        refine oe_x hle hd h (k_st (xr (ne rfl sm)) rfl) fun v13 H n h => ?_
        refine oe_x hle hd h (k_st (xr sm) rfl) fun v14 H n h => ?_
        refine o0 ?_
        refine c_seq ?_
        refine c_seq ?_
        refine c_ops ?_
        refine on_s h (k_faddr (xr sm)) fun v15 h => ?_
        refine on_s h (k_ld1 rfl) fun v16 h => ?_
        refine on_s h (k_eq rfl rfl) fun v17 h => ?_
        refine ogn_s h rfl (k_faddr (xr (ne rfl sm))) fun v18 h => ?_
        refine ogn_s h rfl (k_ld1 rfl) fun v19 h => ?_
        refine ogn_s h rfl (k_iaddr rfl rfl) fun v20 h => ?_
        refine ogn_s h rfl (k_faddr rfl) fun v21 h => ?_
        refine ogn_s h rfl (k_ld1 rfl) fun v22 h => ?_
        refine ogn_s h rfl (k_lenL rfl) fun v23 h => ?_
        refine ogn_s h rfl (k_eq rfl rfl) fun v24 h => ?_
        refine on_t h (k_pick rfl rfl rfl) fun v25 h => ?_
        refine o0 ?_
        refine c_cond h (xr sm) (fun h => ?_) (fun h => ?_)
        · refine c_seq ?_
          refine c_ops ?_
          refine ov_t (a := (.bool false)) (k_mv rfl) ?_
          refine o0 ?_
          refine c_ret ?_
          exact fin_no (rsT sm rs0) h
        · refine c_skip ?_
          refine c_seq ?_
          refine c_ops ?_
          refine on_s h (k_faddr (xr (ne rfl (ne rfl sm)))) fun v26 h => ?_
          refine on_s h (k_ld1 rfl) fun v27 h => ?_
          refine on_s h (k_iaddr rfl rfl) fun v28 h => ?_
          refine on_s h (k_faddr rfl) fun v29 h => ?_
          refine on_s h (k_ld1 rfl) fun v30 h => ?_
          refine on_s h (k_iaddr rfl rfl) fun v31 h => ?_
          refine on_s h (k_ldn rfl) fun v32 h => ?_
          refine oa_t h k_alloc fun v33 H n h => ?_
          refine oe_x hle hd h (k_st (xr sm) rfl) fun v34 H n h => ?_
          refine o0 ?_
          refine c_seqj (fun R H n => t_kilnlaw06_ParseElses_j35 lp G call k b1 x0 z0 H n) ?_ fun j35 => ?_
          · intro R H n h
            delta t_kilnlaw06_ParseElses_j35 at h
            refine c_seq ?_
            refine c_ops ?_
            refine ov_t (a := (.bool false)) (k_mv rfl) ?_
            refine o0 ?_
            refine c_ret ?_
            exact fin_no (rsT sm rs0) h
          · refine c_seq ?_
            refine c_ops ?_
            refine ov_t (a := (.int .i64 (.ofNat 0) 0)) (k_mv rfl) ?_
            refine o0 ?_
            refine c_block ?_
            refine c_loop hL (fun s R H n => rg R q10 = s.1 ∧ rg R q0 = v3 ∧ rg R q1 = (.bool b1) ∧ rg R q9 = v33 ∧ H = s.2.1 ∧ n = s.2.2) h ⟨sm, (ne rfl (ne rfl (ne rfl (ne rfl (ne rfl f0))))), (ne rfl (ne rfl (ne rfl (ne rfl (ne rfl f1))))), (ne rfl sm), rfl, rfl⟩ ?_
            rintro ih36 I36 hI36 ⟨a10_l36, H, n⟩ R H0 n0 ⟨f10, f0, f1, f9, eH, eN⟩ h
            replace h : t_kilnlaw06_ParseElses_l36 lp G call k b1 v3 v33 x0 z0 ih36 a10_l36 H n := h
            obtain rfl : H0 = H := eH
            obtain rfl : n0 = n := eN
            delta t_kilnlaw06_ParseElses_l36 at h
            refine c_seq ?_
            refine c_seq ?_
            refine c_ops ?_
            refine on_t h (k_bin (xr f10) (xr f0)) fun v37 h => ?_
            refine o0 ?_
            refine c_cond h (xr sm) (fun h => ?_) (fun h => ?_)
            · refine c_skip ?_
              refine c_seq ?_
              refine c_block ?_
              refine c_seq ?_
              refine c_seq ?_
              refine c_ops ?_
              refine on_s h (k_faddr (xr (ne rfl f9))) fun v38 h => ?_
              refine on_s h (k_ld1 rfl) fun v39 h => ?_
              refine on_s h (k_eq rfl rfl) fun v40 h => ?_
              refine ogn_s h rfl (k_faddr (xr (ne rfl f9))) fun v41 h => ?_
              refine ogn_s h rfl (k_ld1 rfl) fun v42 h => ?_
              refine ogn_s h rfl (k_lenL rfl) fun v43 h => ?_
              refine ogn_s h rfl (k_eq rfl rfl) fun v44 h => ?_
              refine on_s h (k_pick rfl rfl rfl) fun v45 h => ?_
              refine ogn_s h rfl (k_faddr (xr (ne rfl f9))) fun v46 h => ?_
              refine ogn_s h rfl (k_ld1 rfl) fun v47 h => ?_
              refine ogn_s h rfl (k_iaddr rfl rfl) fun v48 h => ?_
              refine ogn_s h rfl (k_faddr rfl) fun v49 h => ?_
              refine ogn_s h rfl (k_ld1 rfl) fun v50 h => ?_
              refine ogn_s h rfl (k_iaddr rfl rfl) fun v51 h => ?_
              refine ogn_s h rfl (k_faddr rfl) fun v52 h => ?_
              refine ogn_s h rfl (k_ld1 rfl) fun v53 h => ?_
              refine ogn_s h rfl (k_mv (xr (ne rfl f10))) fun v54 h => ?_
              refine ogn_s h rfl (k_eq rfl rfl) fun v55 h => ?_
              refine on_t h (k_pick rfl rfl rfl) fun v56 h => ?_
              refine o0 ?_
              refine c_cond h (xr sm) (fun h => ?_) (fun h => ?_)
              · refine c_seq ?_
                refine c_ops ?_
                refine ov_t (a := (.bool false)) (k_mv rfl) ?_
                refine o0 ?_
                refine c_ret ?_
                exact fin_no (rsT sm rs0) h
              · refine c_skip ?_
                refine c_seq ?_
                refine c_seq ?_
                refine c_ops ?_
                refine on_s h (k_bin (xr (ne rfl (ne rfl f0))) rfl) fun v57 h => ?_
                refine on_t h (k_eq (xr (ne rfl (ne rfl f10))) rfl) fun v58 h => ?_
                refine o0 ?_
                refine c_cond h (xr sm) (fun h => ?_) (fun h => ?_)
                · refine c_seq ?_
                  refine c_ops ?_
                  refine on_s h (k_faddr (xr (ne rfl (ne rfl (ne rfl f9))))) fun v59 h => ?_
                  refine on_s h (k_ld1 rfl) fun v60 h => ?_
                  refine on_s h (k_lenL rfl) fun v61 h => ?_
                  refine on_s h (k_eq rfl rfl) fun v62 h => ?_
                  refine ogn_s h rfl (k_mv (xr (ne rfl (ne rfl (ne rfl f1))))) fun v63 h => ?_
                  refine on_s h (k_pick rfl rfl rfl) fun v64 h => ?_
                  refine ogn_s h rfl (k_faddr (xr (ne rfl (ne rfl (ne rfl f9))))) fun v65 h => ?_
                  refine ogn_s h rfl (k_ld1 rfl) fun v66 h => ?_
                  refine ogn_s h rfl (k_lenL rfl) fun v67 h => ?_
                  refine ogn_s h rfl (k_eq rfl rfl) fun v68 h => ?_
                  refine ogn_s h rfl (k_mv rfl) fun v69 h => ?_
                  refine ogn_s h rfl (k_mv (xr (ne rfl (ne rfl (ne rfl f1))))) fun v70 h => ?_
                  refine ogn_s h rfl (k_not rfl) fun v71 h => ?_
                  refine ogn_s h rfl (k_pick rfl rfl rfl) fun v72 h => ?_
                  refine on_s h (k_pick rfl rfl rfl) fun v73 h => ?_
                  refine ov_t (a := v73) (k_mv rfl) ?_
                  refine o0 ?_
                  refine c_ret ?_
                  exact fin_no (rsT sm rs0) h
                · refine c_skip ?_
                  refine c_seq ?_
                  refine c_seq ?_
                  refine c_ops ?_
                  refine on_s h (k_faddr (xr (ne rfl (ne rfl (ne rfl f9))))) fun v74 h => ?_
                  refine on_s h (k_ld1 rfl) fun v75 h => ?_
                  refine on_s h (k_lenL rfl) fun v76 h => ?_
                  refine on_t h (k_eq rfl rfl) fun v77 h => ?_
                  refine o0 ?_
                  refine c_cond h (xr sm) (fun h => ?_) (fun h => ?_)
                  · refine c_seq ?_
                    refine c_ops ?_
                    refine ov_t (a := (.bool false)) (k_mv rfl) ?_
                    refine o0 ?_
                    refine c_ret ?_
                    exact fin_no (rsT sm rs0) h
                  · refine c_skip ?_
                    refine c_ops ?_
                    refine on_s h (k_faddr (xr (ne rfl (ne rfl (ne rfl (ne rfl f9)))))) fun v78 h => ?_
                    refine on_s h (k_ld1 rfl) fun v79 h => ?_
                    refine on_s h (k_iaddr rfl rfl) fun v80 h => ?_
                    refine on_s h (k_ldn rfl) fun v81 h => ?_
                    refine oe_x hle hd h (k_st (xr (ne rfl (ne rfl (ne rfl (ne rfl f9))))) rfl) fun v82 H n h => ?_
                    refine o0 ?_
                    refine c_ops ?_
                    refine on_s h (k_bin (xr (ne rfl (ne rfl (ne rfl (ne rfl f10))))) rfl) fun v83 h => ?_
                    refine ov_t (a := v83) (k_mv rfl) ?_
                    refine o0 ?_
                    exact hI36 (v83, H, n) _ _ _ ⟨sm, (ne rfl (ne rfl (ne rfl (ne rfl (ne rfl f0))))), (ne rfl (ne rfl (ne rfl (ne rfl (ne rfl f1))))), (ne rfl (ne rfl (ne rfl (ne rfl (ne rfl f9))))), rfl, rfl⟩ h
            · refine c_exit ?_
              refine bx_same ?_
              exact j35 _ _ _ h
      · refine c_seq ?_
        refine c_ops ?_
        refine ov_t (a := (.bool b1)) (k_mv (xr f1)) ?_
        refine o0 ?_
        refine c_cond h (xr sm) (fun h => ?_) (fun h => ?_)
        · refine c_ops ?_
          refine on_s h (k_bin (xr (ne rfl f5)) rfl) fun v84 h => ?_
          refine ov_t (a := v84) (k_mv rfl) ?_
          refine o0 ?_
          exact j5 _ _ _ ⟨_, sm, (ne rfl (ne rfl f0)), (ne rfl (ne rfl f1)), h⟩
        · refine c_skip ?_
          exact j5 _ _ _ ⟨_, (ne rfl f5), (ne rfl f0), (ne rfl f1), h⟩
    · refine c_seq ?_
      refine c_ops ?_
      refine ov_t (a := (.int .i64 (.ofNat 1) 0)) (k_mv rfl) ?_
      refine o0 ?_
      refine c_block ?_
      refine c_loop hL (fun s R H n => rg R q5 = s.1 ∧ rg R q6 = s.2.1 ∧ rg R q0 = v3 ∧ rg R q1 = (.bool b1) ∧ H = s.2.2.1 ∧ n = s.2.2.2) h ⟨(ne rfl sm), sm, (ne rfl (ne rfl sm)), (ne rfl (ne rfl (ne rfl (ne rfl (ne rfl rfl))))), rfl, rfl⟩ ?_
      rintro ih85 I85 hI85 ⟨a5_l85, a6_l85, H, n⟩ R H0 n0 ⟨f5, f6, f0, f1, eH, eN⟩ h
      replace h : t_kilnlaw06_ParseElses_l85 lp G call k b1 v3 x0 z0 ih85 a5_l85 a6_l85 H n := h
      obtain rfl : H0 = H := eH
      obtain rfl : n0 = n := eN
      delta t_kilnlaw06_ParseElses_l85 at h
      refine c_seq ?_
      refine c_seq ?_
      refine c_ops ?_
      refine on_t h (k_bin (xr f6) (xr f0)) fun v86 h => ?_
      refine o0 ?_
      refine c_cond h (xr sm) (fun h => ?_) (fun h => ?_)
      · refine c_skip ?_
        refine c_seq ?_
        refine c_block ?_
        refine c_ops ?_
        refine on_s h (k_bin (xr (ne rfl f5)) rfl) fun v87 h => ?_
        refine oe_s hle hd h (k_call (xsS (xr (ne rfl f6)) xs0)) fun v88 H n h => ?_
        refine on_s h (k_bin rfl rfl) fun v89 h => ?_
        refine on_s h (k_bin rfl rfl) fun v90 h => ?_
        refine ov_t (a := v90) (k_mv rfl) ?_
        refine o0 ?_
        refine c_ops ?_
        refine on_s h (k_bin (xr (ne rfl (ne rfl f6))) rfl) fun v91 h => ?_
        refine ov_t (a := v91) (k_mv rfl) ?_
        refine o0 ?_
        exact hI85 (v90, v91, H, n) _ _ _ ⟨(ne rfl sm), sm, (ne rfl (ne rfl (ne rfl f0))), (ne rfl (ne rfl (ne rfl f1))), rfl, rfl⟩ h
      · refine c_exit ?_
        refine bx_same ?_
        exact j4 _ _ _ ⟨_, (ne rfl f5), (ne rfl f0), (ne rfl f1), h⟩
end Go.P2

