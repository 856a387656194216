/- Part of a proof: texts LC of the engine and what is proved with it; nothing is assumed. -/
import Derived.Test.YtgdefgnmabjmcaaGreatDoorPlainR
import Derived.Test.YtgdefgnmabjmcaaGreatDoorCode
import Derived.Test.YtgdefgnmabjmcaaGreatDoorEngF
set_option linter.unusedVariables false
set_option linter.unusedSimpArgs false
/- The law, with what it reads of its numbers. -/
namespace Go.R3.LC
open Go.Eng Go.R3
set_option maxRecDepth 100000
def r0 : X := .r q0
def r1 : X := .r q1
def r5 : X := .r q5
def r6 : X := .r q6
def r7 : X := .r q7
def r8 : X := .r q8
def r9 : X := .r q9
def r10 : X := .r q10
def r11 : X := .r q11
def r12 : X := .r q12
def r13 : X := .r q13
def r15 : X := .r q15
def r26 : X := .r q26
def r27 : X := .r q27
def r28 : X := .r q28
def r29 : X := .r q29
def r30 : X := .r q30
def r31 : X := .r q31
def r32 : X := .r q32
def r33 : X := .r q33
def r34 : X := .r q34
def r35 : X := .r q35
def r36 : X := .r q36
def r37 : X := .r q37
def r38 : X := .r q38
def r39 : X := .r q39
def r40 : X := .r q40
def r41 : X := .r q41
def r42 : X := .r q42
def r44 : X := .r q44
def r45 : X := .r q45
def r46 : X := .r q46
def r47 : X := .r q47
def r48 : X := .r q48
def r49 : X := .r q49
def r50 : X := .r q50
def r51 : X := .r q51
def r52 : X := .r q52
def r53 : X := .r q53
def lf : AF := .mk 2 (.seq (.ops [.mk (.to q4) .no (.n (.mv (.c (.bool false))))])
 (.seq (.seq (.ops [.mk .ps .no (.e (.call 15 [])),
    .mk (.to q15) .no (.n (.not (.s 0)))])
   (.cond r15 (.seq (.ops [.mk (.to q4) .no (.n (.mv (.c (.bool false))))])
     .ret)
    .skip))
  (.seq (.ops [.mk .ps .no (.a (.bslice 1 6 [(.str 0 0)] [(0, (.c (.str 3 7630441))), (1, (.c (.str 4 1819242338))), (2, (.c (.str 1 65))), (3, (.c (.str 1 66))), (4, (.c (.str 5 400966315625))), (5, (.c (.str 3 6118209)))])),
    .mk (.to q5) .no (.n (.mv (.s 0)))])
   (.seq (.ops [.mk .ps .no (.a (.bslice 1 7 [(.str 0 0)] [(0, (.c (.str 1 49))), (1, (.c (.str 4 1702195828))), (2, (.c (.str 5 279717569902))), (3, (.c (.str 5 284012537198))), (4, (.c (.str 10 440090563380041318098286))), (5, (.c (.str 8 6715248854661817710))), (6, (.c (.str 4 1819047278)))])),
     .mk (.to q6) .no (.n (.mv (.s 0)))])
    (.seq (.ops [.mk .ps .no (.n (.cvi .u64 r0)),
      .mk .ps .no (.n (.bin .rem (.s 0) (.c (.int .u64 (.ofNat 6) 0)))),
      .mk .ps .no (.n (.cvi .i64 (.s 0))),
      .mk (.to q7) .no (.n (.mv (.s 0)))])
     (.seq (.ops [.mk .ps .no (.n (.cvi .u64 r1)),
       .mk .ps .no (.n (.bin .rem (.s 0) (.c (.int .u64 (.ofNat 7) 0)))),
       .mk .ps .no (.n (.cvi .i64 (.s 0))),
       .mk (.to q8) .no (.n (.mv (.s 0)))])
      (.seq (.reg [.op (.mk (.to q27) .no (.n (.mv r5))),
        .op (.mk (.to q28) .no (.n (.mv r7))),
        .op (.mk (.to q29) .no (.n (.iaddr 1 r27 r28))),
        .op (.mk (.to q30) .no (.n (.ld1 r29))),
        .op (.mk (.to q31) .no (.n (.bin .add (.c (.str 17 11022537004592275327706817274281489165411)) r30))),
        .op (.mk (.to q32) .no (.n (.bin .add r31 (.c (.str 14 657787628478528915823671089065248))))),
        .op (.mk (.to q33) .no (.n (.mv r6))),
        .op (.mk (.to q34) .no (.n (.mv r8))),
        .op (.mk (.to q35) .no (.n (.iaddr 1 r33 r34))),
        .op (.mk (.to q36) .no (.n (.ld1 r35))),
        .op (.mk (.to q37) .no (.n (.bin .add r32 r36))),
        .op (.mk (.to q38) .no (.n (.bin .add r37 (.c (.str 5 537415983163))))),
        .op (.mk (.to q39) .no (.a (.bslice 1 2 [(.str 0 0)] [(0, r38), (1, (.c (.str 21 182873138172443285020062672248839359210811176348771)))]))),
        .op (.mk (.to q40) .no (.e (.call 16 [r39]))),
        .op (.mk (.to q26) .no (.n (.mv r40))),
        .op (.mk (.to q41) .no (.n (.ext r26 0))),
        .op (.mk (.to q42) .no (.n (.ext r26 1))),
        .op (.mk (.to q9) .no (.n (.mv r41))),
        .op (.mk (.to q10) .no (.n (.mv r42)))])
       (.seq (.seq (.ops [.mk (.to q44) .no (.n (.not r10))])
         (.cond r44 (.seq (.ops [.mk (.to q4) .no (.n (.mv (.c (.bool false))))])
           .ret)
          .skip))
        (.seq (.reg [.op (.mk (.to q46) .no (.n (.mv r9))),
          .op (.mk (.to q48) .no (.n (.mv r9))),
          .op (.mk (.to q49) .no (.n (.iaddr 6 r48 (.c (.int .i64 (.ofNat 0) 0))))),
          .op (.mk (.to q50) .no (.n (.ldn 6 r49))),
          .op (.mk (.to q11) .no (.a (.alloc 6 [[(.int .i64 (.ofNat 0) 0), (.int .i64 (.ofNat 0) 0), (.str 0 0), (.str 0 0), .nils, .nils]]))),
          .op (.mk (.to q12) .no (.a (.alloc 3 [[(.int .i64 (.ofNat 0) 0), (.int .i64 (.ofNat 0) 0), (.int .i64 (.ofNat 0) 0)]]))),
          .op (.mk (.to q47) .no (.e (.call 18 [r46]))),
          .re q50 .no (.ldn 6 r49),
          .op (.mk (.to q51) .no (.e (.call 17 [r47, r50]))),
          .op (.mk (.to q45) .no (.n (.mv r51))),
          .op (.mk (.to q52) .no (.n (.ext r45 0))),
          .op (.mk (.to q53) .no (.n (.ext r45 1))),
          .op (.mk .no .no (.e (.st 6 r11 r52))),
          .op (.mk .no .no (.e (.st 3 r12 r53)))])
         (.seq (.ops [.mk .ps .no (.n (.eq (.one .int) false r7 r8)),
           .mk .ps (.on (.s 0) false) (.n (.mv r7)),
           .mk .ps (.on (.s 1) false) (.n (.eq (.one .int) false (.s 0) (.c (.int .i64 (.ofNat 2) 0)))),
           .mk .ps (.on (.s 2) false) (.n (.mv (.s 0))),
           .mk .ps (.on (.s 0) true) (.n (.mv r8)),
           .mk .ps (.on (.s 1) true) (.n (.eq (.one .int) false (.s 0) (.c (.int .i64 (.ofNat 3) 0)))),
           .mk .ps (.on (.s 5) false) (.n (.pick (.s 2) (.s 0) (.c (.bool false)))),
           .mk .ps .no (.n (.pick (.s 6) (.c (.bool true)) (.s 0))),
           .mk .ps (.on (.s 0) false) (.n (.mv r8)),
           .mk .ps (.on (.s 1) false) (.n (.eq (.one .int) false (.s 0) (.c (.int .i64 (.ofNat 6) 0)))),
           .mk .ps (.on (.s 2) false) (.n (.mv (.s 0))),
           .mk .ps (.on (.s 0) true) (.n (.mv r7)),
           .mk .ps (.on (.s 1) true) (.n (.bin .geq (.s 0) (.c (.int .i64 (.ofNat 2) 0)))),
           .mk .ps (.on (.s 5) false) (.n (.pick (.s 2) (.s 0) (.c (.bool false)))),
           .mk .ps .no (.n (.pick (.s 6) (.c (.bool true)) (.s 0))),
           .mk (.to q13) .no (.n (.mv (.s 0)))])
          (.seq (.ops [.mk .ps .no (.n (.faddr 0 r12)),
            .mk .ps .no (.n (.ld1 (.s 0))),
            .mk .ps .no (.n (.eq (.one .int) false (.s 0) (.c (.int .i64 (.ofNat 0) 0)))),
            .mk .ps .no (.n (.eq (.one .bool) false (.s 0) r13)),
            .mk .ps (.on (.s 0) true) (.n (.mv r13)),
            .mk .ps (.on (.s 1) true) (.n (.mv (.s 0))),
            .mk .ps (.on (.s 0) false) (.n (.faddr 0 r12)),
            .mk .ps (.on (.s 1) false) (.n (.ld1 (.s 0))),
            .mk .ps (.on (.s 2) false) (.n (.eq (.one .int) false (.s 0) (.c (.int .i64 (.ofNat 24) 0)))),
            .mk .ps (.on (.s 5) true) (.n (.pick (.s 3) (.c (.bool true)) (.s 0))),
            .mk .ps .no (.n (.pick (.s 6) (.s 0) (.c (.bool false)))),
            .mk (.to q4) .no (.n (.mv (.s 0)))])
           .ret)))))))))))
 [.tmp q4] .no 0
theorem at_law : T.get F 6 = some lf := by kernel_rfl
noncomputable def t_f6 (lp : LpT) (G : Roms) (call : CallT) (z0 : Int) (z1 : Int) (x0 : Nat) (x1 : Nat) (H : Heap) (n : Nat) (k : KV) : Prop :=
 call 15 [] H n fun v1 H n =>
 onV (notV v1) fun v2 =>
 onTst v2 true (k (.bool false) H n) (onA (aBslice 1 6 [(.str 0 0)] [(0, .c (.str 3 7630441)), (1, .c (.str 4 1819242338)), (2, .c (.str 1 65)), (3, .c (.str 1 66)), (4, .c (.str 5 400966315625)), (5, .c (.str 3 6118209))] E0) H n fun v3 H n =>
 onA (aBslice 1 7 [(.str 0 0)] [(0, .c (.str 1 49)), (1, .c (.str 4 1702195828)), (2, .c (.str 5 279717569902)), (3, .c (.str 5 284012537198)), (4, .c (.str 10 440090563380041318098286)), (5, .c (.str 8 6715248854661817710)), (6, .c (.str 4 1819047278))] E0) H n fun v4 H n =>
 onV (cviV .i64 (.int .u64 (.ofNat x0) 0)) fun v5 =>
 onV (cviV .i64 (.int .u64 (.ofNat x1) 0)) fun v6 =>
 onV (iaddrV 1 v3 v5) fun v7 =>
 onV (ld1V v7 G H) fun v8 =>
 onV (B2.ev .add (.str 17 11022537004592275327706817274281489165411) v8) fun v9 =>
 onV (B2.ev .add v9 (.str 14 657787628478528915823671089065248)) fun v10 =>
 onV (iaddrV 1 v4 v6) fun v11 =>
 onV (ld1V v11 G H) fun v12 =>
 onV (B2.ev .add v10 v12) fun v13 =>
 onV (B2.ev .add v13 (.str 5 537415983163)) fun v14 =>
 onA (aBslice 1 2 [(.str 0 0)] [(0, .c v14), (1, .c (.str 21 182873138172443285020062672248839359210811176348771))] E0) H n fun v15 H n =>
 call 16 [v15] H n fun v16 H n =>
 onV (extV v16 0) fun v17 =>
 onV (extV v16 1) fun v18 =>
 onV (notV v18) fun v19 =>
 onTst v19 true (k (.bool false) H n) (onV (iaddrV 6 v17 (.int .i64 (.ofNat 0) 0)) fun v20 =>
 onV (ldnV 6 v20 G H) fun v21 =>
 onA (aAlloc 6 [[(.int .i64 (.ofNat 0) 0), (.int .i64 (.ofNat 0) 0), (.str 0 0), (.str 0 0), .nils, .nils]] E0) H n fun v22 H n =>
 onA (aAlloc 3 [[(.int .i64 (.ofNat 0) 0), (.int .i64 (.ofNat 0) 0), (.int .i64 (.ofNat 0) 0)]] E0) H n fun v23 H n =>
 call 18 [v17] H n fun v24 H n =>
 onV (ldnV 6 v20 G H) fun v => onB (vsame v v21) <|
 call 17 [v24, v21] H n fun v25 H n =>
 onV (extV v25 0) fun v26 =>
 onV (extV v25 1) fun v27 =>
 stV 6 v22 v26 H n fun v28 H n =>
 stV 3 v23 v27 H n fun v29 H n =>
 onV (eqV (.one .int) false v5 v6) fun v30 =>
 onG v30 false (some v5) fun v31 =>
 onG v30 false (eqV (.one .int) false v31 (.int .i64 (.ofNat 2) 0)) fun v32 =>
 onG v30 false (some v32) fun v33 =>
 onG v33 true (some v6) fun v34 =>
 onG v33 true (eqV (.one .int) false v34 (.int .i64 (.ofNat 3) 0)) fun v35 =>
 onG v30 false (pickV v33 v35 (.bool false)) fun v36 =>
 onV (pickV v30 (.bool true) v36) fun v37 =>
 onG v37 false (some v6) fun v38 =>
 onG v37 false (eqV (.one .int) false v38 (.int .i64 (.ofNat 6) 0)) fun v39 =>
 onG v37 false (some v39) fun v40 =>
 onG v40 true (some v5) fun v41 =>
 onG v40 true (B2.ev .geq v41 (.int .i64 (.ofNat 2) 0)) fun v42 =>
 onG v37 false (pickV v40 v42 (.bool false)) fun v43 =>
 onV (pickV v37 (.bool true) v43) fun v44 =>
 onV (paddV 0 v23) fun v45 =>
 onV (ld1V v45 G H) fun v46 =>
 onV (eqV (.one .int) false v46 (.int .i64 (.ofNat 0) 0)) fun v47 =>
 onV (eqV (.one .bool) false v47 v44) fun v48 =>
 onG v48 true (some v44) fun v49 =>
 onG v48 true (some v49) fun v50 =>
 onG v50 false (paddV 0 v23) fun v51 =>
 onG v50 false (ld1V v51 G H) fun v52 =>
 onG v50 false (eqV (.one .int) false v52 (.int .i64 (.ofNat 24) 0)) fun v53 =>
 onG v48 true (pickV v50 (.bool true) v53) fun v54 =>
 onV (pickV v48 v54 (.bool false)) fun v55 =>
 k v55 H n))
theorem ti_f6 {lp : LpT} (hL : LpOk lp) {G : Roms} {call callE : CallT} (z0 : Int) (z1 : Int) (x0 : Nat) (x1 : Nat) (ex0 : umod z0 6 = x0) (ex1 : umod z1 7 = x1) (hle : CallLe call callE) (hd : CallDet callE) {H : Heap} {n : Nat} {k : KV} (h : t_f6 lp G call z0 z1 x0 x1 H n k) : exFunL lf G callE [(.int .i64 z0 0), (.int .i64 z1 0)] H n k := by
  delta t_f6 at h
  refine f_intro rfl ?_
  refine c_seq ?_
  refine c_ops ?_
  refine ov_t (a := (.bool false)) (k_mv rfl) ?_
  refine o0 ?_
  refine c_seq ?_
  refine c_seq ?_
  refine c_ops ?_
  refine oe_s hle hd h (k_call xs0) fun v1 H n h => ?_
  refine on_t h (k_not rfl) fun v2 h => ?_
  refine o0 ?_
  refine c_cond h (xr sm) (fun h => ?_) (fun h => ?_)
  · refine c_seq ?_
    refine c_ops ?_
    refine ov_t (a := (.bool false)) (k_mv rfl) ?_
    refine o0 ?_
    refine c_ret ?_
    exact fin_no (rsT sm rs0) h
  · refine c_skip ?_
    refine c_seq ?_
    refine c_ops ?_
    refine oa_s h (k_bslice (pbS rfl (pbS rfl (pbS rfl (pbS rfl (pbS rfl (pbS rfl pb0))))))) fun v3 H n h => ?_
    refine ov_t (a := v3) (k_mv rfl) ?_
    refine o0 ?_
    refine c_seq ?_
    refine c_ops ?_
    refine oa_s h (k_bslice (pbS rfl (pbS rfl (pbS rfl (pbS rfl (pbS rfl (pbS rfl (pbS rfl pb0)))))))) fun v4 H n h => ?_
    refine ov_t (a := v4) (k_mv rfl) ?_
    refine o0 ?_
    refine c_seq ?_
    refine c_ops ?_
    refine ov_s (a := (.int .u64 (IntKind.wrap .u64 z0) 0)) (km1 (xr (ne rfl (ne rfl (ne rfl (ne rfl rfl)))))) ?_
    refine ov_s (a := (.int .u64 (.ofNat x0) 0)) (km2 (by decide) ex0 rfl) ?_
    refine on_s h (k_cvi rfl) fun v5 h => ?_
    refine ov_t (a := v5) (k_mv rfl) ?_
    refine o0 ?_
    refine c_seq ?_
    refine c_ops ?_
    refine ov_s (a := (.int .u64 (IntKind.wrap .u64 z1) 0)) (km1 (xr (ne rfl (ne rfl (ne rfl (ne rfl (ne rfl rfl))))))) ?_
    refine ov_s (a := (.int .u64 (.ofNat x1) 0)) (km2 (by decide) ex1 rfl) ?_
    refine on_s h (k_cvi rfl) fun v6 h => ?_
    refine ov_t (a := v6) (k_mv rfl) ?_
    refine o0 ?_
    refine c_seq ?_
    refine c_reg ?_
    refine iv_t (a := v3) (k_mv (xr (ne rfl (ne rfl (ne rfl sm))))) ?_
    refine iv_t (a := v5) (k_mv (xr (ne rfl (ne rfl sm)))) ?_
    refine in_t h (k_iaddr (xr (ne rfl sm)) (xr sm)) fun v7 h => ?_
    refine in_t h (k_ld1 (xr sm)) fun v8 h => ?_
    refine in_t h (k_bin rfl (xr sm)) fun v9 h => ?_
    refine in_t h (k_bin (xr sm) rfl) fun v10 h => ?_
    refine iv_t (a := v4) (k_mv (xr (ne rfl (ne rfl (ne rfl (ne rfl (ne rfl (ne rfl (ne rfl (ne rfl sm)))))))))) ?_
    refine iv_t (a := v6) (k_mv (xr (ne rfl (ne rfl (ne rfl (ne rfl (ne rfl (ne rfl (ne rfl sm))))))))) ?_
    refine in_t h (k_iaddr (xr (ne rfl sm)) (xr sm)) fun v11 h => ?_
    refine in_t h (k_ld1 (xr sm)) fun v12 h => ?_
    refine in_t h (k_bin (xr (ne rfl (ne rfl (ne rfl (ne rfl sm))))) (xr sm)) fun v13 h => ?_
    refine in_t h (k_bin (xr sm) rfl) fun v14 h => ?_
    refine ia_t h (k_bslice (pbS (xr sm) (pbS rfl pb0))) fun v15 H n h => ?_
    refine ie_t hle hd h (k_call (xsS (xr sm) xs0)) fun v16 H n h => ?_
    refine iv_t (a := v16) (k_mv (xr sm)) ?_
    refine in_t h (k_ext (xr sm)) fun v17 h => ?_
    refine in_t h (k_ext (xr (ne rfl sm))) fun v18 h => ?_
    refine iv_t (a := v17) (k_mv (xr (ne rfl sm))) ?_
    refine iv_t (a := v18) (k_mv (xr (ne rfl sm))) ?_
    refine i0 ?_
    refine c_seq ?_
    refine c_seq ?_
    refine c_ops ?_
    refine on_t h (k_not (xr sm)) fun v19 h => ?_
    refine o0 ?_
    refine c_cond h (xr sm) (fun h => ?_) (fun h => ?_)
    · refine c_seq ?_
      refine c_ops ?_
      refine ov_t (a := (.bool false)) (k_mv rfl) ?_
      refine o0 ?_
      refine c_ret ?_
      exact fin_no (rsT sm rs0) h
    · refine c_skip ?_
      refine c_seq ?_
      refine c_reg ?_
      refine iv_t (a := v17) (k_mv (xr (ne rfl (ne rfl sm)))) ?_
      refine iv_t (a := v17) (k_mv (xr (ne rfl (ne rfl (ne rfl sm))))) ?_
      refine in_t h (k_iaddr (xr sm) rfl) fun v20 h => ?_
      refine in_t h (k_ldn (xr sm)) fun v21 h => ?_
      refine ia_t h k_alloc fun v22 H n h => ?_
      refine ia_t h k_alloc fun v23 H n h => ?_
      refine ie_t hle hd h (k_call (xsS (xr (ne rfl (ne rfl (ne rfl (ne rfl (ne rfl sm)))))) xs0)) fun v24 H n h => ?_
      refine ire h (ne rfl (ne rfl (ne rfl sm))) (k_ldn (xr (ne rfl (ne rfl (ne rfl (ne rfl sm)))))) fun h => ?_
      refine ie_t hle hd h (k_call (xsS (xr sm) (xsS (xr (ne rfl (ne rfl (ne rfl sm)))) xs0))) fun v25 H n h => ?_
      refine iv_t (a := v25) (k_mv (xr sm)) ?_
      refine in_t h (k_ext (xr sm)) fun v26 h => ?_
      refine in_t h (k_ext (xr (ne rfl sm))) fun v27 h => ?_
      refine ie_x hle hd h (k_st (xr (ne rfl (ne rfl (ne rfl (ne rfl (ne rfl (ne rfl sm))))))) (xr (ne rfl sm))) fun v28 H n h => ?_
      refine ie_x hle hd h (k_st (xr (ne rfl (ne rfl (ne rfl (ne rfl (ne rfl sm)))))) (xr sm)) fun v29 H n h => ?_
      refine i0 ?_
      refine c_seq ?_
      refine c_ops ?_
      refine on_s h (k_eq (xr (ne rfl (ne rfl (ne rfl (ne rfl (ne rfl (ne rfl (ne rfl (ne rfl (ne rfl (ne rfl (ne rfl (ne rfl (ne rfl (ne rfl (ne rfl (ne rfl (ne rfl (ne rfl (ne rfl (ne rfl (ne rfl (ne rfl (ne rfl (ne rfl (ne rfl (ne rfl (ne rfl (ne rfl (ne rfl (ne rfl (ne rfl (ne rfl sm))))))))))))))))))))))))))))))))) (xr (ne rfl (ne rfl (ne rfl (ne rfl (ne rfl (ne rfl (ne rfl (ne rfl (ne rfl (ne rfl (ne rfl (ne rfl (ne rfl (ne rfl (ne rfl (ne rfl (ne rfl (ne rfl (ne rfl (ne rfl (ne rfl (ne rfl (ne rfl (ne rfl (ne rfl (ne rfl (ne rfl (ne rfl (ne rfl (ne rfl (ne rfl sm))))))))))))))))))))))))))))))))) fun v30 h => ?_
      refine ogn_s h rfl (k_mv (xr (ne rfl (ne rfl (ne rfl (ne rfl (ne rfl (ne rfl (ne rfl (ne rfl (ne rfl (ne rfl (ne rfl (ne rfl (ne rfl (ne rfl (ne rfl (ne rfl (ne rfl (ne rfl (ne rfl (ne rfl (ne rfl (ne rfl (ne rfl (ne rfl (ne rfl (ne rfl (ne rfl (ne rfl (ne rfl (ne rfl (ne rfl (ne rfl sm)))))))))))))))))))))))))))))))))) fun v31 h => ?_
      refine ogn_s h rfl (k_eq rfl rfl) fun v32 h => ?_
      refine ogn_s h rfl (k_mv rfl) fun v33 h => ?_
      refine ogn_s h rfl (k_mv (xr (ne rfl (ne rfl (ne rfl (ne rfl (ne rfl (ne rfl (ne rfl (ne rfl (ne rfl (ne rfl (ne rfl (ne rfl (ne rfl (ne rfl (ne rfl (ne rfl (ne rfl (ne rfl (ne rfl (ne rfl (ne rfl (ne rfl (ne rfl (ne rfl (ne rfl (ne rfl (ne rfl (ne rfl (ne rfl (ne rfl (ne rfl sm))))))))))))))))))))))))))))))))) fun v34 h => ?_
      refine ogn_s h rfl (k_eq rfl rfl) fun v35 h => ?_
      refine ogn_s h rfl (k_pick rfl rfl rfl) fun v36 h => ?_
      refine on_s h (k_pick rfl rfl rfl) fun v37 h => ?_
      refine ogn_s h rfl (k_mv (xr (ne rfl (ne rfl (ne rfl (ne rfl (ne rfl (ne rfl (ne rfl (ne rfl (ne rfl (ne rfl (ne rfl (ne rfl (ne rfl (ne rfl (ne rfl (ne rfl (ne rfl (ne rfl (ne rfl (ne rfl (ne rfl (ne rfl (ne rfl (ne rfl (ne rfl (ne rfl (ne rfl (ne rfl (ne rfl (ne rfl (ne rfl sm))))))))))))))))))))))))))))))))) fun v38 h => ?_
      refine ogn_s h rfl (k_eq rfl rfl) fun v39 h => ?_
      refine ogn_s h rfl (k_mv rfl) fun v40 h => ?_
      refine ogn_s h rfl (k_mv (xr (ne rfl (ne rfl (ne rfl (ne rfl (ne rfl (ne rfl (ne rfl (ne rfl (ne rfl (ne rfl (ne rfl (ne rfl (ne rfl (ne rfl (ne rfl (ne rfl (ne rfl (ne rfl (ne rfl (ne rfl (ne rfl (ne rfl (ne rfl (ne rfl (ne rfl (ne rfl (ne rfl (ne rfl (ne rfl (ne rfl (ne rfl (ne rfl sm)))))))))))))))))))))))))))))))))) fun v41 h => ?_
      refine ogn_s h rfl (k_bin rfl rfl) fun v42 h => ?_
      refine ogn_s h rfl (k_pick rfl rfl rfl) fun v43 h => ?_
      refine on_s h (k_pick rfl rfl rfl) fun v44 h => ?_
      refine ov_t (a := v44) (k_mv rfl) ?_
      refine o0 ?_
      refine c_seq ?_
      refine c_ops ?_
      refine on_s h (k_faddr (xr (ne rfl (ne rfl (ne rfl (ne rfl (ne rfl (ne rfl sm)))))))) fun v45 h => ?_
      refine on_s h (k_ld1 rfl) fun v46 h => ?_
      refine on_s h (k_eq rfl rfl) fun v47 h => ?_
      refine on_s h (k_eq rfl (xr sm)) fun v48 h => ?_
      refine ogn_s h rfl (k_mv (xr sm)) fun v49 h => ?_
      refine ogn_s h rfl (k_mv rfl) fun v50 h => ?_
      refine ogn_s h rfl (k_faddr (xr (ne rfl (ne rfl (ne rfl (ne rfl (ne rfl (ne rfl sm)))))))) fun v51 h => ?_
      refine ogn_s h rfl (k_ld1 rfl) fun v52 h => ?_
      refine ogn_s h rfl (k_eq rfl rfl) fun v53 h => ?_
      refine ogn_s h rfl (k_pick rfl rfl rfl) fun v54 h => ?_
      refine on_s h (k_pick rfl rfl rfl) fun v55 h => ?_
      refine ov_t (a := v55) (k_mv rfl) ?_
      refine o0 ?_
      refine c_ret ?_
      exact fin_no (rsT sm rs0) h
end Go.R3.LC

