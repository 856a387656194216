/- Part of a proof: texts LG of the engine and what is proved with it; nothing is assumed. -/
import Derived.Test.YtgdefgnmabjmcaaGreatDoorPlainR
import Derived.Test.YtgdefgnmabjmcaaGreatDoorCode
import Derived.Test.YtgdefgnmabjmcaaGreatDoorEngF
set_option linter.unusedVariables false
set_option linter.unusedSimpArgs false
/- The law, with what it reads of its numbers. -/
namespace Go.R3.LG
open Go.Eng Go.R3
set_option maxRecDepth 100000
def r0 : X := .r q0
def r1 : X := .r q1
def r2 : X := .r q2
def r7 : X := .r q7
def r8 : X := .r q8
def r9 : X := .r q9
def r10 : X := .r q10
def r11 : X := .r q11
def r12 : X := .r q12
def r13 : X := .r q13
def r14 : X := .r q14
def r15 : X := .r q15
def r17 : X := .r q17
def r18 : X := .r q18
def r29 : X := .r q29
def r46 : X := .r q46
def r51 : X := .r q51
def r56 : X := .r q56
def r57 : X := .r q57
def r58 : X := .r q58
def r59 : X := .r q59
def r60 : X := .r q60
def r61 : X := .r q61
def r62 : X := .r q62
def r63 : X := .r q63
def r64 : X := .r q64
def r65 : X := .r q65
def r66 : X := .r q66
def r67 : X := .r q67
def r68 : X := .r q68
def r69 : X := .r q69
def r70 : X := .r q70
def r71 : X := .r q71
def r72 : X := .r q72
def r73 : X := .r q73
def r74 : X := .r q74
def r75 : X := .r q75
def r76 : X := .r q76
def r77 : X := .r q77
def r78 : X := .r q78
def r79 : X := .r q79
def lf : AF := .mk 3 (.seq (.ops [.mk (.to q6) .no (.n (.mv (.c (.bool false))))])
 (.seq (.seq (.ops [.mk .ps .no (.e (.call 19 [])),
    .mk (.to q17) .no (.n (.not (.s 0)))])
   (.cond r17 (.seq (.ops [.mk (.to q6) .no (.n (.mv (.c (.bool false))))])
     .ret)
    .skip))
  (.seq (.ops [.mk (.to q7) .no (.n (.mv (.c (.str 2 9766))))])
   (.seq (.seq (.ops [.mk (.to q18) .no (.n (.mv r2))])
     (.cond r18 (.ops [.mk (.to q7) .no (.n (.mv (.c (.str 2 31868))))])
      .skip))
    (.seq (.ops [.mk .ps .no (.n (.bin .add (.c (.str 126 344618482759536196870662265190826569352936915916140165453127997466274895195683856384376507152882841681210455921840360111000413321459986015761157861533078341977652090503551295692463739568037628196592501142917528501559994270527931221599174615966342615821415831960730276712687757580257499576140189380209763)) r7)),
      .mk .ps .no (.n (.bin .add (.s 0) (.c (.str 40 1044021312676031487747641534628961163823377254392433376678210411820953251946233539144916440858912)))),
      .mk .ps .no (.a (.bslice 1 1 [(.str 0 0)] [(0, (.s 0))])),
      .mk .ps .no (.e (.call 20 [(.s 0)])),
      .mk .ps .no (.n (.ext (.s 0) 0)),
      .mk .ps .no (.n (.ext (.s 1) 1)),
      .mk .ps .no (.n (.ext (.s 2) 2)),
      .mk (.to q8) .no (.n (.mv (.s 2))),
      .mk (.to q9) .no (.n (.mv (.s 1))),
      .mk (.to q10) .no (.n (.mv (.s 0)))])
     (.seq (.seq (.ops [.mk (.to q29) .no (.n (.not r10))])
       (.cond r29 (.seq (.ops [.mk (.to q6) .no (.n (.mv (.c (.bool false))))])
         .ret)
        .skip))
      (.seq (.ops [.mk (.to q11) .no (.n (.mv (.c (.fn 22 [] []))))])
       (.seq (.ops [.mk .ps .no (.e (.callv r11 [r0])),
         .mk .ps .no (.e (.callv r11 [r1])),
         .mk .ps .no (.a (.bslice 1 2 [(.int .i64 (.ofNat 0) 0)] [(0, (.s 1)), (1, (.s 0))])),
         .mk .ps .no (.n (.build [(.int .i64 (.ofNat 0) 0), (.int .i64 (.ofNat 0) 0), (.int .i64 (.ofNat 0) 0)] [(0, 1, (.c (.int .i64 (.ofNat 100) 0))), (2, 1, (.c (.int .i64 (.ofNat 3) 0)))])),
         .mk .ps .no (.e (.call 21 [r9, r8, (.c (.str 1 65)), (.c (.str 1 109)), (.s 1), (.s 0)])),
         .mk .ps .no (.n (.ext (.s 0) 0)),
         .mk .ps .no (.n (.ext (.s 1) 1)),
         .mk (.to q12) .no (.a (.alloc 3 [[(.int .i64 (.ofNat 0) 0), (.int .i64 (.ofNat 0) 0), .nils]])),
         .mk .no .no (.e (.st 3 r12 (.s 1))),
         .mk (.to q13) .no (.n (.mv (.s 0)))])
        (.seq (.ops [.mk (.to q14) .no (.n (.mv (.c (.int .i64 (.ofNat 1) 0))))])
         (.seq (.seq (.ops [.mk (.to q46) .no (.n (.eq (.one .bool) true r0 r2))])
           (.cond r46 (.ops [.mk (.to q14) .no (.n (.mv (.c (.int .i64 (.ofNat 2) 0))))])
            .skip))
          (.seq (.ops [.mk .ps (.on r0 true) (.n (.mv r1)),
            .mk .ps .no (.n (.pick r0 (.s 0) (.c (.bool false)))),
            .mk (.to q15) .no (.n (.mv (.s 0)))])
           (.seq (.seq (.ops [.mk (.to q51) .no (.n (.mv r2))])
             (.cond r51 (.ops [.mk .ps (.on r0 false) (.n (.mv r1)),
               .mk .ps .no (.n (.pick r0 (.c (.bool true)) (.s 0))),
               .mk (.to q15) .no (.n (.mv (.s 0)))])
              .skip))
            (.seq (.reg [.op (.mk (.to q56) .no (.n (.mv r13))),
              .op (.mk (.to q57) .no (.n (.eq (.one .int) false r56 (.c (.int .i64 (.ofNat 0) 0))))),
              .op (.mk (.to q58) .no (.n (.mv r57))),
              .op (.mk (.to q59) (.on r58 true) (.n (.faddr 2 r12))),
              .op (.mk (.to q60) (.on r58 true) (.n (.ld1 r59))),
              .op (.mk (.to q61) (.on r58 true) (.n (.lenL r60))),
              .op (.mk (.to q62) (.on r58 true) (.n (.mv r14))),
              .op (.mk (.to q63) (.on r58 true) (.n (.eq (.one .int) false r61 r62))),
              .op (.mk (.to q64) .no (.n (.pick r58 r63 (.c (.bool false))))),
              .op (.mk (.to q65) .no (.n (.mv r64))),
              .op (.mk (.to q66) (.on r65 true) (.n (.faddr 2 r12))),
              .op (.mk (.to q67) (.on r65 true) (.n (.ld1 r66))),
              .op (.mk (.to q68) (.on r65 true) (.n (.iaddr 1 r67 (.c (.int .i64 (.ofNat 0) 0))))),
              .op (.mk (.to q69) (.on r65 true) (.n (.ld1 r68))),
              .op (.mk (.to q70) (.on r65 true) (.n (.eq (.one .int) false r69 (.c (.int .i64 (.ofNat 1) 0))))),
              .op (.mk (.to q71) .no (.n (.pick r65 r70 (.c (.bool false))))),
              .op (.mk (.to q72) .no (.n (.mv r71))),
              .op (.mk (.to q73) (.on r72 true) (.n (.faddr 1 r12))),
              .op (.mk (.to q74) (.on r72 true) (.n (.ld1 r73))),
              .op (.mk (.to q75) (.on r72 true) (.n (.mv r11))),
              .op (.mk (.to q76) (.on r72 true) (.n (.mv r15))),
              .op (.mk (.to q77) (.on r72 true) (.e (.callv r75 [r76]))),
              .re q74 (.on r72 true) (.ld1 r73),
              .op (.mk (.to q78) (.on r72 true) (.n (.eq (.one .int) false r74 r77))),
              .op (.mk (.to q79) .no (.n (.pick r72 r78 (.c (.bool false))))),
              .op (.mk (.to q6) .no (.n (.mv r79)))])
             .ret)))))))))))))
 [.tmp q6] .no 0
theorem at_law : T.get F 11 = some lf := by kernel_rfl
noncomputable def t_f11_j24 (lp : LpT) (G : Roms) (call : CallT) (k : KV) (a14_j21 : V) (b0 : Bool) (b1 : Bool) (b2 : Bool) (v18 : V) (v19 : V) (a15_j24 : V) (H : Heap) (n : Nat) : Prop :=
 onV (eqV (.one .int) false v18 (.int .i64 (.ofNat 0) 0)) fun v25 =>
 onG v25 true (paddV 2 v19) fun v26 =>
 onG v25 true (ld1V v26 G H) fun v27 =>
 onG v25 true (lenV v27) fun v28 =>
 onG v25 true (some a14_j21) fun v29 =>
 onG v25 true (eqV (.one .int) false v28 v29) fun v30 =>
 onV (pickV v25 v30 (.bool false)) fun v31 =>
 onG v31 true (paddV 2 v19) fun v32 =>
 onG v31 true (ld1V v32 G H) fun v33 =>
 onG v31 true (iaddrV 1 v33 (.int .i64 (.ofNat 0) 0)) fun v34 =>
 onG v31 true (ld1V v34 G H) fun v35 =>
 onG v31 true (eqV (.one .int) false v35 (.int .i64 (.ofNat 1) 0)) fun v36 =>
 onV (pickV v31 v36 (.bool false)) fun v37 =>
 onG v37 true (paddV 1 v19) fun v38 =>
 onG v37 true (ld1V v38 G H) fun v39 =>
 onG v37 true (some (.fn 22 [] [])) fun v40 =>
 onG v37 true (some a15_j24) fun v41 =>
 onGT v37 true (callvV v40 [v41] call H n) H n fun v42 H n =>
 onRe v37 true (ld1V v38 G H) v39 <|
 onG v37 true (eqV (.one .int) false v39 v42) fun v43 =>
 onV (pickV v37 v43 (.bool false)) fun v44 =>
 k v44 H n
noncomputable def t_f11_j21 (lp : LpT) (G : Roms) (call : CallT) (k : KV) (b0 : Bool) (b1 : Bool) (b2 : Bool) (v18 : V) (v19 : V) (a14_j21 : V) (H : Heap) (n : Nat) : Prop :=
 onG (.bool b0) true (some (.bool b1)) fun v22 =>
 onV (pickV (.bool b0) v22 (.bool false)) fun v23 =>
 onTst (.bool b2) true (onG (.bool b0) false (some (.bool b1)) fun v45 =>
 onV (pickV (.bool b0) (.bool true) v45) fun v46 =>
 t_f11_j24 lp G call k a14_j21 b0 b1 b2 v18 v19 v46 H n) (t_f11_j24 lp G call k a14_j21 b0 b1 b2 v18 v19 v23 H n)
noncomputable def t_f11_j3 (lp : LpT) (G : Roms) (call : CallT) (k : KV) (b0 : Bool) (b1 : Bool) (b2 : Bool) (a7_j3 : V) (H : Heap) (n : Nat) : Prop :=
 onV (B2.ev .add (.str 126 344618482759536196870662265190826569352936915916140165453127997466274895195683856384376507152882841681210455921840360111000413321459986015761157861533078341977652090503551295692463739568037628196592501142917528501559994270527931221599174615966342615821415831960730276712687757580257499576140189380209763) a7_j3) fun v4 =>
 onV (B2.ev .add v4 (.str 40 1044021312676031487747641534628961163823377254392433376678210411820953251946233539144916440858912)) fun v5 =>
 onA (aBslice 1 1 [(.str 0 0)] [(0, .c v5)] E0) H n fun v6 H n =>
 call 20 [v6] H n fun v7 H n =>
 onV (extV v7 0) fun v8 =>
 onV (extV v7 1) fun v9 =>
 onV (extV v7 2) fun v10 =>
 onV (notV v10) fun v11 =>
 onTst v11 true (k (.bool false) H n) (callvV (.fn 22 [] []) [(.bool b0)] call H n fun v12 H n =>
 callvV (.fn 22 [] []) [(.bool b1)] call H n fun v13 H n =>
 onA (aBslice 1 2 [(.int .i64 (.ofNat 0) 0)] [(0, .c v12), (1, .c v13)] E0) H n fun v14 H n =>
 onV (buildV [(.int .i64 (.ofNat 0) 0), (.int .i64 (.ofNat 0) 0), (.int .i64 (.ofNat 0) 0)] [(0, 1, .c (.int .i64 (.ofNat 100) 0)), (2, 1, .c (.int .i64 (.ofNat 3) 0))]) fun v15 =>
 call 21 [v9, v8, (.str 1 65), (.str 1 109), v14, v15] H n fun v16 H n =>
 onV (extV v16 0) fun v17 =>
 onV (extV v16 1) fun v18 =>
 onA (aAlloc 3 [[(.int .i64 (.ofNat 0) 0), (.int .i64 (.ofNat 0) 0), .nils]] E0) H n fun v19 H n =>
 stV 3 v19 v17 H n fun v20 H n =>
 onV (eqV (.one .bool) true (.bool b0) (.bool b2)) fun v47 =>
 onTst v47 true (t_f11_j21 lp G call k b0 b1 b2 v18 v19 (.int .i64 (.ofNat 2) 0) H n) (t_f11_j21 lp G call k b0 b1 b2 v18 v19 (.int .i64 (.ofNat 1) 0) H n))
noncomputable def t_f11 (lp : LpT) (G : Roms) (call : CallT) (b0 : Bool) (b1 : Bool) (b2 : Bool) (H : Heap) (n : Nat) (k : KV) : Prop :=
 call 19 [] H n fun v1 H n =>
 onV (notV v1) fun v2 =>
 onTst v2 true (k (.bool false) H n) (onTst (.bool b2) true (t_f11_j3 lp G call k b0 b1 b2 (.str 2 31868) H n) (t_f11_j3 lp G call k b0 b1 b2 (.str 2 9766) H n))
theorem ti_f11 {lp : LpT} (hL : LpOk lp) {G : Roms} {call callE : CallT} (b0 : Bool) (b1 : Bool) (b2 : Bool)  (hle : CallLe call callE) (hd : CallDet callE) {H : Heap} {n : Nat} {k : KV} (h : t_f11 lp G call b0 b1 b2 H n k) : exFunL lf G callE [(.bool b0), (.bool b1), (.bool b2)] H n k := by
  delta t_f11 at h
  refine f_intro rfl ?_
  refine c_seq ?_
  refine c_ops ?_
  refine ov_t (a := (.bool false)) (k_mv rfl) ?_
  refine o0 ?_
  refine c_seq ?_
  refine c_seq ?_
  refine c_ops ?_
  refine oe_s hle hd h (k_call xs0) fun v1 H n h => ?_
  refine on_t h (k_not rfl) fun v2 h => ?_
  refine o0 ?_
  refine c_cond h (xr sm) (fun h => ?_) (fun h => ?_)
  · refine c_seq ?_
    refine c_ops ?_
    refine ov_t (a := (.bool false)) (k_mv rfl) ?_
    refine o0 ?_
    refine c_ret ?_
    exact fin_no (rsT sm rs0) h
  · refine c_skip ?_
    refine c_seq ?_
    refine c_ops ?_
    refine ov_t (a := (.str 2 9766)) (k_mv rfl) ?_
    refine o0 ?_
    refine c_seqj (fun R H n => ∃ a7_j3, rg R q7 = a7_j3 ∧ rg R q0 = (.bool b0) ∧ rg R q1 = (.bool b1) ∧ rg R q2 = (.bool b2) ∧ t_f11_j3 lp G call k b0 b1 b2 a7_j3 H n) ?_ fun j3 => ?_
    · rintro R H n ⟨a7_j3, f7, f0, f1, f2, h⟩
      delta t_f11_j3 at h
      refine c_seq ?_
      refine c_ops ?_
      refine on_s h (k_bin rfl (xr f7)) fun v4 h => ?_
      refine on_s h (k_bin rfl rfl) fun v5 h => ?_
      refine oa_s h (k_bslice (pbS rfl pb0)) fun v6 H n h => ?_
      refine oe_s hle hd h (k_call (xsS rfl xs0)) fun v7 H n h => ?_
      refine on_s h (k_ext rfl) fun v8 h => ?_
      refine on_s h (k_ext rfl) fun v9 h => ?_
      refine on_s h (k_ext rfl) fun v10 h => ?_
      refine ov_t (a := v8) (k_mv rfl) ?_
      refine ov_t (a := v9) (k_mv rfl) ?_
      refine ov_t (a := v10) (k_mv rfl) ?_
      refine o0 ?_
      refine c_seq ?_
      refine c_seq ?_
      refine c_ops ?_
      refine on_t h (k_not (xr sm)) fun v11 h => ?_
      refine o0 ?_
      refine c_cond h (xr sm) (fun h => ?_) (fun h => ?_)
      · refine c_seq ?_
        refine c_ops ?_
        refine ov_t (a := (.bool false)) (k_mv rfl) ?_
        refine o0 ?_
        refine c_ret ?_
        exact fin_no (rsT sm rs0) h
      · refine c_skip ?_
        refine c_seq ?_
        refine c_ops ?_
        refine ov_t (a := (.fn 22 [] [])) (k_mv rfl) ?_
        refine o0 ?_
        refine c_seq ?_
        refine c_ops ?_
        refine oe_s hle hd h (k_callv (xr sm) (xsS (xr (ne rfl (ne rfl (ne rfl (ne rfl (ne rfl f0)))))) xs0)) fun v12 H n h => ?_
        refine oe_s hle hd h (k_callv (xr sm) (xsS (xr (ne rfl (ne rfl (ne rfl (ne rfl (ne rfl f1)))))) xs0)) fun v13 H n h => ?_
        refine oa_s h (k_bslice (pbS rfl (pbS rfl pb0))) fun v14 H n h => ?_
        refine on_s h (k_build (psS rfl (psS rfl ps0))) fun v15 h => ?_
        refine oe_s hle hd h (k_call (xsS (xr (ne rfl (ne rfl (ne rfl sm)))) (xsS (xr (ne rfl (ne rfl (ne rfl (ne rfl sm))))) (xsS rfl (xsS rfl (xsS rfl (xsS rfl xs0))))))) fun v16 H n h => ?_
        refine on_s h (k_ext rfl) fun v17 h => ?_
        refine on_s h (k_ext rfl) fun v18 h => ?_
        refine oa_t h k_alloc fun v19 H n h => ?_
        refine oe_x hle hd h (k_st (xr sm) rfl) fun v20 H n h => ?_
        refine ov_t (a := v18) (k_mv rfl) ?_
        refine o0 ?_
        refine c_seq ?_
        refine c_ops ?_
        refine ov_t (a := (.int .i64 (.ofNat 1) 0)) (k_mv rfl) ?_
        refine o0 ?_
        refine c_seqj (fun R H n => ∃ a14_j21, rg R q14 = a14_j21 ∧ rg R q0 = (.bool b0) ∧ rg R q1 = (.bool b1) ∧ rg R q2 = (.bool b2) ∧ rg R q11 = (.fn 22 [] []) ∧ rg R q12 = v19 ∧ rg R q13 = v18 ∧ t_f11_j21 lp G call k b0 b1 b2 v18 v19 a14_j21 H n) ?_ fun j21 => ?_
        · rintro R H n ⟨a14_j21, f14, f0, f1, f2, f11, f12, f13, h⟩
          delta t_f11_j21 at h
          refine c_seq ?_
          refine c_ops ?_
          refine ogn_s h (xr f0) (k_mv (xr f1)) fun v22 h => ?_
          refine on_s h (k_pick (xr f0) rfl rfl) fun v23 h => ?_
          refine ov_t (a := v23) (k_mv rfl) ?_
          refine o0 ?_
          refine c_seqj (fun R H n => ∃ a15_j24, rg R q15 = a15_j24 ∧ rg R q11 = (.fn 22 [] []) ∧ rg R q12 = v19 ∧ rg R q13 = v18 ∧ rg R q14 = a14_j21 ∧ t_f11_j24 lp G call k a14_j21 b0 b1 b2 v18 v19 a15_j24 H n) ?_ fun j24 => ?_
          · rintro R H n ⟨a15_j24, f15, f11, f12, f13, f14, h⟩
            delta t_f11_j24 at h
            refine c_seq ?_
            refine c_reg ?_
            refine iv_t (a := v18) (k_mv (xr f13)) ?_
            refine in_t h (k_eq (xr sm) rfl) fun v25 h => ?_
            refine iv_t (a := v25) (k_mv (xr sm)) ?_
            refine ign_t h (xr sm) (k_faddr (xr (ne rfl (ne rfl (ne rfl f12))))) fun v26 h => ?_
            refine ign_t h (xr (ne rfl sm)) (k_ld1 (xr sm)) fun v27 h => ?_
            refine ign_t h (xr (ne rfl (ne rfl sm))) (k_lenL (xr sm)) fun v28 h => ?_
            refine ign_t h (xr (ne rfl (ne rfl (ne rfl sm)))) (k_mv (xr (ne rfl (ne rfl (ne rfl (ne rfl (ne rfl (ne rfl f14)))))))) fun v29 h => ?_
            refine ign_t h (xr (ne rfl (ne rfl (ne rfl (ne rfl sm))))) (k_eq (xr (ne rfl sm)) (xr sm)) fun v30 h => ?_
            refine in_t h (k_pick (xr (ne rfl (ne rfl (ne rfl (ne rfl (ne rfl sm)))))) (xr sm) rfl) fun v31 h => ?_
            refine iv_t (a := v31) (k_mv (xr sm)) ?_
            refine ign_t h (xr sm) (k_faddr (xr (ne rfl (ne rfl (ne rfl (ne rfl (ne rfl (ne rfl (ne rfl (ne rfl (ne rfl (ne rfl f12)))))))))))) fun v32 h => ?_
            refine ign_t h (xr (ne rfl sm)) (k_ld1 (xr sm)) fun v33 h => ?_
            refine ign_t h (xr (ne rfl (ne rfl sm))) (k_iaddr (xr sm) rfl) fun v34 h => ?_
            refine ign_t h (xr (ne rfl (ne rfl (ne rfl sm)))) (k_ld1 (xr sm)) fun v35 h => ?_
            refine ign_t h (xr (ne rfl (ne rfl (ne rfl (ne rfl sm))))) (k_eq (xr sm) rfl) fun v36 h => ?_
            refine in_t h (k_pick (xr (ne rfl (ne rfl (ne rfl (ne rfl (ne rfl sm)))))) (xr sm) rfl) fun v37 h => ?_
            refine iv_t (a := v37) (k_mv (xr sm)) ?_
            refine ign_t h (xr sm) (k_faddr (xr (ne rfl (ne rfl (ne rfl (ne rfl (ne rfl (ne rfl (ne rfl (ne rfl (ne rfl (ne rfl (ne rfl (ne rfl (ne rfl (ne rfl (ne rfl (ne rfl (ne rfl f12))))))))))))))))))) fun v38 h => ?_
            refine ign_t h (xr (ne rfl sm)) (k_ld1 (xr sm)) fun v39 h => ?_
            refine ign_t h (xr (ne rfl (ne rfl sm))) (k_mv (xr (ne rfl (ne rfl (ne rfl (ne rfl (ne rfl (ne rfl (ne rfl (ne rfl (ne rfl (ne rfl (ne rfl (ne rfl (ne rfl (ne rfl (ne rfl (ne rfl (ne rfl (ne rfl (ne rfl f11))))))))))))))))))))) fun v40 h => ?_
            refine ign_t h (xr (ne rfl (ne rfl (ne rfl sm)))) (k_mv (xr (ne rfl (ne rfl (ne rfl (ne rfl (ne rfl (ne rfl (ne rfl (ne rfl (ne rfl (ne rfl (ne rfl (ne rfl (ne rfl (ne rfl (ne rfl (ne rfl (ne rfl (ne rfl (ne rfl (ne rfl f15)))))))))))))))))))))) fun v41 h => ?_
            refine ige_t hle hd h (xr (ne rfl (ne rfl (ne rfl (ne rfl sm))))) (k_callv (xr (ne rfl sm)) (xsS (xr sm) xs0)) fun v42 H n h => ?_
            refine igre h (xr (ne rfl (ne rfl (ne rfl (ne rfl (ne rfl sm)))))) (ne rfl (ne rfl (ne rfl sm))) (k_ld1 (xr (ne rfl (ne rfl (ne rfl (ne rfl sm)))))) fun h => ?_
            refine ign_t h (xr (ne rfl (ne rfl (ne rfl (ne rfl (ne rfl sm)))))) (k_eq (xr (ne rfl (ne rfl (ne rfl sm)))) (xr sm)) fun v43 h => ?_
            refine in_t h (k_pick (xr (ne rfl (ne rfl (ne rfl (ne rfl (ne rfl (ne rfl sm))))))) (xr sm) rfl) fun v44 h => ?_
            refine iv_t (a := v44) (k_mv (xr sm)) ?_
            refine i0 ?_
            refine c_ret ?_
            exact fin_no (rsT sm rs0) h
          · refine c_seq ?_
            refine c_ops ?_
            refine ov_t (a := (.bool b2)) (k_mv (xr (ne rfl f2))) ?_
            refine o0 ?_
            refine c_cond h (xr sm) (fun h => ?_) (fun h => ?_)
            · refine c_ops ?_
              refine ogn_s h (xr (ne rfl (ne rfl f0))) (k_mv (xr (ne rfl (ne rfl f1)))) fun v45 h => ?_
              refine on_s h (k_pick (xr (ne rfl (ne rfl f0))) rfl rfl) fun v46 h => ?_
              refine ov_t (a := v46) (k_mv rfl) ?_
              refine o0 ?_
              exact j24 _ _ _ ⟨_, sm, (ne rfl (ne rfl (ne rfl f11))), (ne rfl (ne rfl (ne rfl f12))), (ne rfl (ne rfl (ne rfl f13))), (ne rfl (ne rfl (ne rfl f14))), h⟩
            · refine c_skip ?_
              exact j24 _ _ _ ⟨_, (ne rfl sm), (ne rfl (ne rfl f11)), (ne rfl (ne rfl f12)), (ne rfl (ne rfl f13)), (ne rfl (ne rfl f14)), h⟩
        · refine c_seq ?_
          refine c_ops ?_
          refine on_t h (k_eq (xr (ne rfl (ne rfl (ne rfl (ne rfl (ne rfl (ne rfl (ne rfl (ne rfl f0))))))))) (xr (ne rfl (ne rfl (ne rfl (ne rfl (ne rfl (ne rfl (ne rfl (ne rfl f2)))))))))) fun v47 h => ?_
          refine o0 ?_
          refine c_cond h (xr sm) (fun h => ?_) (fun h => ?_)
          · refine c_ops ?_
            refine ov_t (a := (.int .i64 (.ofNat 2) 0)) (k_mv rfl) ?_
            refine o0 ?_
            exact j21 _ _ _ ⟨_, sm, (ne rfl (ne rfl (ne rfl (ne rfl (ne rfl (ne rfl (ne rfl (ne rfl (ne rfl (ne rfl f0)))))))))), (ne rfl (ne rfl (ne rfl (ne rfl (ne rfl (ne rfl (ne rfl (ne rfl (ne rfl (ne rfl f1)))))))))), (ne rfl (ne rfl (ne rfl (ne rfl (ne rfl (ne rfl (ne rfl (ne rfl (ne rfl (ne rfl f2)))))))))), (ne rfl (ne rfl (ne rfl (ne rfl (ne rfl sm))))), (ne rfl (ne rfl (ne rfl (ne rfl sm)))), (ne rfl (ne rfl (ne rfl sm))), h⟩
          · refine c_skip ?_
            exact j21 _ _ _ ⟨_, (ne rfl sm), (ne rfl (ne rfl (ne rfl (ne rfl (ne rfl (ne rfl (ne rfl (ne rfl (ne rfl f0))))))))), (ne rfl (ne rfl (ne rfl (ne rfl (ne rfl (ne rfl (ne rfl (ne rfl (ne rfl f1))))))))), (ne rfl (ne rfl (ne rfl (ne rfl (ne rfl (ne rfl (ne rfl (ne rfl (ne rfl f2))))))))), (ne rfl (ne rfl (ne rfl (ne rfl sm)))), (ne rfl (ne rfl (ne rfl sm))), (ne rfl (ne rfl sm)), h⟩
    · refine c_seq ?_
      refine c_ops ?_
      refine ov_t (a := (.bool b2)) (k_mv (xr (ne rfl (ne rfl (ne rfl rfl))))) ?_
      refine o0 ?_
      refine c_cond h (xr sm) (fun h => ?_) (fun h => ?_)
      · refine c_ops ?_
        refine ov_t (a := (.str 2 31868)) (k_mv rfl) ?_
        refine o0 ?_
        exact j3 _ _ _ ⟨_, sm, (ne rfl (ne rfl (ne rfl (ne rfl (ne rfl rfl))))), (ne rfl (ne rfl (ne rfl (ne rfl (ne rfl rfl))))), (ne rfl (ne rfl (ne rfl (ne rfl (ne rfl rfl))))), h⟩
      · refine c_skip ?_
        exact j3 _ _ _ ⟨_, (ne rfl sm), (ne rfl (ne rfl (ne rfl (ne rfl rfl)))), (ne rfl (ne rfl (ne rfl (ne rfl rfl)))), (ne rfl (ne rfl (ne rfl (ne rfl rfl)))), h⟩
end Go.R3.LG

