/- Part of a proof: texts VB UV VBB of the engine and what is proved with it; nothing is assumed. -/
import Derived.Test.YtdplchkljbfjdaaGreatDoorPlainR
import Derived.Test.YtdplchkljbfjdaaGreatDoorCode
import Derived.Test.YtdplchkljbfjdaaGreatDoorEngF
set_option linter.unusedVariables false
set_option linter.unusedSimpArgs false
/- The law, with what it reads of its numbers. -/
namespace Go.R5.VB
open Go.Eng Go.R5
set_option maxRecDepth 100000
def r0 : X := .r q0
def r1 : X := .r q1
def r5 : X := .r q5
def r6 : X := .r q6
def r7 : X := .r q7
def r8 : X := .r q8
def r10 : X := .r q10
def r11 : X := .r q11
def r12 : X := .r q12
def r13 : X := .r q13
def r14 : X := .r q14
def r15 : X := .r q15
def r16 : X := .r q16
def r17 : X := .r q17
def r19 : X := .r q19
def r22 : X := .r q22
def r30 : X := .r q30
def r39 : X := .r q39
def r44 : X := .r q44
def lf : AF := .mk 2 (.seq (.ops [.mk (.to q4) .no (.n (.mv (.c (.bool false))))])
 (.seq (.seq (.ops [.mk .ps .no (.e (.call 13 [])),
    .mk (.to q19) .no (.n (.not (.s 0)))])
   (.cond r19 (.seq (.ops [.mk (.to q4) .no (.n (.mv (.c (.bool false))))])
     .ret)
    .skip))
  (.seq (.seq (.ops [.mk .ps .no (.n (.lenS r0)),
     .mk (.to q22) .no (.n (.bin .gtr (.s 0) (.c (.int .i64 (.ofNat 40) 0))))])
    (.cond r22 (.seq (.ops [.mk (.to q4) .no (.n (.mv (.c (.bool true))))])
      .ret)
     .skip))
   (.seq (.ops [.mk .ps .no (.a (.bslice 1 2 [(.str 0 0)] [(0, (.c (.str 165 11186778226182811258468624080202218680492018354348425981608303567880753123670410483133111715542489421415016258321005974640137611617945875068197940484044057360967217048749097630445953633572625359306574186000762132670990421989203133983226072045771718797563393964559041619068989751404860400626220862432654416548281804897576027077990253550370051853172231127786954466936905484838183695815265288932387939))), (1, (.c (.str 21 182873138172443285020062672248839359210811176348771)))])),
     .mk .ps .no (.e (.call 10 [(.s 0)])),
     .mk .ps .no (.n (.ext (.s 0) 0)),
     .mk .ps .no (.n (.ext (.s 1) 1)),
     .mk .ps .no (.n (.ext (.s 2) 2)),
     .mk (.to q5) .no (.n (.mv (.s 2))),
     .mk (.to q6) .no (.n (.mv (.s 1))),
     .mk (.to q7) .no (.n (.mv (.s 0)))])
    (.seq (.seq (.ops [.mk (.to q30) .no (.n (.not r7))])
      (.cond r30 (.seq (.ops [.mk (.to q4) .no (.n (.mv (.c (.bool false))))])
        .ret)
       .skip))
     (.seq (.ops [.mk .ps .no (.e (.call 14 [r6, r5])),
       .mk .ps .no (.n (.ext (.s 0) 0)),
       .mk .ps .no (.n (.ext (.s 1) 1)),
       .mk .ps .no (.n (.ext (.s 2) 2)),
       .mk (.to q8) .no (.n (.mv (.s 2))),
       .mk (.to q10) .no (.n (.mv (.s 0)))])
      (.seq (.seq (.ops [.mk (.to q39) .no (.n (.not r10))])
        (.cond r39 (.seq (.ops [.mk (.to q4) .no (.n (.mv (.c (.bool false))))])
          .ret)
         .skip))
       (.seq (.ops [.mk .ps .no (.a (.bslice 1 0 [(.int .i64 (.ofNat 0) 0)] [])),
         .mk (.to q11) .no (.n (.mv (.s 0)))])
        (.seq (.seq (.ops [.mk (.to q12) .no (.n (.mv (.c (.int .i64 (.ofNat 0) 0))))])
          (.block 0 (.loop (.seq (.seq (.ops [.mk .ps .no (.n (.bin .and r1 (.c (.int .i64 (.ofNat 3) 0)))),
               .mk (.to q44) .no (.n (.bin .lss r12 (.s 0)))])
              (.cond r44 .skip
               (.exit 0)))
             (.seq (.block 1 (.ops [.mk .ps .no (.a (.bslice 1 1 [(.int .i64 (.ofNat 0) 0)] [(0, (.c (.int .i64 (.ofNat 5) 0)))])),
                .mk .ps .no (.e (.app 1 8 r11 (.s 0))),
                .mk (.to q11) .no (.n (.mv (.s 0)))]))
              (.ops [.mk .ps .no (.n (.bin .add r12 (.c (.int .i64 (.ofNat 1) 0)))),
               .mk (.to q12) .no (.n (.mv (.s 0)))]))))))
         (.seq (.ops [.mk .ps .no (.n (.build [(.int .i64 (.ofNat 0) 0), (.int .i64 (.ofNat 0) 0), (.int .i64 (.ofNat 0) 0)] [(0, 1, (.c (.int .i64 (.ofNat 50) 0))), (2, 1, (.c (.int .i64 (.ofNat 1) 0)))])),
           .mk (.to q13) .no (.a (.alloc 3 [[(.int .i64 (.ofNat 0) 0), (.int .i64 (.ofNat 0) 0), (.int .i64 (.ofNat 0) 0)]])),
           .mk .no .no (.e (.st 3 r13 (.s 0)))])
          (.seq (.ops [.mk .ps .no (.n (.ldn 3 r13)),
            .mk .ps .no (.e (.call 16 [r6, r5, (.c (.str 1 66)), r0, r11, (.s 0)])),
            .mk .ps .no (.n (.ext (.s 0) 0)),
            .mk .ps .no (.n (.ext (.s 1) 1)),
            .mk (.to q14) .no (.a (.alloc 3 [[(.int .i64 (.ofNat 0) 0), (.int .i64 (.ofNat 0) 0), .nils]])),
            .mk .no .no (.e (.st 3 r14 (.s 1))),
            .mk (.to q15) .no (.n (.mv (.s 0)))])
           (.seq (.ops [.mk .ps .no (.n (.ldn 3 r13)),
             .mk .ps .no (.e (.call 15 [r8, (.c (.str 1 66)), r0, r11, (.s 0)])),
             .mk .ps .no (.n (.ext (.s 0) 0)),
             .mk .ps .no (.n (.ext (.s 1) 1)),
             .mk (.to q16) .no (.a (.alloc 3 [[(.int .i64 (.ofNat 0) 0), (.int .i64 (.ofNat 0) 0), .nils]])),
             .mk .no .no (.e (.st 3 r16 (.s 1))),
             .mk (.to q17) .no (.n (.mv (.s 0)))])
            (.seq (.ops [.mk .ps .no (.n (.eq (.one .int) false r15 r17)),
              .mk .ps (.on (.s 0) true) (.n (.ldn 3 r14)),
              .mk .ps (.on (.s 1) true) (.n (.ldn 3 r16)),
              .mk .ps (.on (.s 2) true) (.e (.call 17 [(.s 1), (.s 0)])),
              .mk .ps .no (.n (.pick (.s 3) (.s 0) (.c (.bool false)))),
              .mk .ps (.on (.s 0) true) (.n (.mv r15)),
              .mk .ps (.on (.s 1) true) (.n (.eq (.one .int) true (.s 0) (.c (.int .i64 (.ofNat 0) 0)))),
              .mk .ps (.on (.s 2) true) (.n (.mv (.s 0))),
              .mk .ps (.on (.s 0) false) (.n (.faddr 1 r16)),
              .mk .ps (.on (.s 1) false) (.n (.ld1 (.s 0))),
              .mk .ps (.on (.s 2) false) (.n (.eq (.one .int) false (.s 0) (.c (.int .i64 (.ofNat 5) 0)))),
              .mk .ps (.on (.s 6) true) (.n (.pick (.s 3) (.c (.bool true)) (.s 0))),
              .mk .ps .no (.n (.pick (.s 7) (.s 0) (.c (.bool false)))),
              .mk (.to q4) .no (.n (.mv (.s 0)))])
             .ret)))))))))))))
 [.tmp q4] .no 0
theorem at_law : T.get F 7 = some lf := by kernel_rfl
noncomputable def t_f7_j17 (lp : LpT) (G : Roms) (call callB : CallT) (k : KV) (c0 : Nat) (l0 : Nat) (v12 : V) (v7 : V) (v8 : V) (x0 : Nat) (y0 : Bool) (z1 : Int) (a11_j17 : V) (H : Heap) (n : Nat) : Prop :=
 onV (buildV [(.int .i64 (.ofNat 0) 0), (.int .i64 (.ofNat 0) 0), (.int .i64 (.ofNat 0) 0)] [(0, 1, .c (.int .i64 (.ofNat 50) 0)), (2, 1, .c (.int .i64 (.ofNat 1) 0))]) fun v18 =>
 onA (aAlloc 3 [[(.int .i64 (.ofNat 0) 0), (.int .i64 (.ofNat 0) 0), (.int .i64 (.ofNat 0) 0)]] E0) H n fun v19 H n =>
 stV 3 v19 v18 H n fun v20 H n =>
 onV (ldnV 3 v19 G H) fun v21 =>
 callB 16 [v8, v7, (.str 1 66), (.str l0 c0), a11_j17, v21] H n fun v22 H n =>
 onV (extV v22 0) fun v23 =>
 onV (extV v22 1) fun v24 =>
 onA (aAlloc 3 [[(.int .i64 (.ofNat 0) 0), (.int .i64 (.ofNat 0) 0), .nils]] E0) H n fun v25 H n =>
 stV 3 v25 v23 H n fun v26 H n =>
 onV (ldnV 3 v19 G H) fun v27 =>
 callB 15 [v12, (.str 1 66), (.str l0 c0), a11_j17, v27] H n fun v28 H n =>
 onV (extV v28 0) fun v29 =>
 onV (extV v28 1) fun v30 =>
 onA (aAlloc 3 [[(.int .i64 (.ofNat 0) 0), (.int .i64 (.ofNat 0) 0), .nils]] E0) H n fun v31 H n =>
 stV 3 v31 v29 H n fun v32 H n =>
 onV (eqV (.one .int) false v24 v30) fun v33 =>
 onG v33 true (ldnV 3 v25 G H) fun v34 =>
 onG v33 true (ldnV 3 v31 G H) fun v35 =>
 onGT v33 true (call 17 [v34, v35] H n) H n fun v36 H n =>
 onV (pickV v33 v36 (.bool false)) fun v37 =>
 onG v37 true (some v24) fun v38 =>
 onG v37 true (eqV (.one .int) true v38 (.int .i64 (.ofNat 0) 0)) fun v39 =>
 onG v37 true (some v39) fun v40 =>
 onG v40 false (paddV 1 v31) fun v41 =>
 onG v40 false (ld1V v41 G H) fun v42 =>
 onG v40 false (eqV (.one .int) false v42 (.int .i64 (.ofNat 5) 0)) fun v43 =>
 onG v37 true (pickV v40 (.bool true) v43) fun v44 =>
 onV (pickV v37 v44 (.bool false)) fun v45 =>
 k v45 H n
noncomputable def t_f7_l46 (lp : LpT) (G : Roms) (call callB : CallT) (k : KV) (c0 : Nat) (l0 : Nat) (v12 : V) (v7 : V) (v8 : V) (x0 : Nat) (y0 : Bool) (z1 : Int) (ih46 : (V × V × Heap × Nat) → Prop) (a11_l46 a12_l46 : V) (H : Heap) (n : Nat) : Prop :=
 onV (B2.ev .lss a12_l46 (.int .i64 (.ofNat x0) 0)) fun v47 =>
 onTst v47 true (onA (aBslice 1 1 [(.int .i64 (.ofNat 0) 0)] [(0, .c (.int .i64 (.ofNat 5) 0))] E0) H n fun v48 H n =>
 appV 1 8 a11_l46 v48 G H n fun v49 H n =>
 onV (B2.ev .add a12_l46 (.int .i64 (.ofNat 1) 0)) fun v50 =>
 ih46 (v49, v50, H, n)) (t_f7_j17 lp G call callB k c0 l0 v12 v7 v8 x0 y0 z1 a11_l46 H n)
noncomputable def t_f7 (lp : LpT) (G : Roms) (call callB : CallT) (l0 : Nat) (c0 : Nat) (z1 : Int) (x0 : Nat) (y0 : Bool) (H : Heap) (n : Nat) (k : KV) : Prop :=
 call 13 [] H n fun v1 H n =>
 onV (notV v1) fun v2 =>
 onTst v2 true (k (.bool false) H n) (onV (lenSV (.str l0 c0)) fun v3 =>
 askV y0 (B2.ev .gtr v3 (.int .i64 (.ofNat 40) 0)) fun v4 =>
 onTst v4 true (k (.bool true) H n) (onA (aBslice 1 2 [(.str 0 0)] [(0, .c (.str 165 11186778226182811258468624080202218680492018354348425981608303567880753123670410483133111715542489421415016258321005974640137611617945875068197940484044057360967217048749097630445953633572625359306574186000762132670990421989203133983226072045771718797563393964559041619068989751404860400626220862432654416548281804897576027077990253550370051853172231127786954466936905484838183695815265288932387939)), (1, .c (.str 21 182873138172443285020062672248839359210811176348771))] E0) H n fun v5 H n =>
 call 10 [v5] H n fun v6 H n =>
 onV (extV v6 0) fun v7 =>
 onV (extV v6 1) fun v8 =>
 onV (extV v6 2) fun v9 =>
 onV (notV v9) fun v10 =>
 onTst v10 true (k (.bool false) H n) (call 14 [v8, v7] H n fun v11 H n =>
 onV (extV v11 0) fun v12 =>
 onV (extV v11 1) fun v13 =>
 onV (extV v11 2) fun v14 =>
 onV (notV v14) fun v15 =>
 onTst v15 true (k (.bool false) H n) (onA (aBslice 1 0 [(.int .i64 (.ofNat 0) 0)] [] E0) H n fun v16 H n =>
 lp (V × V × Heap × Nat) (fun ih s => t_f7_l46 lp G call callB k c0 l0 v12 v7 v8 x0 y0 z1 ih s.1 s.2.1 s.2.2.1 s.2.2.2) (v16, (.int .i64 (.ofNat 0) 0), H, n)))))
theorem ti_f7 {lp : LpT} (hL : LpOk lp) {G : Roms} {call callB callE : CallT} (l0 : Nat) (c0 : Nat) (z1 : Int) (x0 : Nat) (y0 : Bool) (ex0 : uand z1 3 = x0) (hle : CallLe call callE) (hleB : CallLe callB callE) (hd : CallDet callE) {H : Heap} {n : Nat} {k : KV} (h : t_f7 lp G call callB l0 c0 z1 x0 y0 H n k) : exFunL lf G callE [(.str l0 c0), (.int .i64 z1 0)] H n k := by
  delta t_f7 at h
  refine f_intro rfl ?_
  refine c_seq ?_
  refine c_ops ?_
  refine ov_t (a := (.bool false)) (k_mv rfl) ?_
  refine o0 ?_
  refine c_seq ?_
  refine c_seq ?_
  refine c_ops ?_
  refine oe_s hle hd h (k_call xs0) fun v1 H n h => ?_
  refine on_t h (k_not rfl) fun v2 h => ?_
  refine o0 ?_
  refine c_cond h (xr sm) (fun h => ?_) (fun h => ?_)
  · refine c_seq ?_
    refine c_ops ?_
    refine ov_t (a := (.bool false)) (k_mv rfl) ?_
    refine o0 ?_
    refine c_ret ?_
    exact fin_no (rsT sm rs0) h
  · refine c_skip ?_
    refine c_seq ?_
    refine c_seq ?_
    refine c_ops ?_
    refine on_s h (k_lenS (xr (ne rfl (ne rfl rfl)))) fun v3 h => ?_
    refine on_t (askV_ok h) (k_bin rfl rfl) fun v4 h => ?_
    refine o0 ?_
    refine c_cond h (xr sm) (fun h => ?_) (fun h => ?_)
    · refine c_seq ?_
      refine c_ops ?_
      refine ov_t (a := (.bool true)) (k_mv rfl) ?_
      refine o0 ?_
      refine c_ret ?_
      exact fin_no (rsT sm rs0) h
    · refine c_skip ?_
      refine c_seq ?_
      refine c_ops ?_
      refine oa_s h (k_bslice (pbS rfl (pbS rfl pb0))) fun v5 H n h => ?_
      refine oe_s hle hd h (k_call (xsS rfl xs0)) fun v6 H n h => ?_
      refine on_s h (k_ext rfl) fun v7 h => ?_
      refine on_s h (k_ext rfl) fun v8 h => ?_
      refine on_s h (k_ext rfl) fun v9 h => ?_
      refine ov_t (a := v7) (k_mv rfl) ?_
      refine ov_t (a := v8) (k_mv rfl) ?_
      refine ov_t (a := v9) (k_mv rfl) ?_
      refine o0 ?_
      refine c_seq ?_
      refine c_seq ?_
      refine c_ops ?_
      refine on_t h (k_not (xr sm)) fun v10 h => ?_
      refine o0 ?_
      refine c_cond h (xr sm) (fun h => ?_) (fun h => ?_)
      · refine c_seq ?_
        refine c_ops ?_
        refine ov_t (a := (.bool false)) (k_mv rfl) ?_
        refine o0 ?_
        refine c_ret ?_
        exact fin_no (rsT sm rs0) h
      · refine c_skip ?_
        refine c_seq ?_
        refine c_ops ?_
        refine oe_s hle hd h (k_call (xsS (xr (ne rfl (ne rfl sm))) (xsS (xr (ne rfl (ne rfl (ne rfl sm)))) xs0))) fun v11 H n h => ?_
        refine on_s h (k_ext rfl) fun v12 h => ?_
        refine on_s h (k_ext rfl) fun v13 h => ?_
        refine on_s h (k_ext rfl) fun v14 h => ?_
        refine ov_t (a := v12) (k_mv rfl) ?_
        refine ov_t (a := v14) (k_mv rfl) ?_
        refine o0 ?_
        refine c_seq ?_
        refine c_seq ?_
        refine c_ops ?_
        refine on_t h (k_not (xr sm)) fun v15 h => ?_
        refine o0 ?_
        refine c_cond h (xr sm) (fun h => ?_) (fun h => ?_)
        · refine c_seq ?_
          refine c_ops ?_
          refine ov_t (a := (.bool false)) (k_mv rfl) ?_
          refine o0 ?_
          refine c_ret ?_
          exact fin_no (rsT sm rs0) h
        · refine c_skip ?_
          refine c_seq ?_
          refine c_ops ?_
          refine oa_s h (k_bslice pb0) fun v16 H n h => ?_
          refine ov_t (a := v16) (k_mv rfl) ?_
          refine o0 ?_
          refine c_seqj (fun R H n => ∃ a11_j17, rg R q11 = a11_j17 ∧ rg R q0 = (.str l0 c0) ∧ rg R q5 = v7 ∧ rg R q6 = v8 ∧ rg R q8 = v12 ∧ t_f7_j17 lp G call callB k c0 l0 v12 v7 v8 x0 y0 z1 a11_j17 H n) ?_ fun j17 => ?_
          · rintro R H n ⟨a11_j17, f11, f0, f5, f6, f8, h⟩
            delta t_f7_j17 at h
            refine c_seq ?_
            refine c_ops ?_
            refine on_s h (k_build (psS rfl (psS rfl ps0))) fun v18 h => ?_
            refine oa_t h k_alloc fun v19 H n h => ?_
            refine oe_x hle hd h (k_st (xr sm) rfl) fun v20 H n h => ?_
            refine o0 ?_
            refine c_seq ?_
            refine c_ops ?_
            refine on_s h (k_ldn (xr sm)) fun v21 h => ?_
            refine oe_s hleB hd h (k_call (xsS (xr (ne rfl f6)) (xsS (xr (ne rfl f5)) (xsS rfl (xsS (xr (ne rfl f0)) (xsS (xr (ne rfl f11)) (xsS rfl xs0))))))) fun v22 H n h => ?_
            refine on_s h (k_ext rfl) fun v23 h => ?_
            refine on_s h (k_ext rfl) fun v24 h => ?_
            refine oa_t h k_alloc fun v25 H n h => ?_
            refine oe_x hle hd h (k_st (xr sm) rfl) fun v26 H n h => ?_
            refine ov_t (a := v24) (k_mv rfl) ?_
            refine o0 ?_
            refine c_seq ?_
            refine c_ops ?_
            refine on_s h (k_ldn (xr (ne rfl (ne rfl sm)))) fun v27 h => ?_
            refine oe_s hleB hd h (k_call (xsS (xr (ne rfl (ne rfl (ne rfl f8)))) (xsS rfl (xsS (xr (ne rfl (ne rfl (ne rfl f0)))) (xsS (xr (ne rfl (ne rfl (ne rfl f11)))) (xsS rfl xs0)))))) fun v28 H n h => ?_
            refine on_s h (k_ext rfl) fun v29 h => ?_
            refine on_s h (k_ext rfl) fun v30 h => ?_
            refine oa_t h k_alloc fun v31 H n h => ?_
            refine oe_x hle hd h (k_st (xr sm) rfl) fun v32 H n h => ?_
            refine ov_t (a := v30) (k_mv rfl) ?_
            refine o0 ?_
            refine c_seq ?_
            refine c_ops ?_
            refine on_s h (k_eq (xr (ne rfl (ne rfl sm))) (xr sm)) fun v33 h => ?_
            refine ogn_s h rfl (k_ldn (xr (ne rfl (ne rfl (ne rfl sm))))) fun v34 h => ?_
            refine ogn_s h rfl (k_ldn (xr (ne rfl sm))) fun v35 h => ?_
            refine oge_s hle hd h rfl (k_call (xsS rfl (xsS rfl xs0))) fun v36 H n h => ?_
            refine on_s h (k_pick rfl rfl rfl) fun v37 h => ?_
            refine ogn_s h rfl (k_mv (xr (ne rfl (ne rfl sm)))) fun v38 h => ?_
            refine ogn_s h rfl (k_eq rfl rfl) fun v39 h => ?_
            refine ogn_s h rfl (k_mv rfl) fun v40 h => ?_
            refine ogn_s h rfl (k_faddr (xr (ne rfl sm))) fun v41 h => ?_
            refine ogn_s h rfl (k_ld1 rfl) fun v42 h => ?_
            refine ogn_s h rfl (k_eq rfl rfl) fun v43 h => ?_
            refine ogn_s h rfl (k_pick rfl rfl rfl) fun v44 h => ?_
            refine on_s h (k_pick rfl rfl rfl) fun v45 h => ?_
            refine ov_t (a := v45) (k_mv rfl) ?_
            refine o0 ?_
            refine c_ret ?_
            exact fin_no (rsT sm rs0) h
          · refine c_seq ?_
            refine c_ops ?_
            refine ov_t (a := (.int .i64 (.ofNat 0) 0)) (k_mv rfl) ?_
            refine o0 ?_
            refine c_block ?_
            refine c_loop hL (fun s R H n => rg R q11 = s.1 ∧ rg R q12 = s.2.1 ∧ rg R q0 = (.str l0 c0) ∧ rg R q1 = (.int .i64 z1 0) ∧ rg R q5 = v7 ∧ rg R q6 = v8 ∧ rg R q8 = v12 ∧ H = s.2.2.1 ∧ n = s.2.2.2) h ⟨(ne rfl sm), sm, (ne rfl (ne rfl (ne rfl (ne rfl (ne rfl (ne rfl (ne rfl (ne rfl (ne rfl (ne rfl (ne rfl (ne rfl rfl)))))))))))), (ne rfl (ne rfl (ne rfl (ne rfl (ne rfl (ne rfl (ne rfl (ne rfl (ne rfl (ne rfl (ne rfl (ne rfl rfl)))))))))))), (ne rfl (ne rfl (ne rfl (ne rfl (ne rfl (ne rfl (ne rfl (ne rfl sm)))))))), (ne rfl (ne rfl (ne rfl (ne rfl (ne rfl (ne rfl (ne rfl sm))))))), (ne rfl (ne rfl (ne rfl (ne rfl sm)))), rfl, rfl⟩ ?_
            rintro ih46 I46 hI46 ⟨a11_l46, a12_l46, H, n⟩ R H0 n0 ⟨f11, f12, f0, f1, f5, f6, f8, eH, eN⟩ h
            replace h : t_f7_l46 lp G call callB k c0 l0 v12 v7 v8 x0 y0 z1 ih46 a11_l46 a12_l46 H n := h
            obtain rfl : H0 = H := eH
            obtain rfl : n0 = n := eN
            delta t_f7_l46 at h
            refine c_seq ?_
            refine c_seq ?_
            refine c_ops ?_
            refine ov_s (a := (.int .i64 (.ofNat x0) 0)) (km3 (by decide) ex0 (xr f1)) ?_
            refine on_t h (k_bin (xr f12) rfl) fun v47 h => ?_
            refine o0 ?_
            refine c_cond h (xr sm) (fun h => ?_) (fun h => ?_)
            · refine c_skip ?_
              refine c_seq ?_
              refine c_block ?_
              refine c_ops ?_
              refine oa_s h (k_bslice (pbS rfl pb0)) fun v48 H n h => ?_
              refine oe_s hle hd h (k_app (xr (ne rfl f11)) rfl) fun v49 H n h => ?_
              refine ov_t (a := v49) (k_mv rfl) ?_
              refine o0 ?_
              refine c_ops ?_
              refine on_s h (k_bin (xr (ne rfl (ne rfl f12))) rfl) fun v50 h => ?_
              refine ov_t (a := v50) (k_mv rfl) ?_
              refine o0 ?_
              exact hI46 (v49, v50, H, n) _ _ _ ⟨(ne rfl sm), sm, (ne rfl (ne rfl (ne rfl f0))), (ne rfl (ne rfl (ne rfl f1))), (ne rfl (ne rfl (ne rfl f5))), (ne rfl (ne rfl (ne rfl f6))), (ne rfl (ne rfl (ne rfl f8))), rfl, rfl⟩ h
            · refine c_exit ?_
              refine bx_same ?_
              exact j17 _ _ _ ⟨_, (ne rfl f11), (ne rfl f0), (ne rfl f5), (ne rfl f6), (ne rfl f8), h⟩
end Go.R5.VB

/- A function, with what it asks answered ahead. -/
namespace Go.R5.UV
open Go.Eng Go.R5
set_option maxRecDepth 100000
def r0 : X := .r q0
def r1 : X := .r q1
def r2 : X := .r q2
def r4 : X := .r q4
def r7 : X := .r q7
def r9 : X := .r q9
def r10 : X := .r q10
def r11 : X := .r q11
def r12 : X := .r q12
def r18 : X := .r q18
def lf_f54 : AF := .mk 2 (.seq (.ops [.mk (.to q2) .no (.a (.box r0)),
  .mk (.to q4) .no (.a (.alloc 5 [[(.str 0 0), (.bool false), .nils, (.str 0 0), (.bool false)]])),
  .mk (.to q5) .no (.n (.mv (.c (.bool false))))])
 (.seq (.seq (.ops [.mk .ps .no (.n (.faddr 3 r2)),
    .mk (.to q9) .no (.n (.ld1 (.s 0))),
    .mk (.to q10) .no (.n (.lenL r9)),
    .mk (.to q11) .no (.n (.mv (.c (.int .i64 (.ofNat 0) 0))))])
   (.block 0 (.loop (.seq (.ops [.mk (.to q12) .no (.n (.bin .lss r11 r10))])
      (.seq (.cond r12 .skip
        (.exit 0))
       (.seq (.block 1 (.seq (.ops [.mk .ps .no (.n (.iaddr 5 r9 r11)),
           .mk .ps .no (.n (.ldn 5 (.s 0))),
           .mk (.to q7) .no (.a (.alloc 5 [[(.str 0 0), (.bool false), .nils, (.str 0 0), (.bool false)]])),
           .mk .no .no (.e (.st 5 r7 (.s 0)))])
          (.seq (.ops [.mk .ps .no (.n (.faddr 0 r7)),
            .mk .ps .no (.n (.ld1 (.s 0))),
            .mk (.to q18) .no (.n (.eq (.one .str) false (.s 0) r1))])
           (.cond r18 (.seq (.ops [.mk .ps .no (.n (.ldn 5 r7)),
              .mk .no .no (.e (.st 5 r4 (.s 0))),
              .mk (.to q5) .no (.n (.mv (.c (.bool true))))])
             .ret)
            .skip))))
        (.ops [.mk .ps .no (.n (.bin .add r11 (.c (.int .i64 (.ofNat 1) 0)))),
         .mk (.to q11) .no (.n (.mv (.s 0)))])))))))
  (.seq (.ops [.mk .ps .no (.n (.build [(.str 0 0), (.bool false), .nils, (.str 0 0), (.bool false)] [])),
    .mk .no .no (.e (.st 5 r4 (.s 0))),
    .mk (.to q5) .no (.n (.mv (.c (.bool false))))])
   .ret)))
 [.celln q4 5, .tmp q5] .no 0
theorem au_f54 : T.get F 54 = some lf_f54 := by kernel_rfl
noncomputable def u_f54_j3 (lp : LpT) (G : Roms) (call : CallT) (k : KV) (v2 : V) (H : Heap) (n : Nat) : Prop :=
 onV (buildV [(.str 0 0), (.bool false), .nils, (.str 0 0), (.bool false)] []) fun v4 =>
 stV 5 v2 v4 H n fun v5 H n =>
 onO (getVs [.cn v2 5, .t (.bool false)] G H) fun l => k (oneV l) H n
noncomputable def u_f54_l9 (lp : LpT) (G : Roms) (call : CallT) (k : KV) (a1 : V) (v2 : V) (v7 : V) (v8 : V) (ih9 : (V × Heap × Nat) → Prop) (a11_l9 : V) (H : Heap) (n : Nat) : Prop :=
 onV (B2.ev .lss a11_l9 v8) fun v10 =>
 onTst v10 true (onV (iaddrV 5 v7 a11_l9) fun v11 =>
 onV (ldnV 5 v11 G H) fun v12 =>
 onA (aAlloc 5 [[(.str 0 0), (.bool false), .nils, (.str 0 0), (.bool false)]] E0) H n fun v13 H n =>
 stV 5 v13 v12 H n fun v14 H n =>
 onV (paddV 0 v13) fun v15 =>
 onV (ld1V v15 G H) fun v16 =>
 askV false (eqV (.one .str) false v16 a1) fun v17 =>
 onTst v17 true (onV (ldnV 5 v13 G H) fun v18 =>
 stV 5 v2 v18 H n fun v19 H n =>
 onO (getVs [.cn v2 5, .t (.bool true)] G H) fun l => k (oneV l) H n) (onV (B2.ev .add a11_l9 (.int .i64 (.ofNat 1) 0)) fun v20 =>
 ih9 (v20, H, n))) (u_f54_j3 lp G call k v2 H n)
noncomputable def u_f54 (lp : LpT) (G : Roms) (call : CallT) (a0 a1 : V) (H : Heap) (n : Nat) (k : KV) : Prop :=
 onA (aBoxV a0) H n fun v1 H n =>
 onA (aAlloc 5 [[(.str 0 0), (.bool false), .nils, (.str 0 0), (.bool false)]] E0) H n fun v2 H n =>
 onV (paddV 3 v1) fun v6 =>
 onV (ld1V v6 G H) fun v7 =>
 onV (lenV v7) fun v8 =>
 lp (V × Heap × Nat) (fun ih s => u_f54_l9 lp G call k a1 v2 v7 v8 ih s.1 s.2.1 s.2.2) ((.int .i64 (.ofNat 0) 0), H, n)
theorem ui_f54 {lp : LpT} (hL : LpOk lp) (G : Roms) : SfOk G lf_f54 (ar2 (u_f54 lp G)) := by
  intro call callE hle hd
  refine fun l H n k h0 => ?_
  obtain ⟨a0, a1, rfl, h⟩ := ar2_inv h0
  clear h0
  delta u_f54 at h
  refine f_intro rfl ?_
  refine c_seq ?_
  refine c_ops ?_
  refine oa_t h (k_box (xr rfl)) fun v1 H n h => ?_
  refine oa_t h k_alloc fun v2 H n h => ?_
  refine ov_t (a := (.bool false)) (k_mv rfl) ?_
  refine o0 ?_
  refine c_seqj (fun R H n => rg R q4 = v2 ∧ u_f54_j3 lp G call k v2 H n) ?_ fun j3 => ?_
  · rintro R H n ⟨f4, h⟩
    delta u_f54_j3 at h
    refine c_seq ?_
    refine c_ops ?_
    refine on_s h (k_build ps0) fun v4 h => ?_
    refine oe_x hle hd h (k_st (xr f4) rfl) fun v5 H n h => ?_
    refine ov_t (a := (.bool false)) (k_mv rfl) ?_
    refine o0 ?_
    refine c_ret ?_
    exact fin_no (rsN (ne rfl f4) (rsT sm rs0)) h
  · refine c_seq ?_
    refine c_ops ?_
    refine on_s h (k_faddr (xr (ne rfl (ne rfl sm)))) fun v6 h => ?_
    refine on_t h (k_ld1 rfl) fun v7 h => ?_
    refine on_t h (k_lenL (xr sm)) fun v8 h => ?_
    refine ov_t (a := (.int .i64 (.ofNat 0) 0)) (k_mv rfl) ?_
    refine o0 ?_
    refine c_block ?_
    refine c_loop hL (fun s R H n => rg R q11 = s.1 ∧ rg R q1 = a1 ∧ rg R q4 = v2 ∧ rg R q9 = v7 ∧ rg R q10 = v8 ∧ H = s.2.1 ∧ n = s.2.2) h ⟨sm, (ne rfl (ne rfl (ne rfl (ne rfl (ne rfl (ne rfl rfl)))))), (ne rfl (ne rfl (ne rfl (ne rfl sm)))), (ne rfl (ne rfl sm)), (ne rfl sm), rfl, rfl⟩ ?_
    rintro ih9 I9 hI9 ⟨a11_l9, H, n⟩ R H0 n0 ⟨f11, f1, f4, f9, f10, eH, eN⟩ h
    replace h : u_f54_l9 lp G call k a1 v2 v7 v8 ih9 a11_l9 H n := h
    obtain rfl : H0 = H := eH
    obtain rfl : n0 = n := eN
    delta u_f54_l9 at h
    refine c_seq ?_
    refine c_ops ?_
    refine on_t h (k_bin (xr f11) (xr f10)) fun v10 h => ?_
    refine o0 ?_
    refine c_seq ?_
    refine c_cond h (xr sm) (fun h => ?_) (fun h => ?_)
    · refine c_skip ?_
      refine c_seq ?_
      refine c_block ?_
      refine c_seq ?_
      refine c_ops ?_
      refine on_s h (k_iaddr (xr (ne rfl f9)) (xr (ne rfl f11))) fun v11 h => ?_
      refine on_s h (k_ldn rfl) fun v12 h => ?_
      refine oa_t h k_alloc fun v13 H n h => ?_
      refine oe_x hle hd h (k_st (xr sm) rfl) fun v14 H n h => ?_
      refine o0 ?_
      refine c_seq ?_
      refine c_ops ?_
      refine on_s h (k_faddr (xr sm)) fun v15 h => ?_
      refine on_s h (k_ld1 rfl) fun v16 h => ?_
      refine on_t (askV_ok h) (k_eq rfl (xr (ne rfl (ne rfl f1)))) fun v17 h => ?_
      refine o0 ?_
      refine c_cond h (xr sm) (fun h => ?_) (fun h => ?_)
      · refine c_seq ?_
        refine c_ops ?_
        refine on_s h (k_ldn (xr (ne rfl sm))) fun v18 h => ?_
        refine oe_x hle hd h (k_st (xr (ne rfl (ne rfl (ne rfl f4)))) rfl) fun v19 H n h => ?_
        refine ov_t (a := (.bool true)) (k_mv rfl) ?_
        refine o0 ?_
        refine c_ret ?_
        exact fin_no (rsN (ne rfl (ne rfl (ne rfl (ne rfl f4)))) (rsT sm rs0)) h
      · refine c_skip ?_
        refine c_ops ?_
        refine on_s h (k_bin (xr (ne rfl (ne rfl (ne rfl f11)))) rfl) fun v20 h => ?_
        refine ov_t (a := v20) (k_mv rfl) ?_
        refine o0 ?_
        exact hI9 (v20, H, n) _ _ _ ⟨sm, (ne rfl (ne rfl (ne rfl (ne rfl f1)))), (ne rfl (ne rfl (ne rfl (ne rfl f4)))), (ne rfl (ne rfl (ne rfl (ne rfl f9)))), (ne rfl (ne rfl (ne rfl (ne rfl f10)))), rfl, rfl⟩ h
    · refine c_exit ?_
      refine bx_same ?_
      exact j3 _ _ _ ⟨(ne rfl f4), h⟩
end Go.R5.UV

/- What is asked of the name. -/
set_option maxRecDepth 100000
namespace Go.R5.VB
open Go.Eng Go.R5
noncomputable def fs2 : T SF := T.set (FS (lpF 600) G0) 54 (ar2 (UV.u_f54 (lpF 600) G0))
theorem fs2_ok : FsOk F G0 fs2 := (fs_ok (lpF_ok 600) G0).set UV.au_f54 (UV.ui_f54 (lpF_ok 600) G0)
noncomputable def tt (fs : T SF) (l c : Nat) (z : Int) (n : Nat) (y0 : Bool) : Prop := t_f7 (lpF 600) G0 (runS (FS (lpF 600) G0) 600) (runS fs 600) l c z n y0 .e 0 isT
noncomputable def C (b : Bool) : Prop := some (V.bool b) = some (V.bool b)
noncomputable def Long (l : Nat) (b : Bool) : Prop := B2.ev .gtr (.int .i64 (.ofNat l) 0) (.int .i64 (.ofNat 40) 0) = some (.bool b)
noncomputable def Nq (l c x : Nat) : Prop := eqV (.one .str) false (.str 1 x) (.str l c) = some (.bool false)
noncomputable def Other (l c : Nat) : Prop := Long l false ∧ Nq l c 98 ∧ Nq l c 99 ∧ Nq l c 100 ∧ Nq l c 109 ∧ Nq l c 98 ∧ Nq l c 99 ∧ Nq l c 100 ∧ Nq l c 109 ∧ True
theorem long {l : Nat} {b : Bool} (h : decide (40 < l) = b) : Long l b := by
  show mkB (ilt (.ofNat 40) (.ofNat l)) = _
  rw [mkB_eq, ilt_eq, ← h]
  congr 2
  rw [decide_eq_decide]
  show (40 : Int) < (l : Int) ↔ 40 < l
  omega
theorem nq {l c x : Nat} (h : ¬ (l = 1 ∧ c = x)) : Nq l c x := by
  show ofB (bbind (some (band (Nat.beq 1 l) (Nat.beq x c))) fun b => some b) = _
  have : band (Nat.beq 1 l) (Nat.beq x c) = false := by
    rw [band_eq, Bool.eq_false_iff]; intro e; simp at e; exact h ⟨e.1.symm, e.2.symm⟩
  rw [this]; rfl
end Go.R5.VB

