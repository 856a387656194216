/- Part of a proof: texts LB of the engine and what is proved with it; nothing is assumed. -/
import Derived.Test.YtgdefgnmabjmcaaGreatDoorPlainR
import Derived.Test.YtgdefgnmabjmcaaGreatDoorCode
import Derived.Test.YtgdefgnmabjmcaaGreatDoorEngF
set_option linter.unusedVariables false
set_option linter.unusedSimpArgs false
/- The law, with what it reads of its numbers. -/
namespace Go.R3.LB
open Go.Eng Go.R3
set_option maxRecDepth 100000
def r0 : X := .r q0
def r1 : X := .r q1
def r2 : X := .r q2
def r7 : X := .r q7
def r8 : X := .r q8
def r9 : X := .r q9
def r10 : X := .r q10
def r11 : X := .r q11
def r12 : X := .r q12
def r13 : X := .r q13
def r14 : X := .r q14
def r15 : X := .r q15
def r16 : X := .r q16
def r17 : X := .r q17
def r18 : X := .r q18
def r20 : X := .r q20
def r28 : X := .r q28
def r33 : X := .r q33
def r38 : X := .r q38
def r46 : X := .r q46
def r60 : X := .r q60
def r61 : X := .r q61
def r62 : X := .r q62
def r63 : X := .r q63
def r64 : X := .r q64
def r65 : X := .r q65
def r66 : X := .r q66
def r67 : X := .r q67
def r68 : X := .r q68
def r69 : X := .r q69
def r70 : X := .r q70
def r77 : X := .r q77
def r91 : X := .r q91
def r92 : X := .r q92
def r93 : X := .r q93
def r94 : X := .r q94
def r95 : X := .r q95
def r96 : X := .r q96
def r97 : X := .r q97
def r98 : X := .r q98
def r99 : X := .r q99
def r100 : X := .r q100
def lf : AF := .mk 3 (.seq (.ops [.mk (.to q6) .no (.n (.mv (.c (.bool false))))])
 (.seq (.seq (.ops [.mk .ps .no (.e (.call 15 [])),
    .mk (.to q20) .no (.n (.not (.s 0)))])
   (.cond r20 (.seq (.ops [.mk (.to q6) .no (.n (.mv (.c (.bool false))))])
     .ret)
    .skip))
  (.seq (.ops [.mk .ps .no (.n (.bin .and r0 (.c (.int .i64 (.ofNat 7) 0)))),
    .mk .ps .no (.n (.bin .add (.c (.int .i64 (.ofNat 1) 0)) (.s 0))),
    .mk (.to q0) .no (.n (.mv (.s 0)))])
   (.seq (.ops [.mk .ps .no (.n (.bin .and r1 (.c (.int .i64 (.ofNat 7) 0)))),
     .mk (.to q1) .no (.n (.mv (.s 0)))])
    (.seq (.ops [.mk (.to q7) .no (.n (.mv (.c (.str 0 0))))])
     (.seq (.seq (.ops [.mk (.to q8) .no (.n (.mv (.c (.int .i64 (.ofNat 0) 0))))])
       (.block 0 (.loop (.seq (.seq (.ops [.mk (.to q28) .no (.n (.bin .lss r8 r0))])
           (.cond r28 .skip
            (.exit 0)))
          (.seq (.block 1 (.seq (.seq (.ops [.mk (.to q33) .no (.n (.eq (.one .int) false r8 r1))])
              (.cond r33 (.ops [.mk .ps .no (.n (.bin .add r7 (.c (.str 15 167354053797111123448213094997976428)))),
                .mk (.to q7) .no (.n (.mv (.s 0)))])
               .skip))
             (.ops [.mk .ps .no (.n (.bin .add r7 (.c (.str 10 153387011374011218159209)))),
              .mk (.to q7) .no (.n (.mv (.s 0)))])))
           (.ops [.mk .ps .no (.n (.bin .add r8 (.c (.int .i64 (.ofNat 1) 0)))),
            .mk (.to q8) .no (.n (.mv (.s 0)))]))))))
      (.seq (.ops [.mk (.to q9) .no (.n (.mv (.c (.str 1 113))))])
       (.seq (.seq (.ops [.mk (.to q38) .no (.n (.mv r2))])
         (.cond r38 (.ops [.mk (.to q9) .no (.n (.mv (.c (.str 16 66628793086016972904926697110865197937))))])
          .skip))
        (.seq (.ops [.mk .ps .no (.n (.bin .add r7 (.c (.str 6 35684440699504)))),
          .mk .ps .no (.n (.bin .add (.s 0) r9)),
          .mk .ps .no (.n (.bin .add (.s 0) (.c (.str 2 8251)))),
          .mk (.to q7) .no (.n (.mv (.s 0)))])
         (.seq (.seq (.ops [.mk (.to q10) .no (.n (.mv (.c (.int .i64 (.ofNat 0) 0))))])
           (.block 2 (.loop (.seq (.seq (.ops [.mk (.to q46) .no (.n (.bin .lss r10 r0))])
               (.cond r46 .skip
                (.exit 2)))
              (.seq (.block 3 (.ops [.mk .ps .no (.n (.bin .add r7 (.c (.str 2 8317)))),
                 .mk (.to q7) .no (.n (.mv (.s 0)))]))
               (.ops [.mk .ps .no (.n (.bin .add r10 (.c (.int .i64 (.ofNat 1) 0)))),
                .mk (.to q10) .no (.n (.mv (.s 0)))]))))))
          (.seq (.ops [.mk .ps .no (.n (.bin .add (.c (.str 27 13361891714458179349549316075936357978049634714877068622323346531)) r7)),
            .mk .ps .no (.n (.bin .add (.s 0) (.c (.str 14 2537875226248276560734076572889632)))),
            .mk .ps .no (.a (.bslice 1 1 [(.str 0 0)] [(0, (.s 0))])),
            .mk .ps .no (.e (.call 16 [(.s 0)])),
            .mk .ps .no (.n (.ext (.s 0) 0)),
            .mk .ps .no (.n (.ext (.s 1) 1)),
            .mk (.to q11) .no (.n (.mv (.s 1))),
            .mk (.to q12) .no (.n (.mv (.s 0)))])
           (.seq (.seq (.ops [.mk (.to q60) .no (.n (.not r12))])
             (.cond r60 (.seq (.ops [.mk (.to q6) .no (.n (.mv (.c (.bool false))))])
               .ret)
              .skip))
            (.seq (.reg [.op (.mk (.to q62) .no (.n (.mv r11))),
              .op (.mk (.to q64) .no (.n (.mv r11))),
              .op (.mk (.to q65) .no (.n (.iaddr 6 r64 (.c (.int .i64 (.ofNat 0) 0))))),
              .op (.mk (.to q66) .no (.n (.ldn 6 r65))),
              .op (.mk (.to q13) .no (.a (.alloc 6 [[(.int .i64 (.ofNat 0) 0), (.int .i64 (.ofNat 0) 0), (.str 0 0), (.str 0 0), .nils, .nils]]))),
              .op (.mk (.to q14) .no (.a (.alloc 3 [[(.int .i64 (.ofNat 0) 0), (.int .i64 (.ofNat 0) 0), (.int .i64 (.ofNat 0) 0)]]))),
              .op (.mk (.to q63) .no (.e (.call 18 [r62]))),
              .re q66 .no (.ldn 6 r65),
              .op (.mk (.to q67) .no (.e (.call 17 [r63, r66]))),
              .op (.mk (.to q61) .no (.n (.mv r67))),
              .op (.mk (.to q68) .no (.n (.ext r61 0))),
              .op (.mk (.to q69) .no (.n (.ext r61 1))),
              .op (.mk .no .no (.e (.st 6 r13 r68))),
              .op (.mk .no .no (.e (.st 3 r14 r69)))])
             (.seq (.block 4 (.seq (.ops [.mk .ps .no (.n (.bin .geq r1 r0)),
                 .mk (.to q70) .no (.n (.mv (.s 0)))])
                (.cond r70 (.seq (.ops [.mk .ps .no (.n (.faddr 0 r14)),
                   .mk .ps .no (.n (.ld1 (.s 0))),
                   .mk .ps .no (.n (.eq (.one .int) false (.s 0) (.c (.int .i64 (.ofNat 23) 0)))),
                   .mk (.to q6) .no (.n (.mv (.s 0)))])
                  .ret)
                 (.seq (.ops [.mk (.to q77) .no (.n (.mv r2))])
                  (.cond r77 (.seq (.ops [.mk .ps .no (.n (.faddr 0 r14)),
                     .mk .ps .no (.n (.ld1 (.s 0))),
                     .mk .ps .no (.n (.eq (.one .int) false (.s 0) (.c (.int .i64 (.ofNat 6) 0)))),
                     .mk (.to q6) .no (.n (.mv (.s 0)))])
                    .ret)
                   .skip)))))
              (.seq (.ops [.mk .ps .no (.n (.bin .add (.c (.str 37 16153537679988168044257609895106216315768595427032156774407739971038279685766217593875555)) r7)),
                .mk .ps .no (.n (.bin .add (.s 0) (.c (.str 16 166322190827485632862543393177250856224)))),
                .mk .ps .no (.a (.bslice 1 1 [(.str 0 0)] [(0, (.s 0))])),
                .mk .ps .no (.e (.call 16 [(.s 0)])),
                .mk .ps .no (.n (.ext (.s 0) 0)),
                .mk .ps .no (.n (.ext (.s 1) 1)),
                .mk (.to q15) .no (.n (.mv (.s 1))),
                .mk (.to q16) .no (.n (.mv (.s 0)))])
               (.seq (.seq (.ops [.mk (.to q91) .no (.n (.not r16))])
                 (.cond r91 (.seq (.ops [.mk (.to q6) .no (.n (.mv (.c (.bool false))))])
                   .ret)
                  .skip))
                (.seq (.reg [.op (.mk (.to q93) .no (.n (.mv r15))),
                  .op (.mk (.to q95) .no (.n (.mv r15))),
                  .op (.mk (.to q96) .no (.n (.iaddr 6 r95 (.c (.int .i64 (.ofNat 0) 0))))),
                  .op (.mk (.to q97) .no (.n (.ldn 6 r96))),
                  .op (.mk (.to q17) .no (.a (.alloc 6 [[(.int .i64 (.ofNat 0) 0), (.int .i64 (.ofNat 0) 0), (.str 0 0), (.str 0 0), .nils, .nils]]))),
                  .op (.mk (.to q18) .no (.a (.alloc 3 [[(.int .i64 (.ofNat 0) 0), (.int .i64 (.ofNat 0) 0), (.int .i64 (.ofNat 0) 0)]]))),
                  .op (.mk (.to q94) .no (.e (.call 18 [r93]))),
                  .re q97 .no (.ldn 6 r96),
                  .op (.mk (.to q98) .no (.e (.call 17 [r94, r97]))),
                  .op (.mk (.to q92) .no (.n (.mv r98))),
                  .op (.mk (.to q99) .no (.n (.ext r92 0))),
                  .op (.mk (.to q100) .no (.n (.ext r92 1))),
                  .op (.mk .no .no (.e (.st 6 r17 r99))),
                  .op (.mk .no .no (.e (.st 3 r18 r100)))])
                 (.seq (.ops [.mk .ps .no (.n (.faddr 0 r14)),
                   .mk .ps .no (.n (.ld1 (.s 0))),
                   .mk .ps .no (.n (.eq (.one .int) false (.s 0) (.c (.int .i64 (.ofNat 0) 0)))),
                   .mk .ps (.on (.s 0) true) (.n (.faddr 0 r18)),
                   .mk .ps (.on (.s 1) true) (.n (.ld1 (.s 0))),
                   .mk .ps (.on (.s 2) true) (.n (.eq (.one .int) false (.s 0) (.c (.int .i64 (.ofNat 23) 0)))),
                   .mk .ps .no (.n (.pick (.s 3) (.s 0) (.c (.bool false)))),
                   .mk (.to q6) .no (.n (.mv (.s 0)))])
                  .ret))))))))))))))))))
 [.tmp q6] .no 0
theorem at_law : T.get F 4 = some lf := by kernel_rfl
noncomputable def t_f4_j9 (lp : LpT) (G : Roms) (call : CallT) (k : KV) (b2 : Bool) (v3 : V) (x0 : Nat) (x1 : Nat) (z0 : Int) (z1 : Int) (a7_j9 : V) (H : Heap) (n : Nat) : Prop :=
 onV (B2.ev .add (.str 27 13361891714458179349549316075936357978049634714877068622323346531) a7_j9) fun v10 =>
 onV (B2.ev .add v10 (.str 14 2537875226248276560734076572889632)) fun v11 =>
 onA (aBslice 1 1 [(.str 0 0)] [(0, .c v11)] E0) H n fun v12 H n =>
 call 16 [v12] H n fun v13 H n =>
 onV (extV v13 0) fun v14 =>
 onV (extV v13 1) fun v15 =>
 onV (notV v15) fun v16 =>
 onTst v16 true (k (.bool false) H n) (onV (iaddrV 6 v14 (.int .i64 (.ofNat 0) 0)) fun v17 =>
 onV (ldnV 6 v17 G H) fun v18 =>
 onA (aAlloc 6 [[(.int .i64 (.ofNat 0) 0), (.int .i64 (.ofNat 0) 0), (.str 0 0), (.str 0 0), .nils, .nils]] E0) H n fun v19 H n =>
 onA (aAlloc 3 [[(.int .i64 (.ofNat 0) 0), (.int .i64 (.ofNat 0) 0), (.int .i64 (.ofNat 0) 0)]] E0) H n fun v20 H n =>
 call 18 [v14] H n fun v21 H n =>
 onV (ldnV 6 v17 G H) fun v => onB (vsame v v18) <|
 call 17 [v21, v18] H n fun v22 H n =>
 onV (extV v22 0) fun v23 =>
 onV (extV v22 1) fun v24 =>
 stV 6 v19 v23 H n fun v25 H n =>
 stV 3 v20 v24 H n fun v26 H n =>
 onV (B2.ev .geq (.int .i64 (.ofNat x1) 0) v3) fun v27 =>
 onTst v27 true (onV (paddV 0 v20) fun v28 =>
 onV (ld1V v28 G H) fun v29 =>
 onV (eqV (.one .int) false v29 (.int .i64 (.ofNat 23) 0)) fun v30 =>
 k v30 H n) (onTst (.bool b2) true (onV (paddV 0 v20) fun v31 =>
 onV (ld1V v31 G H) fun v32 =>
 onV (eqV (.one .int) false v32 (.int .i64 (.ofNat 6) 0)) fun v33 =>
 k v33 H n) (onV (B2.ev .add (.str 37 16153537679988168044257609895106216315768595427032156774407739971038279685766217593875555) a7_j9) fun v34 =>
 onV (B2.ev .add v34 (.str 16 166322190827485632862543393177250856224)) fun v35 =>
 onA (aBslice 1 1 [(.str 0 0)] [(0, .c v35)] E0) H n fun v36 H n =>
 call 16 [v36] H n fun v37 H n =>
 onV (extV v37 0) fun v38 =>
 onV (extV v37 1) fun v39 =>
 onV (notV v39) fun v40 =>
 onTst v40 true (k (.bool false) H n) (onV (iaddrV 6 v38 (.int .i64 (.ofNat 0) 0)) fun v41 =>
 onV (ldnV 6 v41 G H) fun v42 =>
 onA (aAlloc 6 [[(.int .i64 (.ofNat 0) 0), (.int .i64 (.ofNat 0) 0), (.str 0 0), (.str 0 0), .nils, .nils]] E0) H n fun v43 H n =>
 onA (aAlloc 3 [[(.int .i64 (.ofNat 0) 0), (.int .i64 (.ofNat 0) 0), (.int .i64 (.ofNat 0) 0)]] E0) H n fun v44 H n =>
 call 18 [v38] H n fun v45 H n =>
 onV (ldnV 6 v41 G H) fun v => onB (vsame v v42) <|
 call 17 [v45, v42] H n fun v46 H n =>
 onV (extV v46 0) fun v47 =>
 onV (extV v46 1) fun v48 =>
 stV 6 v43 v47 H n fun v49 H n =>
 stV 3 v44 v48 H n fun v50 H n =>
 onV (paddV 0 v20) fun v51 =>
 onV (ld1V v51 G H) fun v52 =>
 onV (eqV (.one .int) false v52 (.int .i64 (.ofNat 0) 0)) fun v53 =>
 onG v53 true (paddV 0 v44) fun v54 =>
 onG v53 true (ld1V v54 G H) fun v55 =>
 onG v53 true (eqV (.one .int) false v55 (.int .i64 (.ofNat 23) 0)) fun v56 =>
 onV (pickV v53 v56 (.bool false)) fun v57 =>
 k v57 H n))))
noncomputable def t_f4_l58 (lp : LpT) (G : Roms) (call : CallT) (k : KV) (b2 : Bool) (v3 : V) (x0 : Nat) (x1 : Nat) (z0 : Int) (z1 : Int) (ih58 : (V × V × Heap × Nat) → Prop) (a7_l58 a10_l58 : V) (H : Heap) (n : Nat) : Prop :=
 onV (B2.ev .lss a10_l58 v3) fun v59 =>
 onTst v59 true (onV (B2.ev .add a7_l58 (.str 2 8317)) fun v60 =>
 onV (B2.ev .add a10_l58 (.int .i64 (.ofNat 1) 0)) fun v61 =>
 ih58 (v60, v61, H, n)) (t_f4_j9 lp G call k b2 v3 x0 x1 z0 z1 a7_l58 H n)
noncomputable def t_f4_j5 (lp : LpT) (G : Roms) (call : CallT) (k : KV) (a7_j4 : V) (b2 : Bool) (v3 : V) (x0 : Nat) (x1 : Nat) (z0 : Int) (z1 : Int) (a9_j5 : V) (H : Heap) (n : Nat) : Prop :=
 onV (B2.ev .add a7_j4 (.str 6 35684440699504)) fun v6 =>
 onV (B2.ev .add v6 a9_j5) fun v7 =>
 onV (B2.ev .add v7 (.str 2 8251)) fun v8 =>
 lp (V × V × Heap × Nat) (fun ih s => t_f4_l58 lp G call k b2 v3 x0 x1 z0 z1 ih s.1 s.2.1 s.2.2.1 s.2.2.2) (v8, (.int .i64 (.ofNat 0) 0), H, n)
noncomputable def t_f4_j4 (lp : LpT) (G : Roms) (call : CallT) (k : KV) (b2 : Bool) (v3 : V) (x0 : Nat) (x1 : Nat) (z0 : Int) (z1 : Int) (a7_j4 : V) (H : Heap) (n : Nat) : Prop :=
 onTst (.bool b2) true (t_f4_j5 lp G call k a7_j4 b2 v3 x0 x1 z0 z1 (.str 16 66628793086016972904926697110865197937) H n) (t_f4_j5 lp G call k a7_j4 b2 v3 x0 x1 z0 z1 (.str 1 113) H n)
noncomputable def t_f4_j64 (lp : LpT) (G : Roms) (call : CallT) (k : KV) (ih62 : (V × V × Heap × Nat) → Prop) (a8_l62 : V) (b2 : Bool) (v3 : V) (x0 : Nat) (x1 : Nat) (z0 : Int) (z1 : Int) (a7_j64 : V) (H : Heap) (n : Nat) : Prop :=
 onV (B2.ev .add a7_j64 (.str 10 153387011374011218159209)) fun v65 =>
 onV (B2.ev .add a8_l62 (.int .i64 (.ofNat 1) 0)) fun v66 =>
 ih62 (v65, v66, H, n)
noncomputable def t_f4_l62 (lp : LpT) (G : Roms) (call : CallT) (k : KV) (b2 : Bool) (v3 : V) (x0 : Nat) (x1 : Nat) (z0 : Int) (z1 : Int) (ih62 : (V × V × Heap × Nat) → Prop) (a7_l62 a8_l62 : V) (H : Heap) (n : Nat) : Prop :=
 onV (B2.ev .lss a8_l62 v3) fun v63 =>
 onTst v63 true (onV (eqV (.one .int) false a8_l62 (.int .i64 (.ofNat x1) 0)) fun v67 =>
 onTst v67 true (onV (B2.ev .add a7_l62 (.str 15 167354053797111123448213094997976428)) fun v68 =>
 t_f4_j64 lp G call k ih62 a8_l62 b2 v3 x0 x1 z0 z1 v68 H n) (t_f4_j64 lp G call k ih62 a8_l62 b2 v3 x0 x1 z0 z1 a7_l62 H n)) (t_f4_j4 lp G call k b2 v3 x0 x1 z0 z1 a7_l62 H n)
noncomputable def t_f4 (lp : LpT) (G : Roms) (call : CallT) (z0 : Int) (z1 : Int) (b2 : Bool) (x0 : Nat) (x1 : Nat) (H : Heap) (n : Nat) (k : KV) : Prop :=
 call 15 [] H n fun v1 H n =>
 onV (notV v1) fun v2 =>
 onTst v2 true (k (.bool false) H n) (onV (B2.ev .add (.int .i64 (.ofNat 1) 0) (.int .i64 (.ofNat x0) 0)) fun v3 =>
 lp (V × V × Heap × Nat) (fun ih s => t_f4_l62 lp G call k b2 v3 x0 x1 z0 z1 ih s.1 s.2.1 s.2.2.1 s.2.2.2) ((.str 0 0), (.int .i64 (.ofNat 0) 0), H, n))
theorem ti_f4 {lp : LpT} (hL : LpOk lp) {G : Roms} {call callE : CallT} (z0 : Int) (z1 : Int) (b2 : Bool) (x0 : Nat) (x1 : Nat) (ex0 : uand z0 7 = x0) (ex1 : uand z1 7 = x1) (hle : CallLe call callE) (hd : CallDet callE) {H : Heap} {n : Nat} {k : KV} (h : t_f4 lp G call z0 z1 b2 x0 x1 H n k) : exFunL lf G callE [(.int .i64 z0 0), (.int .i64 z1 0), (.bool b2)] H n k := by
  delta t_f4 at h
  refine f_intro rfl ?_
  refine c_seq ?_
  refine c_ops ?_
  refine ov_t (a := (.bool false)) (k_mv rfl) ?_
  refine o0 ?_
  refine c_seq ?_
  refine c_seq ?_
  refine c_ops ?_
  refine oe_s hle hd h (k_call xs0) fun v1 H n h => ?_
  refine on_t h (k_not rfl) fun v2 h => ?_
  refine o0 ?_
  refine c_cond h (xr sm) (fun h => ?_) (fun h => ?_)
  · refine c_seq ?_
    refine c_ops ?_
    refine ov_t (a := (.bool false)) (k_mv rfl) ?_
    refine o0 ?_
    refine c_ret ?_
    exact fin_no (rsT sm rs0) h
  · refine c_skip ?_
    refine c_seq ?_
    refine c_ops ?_
    refine ov_s (a := (.int .i64 (.ofNat x0) 0)) (km3 (by decide) ex0 (xr (ne rfl (ne rfl rfl)))) ?_
    refine on_s h (k_bin rfl rfl) fun v3 h => ?_
    refine ov_t (a := v3) (k_mv rfl) ?_
    refine o0 ?_
    refine c_seq ?_
    refine c_ops ?_
    refine ov_s (a := (.int .i64 (.ofNat x1) 0)) (km3 (by decide) ex1 (xr (ne rfl (ne rfl (ne rfl rfl))))) ?_
    refine ov_t (a := (.int .i64 (.ofNat x1) 0)) (k_mv rfl) ?_
    refine o0 ?_
    refine c_seq ?_
    refine c_ops ?_
    refine ov_t (a := (.str 0 0)) (k_mv rfl) ?_
    refine o0 ?_
    refine c_seqj (fun R H n => ∃ a7_j4, rg R q7 = a7_j4 ∧ rg R q0 = v3 ∧ rg R q1 = (.int .i64 (.ofNat x1) 0) ∧ rg R q2 = (.bool b2) ∧ t_f4_j4 lp G call k b2 v3 x0 x1 z0 z1 a7_j4 H n) ?_ fun j4 => ?_
    · rintro R H n ⟨a7_j4, f7, f0, f1, f2, h⟩
      delta t_f4_j4 at h
      refine c_seq ?_
      refine c_ops ?_
      refine ov_t (a := (.str 1 113)) (k_mv rfl) ?_
      refine o0 ?_
      refine c_seqj (fun R H n => ∃ a9_j5, rg R q9 = a9_j5 ∧ rg R q0 = v3 ∧ rg R q1 = (.int .i64 (.ofNat x1) 0) ∧ rg R q2 = (.bool b2) ∧ rg R q7 = a7_j4 ∧ t_f4_j5 lp G call k a7_j4 b2 v3 x0 x1 z0 z1 a9_j5 H n) ?_ fun j5 => ?_
      · rintro R H n ⟨a9_j5, f9, f0, f1, f2, f7, h⟩
        delta t_f4_j5 at h
        refine c_seq ?_
        refine c_ops ?_
        refine on_s h (k_bin (xr f7) rfl) fun v6 h => ?_
        refine on_s h (k_bin rfl (xr f9)) fun v7 h => ?_
        refine on_s h (k_bin rfl rfl) fun v8 h => ?_
        refine ov_t (a := v8) (k_mv rfl) ?_
        refine o0 ?_
        refine c_seqj (fun R H n => ∃ a7_j9, rg R q7 = a7_j9 ∧ rg R q0 = v3 ∧ rg R q1 = (.int .i64 (.ofNat x1) 0) ∧ rg R q2 = (.bool b2) ∧ t_f4_j9 lp G call k b2 v3 x0 x1 z0 z1 a7_j9 H n) ?_ fun j9 => ?_
        · rintro R H n ⟨a7_j9, f7, f0, f1, f2, h⟩
          delta t_f4_j9 at h
          refine c_seq ?_
          refine c_ops ?_
          refine on_s h (k_bin rfl (xr f7)) fun v10 h => ?_
          refine on_s h (k_bin rfl rfl) fun v11 h => ?_
          refine oa_s h (k_bslice (pbS rfl pb0)) fun v12 H n h => ?_
          refine oe_s hle hd h (k_call (xsS rfl xs0)) fun v13 H n h => ?_
          refine on_s h (k_ext rfl) fun v14 h => ?_
          refine on_s h (k_ext rfl) fun v15 h => ?_
          refine ov_t (a := v14) (k_mv rfl) ?_
          refine ov_t (a := v15) (k_mv rfl) ?_
          refine o0 ?_
          refine c_seq ?_
          refine c_seq ?_
          refine c_ops ?_
          refine on_t h (k_not (xr sm)) fun v16 h => ?_
          refine o0 ?_
          refine c_cond h (xr sm) (fun h => ?_) (fun h => ?_)
          · refine c_seq ?_
            refine c_ops ?_
            refine ov_t (a := (.bool false)) (k_mv rfl) ?_
            refine o0 ?_
            refine c_ret ?_
            exact fin_no (rsT sm rs0) h
          · refine c_skip ?_
            refine c_seq ?_
            refine c_reg ?_
            refine iv_t (a := v14) (k_mv (xr (ne rfl (ne rfl sm)))) ?_
            refine iv_t (a := v14) (k_mv (xr (ne rfl (ne rfl (ne rfl sm))))) ?_
            refine in_t h (k_iaddr (xr sm) rfl) fun v17 h => ?_
            refine in_t h (k_ldn (xr sm)) fun v18 h => ?_
            refine ia_t h k_alloc fun v19 H n h => ?_
            refine ia_t h k_alloc fun v20 H n h => ?_
            refine ie_t hle hd h (k_call (xsS (xr (ne rfl (ne rfl (ne rfl (ne rfl (ne rfl sm)))))) xs0)) fun v21 H n h => ?_
            refine ire h (ne rfl (ne rfl (ne rfl sm))) (k_ldn (xr (ne rfl (ne rfl (ne rfl (ne rfl sm)))))) fun h => ?_
            refine ie_t hle hd h (k_call (xsS (xr sm) (xsS (xr (ne rfl (ne rfl (ne rfl sm)))) xs0))) fun v22 H n h => ?_
            refine iv_t (a := v22) (k_mv (xr sm)) ?_
            refine in_t h (k_ext (xr sm)) fun v23 h => ?_
            refine in_t h (k_ext (xr (ne rfl sm))) fun v24 h => ?_
            refine ie_x hle hd h (k_st (xr (ne rfl (ne rfl (ne rfl (ne rfl (ne rfl (ne rfl sm))))))) (xr (ne rfl sm))) fun v25 H n h => ?_
            refine ie_x hle hd h (k_st (xr (ne rfl (ne rfl (ne rfl (ne rfl (ne rfl sm)))))) (xr sm)) fun v26 H n h => ?_
            refine i0 ?_
            refine c_seq ?_
            refine c_block ?_
            refine c_seq ?_
            refine c_ops ?_
            refine on_s h (k_bin (xr (ne rfl (ne rfl (ne rfl (ne rfl (ne rfl (ne rfl (ne rfl (ne rfl (ne rfl (ne rfl (ne rfl (ne rfl (ne rfl (ne rfl f1))))))))))))))) (xr (ne rfl (ne rfl (ne rfl (ne rfl (ne rfl (ne rfl (ne rfl (ne rfl (ne rfl (ne rfl (ne rfl (ne rfl (ne rfl (ne rfl f0)))))))))))))))) fun v27 h => ?_
            refine ov_t (a := v27) (k_mv rfl) ?_
            refine o0 ?_
            refine c_cond h (xr sm) (fun h => ?_) (fun h => ?_)
            · refine c_seq ?_
              refine c_ops ?_
              refine on_s h (k_faddr (xr (ne rfl (ne rfl (ne rfl (ne rfl (ne rfl (ne rfl sm)))))))) fun v28 h => ?_
              refine on_s h (k_ld1 rfl) fun v29 h => ?_
              refine on_s h (k_eq rfl rfl) fun v30 h => ?_
              refine ov_t (a := v30) (k_mv rfl) ?_
              refine o0 ?_
              refine c_ret ?_
              exact fin_no (rsT sm rs0) h
            · refine c_seq ?_
              refine c_ops ?_
              refine ov_t (a := (.bool b2)) (k_mv (xr (ne rfl (ne rfl (ne rfl (ne rfl (ne rfl (ne rfl (ne rfl (ne rfl (ne rfl (ne rfl (ne rfl (ne rfl (ne rfl (ne rfl (ne rfl f2))))))))))))))))) ?_
              refine o0 ?_
              refine c_cond h (xr sm) (fun h => ?_) (fun h => ?_)
              · refine c_seq ?_
                refine c_ops ?_
                refine on_s h (k_faddr (xr (ne rfl (ne rfl (ne rfl (ne rfl (ne rfl (ne rfl (ne rfl sm))))))))) fun v31 h => ?_
                refine on_s h (k_ld1 rfl) fun v32 h => ?_
                refine on_s h (k_eq rfl rfl) fun v33 h => ?_
                refine ov_t (a := v33) (k_mv rfl) ?_
                refine o0 ?_
                refine c_ret ?_
                exact fin_no (rsT sm rs0) h
              · refine c_skip ?_
                refine c_seq ?_
                refine c_ops ?_
                refine on_s h (k_bin rfl (xr (ne rfl (ne rfl (ne rfl (ne rfl (ne rfl (ne rfl (ne rfl (ne rfl (ne rfl (ne rfl (ne rfl (ne rfl (ne rfl (ne rfl (ne rfl (ne rfl f7)))))))))))))))))) fun v34 h => ?_
                refine on_s h (k_bin rfl rfl) fun v35 h => ?_
                refine oa_s h (k_bslice (pbS rfl pb0)) fun v36 H n h => ?_
                refine oe_s hle hd h (k_call (xsS rfl xs0)) fun v37 H n h => ?_
                refine on_s h (k_ext rfl) fun v38 h => ?_
                refine on_s h (k_ext rfl) fun v39 h => ?_
                refine ov_t (a := v38) (k_mv rfl) ?_
                refine ov_t (a := v39) (k_mv rfl) ?_
                refine o0 ?_
                refine c_seq ?_
                refine c_seq ?_
                refine c_ops ?_
                refine on_t h (k_not (xr sm)) fun v40 h => ?_
                refine o0 ?_
                refine c_cond h (xr sm) (fun h => ?_) (fun h => ?_)
                · refine c_seq ?_
                  refine c_ops ?_
                  refine ov_t (a := (.bool false)) (k_mv rfl) ?_
                  refine o0 ?_
                  refine c_ret ?_
                  exact fin_no (rsT sm rs0) h
                · refine c_skip ?_
                  refine c_seq ?_
                  refine c_reg ?_
                  refine iv_t (a := v38) (k_mv (xr (ne rfl (ne rfl sm)))) ?_
                  refine iv_t (a := v38) (k_mv (xr (ne rfl (ne rfl (ne rfl sm))))) ?_
                  refine in_t h (k_iaddr (xr sm) rfl) fun v41 h => ?_
                  refine in_t h (k_ldn (xr sm)) fun v42 h => ?_
                  refine ia_t h k_alloc fun v43 H n h => ?_
                  refine ia_t h k_alloc fun v44 H n h => ?_
                  refine ie_t hle hd h (k_call (xsS (xr (ne rfl (ne rfl (ne rfl (ne rfl (ne rfl sm)))))) xs0)) fun v45 H n h => ?_
                  refine ire h (ne rfl (ne rfl (ne rfl sm))) (k_ldn (xr (ne rfl (ne rfl (ne rfl (ne rfl sm)))))) fun h => ?_
                  refine ie_t hle hd h (k_call (xsS (xr sm) (xsS (xr (ne rfl (ne rfl (ne rfl sm)))) xs0))) fun v46 H n h => ?_
                  refine iv_t (a := v46) (k_mv (xr sm)) ?_
                  refine in_t h (k_ext (xr sm)) fun v47 h => ?_
                  refine in_t h (k_ext (xr (ne rfl sm))) fun v48 h => ?_
                  refine ie_x hle hd h (k_st (xr (ne rfl (ne rfl (ne rfl (ne rfl (ne rfl (ne rfl sm))))))) (xr (ne rfl sm))) fun v49 H n h => ?_
                  refine ie_x hle hd h (k_st (xr (ne rfl (ne rfl (ne rfl (ne rfl (ne rfl sm)))))) (xr sm)) fun v50 H n h => ?_
                  refine i0 ?_
                  refine c_seq ?_
                  refine c_ops ?_
                  refine on_s h (k_faddr (xr (ne rfl (ne rfl (ne rfl (ne rfl (ne rfl (ne rfl (ne rfl (ne rfl (ne rfl (ne rfl (ne rfl (ne rfl (ne rfl (ne rfl (ne rfl (ne rfl (ne rfl (ne rfl (ne rfl (ne rfl (ne rfl sm))))))))))))))))))))))) fun v51 h => ?_
                  refine on_s h (k_ld1 rfl) fun v52 h => ?_
                  refine on_s h (k_eq rfl rfl) fun v53 h => ?_
                  refine ogn_s h rfl (k_faddr (xr (ne rfl (ne rfl (ne rfl (ne rfl (ne rfl sm))))))) fun v54 h => ?_
                  refine ogn_s h rfl (k_ld1 rfl) fun v55 h => ?_
                  refine ogn_s h rfl (k_eq rfl rfl) fun v56 h => ?_
                  refine on_s h (k_pick rfl rfl rfl) fun v57 h => ?_
                  refine ov_t (a := v57) (k_mv rfl) ?_
                  refine o0 ?_
                  refine c_ret ?_
                  exact fin_no (rsT sm rs0) h
        · refine c_seq ?_
          refine c_ops ?_
          refine ov_t (a := (.int .i64 (.ofNat 0) 0)) (k_mv rfl) ?_
          refine o0 ?_
          refine c_block ?_
          refine c_loop hL (fun s R H n => rg R q7 = s.1 ∧ rg R q10 = s.2.1 ∧ rg R q0 = v3 ∧ rg R q1 = (.int .i64 (.ofNat x1) 0) ∧ rg R q2 = (.bool b2) ∧ H = s.2.2.1 ∧ n = s.2.2.2) h ⟨(ne rfl sm), sm, (ne rfl (ne rfl f0)), (ne rfl (ne rfl f1)), (ne rfl (ne rfl f2)), rfl, rfl⟩ ?_
          rintro ih58 I58 hI58 ⟨a7_l58, a10_l58, H, n⟩ R H0 n0 ⟨f7, f10, f0, f1, f2, eH, eN⟩ h
          replace h : t_f4_l58 lp G call k b2 v3 x0 x1 z0 z1 ih58 a7_l58 a10_l58 H n := h
          obtain rfl : H0 = H := eH
          obtain rfl : n0 = n := eN
          delta t_f4_l58 at h
          refine c_seq ?_
          refine c_seq ?_
          refine c_ops ?_
          refine on_t h (k_bin (xr f10) (xr f0)) fun v59 h => ?_
          refine o0 ?_
          refine c_cond h (xr sm) (fun h => ?_) (fun h => ?_)
          · refine c_skip ?_
            refine c_seq ?_
            refine c_block ?_
            refine c_ops ?_
            refine on_s h (k_bin (xr (ne rfl f7)) rfl) fun v60 h => ?_
            refine ov_t (a := v60) (k_mv rfl) ?_
            refine o0 ?_
            refine c_ops ?_
            refine on_s h (k_bin (xr (ne rfl (ne rfl f10))) rfl) fun v61 h => ?_
            refine ov_t (a := v61) (k_mv rfl) ?_
            refine o0 ?_
            exact hI58 (v60, v61, H0, n0) _ _ _ ⟨(ne rfl sm), sm, (ne rfl (ne rfl (ne rfl f0))), (ne rfl (ne rfl (ne rfl f1))), (ne rfl (ne rfl (ne rfl f2))), rfl, rfl⟩ h
          · refine c_exit ?_
            refine bx_same ?_
            exact j9 _ _ _ ⟨_, (ne rfl f7), (ne rfl f0), (ne rfl f1), (ne rfl f2), h⟩
      · refine c_seq ?_
        refine c_ops ?_
        refine ov_t (a := (.bool b2)) (k_mv (xr (ne rfl f2))) ?_
        refine o0 ?_
        refine c_cond h (xr sm) (fun h => ?_) (fun h => ?_)
        · refine c_ops ?_
          refine ov_t (a := (.str 16 66628793086016972904926697110865197937)) (k_mv rfl) ?_
          refine o0 ?_
          exact j5 _ _ _ ⟨_, sm, (ne rfl (ne rfl (ne rfl f0))), (ne rfl (ne rfl (ne rfl f1))), (ne rfl (ne rfl (ne rfl f2))), (ne rfl (ne rfl (ne rfl f7))), h⟩
        · refine c_skip ?_
          exact j5 _ _ _ ⟨_, (ne rfl sm), (ne rfl (ne rfl f0)), (ne rfl (ne rfl f1)), (ne rfl (ne rfl f2)), (ne rfl (ne rfl f7)), h⟩
    · refine c_seq ?_
      refine c_ops ?_
      refine ov_t (a := (.int .i64 (.ofNat 0) 0)) (k_mv rfl) ?_
      refine o0 ?_
      refine c_block ?_
      refine c_loop hL (fun s R H n => rg R q7 = s.1 ∧ rg R q8 = s.2.1 ∧ rg R q0 = v3 ∧ rg R q1 = (.int .i64 (.ofNat x1) 0) ∧ rg R q2 = (.bool b2) ∧ H = s.2.2.1 ∧ n = s.2.2.2) h ⟨(ne rfl sm), sm, (ne rfl (ne rfl (ne rfl sm))), (ne rfl (ne rfl sm)), (ne rfl (ne rfl (ne rfl (ne rfl (ne rfl (ne rfl rfl)))))), rfl, rfl⟩ ?_
      rintro ih62 I62 hI62 ⟨a7_l62, a8_l62, H, n⟩ R H0 n0 ⟨f7, f8, f0, f1, f2, eH, eN⟩ h
      replace h : t_f4_l62 lp G call k b2 v3 x0 x1 z0 z1 ih62 a7_l62 a8_l62 H n := h
      obtain rfl : H0 = H := eH
      obtain rfl : n0 = n := eN
      delta t_f4_l62 at h
      refine c_seq ?_
      refine c_seq ?_
      refine c_ops ?_
      refine on_t h (k_bin (xr f8) (xr f0)) fun v63 h => ?_
      refine o0 ?_
      refine c_cond h (xr sm) (fun h => ?_) (fun h => ?_)
      · refine c_skip ?_
        refine c_seq ?_
        refine c_block ?_
        refine c_seqj (fun R H n => ∃ a7_j64, rg R q7 = a7_j64 ∧ rg R q0 = v3 ∧ rg R q1 = (.int .i64 (.ofNat x1) 0) ∧ rg R q2 = (.bool b2) ∧ rg R q8 = a8_l62 ∧ t_f4_j64 lp G call k ih62 a8_l62 b2 v3 x0 x1 z0 z1 a7_j64 H n) ?_ fun j64 => ?_
        · rintro R H n ⟨a7_j64, f7, f0, f1, f2, f8, h⟩
          delta t_f4_j64 at h
          refine c_ops ?_
          refine on_s h (k_bin (xr f7) rfl) fun v65 h => ?_
          refine ov_t (a := v65) (k_mv rfl) ?_
          refine o0 ?_
          refine c_ops ?_
          refine on_s h (k_bin (xr (ne rfl f8)) rfl) fun v66 h => ?_
          refine ov_t (a := v66) (k_mv rfl) ?_
          refine o0 ?_
          exact hI62 (v65, v66, H, n) _ _ _ ⟨(ne rfl sm), sm, (ne rfl (ne rfl f0)), (ne rfl (ne rfl f1)), (ne rfl (ne rfl f2)), rfl, rfl⟩ h
        · refine c_seq ?_
          refine c_ops ?_
          refine on_t h (k_eq (xr (ne rfl f8)) (xr (ne rfl f1))) fun v67 h => ?_
          refine o0 ?_
          refine c_cond h (xr sm) (fun h => ?_) (fun h => ?_)
          · refine c_ops ?_
            refine on_s h (k_bin (xr (ne rfl (ne rfl f7))) rfl) fun v68 h => ?_
            refine ov_t (a := v68) (k_mv rfl) ?_
            refine o0 ?_
            exact j64 _ _ _ ⟨_, sm, (ne rfl (ne rfl (ne rfl f0))), (ne rfl (ne rfl (ne rfl f1))), (ne rfl (ne rfl (ne rfl f2))), (ne rfl (ne rfl (ne rfl f8))), h⟩
          · refine c_skip ?_
            exact j64 _ _ _ ⟨_, (ne rfl (ne rfl f7)), (ne rfl (ne rfl f0)), (ne rfl (ne rfl f1)), (ne rfl (ne rfl f2)), (ne rfl (ne rfl f8)), h⟩
      · refine c_exit ?_
        refine bx_same ?_
        exact j4 _ _ _ ⟨_, (ne rfl f7), (ne rfl f0), (ne rfl f1), (ne rfl f2), h⟩
end Go.R3.LB

