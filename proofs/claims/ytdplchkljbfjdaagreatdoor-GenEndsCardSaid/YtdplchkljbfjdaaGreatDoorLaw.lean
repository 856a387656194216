/- Part of a proof: texts GA of the engine and what is proved with it; nothing is assumed. -/
import Derived.Test.YtdplchkljbfjdaaGreatDoorPlainR
import Derived.Test.YtdplchkljbfjdaaGreatDoorCode
import Derived.Test.YtdplchkljbfjdaaGreatDoorEngF
set_option linter.unusedVariables false
set_option linter.unusedSimpArgs false
/- The law, with what it reads of its numbers. -/
namespace Go.R5.GA
open Go.Eng Go.R5
set_option maxRecDepth 100000
def r0 : X := .r q0
def r1 : X := .r q1
def r5 : X := .r q5
def r6 : X := .r q6
def r7 : X := .r q7
def r8 : X := .r q8
def r9 : X := .r q9
def r10 : X := .r q10
def r11 : X := .r q11
def r12 : X := .r q12
def r13 : X := .r q13
def r14 : X := .r q14
def r15 : X := .r q15
def r17 : X := .r q17
def r26 : X := .r q26
def r44 : X := .r q44
def r52 : X := .r q52
def r87 : X := .r q87
def r95 : X := .r q95
def r96 : X := .r q96
def r98 : X := .r q98
def r99 : X := .r q99
def r100 : X := .r q100
def r101 : X := .r q101
def r102 : X := .r q102
def r103 : X := .r q103
def r104 : X := .r q104
def r105 : X := .r q105
def r106 : X := .r q106
def r107 : X := .r q107
def r108 : X := .r q108
def r109 : X := .r q109
def r110 : X := .r q110
def r111 : X := .r q111
def r112 : X := .r q112
def r113 : X := .r q113
def lf : AF := .mk 2 (.seq (.ops [.mk (.to q4) .no (.n (.mv (.c (.bool false))))])
 (.seq (.seq (.ops [.mk .ps .no (.e (.call 9 [])),
    .mk (.to q17) .no (.n (.not (.s 0)))])
   (.cond r17 (.seq (.ops [.mk (.to q4) .no (.n (.mv (.c (.bool false))))])
     .ret)
    .skip))
  (.seq (.ops [.mk .ps .no (.a (.bslice 1 4 [(.str 0 0)] [(0, (.c (.str 3 7630441))), (1, (.c (.str 4 1819242338))), (2, (.c (.str 1 65))), (3, (.c (.str 5 400966315625)))])),
    .mk .ps .no (.n (.bin .and r0 (.c (.int .i64 (.ofNat 3) 0)))),
    .mk .ps .no (.n (.iaddr 1 (.s 1) (.s 0))),
    .mk .ps .no (.n (.ld1 (.s 0))),
    .mk (.to q5) .no (.n (.mv (.s 0)))])
   (.seq (.ops [.mk (.to q6) .no (.n (.mv (.c (.str 0 0))))])
    (.seq (.seq (.ops [.mk (.to q7) .no (.n (.mv (.c (.int .i64 (.ofNat 0) 0))))])
      (.block 0 (.loop (.seq (.seq (.ops [.mk .ps .no (.n (.bin .and r1 (.c (.int .i64 (.ofNat 7) 0)))),
           .mk (.to q26) .no (.n (.bin .lss r7 (.s 0)))])
          (.cond r26 .skip
           (.exit 0)))
         (.seq (.block 1 (.ops [.mk .ps .no (.n (.bin .add r6 (.c (.str 9 594561036365242921584)))),
            .mk (.to q6) .no (.n (.mv (.s 0)))]))
          (.ops [.mk .ps .no (.n (.bin .add r7 (.c (.int .i64 (.ofNat 1) 0)))),
           .mk (.to q7) .no (.n (.mv (.s 0)))]))))))
     (.seq (.ops [.mk .ps .no (.n (.bin .add (.c (.str 24 794257496744948389136400920230869969796683962260482255971)) r5)),
       .mk .ps .no (.n (.bin .add (.s 0) (.c (.str 7 9142577314426144)))),
       .mk .ps .no (.n (.bin .add (.s 0) r6)),
       .mk .ps .no (.n (.bin .add (.s 0) (.c (.str 4 2099281184)))),
       .mk .ps .no (.a (.bslice 1 1 [(.str 0 0)] [(0, (.s 0))])),
       .mk .ps .no (.e (.call 10 [(.s 0)])),
       .mk .ps .no (.n (.ext (.s 0) 0)),
       .mk .ps .no (.n (.ext (.s 1) 1)),
       .mk .ps .no (.n (.ext (.s 2) 2)),
       .mk (.to q8) .no (.n (.mv (.s 2))),
       .mk (.to q9) .no (.n (.mv (.s 1))),
       .mk (.to q10) .no (.n (.mv (.s 0)))])
      (.seq (.seq (.ops [.mk (.to q44) .no (.n (.not r10))])
        (.cond r44 (.seq (.ops [.mk (.to q4) .no (.n (.mv (.c (.bool false))))])
          .ret)
         .skip))
       (.seq (.ops [.mk .ps .no (.e (.call 11 [r9, r8])),
         .mk .ps .no (.n (.ext (.s 0) 0)),
         .mk .ps .no (.n (.ext (.s 1) 1)),
         .mk (.to q11) .no (.n (.mv (.s 1))),
         .mk (.to q12) .no (.n (.mv (.s 0)))])
        (.seq (.seq (.ops [.mk (.to q52) .no (.n (.not r12))])
          (.cond r52 (.seq (.ops [.mk (.to q4) .no (.n (.mv (.c (.bool false))))])
            .ret)
           .skip))
         (.seq (.ops [.mk .ps .no (.n (.iaddr 10 r11 (.c (.int .i64 (.ofNat 0) 0)))),
           .mk .ps .no (.n (.faddr 9 (.s 0))),
           .mk .ps .no (.n (.ld1 (.s 0))),
           .mk .ps .no (.n (.iaddr 3 (.s 0) (.c (.int .i64 (.ofNat 0) 0)))),
           .mk .ps .no (.n (.ldn 3 (.s 0))),
           .mk (.to q13) .no (.a (.alloc 3 [[(.int .i64 (.ofNat 0) 0), (.int .i64 (.ofNat 0) 0), .nils]])),
           .mk .no .no (.e (.st 3 r13 (.s 0)))])
          (.seq (.ops [.mk .ps .no (.n (.faddr 2 r13)),
            .mk .ps .no (.n (.ld1 (.s 0))),
            .mk .ps .no (.n (.lenL (.s 0))),
            .mk (.to q14) .no (.n (.mv (.s 0)))])
           (.seq (.seq (.ops [.mk .ps .no (.n (.bin .and r1 (.c (.int .i64 (.ofNat 7) 0)))),
              .mk .ps .no (.n (.bin .mul (.c (.int .i64 (.ofNat 2) 0)) (.s 0))),
              .mk .ps .no (.n (.bin .add (.s 0) (.c (.int .i64 (.ofNat 2) 0)))),
              .mk .ps .no (.n (.eq (.one .int) true r14 (.s 0))),
              .mk .ps (.on (.s 0) false) (.n (.faddr 2 r13)),
              .mk .ps (.on (.s 1) false) (.n (.ld1 (.s 0))),
              .mk .ps (.on (.s 2) false) (.n (.mv r14)),
              .mk .ps (.on (.s 3) false) (.n (.bin .sub (.s 0) (.c (.int .i64 (.ofNat 1) 0)))),
              .mk .ps (.on (.s 4) false) (.n (.iaddr 2 (.s 2) (.s 0))),
              .mk .ps (.on (.s 5) false) (.n (.faddr 0 (.s 0))),
              .mk .ps (.on (.s 6) false) (.n (.ld1 (.s 0))),
              .mk .ps (.on (.s 7) false) (.n (.eq (.one .int) true (.s 0) (.c (.int .i64 (.ofNat 29) 0)))),
              .mk .ps .no (.n (.pick (.s 8) (.c (.bool true)) (.s 0))),
              .mk .ps (.on (.s 0) false) (.n (.faddr 0 r13)),
              .mk .ps (.on (.s 1) false) (.n (.ld1 (.s 0))),
              .mk .ps (.on (.s 2) false) (.n (.eq (.one .int) true (.s 0) (.c (.int .i64 (.ofNat 0) 0)))),
              .mk .ps .no (.n (.pick (.s 3) (.c (.bool true)) (.s 0))),
              .mk .ps (.on (.s 0) false) (.n (.faddr 1 r13)),
              .mk .ps (.on (.s 1) false) (.n (.ld1 (.s 0))),
              .mk .ps (.on (.s 2) false) (.n (.eq (.one .int) true (.s 0) (.c (.int .i64 (.ofNat 1) 0)))),
              .mk (.to q87) .no (.n (.pick (.s 3) (.c (.bool true)) (.s 0)))])
             (.cond r87 (.seq (.ops [.mk (.to q4) .no (.n (.mv (.c (.bool false))))])
               .ret)
              .skip))
            (.seq (.ops [.mk .ps .no (.n (.faddr 2 r13)),
              .mk .ps .no (.n (.ld1 (.s 0))),
              .mk .ps .no (.n (.bin .sub r14 (.c (.int .i64 (.ofNat 2) 0)))),
              .mk .ps .no (.n (.iaddr 2 (.s 1) (.s 0))),
              .mk .ps .no (.n (.ldn 2 (.s 0))),
              .mk (.to q15) .no (.a (.alloc 2 [[(.int .i64 (.ofNat 0) 0), (.int .i64 (.ofNat 0) 0)]])),
              .mk .no .no (.e (.st 2 r15 (.s 0)))])
             (.seq (.seq (.ops [.mk (.to q95) .no (.n (.bin .and r0 (.c (.int .i64 (.ofNat 3) 0))))])
               (.block 2 (.seq (.ops [.mk .ps .no (.n (.eq (.one .int) false r95 (.c (.int .i64 (.ofNat 0) 0)))),
                  .mk (.to q96) .no (.n (.mv (.s 0)))])
                 (.cond r96 (.seq (.reg [.op (.mk (.to q98) .no (.n (.faddr 0 r15))),
                    .op (.mk (.to q99) .no (.n (.ld1 r98))),
                    .op (.mk (.to q100) .no (.n (.eq (.one .int) false r99 (.c (.int .i64 (.ofNat 1) 0))))),
                    .op (.mk (.to q101) .no (.n (.mv r100))),
                    .op (.mk (.to q102) (.on r101 true) (.n (.mv r11))),
                    .op (.mk (.to q103) (.on r101 true) (.n (.iaddr 10 r102 (.c (.int .i64 (.ofNat 0) 0))))),
                    .op (.mk (.to q104) (.on r101 true) (.n (.faddr 4 r103))),
                    .op (.mk (.to q105) (.on r101 true) (.n (.faddr 0 r104))),
                    .op (.mk (.to q106) (.on r101 true) (.n (.ld1 r105))),
                    .op (.mk (.to q107) (.on r101 true) (.n (.faddr 1 r15))),
                    .op (.mk (.to q108) (.on r101 true) (.n (.ld1 r107))),
                    .op (.mk (.to q109) (.on r101 true) (.n (.iaddr 1 r106 r108))),
                    .op (.mk (.to q110) (.on r101 true) (.n (.ld1 r109))),
                    .op (.mk (.to q111) (.on r101 true) (.n (.eq (.one .int) false r110 (.c (.int .i64 (.ofNat 0) 0))))),
                    .op (.mk (.to q112) .no (.n (.pick r101 r111 (.c (.bool false))))),
                    .op (.mk (.to q4) .no (.n (.mv r112)))])
                   .ret)
                  (.seq (.ops [.mk .ps .no (.n (.eq (.one .int) false r95 (.c (.int .i64 (.ofNat 1) 0)))),
                    .mk (.to q113) .no (.n (.mv (.s 0)))])
                   (.cond r113 (.seq (.ops [.mk .ps .no (.n (.faddr 0 r15)),
                      .mk .ps .no (.n (.ld1 (.s 0))),
                      .mk .ps .no (.n (.eq (.one .int) false (.s 0) (.c (.int .i64 (.ofNat 32) 0)))),
                      .mk .ps (.on (.s 0) true) (.n (.faddr 1 r15)),
                      .mk .ps (.on (.s 1) true) (.n (.ld1 (.s 0))),
                      .mk .ps (.on (.s 2) true) (.n (.eq (.one .int) false (.s 0) (.c (.int .i64 (.ofNat 0) 0)))),
                      .mk .ps .no (.n (.pick (.s 3) (.s 0) (.c (.bool false)))),
                      .mk (.to q4) .no (.n (.mv (.s 0)))])
                     .ret)
                    .skip))))))
              (.seq (.ops [.mk .ps .no (.n (.faddr 0 r15)),
                .mk .ps .no (.n (.ld1 (.s 0))),
                .mk .ps .no (.n (.eq (.one .int) false (.s 0) (.c (.int .i64 (.ofNat 2) 0)))),
                .mk (.to q4) .no (.n (.mv (.s 0)))])
               .ret)))))))))))))))
 [.tmp q4] .no 0
theorem at_law : T.get F 3 = some lf := by kernel_rfl
noncomputable def t_f3_j6 (lp : LpT) (G : Roms) (call : CallT) (k : KV) (v5 : V) (x0 : Nat) (x1 : Nat) (z0 : Int) (z1 : Int) (a6_j6 : V) (H : Heap) (n : Nat) : Prop :=
 onV (B2.ev .add (.str 24 794257496744948389136400920230869969796683962260482255971) v5) fun v7 =>
 onV (B2.ev .add v7 (.str 7 9142577314426144)) fun v8 =>
 onV (B2.ev .add v8 a6_j6) fun v9 =>
 onV (B2.ev .add v9 (.str 4 2099281184)) fun v10 =>
 onA (aBslice 1 1 [(.str 0 0)] [(0, .c v10)] E0) H n fun v11 H n =>
 call 10 [v11] H n fun v12 H n =>
 onV (extV v12 0) fun v13 =>
 onV (extV v12 1) fun v14 =>
 onV (extV v12 2) fun v15 =>
 onV (notV v15) fun v16 =>
 onTst v16 true (k (.bool false) H n) (call 11 [v14, v13] H n fun v17 H n =>
 onV (extV v17 0) fun v18 =>
 onV (extV v17 1) fun v19 =>
 onV (notV v19) fun v20 =>
 onTst v20 true (k (.bool false) H n) (onV (iaddrV 10 v18 (.int .i64 (.ofNat 0) 0)) fun v21 =>
 onV (paddV 9 v21) fun v22 =>
 onV (ld1V v22 G H) fun v23 =>
 onV (iaddrV 3 v23 (.int .i64 (.ofNat 0) 0)) fun v24 =>
 onV (ldnV 3 v24 G H) fun v25 =>
 onA (aAlloc 3 [[(.int .i64 (.ofNat 0) 0), (.int .i64 (.ofNat 0) 0), .nils]] E0) H n fun v26 H n =>
 stV 3 v26 v25 H n fun v27 H n =>
 onV (paddV 2 v26) fun v28 =>
 onV (ld1V v28 G H) fun v29 =>
 onV (lenV v29) fun v30 =>
 onV (B2.ev .mul (.int .i64 (.ofNat 2) 0) (.int .i64 (.ofNat x1) 0)) fun v31 =>
 onV (B2.ev .add v31 (.int .i64 (.ofNat 2) 0)) fun v32 =>
 onV (eqV (.one .int) true v30 v32) fun v33 =>
 onG v33 false (paddV 2 v26) fun v34 =>
 onG v33 false (ld1V v34 G H) fun v35 =>
 onG v33 false (some v30) fun v36 =>
 onG v33 false (B2.ev .sub v36 (.int .i64 (.ofNat 1) 0)) fun v37 =>
 onG v33 false (iaddrV 2 v35 v37) fun v38 =>
 onG v33 false (paddV 0 v38) fun v39 =>
 onG v33 false (ld1V v39 G H) fun v40 =>
 onG v33 false (eqV (.one .int) true v40 (.int .i64 (.ofNat 29) 0)) fun v41 =>
 onV (pickV v33 (.bool true) v41) fun v42 =>
 onG v42 false (paddV 0 v26) fun v43 =>
 onG v42 false (ld1V v43 G H) fun v44 =>
 onG v42 false (eqV (.one .int) true v44 (.int .i64 (.ofNat 0) 0)) fun v45 =>
 onV (pickV v42 (.bool true) v45) fun v46 =>
 onG v46 false (paddV 1 v26) fun v47 =>
 onG v46 false (ld1V v47 G H) fun v48 =>
 onG v46 false (eqV (.one .int) true v48 (.int .i64 (.ofNat 1) 0)) fun v49 =>
 onV (pickV v46 (.bool true) v49) fun v50 =>
 onTst v50 true (k (.bool false) H n) (onV (paddV 2 v26) fun v51 =>
 onV (ld1V v51 G H) fun v52 =>
 onV (B2.ev .sub v30 (.int .i64 (.ofNat 2) 0)) fun v53 =>
 onV (iaddrV 2 v52 v53) fun v54 =>
 onV (ldnV 2 v54 G H) fun v55 =>
 onA (aAlloc 2 [[(.int .i64 (.ofNat 0) 0), (.int .i64 (.ofNat 0) 0)]] E0) H n fun v56 H n =>
 stV 2 v56 v55 H n fun v57 H n =>
 onV (eqV (.one .int) false (.int .i64 (.ofNat x0) 0) (.int .i64 (.ofNat 0) 0)) fun v58 =>
 onTst v58 true (onV (paddV 0 v56) fun v59 =>
 onV (ld1V v59 G H) fun v60 =>
 onV (eqV (.one .int) false v60 (.int .i64 (.ofNat 1) 0)) fun v61 =>
 onG v61 true (some v18) fun v62 =>
 onG v61 true (iaddrV 10 v62 (.int .i64 (.ofNat 0) 0)) fun v63 =>
 onG v61 true (paddV 4 v63) fun v64 =>
 onG v61 true (paddV 0 v64) fun v65 =>
 onG v61 true (ld1V v65 G H) fun v66 =>
 onG v61 true (paddV 1 v56) fun v67 =>
 onG v61 true (ld1V v67 G H) fun v68 =>
 onG v61 true (iaddrV 1 v66 v68) fun v69 =>
 onG v61 true (ld1V v69 G H) fun v70 =>
 onG v61 true (eqV (.one .int) false v70 (.int .i64 (.ofNat 0) 0)) fun v71 =>
 onV (pickV v61 v71 (.bool false)) fun v72 =>
 k v72 H n) (onV (eqV (.one .int) false (.int .i64 (.ofNat x0) 0) (.int .i64 (.ofNat 1) 0)) fun v73 =>
 onTst v73 true (onV (paddV 0 v56) fun v74 =>
 onV (ld1V v74 G H) fun v75 =>
 onV (eqV (.one .int) false v75 (.int .i64 (.ofNat 32) 0)) fun v76 =>
 onG v76 true (paddV 1 v56) fun v77 =>
 onG v76 true (ld1V v77 G H) fun v78 =>
 onG v76 true (eqV (.one .int) false v78 (.int .i64 (.ofNat 0) 0)) fun v79 =>
 onV (pickV v76 v79 (.bool false)) fun v80 =>
 k v80 H n) (onV (paddV 0 v56) fun v81 =>
 onV (ld1V v81 G H) fun v82 =>
 onV (eqV (.one .int) false v82 (.int .i64 (.ofNat 2) 0)) fun v83 =>
 k v83 H n)))))
noncomputable def t_f3_l84 (lp : LpT) (G : Roms) (call : CallT) (k : KV) (v5 : V) (x0 : Nat) (x1 : Nat) (z0 : Int) (z1 : Int) (ih84 : (V × V × Heap × Nat) → Prop) (a6_l84 a7_l84 : V) (H : Heap) (n : Nat) : Prop :=
 onV (B2.ev .lss a7_l84 (.int .i64 (.ofNat x1) 0)) fun v85 =>
 onTst v85 true (onV (B2.ev .add a6_l84 (.str 9 594561036365242921584)) fun v86 =>
 onV (B2.ev .add a7_l84 (.int .i64 (.ofNat 1) 0)) fun v87 =>
 ih84 (v86, v87, H, n)) (t_f3_j6 lp G call k v5 x0 x1 z0 z1 a6_l84 H n)
noncomputable def t_f3 (lp : LpT) (G : Roms) (call : CallT) (z0 : Int) (z1 : Int) (x0 : Nat) (x1 : Nat) (H : Heap) (n : Nat) (k : KV) : Prop :=
 call 9 [] H n fun v1 H n =>
 onV (notV v1) fun v2 =>
 onTst v2 true (k (.bool false) H n) (onA (aBslice 1 4 [(.str 0 0)] [(0, .c (.str 3 7630441)), (1, .c (.str 4 1819242338)), (2, .c (.str 1 65)), (3, .c (.str 5 400966315625))] E0) H n fun v3 H n =>
 onV (iaddrV 1 v3 (.int .i64 (.ofNat x0) 0)) fun v4 =>
 onV (ld1V v4 G H) fun v5 =>
 lp (V × V × Heap × Nat) (fun ih s => t_f3_l84 lp G call k v5 x0 x1 z0 z1 ih s.1 s.2.1 s.2.2.1 s.2.2.2) ((.str 0 0), (.int .i64 (.ofNat 0) 0), H, n))
theorem ti_f3 {lp : LpT} (hL : LpOk lp) {G : Roms} {call callE : CallT} (z0 : Int) (z1 : Int) (x0 : Nat) (x1 : Nat) (ex0 : uand z0 3 = x0) (ex1 : uand z1 7 = x1) (hle : CallLe call callE) (hd : CallDet callE) {H : Heap} {n : Nat} {k : KV} (h : t_f3 lp G call z0 z1 x0 x1 H n k) : exFunL lf G callE [(.int .i64 z0 0), (.int .i64 z1 0)] H n k := by
  delta t_f3 at h
  refine f_intro rfl ?_
  refine c_seq ?_
  refine c_ops ?_
  refine ov_t (a := (.bool false)) (k_mv rfl) ?_
  refine o0 ?_
  refine c_seq ?_
  refine c_seq ?_
  refine c_ops ?_
  refine oe_s hle hd h (k_call xs0) fun v1 H n h => ?_
  refine on_t h (k_not rfl) fun v2 h => ?_
  refine o0 ?_
  refine c_cond h (xr sm) (fun h => ?_) (fun h => ?_)
  · refine c_seq ?_
    refine c_ops ?_
    refine ov_t (a := (.bool false)) (k_mv rfl) ?_
    refine o0 ?_
    refine c_ret ?_
    exact fin_no (rsT sm rs0) h
  · refine c_skip ?_
    refine c_seq ?_
    refine c_ops ?_
    refine oa_s h (k_bslice (pbS rfl (pbS rfl (pbS rfl (pbS rfl pb0))))) fun v3 H n h => ?_
    refine ov_s (a := (.int .i64 (.ofNat x0) 0)) (km3 (by decide) ex0 (xr (ne rfl (ne rfl rfl)))) ?_
    refine on_s h (k_iaddr rfl rfl) fun v4 h => ?_
    refine on_s h (k_ld1 rfl) fun v5 h => ?_
    refine ov_t (a := v5) (k_mv rfl) ?_
    refine o0 ?_
    refine c_seq ?_
    refine c_ops ?_
    refine ov_t (a := (.str 0 0)) (k_mv rfl) ?_
    refine o0 ?_
    refine c_seqj (fun R H n => ∃ a6_j6, rg R q6 = a6_j6 ∧ rg R q0 = (.int .i64 z0 0) ∧ rg R q1 = (.int .i64 z1 0) ∧ rg R q5 = v5 ∧ t_f3_j6 lp G call k v5 x0 x1 z0 z1 a6_j6 H n) ?_ fun j6 => ?_
    · rintro R H n ⟨a6_j6, f6, f0, f1, f5, h⟩
      delta t_f3_j6 at h
      refine c_seq ?_
      refine c_ops ?_
      refine on_s h (k_bin rfl (xr f5)) fun v7 h => ?_
      refine on_s h (k_bin rfl rfl) fun v8 h => ?_
      refine on_s h (k_bin rfl (xr f6)) fun v9 h => ?_
      refine on_s h (k_bin rfl rfl) fun v10 h => ?_
      refine oa_s h (k_bslice (pbS rfl pb0)) fun v11 H n h => ?_
      refine oe_s hle hd h (k_call (xsS rfl xs0)) fun v12 H n h => ?_
      refine on_s h (k_ext rfl) fun v13 h => ?_
      refine on_s h (k_ext rfl) fun v14 h => ?_
      refine on_s h (k_ext rfl) fun v15 h => ?_
      refine ov_t (a := v13) (k_mv rfl) ?_
      refine ov_t (a := v14) (k_mv rfl) ?_
      refine ov_t (a := v15) (k_mv rfl) ?_
      refine o0 ?_
      refine c_seq ?_
      refine c_seq ?_
      refine c_ops ?_
      refine on_t h (k_not (xr sm)) fun v16 h => ?_
      refine o0 ?_
      refine c_cond h (xr sm) (fun h => ?_) (fun h => ?_)
      · refine c_seq ?_
        refine c_ops ?_
        refine ov_t (a := (.bool false)) (k_mv rfl) ?_
        refine o0 ?_
        refine c_ret ?_
        exact fin_no (rsT sm rs0) h
      · refine c_skip ?_
        refine c_seq ?_
        refine c_ops ?_
        refine oe_s hle hd h (k_call (xsS (xr (ne rfl (ne rfl sm))) (xsS (xr (ne rfl (ne rfl (ne rfl sm)))) xs0))) fun v17 H n h => ?_
        refine on_s h (k_ext rfl) fun v18 h => ?_
        refine on_s h (k_ext rfl) fun v19 h => ?_
        refine ov_t (a := v18) (k_mv rfl) ?_
        refine ov_t (a := v19) (k_mv rfl) ?_
        refine o0 ?_
        refine c_seq ?_
        refine c_seq ?_
        refine c_ops ?_
        refine on_t h (k_not (xr sm)) fun v20 h => ?_
        refine o0 ?_
        refine c_cond h (xr sm) (fun h => ?_) (fun h => ?_)
        · refine c_seq ?_
          refine c_ops ?_
          refine ov_t (a := (.bool false)) (k_mv rfl) ?_
          refine o0 ?_
          refine c_ret ?_
          exact fin_no (rsT sm rs0) h
        · refine c_skip ?_
          refine c_seq ?_
          refine c_ops ?_
          refine on_s h (k_iaddr (xr (ne rfl (ne rfl sm))) rfl) fun v21 h => ?_
          refine on_s h (k_faddr rfl) fun v22 h => ?_
          refine on_s h (k_ld1 rfl) fun v23 h => ?_
          refine on_s h (k_iaddr rfl rfl) fun v24 h => ?_
          refine on_s h (k_ldn rfl) fun v25 h => ?_
          refine oa_t h k_alloc fun v26 H n h => ?_
          refine oe_x hle hd h (k_st (xr sm) rfl) fun v27 H n h => ?_
          refine o0 ?_
          refine c_seq ?_
          refine c_ops ?_
          refine on_s h (k_faddr (xr sm)) fun v28 h => ?_
          refine on_s h (k_ld1 rfl) fun v29 h => ?_
          refine on_s h (k_lenL rfl) fun v30 h => ?_
          refine ov_t (a := v30) (k_mv rfl) ?_
          refine o0 ?_
          refine c_seq ?_
          refine c_seq ?_
          refine c_ops ?_
          refine ov_s (a := (.int .i64 (.ofNat x1) 0)) (km3 (by decide) ex1 (xr (ne rfl (ne rfl (ne rfl (ne rfl (ne rfl (ne rfl (ne rfl (ne rfl (ne rfl f1))))))))))) ?_
          refine on_s h (k_bin rfl rfl) fun v31 h => ?_
          refine on_s h (k_bin rfl rfl) fun v32 h => ?_
          refine on_s h (k_eq (xr sm) rfl) fun v33 h => ?_
          refine ogn_s h rfl (k_faddr (xr (ne rfl sm))) fun v34 h => ?_
          refine ogn_s h rfl (k_ld1 rfl) fun v35 h => ?_
          refine ogn_s h rfl (k_mv (xr sm)) fun v36 h => ?_
          refine ogn_s h rfl (k_bin rfl rfl) fun v37 h => ?_
          refine ogn_s h rfl (k_iaddr rfl rfl) fun v38 h => ?_
          refine ogn_s h rfl (k_faddr rfl) fun v39 h => ?_
          refine ogn_s h rfl (k_ld1 rfl) fun v40 h => ?_
          refine ogn_s h rfl (k_eq rfl rfl) fun v41 h => ?_
          refine on_s h (k_pick rfl rfl rfl) fun v42 h => ?_
          refine ogn_s h rfl (k_faddr (xr (ne rfl sm))) fun v43 h => ?_
          refine ogn_s h rfl (k_ld1 rfl) fun v44 h => ?_
          refine ogn_s h rfl (k_eq rfl rfl) fun v45 h => ?_
          refine on_s h (k_pick rfl rfl rfl) fun v46 h => ?_
          refine ogn_s h rfl (k_faddr (xr (ne rfl sm))) fun v47 h => ?_
          refine ogn_s h rfl (k_ld1 rfl) fun v48 h => ?_
          refine ogn_s h rfl (k_eq rfl rfl) fun v49 h => ?_
          refine on_t h (k_pick rfl rfl rfl) fun v50 h => ?_
          refine o0 ?_
          refine c_cond h (xr sm) (fun h => ?_) (fun h => ?_)
          · refine c_seq ?_
            refine c_ops ?_
            refine ov_t (a := (.bool false)) (k_mv rfl) ?_
            refine o0 ?_
            refine c_ret ?_
            exact fin_no (rsT sm rs0) h
          · refine c_skip ?_
            refine c_seq ?_
            refine c_ops ?_
            refine on_s h (k_faddr (xr (ne rfl (ne rfl sm)))) fun v51 h => ?_
            refine on_s h (k_ld1 rfl) fun v52 h => ?_
            refine on_s h (k_bin (xr (ne rfl sm)) rfl) fun v53 h => ?_
            refine on_s h (k_iaddr rfl rfl) fun v54 h => ?_
            refine on_s h (k_ldn rfl) fun v55 h => ?_
            refine oa_t h k_alloc fun v56 H n h => ?_
            refine oe_x hle hd h (k_st (xr sm) rfl) fun v57 H n h => ?_
            refine o0 ?_
            refine c_seq ?_
            refine c_seq ?_
            refine c_ops ?_
            refine ov_t (a := (.int .i64 (.ofNat x0) 0)) (km3 (by decide) ex0 (xr (ne rfl (ne rfl (ne rfl (ne rfl (ne rfl (ne rfl (ne rfl (ne rfl (ne rfl (ne rfl (ne rfl f0))))))))))))) ?_
            refine o0 ?_
            refine c_block ?_
            refine c_seq ?_
            refine c_ops ?_
            refine on_s h (k_eq (xr sm) rfl) fun v58 h => ?_
            refine ov_t (a := v58) (k_mv rfl) ?_
            refine o0 ?_
            refine c_cond h (xr sm) (fun h => ?_) (fun h => ?_)
            · refine c_seq ?_
              refine c_reg ?_
              refine in_t h (k_faddr (xr (ne rfl (ne rfl sm)))) fun v59 h => ?_
              refine in_t h (k_ld1 (xr sm)) fun v60 h => ?_
              refine in_t h (k_eq (xr sm) rfl) fun v61 h => ?_
              refine iv_t (a := v61) (k_mv (xr sm)) ?_
              refine ign_t h (xr sm) (k_mv (xr (ne rfl (ne rfl (ne rfl (ne rfl (ne rfl (ne rfl (ne rfl (ne rfl (ne rfl (ne rfl (ne rfl (ne rfl sm)))))))))))))) fun v62 h => ?_
              refine ign_t h (xr (ne rfl sm)) (k_iaddr (xr sm) rfl) fun v63 h => ?_
              refine ign_t h (xr (ne rfl (ne rfl sm))) (k_faddr (xr sm)) fun v64 h => ?_
              refine ign_t h (xr (ne rfl (ne rfl (ne rfl sm)))) (k_faddr (xr sm)) fun v65 h => ?_
              refine ign_t h (xr (ne rfl (ne rfl (ne rfl (ne rfl sm))))) (k_ld1 (xr sm)) fun v66 h => ?_
              refine ign_t h (xr (ne rfl (ne rfl (ne rfl (ne rfl (ne rfl sm)))))) (k_faddr (xr (ne rfl (ne rfl (ne rfl (ne rfl (ne rfl (ne rfl (ne rfl (ne rfl (ne rfl (ne rfl (ne rfl sm))))))))))))) fun v67 h => ?_
              refine ign_t h (xr (ne rfl (ne rfl (ne rfl (ne rfl (ne rfl (ne rfl sm))))))) (k_ld1 (xr sm)) fun v68 h => ?_
              refine ign_t h (xr (ne rfl (ne rfl (ne rfl (ne rfl (ne rfl (ne rfl (ne rfl sm)))))))) (k_iaddr (xr (ne rfl (ne rfl sm))) (xr sm)) fun v69 h => ?_
              refine ign_t h (xr (ne rfl (ne rfl (ne rfl (ne rfl (ne rfl (ne rfl (ne rfl (ne rfl sm))))))))) (k_ld1 (xr sm)) fun v70 h => ?_
              refine ign_t h (xr (ne rfl (ne rfl (ne rfl (ne rfl (ne rfl (ne rfl (ne rfl (ne rfl (ne rfl sm)))))))))) (k_eq (xr sm) rfl) fun v71 h => ?_
              refine in_t h (k_pick (xr (ne rfl (ne rfl (ne rfl (ne rfl (ne rfl (ne rfl (ne rfl (ne rfl (ne rfl (ne rfl sm))))))))))) (xr sm) rfl) fun v72 h => ?_
              refine iv_t (a := v72) (k_mv (xr sm)) ?_
              refine i0 ?_
              refine c_ret ?_
              exact fin_no (rsT sm rs0) h
            · refine c_seq ?_
              refine c_ops ?_
              refine on_s h (k_eq (xr (ne rfl sm)) rfl) fun v73 h => ?_
              refine ov_t (a := v73) (k_mv rfl) ?_
              refine o0 ?_
              refine c_cond h (xr sm) (fun h => ?_) (fun h => ?_)
              · refine c_seq ?_
                refine c_ops ?_
                refine on_s h (k_faddr (xr (ne rfl (ne rfl (ne rfl sm))))) fun v74 h => ?_
                refine on_s h (k_ld1 rfl) fun v75 h => ?_
                refine on_s h (k_eq rfl rfl) fun v76 h => ?_
                refine ogn_s h rfl (k_faddr (xr (ne rfl (ne rfl (ne rfl sm))))) fun v77 h => ?_
                refine ogn_s h rfl (k_ld1 rfl) fun v78 h => ?_
                refine ogn_s h rfl (k_eq rfl rfl) fun v79 h => ?_
                refine on_s h (k_pick rfl rfl rfl) fun v80 h => ?_
                refine ov_t (a := v80) (k_mv rfl) ?_
                refine o0 ?_
                refine c_ret ?_
                exact fin_no (rsT sm rs0) h
              · refine c_skip ?_
                refine c_seq ?_
                refine c_ops ?_
                refine on_s h (k_faddr (xr (ne rfl (ne rfl (ne rfl sm))))) fun v81 h => ?_
                refine on_s h (k_ld1 rfl) fun v82 h => ?_
                refine on_s h (k_eq rfl rfl) fun v83 h => ?_
                refine ov_t (a := v83) (k_mv rfl) ?_
                refine o0 ?_
                refine c_ret ?_
                exact fin_no (rsT sm rs0) h
    · refine c_seq ?_
      refine c_ops ?_
      refine ov_t (a := (.int .i64 (.ofNat 0) 0)) (k_mv rfl) ?_
      refine o0 ?_
      refine c_block ?_
      refine c_loop hL (fun s R H n => rg R q6 = s.1 ∧ rg R q7 = s.2.1 ∧ rg R q0 = (.int .i64 z0 0) ∧ rg R q1 = (.int .i64 z1 0) ∧ rg R q5 = v5 ∧ H = s.2.2.1 ∧ n = s.2.2.2) h ⟨(ne rfl sm), sm, (ne rfl (ne rfl (ne rfl (ne rfl (ne rfl rfl))))), (ne rfl (ne rfl (ne rfl (ne rfl (ne rfl rfl))))), (ne rfl (ne rfl sm)), rfl, rfl⟩ ?_
      rintro ih84 I84 hI84 ⟨a6_l84, a7_l84, H, n⟩ R H0 n0 ⟨f6, f7, f0, f1, f5, eH, eN⟩ h
      replace h : t_f3_l84 lp G call k v5 x0 x1 z0 z1 ih84 a6_l84 a7_l84 H n := h
      obtain rfl : H0 = H := eH
      obtain rfl : n0 = n := eN
      delta t_f3_l84 at h
      refine c_seq ?_
      refine c_seq ?_
      refine c_ops ?_
      refine ov_s (a := (.int .i64 (.ofNat x1) 0)) (km3 (by decide) ex1 (xr f1)) ?_
      refine on_t h (k_bin (xr f7) rfl) fun v85 h => ?_
      refine o0 ?_
      refine c_cond h (xr sm) (fun h => ?_) (fun h => ?_)
      · refine c_skip ?_
        refine c_seq ?_
        refine c_block ?_
        refine c_ops ?_
        refine on_s h (k_bin (xr (ne rfl f6)) rfl) fun v86 h => ?_
        refine ov_t (a := v86) (k_mv rfl) ?_
        refine o0 ?_
        refine c_ops ?_
        refine on_s h (k_bin (xr (ne rfl (ne rfl f7))) rfl) fun v87 h => ?_
        refine ov_t (a := v87) (k_mv rfl) ?_
        refine o0 ?_
        exact hI84 (v86, v87, H0, n0) _ _ _ ⟨(ne rfl sm), sm, (ne rfl (ne rfl (ne rfl f0))), (ne rfl (ne rfl (ne rfl f1))), (ne rfl (ne rfl (ne rfl f5))), rfl, rfl⟩ h
      · refine c_exit ?_
        refine bx_same ?_
        exact j6 _ _ _ ⟨_, (ne rfl f6), (ne rfl f0), (ne rfl f1), (ne rfl f5), h⟩
end Go.R5.GA

