/- Part of a proof: texts LI UB LIB of the engine and what is proved with it; nothing is assumed. -/
import Derived.Test.YtgdefgnmabjmcaaGreatDoorPlainR
import Derived.Test.YtgdefgnmabjmcaaGreatDoorCode
import Derived.Test.YtgdefgnmabjmcaaGreatDoorEngF
set_option linter.unusedVariables false
set_option linter.unusedSimpArgs false
/- The law, with what it reads of its numbers. -/
namespace Go.R3.LI
open Go.Eng Go.R3
set_option maxRecDepth 100000
def r0 : X := .r q0
def r1 : X := .r q1
def r2 : X := .r q2
def r7 : X := .r q7
def r8 : X := .r q8
def r9 : X := .r q9
def r10 : X := .r q10
def r11 : X := .r q11
def r12 : X := .r q12
def r13 : X := .r q13
def r14 : X := .r q14
def r15 : X := .r q15
def r17 : X := .r q17
def r30 : X := .r q30
def r44 : X := .r q44
def r56 : X := .r q56
def r66 : X := .r q66
def r75 : X := .r q75
def r92 : X := .r q92
def r93 : X := .r q93
def r98 : X := .r q98
def r103 : X := .r q103
def r108 : X := .r q108
def r113 : X := .r q113
def lf : AF := .mk 3 (.seq (.ops [.mk (.to q6) .no (.n (.mv (.c (.bool false))))])
 (.seq (.seq (.ops [.mk .ps .no (.e (.call 19 [])),
    .mk (.to q17) .no (.n (.not (.s 0)))])
   (.cond r17 (.seq (.ops [.mk (.to q6) .no (.n (.mv (.c (.bool false))))])
     .ret)
    .skip))
  (.seq (.ops [.mk .ps .no (.n (.cvi .u64 r0)),
    .mk .ps .no (.n (.bin .rem (.s 0) (.c (.int .u64 (.ofNat 9) 0)))),
    .mk .ps .no (.n (.cvi .i64 (.s 0))),
    .mk (.to q7) .no (.n (.mv (.s 0)))])
   (.seq (.ops [.mk .ps .no (.a (.bslice 1 9 [(.str 0 0)] [(0, (.c (.str 1 43))), (1, (.c (.str 1 45))), (2, (.c (.str 1 42))), (3, (.c (.str 1 47))), (4, (.c (.str 1 37))), (5, (.c (.str 1 60))), (6, (.c (.str 2 15676))), (7, (.c (.str 2 15677))), (8, (.c (.str 2 15649)))])),
     .mk .ps .no (.n (.iaddr 1 (.s 0) r7)),
     .mk .ps .no (.n (.ld1 (.s 0))),
     .mk (.to q8) .no (.n (.mv (.s 0)))])
    (.seq (.ops [.mk .ps .no (.n (.bin .add (.c (.str 9 598951850280387634546)) r8)),
      .mk .ps .no (.n (.bin .add (.s 0) (.c (.str 3 3897632)))),
      .mk (.to q9) .no (.n (.mv (.s 0)))])
     (.seq (.seq (.ops [.mk (.to q30) .no (.n (.bin .geq r7 (.c (.int .i64 (.ofNat 5) 0))))])
       (.cond r30 (.ops [.mk .ps .no (.n (.bin .add (.c (.str 5 139454342761)) r8)),
         .mk .ps .no (.n (.bin .add (.s 0) (.c (.str 16 166320853526971219915472403925917792544)))),
         .mk (.to q9) .no (.n (.mv (.s 0)))])
        .skip))
      (.seq (.ops [.mk .ps .no (.n (.bin .add (.c (.str 46 76282916522717332820083597114901866686753294487866101134853714668071797909972787208989545790064060707274583139)) r9)),
        .mk .ps .no (.n (.bin .add (.s 0) (.c (.str 4 2099281184)))),
        .mk .ps .no (.a (.bslice 1 1 [(.str 0 0)] [(0, (.s 0))])),
        .mk .ps .no (.e (.call 20 [(.s 0)])),
        .mk .ps .no (.n (.ext (.s 0) 0)),
        .mk .ps .no (.n (.ext (.s 1) 1)),
        .mk .ps .no (.n (.ext (.s 2) 2)),
        .mk (.to q10) .no (.n (.mv (.s 2))),
        .mk (.to q11) .no (.n (.mv (.s 1))),
        .mk (.to q12) .no (.n (.mv (.s 0)))])
       (.seq (.seq (.ops [.mk (.to q44) .no (.n (.not r12))])
         (.cond r44 (.seq (.ops [.mk (.to q6) .no (.n (.mv (.c (.bool false))))])
           .ret)
          .skip))
        (.seq (.ops [.mk .ps .no (.a (.bslice 1 2 [(.int .i64 (.ofNat 0) 0)] [(0, r1), (1, r2)])),
          .mk .ps .no (.n (.build [(.int .i64 (.ofNat 0) 0), (.int .i64 (.ofNat 0) 0), (.int .i64 (.ofNat 0) 0)] [(0, 1, (.c (.int .i64 (.ofNat 50) 0))), (2, 1, (.c (.int .i64 (.ofNat 1) 0)))])),
          .mk .ps .no (.e (.call 21 [r11, r10, (.c (.str 1 65)), (.c (.str 1 109)), (.s 1), (.s 0)])),
          .mk .ps .no (.n (.ext (.s 0) 0)),
          .mk .ps .no (.n (.ext (.s 1) 1)),
          .mk (.to q13) .no (.a (.alloc 3 [[(.int .i64 (.ofNat 0) 0), (.int .i64 (.ofNat 0) 0), .nils]])),
          .mk .no .no (.e (.st 3 r13 (.s 1))),
          .mk (.to q14) .no (.n (.mv (.s 0)))])
         (.seq (.seq (.ops [.mk (.to q56) .no (.n (.eq (.one .int) true r14 (.c (.int .i64 (.ofNat 0) 0))))])
           (.cond r56 (.seq (.ops [.mk (.to q6) .no (.n (.mv (.c (.bool false))))])
             .ret)
            .skip))
          (.seq (.seq (.ops [.mk .ps .no (.n (.eq (.one .int) false r2 (.c (.int .i64 (.ofNat 0) 0)))),
             .mk .ps (.on (.s 0) true) (.n (.mv r7)),
             .mk .ps (.on (.s 1) true) (.n (.eq (.one .int) false (.s 0) (.c (.int .i64 (.ofNat 3) 0)))),
             .mk .ps (.on (.s 2) true) (.n (.mv (.s 0))),
             .mk .ps (.on (.s 0) false) (.n (.mv r7)),
             .mk .ps (.on (.s 1) false) (.n (.eq (.one .int) false (.s 0) (.c (.int .i64 (.ofNat 4) 0)))),
             .mk .ps (.on (.s 5) true) (.n (.pick (.s 2) (.c (.bool true)) (.s 0))),
             .mk (.to q66) .no (.n (.pick (.s 6) (.s 0) (.c (.bool false))))])
            (.cond r66 (.seq (.ops [.mk .ps .no (.n (.faddr 0 r13)),
               .mk .ps .no (.n (.ld1 (.s 0))),
               .mk .ps .no (.n (.eq (.one .int) false (.s 0) (.c (.int .i64 (.ofNat 3) 0)))),
               .mk .ps (.on (.s 0) true) (.n (.faddr 1 r13)),
               .mk .ps (.on (.s 1) true) (.n (.ld1 (.s 0))),
               .mk .ps (.on (.s 2) true) (.n (.eq (.one .int) false (.s 0) (.c (.int .i64 (.ofNat 0) 0)))),
               .mk .ps .no (.n (.pick (.s 3) (.s 0) (.c (.bool false)))),
               .mk (.to q6) .no (.n (.mv (.s 0)))])
              .ret)
             .skip))
           (.seq (.ops [.mk (.to q15) .no (.n (.mv (.c (.int .i64 (.ofNat 0) 0))))])
            (.seq (.seq (.ops [.mk (.to q75) .no (.n (.mv r7))])
              (.block 0 (.seq (.ops [.mk .ps .no (.n (.eq (.one .int) false r75 (.c (.int .i64 (.ofNat 0) 0)))),
                 .mk (.to q93) .no (.n (.mv (.s 0)))])
                (.cond r93 (.ops [.mk .ps .no (.n (.bin .add r1 r2)),
                  .mk (.to q15) .no (.n (.mv (.s 0)))])
                 (.seq (.ops [.mk .ps .no (.n (.eq (.one .int) false r75 (.c (.int .i64 (.ofNat 1) 0)))),
                   .mk (.to q98) .no (.n (.mv (.s 0)))])
                  (.cond r98 (.ops [.mk .ps .no (.n (.bin .sub r1 r2)),
                    .mk (.to q15) .no (.n (.mv (.s 0)))])
                   (.seq (.ops [.mk .ps .no (.n (.eq (.one .int) false r75 (.c (.int .i64 (.ofNat 2) 0)))),
                     .mk (.to q103) .no (.n (.mv (.s 0)))])
                    (.cond r103 (.ops [.mk .ps .no (.n (.bin .mul r1 r2)),
                      .mk (.to q15) .no (.n (.mv (.s 0)))])
                     (.seq (.ops [.mk .ps .no (.n (.eq (.one .int) false r75 (.c (.int .i64 (.ofNat 3) 0)))),
                       .mk (.to q108) .no (.n (.mv (.s 0)))])
                      (.cond r108 (.ops [.mk .ps .no (.n (.bin .quo r1 r2)),
                        .mk (.to q15) .no (.n (.mv (.s 0)))])
                       (.seq (.ops [.mk .ps .no (.n (.eq (.one .int) false r75 (.c (.int .i64 (.ofNat 4) 0)))),
                         .mk (.to q113) .no (.n (.mv (.s 0)))])
                        (.cond r113 (.ops [.mk .ps .no (.n (.bin .rem r1 r2)),
                          .mk (.to q15) .no (.n (.mv (.s 0)))])
                         (.seq (.ops [.mk .ps .no (.n (.bin .lss r1 r2)),
                           .mk .ps .no (.n (.bin .leq r1 r2)),
                           .mk .ps .no (.n (.eq (.one .int) false r1 r2)),
                           .mk .ps .no (.n (.eq (.one .int) true r1 r2)),
                           .mk .ps .no (.a (.bslice 1 4 [(.bool false)] [(0, (.s 3)), (1, (.s 2)), (2, (.s 1)), (3, (.s 0))])),
                           .mk .ps .no (.n (.bin .sub r7 (.c (.int .i64 (.ofNat 5) 0)))),
                           .mk .ps .no (.n (.iaddr 1 (.s 1) (.s 0))),
                           .mk (.to q92) .no (.n (.ld1 (.s 0)))])
                          (.cond r92 (.ops [.mk (.to q15) .no (.n (.mv (.c (.int .i64 (.ofNat 1) 0))))])
                           .skip))))))))))))))
             (.seq (.ops [.mk .ps .no (.n (.faddr 0 r13)),
               .mk .ps .no (.n (.ld1 (.s 0))),
               .mk .ps .no (.n (.eq (.one .int) false (.s 0) (.c (.int .i64 (.ofNat 0) 0)))),
               .mk .ps (.on (.s 0) true) (.n (.faddr 1 r13)),
               .mk .ps (.on (.s 1) true) (.n (.ld1 (.s 0))),
               .mk .ps (.on (.s 2) true) (.n (.mv r15)),
               .mk .ps (.on (.s 3) true) (.n (.eq (.one .int) false (.s 1) (.s 0))),
               .mk .ps .no (.n (.pick (.s 4) (.s 0) (.c (.bool false)))),
               .mk (.to q6) .no (.n (.mv (.s 0)))])
              .ret))))))))))))))
 [.tmp q6] .no 0
theorem at_law : T.get F 7 = some lf := by kernel_rfl
noncomputable def t_f7_j41 (lp : LpT) (G : Roms) (call : CallT) (k : KV) (v23 : V) (x0 : Nat) (y0 : Bool) (y1 : Bool) (y2 : Bool) (y3 : Bool) (z0 : Int) (z1 : Int) (z2 : Int) (a15_j41 : V) (H : Heap) (n : Nat) : Prop :=
 onV (paddV 0 v23) fun v42 =>
 onV (ld1V v42 G H) fun v43 =>
 onV (eqV (.one .int) false v43 (.int .i64 (.ofNat 0) 0)) fun v44 =>
 onG v44 true (paddV 1 v23) fun v45 =>
 onG v44 true (ld1V v45 G H) fun v46 =>
 onG v44 true (some a15_j41) fun v47 =>
 askG v44 true true (eqV (.one .int) false v46 v47) fun v48 =>
 onV (pickV v44 v48 (.bool false)) fun v49 =>
 k v49 H n
noncomputable def t_f7_j9 (lp : LpT) (G : Roms) (call : CallT) (k : KV) (v3 : V) (x0 : Nat) (y0 : Bool) (y1 : Bool) (y2 : Bool) (y3 : Bool) (z0 : Int) (z1 : Int) (z2 : Int) (a9_j9 : V) (H : Heap) (n : Nat) : Prop :=
 onV (B2.ev .add (.str 46 76282916522717332820083597114901866686753294487866101134853714668071797909972787208989545790064060707274583139) a9_j9) fun v10 =>
 onV (B2.ev .add v10 (.str 4 2099281184)) fun v11 =>
 onA (aBslice 1 1 [(.str 0 0)] [(0, .c v11)] E0) H n fun v12 H n =>
 call 20 [v12] H n fun v13 H n =>
 onV (extV v13 0) fun v14 =>
 onV (extV v13 1) fun v15 =>
 onV (extV v13 2) fun v16 =>
 onV (notV v16) fun v17 =>
 onTst v17 true (k (.bool false) H n) (onA (aBslice 1 2 [(.int .i64 (.ofNat 0) 0)] [(0, .c (.int .i64 z1 0)), (1, .c (.int .i64 z2 0))] E0) H n fun v18 H n =>
 onV (buildV [(.int .i64 (.ofNat 0) 0), (.int .i64 (.ofNat 0) 0), (.int .i64 (.ofNat 0) 0)] [(0, 1, .c (.int .i64 (.ofNat 50) 0)), (2, 1, .c (.int .i64 (.ofNat 1) 0))]) fun v19 =>
 call 21 [v15, v14, (.str 1 65), (.str 1 109), v18, v19] H n fun v20 H n =>
 onV (extV v20 0) fun v21 =>
 onV (extV v20 1) fun v22 =>
 onA (aAlloc 3 [[(.int .i64 (.ofNat 0) 0), (.int .i64 (.ofNat 0) 0), .nils]] E0) H n fun v23 H n =>
 stV 3 v23 v21 H n fun v24 H n =>
 onV (eqV (.one .int) true v22 (.int .i64 (.ofNat 0) 0)) fun v25 =>
 onTst v25 true (k (.bool false) H n) (onV (eqV (.one .int) false (.int .i64 z2 0) (.int .i64 (.ofNat 0) 0)) fun v26 =>
 onG v26 true (some v3) fun v27 =>
 onG v26 true (eqV (.one .int) false v27 (.int .i64 (.ofNat 3) 0)) fun v28 =>
 onG v26 true (some v28) fun v29 =>
 onG v29 false (some v3) fun v30 =>
 onG v29 false (eqV (.one .int) false v30 (.int .i64 (.ofNat 4) 0)) fun v31 =>
 onG v26 true (pickV v29 (.bool true) v31) fun v32 =>
 onV (pickV v26 v32 (.bool false)) fun v33 =>
 onTst v33 true (onV (paddV 0 v23) fun v34 =>
 onV (ld1V v34 G H) fun v35 =>
 onV (eqV (.one .int) false v35 (.int .i64 (.ofNat 3) 0)) fun v36 =>
 onG v36 true (paddV 1 v23) fun v37 =>
 onG v36 true (ld1V v37 G H) fun v38 =>
 onG v36 true (eqV (.one .int) false v38 (.int .i64 (.ofNat 0) 0)) fun v39 =>
 onV (pickV v36 v39 (.bool false)) fun v40 =>
 k v40 H n) (onV (eqV (.one .int) false v3 (.int .i64 (.ofNat 0) 0)) fun v50 =>
 onTst v50 true (onV (B2.ev .add (.int .i64 z1 0) (.int .i64 z2 0)) fun v51 =>
 t_f7_j41 lp G call k v23 x0 y0 y1 y2 y3 z0 z1 z2 v51 H n) (onV (eqV (.one .int) false v3 (.int .i64 (.ofNat 1) 0)) fun v52 =>
 onTst v52 true (onV (B2.ev .sub (.int .i64 z1 0) (.int .i64 z2 0)) fun v53 =>
 t_f7_j41 lp G call k v23 x0 y0 y1 y2 y3 z0 z1 z2 v53 H n) (onV (eqV (.one .int) false v3 (.int .i64 (.ofNat 2) 0)) fun v54 =>
 onTst v54 true (onV (B2.ev .mul (.int .i64 z1 0) (.int .i64 z2 0)) fun v55 =>
 t_f7_j41 lp G call k v23 x0 y0 y1 y2 y3 z0 z1 z2 v55 H n) (onV (eqV (.one .int) false v3 (.int .i64 (.ofNat 3) 0)) fun v56 =>
 onTst v56 true (onV (B2.ev .quo (.int .i64 z1 0) (.int .i64 z2 0)) fun v57 =>
 t_f7_j41 lp G call k v23 x0 y0 y1 y2 y3 z0 z1 z2 v57 H n) (onV (eqV (.one .int) false v3 (.int .i64 (.ofNat 4) 0)) fun v58 =>
 onTst v58 true (onV (B2.ev .rem (.int .i64 z1 0) (.int .i64 z2 0)) fun v59 =>
 t_f7_j41 lp G call k v23 x0 y0 y1 y2 y3 z0 z1 z2 v59 H n) (askV y0 (B2.ev .lss (.int .i64 z1 0) (.int .i64 z2 0)) fun v60 =>
 askV y1 (B2.ev .leq (.int .i64 z1 0) (.int .i64 z2 0)) fun v61 =>
 askV y2 (eqV (.one .int) false (.int .i64 z1 0) (.int .i64 z2 0)) fun v62 =>
 askV y3 (eqV (.one .int) true (.int .i64 z1 0) (.int .i64 z2 0)) fun v63 =>
 onA (aBslice 1 4 [(.bool false)] [(0, .c v60), (1, .c v61), (2, .c v62), (3, .c v63)] E0) H n fun v64 H n =>
 onV (B2.ev .sub v3 (.int .i64 (.ofNat 5) 0)) fun v65 =>
 onV (iaddrV 1 v64 v65) fun v66 =>
 onV (ld1V v66 G H) fun v67 =>
 onTst v67 true (t_f7_j41 lp G call k v23 x0 y0 y1 y2 y3 z0 z1 z2 (.int .i64 (.ofNat 1) 0) H n) (t_f7_j41 lp G call k v23 x0 y0 y1 y2 y3 z0 z1 z2 (.int .i64 (.ofNat 0) 0) H n)))))))))
noncomputable def t_f7 (lp : LpT) (G : Roms) (call : CallT) (z0 : Int) (z1 : Int) (z2 : Int) (x0 : Nat) (y0 : Bool) (y1 : Bool) (y2 : Bool) (y3 : Bool) (H : Heap) (n : Nat) (k : KV) : Prop :=
 call 19 [] H n fun v1 H n =>
 onV (notV v1) fun v2 =>
 onTst v2 true (k (.bool false) H n) (onV (cviV .i64 (.int .u64 (.ofNat x0) 0)) fun v3 =>
 onA (aBslice 1 9 [(.str 0 0)] [(0, .c (.str 1 43)), (1, .c (.str 1 45)), (2, .c (.str 1 42)), (3, .c (.str 1 47)), (4, .c (.str 1 37)), (5, .c (.str 1 60)), (6, .c (.str 2 15676)), (7, .c (.str 2 15677)), (8, .c (.str 2 15649))] E0) H n fun v4 H n =>
 onV (iaddrV 1 v4 v3) fun v5 =>
 onV (ld1V v5 G H) fun v6 =>
 onV (B2.ev .add (.str 9 598951850280387634546) v6) fun v7 =>
 onV (B2.ev .add v7 (.str 3 3897632)) fun v8 =>
 onV (B2.ev .geq v3 (.int .i64 (.ofNat 5) 0)) fun v68 =>
 onTst v68 true (onV (B2.ev .add (.str 5 139454342761) v6) fun v69 =>
 onV (B2.ev .add v69 (.str 16 166320853526971219915472403925917792544)) fun v70 =>
 t_f7_j9 lp G call k v3 x0 y0 y1 y2 y3 z0 z1 z2 v70 H n) (t_f7_j9 lp G call k v3 x0 y0 y1 y2 y3 z0 z1 z2 v8 H n))
theorem ti_f7 {lp : LpT} (hL : LpOk lp) {G : Roms} {call callE : CallT} (z0 : Int) (z1 : Int) (z2 : Int) (x0 : Nat) (y0 : Bool) (y1 : Bool) (y2 : Bool) (y3 : Bool) (ex0 : umod z0 9 = x0) (hle : CallLe call callE) (hd : CallDet callE) {H : Heap} {n : Nat} {k : KV} (h : t_f7 lp G call z0 z1 z2 x0 y0 y1 y2 y3 H n k) : exFunL lf G callE [(.int .i64 z0 0), (.int .i64 z1 0), (.int .i64 z2 0)] H n k := by
  delta t_f7 at h
  refine f_intro rfl ?_
  refine c_seq ?_
  refine c_ops ?_
  refine ov_t (a := (.bool false)) (k_mv rfl) ?_
  refine o0 ?_
  refine c_seq ?_
  refine c_seq ?_
  refine c_ops ?_
  refine oe_s hle hd h (k_call xs0) fun v1 H n h => ?_
  refine on_t h (k_not rfl) fun v2 h => ?_
  refine o0 ?_
  refine c_cond h (xr sm) (fun h => ?_) (fun h => ?_)
  · refine c_seq ?_
    refine c_ops ?_
    refine ov_t (a := (.bool false)) (k_mv rfl) ?_
    refine o0 ?_
    refine c_ret ?_
    exact fin_no (rsT sm rs0) h
  · refine c_skip ?_
    refine c_seq ?_
    refine c_ops ?_
    refine ov_s (a := (.int .u64 (IntKind.wrap .u64 z0) 0)) (km1 (xr (ne rfl (ne rfl rfl)))) ?_
    refine ov_s (a := (.int .u64 (.ofNat x0) 0)) (km2 (by decide) ex0 rfl) ?_
    refine on_s h (k_cvi rfl) fun v3 h => ?_
    refine ov_t (a := v3) (k_mv rfl) ?_
    refine o0 ?_
    refine c_seq ?_
    refine c_ops ?_
    refine oa_s h (k_bslice (pbS rfl (pbS rfl (pbS rfl (pbS rfl (pbS rfl (pbS rfl (pbS rfl (pbS rfl (pbS rfl pb0)))))))))) fun v4 H n h => ?_
    refine on_s h (k_iaddr rfl (xr sm)) fun v5 h => ?_
    refine on_s h (k_ld1 rfl) fun v6 h => ?_
    refine ov_t (a := v6) (k_mv rfl) ?_
    refine o0 ?_
    refine c_seq ?_
    refine c_ops ?_
    refine on_s h (k_bin rfl (xr sm)) fun v7 h => ?_
    refine on_s h (k_bin rfl rfl) fun v8 h => ?_
    refine ov_t (a := v8) (k_mv rfl) ?_
    refine o0 ?_
    refine c_seqj (fun R H n => ∃ a9_j9, rg R q9 = a9_j9 ∧ rg R q1 = (.int .i64 z1 0) ∧ rg R q2 = (.int .i64 z2 0) ∧ rg R q7 = v3 ∧ t_f7_j9 lp G call k v3 x0 y0 y1 y2 y3 z0 z1 z2 a9_j9 H n) ?_ fun j9 => ?_
    · rintro R H n ⟨a9_j9, f9, f1, f2, f7, h⟩
      delta t_f7_j9 at h
      refine c_seq ?_
      refine c_ops ?_
      refine on_s h (k_bin rfl (xr f9)) fun v10 h => ?_
      refine on_s h (k_bin rfl rfl) fun v11 h => ?_
      refine oa_s h (k_bslice (pbS rfl pb0)) fun v12 H n h => ?_
      refine oe_s hle hd h (k_call (xsS rfl xs0)) fun v13 H n h => ?_
      refine on_s h (k_ext rfl) fun v14 h => ?_
      refine on_s h (k_ext rfl) fun v15 h => ?_
      refine on_s h (k_ext rfl) fun v16 h => ?_
      refine ov_t (a := v14) (k_mv rfl) ?_
      refine ov_t (a := v15) (k_mv rfl) ?_
      refine ov_t (a := v16) (k_mv rfl) ?_
      refine o0 ?_
      refine c_seq ?_
      refine c_seq ?_
      refine c_ops ?_
      refine on_t h (k_not (xr sm)) fun v17 h => ?_
      refine o0 ?_
      refine c_cond h (xr sm) (fun h => ?_) (fun h => ?_)
      · refine c_seq ?_
        refine c_ops ?_
        refine ov_t (a := (.bool false)) (k_mv rfl) ?_
        refine o0 ?_
        refine c_ret ?_
        exact fin_no (rsT sm rs0) h
      · refine c_skip ?_
        refine c_seq ?_
        refine c_ops ?_
        refine oa_s h (k_bslice (pbS (xr (ne rfl (ne rfl (ne rfl (ne rfl f1))))) (pbS (xr (ne rfl (ne rfl (ne rfl (ne rfl f2))))) pb0))) fun v18 H n h => ?_
        refine on_s h (k_build (psS rfl (psS rfl ps0))) fun v19 h => ?_
        refine oe_s hle hd h (k_call (xsS (xr (ne rfl (ne rfl sm))) (xsS (xr (ne rfl (ne rfl (ne rfl sm)))) (xsS rfl (xsS rfl (xsS rfl (xsS rfl xs0))))))) fun v20 H n h => ?_
        refine on_s h (k_ext rfl) fun v21 h => ?_
        refine on_s h (k_ext rfl) fun v22 h => ?_
        refine oa_t h k_alloc fun v23 H n h => ?_
        refine oe_x hle hd h (k_st (xr sm) rfl) fun v24 H n h => ?_
        refine ov_t (a := v22) (k_mv rfl) ?_
        refine o0 ?_
        refine c_seq ?_
        refine c_seq ?_
        refine c_ops ?_
        refine on_t h (k_eq (xr sm) rfl) fun v25 h => ?_
        refine o0 ?_
        refine c_cond h (xr sm) (fun h => ?_) (fun h => ?_)
        · refine c_seq ?_
          refine c_ops ?_
          refine ov_t (a := (.bool false)) (k_mv rfl) ?_
          refine o0 ?_
          refine c_ret ?_
          exact fin_no (rsT sm rs0) h
        · refine c_skip ?_
          refine c_seq ?_
          refine c_seq ?_
          refine c_ops ?_
          refine on_s h (k_eq (xr (ne rfl (ne rfl (ne rfl (ne rfl (ne rfl (ne rfl (ne rfl f2)))))))) rfl) fun v26 h => ?_
          refine ogn_s h rfl (k_mv (xr (ne rfl (ne rfl (ne rfl (ne rfl (ne rfl (ne rfl (ne rfl f7))))))))) fun v27 h => ?_
          refine ogn_s h rfl (k_eq rfl rfl) fun v28 h => ?_
          refine ogn_s h rfl (k_mv rfl) fun v29 h => ?_
          refine ogn_s h rfl (k_mv (xr (ne rfl (ne rfl (ne rfl (ne rfl (ne rfl (ne rfl (ne rfl f7))))))))) fun v30 h => ?_
          refine ogn_s h rfl (k_eq rfl rfl) fun v31 h => ?_
          refine ogn_s h rfl (k_pick rfl rfl rfl) fun v32 h => ?_
          refine on_t h (k_pick rfl rfl rfl) fun v33 h => ?_
          refine o0 ?_
          refine c_cond h (xr sm) (fun h => ?_) (fun h => ?_)
          · refine c_seq ?_
            refine c_ops ?_
            refine on_s h (k_faddr (xr (ne rfl (ne rfl (ne rfl sm))))) fun v34 h => ?_
            refine on_s h (k_ld1 rfl) fun v35 h => ?_
            refine on_s h (k_eq rfl rfl) fun v36 h => ?_
            refine ogn_s h rfl (k_faddr (xr (ne rfl (ne rfl (ne rfl sm))))) fun v37 h => ?_
            refine ogn_s h rfl (k_ld1 rfl) fun v38 h => ?_
            refine ogn_s h rfl (k_eq rfl rfl) fun v39 h => ?_
            refine on_s h (k_pick rfl rfl rfl) fun v40 h => ?_
            refine ov_t (a := v40) (k_mv rfl) ?_
            refine o0 ?_
            refine c_ret ?_
            exact fin_no (rsT sm rs0) h
          · refine c_skip ?_
            refine c_seq ?_
            refine c_ops ?_
            refine ov_t (a := (.int .i64 (.ofNat 0) 0)) (k_mv rfl) ?_
            refine o0 ?_
            refine c_seqj (fun R H n => ∃ a15_j41, rg R q15 = a15_j41 ∧ rg R q13 = v23 ∧ t_f7_j41 lp G call k v23 x0 y0 y1 y2 y3 z0 z1 z2 a15_j41 H n) ?_ fun j41 => ?_
            · rintro R H n ⟨a15_j41, f15, f13, h⟩
              delta t_f7_j41 at h
              refine c_seq ?_
              refine c_ops ?_
              refine on_s h (k_faddr (xr f13)) fun v42 h => ?_
              refine on_s h (k_ld1 rfl) fun v43 h => ?_
              refine on_s h (k_eq rfl rfl) fun v44 h => ?_
              refine ogn_s h rfl (k_faddr (xr f13)) fun v45 h => ?_
              refine ogn_s h rfl (k_ld1 rfl) fun v46 h => ?_
              refine ogn_s h rfl (k_mv (xr f15)) fun v47 h => ?_
              refine ogn_s (askG_ok h) rfl (k_eq rfl rfl) fun v48 h => ?_
              refine on_s h (k_pick rfl rfl rfl) fun v49 h => ?_
              refine ov_t (a := v49) (k_mv rfl) ?_
              refine o0 ?_
              refine c_ret ?_
              exact fin_no (rsT sm rs0) h
            · refine c_seq ?_
              refine c_ops ?_
              refine ov_t (a := v3) (k_mv (xr (ne rfl (ne rfl (ne rfl (ne rfl (ne rfl (ne rfl (ne rfl (ne rfl (ne rfl f7))))))))))) ?_
              refine o0 ?_
              refine c_block ?_
              refine c_seq ?_
              refine c_ops ?_
              refine on_s h (k_eq (xr sm) rfl) fun v50 h => ?_
              refine ov_t (a := v50) (k_mv rfl) ?_
              refine o0 ?_
              refine c_cond h (xr sm) (fun h => ?_) (fun h => ?_)
              · refine c_ops ?_
                refine on_s h (k_bin (xr (ne rfl (ne rfl (ne rfl (ne rfl (ne rfl (ne rfl (ne rfl (ne rfl (ne rfl (ne rfl (ne rfl f1)))))))))))) (xr (ne rfl (ne rfl (ne rfl (ne rfl (ne rfl (ne rfl (ne rfl (ne rfl (ne rfl (ne rfl (ne rfl f2))))))))))))) fun v51 h => ?_
                refine ov_t (a := v51) (k_mv rfl) ?_
                refine o0 ?_
                exact j41 _ _ _ ⟨_, sm, (ne rfl (ne rfl (ne rfl (ne rfl (ne rfl (ne rfl (ne rfl sm))))))), h⟩
              · refine c_seq ?_
                refine c_ops ?_
                refine on_s h (k_eq (xr (ne rfl sm)) rfl) fun v52 h => ?_
                refine ov_t (a := v52) (k_mv rfl) ?_
                refine o0 ?_
                refine c_cond h (xr sm) (fun h => ?_) (fun h => ?_)
                · refine c_ops ?_
                  refine on_s h (k_bin (xr (ne rfl (ne rfl (ne rfl (ne rfl (ne rfl (ne rfl (ne rfl (ne rfl (ne rfl (ne rfl (ne rfl (ne rfl f1))))))))))))) (xr (ne rfl (ne rfl (ne rfl (ne rfl (ne rfl (ne rfl (ne rfl (ne rfl (ne rfl (ne rfl (ne rfl (ne rfl f2)))))))))))))) fun v53 h => ?_
                  refine ov_t (a := v53) (k_mv rfl) ?_
                  refine o0 ?_
                  exact j41 _ _ _ ⟨_, sm, (ne rfl (ne rfl (ne rfl (ne rfl (ne rfl (ne rfl (ne rfl (ne rfl sm)))))))), h⟩
                · refine c_seq ?_
                  refine c_ops ?_
                  refine on_s h (k_eq (xr (ne rfl (ne rfl sm))) rfl) fun v54 h => ?_
                  refine ov_t (a := v54) (k_mv rfl) ?_
                  refine o0 ?_
                  refine c_cond h (xr sm) (fun h => ?_) (fun h => ?_)
                  · refine c_ops ?_
                    refine on_s h (k_bin (xr (ne rfl (ne rfl (ne rfl (ne rfl (ne rfl (ne rfl (ne rfl (ne rfl (ne rfl (ne rfl (ne rfl (ne rfl (ne rfl f1)))))))))))))) (xr (ne rfl (ne rfl (ne rfl (ne rfl (ne rfl (ne rfl (ne rfl (ne rfl (ne rfl (ne rfl (ne rfl (ne rfl (ne rfl f2))))))))))))))) fun v55 h => ?_
                    refine ov_t (a := v55) (k_mv rfl) ?_
                    refine o0 ?_
                    exact j41 _ _ _ ⟨_, sm, (ne rfl (ne rfl (ne rfl (ne rfl (ne rfl (ne rfl (ne rfl (ne rfl (ne rfl sm))))))))), h⟩
                  · refine c_seq ?_
                    refine c_ops ?_
                    refine on_s h (k_eq (xr (ne rfl (ne rfl (ne rfl sm)))) rfl) fun v56 h => ?_
                    refine ov_t (a := v56) (k_mv rfl) ?_
                    refine o0 ?_
                    refine c_cond h (xr sm) (fun h => ?_) (fun h => ?_)
                    · refine c_ops ?_
                      refine on_s h (k_bin (xr (ne rfl (ne rfl (ne rfl (ne rfl (ne rfl (ne rfl (ne rfl (ne rfl (ne rfl (ne rfl (ne rfl (ne rfl (ne rfl (ne rfl f1))))))))))))))) (xr (ne rfl (ne rfl (ne rfl (ne rfl (ne rfl (ne rfl (ne rfl (ne rfl (ne rfl (ne rfl (ne rfl (ne rfl (ne rfl (ne rfl f2)))))))))))))))) fun v57 h => ?_
                      refine ov_t (a := v57) (k_mv rfl) ?_
                      refine o0 ?_
                      exact j41 _ _ _ ⟨_, sm, (ne rfl (ne rfl (ne rfl (ne rfl (ne rfl (ne rfl (ne rfl (ne rfl (ne rfl (ne rfl sm)))))))))), h⟩
                    · refine c_seq ?_
                      refine c_ops ?_
                      refine on_s h (k_eq (xr (ne rfl (ne rfl (ne rfl (ne rfl sm))))) rfl) fun v58 h => ?_
                      refine ov_t (a := v58) (k_mv rfl) ?_
                      refine o0 ?_
                      refine c_cond h (xr sm) (fun h => ?_) (fun h => ?_)
                      · refine c_ops ?_
                        refine on_s h (k_bin (xr (ne rfl (ne rfl (ne rfl (ne rfl (ne rfl (ne rfl (ne rfl (ne rfl (ne rfl (ne rfl (ne rfl (ne rfl (ne rfl (ne rfl (ne rfl f1)))))))))))))))) (xr (ne rfl (ne rfl (ne rfl (ne rfl (ne rfl (ne rfl (ne rfl (ne rfl (ne rfl (ne rfl (ne rfl (ne rfl (ne rfl (ne rfl (ne rfl f2))))))))))))))))) fun v59 h => ?_
                        refine ov_t (a := v59) (k_mv rfl) ?_
                        refine o0 ?_
                        exact j41 _ _ _ ⟨_, sm, (ne rfl (ne rfl (ne rfl (ne rfl (ne rfl (ne rfl (ne rfl (ne rfl (ne rfl (ne rfl (ne rfl sm))))))))))), h⟩
                      · refine c_seq ?_
                        refine c_ops ?_
                        refine on_s (askV_ok h) (k_bin (xr (ne rfl (ne rfl (ne rfl (ne rfl (ne rfl (ne rfl (ne rfl (ne rfl (ne rfl (ne rfl (ne rfl (ne rfl (ne rfl (ne rfl (ne rfl f1)))))))))))))))) (xr (ne rfl (ne rfl (ne rfl (ne rfl (ne rfl (ne rfl (ne rfl (ne rfl (ne rfl (ne rfl (ne rfl (ne rfl (ne rfl (ne rfl (ne rfl f2))))))))))))))))) fun v60 h => ?_
                        refine on_s (askV_ok h) (k_bin (xr (ne rfl (ne rfl (ne rfl (ne rfl (ne rfl (ne rfl (ne rfl (ne rfl (ne rfl (ne rfl (ne rfl (ne rfl (ne rfl (ne rfl (ne rfl f1)))))))))))))))) (xr (ne rfl (ne rfl (ne rfl (ne rfl (ne rfl (ne rfl (ne rfl (ne rfl (ne rfl (ne rfl (ne rfl (ne rfl (ne rfl (ne rfl (ne rfl f2))))))))))))))))) fun v61 h => ?_
                        refine on_s (askV_ok h) (k_eq (xr (ne rfl (ne rfl (ne rfl (ne rfl (ne rfl (ne rfl (ne rfl (ne rfl (ne rfl (ne rfl (ne rfl (ne rfl (ne rfl (ne rfl (ne rfl f1)))))))))))))))) (xr (ne rfl (ne rfl (ne rfl (ne rfl (ne rfl (ne rfl (ne rfl (ne rfl (ne rfl (ne rfl (ne rfl (ne rfl (ne rfl (ne rfl (ne rfl f2))))))))))))))))) fun v62 h => ?_
                        refine on_s (askV_ok h) (k_eq (xr (ne rfl (ne rfl (ne rfl (ne rfl (ne rfl (ne rfl (ne rfl (ne rfl (ne rfl (ne rfl (ne rfl (ne rfl (ne rfl (ne rfl (ne rfl f1)))))))))))))))) (xr (ne rfl (ne rfl (ne rfl (ne rfl (ne rfl (ne rfl (ne rfl (ne rfl (ne rfl (ne rfl (ne rfl (ne rfl (ne rfl (ne rfl (ne rfl f2))))))))))))))))) fun v63 h => ?_
                        refine oa_s h (k_bslice (pbS rfl (pbS rfl (pbS rfl (pbS rfl pb0))))) fun v64 H n h => ?_
                        refine on_s h (k_bin (xr (ne rfl (ne rfl (ne rfl (ne rfl (ne rfl (ne rfl (ne rfl (ne rfl (ne rfl (ne rfl (ne rfl (ne rfl (ne rfl (ne rfl (ne rfl f7)))))))))))))))) rfl) fun v65 h => ?_
                        refine on_s h (k_iaddr rfl rfl) fun v66 h => ?_
                        refine on_t h (k_ld1 rfl) fun v67 h => ?_
                        refine o0 ?_
                        refine c_cond h (xr sm) (fun h => ?_) (fun h => ?_)
                        · refine c_ops ?_
                          refine ov_t (a := (.int .i64 (.ofNat 1) 0)) (k_mv rfl) ?_
                          refine o0 ?_
                          exact j41 _ _ _ ⟨_, sm, (ne rfl (ne rfl (ne rfl (ne rfl (ne rfl (ne rfl (ne rfl (ne rfl (ne rfl (ne rfl (ne rfl (ne rfl sm)))))))))))), h⟩
                        · refine c_skip ?_
                          exact j41 _ _ _ ⟨_, (ne rfl (ne rfl (ne rfl (ne rfl (ne rfl (ne rfl (ne rfl sm))))))), (ne rfl (ne rfl (ne rfl (ne rfl (ne rfl (ne rfl (ne rfl (ne rfl (ne rfl (ne rfl (ne rfl sm))))))))))), h⟩
    · refine c_seq ?_
      refine c_ops ?_
      refine on_t h (k_bin (xr (ne rfl (ne rfl sm))) rfl) fun v68 h => ?_
      refine o0 ?_
      refine c_cond h (xr sm) (fun h => ?_) (fun h => ?_)
      · refine c_ops ?_
        refine on_s h (k_bin rfl (xr (ne rfl (ne rfl sm)))) fun v69 h => ?_
        refine on_s h (k_bin rfl rfl) fun v70 h => ?_
        refine ov_t (a := v70) (k_mv rfl) ?_
        refine o0 ?_
        exact j9 _ _ _ ⟨_, sm, (ne rfl (ne rfl (ne rfl (ne rfl (ne rfl (ne rfl (ne rfl rfl))))))), (ne rfl (ne rfl (ne rfl (ne rfl (ne rfl (ne rfl (ne rfl rfl))))))), (ne rfl (ne rfl (ne rfl (ne rfl sm)))), h⟩
      · refine c_skip ?_
        exact j9 _ _ _ ⟨_, (ne rfl sm), (ne rfl (ne rfl (ne rfl (ne rfl (ne rfl (ne rfl rfl)))))), (ne rfl (ne rfl (ne rfl (ne rfl (ne rfl (ne rfl rfl)))))), (ne rfl (ne rfl (ne rfl sm))), h⟩
end Go.R3.LI

/- A function, with what it asks answered ahead. -/
namespace Go.R3.UB
open Go.Eng Go.R3
set_option maxRecDepth 100000
def r0 : X := .r q0
def r1 : X := .r q1
def r2 : X := .r q2
def r3 : X := .r q3
def r5 : X := .r q5
def r6 : X := .r q6
def r7 : X := .r q7
def r8 : X := .r q8
def r10 : X := .r q10
def r11 : X := .r q11
def r19 : X := .r q19
def r27 : X := .r q27
def r35 : X := .r q35
def r43 : X := .r q43
def r51 : X := .r q51
def r57 : X := .r q57
def r63 : X := .r q63
def r72 : X := .r q72
def lf_f139 : AF := .mk 4 (.seq (.ops [.mk (.to q5) .no (.a (.box r1)),
  .mk (.to q6) .no (.a (.box r2)),
  .mk (.to q7) .no (.a (.box r3)),
  .mk (.to q8) .no (.a (.alloc 2 [[(.int .i64 (.ofNat 0) 0), .nilp]]))])
 (.seq (.seq (.ops [.mk .ps .no (.n (.faddr 4 r5)),
    .mk (.to q10) .no (.n (.ld1 (.s 0)))])
   (.block 0 (.seq (.ops [.mk .ps .no (.n (.eq (.one .str) false r10 (.c (.str 1 43)))),
      .mk (.to q11) .no (.n (.mv (.s 0)))])
     (.cond r11 (.seq (.ops [.mk .ps .no (.n (.faddr 0 r6)),
        .mk .ps .no (.n (.ld1 (.s 0))),
        .mk .ps .no (.n (.faddr 0 r7)),
        .mk .ps .no (.n (.ld1 (.s 0))),
        .mk .ps .no (.n (.bin .add (.s 2) (.s 0))),
        .mk .ps .no (.n (.build [(.int .i64 (.ofNat 0) 0), .nilp] [(0, 1, (.s 0))])),
        .mk .no .no (.e (.st 2 r8 (.s 0)))])
       .ret)
      (.seq (.ops [.mk .ps .no (.n (.eq (.one .str) false r10 (.c (.str 1 45)))),
        .mk (.to q19) .no (.n (.mv (.s 0)))])
       (.cond r19 (.seq (.ops [.mk .ps .no (.n (.faddr 0 r6)),
          .mk .ps .no (.n (.ld1 (.s 0))),
          .mk .ps .no (.n (.faddr 0 r7)),
          .mk .ps .no (.n (.ld1 (.s 0))),
          .mk .ps .no (.n (.bin .sub (.s 2) (.s 0))),
          .mk .ps .no (.n (.build [(.int .i64 (.ofNat 0) 0), .nilp] [(0, 1, (.s 0))])),
          .mk .no .no (.e (.st 2 r8 (.s 0)))])
         .ret)
        (.seq (.ops [.mk .ps .no (.n (.eq (.one .str) false r10 (.c (.str 1 42)))),
          .mk (.to q27) .no (.n (.mv (.s 0)))])
         (.cond r27 (.seq (.ops [.mk .ps .no (.n (.faddr 0 r6)),
            .mk .ps .no (.n (.ld1 (.s 0))),
            .mk .ps .no (.n (.faddr 0 r7)),
            .mk .ps .no (.n (.ld1 (.s 0))),
            .mk .ps .no (.n (.bin .mul (.s 2) (.s 0))),
            .mk .ps .no (.n (.build [(.int .i64 (.ofNat 0) 0), .nilp] [(0, 1, (.s 0))])),
            .mk .no .no (.e (.st 2 r8 (.s 0)))])
           .ret)
          (.seq (.ops [.mk .ps .no (.n (.eq (.one .str) false r10 (.c (.str 1 60)))),
            .mk (.to q35) .no (.n (.mv (.s 0)))])
           (.cond r35 (.seq (.ops [.mk .ps .no (.n (.faddr 0 r6)),
              .mk .ps .no (.n (.ld1 (.s 0))),
              .mk .ps .no (.n (.faddr 0 r7)),
              .mk .ps .no (.n (.ld1 (.s 0))),
              .mk .ps .no (.n (.bin .lss (.s 2) (.s 0))),
              .mk .ps .no (.e (.call 126 [(.s 0)])),
              .mk .no .no (.e (.st 2 r8 (.s 0)))])
             .ret)
            (.seq (.ops [.mk .ps .no (.n (.eq (.one .str) false r10 (.c (.str 2 15676)))),
              .mk (.to q43) .no (.n (.mv (.s 0)))])
             (.cond r43 (.seq (.ops [.mk .ps .no (.n (.faddr 0 r6)),
                .mk .ps .no (.n (.ld1 (.s 0))),
                .mk .ps .no (.n (.faddr 0 r7)),
                .mk .ps .no (.n (.ld1 (.s 0))),
                .mk .ps .no (.n (.bin .leq (.s 2) (.s 0))),
                .mk .ps .no (.e (.call 126 [(.s 0)])),
                .mk .no .no (.e (.st 2 r8 (.s 0)))])
               .ret)
              (.seq (.ops [.mk .ps .no (.n (.eq (.one .str) false r10 (.c (.str 2 15677)))),
                .mk (.to q51) .no (.n (.mv (.s 0)))])
               (.cond r51 (.seq (.ops [.mk .ps .no (.n (.ldn 2 r6)),
                  .mk .ps .no (.n (.ldn 2 r7)),
                  .mk .ps .no (.n (.eq (.agg [.int, .ptr]) false (.s 1) (.s 0))),
                  .mk .ps .no (.e (.call 126 [(.s 0)])),
                  .mk .no .no (.e (.st 2 r8 (.s 0)))])
                 .ret)
                (.seq (.ops [.mk .ps .no (.n (.eq (.one .str) false r10 (.c (.str 2 15649)))),
                  .mk (.to q57) .no (.n (.mv (.s 0)))])
                 (.cond r57 (.seq (.ops [.mk .ps .no (.n (.ldn 2 r6)),
                    .mk .ps .no (.n (.ldn 2 r7)),
                    .mk .ps .no (.n (.eq (.agg [.int, .ptr]) true (.s 1) (.s 0))),
                    .mk .ps .no (.e (.call 126 [(.s 0)])),
                    .mk .no .no (.e (.st 2 r8 (.s 0)))])
                   .ret)
                  .skip))))))))))))))))
  (.seq (.block 1 (.seq (.ops [.mk .ps .no (.n (.faddr 0 r7)),
      .mk .ps .no (.n (.ld1 (.s 0))),
      .mk .ps .no (.n (.eq (.one .int) false (.s 0) (.c (.int .i64 (.ofNat 0) 0)))),
      .mk (.to q63) .no (.n (.mv (.s 0)))])
     (.cond r63 (.seq (.ops [.mk .ps .no (.n (.nilck r0)),
        .mk .ps .no (.n (.faddr 0 (.s 0))),
        .mk .ps .no (.n (.ld1 (.s 0))),
        .mk .ps .no (.e (.call 56 [(.s 0), (.c (.int .i64 (.ofNat 3) 0))])),
        .mk .no .no (.e (.st 2 r8 (.s 0)))])
       .ret)
      (.seq (.ops [.mk .ps .no (.n (.faddr 4 r5)),
        .mk .ps .no (.n (.ld1 (.s 0))),
        .mk .ps .no (.n (.eq (.one .str) false (.s 0) (.c (.str 1 47)))),
        .mk (.to q72) .no (.n (.mv (.s 0)))])
       (.cond r72 (.seq (.ops [.mk .ps .no (.n (.faddr 0 r6)),
          .mk .ps .no (.n (.ld1 (.s 0))),
          .mk .ps .no (.n (.faddr 0 r7)),
          .mk .ps .no (.n (.ld1 (.s 0))),
          .mk .ps .no (.n (.bin .quo (.s 2) (.s 0))),
          .mk .ps .no (.n (.build [(.int .i64 (.ofNat 0) 0), .nilp] [(0, 1, (.s 0))])),
          .mk .no .no (.e (.st 2 r8 (.s 0)))])
         .ret)
        .skip)))))
   (.seq (.ops [.mk .ps .no (.n (.faddr 0 r6)),
     .mk .ps .no (.n (.ld1 (.s 0))),
     .mk .ps .no (.n (.faddr 0 r7)),
     .mk .ps .no (.n (.ld1 (.s 0))),
     .mk .ps .no (.n (.bin .rem (.s 2) (.s 0))),
     .mk .ps .no (.n (.build [(.int .i64 (.ofNat 0) 0), .nilp] [(0, 1, (.s 0))])),
     .mk .no .no (.e (.st 2 r8 (.s 0)))])
    .ret))))
 [.celln q8 2] .no 0
theorem au_f139 : T.get F 139 = some lf_f139 := by kernel_rfl
noncomputable def u_f139 (y0 : Bool) (y1 : Bool) (y2 : Bool) (y3 : Bool) (lp : LpT) (G : Roms) (call : CallT) (a0 a1 a2 a3 : V) (H : Heap) (n : Nat) (k : KV) : Prop :=
 onA (aBoxV a1) H n fun v1 H n =>
 onA (aBoxV a2) H n fun v2 H n =>
 onA (aBoxV a3) H n fun v3 H n =>
 onA (aAlloc 2 [[(.int .i64 (.ofNat 0) 0), .nilp]] E0) H n fun v4 H n =>
 onV (paddV 4 v1) fun v5 =>
 onV (ld1V v5 G H) fun v6 =>
 onV (eqV (.one .str) false v6 (.str 1 43)) fun v7 =>
 onTst v7 true (onV (paddV 0 v2) fun v8 =>
 onV (ld1V v8 G H) fun v9 =>
 onV (paddV 0 v3) fun v10 =>
 onV (ld1V v10 G H) fun v11 =>
 onV (B2.ev .add v9 v11) fun v12 =>
 onV (buildV [(.int .i64 (.ofNat 0) 0), .nilp] [(0, 1, .c v12)]) fun v13 =>
 stV 2 v4 v13 H n fun v14 H n =>
 onO (getVs [.cn v4 2] G H) fun l => k (oneV l) H n) (onV (eqV (.one .str) false v6 (.str 1 45)) fun v15 =>
 onTst v15 true (onV (paddV 0 v2) fun v16 =>
 onV (ld1V v16 G H) fun v17 =>
 onV (paddV 0 v3) fun v18 =>
 onV (ld1V v18 G H) fun v19 =>
 onV (B2.ev .sub v17 v19) fun v20 =>
 onV (buildV [(.int .i64 (.ofNat 0) 0), .nilp] [(0, 1, .c v20)]) fun v21 =>
 stV 2 v4 v21 H n fun v22 H n =>
 onO (getVs [.cn v4 2] G H) fun l => k (oneV l) H n) (onV (eqV (.one .str) false v6 (.str 1 42)) fun v23 =>
 onTst v23 true (onV (paddV 0 v2) fun v24 =>
 onV (ld1V v24 G H) fun v25 =>
 onV (paddV 0 v3) fun v26 =>
 onV (ld1V v26 G H) fun v27 =>
 onV (B2.ev .mul v25 v27) fun v28 =>
 onV (buildV [(.int .i64 (.ofNat 0) 0), .nilp] [(0, 1, .c v28)]) fun v29 =>
 stV 2 v4 v29 H n fun v30 H n =>
 onO (getVs [.cn v4 2] G H) fun l => k (oneV l) H n) (onV (eqV (.one .str) false v6 (.str 1 60)) fun v31 =>
 onTst v31 true (onV (paddV 0 v2) fun v32 =>
 onV (ld1V v32 G H) fun v33 =>
 onV (paddV 0 v3) fun v34 =>
 onV (ld1V v34 G H) fun v35 =>
 askV y0 (B2.ev .lss v33 v35) fun v36 =>
 call 126 [v36] H n fun v37 H n =>
 stV 2 v4 v37 H n fun v38 H n =>
 onO (getVs [.cn v4 2] G H) fun l => k (oneV l) H n) (onV (eqV (.one .str) false v6 (.str 2 15676)) fun v39 =>
 onTst v39 true (onV (paddV 0 v2) fun v40 =>
 onV (ld1V v40 G H) fun v41 =>
 onV (paddV 0 v3) fun v42 =>
 onV (ld1V v42 G H) fun v43 =>
 askV y1 (B2.ev .leq v41 v43) fun v44 =>
 call 126 [v44] H n fun v45 H n =>
 stV 2 v4 v45 H n fun v46 H n =>
 onO (getVs [.cn v4 2] G H) fun l => k (oneV l) H n) (onV (eqV (.one .str) false v6 (.str 2 15677)) fun v47 =>
 onTst v47 true (onV (ldnV 2 v2 G H) fun v48 =>
 onV (ldnV 2 v3 G H) fun v49 =>
 askV y2 (eqV (.agg [.int, .ptr]) false v48 v49) fun v50 =>
 call 126 [v50] H n fun v51 H n =>
 stV 2 v4 v51 H n fun v52 H n =>
 onO (getVs [.cn v4 2] G H) fun l => k (oneV l) H n) (onV (eqV (.one .str) false v6 (.str 2 15649)) fun v53 =>
 onTst v53 true (onV (ldnV 2 v2 G H) fun v54 =>
 onV (ldnV 2 v3 G H) fun v55 =>
 askV y3 (eqV (.agg [.int, .ptr]) true v54 v55) fun v56 =>
 call 126 [v56] H n fun v57 H n =>
 stV 2 v4 v57 H n fun v58 H n =>
 onO (getVs [.cn v4 2] G H) fun l => k (oneV l) H n) (onV (paddV 0 v3) fun v59 =>
 onV (ld1V v59 G H) fun v60 =>
 onV (eqV (.one .int) false v60 (.int .i64 (.ofNat 0) 0)) fun v61 =>
 onTst v61 true (onV (nilckV a0) fun v62 =>
 onV (paddV 0 v62) fun v63 =>
 onV (ld1V v63 G H) fun v64 =>
 call 56 [v64, (.int .i64 (.ofNat 3) 0)] H n fun v65 H n =>
 stV 2 v4 v65 H n fun v66 H n =>
 onO (getVs [.cn v4 2] G H) fun l => k (oneV l) H n) (onV (paddV 4 v1) fun v67 =>
 onV (ld1V v67 G H) fun v68 =>
 onV (eqV (.one .str) false v68 (.str 1 47)) fun v69 =>
 onTst v69 true (onV (paddV 0 v2) fun v70 =>
 onV (ld1V v70 G H) fun v71 =>
 onV (paddV 0 v3) fun v72 =>
 onV (ld1V v72 G H) fun v73 =>
 onV (B2.ev .quo v71 v73) fun v74 =>
 onV (buildV [(.int .i64 (.ofNat 0) 0), .nilp] [(0, 1, .c v74)]) fun v75 =>
 stV 2 v4 v75 H n fun v76 H n =>
 onO (getVs [.cn v4 2] G H) fun l => k (oneV l) H n) (onV (paddV 0 v2) fun v77 =>
 onV (ld1V v77 G H) fun v78 =>
 onV (paddV 0 v3) fun v79 =>
 onV (ld1V v79 G H) fun v80 =>
 onV (B2.ev .rem v78 v80) fun v81 =>
 onV (buildV [(.int .i64 (.ofNat 0) 0), .nilp] [(0, 1, .c v81)]) fun v82 =>
 stV 2 v4 v82 H n fun v83 H n =>
 onO (getVs [.cn v4 2] G H) fun l => k (oneV l) H n)))))))))
theorem ui_f139 (y0 : Bool) (y1 : Bool) (y2 : Bool) (y3 : Bool) {lp : LpT} (hL : LpOk lp) (G : Roms) : SfOk G lf_f139 (ar4 (u_f139 y0 y1 y2 y3 lp G)) := by
  intro call callE hle hd
  refine fun l H n k h0 => ?_
  obtain ⟨a0, a1, a2, a3, rfl, h⟩ := ar4_inv h0
  clear h0
  delta u_f139 at h
  refine f_intro rfl ?_
  refine c_seq ?_
  refine c_ops ?_
  refine oa_t h (k_box (xr rfl)) fun v1 H n h => ?_
  refine oa_t h (k_box (xr (ne rfl rfl))) fun v2 H n h => ?_
  refine oa_t h (k_box (xr (ne rfl (ne rfl rfl)))) fun v3 H n h => ?_
  refine oa_t h k_alloc fun v4 H n h => ?_
  refine o0 ?_
  refine c_seq ?_
  refine c_seq ?_
  refine c_ops ?_
  refine on_s h (k_faddr (xr (ne rfl (ne rfl (ne rfl sm))))) fun v5 h => ?_
  refine on_t h (k_ld1 rfl) fun v6 h => ?_
  refine o0 ?_
  refine c_block ?_
  refine c_seq ?_
  refine c_ops ?_
  refine on_s h (k_eq (xr sm) rfl) fun v7 h => ?_
  refine ov_t (a := v7) (k_mv rfl) ?_
  refine o0 ?_
  refine c_cond h (xr sm) (fun h => ?_) (fun h => ?_)
  · refine c_seq ?_
    refine c_ops ?_
    refine on_s h (k_faddr (xr (ne rfl (ne rfl (ne rfl (ne rfl sm)))))) fun v8 h => ?_
    refine on_s h (k_ld1 rfl) fun v9 h => ?_
    refine on_s h (k_faddr (xr (ne rfl (ne rfl (ne rfl sm))))) fun v10 h => ?_
    refine on_s h (k_ld1 rfl) fun v11 h => ?_
    refine on_s h (k_bin rfl rfl) fun v12 h => ?_
    refine on_s h (k_build (psS rfl ps0)) fun v13 h => ?_
    refine oe_x hle hd h (k_st (xr (ne rfl (ne rfl sm))) rfl) fun v14 H n h => ?_
    refine o0 ?_
    refine c_ret ?_
    exact fin_no (rsN (ne rfl (ne rfl sm)) rs0) h
  · refine c_seq ?_
    refine c_ops ?_
    refine on_s h (k_eq (xr (ne rfl sm)) rfl) fun v15 h => ?_
    refine ov_t (a := v15) (k_mv rfl) ?_
    refine o0 ?_
    refine c_cond h (xr sm) (fun h => ?_) (fun h => ?_)
    · refine c_seq ?_
      refine c_ops ?_
      refine on_s h (k_faddr (xr (ne rfl (ne rfl (ne rfl (ne rfl (ne rfl sm))))))) fun v16 h => ?_
      refine on_s h (k_ld1 rfl) fun v17 h => ?_
      refine on_s h (k_faddr (xr (ne rfl (ne rfl (ne rfl (ne rfl sm)))))) fun v18 h => ?_
      refine on_s h (k_ld1 rfl) fun v19 h => ?_
      refine on_s h (k_bin rfl rfl) fun v20 h => ?_
      refine on_s h (k_build (psS rfl ps0)) fun v21 h => ?_
      refine oe_x hle hd h (k_st (xr (ne rfl (ne rfl (ne rfl sm)))) rfl) fun v22 H n h => ?_
      refine o0 ?_
      refine c_ret ?_
      exact fin_no (rsN (ne rfl (ne rfl (ne rfl sm))) rs0) h
    · refine c_seq ?_
      refine c_ops ?_
      refine on_s h (k_eq (xr (ne rfl (ne rfl sm))) rfl) fun v23 h => ?_
      refine ov_t (a := v23) (k_mv rfl) ?_
      refine o0 ?_
      refine c_cond h (xr sm) (fun h => ?_) (fun h => ?_)
      · refine c_seq ?_
        refine c_ops ?_
        refine on_s h (k_faddr (xr (ne rfl (ne rfl (ne rfl (ne rfl (ne rfl (ne rfl sm)))))))) fun v24 h => ?_
        refine on_s h (k_ld1 rfl) fun v25 h => ?_
        refine on_s h (k_faddr (xr (ne rfl (ne rfl (ne rfl (ne rfl (ne rfl sm))))))) fun v26 h => ?_
        refine on_s h (k_ld1 rfl) fun v27 h => ?_
        refine on_s h (k_bin rfl rfl) fun v28 h => ?_
        refine on_s h (k_build (psS rfl ps0)) fun v29 h => ?_
        refine oe_x hle hd h (k_st (xr (ne rfl (ne rfl (ne rfl (ne rfl sm))))) rfl) fun v30 H n h => ?_
        refine o0 ?_
        refine c_ret ?_
        exact fin_no (rsN (ne rfl (ne rfl (ne rfl (ne rfl sm)))) rs0) h
      · refine c_seq ?_
        refine c_ops ?_
        refine on_s h (k_eq (xr (ne rfl (ne rfl (ne rfl sm)))) rfl) fun v31 h => ?_
        refine ov_t (a := v31) (k_mv rfl) ?_
        refine o0 ?_
        refine c_cond h (xr sm) (fun h => ?_) (fun h => ?_)
        · refine c_seq ?_
          refine c_ops ?_
          refine on_s h (k_faddr (xr (ne rfl (ne rfl (ne rfl (ne rfl (ne rfl (ne rfl (ne rfl sm))))))))) fun v32 h => ?_
          refine on_s h (k_ld1 rfl) fun v33 h => ?_
          refine on_s h (k_faddr (xr (ne rfl (ne rfl (ne rfl (ne rfl (ne rfl (ne rfl sm)))))))) fun v34 h => ?_
          refine on_s h (k_ld1 rfl) fun v35 h => ?_
          refine on_s (askV_ok h) (k_bin rfl rfl) fun v36 h => ?_
          refine oe_s hle hd h (k_call (xsS rfl xs0)) fun v37 H n h => ?_
          refine oe_x hle hd h (k_st (xr (ne rfl (ne rfl (ne rfl (ne rfl (ne rfl sm)))))) rfl) fun v38 H n h => ?_
          refine o0 ?_
          refine c_ret ?_
          exact fin_no (rsN (ne rfl (ne rfl (ne rfl (ne rfl (ne rfl sm))))) rs0) h
        · refine c_seq ?_
          refine c_ops ?_
          refine on_s h (k_eq (xr (ne rfl (ne rfl (ne rfl (ne rfl sm))))) rfl) fun v39 h => ?_
          refine ov_t (a := v39) (k_mv rfl) ?_
          refine o0 ?_
          refine c_cond h (xr sm) (fun h => ?_) (fun h => ?_)
          · refine c_seq ?_
            refine c_ops ?_
            refine on_s h (k_faddr (xr (ne rfl (ne rfl (ne rfl (ne rfl (ne rfl (ne rfl (ne rfl (ne rfl sm)))))))))) fun v40 h => ?_
            refine on_s h (k_ld1 rfl) fun v41 h => ?_
            refine on_s h (k_faddr (xr (ne rfl (ne rfl (ne rfl (ne rfl (ne rfl (ne rfl (ne rfl sm))))))))) fun v42 h => ?_
            refine on_s h (k_ld1 rfl) fun v43 h => ?_
            refine on_s (askV_ok h) (k_bin rfl rfl) fun v44 h => ?_
            refine oe_s hle hd h (k_call (xsS rfl xs0)) fun v45 H n h => ?_
            refine oe_x hle hd h (k_st (xr (ne rfl (ne rfl (ne rfl (ne rfl (ne rfl (ne rfl sm))))))) rfl) fun v46 H n h => ?_
            refine o0 ?_
            refine c_ret ?_
            exact fin_no (rsN (ne rfl (ne rfl (ne rfl (ne rfl (ne rfl (ne rfl sm)))))) rs0) h
          · refine c_seq ?_
            refine c_ops ?_
            refine on_s h (k_eq (xr (ne rfl (ne rfl (ne rfl (ne rfl (ne rfl sm)))))) rfl) fun v47 h => ?_
            refine ov_t (a := v47) (k_mv rfl) ?_
            refine o0 ?_
            refine c_cond h (xr sm) (fun h => ?_) (fun h => ?_)
            · refine c_seq ?_
              refine c_ops ?_
              refine on_s h (k_ldn (xr (ne rfl (ne rfl (ne rfl (ne rfl (ne rfl (ne rfl (ne rfl (ne rfl (ne rfl sm))))))))))) fun v48 h => ?_
              refine on_s h (k_ldn (xr (ne rfl (ne rfl (ne rfl (ne rfl (ne rfl (ne rfl (ne rfl (ne rfl sm)))))))))) fun v49 h => ?_
              refine on_s (askV_ok h) (k_eq rfl rfl) fun v50 h => ?_
              refine oe_s hle hd h (k_call (xsS rfl xs0)) fun v51 H n h => ?_
              refine oe_x hle hd h (k_st (xr (ne rfl (ne rfl (ne rfl (ne rfl (ne rfl (ne rfl (ne rfl sm)))))))) rfl) fun v52 H n h => ?_
              refine o0 ?_
              refine c_ret ?_
              exact fin_no (rsN (ne rfl (ne rfl (ne rfl (ne rfl (ne rfl (ne rfl (ne rfl sm))))))) rs0) h
            · refine c_seq ?_
              refine c_ops ?_
              refine on_s h (k_eq (xr (ne rfl (ne rfl (ne rfl (ne rfl (ne rfl (ne rfl sm))))))) rfl) fun v53 h => ?_
              refine ov_t (a := v53) (k_mv rfl) ?_
              refine o0 ?_
              refine c_cond h (xr sm) (fun h => ?_) (fun h => ?_)
              · refine c_seq ?_
                refine c_ops ?_
                refine on_s h (k_ldn (xr (ne rfl (ne rfl (ne rfl (ne rfl (ne rfl (ne rfl (ne rfl (ne rfl (ne rfl (ne rfl sm)))))))))))) fun v54 h => ?_
                refine on_s h (k_ldn (xr (ne rfl (ne rfl (ne rfl (ne rfl (ne rfl (ne rfl (ne rfl (ne rfl (ne rfl sm))))))))))) fun v55 h => ?_
                refine on_s (askV_ok h) (k_eq rfl rfl) fun v56 h => ?_
                refine oe_s hle hd h (k_call (xsS rfl xs0)) fun v57 H n h => ?_
                refine oe_x hle hd h (k_st (xr (ne rfl (ne rfl (ne rfl (ne rfl (ne rfl (ne rfl (ne rfl (ne rfl sm))))))))) rfl) fun v58 H n h => ?_
                refine o0 ?_
                refine c_ret ?_
                exact fin_no (rsN (ne rfl (ne rfl (ne rfl (ne rfl (ne rfl (ne rfl (ne rfl (ne rfl sm)))))))) rs0) h
              · refine c_skip ?_
                refine c_seq ?_
                refine c_block ?_
                refine c_seq ?_
                refine c_ops ?_
                refine on_s h (k_faddr (xr (ne rfl (ne rfl (ne rfl (ne rfl (ne rfl (ne rfl (ne rfl (ne rfl (ne rfl sm))))))))))) fun v59 h => ?_
                refine on_s h (k_ld1 rfl) fun v60 h => ?_
                refine on_s h (k_eq rfl rfl) fun v61 h => ?_
                refine ov_t (a := v61) (k_mv rfl) ?_
                refine o0 ?_
                refine c_cond h (xr sm) (fun h => ?_) (fun h => ?_)
                · refine c_seq ?_
                  refine c_ops ?_
                  refine on_s h (k_nilck (xr (ne rfl (ne rfl (ne rfl (ne rfl (ne rfl (ne rfl (ne rfl (ne rfl (ne rfl (ne rfl (ne rfl (ne rfl (ne rfl rfl))))))))))))))) fun v62 h => ?_
                  refine on_s h (k_faddr rfl) fun v63 h => ?_
                  refine on_s h (k_ld1 rfl) fun v64 h => ?_
                  refine oe_s hle hd h (k_call (xsS rfl (xsS rfl xs0))) fun v65 H n h => ?_
                  refine oe_x hle hd h (k_st (xr (ne rfl (ne rfl (ne rfl (ne rfl (ne rfl (ne rfl (ne rfl (ne rfl (ne rfl sm)))))))))) rfl) fun v66 H n h => ?_
                  refine o0 ?_
                  refine c_ret ?_
                  exact fin_no (rsN (ne rfl (ne rfl (ne rfl (ne rfl (ne rfl (ne rfl (ne rfl (ne rfl (ne rfl sm))))))))) rs0) h
                · refine c_seq ?_
                  refine c_ops ?_
                  refine on_s h (k_faddr (xr (ne rfl (ne rfl (ne rfl (ne rfl (ne rfl (ne rfl (ne rfl (ne rfl (ne rfl (ne rfl (ne rfl (ne rfl sm)))))))))))))) fun v67 h => ?_
                  refine on_s h (k_ld1 rfl) fun v68 h => ?_
                  refine on_s h (k_eq rfl rfl) fun v69 h => ?_
                  refine ov_t (a := v69) (k_mv rfl) ?_
                  refine o0 ?_
                  refine c_cond h (xr sm) (fun h => ?_) (fun h => ?_)
                  · refine c_seq ?_
                    refine c_ops ?_
                    refine on_s h (k_faddr (xr (ne rfl (ne rfl (ne rfl (ne rfl (ne rfl (ne rfl (ne rfl (ne rfl (ne rfl (ne rfl (ne rfl (ne rfl sm)))))))))))))) fun v70 h => ?_
                    refine on_s h (k_ld1 rfl) fun v71 h => ?_
                    refine on_s h (k_faddr (xr (ne rfl (ne rfl (ne rfl (ne rfl (ne rfl (ne rfl (ne rfl (ne rfl (ne rfl (ne rfl (ne rfl sm))))))))))))) fun v72 h => ?_
                    refine on_s h (k_ld1 rfl) fun v73 h => ?_
                    refine on_s h (k_bin rfl rfl) fun v74 h => ?_
                    refine on_s h (k_build (psS rfl ps0)) fun v75 h => ?_
                    refine oe_x hle hd h (k_st (xr (ne rfl (ne rfl (ne rfl (ne rfl (ne rfl (ne rfl (ne rfl (ne rfl (ne rfl (ne rfl sm))))))))))) rfl) fun v76 H n h => ?_
                    refine o0 ?_
                    refine c_ret ?_
                    exact fin_no (rsN (ne rfl (ne rfl (ne rfl (ne rfl (ne rfl (ne rfl (ne rfl (ne rfl (ne rfl (ne rfl sm)))))))))) rs0) h
                  · refine c_skip ?_
                    refine c_seq ?_
                    refine c_ops ?_
                    refine on_s h (k_faddr (xr (ne rfl (ne rfl (ne rfl (ne rfl (ne rfl (ne rfl (ne rfl (ne rfl (ne rfl (ne rfl (ne rfl (ne rfl sm)))))))))))))) fun v77 h => ?_
                    refine on_s h (k_ld1 rfl) fun v78 h => ?_
                    refine on_s h (k_faddr (xr (ne rfl (ne rfl (ne rfl (ne rfl (ne rfl (ne rfl (ne rfl (ne rfl (ne rfl (ne rfl (ne rfl sm))))))))))))) fun v79 h => ?_
                    refine on_s h (k_ld1 rfl) fun v80 h => ?_
                    refine on_s h (k_bin rfl rfl) fun v81 h => ?_
                    refine on_s h (k_build (psS rfl ps0)) fun v82 h => ?_
                    refine oe_x hle hd h (k_st (xr (ne rfl (ne rfl (ne rfl (ne rfl (ne rfl (ne rfl (ne rfl (ne rfl (ne rfl (ne rfl sm))))))))))) rfl) fun v83 H n h => ?_
                    refine o0 ?_
                    refine c_ret ?_
                    exact fin_no (rsN (ne rfl (ne rfl (ne rfl (ne rfl (ne rfl (ne rfl (ne rfl (ne rfl (ne rfl (ne rfl sm)))))))))) rs0) h
end Go.R3.UB

/- What is asked of two numbers, and what the program with these answers is. -/
set_option maxRecDepth 100000
namespace Go.R3.LI
open Go.Eng Go.R3
noncomputable def fs1 (a b c d : Bool) : T SF := T.set (FS (lpF 600) G0) 139 (ar4 (UB.u_f139 a b c d (lpF 600) G0))
theorem fs1_ok (a b c d : Bool) : FsOk F G0 (fs1 a b c d) := (fs_ok (lpF_ok 600) G0).set UB.au_f139 (UB.ui_f139 a b c d (lpF_ok 600) G0)
noncomputable def tt (a b c d : Bool) (z0 x y : Int) (k : Nat) : Prop := t_f7 (lpF 600) G0 (runS (fs1 a b c d) 600) z0 x y k a b c d .e 0 isT
noncomputable def I (x : Int) : V := .int .i64 x 0
noncomputable def Same (a : Int) : Prop := eqV (.one .int) false (I a) (I a) = some (.bool true) ∧ True
theorem same (a : Int) : Same a := ⟨eq_self a, trivial⟩
noncomputable def Ask (a b c d : Bool) (x y : Int) : Prop := B2.ev .lss (I x) (I y) = some (.bool a) ∧ B2.ev .leq (I x) (I y) = some (.bool b) ∧ eqV (.one .int) false (I x) (I y) = some (.bool c) ∧ eqV (.one .int) true (I x) (I y) = some (.bool d) ∧ some (V.bool true) = some (V.bool true) ∧ True
theorem ask_l {x y : Int} (h : x < y) : Ask true true false true x y := ⟨by unfold I; rw [lss_i]; simp; omega, by unfold I; rw [leq_i]; simp; omega, by unfold I; rw [eq_i]; simp; omega, by unfold I; rw [neq_i]; simp; omega, rfl, trivial⟩
theorem ask_e {x y : Int} (h : x = y) : Ask false true true false x y := ⟨by unfold I; rw [lss_i]; simp; omega, by unfold I; rw [leq_i]; simp; omega, by unfold I; rw [eq_i]; simp; omega, by unfold I; rw [neq_i]; simp; omega, rfl, trivial⟩
theorem ask_g {x y : Int} (h : y < x) : Ask false false false true x y := ⟨by unfold I; rw [lss_i]; simp; omega, by unfold I; rw [leq_i]; simp; omega, by unfold I; rw [eq_i]; simp; omega, by unfold I; rw [neq_i]; simp; omega, rfl, trivial⟩
theorem agg_f (x y : Int) : eqV (.agg [.int, .ptr]) false (.agg [I x, .nilp]) (.agg [I y, .nilp]) = some (.bool (x == y)) := by
  show ofB (bbind (bbind (some (ieq x y)) fun r => bbind (bbind (some true) fun s => bbind (some true) fun t => some (band s t)) fun t => some (band r t)) fun b => some b) = _
  rw [ieq_eq]; cases x == y <;> rfl
theorem agg_t (x y : Int) : eqV (.agg [.int, .ptr]) true (.agg [I x, .nilp]) (.agg [I y, .nilp]) = some (.bool (!(x == y))) := by
  show ofB (bbind (bbind (some (ieq x y)) fun r => bbind (bbind (some true) fun s => bbind (some true) fun t => some (band s t)) fun t => some (band r t)) fun b => some (bnot b)) = _
  rw [ieq_eq]; cases x == y <;> rfl
end Go.R3.LI

