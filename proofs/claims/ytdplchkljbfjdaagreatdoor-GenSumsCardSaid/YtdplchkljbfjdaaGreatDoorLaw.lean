/- Part of a proof: texts GB GN GBB of the engine and what is proved with it; nothing is assumed. -/
import Derived.Test.YtdplchkljbfjdaaGreatDoorPlainR
import Derived.Test.YtdplchkljbfjdaaGreatDoorCode
import Derived.Test.YtdplchkljbfjdaaGreatDoorEngF
set_option linter.unusedVariables false
set_option linter.unusedSimpArgs false
/- The law, with what it reads of its numbers. -/
namespace Go.R5.GB
open Go.Eng Go.R5
set_option maxRecDepth 100000
def r0 : X := .r q0
def r1 : X := .r q1
def r5 : X := .r q5
def r6 : X := .r q6
def r7 : X := .r q7
def r8 : X := .r q8
def r9 : X := .r q9
def r10 : X := .r q10
def r11 : X := .r q11
def r12 : X := .r q12
def r13 : X := .r q13
def r14 : X := .r q14
def r16 : X := .r q16
def r19 : X := .r q19
def r21 : X := .r q21
def r22 : X := .r q22
def r23 : X := .r q23
def r24 : X := .r q24
def r43 : X := .r q43
def r51 : X := .r q51
def r73 : X := .r q73
def lf : AF := .mk 2 (.seq (.ops [.mk (.to q4) .no (.n (.mv (.c (.bool false))))])
 (.seq (.seq (.ops [.mk .ps .no (.e (.call 9 [])),
    .mk (.to q16) .no (.n (.not (.s 0)))])
   (.cond r16 (.seq (.ops [.mk (.to q4) .no (.n (.mv (.c (.bool false))))])
     .ret)
    .skip))
  (.seq (.seq (.ops [.mk .ps .no (.n (.lenL r0)),
     .mk (.to q19) .no (.n (.bin .gtr (.s 0) (.c (.int .i64 (.ofNat 40) 0))))])
    (.cond r19 (.seq (.ops [.mk (.to q4) .no (.n (.mv (.c (.bool true))))])
      .ret)
     .skip))
   (.seq (.ops [.mk (.to q5) .no (.n (.mv (.c (.str 1 49))))])
    (.seq (.ops [.mk (.to q6) .no (.n (.mv (.c (.int .i64 (.ofNat 1) 0))))])
     (.seq (.seq (.ops [.mk (.to q21) .no (.n (.lenL r0)),
        .mk (.to q22) .no (.n (.mv (.c (.int .i64 (.ofNat 0) 0))))])
       (.block 0 (.loop (.seq (.ops [.mk (.to q23) .no (.n (.bin .lss r22 r21))])
          (.seq (.cond r23 .skip
            (.exit 0))
           (.seq (.block 1 (.seq (.ops [.mk (.to q24) .no (.n (.mv r1))])
              (.cond r24 (.seq (.ops [.mk .ps .no (.n (.bin .add r5 (.c (.str 4 824191776)))),
                 .mk (.to q5) .no (.n (.mv (.s 0)))])
                (.ops [.mk (.to q6) .no (.n (.mv (.c (.int .i64 (.ofNat 2) 0))))]))
               (.seq (.ops [.mk .ps .no (.n (.bin .add (.c (.str 5 172338389041)) r5)),
                 .mk .ps .no (.n (.bin .add (.s 0) (.c (.str 1 41)))),
                 .mk (.to q5) .no (.n (.mv (.s 0)))])
                (.ops [.mk .ps .no (.n (.bin .add r6 (.c (.int .i64 (.ofNat 1) 0)))),
                 .mk (.to q6) .no (.n (.mv (.s 0)))])))))
            (.ops [.mk .ps .no (.n (.bin .add r22 (.c (.int .i64 (.ofNat 1) 0)))),
             .mk (.to q22) .no (.n (.mv (.s 0)))])))))))
      (.seq (.ops [.mk .ps .no (.n (.bin .add (.c (.str 41 69273122586299370775437552105084643885283031915285940998150844784828457230849937358407172465192035)) r5)),
        .mk .ps .no (.n (.bin .add (.s 0) (.c (.str 5 537415983163)))),
        .mk .ps .no (.a (.bslice 1 1 [(.str 0 0)] [(0, (.s 0))])),
        .mk .ps .no (.e (.call 10 [(.s 0)])),
        .mk .ps .no (.n (.ext (.s 0) 0)),
        .mk .ps .no (.n (.ext (.s 1) 1)),
        .mk .ps .no (.n (.ext (.s 2) 2)),
        .mk (.to q7) .no (.n (.mv (.s 2))),
        .mk (.to q8) .no (.n (.mv (.s 1))),
        .mk (.to q9) .no (.n (.mv (.s 0)))])
       (.seq (.seq (.ops [.mk (.to q43) .no (.n (.not r9))])
         (.cond r43 (.seq (.ops [.mk (.to q4) .no (.n (.mv (.c (.bool false))))])
           .ret)
          .skip))
        (.seq (.ops [.mk .ps .no (.e (.call 11 [r8, r7])),
          .mk .ps .no (.n (.ext (.s 0) 0)),
          .mk .ps .no (.n (.ext (.s 1) 1)),
          .mk (.to q10) .no (.n (.mv (.s 1))),
          .mk (.to q11) .no (.n (.mv (.s 0)))])
         (.seq (.seq (.ops [.mk (.to q51) .no (.n (.not r11))])
           (.cond r51 (.seq (.ops [.mk (.to q4) .no (.n (.mv (.c (.bool false))))])
             .ret)
            .skip))
          (.seq (.ops [.mk .ps .no (.n (.iaddr 10 r10 (.c (.int .i64 (.ofNat 0) 0)))),
            .mk .ps .no (.n (.faddr 9 (.s 0))),
            .mk .ps .no (.n (.ld1 (.s 0))),
            .mk .ps .no (.n (.iaddr 3 (.s 0) (.c (.int .i64 (.ofNat 0) 0)))),
            .mk .ps .no (.n (.ldn 3 (.s 0))),
            .mk (.to q12) .no (.a (.alloc 3 [[(.int .i64 (.ofNat 0) 0), (.int .i64 (.ofNat 0) 0), .nils]])),
            .mk .no .no (.e (.st 3 r12 (.s 0)))])
           (.seq (.seq (.ops [.mk .ps .no (.n (.faddr 2 r12)),
              .mk .ps .no (.n (.ld1 (.s 0))),
              .mk .ps .no (.n (.lenL (.s 0))),
              .mk .ps .no (.n (.lenL r0)),
              .mk .ps .no (.n (.bin .mul (.c (.int .i64 (.ofNat 2) 0)) (.s 0))),
              .mk .ps .no (.n (.bin .add (.s 0) (.c (.int .i64 (.ofNat 1) 0)))),
              .mk .ps .no (.n (.bin .add (.s 0) (.c (.int .i64 (.ofNat 1) 0)))),
              .mk .ps .no (.n (.bin .add (.s 0) (.c (.int .i64 (.ofNat 2) 0)))),
              .mk .ps .no (.n (.eq (.one .int) true (.s 5) (.s 0))),
              .mk .ps (.on (.s 0) false) (.n (.faddr 1 r12)),
              .mk .ps (.on (.s 1) false) (.n (.ld1 (.s 0))),
              .mk .ps (.on (.s 2) false) (.n (.mv r6)),
              .mk .ps (.on (.s 3) false) (.n (.eq (.one .int) true (.s 1) (.s 0))),
              .mk (.to q73) .no (.n (.pick (.s 4) (.c (.bool true)) (.s 0)))])
             (.cond r73 (.seq (.ops [.mk (.to q4) .no (.n (.mv (.c (.bool false))))])
               .ret)
              .skip))
            (.seq (.ops [.mk .ps .no (.n (.build [(.int .i64 (.ofNat 0) 0), (.int .i64 (.ofNat 0) 0), (.int .i64 (.ofNat 0) 0)] [(0, 1, (.c (.int .i64 (.ofNat 500) 0))), (2, 1, (.c (.int .i64 (.ofNat 1) 0)))])),
              .mk .ps .no (.n (.build [.nilp, .nils, (.int .i64 (.ofNat 0) 0), (.int .i64 (.ofNat 0) 0), (.int .i64 (.ofNat 0) 0), (.bool false), (.int .i64 (.ofNat 0) 0), .nils, .nils, (.int .i64 (.ofNat 0) 0)] [(0, 1, r8), (1, 1, r10), (2, 3, (.s 0))])),
              .mk .ps .no (.a (.box (.s 0))),
              .mk (.to q13) .no (.n (.mv (.s 0)))])
             (.seq (.ops [.mk .ps .no (.e (.call 12 [r13, (.c (.str 1 65)), (.c (.str 1 109)), (.c .nils)])),
               .mk (.to q14) .no (.a (.alloc 3 [[(.int .i64 (.ofNat 0) 0), (.int .i64 (.ofNat 0) 0), .nils]])),
               .mk .no .no (.e (.st 3 r14 (.s 0)))])
              (.seq (.ops [.mk .ps .no (.n (.nilck r13)),
                .mk .ps .no (.n (.faddr 5 (.s 0))),
                .mk .ps .no (.n (.ld1 (.s 0))),
                .mk .ps .no (.n (.not (.s 0))),
                .mk .ps (.on (.s 0) true) (.n (.faddr 1 r14)),
                .mk .ps (.on (.s 1) true) (.n (.ld1 (.s 0))),
                .mk .ps (.on (.s 2) true) (.n (.mv r0)),
                .mk .ps (.on (.s 3) true) (.n (.lenL (.s 0))),
                .mk .ps (.on (.s 4) true) (.n (.bin .add (.s 0) (.c (.int .i64 (.ofNat 1) 0)))),
                .mk .ps (.on (.s 5) true) (.n (.eq (.one .int) false (.s 3) (.s 0))),
                .mk .ps .no (.n (.pick (.s 6) (.s 0) (.c (.bool false)))),
                .mk (.to q4) .no (.n (.mv (.s 0)))])
               .ret)))))))))))))))
 [.tmp q4] .no 0
theorem at_law : T.get F 4 = some lf := by kernel_rfl
noncomputable def t_f4_j5 (lp : LpT) (G : Roms) (call : CallT) (k : KV) (b1 : Bool) (d0 : Nat) (g0 : Nat) (l0 : Nat) (m0 : Nat) (y0 : Bool) (a5_j5 : V) (a6_j5 : V) (H : Heap) (n : Nat) : Prop :=
 onV (B2.ev .add (.str 41 69273122586299370775437552105084643885283031915285940998150844784828457230849937358407172465192035) a5_j5) fun v6 =>
 onV (B2.ev .add v6 (.str 5 537415983163)) fun v7 =>
 onA (aBslice 1 1 [(.str 0 0)] [(0, .c v7)] E0) H n fun v8 H n =>
 call 10 [v8] H n fun v9 H n =>
 onV (extV v9 0) fun v10 =>
 onV (extV v9 1) fun v11 =>
 onV (extV v9 2) fun v12 =>
 onV (notV v12) fun v13 =>
 onTst v13 true (k (.bool false) H n) (call 11 [v11, v10] H n fun v14 H n =>
 onV (extV v14 0) fun v15 =>
 onV (extV v14 1) fun v16 =>
 onV (notV v16) fun v17 =>
 onTst v17 true (k (.bool false) H n) (onV (iaddrV 10 v15 (.int .i64 (.ofNat 0) 0)) fun v18 =>
 onV (paddV 9 v18) fun v19 =>
 onV (ld1V v19 G H) fun v20 =>
 onV (iaddrV 3 v20 (.int .i64 (.ofNat 0) 0)) fun v21 =>
 onV (ldnV 3 v21 G H) fun v22 =>
 onA (aAlloc 3 [[(.int .i64 (.ofNat 0) 0), (.int .i64 (.ofNat 0) 0), .nils]] E0) H n fun v23 H n =>
 stV 3 v23 v22 H n fun v24 H n =>
 onV (paddV 2 v23) fun v25 =>
 onV (ld1V v25 G H) fun v26 =>
 onV (lenV v26) fun v27 =>
 onV (lenV (.rsl g0 d0 l0 m0 1)) fun v28 =>
 onV (B2.ev .mul (.int .i64 (.ofNat 2) 0) v28) fun v29 =>
 onV (B2.ev .add v29 (.int .i64 (.ofNat 1) 0)) fun v30 =>
 onV (B2.ev .add v30 (.int .i64 (.ofNat 1) 0)) fun v31 =>
 onV (B2.ev .add v31 (.int .i64 (.ofNat 2) 0)) fun v32 =>
 onV (eqV (.one .int) true v27 v32) fun v33 =>
 onG v33 false (paddV 1 v23) fun v34 =>
 onG v33 false (ld1V v34 G H) fun v35 =>
 onG v33 false (some a6_j5) fun v36 =>
 onG v33 false (eqV (.one .int) true v35 v36) fun v37 =>
 onV (pickV v33 (.bool true) v37) fun v38 =>
 onTst v38 true (k (.bool false) H n) (onV (buildV [(.int .i64 (.ofNat 0) 0), (.int .i64 (.ofNat 0) 0), (.int .i64 (.ofNat 0) 0)] [(0, 1, .c (.int .i64 (.ofNat 500) 0)), (2, 1, .c (.int .i64 (.ofNat 1) 0))]) fun v39 =>
 onV (buildV [.nilp, .nils, (.int .i64 (.ofNat 0) 0), (.int .i64 (.ofNat 0) 0), (.int .i64 (.ofNat 0) 0), (.bool false), (.int .i64 (.ofNat 0) 0), .nils, .nils, (.int .i64 (.ofNat 0) 0)] [(0, 1, .c v11), (1, 1, .c v15), (2, 3, .c v39)]) fun v40 =>
 onA (aBoxV v40) H n fun v41 H n =>
 call 12 [v41, (.str 1 65), (.str 1 109), .nils] H n fun v42 H n =>
 onA (aAlloc 3 [[(.int .i64 (.ofNat 0) 0), (.int .i64 (.ofNat 0) 0), .nils]] E0) H n fun v43 H n =>
 stV 3 v43 v42 H n fun v44 H n =>
 onV (nilckV v41) fun v45 =>
 onV (paddV 5 v45) fun v46 =>
 onV (ld1V v46 G H) fun v47 =>
 onV (notV v47) fun v48 =>
 onG v48 true (paddV 1 v43) fun v49 =>
 onG v48 true (ld1V v49 G H) fun v50 =>
 onG v48 true (some (.rsl g0 d0 l0 m0 1)) fun v51 =>
 onG v48 true (lenV v51) fun v52 =>
 onG v48 true (B2.ev .add v52 (.int .i64 (.ofNat 1) 0)) fun v53 =>
 onG v48 true (eqV (.one .int) false v50 v53) fun v54 =>
 onV (pickV v48 v54 (.bool false)) fun v55 =>
 k v55 H n)))
noncomputable def t_f4_j59 (lp : LpT) (G : Roms) (call : CallT) (k : KV) (ih57 : (V × V × V × Heap × Nat) → Prop) (a22_l57 : V) (b1 : Bool) (d0 : Nat) (g0 : Nat) (l0 : Nat) (m0 : Nat) (v56 : V) (y0 : Bool) (a5_j59 : V) (a6_j59 : V) (H : Heap) (n : Nat) : Prop :=
 onV (B2.ev .add a22_l57 (.int .i64 (.ofNat 1) 0)) fun v60 =>
 ih57 (a5_j59, a6_j59, v60, H, n)
noncomputable def t_f4_l57 (lp : LpT) (G : Roms) (call : CallT) (k : KV) (b1 : Bool) (d0 : Nat) (g0 : Nat) (l0 : Nat) (m0 : Nat) (v56 : V) (y0 : Bool) (ih57 : (V × V × V × Heap × Nat) → Prop) (a5_l57 a6_l57 a22_l57 : V) (H : Heap) (n : Nat) : Prop :=
 onV (B2.ev .lss a22_l57 v56) fun v58 =>
 onTst v58 true (onTst (.bool b1) true (onV (B2.ev .add a5_l57 (.str 4 824191776)) fun v61 =>
 t_f4_j59 lp G call k ih57 a22_l57 b1 d0 g0 l0 m0 v56 y0 v61 (.int .i64 (.ofNat 2) 0) H n) (onV (B2.ev .add (.str 5 172338389041) a5_l57) fun v62 =>
 onV (B2.ev .add v62 (.str 1 41)) fun v63 =>
 onV (B2.ev .add a6_l57 (.int .i64 (.ofNat 1) 0)) fun v64 =>
 t_f4_j59 lp G call k ih57 a22_l57 b1 d0 g0 l0 m0 v56 y0 v63 v64 H n)) (t_f4_j5 lp G call k b1 d0 g0 l0 m0 y0 a5_l57 a6_l57 H n)
noncomputable def t_f4 (lp : LpT) (G : Roms) (call : CallT) (g0 : Nat) (d0 : Nat) (l0 : Nat) (m0 : Nat) (b1 : Bool) (y0 : Bool) (H : Heap) (n : Nat) (k : KV) : Prop :=
 call 9 [] H n fun v1 H n =>
 onV (notV v1) fun v2 =>
 onTst v2 true (k (.bool false) H n) (onV (lenV (.rsl g0 d0 l0 m0 1)) fun v3 =>
 askV y0 (B2.ev .gtr v3 (.int .i64 (.ofNat 40) 0)) fun v4 =>
 onTst v4 true (k (.bool true) H n) (onV (lenV (.rsl g0 d0 l0 m0 1)) fun v56 =>
 lp (V × V × V × Heap × Nat) (fun ih s => t_f4_l57 lp G call k b1 d0 g0 l0 m0 v56 y0 ih s.1 s.2.1 s.2.2.1 s.2.2.2.1 s.2.2.2.2) ((.str 1 49), (.int .i64 (.ofNat 1) 0), (.int .i64 (.ofNat 0) 0), H, n)))
theorem ti_f4 {lp : LpT} (hL : LpOk lp) {G : Roms} {call callE : CallT} (g0 : Nat) (d0 : Nat) (l0 : Nat) (m0 : Nat) (b1 : Bool) (y0 : Bool)  (hle : CallLe call callE) (hd : CallDet callE) {H : Heap} {n : Nat} {k : KV} (h : t_f4 lp G call g0 d0 l0 m0 b1 y0 H n k) : exFunL lf G callE [(.rsl g0 d0 l0 m0 1), (.bool b1)] H n k := by
  delta t_f4 at h
  refine f_intro rfl ?_
  refine c_seq ?_
  refine c_ops ?_
  refine ov_t (a := (.bool false)) (k_mv rfl) ?_
  refine o0 ?_
  refine c_seq ?_
  refine c_seq ?_
  refine c_ops ?_
  refine oe_s hle hd h (k_call xs0) fun v1 H n h => ?_
  refine on_t h (k_not rfl) fun v2 h => ?_
  refine o0 ?_
  refine c_cond h (xr sm) (fun h => ?_) (fun h => ?_)
  · refine c_seq ?_
    refine c_ops ?_
    refine ov_t (a := (.bool false)) (k_mv rfl) ?_
    refine o0 ?_
    refine c_ret ?_
    exact fin_no (rsT sm rs0) h
  · refine c_skip ?_
    refine c_seq ?_
    refine c_seq ?_
    refine c_ops ?_
    refine on_s h (k_lenL (xr (ne rfl (ne rfl rfl)))) fun v3 h => ?_
    refine on_t (askV_ok h) (k_bin rfl rfl) fun v4 h => ?_
    refine o0 ?_
    refine c_cond h (xr sm) (fun h => ?_) (fun h => ?_)
    · refine c_seq ?_
      refine c_ops ?_
      refine ov_t (a := (.bool true)) (k_mv rfl) ?_
      refine o0 ?_
      refine c_ret ?_
      exact fin_no (rsT sm rs0) h
    · refine c_skip ?_
      refine c_seq ?_
      refine c_ops ?_
      refine ov_t (a := (.str 1 49)) (k_mv rfl) ?_
      refine o0 ?_
      refine c_seq ?_
      refine c_ops ?_
      refine ov_t (a := (.int .i64 (.ofNat 1) 0)) (k_mv rfl) ?_
      refine o0 ?_
      refine c_seqj (fun R H n => ∃ a5_j5 a6_j5, rg R q5 = a5_j5 ∧ rg R q6 = a6_j5 ∧ rg R q0 = (.rsl g0 d0 l0 m0 1) ∧ t_f4_j5 lp G call k b1 d0 g0 l0 m0 y0 a5_j5 a6_j5 H n) ?_ fun j5 => ?_
      · rintro R H n ⟨a5_j5, a6_j5, f5, f6, f0, h⟩
        delta t_f4_j5 at h
        refine c_seq ?_
        refine c_ops ?_
        refine on_s h (k_bin rfl (xr f5)) fun v6 h => ?_
        refine on_s h (k_bin rfl rfl) fun v7 h => ?_
        refine oa_s h (k_bslice (pbS rfl pb0)) fun v8 H n h => ?_
        refine oe_s hle hd h (k_call (xsS rfl xs0)) fun v9 H n h => ?_
        refine on_s h (k_ext rfl) fun v10 h => ?_
        refine on_s h (k_ext rfl) fun v11 h => ?_
        refine on_s h (k_ext rfl) fun v12 h => ?_
        refine ov_t (a := v10) (k_mv rfl) ?_
        refine ov_t (a := v11) (k_mv rfl) ?_
        refine ov_t (a := v12) (k_mv rfl) ?_
        refine o0 ?_
        refine c_seq ?_
        refine c_seq ?_
        refine c_ops ?_
        refine on_t h (k_not (xr sm)) fun v13 h => ?_
        refine o0 ?_
        refine c_cond h (xr sm) (fun h => ?_) (fun h => ?_)
        · refine c_seq ?_
          refine c_ops ?_
          refine ov_t (a := (.bool false)) (k_mv rfl) ?_
          refine o0 ?_
          refine c_ret ?_
          exact fin_no (rsT sm rs0) h
        · refine c_skip ?_
          refine c_seq ?_
          refine c_ops ?_
          refine oe_s hle hd h (k_call (xsS (xr (ne rfl (ne rfl sm))) (xsS (xr (ne rfl (ne rfl (ne rfl sm)))) xs0))) fun v14 H n h => ?_
          refine on_s h (k_ext rfl) fun v15 h => ?_
          refine on_s h (k_ext rfl) fun v16 h => ?_
          refine ov_t (a := v15) (k_mv rfl) ?_
          refine ov_t (a := v16) (k_mv rfl) ?_
          refine o0 ?_
          refine c_seq ?_
          refine c_seq ?_
          refine c_ops ?_
          refine on_t h (k_not (xr sm)) fun v17 h => ?_
          refine o0 ?_
          refine c_cond h (xr sm) (fun h => ?_) (fun h => ?_)
          · refine c_seq ?_
            refine c_ops ?_
            refine ov_t (a := (.bool false)) (k_mv rfl) ?_
            refine o0 ?_
            refine c_ret ?_
            exact fin_no (rsT sm rs0) h
          · refine c_skip ?_
            refine c_seq ?_
            refine c_ops ?_
            refine on_s h (k_iaddr (xr (ne rfl (ne rfl sm))) rfl) fun v18 h => ?_
            refine on_s h (k_faddr rfl) fun v19 h => ?_
            refine on_s h (k_ld1 rfl) fun v20 h => ?_
            refine on_s h (k_iaddr rfl rfl) fun v21 h => ?_
            refine on_s h (k_ldn rfl) fun v22 h => ?_
            refine oa_t h k_alloc fun v23 H n h => ?_
            refine oe_x hle hd h (k_st (xr sm) rfl) fun v24 H n h => ?_
            refine o0 ?_
            refine c_seq ?_
            refine c_seq ?_
            refine c_ops ?_
            refine on_s h (k_faddr (xr sm)) fun v25 h => ?_
            refine on_s h (k_ld1 rfl) fun v26 h => ?_
            refine on_s h (k_lenL rfl) fun v27 h => ?_
            refine on_s h (k_lenL (xr (ne rfl (ne rfl (ne rfl (ne rfl (ne rfl (ne rfl (ne rfl (ne rfl f0)))))))))) fun v28 h => ?_
            refine on_s h (k_bin rfl rfl) fun v29 h => ?_
            refine on_s h (k_bin rfl rfl) fun v30 h => ?_
            refine on_s h (k_bin rfl rfl) fun v31 h => ?_
            refine on_s h (k_bin rfl rfl) fun v32 h => ?_
            refine on_s h (k_eq rfl rfl) fun v33 h => ?_
            refine ogn_s h rfl (k_faddr (xr sm)) fun v34 h => ?_
            refine ogn_s h rfl (k_ld1 rfl) fun v35 h => ?_
            refine ogn_s h rfl (k_mv (xr (ne rfl (ne rfl (ne rfl (ne rfl (ne rfl (ne rfl (ne rfl (ne rfl f6)))))))))) fun v36 h => ?_
            refine ogn_s h rfl (k_eq rfl rfl) fun v37 h => ?_
            refine on_t h (k_pick rfl rfl rfl) fun v38 h => ?_
            refine o0 ?_
            refine c_cond h (xr sm) (fun h => ?_) (fun h => ?_)
            · refine c_seq ?_
              refine c_ops ?_
              refine ov_t (a := (.bool false)) (k_mv rfl) ?_
              refine o0 ?_
              refine c_ret ?_
              exact fin_no (rsT sm rs0) h
            · refine c_skip ?_
              refine c_seq ?_
              refine c_ops ?_
              refine on_s h (k_build (psS rfl (psS rfl ps0))) fun v39 h => ?_
              refine on_s h (k_build (psS (xr (ne rfl (ne rfl (ne rfl (ne rfl (ne rfl (ne rfl (ne rfl sm)))))))) (psS (xr (ne rfl (ne rfl (ne rfl (ne rfl sm))))) (psS rfl ps0)))) fun v40 h => ?_
              refine oa_s h (k_box rfl) fun v41 H n h => ?_
              refine ov_t (a := v41) (k_mv rfl) ?_
              refine o0 ?_
              refine c_seq ?_
              refine c_ops ?_
              refine oe_s hle hd h (k_call (xsS (xr sm) (xsS rfl (xsS rfl (xsS rfl xs0))))) fun v42 H n h => ?_
              refine oa_t h k_alloc fun v43 H n h => ?_
              refine oe_x hle hd h (k_st (xr sm) rfl) fun v44 H n h => ?_
              refine o0 ?_
              refine c_seq ?_
              refine c_ops ?_
              refine on_s h (k_nilck (xr (ne rfl sm))) fun v45 h => ?_
              refine on_s h (k_faddr rfl) fun v46 h => ?_
              refine on_s h (k_ld1 rfl) fun v47 h => ?_
              refine on_s h (k_not rfl) fun v48 h => ?_
              refine ogn_s h rfl (k_faddr (xr sm)) fun v49 h => ?_
              refine ogn_s h rfl (k_ld1 rfl) fun v50 h => ?_
              refine ogn_s h rfl (k_mv (xr (ne rfl (ne rfl (ne rfl (ne rfl (ne rfl (ne rfl (ne rfl (ne rfl (ne rfl (ne rfl (ne rfl f0))))))))))))) fun v51 h => ?_
              refine ogn_s h rfl (k_lenL rfl) fun v52 h => ?_
              refine ogn_s h rfl (k_bin rfl rfl) fun v53 h => ?_
              refine ogn_s h rfl (k_eq rfl rfl) fun v54 h => ?_
              refine on_s h (k_pick rfl rfl rfl) fun v55 h => ?_
              refine ov_t (a := v55) (k_mv rfl) ?_
              refine o0 ?_
              refine c_ret ?_
              exact fin_no (rsT sm rs0) h
      · refine c_seq ?_
        refine c_ops ?_
        refine on_t h (k_lenL (xr (ne rfl (ne rfl (ne rfl (ne rfl (ne rfl rfl))))))) fun v56 h => ?_
        refine ov_t (a := (.int .i64 (.ofNat 0) 0)) (k_mv rfl) ?_
        refine o0 ?_
        refine c_block ?_
        refine c_loop hL (fun s R H n => rg R q5 = s.1 ∧ rg R q6 = s.2.1 ∧ rg R q22 = s.2.2.1 ∧ rg R q0 = (.rsl g0 d0 l0 m0 1) ∧ rg R q1 = (.bool b1) ∧ rg R q21 = v56 ∧ H = s.2.2.2.1 ∧ n = s.2.2.2.2) h ⟨(ne rfl (ne rfl (ne rfl sm))), (ne rfl (ne rfl sm)), sm, (ne rfl (ne rfl (ne rfl (ne rfl (ne rfl (ne rfl (ne rfl rfl))))))), (ne rfl (ne rfl (ne rfl (ne rfl (ne rfl (ne rfl (ne rfl rfl))))))), (ne rfl sm), rfl, rfl⟩ ?_
        rintro ih57 I57 hI57 ⟨a5_l57, a6_l57, a22_l57, H, n⟩ R H0 n0 ⟨f5, f6, f22, f0, f1, f21, eH, eN⟩ h
        replace h : t_f4_l57 lp G call k b1 d0 g0 l0 m0 v56 y0 ih57 a5_l57 a6_l57 a22_l57 H n := h
        obtain rfl : H0 = H := eH
        obtain rfl : n0 = n := eN
        delta t_f4_l57 at h
        refine c_seq ?_
        refine c_ops ?_
        refine on_t h (k_bin (xr f22) (xr f21)) fun v58 h => ?_
        refine o0 ?_
        refine c_seq ?_
        refine c_cond h (xr sm) (fun h => ?_) (fun h => ?_)
        · refine c_skip ?_
          refine c_seqj (fun R H n => ∃ a5_j59 a6_j59, rg R q5 = a5_j59 ∧ rg R q6 = a6_j59 ∧ rg R q0 = (.rsl g0 d0 l0 m0 1) ∧ rg R q1 = (.bool b1) ∧ rg R q21 = v56 ∧ rg R q22 = a22_l57 ∧ t_f4_j59 lp G call k ih57 a22_l57 b1 d0 g0 l0 m0 v56 y0 a5_j59 a6_j59 H n) ?_ fun j59 => ?_
          · rintro R H n ⟨a5_j59, a6_j59, f5, f6, f0, f1, f21, f22, h⟩
            delta t_f4_j59 at h
            refine c_ops ?_
            refine on_s h (k_bin (xr f22) rfl) fun v60 h => ?_
            refine ov_t (a := v60) (k_mv rfl) ?_
            refine o0 ?_
            exact hI57 (a5_j59, a6_j59, v60, H, n) _ _ _ ⟨(ne rfl f5), (ne rfl f6), sm, (ne rfl f0), (ne rfl f1), (ne rfl f21), rfl, rfl⟩ h
          · refine c_block ?_
            refine c_seq ?_
            refine c_ops ?_
            refine ov_t (a := (.bool b1)) (k_mv (xr (ne rfl f1))) ?_
            refine o0 ?_
            refine c_cond h (xr sm) (fun h => ?_) (fun h => ?_)
            · refine c_seq ?_
              refine c_ops ?_
              refine on_s h (k_bin (xr (ne rfl (ne rfl f5))) rfl) fun v61 h => ?_
              refine ov_t (a := v61) (k_mv rfl) ?_
              refine o0 ?_
              refine c_ops ?_
              refine ov_t (a := (.int .i64 (.ofNat 2) 0)) (k_mv rfl) ?_
              refine o0 ?_
              exact j59 _ _ _ ⟨_, _, (ne rfl sm), sm, (ne rfl (ne rfl (ne rfl (ne rfl f0)))), (ne rfl (ne rfl (ne rfl (ne rfl f1)))), (ne rfl (ne rfl (ne rfl (ne rfl f21)))), (ne rfl (ne rfl (ne rfl (ne rfl f22)))), h⟩
            · refine c_seq ?_
              refine c_ops ?_
              refine on_s h (k_bin rfl (xr (ne rfl (ne rfl f5)))) fun v62 h => ?_
              refine on_s h (k_bin rfl rfl) fun v63 h => ?_
              refine ov_t (a := v63) (k_mv rfl) ?_
              refine o0 ?_
              refine c_ops ?_
              refine on_s h (k_bin (xr (ne rfl (ne rfl (ne rfl f6)))) rfl) fun v64 h => ?_
              refine ov_t (a := v64) (k_mv rfl) ?_
              refine o0 ?_
              exact j59 _ _ _ ⟨_, _, (ne rfl sm), sm, (ne rfl (ne rfl (ne rfl (ne rfl f0)))), (ne rfl (ne rfl (ne rfl (ne rfl f1)))), (ne rfl (ne rfl (ne rfl (ne rfl f21)))), (ne rfl (ne rfl (ne rfl (ne rfl f22)))), h⟩
        · refine c_exit ?_
          refine bx_same ?_
          exact j5 _ _ _ ⟨_, _, (ne rfl f5), (ne rfl f6), (ne rfl f0), h⟩
end Go.R5.GB

/- The law, with what it reads of its numbers. -/
namespace Go.R5.GN
open Go.Eng Go.R5
set_option maxRecDepth 100000
def r0 : X := .r q0
def r1 : X := .r q1
def r5 : X := .r q5
def r6 : X := .r q6
def r7 : X := .r q7
def r8 : X := .r q8
def r9 : X := .r q9
def r10 : X := .r q10
def r11 : X := .r q11
def r12 : X := .r q12
def r13 : X := .r q13
def r14 : X := .r q14
def r16 : X := .r q16
def r19 : X := .r q19
def r21 : X := .r q21
def r22 : X := .r q22
def r23 : X := .r q23
def r24 : X := .r q24
def r43 : X := .r q43
def r51 : X := .r q51
def r73 : X := .r q73
def lf : AF := .mk 2 (.seq (.ops [.mk (.to q4) .no (.n (.mv (.c (.bool false))))])
 (.seq (.seq (.ops [.mk .ps .no (.e (.call 9 [])),
    .mk (.to q16) .no (.n (.not (.s 0)))])
   (.cond r16 (.seq (.ops [.mk (.to q4) .no (.n (.mv (.c (.bool false))))])
     .ret)
    .skip))
  (.seq (.seq (.ops [.mk .ps .no (.n (.lenL r0)),
     .mk (.to q19) .no (.n (.bin .gtr (.s 0) (.c (.int .i64 (.ofNat 40) 0))))])
    (.cond r19 (.seq (.ops [.mk (.to q4) .no (.n (.mv (.c (.bool true))))])
      .ret)
     .skip))
   (.seq (.ops [.mk (.to q5) .no (.n (.mv (.c (.str 1 49))))])
    (.seq (.ops [.mk (.to q6) .no (.n (.mv (.c (.int .i64 (.ofNat 1) 0))))])
     (.seq (.seq (.ops [.mk (.to q21) .no (.n (.lenL r0)),
        .mk (.to q22) .no (.n (.mv (.c (.int .i64 (.ofNat 0) 0))))])
       (.block 0 (.loop (.seq (.ops [.mk (.to q23) .no (.n (.bin .lss r22 r21))])
          (.seq (.cond r23 .skip
            (.exit 0))
           (.seq (.block 1 (.seq (.ops [.mk (.to q24) .no (.n (.mv r1))])
              (.cond r24 (.seq (.ops [.mk .ps .no (.n (.bin .add r5 (.c (.str 4 824191776)))),
                 .mk (.to q5) .no (.n (.mv (.s 0)))])
                (.ops [.mk (.to q6) .no (.n (.mv (.c (.int .i64 (.ofNat 2) 0))))]))
               (.seq (.ops [.mk .ps .no (.n (.bin .add (.c (.str 5 172338389041)) r5)),
                 .mk .ps .no (.n (.bin .add (.s 0) (.c (.str 1 41)))),
                 .mk (.to q5) .no (.n (.mv (.s 0)))])
                (.ops [.mk .ps .no (.n (.bin .add r6 (.c (.int .i64 (.ofNat 1) 0)))),
                 .mk (.to q6) .no (.n (.mv (.s 0)))])))))
            (.ops [.mk .ps .no (.n (.bin .add r22 (.c (.int .i64 (.ofNat 1) 0)))),
             .mk (.to q22) .no (.n (.mv (.s 0)))])))))))
      (.seq (.ops [.mk .ps .no (.n (.bin .add (.c (.str 41 69273122586299370775437552105084643885283031915285940998150844784828457230849937358407172465192035)) r5)),
        .mk .ps .no (.n (.bin .add (.s 0) (.c (.str 5 537415983163)))),
        .mk .ps .no (.a (.bslice 1 1 [(.str 0 0)] [(0, (.s 0))])),
        .mk .ps .no (.e (.call 10 [(.s 0)])),
        .mk .ps .no (.n (.ext (.s 0) 0)),
        .mk .ps .no (.n (.ext (.s 1) 1)),
        .mk .ps .no (.n (.ext (.s 2) 2)),
        .mk (.to q7) .no (.n (.mv (.s 2))),
        .mk (.to q8) .no (.n (.mv (.s 1))),
        .mk (.to q9) .no (.n (.mv (.s 0)))])
       (.seq (.seq (.ops [.mk (.to q43) .no (.n (.not r9))])
         (.cond r43 (.seq (.ops [.mk (.to q4) .no (.n (.mv (.c (.bool false))))])
           .ret)
          .skip))
        (.seq (.ops [.mk .ps .no (.e (.call 11 [r8, r7])),
          .mk .ps .no (.n (.ext (.s 0) 0)),
          .mk .ps .no (.n (.ext (.s 1) 1)),
          .mk (.to q10) .no (.n (.mv (.s 1))),
          .mk (.to q11) .no (.n (.mv (.s 0)))])
         (.seq (.seq (.ops [.mk (.to q51) .no (.n (.not r11))])
           (.cond r51 (.seq (.ops [.mk (.to q4) .no (.n (.mv (.c (.bool false))))])
             .ret)
            .skip))
          (.seq (.ops [.mk .ps .no (.n (.iaddr 10 r10 (.c (.int .i64 (.ofNat 0) 0)))),
            .mk .ps .no (.n (.faddr 9 (.s 0))),
            .mk .ps .no (.n (.ld1 (.s 0))),
            .mk .ps .no (.n (.iaddr 3 (.s 0) (.c (.int .i64 (.ofNat 0) 0)))),
            .mk .ps .no (.n (.ldn 3 (.s 0))),
            .mk (.to q12) .no (.a (.alloc 3 [[(.int .i64 (.ofNat 0) 0), (.int .i64 (.ofNat 0) 0), .nils]])),
            .mk .no .no (.e (.st 3 r12 (.s 0)))])
           (.seq (.seq (.ops [.mk .ps .no (.n (.faddr 2 r12)),
              .mk .ps .no (.n (.ld1 (.s 0))),
              .mk .ps .no (.n (.lenL (.s 0))),
              .mk .ps .no (.n (.lenL r0)),
              .mk .ps .no (.n (.bin .mul (.c (.int .i64 (.ofNat 2) 0)) (.s 0))),
              .mk .ps .no (.n (.bin .add (.s 0) (.c (.int .i64 (.ofNat 1) 0)))),
              .mk .ps .no (.n (.bin .add (.s 0) (.c (.int .i64 (.ofNat 1) 0)))),
              .mk .ps .no (.n (.bin .add (.s 0) (.c (.int .i64 (.ofNat 2) 0)))),
              .mk .ps .no (.n (.eq (.one .int) true (.s 5) (.s 0))),
              .mk .ps (.on (.s 0) false) (.n (.faddr 1 r12)),
              .mk .ps (.on (.s 1) false) (.n (.ld1 (.s 0))),
              .mk .ps (.on (.s 2) false) (.n (.mv r6)),
              .mk .ps (.on (.s 3) false) (.n (.eq (.one .int) true (.s 1) (.s 0))),
              .mk (.to q73) .no (.n (.pick (.s 4) (.c (.bool true)) (.s 0)))])
             (.cond r73 (.seq (.ops [.mk (.to q4) .no (.n (.mv (.c (.bool false))))])
               .ret)
              .skip))
            (.seq (.ops [.mk .ps .no (.n (.build [(.int .i64 (.ofNat 0) 0), (.int .i64 (.ofNat 0) 0), (.int .i64 (.ofNat 0) 0)] [(0, 1, (.c (.int .i64 (.ofNat 500) 0))), (2, 1, (.c (.int .i64 (.ofNat 1) 0)))])),
              .mk .ps .no (.n (.build [.nilp, .nils, (.int .i64 (.ofNat 0) 0), (.int .i64 (.ofNat 0) 0), (.int .i64 (.ofNat 0) 0), (.bool false), (.int .i64 (.ofNat 0) 0), .nils, .nils, (.int .i64 (.ofNat 0) 0)] [(0, 1, r8), (1, 1, r10), (2, 3, (.s 0))])),
              .mk .ps .no (.a (.box (.s 0))),
              .mk (.to q13) .no (.n (.mv (.s 0)))])
             (.seq (.ops [.mk .ps .no (.e (.call 12 [r13, (.c (.str 1 65)), (.c (.str 1 109)), (.c .nils)])),
               .mk (.to q14) .no (.a (.alloc 3 [[(.int .i64 (.ofNat 0) 0), (.int .i64 (.ofNat 0) 0), .nils]])),
               .mk .no .no (.e (.st 3 r14 (.s 0)))])
              (.seq (.ops [.mk .ps .no (.n (.nilck r13)),
                .mk .ps .no (.n (.faddr 5 (.s 0))),
                .mk .ps .no (.n (.ld1 (.s 0))),
                .mk .ps .no (.n (.not (.s 0))),
                .mk .ps (.on (.s 0) true) (.n (.faddr 1 r14)),
                .mk .ps (.on (.s 1) true) (.n (.ld1 (.s 0))),
                .mk .ps (.on (.s 2) true) (.n (.mv r0)),
                .mk .ps (.on (.s 3) true) (.n (.lenL (.s 0))),
                .mk .ps (.on (.s 4) true) (.n (.bin .add (.s 0) (.c (.int .i64 (.ofNat 1) 0)))),
                .mk .ps (.on (.s 5) true) (.n (.eq (.one .int) false (.s 3) (.s 0))),
                .mk .ps .no (.n (.pick (.s 6) (.s 0) (.c (.bool false)))),
                .mk (.to q4) .no (.n (.mv (.s 0)))])
               .ret)))))))))))))))
 [.tmp q4] .no 0
theorem at_law : T.get F 4 = some lf := by kernel_rfl
noncomputable def t_f4_j5 (lp : LpT) (G : Roms) (call : CallT) (k : KV) (b1 : Bool) (a5_j5 : V) (a6_j5 : V) (H : Heap) (n : Nat) : Prop :=
 onV (B2.ev .add (.str 41 69273122586299370775437552105084643885283031915285940998150844784828457230849937358407172465192035) a5_j5) fun v6 =>
 onV (B2.ev .add v6 (.str 5 537415983163)) fun v7 =>
 onA (aBslice 1 1 [(.str 0 0)] [(0, .c v7)] E0) H n fun v8 H n =>
 call 10 [v8] H n fun v9 H n =>
 onV (extV v9 0) fun v10 =>
 onV (extV v9 1) fun v11 =>
 onV (extV v9 2) fun v12 =>
 onV (notV v12) fun v13 =>
 onTst v13 true (k (.bool false) H n) (call 11 [v11, v10] H n fun v14 H n =>
 onV (extV v14 0) fun v15 =>
 onV (extV v14 1) fun v16 =>
 onV (notV v16) fun v17 =>
 onTst v17 true (k (.bool false) H n) (onV (iaddrV 10 v15 (.int .i64 (.ofNat 0) 0)) fun v18 =>
 onV (paddV 9 v18) fun v19 =>
 onV (ld1V v19 G H) fun v20 =>
 onV (iaddrV 3 v20 (.int .i64 (.ofNat 0) 0)) fun v21 =>
 onV (ldnV 3 v21 G H) fun v22 =>
 onA (aAlloc 3 [[(.int .i64 (.ofNat 0) 0), (.int .i64 (.ofNat 0) 0), .nils]] E0) H n fun v23 H n =>
 stV 3 v23 v22 H n fun v24 H n =>
 onV (paddV 2 v23) fun v25 =>
 onV (ld1V v25 G H) fun v26 =>
 onV (lenV v26) fun v27 =>
 onV (lenV .nils) fun v28 =>
 onV (B2.ev .mul (.int .i64 (.ofNat 2) 0) v28) fun v29 =>
 onV (B2.ev .add v29 (.int .i64 (.ofNat 1) 0)) fun v30 =>
 onV (B2.ev .add v30 (.int .i64 (.ofNat 1) 0)) fun v31 =>
 onV (B2.ev .add v31 (.int .i64 (.ofNat 2) 0)) fun v32 =>
 onV (eqV (.one .int) true v27 v32) fun v33 =>
 onG v33 false (paddV 1 v23) fun v34 =>
 onG v33 false (ld1V v34 G H) fun v35 =>
 onG v33 false (some a6_j5) fun v36 =>
 onG v33 false (eqV (.one .int) true v35 v36) fun v37 =>
 onV (pickV v33 (.bool true) v37) fun v38 =>
 onTst v38 true (k (.bool false) H n) (onV (buildV [(.int .i64 (.ofNat 0) 0), (.int .i64 (.ofNat 0) 0), (.int .i64 (.ofNat 0) 0)] [(0, 1, .c (.int .i64 (.ofNat 500) 0)), (2, 1, .c (.int .i64 (.ofNat 1) 0))]) fun v39 =>
 onV (buildV [.nilp, .nils, (.int .i64 (.ofNat 0) 0), (.int .i64 (.ofNat 0) 0), (.int .i64 (.ofNat 0) 0), (.bool false), (.int .i64 (.ofNat 0) 0), .nils, .nils, (.int .i64 (.ofNat 0) 0)] [(0, 1, .c v11), (1, 1, .c v15), (2, 3, .c v39)]) fun v40 =>
 onA (aBoxV v40) H n fun v41 H n =>
 call 12 [v41, (.str 1 65), (.str 1 109), .nils] H n fun v42 H n =>
 onA (aAlloc 3 [[(.int .i64 (.ofNat 0) 0), (.int .i64 (.ofNat 0) 0), .nils]] E0) H n fun v43 H n =>
 stV 3 v43 v42 H n fun v44 H n =>
 onV (nilckV v41) fun v45 =>
 onV (paddV 5 v45) fun v46 =>
 onV (ld1V v46 G H) fun v47 =>
 onV (notV v47) fun v48 =>
 onG v48 true (paddV 1 v43) fun v49 =>
 onG v48 true (ld1V v49 G H) fun v50 =>
 onG v48 true (some .nils) fun v51 =>
 onG v48 true (lenV v51) fun v52 =>
 onG v48 true (B2.ev .add v52 (.int .i64 (.ofNat 1) 0)) fun v53 =>
 onG v48 true (eqV (.one .int) false v50 v53) fun v54 =>
 onV (pickV v48 v54 (.bool false)) fun v55 =>
 k v55 H n)))
noncomputable def t_f4_j59 (lp : LpT) (G : Roms) (call : CallT) (k : KV) (ih57 : (V × V × V × Heap × Nat) → Prop) (a22_l57 : V) (b1 : Bool) (v56 : V) (a5_j59 : V) (a6_j59 : V) (H : Heap) (n : Nat) : Prop :=
 onV (B2.ev .add a22_l57 (.int .i64 (.ofNat 1) 0)) fun v60 =>
 ih57 (a5_j59, a6_j59, v60, H, n)
noncomputable def t_f4_l57 (lp : LpT) (G : Roms) (call : CallT) (k : KV) (b1 : Bool) (v56 : V) (ih57 : (V × V × V × Heap × Nat) → Prop) (a5_l57 a6_l57 a22_l57 : V) (H : Heap) (n : Nat) : Prop :=
 onV (B2.ev .lss a22_l57 v56) fun v58 =>
 onTst v58 true (onTst (.bool b1) true (onV (B2.ev .add a5_l57 (.str 4 824191776)) fun v61 =>
 t_f4_j59 lp G call k ih57 a22_l57 b1 v56 v61 (.int .i64 (.ofNat 2) 0) H n) (onV (B2.ev .add (.str 5 172338389041) a5_l57) fun v62 =>
 onV (B2.ev .add v62 (.str 1 41)) fun v63 =>
 onV (B2.ev .add a6_l57 (.int .i64 (.ofNat 1) 0)) fun v64 =>
 t_f4_j59 lp G call k ih57 a22_l57 b1 v56 v63 v64 H n)) (t_f4_j5 lp G call k b1 a5_l57 a6_l57 H n)
noncomputable def t_f4 (lp : LpT) (G : Roms) (call : CallT) (b1 : Bool) (H : Heap) (n : Nat) (k : KV) : Prop :=
 call 9 [] H n fun v1 H n =>
 onV (notV v1) fun v2 =>
 onTst v2 true (k (.bool false) H n) (onV (lenV .nils) fun v3 =>
 onV (B2.ev .gtr v3 (.int .i64 (.ofNat 40) 0)) fun v4 =>
 onTst v4 true (k (.bool true) H n) (onV (lenV .nils) fun v56 =>
 lp (V × V × V × Heap × Nat) (fun ih s => t_f4_l57 lp G call k b1 v56 ih s.1 s.2.1 s.2.2.1 s.2.2.2.1 s.2.2.2.2) ((.str 1 49), (.int .i64 (.ofNat 1) 0), (.int .i64 (.ofNat 0) 0), H, n)))
theorem ti_f4 {lp : LpT} (hL : LpOk lp) {G : Roms} {call callE : CallT} (b1 : Bool)  (hle : CallLe call callE) (hd : CallDet callE) {H : Heap} {n : Nat} {k : KV} (h : t_f4 lp G call b1 H n k) : exFunL lf G callE [.nils, (.bool b1)] H n k := by
  delta t_f4 at h
  refine f_intro rfl ?_
  refine c_seq ?_
  refine c_ops ?_
  refine ov_t (a := (.bool false)) (k_mv rfl) ?_
  refine o0 ?_
  refine c_seq ?_
  refine c_seq ?_
  refine c_ops ?_
  refine oe_s hle hd h (k_call xs0) fun v1 H n h => ?_
  refine on_t h (k_not rfl) fun v2 h => ?_
  refine o0 ?_
  refine c_cond h (xr sm) (fun h => ?_) (fun h => ?_)
  · refine c_seq ?_
    refine c_ops ?_
    refine ov_t (a := (.bool false)) (k_mv rfl) ?_
    refine o0 ?_
    refine c_ret ?_
    exact fin_no (rsT sm rs0) h
  · refine c_skip ?_
    refine c_seq ?_
    refine c_seq ?_
    refine c_ops ?_
    refine on_s h (k_lenL (xr (ne rfl (ne rfl rfl)))) fun v3 h => ?_
    refine on_t h (k_bin rfl rfl) fun v4 h => ?_
    refine o0 ?_
    refine c_cond h (xr sm) (fun h => ?_) (fun h => ?_)
    · refine c_seq ?_
      refine c_ops ?_
      refine ov_t (a := (.bool true)) (k_mv rfl) ?_
      refine o0 ?_
      refine c_ret ?_
      exact fin_no (rsT sm rs0) h
    · refine c_skip ?_
      refine c_seq ?_
      refine c_ops ?_
      refine ov_t (a := (.str 1 49)) (k_mv rfl) ?_
      refine o0 ?_
      refine c_seq ?_
      refine c_ops ?_
      refine ov_t (a := (.int .i64 (.ofNat 1) 0)) (k_mv rfl) ?_
      refine o0 ?_
      refine c_seqj (fun R H n => ∃ a5_j5 a6_j5, rg R q5 = a5_j5 ∧ rg R q6 = a6_j5 ∧ rg R q0 = .nils ∧ t_f4_j5 lp G call k b1 a5_j5 a6_j5 H n) ?_ fun j5 => ?_
      · rintro R H n ⟨a5_j5, a6_j5, f5, f6, f0, h⟩
        delta t_f4_j5 at h
        refine c_seq ?_
        refine c_ops ?_
        refine on_s h (k_bin rfl (xr f5)) fun v6 h => ?_
        refine on_s h (k_bin rfl rfl) fun v7 h => ?_
        refine oa_s h (k_bslice (pbS rfl pb0)) fun v8 H n h => ?_
        refine oe_s hle hd h (k_call (xsS rfl xs0)) fun v9 H n h => ?_
        refine on_s h (k_ext rfl) fun v10 h => ?_
        refine on_s h (k_ext rfl) fun v11 h => ?_
        refine on_s h (k_ext rfl) fun v12 h => ?_
        refine ov_t (a := v10) (k_mv rfl) ?_
        refine ov_t (a := v11) (k_mv rfl) ?_
        refine ov_t (a := v12) (k_mv rfl) ?_
        refine o0 ?_
        refine c_seq ?_
        refine c_seq ?_
        refine c_ops ?_
        refine on_t h (k_not (xr sm)) fun v13 h => ?_
        refine o0 ?_
        refine c_cond h (xr sm) (fun h => ?_) (fun h => ?_)
        · refine c_seq ?_
          refine c_ops ?_
          refine ov_t (a := (.bool false)) (k_mv rfl) ?_
          refine o0 ?_
          refine c_ret ?_
          exact fin_no (rsT sm rs0) h
        · refine c_skip ?_
          refine c_seq ?_
          refine c_ops ?_
          refine oe_s hle hd h (k_call (xsS (xr (ne rfl (ne rfl sm))) (xsS (xr (ne rfl (ne rfl (ne rfl sm)))) xs0))) fun v14 H n h => ?_
          refine on_s h (k_ext rfl) fun v15 h => ?_
          refine on_s h (k_ext rfl) fun v16 h => ?_
          refine ov_t (a := v15) (k_mv rfl) ?_
          refine ov_t (a := v16) (k_mv rfl) ?_
          refine o0 ?_
          refine c_seq ?_
          refine c_seq ?_
          refine c_ops ?_
          refine on_t h (k_not (xr sm)) fun v17 h => ?_
          refine o0 ?_
          refine c_cond h (xr sm) (fun h => ?_) (fun h => ?_)
          · refine c_seq ?_
            refine c_ops ?_
            refine ov_t (a := (.bool false)) (k_mv rfl) ?_
            refine o0 ?_
            refine c_ret ?_
            exact fin_no (rsT sm rs0) h
          · refine c_skip ?_
            refine c_seq ?_
            refine c_ops ?_
            refine on_s h (k_iaddr (xr (ne rfl (ne rfl sm))) rfl) fun v18 h => ?_
            refine on_s h (k_faddr rfl) fun v19 h => ?_
            refine on_s h (k_ld1 rfl) fun v20 h => ?_
            refine on_s h (k_iaddr rfl rfl) fun v21 h => ?_
            refine on_s h (k_ldn rfl) fun v22 h => ?_
            refine oa_t h k_alloc fun v23 H n h => ?_
            refine oe_x hle hd h (k_st (xr sm) rfl) fun v24 H n h => ?_
            refine o0 ?_
            refine c_seq ?_
            refine c_seq ?_
            refine c_ops ?_
            refine on_s h (k_faddr (xr sm)) fun v25 h => ?_
            refine on_s h (k_ld1 rfl) fun v26 h => ?_
            refine on_s h (k_lenL rfl) fun v27 h => ?_
            refine on_s h (k_lenL (xr (ne rfl (ne rfl (ne rfl (ne rfl (ne rfl (ne rfl (ne rfl (ne rfl f0)))))))))) fun v28 h => ?_
            refine on_s h (k_bin rfl rfl) fun v29 h => ?_
            refine on_s h (k_bin rfl rfl) fun v30 h => ?_
            refine on_s h (k_bin rfl rfl) fun v31 h => ?_
            refine on_s h (k_bin rfl rfl) fun v32 h => ?_
            refine on_s h (k_eq rfl rfl) fun v33 h => ?_
            refine ogn_s h rfl (k_faddr (xr sm)) fun v34 h => ?_
            refine ogn_s h rfl (k_ld1 rfl) fun v35 h => ?_
            refine ogn_s h rfl (k_mv (xr (ne rfl (ne rfl (ne rfl (ne rfl (ne rfl (ne rfl (ne rfl (ne rfl f6)))))))))) fun v36 h => ?_
            refine ogn_s h rfl (k_eq rfl rfl) fun v37 h => ?_
            refine on_t h (k_pick rfl rfl rfl) fun v38 h => ?_
            refine o0 ?_
            refine c_cond h (xr sm) (fun h => ?_) (fun h => ?_)
            · refine c_seq ?_
              refine c_ops ?_
              refine ov_t (a := (.bool false)) (k_mv rfl) ?_
              refine o0 ?_
              refine c_ret ?_
              exact fin_no (rsT sm rs0) h
            · refine c_skip ?_
              refine c_seq ?_
              refine c_ops ?_
              refine on_s h (k_build (psS rfl (psS rfl ps0))) fun v39 h => ?_
              refine on_s h (k_build (psS (xr (ne rfl (ne rfl (ne rfl (ne rfl (ne rfl (ne rfl (ne rfl sm)))))))) (psS (xr (ne rfl (ne rfl (ne rfl (ne rfl sm))))) (psS rfl ps0)))) fun v40 h => ?_
              refine oa_s h (k_box rfl) fun v41 H n h => ?_
              refine ov_t (a := v41) (k_mv rfl) ?_
              refine o0 ?_
              refine c_seq ?_
              refine c_ops ?_
              refine oe_s hle hd h (k_call (xsS (xr sm) (xsS rfl (xsS rfl (xsS rfl xs0))))) fun v42 H n h => ?_
              refine oa_t h k_alloc fun v43 H n h => ?_
              refine oe_x hle hd h (k_st (xr sm) rfl) fun v44 H n h => ?_
              refine o0 ?_
              refine c_seq ?_
              refine c_ops ?_
              refine on_s h (k_nilck (xr (ne rfl sm))) fun v45 h => ?_
              refine on_s h (k_faddr rfl) fun v46 h => ?_
              refine on_s h (k_ld1 rfl) fun v47 h => ?_
              refine on_s h (k_not rfl) fun v48 h => ?_
              refine ogn_s h rfl (k_faddr (xr sm)) fun v49 h => ?_
              refine ogn_s h rfl (k_ld1 rfl) fun v50 h => ?_
              refine ogn_s h rfl (k_mv (xr (ne rfl (ne rfl (ne rfl (ne rfl (ne rfl (ne rfl (ne rfl (ne rfl (ne rfl (ne rfl (ne rfl f0))))))))))))) fun v51 h => ?_
              refine ogn_s h rfl (k_lenL rfl) fun v52 h => ?_
              refine ogn_s h rfl (k_bin rfl rfl) fun v53 h => ?_
              refine ogn_s h rfl (k_eq rfl rfl) fun v54 h => ?_
              refine on_s h (k_pick rfl rfl rfl) fun v55 h => ?_
              refine ov_t (a := v55) (k_mv rfl) ?_
              refine o0 ?_
              refine c_ret ?_
              exact fin_no (rsT sm rs0) h
      · refine c_seq ?_
        refine c_ops ?_
        refine on_t h (k_lenL (xr (ne rfl (ne rfl (ne rfl (ne rfl (ne rfl rfl))))))) fun v56 h => ?_
        refine ov_t (a := (.int .i64 (.ofNat 0) 0)) (k_mv rfl) ?_
        refine o0 ?_
        refine c_block ?_
        refine c_loop hL (fun s R H n => rg R q5 = s.1 ∧ rg R q6 = s.2.1 ∧ rg R q22 = s.2.2.1 ∧ rg R q0 = .nils ∧ rg R q1 = (.bool b1) ∧ rg R q21 = v56 ∧ H = s.2.2.2.1 ∧ n = s.2.2.2.2) h ⟨(ne rfl (ne rfl (ne rfl sm))), (ne rfl (ne rfl sm)), sm, (ne rfl (ne rfl (ne rfl (ne rfl (ne rfl (ne rfl (ne rfl rfl))))))), (ne rfl (ne rfl (ne rfl (ne rfl (ne rfl (ne rfl (ne rfl rfl))))))), (ne rfl sm), rfl, rfl⟩ ?_
        rintro ih57 I57 hI57 ⟨a5_l57, a6_l57, a22_l57, H, n⟩ R H0 n0 ⟨f5, f6, f22, f0, f1, f21, eH, eN⟩ h
        replace h : t_f4_l57 lp G call k b1 v56 ih57 a5_l57 a6_l57 a22_l57 H n := h
        obtain rfl : H0 = H := eH
        obtain rfl : n0 = n := eN
        delta t_f4_l57 at h
        refine c_seq ?_
        refine c_ops ?_
        refine on_t h (k_bin (xr f22) (xr f21)) fun v58 h => ?_
        refine o0 ?_
        refine c_seq ?_
        refine c_cond h (xr sm) (fun h => ?_) (fun h => ?_)
        · refine c_skip ?_
          refine c_seqj (fun R H n => ∃ a5_j59 a6_j59, rg R q5 = a5_j59 ∧ rg R q6 = a6_j59 ∧ rg R q0 = .nils ∧ rg R q1 = (.bool b1) ∧ rg R q21 = v56 ∧ rg R q22 = a22_l57 ∧ t_f4_j59 lp G call k ih57 a22_l57 b1 v56 a5_j59 a6_j59 H n) ?_ fun j59 => ?_
          · rintro R H n ⟨a5_j59, a6_j59, f5, f6, f0, f1, f21, f22, h⟩
            delta t_f4_j59 at h
            refine c_ops ?_
            refine on_s h (k_bin (xr f22) rfl) fun v60 h => ?_
            refine ov_t (a := v60) (k_mv rfl) ?_
            refine o0 ?_
            exact hI57 (a5_j59, a6_j59, v60, H, n) _ _ _ ⟨(ne rfl f5), (ne rfl f6), sm, (ne rfl f0), (ne rfl f1), (ne rfl f21), rfl, rfl⟩ h
          · refine c_block ?_
            refine c_seq ?_
            refine c_ops ?_
            refine ov_t (a := (.bool b1)) (k_mv (xr (ne rfl f1))) ?_
            refine o0 ?_
            refine c_cond h (xr sm) (fun h => ?_) (fun h => ?_)
            · refine c_seq ?_
              refine c_ops ?_
              refine on_s h (k_bin (xr (ne rfl (ne rfl f5))) rfl) fun v61 h => ?_
              refine ov_t (a := v61) (k_mv rfl) ?_
              refine o0 ?_
              refine c_ops ?_
              refine ov_t (a := (.int .i64 (.ofNat 2) 0)) (k_mv rfl) ?_
              refine o0 ?_
              exact j59 _ _ _ ⟨_, _, (ne rfl sm), sm, (ne rfl (ne rfl (ne rfl (ne rfl f0)))), (ne rfl (ne rfl (ne rfl (ne rfl f1)))), (ne rfl (ne rfl (ne rfl (ne rfl f21)))), (ne rfl (ne rfl (ne rfl (ne rfl f22)))), h⟩
            · refine c_seq ?_
              refine c_ops ?_
              refine on_s h (k_bin rfl (xr (ne rfl (ne rfl f5)))) fun v62 h => ?_
              refine on_s h (k_bin rfl rfl) fun v63 h => ?_
              refine ov_t (a := v63) (k_mv rfl) ?_
              refine o0 ?_
              refine c_ops ?_
              refine on_s h (k_bin (xr (ne rfl (ne rfl (ne rfl f6)))) rfl) fun v64 h => ?_
              refine ov_t (a := v64) (k_mv rfl) ?_
              refine o0 ?_
              exact j59 _ _ _ ⟨_, _, (ne rfl sm), sm, (ne rfl (ne rfl (ne rfl (ne rfl f0)))), (ne rfl (ne rfl (ne rfl (ne rfl f1)))), (ne rfl (ne rfl (ne rfl (ne rfl f21)))), (ne rfl (ne rfl (ne rfl (ne rfl f22)))), h⟩
        · refine c_exit ?_
          refine bx_same ?_
          exact j5 _ _ _ ⟨_, _, (ne rfl f5), (ne rfl f6), (ne rfl f0), h⟩
end Go.R5.GN

/- What is asked of the length. -/
set_option maxRecDepth 100000
namespace Go.R5.GB
open Go.Eng Go.R5
noncomputable def tt (g d l m : Nat) (b y : Bool) : Prop := t_f4 (lpF 600) G0 (runS (FS (lpF 600) G0) 600) g d l m b y .e 0 isT
noncomputable def tn (b : Bool) : Prop := GN.t_f4 (lpF 600) G0 (runS (FS (lpF 600) G0) 600) b .e 0 isT
noncomputable def Long (l : Nat) : Prop := B2.ev .gtr (.int .i64 (.ofNat l) 0) (.int .i64 (.ofNat 40) 0) = some (.bool true)
noncomputable def C : Prop := some (V.bool false) = some (V.bool false) ∧ True
theorem long (l : Nat) : Long (l + 41) := by
  show mkB (ilt (.ofNat 40) (.ofNat (l + 41))) = _
  rw [mkB_eq, ilt_eq]
  congr 2
  rw [decide_eq_true_eq]
  show (40 : Int) < ((l + 41 : Nat) : Int)
  omega
end Go.R5.GB

