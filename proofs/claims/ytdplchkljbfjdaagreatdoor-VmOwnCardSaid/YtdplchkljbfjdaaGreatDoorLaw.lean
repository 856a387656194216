/- Part of a proof: texts VA UW32 VAB of the engine and what is proved with it; nothing is assumed. -/
import Derived.Test.YtdplchkljbfjdaaGreatDoorPlainR
import Derived.Test.YtdplchkljbfjdaaGreatDoorCode
import Derived.Test.YtdplchkljbfjdaaGreatDoorEngF
set_option linter.unusedVariables false
set_option linter.unusedSimpArgs false
/- The law, with what it reads of its numbers. -/
namespace Go.R5.VA
open Go.Eng Go.R5
set_option maxRecDepth 100000
def r0 : X := .r q0
def r1 : X := .r q1
def r5 : X := .r q5
def r6 : X := .r q6
def r7 : X := .r q7
def r8 : X := .r q8
def r10 : X := .r q10
def r11 : X := .r q11
def r12 : X := .r q12
def r13 : X := .r q13
def r15 : X := .r q15
def r17 : X := .r q17
def r27 : X := .r q27
def r36 : X := .r q36
def r68 : X := .r q68
def r70 : X := .r q70
def r71 : X := .r q71
def r72 : X := .r q72
def r73 : X := .r q73
def r78 : X := .r q78
def lf : AF := .mk 2 (.seq (.ops [.mk (.to q4) .no (.n (.mv (.c (.bool false))))])
 (.seq (.seq (.ops [.mk .ps .no (.e (.call 13 [])),
    .mk (.to q17) .no (.n (.not (.s 0)))])
   (.cond r17 (.seq (.ops [.mk (.to q4) .no (.n (.mv (.c (.bool false))))])
     .ret)
    .skip))
  (.seq (.ops [.mk .ps .no (.n (.bin .and r0 (.c (.int .i64 (.ofNat 3) 0)))),
    .mk (.to q0) .no (.n (.mv (.s 0)))])
   (.seq (.ops [.mk .ps .no (.a (.bslice 1 5 [(.str 0 0)] [(0, (.c (.str 47 75229663915793474518194133375746661269374054161222034637272035627363524413556735972473739829574234454356748495971))), (1, (.c (.str 61 390614747618403749970997472527744654011365822694447574373018336900384769166280949481954638917427839712805850457612073165732609882634460849632275555))), (2, (.c (.str 21 182873138172783567386983610712302734099717921270883))), (3, (.c (.str 61 390614747618409428398531031956577070603614947729872212196148706572730718308462048226393024838703825580389552416032750464809585763899344402197343331))), (4, (.c (.str 223 532872142185833044361850341400842819714019780902353317668606948222727921673233149776336873129609709302235932014597807074995880854372476741911894564649383086191505424643681306770075324822421466781089231856736012198462266446579190059257267270904835178016191512993266849305124394064493350001379285539969228575603766538500065087753162323204514049863337275518279385622521417153994268757606681501614292500499276835216684796403736897757124078808912394254985279122038606994854118249453384233949728485547779138385313404965294565934894143047298147)))])),
     .mk .ps .no (.e (.call 10 [(.s 0)])),
     .mk .ps .no (.n (.ext (.s 0) 0)),
     .mk .ps .no (.n (.ext (.s 1) 1)),
     .mk .ps .no (.n (.ext (.s 2) 2)),
     .mk (.to q5) .no (.n (.mv (.s 2))),
     .mk (.to q6) .no (.n (.mv (.s 1))),
     .mk (.to q7) .no (.n (.mv (.s 0)))])
    (.seq (.seq (.ops [.mk (.to q27) .no (.n (.not r7))])
      (.cond r27 (.seq (.ops [.mk (.to q4) .no (.n (.mv (.c (.bool false))))])
        .ret)
       .skip))
     (.seq (.ops [.mk .ps .no (.e (.call 14 [r6, r5])),
       .mk .ps .no (.n (.ext (.s 0) 0)),
       .mk .ps .no (.n (.ext (.s 1) 1)),
       .mk .ps .no (.n (.ext (.s 2) 2)),
       .mk (.to q8) .no (.n (.mv (.s 2))),
       .mk (.to q10) .no (.n (.mv (.s 0)))])
      (.seq (.seq (.ops [.mk (.to q36) .no (.n (.not r10))])
        (.cond r36 (.seq (.ops [.mk (.to q4) .no (.n (.mv (.c (.bool false))))])
          .ret)
         .skip))
       (.seq (.ops [.mk .ps .no (.a (.bslice 1 2 [(.int .i64 (.ofNat 0) 0)] [(0, r0), (1, r1)])),
         .mk .ps .no (.n (.build [(.int .i64 (.ofNat 0) 0), (.int .i64 (.ofNat 0) 0), (.int .i64 (.ofNat 0) 0)] [(0, 1, (.c (.int .i64 (.ofNat 200) 0))), (1, 1, (.c (.int .i64 (.ofNat 10) 0))), (2, 1, (.c (.int .i64 (.ofNat 3) 0)))])),
         .mk .ps .no (.e (.call 15 [r8, (.c (.str 1 77)), (.c (.str 2 28519)), (.s 1), (.s 0)])),
         .mk .ps .no (.n (.ext (.s 0) 0)),
         .mk .ps .no (.n (.ext (.s 1) 1)),
         .mk (.to q11) .no (.a (.alloc 3 [[(.int .i64 (.ofNat 0) 0), (.int .i64 (.ofNat 0) 0), .nils]])),
         .mk .no .no (.e (.st 3 r11 (.s 1))),
         .mk (.to q12) .no (.n (.mv (.s 0)))])
        (.seq (.ops [.mk .ps .no (.a (.bslice 1 4 [(.int .i64 (.ofNat 0) 0)] [(0, (.c (.int .i64 (.ofNat 0) 0))), (1, (.c (.int .i64 (.ofNat 1) 0))), (2, (.c (.int .i64 (.ofNat 1) 0))), (3, (.c (.int .i64 (.ofNat 3) 0)))])),
          .mk .ps .no (.n (.iaddr 1 (.s 0) r0)),
          .mk .ps .no (.n (.ld1 (.s 0))),
          .mk .ps .no (.n (.bin .add r1 (.s 0))),
          .mk (.to q13) .no (.n (.mv (.s 0)))])
         (.seq (.seq (.ops [.mk .ps .no (.n (.eq (.one .int) true r12 (.c (.int .i64 (.ofNat 0) 0)))),
            .mk .ps (.on (.s 0) false) (.n (.faddr 1 r11)),
            .mk .ps (.on (.s 1) false) (.n (.ld1 (.s 0))),
            .mk .ps (.on (.s 2) false) (.n (.mv r13)),
            .mk .ps (.on (.s 3) false) (.n (.eq (.one .int) true (.s 1) (.s 0))),
            .mk .ps .no (.n (.pick (.s 4) (.c (.bool true)) (.s 0))),
            .mk .ps (.on (.s 0) false) (.n (.faddr 2 r11)),
            .mk .ps (.on (.s 1) false) (.n (.ld1 (.s 0))),
            .mk .ps (.on (.s 2) false) (.n (.lenL (.s 0))),
            .mk .ps (.on (.s 3) false) (.n (.mv r0)),
            .mk .ps (.on (.s 4) false) (.n (.mini (.s 0) (.c (.int .i64 (.ofNat 1) 0)))),
            .mk .ps (.on (.s 5) false) (.n (.bin .add (.c (.int .i64 (.ofNat 1) 0)) (.s 0))),
            .mk .ps (.on (.s 6) false) (.n (.eq (.one .int) true (.s 3) (.s 0))),
            .mk (.to q68) .no (.n (.pick (.s 7) (.c (.bool true)) (.s 0)))])
           (.cond r68 (.seq (.ops [.mk (.to q4) .no (.n (.mv (.c (.bool false))))])
             .ret)
            .skip))
          (.seq (.seq (.ops [.mk .ps .no (.n (.faddr 2 r11)),
             .mk (.to q70) .no (.n (.ld1 (.s 0))),
             .mk (.to q71) .no (.n (.lenL r70)),
             .mk (.to q72) .no (.n (.mv (.c (.int .i64 (.ofNat 0) 0))))])
            (.block 0 (.loop (.seq (.ops [.mk (.to q73) .no (.n (.bin .lss r72 r71))])
               (.seq (.cond r73 .skip
                 (.exit 0))
                (.seq (.block 1 (.seq (.ops [.mk .ps .no (.n (.iaddr 1 r70 r72)),
                    .mk .ps .no (.n (.ld1 (.s 0))),
                    .mk (.to q15) .no (.n (.mv (.s 0)))])
                   (.seq (.ops [.mk (.to q78) .no (.n (.eq (.one .int) true r15 r13))])
                    (.cond r78 (.seq (.ops [.mk (.to q4) .no (.n (.mv (.c (.bool false))))])
                      .ret)
                     .skip))))
                 (.ops [.mk .ps .no (.n (.bin .add r72 (.c (.int .i64 (.ofNat 1) 0)))),
                  .mk (.to q72) .no (.n (.mv (.s 0)))])))))))
           (.seq (.ops [.mk (.to q4) .no (.n (.mv (.c (.bool true))))])
            .ret))))))))))))
 [.tmp q4] .no 0
theorem at_law : T.get F 5 = some lf := by kernel_rfl
noncomputable def t_f5_j39 (lp : LpT) (G : Roms) (call callB : CallT) (k : KV) (x0 : Nat) (z0 : Int) (z1 : Int) (H : Heap) (n : Nat) : Prop :=
 k (.bool true) H n
noncomputable def t_f5_l43 (lp : LpT) (G : Roms) (call callB : CallT) (k : KV) (v24 : V) (v41 : V) (v42 : V) (x0 : Nat) (z0 : Int) (z1 : Int) (ih43 : (V × Heap × Nat) → Prop) (a72_l43 : V) (H : Heap) (n : Nat) : Prop :=
 onV (B2.ev .lss a72_l43 v42) fun v44 =>
 onTst v44 true (onV (iaddrV 1 v41 a72_l43) fun v45 =>
 onV (ld1V v45 G H) fun v46 =>
 askV false (eqV (.one .int) true v46 v24) fun v47 =>
 onTst v47 true (k (.bool false) H n) (onV (B2.ev .add a72_l43 (.int .i64 (.ofNat 1) 0)) fun v48 =>
 ih43 (v48, H, n))) (t_f5_j39 lp G call callB k x0 z0 z1 H n)
noncomputable def t_f5 (lp : LpT) (G : Roms) (call callB : CallT) (z0 : Int) (z1 : Int) (x0 : Nat) (H : Heap) (n : Nat) (k : KV) : Prop :=
 call 13 [] H n fun v1 H n =>
 onV (notV v1) fun v2 =>
 onTst v2 true (k (.bool false) H n) (onA (aBslice 1 5 [(.str 0 0)] [(0, .c (.str 47 75229663915793474518194133375746661269374054161222034637272035627363524413556735972473739829574234454356748495971)), (1, .c (.str 61 390614747618403749970997472527744654011365822694447574373018336900384769166280949481954638917427839712805850457612073165732609882634460849632275555)), (2, .c (.str 21 182873138172783567386983610712302734099717921270883)), (3, .c (.str 61 390614747618409428398531031956577070603614947729872212196148706572730718308462048226393024838703825580389552416032750464809585763899344402197343331)), (4, .c (.str 223 532872142185833044361850341400842819714019780902353317668606948222727921673233149776336873129609709302235932014597807074995880854372476741911894564649383086191505424643681306770075324822421466781089231856736012198462266446579190059257267270904835178016191512993266849305124394064493350001379285539969228575603766538500065087753162323204514049863337275518279385622521417153994268757606681501614292500499276835216684796403736897757124078808912394254985279122038606994854118249453384233949728485547779138385313404965294565934894143047298147))] E0) H n fun v3 H n =>
 call 10 [v3] H n fun v4 H n =>
 onV (extV v4 0) fun v5 =>
 onV (extV v4 1) fun v6 =>
 onV (extV v4 2) fun v7 =>
 onV (notV v7) fun v8 =>
 onTst v8 true (k (.bool false) H n) (call 14 [v6, v5] H n fun v9 H n =>
 onV (extV v9 0) fun v10 =>
 onV (extV v9 1) fun v11 =>
 onV (extV v9 2) fun v12 =>
 onV (notV v12) fun v13 =>
 onTst v13 true (k (.bool false) H n) (onA (aBslice 1 2 [(.int .i64 (.ofNat 0) 0)] [(0, .c (.int .i64 (.ofNat x0) 0)), (1, .c (.int .i64 z1 0))] E0) H n fun v14 H n =>
 onV (buildV [(.int .i64 (.ofNat 0) 0), (.int .i64 (.ofNat 0) 0), (.int .i64 (.ofNat 0) 0)] [(0, 1, .c (.int .i64 (.ofNat 200) 0)), (1, 1, .c (.int .i64 (.ofNat 10) 0)), (2, 1, .c (.int .i64 (.ofNat 3) 0))]) fun v15 =>
 callB 15 [v10, (.str 1 77), (.str 2 28519), v14, v15] H n fun v16 H n =>
 onV (extV v16 0) fun v17 =>
 onV (extV v16 1) fun v18 =>
 onA (aAlloc 3 [[(.int .i64 (.ofNat 0) 0), (.int .i64 (.ofNat 0) 0), .nils]] E0) H n fun v19 H n =>
 stV 3 v19 v17 H n fun v20 H n =>
 onA (aBslice 1 4 [(.int .i64 (.ofNat 0) 0)] [(0, .c (.int .i64 (.ofNat 0) 0)), (1, .c (.int .i64 (.ofNat 1) 0)), (2, .c (.int .i64 (.ofNat 1) 0)), (3, .c (.int .i64 (.ofNat 3) 0))] E0) H n fun v21 H n =>
 onV (iaddrV 1 v21 (.int .i64 (.ofNat x0) 0)) fun v22 =>
 onV (ld1V v22 G H) fun v23 =>
 onV (B2.ev .add (.int .i64 z1 0) v23) fun v24 =>
 onV (eqV (.one .int) true v18 (.int .i64 (.ofNat 0) 0)) fun v25 =>
 onG v25 false (paddV 1 v19) fun v26 =>
 onG v25 false (ld1V v26 G H) fun v27 =>
 onG v25 false (some v24) fun v28 =>
 askG v25 false false (eqV (.one .int) true v27 v28) fun v29 =>
 onV (pickV v25 (.bool true) v29) fun v30 =>
 onG v30 false (paddV 2 v19) fun v31 =>
 onG v30 false (ld1V v31 G H) fun v32 =>
 onG v30 false (lenV v32) fun v33 =>
 onG v30 false (some (.int .i64 (.ofNat x0) 0)) fun v34 =>
 onG v30 false (minV v34 (.int .i64 (.ofNat 1) 0)) fun v35 =>
 onG v30 false (B2.ev .add (.int .i64 (.ofNat 1) 0) v35) fun v36 =>
 onG v30 false (eqV (.one .int) true v33 v36) fun v37 =>
 onV (pickV v30 (.bool true) v37) fun v38 =>
 onTst v38 true (k (.bool false) H n) (onV (paddV 2 v19) fun v40 =>
 onV (ld1V v40 G H) fun v41 =>
 onV (lenV v41) fun v42 =>
 lp (V × Heap × Nat) (fun ih s => t_f5_l43 lp G call callB k v24 v41 v42 x0 z0 z1 ih s.1 s.2.1 s.2.2) ((.int .i64 (.ofNat 0) 0), H, n)))))
theorem ti_f5 {lp : LpT} (hL : LpOk lp) {G : Roms} {call callB callE : CallT} (z0 : Int) (z1 : Int) (x0 : Nat) (ex0 : uand z0 3 = x0) (hle : CallLe call callE) (hleB : CallLe callB callE) (hd : CallDet callE) {H : Heap} {n : Nat} {k : KV} (h : t_f5 lp G call callB z0 z1 x0 H n k) : exFunL lf G callE [(.int .i64 z0 0), (.int .i64 z1 0)] H n k := by
  delta t_f5 at h
  refine f_intro rfl ?_
  refine c_seq ?_
  refine c_ops ?_
  refine ov_t (a := (.bool false)) (k_mv rfl) ?_
  refine o0 ?_
  refine c_seq ?_
  refine c_seq ?_
  refine c_ops ?_
  refine oe_s hle hd h (k_call xs0) fun v1 H n h => ?_
  refine on_t h (k_not rfl) fun v2 h => ?_
  refine o0 ?_
  refine c_cond h (xr sm) (fun h => ?_) (fun h => ?_)
  · refine c_seq ?_
    refine c_ops ?_
    refine ov_t (a := (.bool false)) (k_mv rfl) ?_
    refine o0 ?_
    refine c_ret ?_
    exact fin_no (rsT sm rs0) h
  · refine c_skip ?_
    refine c_seq ?_
    refine c_ops ?_
    refine ov_s (a := (.int .i64 (.ofNat x0) 0)) (km3 (by decide) ex0 (xr (ne rfl (ne rfl rfl)))) ?_
    refine ov_t (a := (.int .i64 (.ofNat x0) 0)) (k_mv rfl) ?_
    refine o0 ?_
    refine c_seq ?_
    refine c_ops ?_
    refine oa_s h (k_bslice (pbS rfl (pbS rfl (pbS rfl (pbS rfl (pbS rfl pb0)))))) fun v3 H n h => ?_
    refine oe_s hle hd h (k_call (xsS rfl xs0)) fun v4 H n h => ?_
    refine on_s h (k_ext rfl) fun v5 h => ?_
    refine on_s h (k_ext rfl) fun v6 h => ?_
    refine on_s h (k_ext rfl) fun v7 h => ?_
    refine ov_t (a := v5) (k_mv rfl) ?_
    refine ov_t (a := v6) (k_mv rfl) ?_
    refine ov_t (a := v7) (k_mv rfl) ?_
    refine o0 ?_
    refine c_seq ?_
    refine c_seq ?_
    refine c_ops ?_
    refine on_t h (k_not (xr sm)) fun v8 h => ?_
    refine o0 ?_
    refine c_cond h (xr sm) (fun h => ?_) (fun h => ?_)
    · refine c_seq ?_
      refine c_ops ?_
      refine ov_t (a := (.bool false)) (k_mv rfl) ?_
      refine o0 ?_
      refine c_ret ?_
      exact fin_no (rsT sm rs0) h
    · refine c_skip ?_
      refine c_seq ?_
      refine c_ops ?_
      refine oe_s hle hd h (k_call (xsS (xr (ne rfl (ne rfl sm))) (xsS (xr (ne rfl (ne rfl (ne rfl sm)))) xs0))) fun v9 H n h => ?_
      refine on_s h (k_ext rfl) fun v10 h => ?_
      refine on_s h (k_ext rfl) fun v11 h => ?_
      refine on_s h (k_ext rfl) fun v12 h => ?_
      refine ov_t (a := v10) (k_mv rfl) ?_
      refine ov_t (a := v12) (k_mv rfl) ?_
      refine o0 ?_
      refine c_seq ?_
      refine c_seq ?_
      refine c_ops ?_
      refine on_t h (k_not (xr sm)) fun v13 h => ?_
      refine o0 ?_
      refine c_cond h (xr sm) (fun h => ?_) (fun h => ?_)
      · refine c_seq ?_
        refine c_ops ?_
        refine ov_t (a := (.bool false)) (k_mv rfl) ?_
        refine o0 ?_
        refine c_ret ?_
        exact fin_no (rsT sm rs0) h
      · refine c_skip ?_
        refine c_seq ?_
        refine c_ops ?_
        refine oa_s h (k_bslice (pbS (xr (ne rfl (ne rfl (ne rfl (ne rfl (ne rfl (ne rfl (ne rfl sm)))))))) (pbS (xr (ne rfl (ne rfl (ne rfl (ne rfl (ne rfl (ne rfl (ne rfl (ne rfl (ne rfl (ne rfl rfl))))))))))) pb0))) fun v14 H n h => ?_
        refine on_s h (k_build (psS rfl (psS rfl (psS rfl ps0)))) fun v15 h => ?_
        refine oe_s hleB hd h (k_call (xsS (xr (ne rfl (ne rfl sm))) (xsS rfl (xsS rfl (xsS rfl (xsS rfl xs0)))))) fun v16 H n h => ?_
        refine on_s h (k_ext rfl) fun v17 h => ?_
        refine on_s h (k_ext rfl) fun v18 h => ?_
        refine oa_t h k_alloc fun v19 H n h => ?_
        refine oe_x hle hd h (k_st (xr sm) rfl) fun v20 H n h => ?_
        refine ov_t (a := v18) (k_mv rfl) ?_
        refine o0 ?_
        refine c_seq ?_
        refine c_ops ?_
        refine oa_s h (k_bslice (pbS rfl (pbS rfl (pbS rfl (pbS rfl pb0))))) fun v21 H n h => ?_
        refine on_s h (k_iaddr rfl (xr (ne rfl (ne rfl (ne rfl (ne rfl (ne rfl (ne rfl (ne rfl (ne rfl (ne rfl sm))))))))))) fun v22 h => ?_
        refine on_s h (k_ld1 rfl) fun v23 h => ?_
        refine on_s h (k_bin (xr (ne rfl (ne rfl (ne rfl (ne rfl (ne rfl (ne rfl (ne rfl (ne rfl (ne rfl (ne rfl (ne rfl (ne rfl rfl))))))))))))) rfl) fun v24 h => ?_
        refine ov_t (a := v24) (k_mv rfl) ?_
        refine o0 ?_
        refine c_seq ?_
        refine c_seq ?_
        refine c_ops ?_
        refine on_s h (k_eq (xr (ne rfl sm)) rfl) fun v25 h => ?_
        refine ogn_s h rfl (k_faddr (xr (ne rfl (ne rfl sm)))) fun v26 h => ?_
        refine ogn_s h rfl (k_ld1 rfl) fun v27 h => ?_
        refine ogn_s h rfl (k_mv (xr sm)) fun v28 h => ?_
        refine ogn_s (askG_ok h) rfl (k_eq rfl rfl) fun v29 h => ?_
        refine on_s h (k_pick rfl rfl rfl) fun v30 h => ?_
        refine ogn_s h rfl (k_faddr (xr (ne rfl (ne rfl sm)))) fun v31 h => ?_
        refine ogn_s h rfl (k_ld1 rfl) fun v32 h => ?_
        refine ogn_s h rfl (k_lenL rfl) fun v33 h => ?_
        refine ogn_s h rfl (k_mv (xr (ne rfl (ne rfl (ne rfl (ne rfl (ne rfl (ne rfl (ne rfl (ne rfl (ne rfl (ne rfl sm)))))))))))) fun v34 h => ?_
        refine ogn_s h rfl (k_mini rfl rfl) fun v35 h => ?_
        refine ogn_s h rfl (k_bin rfl rfl) fun v36 h => ?_
        refine ogn_s h rfl (k_eq rfl rfl) fun v37 h => ?_
        refine on_t h (k_pick rfl rfl rfl) fun v38 h => ?_
        refine o0 ?_
        refine c_cond h (xr sm) (fun h => ?_) (fun h => ?_)
        · refine c_seq ?_
          refine c_ops ?_
          refine ov_t (a := (.bool false)) (k_mv rfl) ?_
          refine o0 ?_
          refine c_ret ?_
          exact fin_no (rsT sm rs0) h
        · refine c_skip ?_
          refine c_seqj (fun R H n => t_f5_j39 lp G call callB k x0 z0 z1 H n) ?_ fun j39 => ?_
          · intro R H n h
            delta t_f5_j39 at h
            refine c_seq ?_
            refine c_ops ?_
            refine ov_t (a := (.bool true)) (k_mv rfl) ?_
            refine o0 ?_
            refine c_ret ?_
            exact fin_no (rsT sm rs0) h
          · refine c_seq ?_
            refine c_ops ?_
            refine on_s h (k_faddr (xr (ne rfl (ne rfl (ne rfl sm))))) fun v40 h => ?_
            refine on_t h (k_ld1 rfl) fun v41 h => ?_
            refine on_t h (k_lenL (xr sm)) fun v42 h => ?_
            refine ov_t (a := (.int .i64 (.ofNat 0) 0)) (k_mv rfl) ?_
            refine o0 ?_
            refine c_block ?_
            refine c_loop hL (fun s R H n => rg R q72 = s.1 ∧ rg R q13 = v24 ∧ rg R q70 = v41 ∧ rg R q71 = v42 ∧ H = s.2.1 ∧ n = s.2.2) h ⟨sm, (ne rfl (ne rfl (ne rfl (ne rfl sm)))), (ne rfl (ne rfl sm)), (ne rfl sm), rfl, rfl⟩ ?_
            rintro ih43 I43 hI43 ⟨a72_l43, H, n⟩ R H0 n0 ⟨f72, f13, f70, f71, eH, eN⟩ h
            replace h : t_f5_l43 lp G call callB k v24 v41 v42 x0 z0 z1 ih43 a72_l43 H n := h
            obtain rfl : H0 = H := eH
            obtain rfl : n0 = n := eN
            delta t_f5_l43 at h
            refine c_seq ?_
            refine c_ops ?_
            refine on_t h (k_bin (xr f72) (xr f71)) fun v44 h => ?_
            refine o0 ?_
            refine c_seq ?_
            refine c_cond h (xr sm) (fun h => ?_) (fun h => ?_)
            · refine c_skip ?_
              refine c_seq ?_
              refine c_block ?_
              refine c_seq ?_
              refine c_ops ?_
              refine on_s h (k_iaddr (xr (ne rfl f70)) (xr (ne rfl f72))) fun v45 h => ?_
              refine on_s h (k_ld1 rfl) fun v46 h => ?_
              refine ov_t (a := v46) (k_mv rfl) ?_
              refine o0 ?_
              refine c_seq ?_
              refine c_ops ?_
              refine on_t (askV_ok h) (k_eq (xr sm) (xr (ne rfl (ne rfl f13)))) fun v47 h => ?_
              refine o0 ?_
              refine c_cond h (xr sm) (fun h => ?_) (fun h => ?_)
              · refine c_seq ?_
                refine c_ops ?_
                refine ov_t (a := (.bool false)) (k_mv rfl) ?_
                refine o0 ?_
                refine c_ret ?_
                exact fin_no (rsT sm rs0) h
              · refine c_skip ?_
                refine c_ops ?_
                refine on_s h (k_bin (xr (ne rfl (ne rfl (ne rfl f72)))) rfl) fun v48 h => ?_
                refine ov_t (a := v48) (k_mv rfl) ?_
                refine o0 ?_
                exact hI43 (v48, H0, n0) _ _ _ ⟨sm, (ne rfl (ne rfl (ne rfl (ne rfl f13)))), (ne rfl (ne rfl (ne rfl (ne rfl f70)))), (ne rfl (ne rfl (ne rfl (ne rfl f71)))), rfl, rfl⟩ h
            · refine c_exit ?_
              refine bx_same ?_
              exact j39 _ _ _ h
end Go.R5.VA

/- A function, with what it asks answered ahead. -/
namespace Go.R5.UW32
open Go.Eng Go.R5
set_option maxRecDepth 100000
def r0 : X := .r q0
def r2 : X := .r q2
def r3 : X := .r q3
def r4 : X := .r q4
def r5 : X := .r q5
def r11 : X := .r q11
def r22 : X := .r q22
def r37 : X := .r q37
def r42 : X := .r q42
def r43 : X := .r q43
def r44 : X := .r q44
def r45 : X := .r q45
def r46 : X := .r q46
def r47 : X := .r q47
def r48 : X := .r q48
def r49 : X := .r q49
def r50 : X := .r q50
def r51 : X := .r q51
def r52 : X := .r q52
def r56 : X := .r q56
def r57 : X := .r q57
def r58 : X := .r q58
def r59 : X := .r q59
def r60 : X := .r q60
def r61 : X := .r q61
def r62 : X := .r q62
def r63 : X := .r q63
def r64 : X := .r q64
def r65 : X := .r q65
def r66 : X := .r q66
def r76 : X := .r q76
def r86 : X := .r q86
def r87 : X := .r q87
def r88 : X := .r q88
def r89 : X := .r q89
def r90 : X := .r q90
def r91 : X := .r q91
def r92 : X := .r q92
def r93 : X := .r q93
def r94 : X := .r q94
def r95 : X := .r q95
def r96 : X := .r q96
def r97 : X := .r q97
def r98 : X := .r q98
def r99 : X := .r q99
def r105 : X := .r q105
def r106 : X := .r q106
def r107 : X := .r q107
def r108 : X := .r q108
def r109 : X := .r q109
def r110 : X := .r q110
def lf_f32 : AF := .mk 1 (.seq (.ops [.mk (.to q2) .no (.a (.alloc 2 [[(.int .i64 (.ofNat 0) 0), .nilp]]))])
 (.seq (.ops [.mk (.to q3) .no (.a (.alloc 2 [[(.int .i64 (.ofNat 0) 0), .nilp]]))])
  (.seq .skip
   (.seq (.block 0 (.loop (.seq (.seq (.ops [.mk .ps .no (.n (.nilck r0)),
         .mk .ps .no (.n (.faddr 7 (.s 0))),
         .mk .ps .no (.n (.ld1 (.s 0))),
         .mk .ps .no (.n (.lenL (.s 0))),
         .mk (.to q11) .no (.n (.bin .gtr (.s 0) (.c (.int .i64 (.ofNat 0) 0))))])
        (.cond r11 .skip
         (.exit 0)))
       (.block 1 (.seq (.seq (.ops [.mk .ps .no (.n (.nilck r0)),
           .mk .ps .no (.n (.faddr 5 (.s 0))),
           .mk .ps .no (.n (.ld1 (.s 0))),
           .mk .ps .no (.n (.eq (.one .int) true (.s 0) (.c (.int .i64 (.ofNat 0) 0)))),
           .mk .ps (.on (.s 0) false) (.n (.mv r0)),
           .mk .ps (.on (.s 1) false) (.n (.nilck (.s 0))),
           .mk .ps (.on (.s 2) false) (.n (.faddr 6 (.s 0))),
           .mk .ps (.on (.s 3) false) (.n (.ld1 (.s 0))),
           .mk (.to q22) .no (.n (.pick (.s 4) (.c (.bool true)) (.s 0)))])
          (.cond r22 (.exit 0)
           .skip))
         (.seq (.seq (.ops [.mk .ps .no (.n (.nilck r0)),
            .mk .ps .no (.n (.faddr 1 (.s 0))),
            .mk .ps .no (.n (.faddr 0 (.s 0))),
            .mk .ps .no (.n (.ld1 (.s 0))),
            .mk .ps .no (.n (.bin .sub (.s 0) (.c (.int .i64 (.ofNat 1) 0)))),
            .mk .ps .no (.n (.nilck r0)),
            .mk .ps .no (.n (.faddr 1 (.s 0))),
            .mk .ps .no (.n (.faddr 0 (.s 0))),
            .mk .no .no (.e (.st 1 (.s 0) (.s 3)))])
           (.seq (.ops [.mk .ps .no (.n (.nilck r0)),
             .mk .ps .no (.n (.faddr 1 (.s 0))),
             .mk .ps .no (.n (.faddr 0 (.s 0))),
             .mk .ps .no (.n (.ld1 (.s 0))),
             .mk (.to q37) .no (.n (.bin .lss (.s 0) (.c (.int .i64 (.ofNat 0) 0))))])
            (.cond r37 (.seq (.ops [.mk .ps .no (.e (.call 69 [r0, (.c (.int .i64 (.ofNat 5) 0))]))])
              (.exit 0))
             .skip)))
          (.seq (.ops [.mk .ps .no (.e (.call 70 [r0])),
            .mk (.to q4) .no (.n (.mv (.s 0)))])
           (.seq (.seq (.reg [.op (.mk (.to q42) .no (.n (.mv r4))),
              .op (.mk (.to q43) .no (.n (.nilck r42))),
              .op (.mk (.to q44) .no (.n (.faddr 13 r43))),
              .op (.mk (.to q45) .no (.n (.ld1 r44))),
              .op (.mk (.to q46) .no (.n (.mv r4))),
              .op (.mk (.to q47) .no (.n (.nilck r46))),
              .op (.mk (.to q48) .no (.n (.faddr 10 r47))),
              .op (.mk (.to q49) .no (.n (.faddr 2 r48))),
              .op (.mk (.to q50) .no (.n (.ld1 r49))),
              .op (.mk (.to q51) .no (.n (.lenL r50))),
              .op (.mk (.to q52) .no (.n (.bin .geq r45 r51)))])
             (.cond r52 (.seq (.ops [.mk .ps .no (.n (.nilck r0)),
                .mk .ps .no (.n (.faddr 6 (.s 0))),
                .mk .no .no (.e (.st 1 (.s 0) (.c (.bool true))))])
               (.exit 0))
              .skip))
            (.seq (.reg [.op (.mk (.to q56) .no (.n (.mv r4))),
              .op (.mk (.to q57) .no (.n (.nilck r56))),
              .op (.mk (.to q58) .no (.n (.faddr 10 r57))),
              .op (.mk (.to q59) .no (.n (.faddr 2 r58))),
              .op (.mk (.to q60) .no (.n (.ld1 r59))),
              .op (.mk (.to q61) .no (.n (.mv r4))),
              .op (.mk (.to q62) .no (.n (.nilck r61))),
              .op (.mk (.to q63) .no (.n (.faddr 13 r62))),
              .op (.mk (.to q64) .no (.n (.ld1 r63))),
              .op (.mk (.to q65) .no (.n (.iaddr 2 r60 r64))),
              .op (.mk (.to q66) .no (.n (.ldn 2 r65))),
              .op (.mk (.to q5) .no (.a (.alloc 2 [[(.int .i64 (.ofNat 0) 0), (.int .i64 (.ofNat 0) 0)]]))),
              .op (.mk .no .no (.e (.st 2 r5 r66)))])
             (.seq (.ops [.mk .ps .no (.n (.nilck r4)),
               .mk .ps .no (.n (.faddr 13 (.s 0))),
               .mk .ps .no (.n (.ld1 (.s 0))),
               .mk .ps .no (.n (.bin .add (.s 0) (.c (.int .i64 (.ofNat 1) 0)))),
               .mk .ps .no (.n (.nilck r4)),
               .mk .ps .no (.n (.faddr 13 (.s 0))),
               .mk .no .no (.e (.st 1 (.s 0) (.s 2)))])
              (.seq (.seq (.ops [.mk .ps .no (.n (.faddr 0 r5)),
                 .mk .ps .no (.n (.ld1 (.s 0))),
                 .mk (.to q76) .no (.n (.eq (.one .int) true (.s 0) (.c (.int .i64 (.ofNat 29) 0))))])
                (.cond r76 (.seq (.ops [.mk .ps .no (.n (.ldn 2 r5)),
                   .mk .ps .no (.e (.call 71 [r0, r4, (.s 0)]))])
                  (.exit 1))
                 .skip))
               (.seq (.ops [.mk .ps .no (.e (.call 72 [r0, r4, (.c (.int .i64 (.ofNat 1) 0))])),
                 .mk .ps .no (.n (.iaddr 2 (.s 0) (.c (.int .i64 (.ofNat 0) 0)))),
                 .mk .ps .no (.n (.ldn 2 (.s 0))),
                 .mk .no .no (.e (.st 2 r3 (.s 0)))])
                (.seq (.reg [.op (.mk (.to q86) .no (.n (.mv r0))),
                  .op (.mk (.to q87) .no (.n (.mv r0))),
                  .op (.mk (.to q88) .no (.n (.nilck r87))),
                  .op (.mk (.to q89) .no (.n (.faddr 7 r88))),
                  .op (.mk (.to q90) .no (.n (.ld1 r89))),
                  .op (.mk (.to q91) .no (.n (.mv r0))),
                  .op (.mk (.to q92) .no (.n (.nilck r91))),
                  .op (.mk (.to q93) .no (.n (.faddr 7 r92))),
                  .op (.mk (.to q94) .no (.n (.ld1 r93))),
                  .op (.mk (.to q95) .no (.n (.lenL r94))),
                  .op (.mk (.to q96) .no (.n (.bin .sub r95 (.c (.int .i64 (.ofNat 1) 0))))),
                  .op (.mk (.to q97) .no (.n (.slc 16 r90 none (some r96) none))),
                  .op (.mk (.to q98) .no (.n (.nilck r86))),
                  .op (.mk (.to q99) .no (.n (.faddr 7 r98))),
                  .op (.mk .no .no (.e (.st 1 r99 r97)))])
                 (.seq (.ops [.mk .ps .no (.n (.nilck r0)),
                   .mk .ps .no (.n (.faddr 7 (.s 0))),
                   .mk .ps .no (.n (.ld1 (.s 0))),
                   .mk .ps .no (.n (.lenL (.s 0))),
                   .mk (.to q105) .no (.n (.bin .gtr (.s 0) (.c (.int .i64 (.ofNat 0) 0))))])
                  (.cond r105 (.reg [.op (.mk (.to q106) .no (.n (.mv r0))),
                    .op (.mk (.to q107) .no (.n (.mv r0))),
                    .op (.mk (.to q109) .no (.n (.ldn 2 r3))),
                    .op (.mk (.to q110) .no (.a (.bslice 2 1 [(.int .i64 (.ofNat 0) 0), .nilp] [(0, r109)]))),
                    .op (.mk (.to q108) .no (.e (.call 70 [r107]))),
                    .re q109 .no (.ldn 2 r3),
                    .op (.mk (.to q111) .no (.e (.call 73 [r106, r108, r110])))])
                   .skip)))))))))))))))
    (.seq (.ops [.mk .ps .no (.n (.ldn 2 r3)),
      .mk .no .no (.e (.st 2 r2 (.s 0)))])
     .ret)))))
 [.celln q2 2] .no 0
theorem au_f32 : T.get F 32 = some lf_f32 := by kernel_rfl
noncomputable def u_f32_j3 (lp : LpT) (G : Roms) (call : CallT) (k : KV) (v1 : V) (v2 : V) (H : Heap) (n : Nat) : Prop :=
 onV (ldnV 2 v2 G H) fun v4 =>
 stV 2 v1 v4 H n fun v5 H n =>
 onO (getVs [.cn v1 2] G H) fun l => k (oneV l) H n
noncomputable def u_f32_l6 (lp : LpT) (G : Roms) (call : CallT) (k : KV) (a0 : V) (v1 : V) (v2 : V) (ih6 : (Heap × Nat) → Prop) (H : Heap) (n : Nat) : Prop :=
 onV (nilckV a0) fun v7 =>
 onV (paddV 7 v7) fun v8 =>
 onV (ld1V v8 G H) fun v9 =>
 onV (lenV v9) fun v10 =>
 onV (B2.ev .gtr v10 (.int .i64 (.ofNat 0) 0)) fun v11 =>
 onTst v11 true (onV (nilckV a0) fun v12 =>
 onV (paddV 5 v12) fun v13 =>
 onV (ld1V v13 G H) fun v14 =>
 onV (eqV (.one .int) true v14 (.int .i64 (.ofNat 0) 0)) fun v15 =>
 onG v15 false (some a0) fun v16 =>
 onG v15 false (nilckV v16) fun v17 =>
 onG v15 false (paddV 6 v17) fun v18 =>
 onG v15 false (ld1V v18 G H) fun v19 =>
 onV (pickV v15 (.bool true) v19) fun v20 =>
 onTst v20 true (u_f32_j3 lp G call k v1 v2 H n) (onV (nilckV a0) fun v21 =>
 onV (paddV 1 v21) fun v22 =>
 onV (paddV 0 v22) fun v23 =>
 onV (ld1V v23 G H) fun v24 =>
 onV (B2.ev .sub v24 (.int .i64 (.ofNat 1) 0)) fun v25 =>
 onV (nilckV a0) fun v26 =>
 onV (paddV 1 v26) fun v27 =>
 onV (paddV 0 v27) fun v28 =>
 stV 1 v28 v25 H n fun v29 H n =>
 onV (nilckV a0) fun v30 =>
 onV (paddV 1 v30) fun v31 =>
 onV (paddV 0 v31) fun v32 =>
 onV (ld1V v32 G H) fun v33 =>
 onV (B2.ev .lss v33 (.int .i64 (.ofNat 0) 0)) fun v34 =>
 onTst v34 true (call 69 [a0, (.int .i64 (.ofNat 5) 0)] H n fun v35 H n =>
 u_f32_j3 lp G call k v1 v2 H n) (call 70 [a0] H n fun v36 H n =>
 onV (nilckV v36) fun v37 =>
 onV (paddV 13 v37) fun v38 =>
 onV (ld1V v38 G H) fun v39 =>
 onV (nilckV v36) fun v40 =>
 onV (paddV 10 v40) fun v41 =>
 onV (paddV 2 v41) fun v42 =>
 onV (ld1V v42 G H) fun v43 =>
 onV (lenV v43) fun v44 =>
 onV (B2.ev .geq v39 v44) fun v45 =>
 onTst v45 true (onV (nilckV a0) fun v46 =>
 onV (paddV 6 v46) fun v47 =>
 stV 1 v47 (.bool true) H n fun v48 H n =>
 u_f32_j3 lp G call k v1 v2 H n) (onV (nilckV v36) fun v49 =>
 onV (paddV 10 v49) fun v50 =>
 onV (paddV 2 v50) fun v51 =>
 onV (ld1V v51 G H) fun v52 =>
 onV (nilckV v36) fun v53 =>
 onV (paddV 13 v53) fun v54 =>
 onV (ld1V v54 G H) fun v55 =>
 onV (iaddrV 2 v52 v55) fun v56 =>
 onV (ldnV 2 v56 G H) fun v57 =>
 onA (aAlloc 2 [[(.int .i64 (.ofNat 0) 0), (.int .i64 (.ofNat 0) 0)]] E0) H n fun v58 H n =>
 stV 2 v58 v57 H n fun v59 H n =>
 onV (nilckV v36) fun v60 =>
 onV (paddV 13 v60) fun v61 =>
 onV (ld1V v61 G H) fun v62 =>
 onV (B2.ev .add v62 (.int .i64 (.ofNat 1) 0)) fun v63 =>
 onV (nilckV v36) fun v64 =>
 onV (paddV 13 v64) fun v65 =>
 stV 1 v65 v63 H n fun v66 H n =>
 onV (paddV 0 v58) fun v67 =>
 onV (ld1V v67 G H) fun v68 =>
 onV (eqV (.one .int) true v68 (.int .i64 (.ofNat 29) 0)) fun v69 =>
 onTst v69 true (onV (ldnV 2 v58 G H) fun v70 =>
 call 71 [a0, v36, v70] H n fun v71 H n =>
 ih6 (H, n)) (call 72 [a0, v36, (.int .i64 (.ofNat 1) 0)] H n fun v72 H n =>
 onV (iaddrV 2 v72 (.int .i64 (.ofNat 0) 0)) fun v73 =>
 onV (ldnV 2 v73 G H) fun v74 =>
 stV 2 v2 v74 H n fun v75 H n =>
 onV (nilckV a0) fun v76 =>
 onV (paddV 7 v76) fun v77 =>
 onV (ld1V v77 G H) fun v78 =>
 onV (nilckV a0) fun v79 =>
 onV (paddV 7 v79) fun v80 =>
 onV (ld1V v80 G H) fun v81 =>
 onV (lenV v81) fun v82 =>
 onV (B2.ev .sub v82 (.int .i64 (.ofNat 1) 0)) fun v83 =>
 onV (slcV 16 v78 E0 none (some (.c v83)) none) fun v84 =>
 onV (nilckV a0) fun v85 =>
 onV (paddV 7 v85) fun v86 =>
 stV 1 v86 v84 H n fun v87 H n =>
 onV (nilckV a0) fun v88 =>
 onV (paddV 7 v88) fun v89 =>
 onV (ld1V v89 G H) fun v90 =>
 onV (lenV v90) fun v91 =>
 onV (B2.ev .gtr v91 (.int .i64 (.ofNat 0) 0)) fun v92 =>
 onTst v92 true (onV (ldnV 2 v2 G H) fun v93 =>
 onA (aBslice 2 1 [(.int .i64 (.ofNat 0) 0), .nilp] [(0, .c v93)] E0) H n fun v94 H n =>
 call 70 [a0] H n fun v95 H n =>
 onV (ldnV 2 v2 G H) fun v => askB (vsame v v93) <|
 call 73 [a0, v95, v94] H n fun v96 H n =>
 ih6 (H, n)) (ih6 (H, n))))))) (u_f32_j3 lp G call k v1 v2 H n)
noncomputable def u_f32 (lp : LpT) (G : Roms) (call : CallT) (a0 : V) (H : Heap) (n : Nat) (k : KV) : Prop :=
 onA (aAlloc 2 [[(.int .i64 (.ofNat 0) 0), .nilp]] E0) H n fun v1 H n =>
 onA (aAlloc 2 [[(.int .i64 (.ofNat 0) 0), .nilp]] E0) H n fun v2 H n =>
 lp (Heap × Nat) (fun ih s => u_f32_l6 lp G call k a0 v1 v2 ih s.1 s.2) (H, n)
theorem ui_f32 {lp : LpT} (hL : LpOk lp) (G : Roms) : SfOk G lf_f32 (ar1 (u_f32 lp G)) := by
  intro call callE hle hd
  refine fun l H n k h0 => ?_
  obtain ⟨a0, rfl, h⟩ := ar1_inv h0
  clear h0
  delta u_f32 at h
  refine f_intro rfl ?_
  refine c_seq ?_
  refine c_ops ?_
  refine oa_t h k_alloc fun v1 H n h => ?_
  refine o0 ?_
  refine c_seq ?_
  refine c_ops ?_
  refine oa_t h k_alloc fun v2 H n h => ?_
  refine o0 ?_
  refine c_seq ?_
  refine c_skip ?_
  refine c_seqj (fun R H n => rg R q2 = v1 ∧ rg R q3 = v2 ∧ u_f32_j3 lp G call k v1 v2 H n) ?_ fun j3 => ?_
  · rintro R H n ⟨f2, f3, h⟩
    delta u_f32_j3 at h
    refine c_seq ?_
    refine c_ops ?_
    refine on_s h (k_ldn (xr f3)) fun v4 h => ?_
    refine oe_x hle hd h (k_st (xr f2) rfl) fun v5 H n h => ?_
    refine o0 ?_
    refine c_ret ?_
    exact fin_no (rsN f2 rs0) h
  · refine c_block ?_
    refine c_loop hL (fun s R H n => rg R q0 = a0 ∧ rg R q2 = v1 ∧ rg R q3 = v2 ∧ H = s.1 ∧ n = s.2) h ⟨(ne rfl (ne rfl rfl)), (ne rfl sm), sm, rfl, rfl⟩ ?_
    rintro ih6 I6 hI6 ⟨H, n⟩ R H0 n0 ⟨f0, f2, f3, eH, eN⟩ h
    replace h : u_f32_l6 lp G call k a0 v1 v2 ih6 H n := h
    obtain rfl : H0 = H := eH
    obtain rfl : n0 = n := eN
    delta u_f32_l6 at h
    refine c_seq ?_
    refine c_seq ?_
    refine c_ops ?_
    refine on_s h (k_nilck (xr f0)) fun v7 h => ?_
    refine on_s h (k_faddr rfl) fun v8 h => ?_
    refine on_s h (k_ld1 rfl) fun v9 h => ?_
    refine on_s h (k_lenL rfl) fun v10 h => ?_
    refine on_t h (k_bin rfl rfl) fun v11 h => ?_
    refine o0 ?_
    refine c_cond h (xr sm) (fun h => ?_) (fun h => ?_)
    · refine c_skip ?_
      refine c_block ?_
      refine c_seq ?_
      refine c_seq ?_
      refine c_ops ?_
      refine on_s h (k_nilck (xr (ne rfl f0))) fun v12 h => ?_
      refine on_s h (k_faddr rfl) fun v13 h => ?_
      refine on_s h (k_ld1 rfl) fun v14 h => ?_
      refine on_s h (k_eq rfl rfl) fun v15 h => ?_
      refine ogn_s h rfl (k_mv (xr (ne rfl f0))) fun v16 h => ?_
      refine ogn_s h rfl (k_nilck rfl) fun v17 h => ?_
      refine ogn_s h rfl (k_faddr rfl) fun v18 h => ?_
      refine ogn_s h rfl (k_ld1 rfl) fun v19 h => ?_
      refine on_t h (k_pick rfl rfl rfl) fun v20 h => ?_
      refine o0 ?_
      refine c_cond h (xr sm) (fun h => ?_) (fun h => ?_)
      · refine c_exit ?_
        refine bx_up rfl ?_
        refine bx_same ?_
        exact j3 _ _ _ ⟨(ne rfl (ne rfl f2)), (ne rfl (ne rfl f3)), h⟩
      · refine c_skip ?_
        refine c_seq ?_
        refine c_seq ?_
        refine c_ops ?_
        refine on_s h (k_nilck (xr (ne rfl (ne rfl f0)))) fun v21 h => ?_
        refine on_s h (k_faddr rfl) fun v22 h => ?_
        refine on_s h (k_faddr rfl) fun v23 h => ?_
        refine on_s h (k_ld1 rfl) fun v24 h => ?_
        refine on_s h (k_bin rfl rfl) fun v25 h => ?_
        refine on_s h (k_nilck (xr (ne rfl (ne rfl f0)))) fun v26 h => ?_
        refine on_s h (k_faddr rfl) fun v27 h => ?_
        refine on_s h (k_faddr rfl) fun v28 h => ?_
        refine oe_x hle hd h (k_st rfl rfl) fun v29 H n h => ?_
        refine o0 ?_
        refine c_seq ?_
        refine c_ops ?_
        refine on_s h (k_nilck (xr (ne rfl (ne rfl f0)))) fun v30 h => ?_
        refine on_s h (k_faddr rfl) fun v31 h => ?_
        refine on_s h (k_faddr rfl) fun v32 h => ?_
        refine on_s h (k_ld1 rfl) fun v33 h => ?_
        refine on_t h (k_bin rfl rfl) fun v34 h => ?_
        refine o0 ?_
        refine c_cond h (xr sm) (fun h => ?_) (fun h => ?_)
        · refine c_seq ?_
          refine c_ops ?_
          refine oe_s hle hd h (k_call (xsS (xr (ne rfl (ne rfl (ne rfl f0)))) (xsS rfl xs0))) fun v35 H n h => ?_
          refine o0 ?_
          refine c_exit ?_
          refine bx_up rfl ?_
          refine bx_same ?_
          exact j3 _ _ _ ⟨(ne rfl (ne rfl (ne rfl f2))), (ne rfl (ne rfl (ne rfl f3))), h⟩
        · refine c_skip ?_
          refine c_seq ?_
          refine c_ops ?_
          refine oe_s hle hd h (k_call (xsS (xr (ne rfl (ne rfl (ne rfl f0)))) xs0)) fun v36 H n h => ?_
          refine ov_t (a := v36) (k_mv rfl) ?_
          refine o0 ?_
          refine c_seq ?_
          refine c_seq ?_
          refine c_reg ?_
          refine iv_t (a := v36) (k_mv (xr sm)) ?_
          refine in_t h (k_nilck (xr sm)) fun v37 h => ?_
          refine in_t h (k_faddr (xr sm)) fun v38 h => ?_
          refine in_t h (k_ld1 (xr sm)) fun v39 h => ?_
          refine iv_t (a := v36) (k_mv (xr (ne rfl (ne rfl (ne rfl (ne rfl sm)))))) ?_
          refine in_t h (k_nilck (xr sm)) fun v40 h => ?_
          refine in_t h (k_faddr (xr sm)) fun v41 h => ?_
          refine in_t h (k_faddr (xr sm)) fun v42 h => ?_
          refine in_t h (k_ld1 (xr sm)) fun v43 h => ?_
          refine in_t h (k_lenL (xr sm)) fun v44 h => ?_
          refine in_t h (k_bin (xr (ne rfl (ne rfl (ne rfl (ne rfl (ne rfl (ne rfl sm))))))) (xr sm)) fun v45 h => ?_
          refine i0 ?_
          refine c_cond h (xr sm) (fun h => ?_) (fun h => ?_)
          · refine c_seq ?_
            refine c_ops ?_
            refine on_s h (k_nilck (xr (ne rfl (ne rfl (ne rfl (ne rfl (ne rfl (ne rfl (ne rfl (ne rfl (ne rfl (ne rfl (ne rfl (ne rfl (ne rfl (ne rfl (ne rfl f0))))))))))))))))) fun v46 h => ?_
            refine on_s h (k_faddr rfl) fun v47 h => ?_
            refine oe_x hle hd h (k_st rfl rfl) fun v48 H n h => ?_
            refine o0 ?_
            refine c_exit ?_
            refine bx_up rfl ?_
            refine bx_same ?_
            exact j3 _ _ _ ⟨(ne rfl (ne rfl (ne rfl (ne rfl (ne rfl (ne rfl (ne rfl (ne rfl (ne rfl (ne rfl (ne rfl (ne rfl (ne rfl (ne rfl (ne rfl f2))))))))))))))), (ne rfl (ne rfl (ne rfl (ne rfl (ne rfl (ne rfl (ne rfl (ne rfl (ne rfl (ne rfl (ne rfl (ne rfl (ne rfl (ne rfl (ne rfl f3))))))))))))))), h⟩
          · refine c_skip ?_
            refine c_seq ?_
            refine c_reg ?_
            refine iv_t (a := v36) (k_mv (xr (ne rfl (ne rfl (ne rfl (ne rfl (ne rfl (ne rfl (ne rfl (ne rfl (ne rfl (ne rfl (ne rfl sm))))))))))))) ?_
            refine in_t h (k_nilck (xr sm)) fun v49 h => ?_
            refine in_t h (k_faddr (xr sm)) fun v50 h => ?_
            refine in_t h (k_faddr (xr sm)) fun v51 h => ?_
            refine in_t h (k_ld1 (xr sm)) fun v52 h => ?_
            refine iv_t (a := v36) (k_mv (xr (ne rfl (ne rfl (ne rfl (ne rfl (ne rfl (ne rfl (ne rfl (ne rfl (ne rfl (ne rfl (ne rfl (ne rfl (ne rfl (ne rfl (ne rfl (ne rfl sm)))))))))))))))))) ?_
            refine in_t h (k_nilck (xr sm)) fun v53 h => ?_
            refine in_t h (k_faddr (xr sm)) fun v54 h => ?_
            refine in_t h (k_ld1 (xr sm)) fun v55 h => ?_
            refine in_t h (k_iaddr (xr (ne rfl (ne rfl (ne rfl (ne rfl sm))))) (xr sm)) fun v56 h => ?_
            refine in_t h (k_ldn (xr sm)) fun v57 h => ?_
            refine ia_t h k_alloc fun v58 H n h => ?_
            refine ie_x hle hd h (k_st (xr sm) (xr (ne rfl sm))) fun v59 H n h => ?_
            refine i0 ?_
            refine c_seq ?_
            refine c_ops ?_
            refine on_s h (k_nilck (xr (ne rfl (ne rfl (ne rfl (ne rfl (ne rfl (ne rfl (ne rfl (ne rfl (ne rfl (ne rfl (ne rfl (ne rfl (ne rfl (ne rfl (ne rfl (ne rfl (ne rfl (ne rfl (ne rfl (ne rfl (ne rfl (ne rfl (ne rfl sm))))))))))))))))))))))))) fun v60 h => ?_
            refine on_s h (k_faddr rfl) fun v61 h => ?_
            refine on_s h (k_ld1 rfl) fun v62 h => ?_
            refine on_s h (k_bin rfl rfl) fun v63 h => ?_
            refine on_s h (k_nilck (xr (ne rfl (ne rfl (ne rfl (ne rfl (ne rfl (ne rfl (ne rfl (ne rfl (ne rfl (ne rfl (ne rfl (ne rfl (ne rfl (ne rfl (ne rfl (ne rfl (ne rfl (ne rfl (ne rfl (ne rfl (ne rfl (ne rfl (ne rfl sm))))))))))))))))))))))))) fun v64 h => ?_
            refine on_s h (k_faddr rfl) fun v65 h => ?_
            refine oe_x hle hd h (k_st rfl rfl) fun v66 H n h => ?_
            refine o0 ?_
            refine c_seq ?_
            refine c_seq ?_
            refine c_ops ?_
            refine on_s h (k_faddr (xr sm)) fun v67 h => ?_
            refine on_s h (k_ld1 rfl) fun v68 h => ?_
            refine on_t h (k_eq rfl rfl) fun v69 h => ?_
            refine o0 ?_
            refine c_cond h (xr sm) (fun h => ?_) (fun h => ?_)
            · refine c_seq ?_
              refine c_ops ?_
              refine on_s h (k_ldn (xr (ne rfl sm))) fun v70 h => ?_
              refine oe_s hle hd h (k_call (xsS (xr (ne rfl (ne rfl (ne rfl (ne rfl (ne rfl (ne rfl (ne rfl (ne rfl (ne rfl (ne rfl (ne rfl (ne rfl (ne rfl (ne rfl (ne rfl (ne rfl (ne rfl (ne rfl (ne rfl (ne rfl (ne rfl (ne rfl (ne rfl (ne rfl (ne rfl (ne rfl (ne rfl (ne rfl f0))))))))))))))))))))))))))))) (xsS (xr (ne rfl (ne rfl (ne rfl (ne rfl (ne rfl (ne rfl (ne rfl (ne rfl (ne rfl (ne rfl (ne rfl (ne rfl (ne rfl (ne rfl (ne rfl (ne rfl (ne rfl (ne rfl (ne rfl (ne rfl (ne rfl (ne rfl (ne rfl (ne rfl sm))))))))))))))))))))))))) (xsS rfl xs0)))) fun v71 H n h => ?_
              refine o0 ?_
              refine c_exit ?_
              refine bx_same ?_
              exact hI6 (H, n) _ _ _ ⟨(ne rfl (ne rfl (ne rfl (ne rfl (ne rfl (ne rfl (ne rfl (ne rfl (ne rfl (ne rfl (ne rfl (ne rfl (ne rfl (ne rfl (ne rfl (ne rfl (ne rfl (ne rfl (ne rfl (ne rfl (ne rfl (ne rfl (ne rfl (ne rfl (ne rfl (ne rfl (ne rfl (ne rfl f0)))))))))))))))))))))))))))), (ne rfl (ne rfl (ne rfl (ne rfl (ne rfl (ne rfl (ne rfl (ne rfl (ne rfl (ne rfl (ne rfl (ne rfl (ne rfl (ne rfl (ne rfl (ne rfl (ne rfl (ne rfl (ne rfl (ne rfl (ne rfl (ne rfl (ne rfl (ne rfl (ne rfl (ne rfl (ne rfl (ne rfl f2)))))))))))))))))))))))))))), (ne rfl (ne rfl (ne rfl (ne rfl (ne rfl (ne rfl (ne rfl (ne rfl (ne rfl (ne rfl (ne rfl (ne rfl (ne rfl (ne rfl (ne rfl (ne rfl (ne rfl (ne rfl (ne rfl (ne rfl (ne rfl (ne rfl (ne rfl (ne rfl (ne rfl (ne rfl (ne rfl (ne rfl f3)))))))))))))))))))))))))))), rfl, rfl⟩ h
            · refine c_skip ?_
              refine c_seq ?_
              refine c_ops ?_
              refine oe_s hle hd h (k_call (xsS (xr (ne rfl (ne rfl (ne rfl (ne rfl (ne rfl (ne rfl (ne rfl (ne rfl (ne rfl (ne rfl (ne rfl (ne rfl (ne rfl (ne rfl (ne rfl (ne rfl (ne rfl (ne rfl (ne rfl (ne rfl (ne rfl (ne rfl (ne rfl (ne rfl (ne rfl (ne rfl (ne rfl (ne rfl f0))))))))))))))))))))))))))))) (xsS (xr (ne rfl (ne rfl (ne rfl (ne rfl (ne rfl (ne rfl (ne rfl (ne rfl (ne rfl (ne rfl (ne rfl (ne rfl (ne rfl (ne rfl (ne rfl (ne rfl (ne rfl (ne rfl (ne rfl (ne rfl (ne rfl (ne rfl (ne rfl (ne rfl sm))))))))))))))))))))))))) (xsS rfl xs0)))) fun v72 H n h => ?_
              refine on_s h (k_iaddr rfl rfl) fun v73 h => ?_
              refine on_s h (k_ldn rfl) fun v74 h => ?_
              refine oe_x hle hd h (k_st (xr (ne rfl (ne rfl (ne rfl (ne rfl (ne rfl (ne rfl (ne rfl (ne rfl (ne rfl (ne rfl (ne rfl (ne rfl (ne rfl (ne rfl (ne rfl (ne rfl (ne rfl (ne rfl (ne rfl (ne rfl (ne rfl (ne rfl (ne rfl (ne rfl (ne rfl (ne rfl (ne rfl (ne rfl f3))))))))))))))))))))))))))))) rfl) fun v75 H n h => ?_
              refine o0 ?_
              refine c_seq ?_
              refine c_reg ?_
              refine iv_t (a := a0) (k_mv (xr (ne rfl (ne rfl (ne rfl (ne rfl (ne rfl (ne rfl (ne rfl (ne rfl (ne rfl (ne rfl (ne rfl (ne rfl (ne rfl (ne rfl (ne rfl (ne rfl (ne rfl (ne rfl (ne rfl (ne rfl (ne rfl (ne rfl (ne rfl (ne rfl (ne rfl (ne rfl (ne rfl (ne rfl f0)))))))))))))))))))))))))))))) ?_
              refine iv_t (a := a0) (k_mv (xr (ne rfl (ne rfl (ne rfl (ne rfl (ne rfl (ne rfl (ne rfl (ne rfl (ne rfl (ne rfl (ne rfl (ne rfl (ne rfl (ne rfl (ne rfl (ne rfl (ne rfl (ne rfl (ne rfl (ne rfl (ne rfl (ne rfl (ne rfl (ne rfl (ne rfl (ne rfl (ne rfl (ne rfl (ne rfl f0))))))))))))))))))))))))))))))) ?_
              refine in_t h (k_nilck (xr sm)) fun v76 h => ?_
              refine in_t h (k_faddr (xr sm)) fun v77 h => ?_
              refine in_t h (k_ld1 (xr sm)) fun v78 h => ?_
              refine iv_t (a := a0) (k_mv (xr (ne rfl (ne rfl (ne rfl (ne rfl (ne rfl (ne rfl (ne rfl (ne rfl (ne rfl (ne rfl (ne rfl (ne rfl (ne rfl (ne rfl (ne rfl (ne rfl (ne rfl (ne rfl (ne rfl (ne rfl (ne rfl (ne rfl (ne rfl (ne rfl (ne rfl (ne rfl (ne rfl (ne rfl (ne rfl (ne rfl (ne rfl (ne rfl (ne rfl f0))))))))))))))))))))))))))))))))))) ?_
              refine in_t h (k_nilck (xr sm)) fun v79 h => ?_
              refine in_t h (k_faddr (xr sm)) fun v80 h => ?_
              refine in_t h (k_ld1 (xr sm)) fun v81 h => ?_
              refine in_t h (k_lenL (xr sm)) fun v82 h => ?_
              refine in_t h (k_bin (xr sm) rfl) fun v83 h => ?_
              refine in_t h (k_slc (xr (ne rfl (ne rfl (ne rfl (ne rfl (ne rfl (ne rfl sm))))))) ox0 (oxS (xr sm)) ox0) fun v84 h => ?_
              refine in_t h (k_nilck (xr (ne rfl (ne rfl (ne rfl (ne rfl (ne rfl (ne rfl (ne rfl (ne rfl (ne rfl (ne rfl (ne rfl sm))))))))))))) fun v85 h => ?_
              refine in_t h (k_faddr (xr sm)) fun v86 h => ?_
              refine ie_x hle hd h (k_st (xr sm) (xr (ne rfl (ne rfl sm)))) fun v87 H n h => ?_
              refine i0 ?_
              refine c_seq ?_
              refine c_ops ?_
              refine on_s h (k_nilck (xr (ne rfl (ne rfl (ne rfl (ne rfl (ne rfl (ne rfl (ne rfl (ne rfl (ne rfl (ne rfl (ne rfl (ne rfl (ne rfl (ne rfl (ne rfl (ne rfl (ne rfl (ne rfl (ne rfl (ne rfl (ne rfl (ne rfl (ne rfl (ne rfl (ne rfl (ne rfl (ne rfl (ne rfl (ne rfl (ne rfl (ne rfl (ne rfl (ne rfl (ne rfl (ne rfl (ne rfl (ne rfl (ne rfl (ne rfl (ne rfl (ne rfl (ne rfl f0)))))))))))))))))))))))))))))))))))))))))))) fun v88 h => ?_
              refine on_s h (k_faddr rfl) fun v89 h => ?_
              refine on_s h (k_ld1 rfl) fun v90 h => ?_
              refine on_s h (k_lenL rfl) fun v91 h => ?_
              refine on_t h (k_bin rfl rfl) fun v92 h => ?_
              refine o0 ?_
              refine c_cond h (xr sm) (fun h => ?_) (fun h => ?_)
              · refine c_reg ?_
                refine iv_t (a := a0) (k_mv (xr (ne rfl (ne rfl (ne rfl (ne rfl (ne rfl (ne rfl (ne rfl (ne rfl (ne rfl (ne rfl (ne rfl (ne rfl (ne rfl (ne rfl (ne rfl (ne rfl (ne rfl (ne rfl (ne rfl (ne rfl (ne rfl (ne rfl (ne rfl (ne rfl (ne rfl (ne rfl (ne rfl (ne rfl (ne rfl (ne rfl (ne rfl (ne rfl (ne rfl (ne rfl (ne rfl (ne rfl (ne rfl (ne rfl (ne rfl (ne rfl (ne rfl (ne rfl (ne rfl f0))))))))))))))))))))))))))))))))))))))))))))) ?_
                refine iv_t (a := a0) (k_mv (xr (ne rfl (ne rfl (ne rfl (ne rfl (ne rfl (ne rfl (ne rfl (ne rfl (ne rfl (ne rfl (ne rfl (ne rfl (ne rfl (ne rfl (ne rfl (ne rfl (ne rfl (ne rfl (ne rfl (ne rfl (ne rfl (ne rfl (ne rfl (ne rfl (ne rfl (ne rfl (ne rfl (ne rfl (ne rfl (ne rfl (ne rfl (ne rfl (ne rfl (ne rfl (ne rfl (ne rfl (ne rfl (ne rfl (ne rfl (ne rfl (ne rfl (ne rfl (ne rfl (ne rfl f0)))))))))))))))))))))))))))))))))))))))))))))) ?_
                refine in_t h (k_ldn (xr (ne rfl (ne rfl (ne rfl (ne rfl (ne rfl (ne rfl (ne rfl (ne rfl (ne rfl (ne rfl (ne rfl (ne rfl (ne rfl (ne rfl (ne rfl (ne rfl (ne rfl (ne rfl (ne rfl (ne rfl (ne rfl (ne rfl (ne rfl (ne rfl (ne rfl (ne rfl (ne rfl (ne rfl (ne rfl (ne rfl (ne rfl (ne rfl (ne rfl (ne rfl (ne rfl (ne rfl (ne rfl (ne rfl (ne rfl (ne rfl (ne rfl (ne rfl (ne rfl (ne rfl (ne rfl f3))))))))))))))))))))))))))))))))))))))))))))))) fun v93 h => ?_
                refine ia_t h (k_bslice (pbS (xr sm) pb0)) fun v94 H n h => ?_
                refine ie_t hle hd h (k_call (xsS (xr (ne rfl (ne rfl sm))) xs0)) fun v95 H n h => ?_
                refine ire (askB_on h) (ne rfl (ne rfl sm)) (k_ldn (xr (ne rfl (ne rfl (ne rfl (ne rfl (ne rfl (ne rfl (ne rfl (ne rfl (ne rfl (ne rfl (ne rfl (ne rfl (ne rfl (ne rfl (ne rfl (ne rfl (ne rfl (ne rfl (ne rfl (ne rfl (ne rfl (ne rfl (ne rfl (ne rfl (ne rfl (ne rfl (ne rfl (ne rfl (ne rfl (ne rfl (ne rfl (ne rfl (ne rfl (ne rfl (ne rfl (ne rfl (ne rfl (ne rfl (ne rfl (ne rfl (ne rfl (ne rfl (ne rfl (ne rfl (ne rfl (ne rfl (ne rfl (ne rfl f3)))))))))))))))))))))))))))))))))))))))))))))))))) fun h => ?_
                refine ie_t hle hd h (k_call (xsS (xr (ne rfl (ne rfl (ne rfl (ne rfl sm))))) (xsS (xr sm) (xsS (xr (ne rfl sm)) xs0)))) fun v96 H n h => ?_
                refine i0 ?_
                exact hI6 (H, n) _ _ _ ⟨(ne rfl (ne rfl (ne rfl (ne rfl (ne rfl (ne rfl (ne rfl (ne rfl (ne rfl (ne rfl (ne rfl (ne rfl (ne rfl (ne rfl (ne rfl (ne rfl (ne rfl (ne rfl (ne rfl (ne rfl (ne rfl (ne rfl (ne rfl (ne rfl (ne rfl (ne rfl (ne rfl (ne rfl (ne rfl (ne rfl (ne rfl (ne rfl (ne rfl (ne rfl (ne rfl (ne rfl (ne rfl (ne rfl (ne rfl (ne rfl (ne rfl (ne rfl (ne rfl (ne rfl (ne rfl (ne rfl (ne rfl (ne rfl (ne rfl f0))))))))))))))))))))))))))))))))))))))))))))))))), (ne rfl (ne rfl (ne rfl (ne rfl (ne rfl (ne rfl (ne rfl (ne rfl (ne rfl (ne rfl (ne rfl (ne rfl (ne rfl (ne rfl (ne rfl (ne rfl (ne rfl (ne rfl (ne rfl (ne rfl (ne rfl (ne rfl (ne rfl (ne rfl (ne rfl (ne rfl (ne rfl (ne rfl (ne rfl (ne rfl (ne rfl (ne rfl (ne rfl (ne rfl (ne rfl (ne rfl (ne rfl (ne rfl (ne rfl (ne rfl (ne rfl (ne rfl (ne rfl (ne rfl (ne rfl (ne rfl (ne rfl (ne rfl (ne rfl f2))))))))))))))))))))))))))))))))))))))))))))))))), (ne rfl (ne rfl (ne rfl (ne rfl (ne rfl (ne rfl (ne rfl (ne rfl (ne rfl (ne rfl (ne rfl (ne rfl (ne rfl (ne rfl (ne rfl (ne rfl (ne rfl (ne rfl (ne rfl (ne rfl (ne rfl (ne rfl (ne rfl (ne rfl (ne rfl (ne rfl (ne rfl (ne rfl (ne rfl (ne rfl (ne rfl (ne rfl (ne rfl (ne rfl (ne rfl (ne rfl (ne rfl (ne rfl (ne rfl (ne rfl (ne rfl (ne rfl (ne rfl (ne rfl (ne rfl (ne rfl (ne rfl (ne rfl (ne rfl f3))))))))))))))))))))))))))))))))))))))))))))))))), rfl, rfl⟩ h
              · refine c_skip ?_
                exact hI6 (H, n) _ _ _ ⟨(ne rfl (ne rfl (ne rfl (ne rfl (ne rfl (ne rfl (ne rfl (ne rfl (ne rfl (ne rfl (ne rfl (ne rfl (ne rfl (ne rfl (ne rfl (ne rfl (ne rfl (ne rfl (ne rfl (ne rfl (ne rfl (ne rfl (ne rfl (ne rfl (ne rfl (ne rfl (ne rfl (ne rfl (ne rfl (ne rfl (ne rfl (ne rfl (ne rfl (ne rfl (ne rfl (ne rfl (ne rfl (ne rfl (ne rfl (ne rfl (ne rfl (ne rfl (ne rfl f0))))))))))))))))))))))))))))))))))))))))))), (ne rfl (ne rfl (ne rfl (ne rfl (ne rfl (ne rfl (ne rfl (ne rfl (ne rfl (ne rfl (ne rfl (ne rfl (ne rfl (ne rfl (ne rfl (ne rfl (ne rfl (ne rfl (ne rfl (ne rfl (ne rfl (ne rfl (ne rfl (ne rfl (ne rfl (ne rfl (ne rfl (ne rfl (ne rfl (ne rfl (ne rfl (ne rfl (ne rfl (ne rfl (ne rfl (ne rfl (ne rfl (ne rfl (ne rfl (ne rfl (ne rfl (ne rfl (ne rfl f2))))))))))))))))))))))))))))))))))))))))))), (ne rfl (ne rfl (ne rfl (ne rfl (ne rfl (ne rfl (ne rfl (ne rfl (ne rfl (ne rfl (ne rfl (ne rfl (ne rfl (ne rfl (ne rfl (ne rfl (ne rfl (ne rfl (ne rfl (ne rfl (ne rfl (ne rfl (ne rfl (ne rfl (ne rfl (ne rfl (ne rfl (ne rfl (ne rfl (ne rfl (ne rfl (ne rfl (ne rfl (ne rfl (ne rfl (ne rfl (ne rfl (ne rfl (ne rfl (ne rfl (ne rfl (ne rfl (ne rfl f3))))))))))))))))))))))))))))))))))))))))))), rfl, rfl⟩ h
    · refine c_exit ?_
      refine bx_same ?_
      exact j3 _ _ _ ⟨(ne rfl f2), (ne rfl f3), h⟩
end Go.R5.UW32

/- What is asked of the numbers. -/
set_option maxRecDepth 100000
namespace Go.R5.VA
open Go.Eng Go.R5
noncomputable def fs3 : T SF := T.set (FS (lpF 600) G0) 32 (ar1 (UW32.u_f32 (lpF 600) G0))
theorem fs3_ok : FsOk F G0 fs3 := (fs_ok (lpF_ok 600) G0).set UW32.au_f32 (UW32.ui_f32 (lpF_ok 600) G0)
noncomputable def tt (z0 x : Int) (n : Nat) : Prop := t_f5 (lpF 600) G0 (runS (FS (lpF 600) G0) 600) (runS fs3 600) z0 x n .e 0 isT
noncomputable def N (a b : Int) : Prop := eqV (.one .int) true (.int .i64 a 0) (.int .i64 b 0) = some (.bool false)
noncomputable def W (x : Int) (c : Nat) : Int := wrapI .i64 (iadd x (.ofNat c))
noncomputable def S (a : Int) : Prop := vsame (.agg [.int .i64 a 0, .nilp]) (.agg [.int .i64 a 0, .nilp]) = true
theorem s_same (a : Int) : S a := by
  have h : vsame (.agg [.int .i64 a 0, .nilp]) (.agg [.int .i64 a 0, .nilp]) = band (band true (band (ieq a a) true)) true := by kernel_rfl
  unfold S; rw [h, ieq_eq]; simp
theorem n_same (a : Int) : N a a := neq_self a
theorem w_zero {x : Int} (h : (Lit.int .i64 x).wf = true) : W x 0 = x := by
  show wrapI .i64 (iadd x (.ofNat 0)) = x
  rw [wrapI_eq, iadd_eq]
  show IntKind.wrap .i64 (x + 0) = x
  rw [Int.add_zero]
  exact wrap64_id (wf_le h).1 (wf_le h).2
end Go.R5.VA

