/- Part of a proof: texts VC of the engine and what is proved with it; nothing is assumed. -/
import Derived.Test.YtdplchkljbfjdaaGreatDoorPlainR
import Derived.Test.YtdplchkljbfjdaaGreatDoorCode
import Derived.Test.YtdplchkljbfjdaaGreatDoorEngF
set_option linter.unusedVariables false
set_option linter.unusedSimpArgs false
/- The law, with what it reads of its numbers. -/
namespace Go.R5.VC
open Go.Eng Go.R5
set_option maxRecDepth 100000
def r0 : X := .r q0
def r1 : X := .r q1
def r5 : X := .r q5
def r6 : X := .r q6
def r7 : X := .r q7
def r8 : X := .r q8
def r9 : X := .r q9
def r11 : X := .r q11
def r12 : X := .r q12
def r13 : X := .r q13
def r14 : X := .r q14
def r15 : X := .r q15
def r16 : X := .r q16
def r18 : X := .r q18
def r38 : X := .r q38
def r47 : X := .r q47
def lf : AF := .mk 2 (.seq (.ops [.mk (.to q4) .no (.n (.mv (.c (.bool false))))])
 (.seq (.seq (.ops [.mk .ps .no (.e (.call 13 [])),
    .mk (.to q18) .no (.n (.not (.s 0)))])
   (.cond r18 (.seq (.ops [.mk (.to q4) .no (.n (.mv (.c (.bool false))))])
     .ret)
    .skip))
  (.seq (.ops [.mk .ps .no (.n (.bin .and r1 (.c (.int .i64 (.ofNat 15) 0)))),
    .mk (.to q1) .no (.n (.mv (.s 0)))])
   (.seq (.ops [.mk .ps .no (.a (.bslice 1 12 [(.str 0 0)] [(0, (.c (.str 36 115392871592208873063576388766376297854168949589050745868064178747391304713210393027948))), (1, (.c (.str 56 168047369847121166307127589277239756968611204178421004957305883239378799941135632467364434563107968784458576913206629158630433813194092))), (2, (.c (.str 28 6230468595316043393448429257230995687074251314155036094782105023088))), (3, (.c (.str 53 10016403785176346677966570224356964672020649171928962456072319576598273045723891824846000201041436703660479811267841990795224428))), (4, (.c (.str 23 5666578224102938107755772688020443257495432079956603504))), (5, (.c (.str 51 152838192522832438323464511705849033111574546539002617370747577368622452667795661215279769269573603474889579312924873814640))), (6, (.c (.str 49 2332125740399664891410286128324578661013312297535512185454350838031590153962806293506122010193618346173125505250325104))), (7, (.c (.str 47 35587760870069570603816701953978900450233842991444908320728121870640435055399490549702333948108159382818580096364))), (8, (.c (.str 47 35585414739985121023716524087325889960295002604106458796369654126618464587147998564320935199052101027702680872300))), (9, (.c (.str 54 2564199369005144749559441975195522330200992572044471092385658530435328247581028392924165867107095580366869582573997760747823981932))), (10, (.c (.str 43 8281580852295806409724121822912903127199174519563269148212874411588225381478943394083938128337824933228))), (11, (.c (.str 39 1928206313677447255859218705955052894594413472423093401056068661111507168450252904257637606764)))])),
     .mk (.to q5) .no (.n (.mv (.s 0)))])
    (.seq (.ops [.mk .ps .no (.n (.cvi .u64 r0)),
      .mk .ps .no (.n (.bin .rem (.s 0) (.c (.int .u64 (.ofNat 12) 0)))),
      .mk .ps .no (.n (.cvi .i64 (.s 0))),
      .mk .ps .no (.n (.iaddr 1 r5 (.s 0))),
      .mk .ps .no (.n (.ld1 (.s 0))),
      .mk .ps .no (.n (.bin .add (.c (.str 86 162939320741913380034531397489776220936200491067431926099926793058159338822472942727314302576235317367781732328097560132561591096238004017690368257412667157258472466767122315419633769134353800275037448662115)) (.s 0))),
      .mk .ps .no (.n (.bin .add (.s 0) (.c (.str 4 2099281184)))),
      .mk .ps .no (.a (.bslice 1 2 [(.str 0 0)] [(0, (.s 0)), (1, (.c (.str 21 182873138172443285020062672248839359210811176348771)))])),
      .mk .ps .no (.e (.call 10 [(.s 0)])),
      .mk .ps .no (.n (.ext (.s 0) 0)),
      .mk .ps .no (.n (.ext (.s 1) 1)),
      .mk .ps .no (.n (.ext (.s 2) 2)),
      .mk (.to q6) .no (.n (.mv (.s 2))),
      .mk (.to q7) .no (.n (.mv (.s 1))),
      .mk (.to q8) .no (.n (.mv (.s 0)))])
     (.seq (.seq (.ops [.mk (.to q38) .no (.n (.not r8))])
       (.cond r38 (.seq (.ops [.mk (.to q4) .no (.n (.mv (.c (.bool false))))])
         .ret)
        .skip))
      (.seq (.ops [.mk .ps .no (.e (.call 14 [r7, r6])),
        .mk .ps .no (.n (.ext (.s 0) 0)),
        .mk .ps .no (.n (.ext (.s 1) 1)),
        .mk .ps .no (.n (.ext (.s 2) 2)),
        .mk (.to q9) .no (.n (.mv (.s 2))),
        .mk (.to q11) .no (.n (.mv (.s 0)))])
       (.seq (.seq (.ops [.mk (.to q47) .no (.n (.not r11))])
         (.cond r47 (.seq (.ops [.mk (.to q4) .no (.n (.mv (.c (.bool false))))])
           .ret)
          .skip))
        (.seq (.ops [.mk .ps .no (.n (.build [(.int .i64 (.ofNat 0) 0), (.int .i64 (.ofNat 0) 0), (.int .i64 (.ofNat 0) 0)] [(0, 1, (.c (.int .i64 (.ofNat 5000) 0))), (1, 1, (.c (.int .i64 (.ofNat 100) 0))), (2, 1, (.c (.int .i64 (.ofNat 20) 0)))])),
          .mk (.to q12) .no (.a (.alloc 3 [[(.int .i64 (.ofNat 0) 0), (.int .i64 (.ofNat 0) 0), (.int .i64 (.ofNat 0) 0)]])),
          .mk .no .no (.e (.st 3 r12 (.s 0)))])
         (.seq (.ops [.mk .ps .no (.a (.bslice 1 1 [(.int .i64 (.ofNat 0) 0)] [(0, r1)])),
           .mk .ps .no (.n (.ldn 3 r12)),
           .mk .ps .no (.e (.call 16 [r7, r6, (.c (.str 1 65)), (.c (.str 1 109)), (.s 1), (.s 0)])),
           .mk .ps .no (.n (.ext (.s 0) 0)),
           .mk .ps .no (.n (.ext (.s 1) 1)),
           .mk (.to q13) .no (.a (.alloc 3 [[(.int .i64 (.ofNat 0) 0), (.int .i64 (.ofNat 0) 0), .nils]])),
           .mk .no .no (.e (.st 3 r13 (.s 1))),
           .mk (.to q14) .no (.n (.mv (.s 0)))])
          (.seq (.ops [.mk .ps .no (.a (.bslice 1 1 [(.int .i64 (.ofNat 0) 0)] [(0, r1)])),
            .mk .ps .no (.n (.ldn 3 r12)),
            .mk .ps .no (.e (.call 15 [r9, (.c (.str 1 65)), (.c (.str 1 109)), (.s 1), (.s 0)])),
            .mk .ps .no (.n (.ext (.s 0) 0)),
            .mk .ps .no (.n (.ext (.s 1) 1)),
            .mk (.to q15) .no (.a (.alloc 3 [[(.int .i64 (.ofNat 0) 0), (.int .i64 (.ofNat 0) 0), .nils]])),
            .mk .no .no (.e (.st 3 r15 (.s 1))),
            .mk (.to q16) .no (.n (.mv (.s 0)))])
           (.seq (.ops [.mk .ps .no (.n (.eq (.one .int) false r14 (.c (.int .i64 (.ofNat 0) 0)))),
             .mk .ps (.on (.s 0) true) (.n (.mv r16)),
             .mk .ps (.on (.s 1) true) (.n (.eq (.one .int) false (.s 0) (.c (.int .i64 (.ofNat 0) 0)))),
             .mk .ps .no (.n (.pick (.s 2) (.s 0) (.c (.bool false)))),
             .mk .ps (.on (.s 0) true) (.n (.faddr 0 r13)),
             .mk .ps (.on (.s 1) true) (.n (.ld1 (.s 0))),
             .mk .ps (.on (.s 2) true) (.n (.eq (.one .int) true (.s 0) (.c (.int .i64 (.ofNat 0) 0)))),
             .mk .ps .no (.n (.pick (.s 3) (.s 0) (.c (.bool false)))),
             .mk .ps (.on (.s 0) true) (.n (.ldn 3 r13)),
             .mk .ps (.on (.s 1) true) (.n (.ldn 3 r15)),
             .mk .ps (.on (.s 2) true) (.e (.call 17 [(.s 1), (.s 0)])),
             .mk .ps .no (.n (.pick (.s 3) (.s 0) (.c (.bool false)))),
             .mk .ps (.on (.s 0) true) (.n (.faddr 2 r13)),
             .mk .ps (.on (.s 1) true) (.n (.ld1 (.s 0))),
             .mk .ps (.on (.s 2) true) (.n (.lenL (.s 0))),
             .mk .ps (.on (.s 3) true) (.n (.bin .gtr (.s 0) (.c (.int .i64 (.ofNat 0) 0)))),
             .mk .ps .no (.n (.pick (.s 4) (.s 0) (.c (.bool false)))),
             .mk (.to q4) .no (.n (.mv (.s 0)))])
            .ret))))))))))))
 [.tmp q4] .no 0
theorem at_law : T.get F 8 = some lf := by kernel_rfl
noncomputable def t_f8 (lp : LpT) (G : Roms) (call : CallT) (z0 : Int) (z1 : Int) (x0 : Nat) (x1 : Nat) (H : Heap) (n : Nat) (k : KV) : Prop :=
 call 13 [] H n fun v1 H n =>
 onV (notV v1) fun v2 =>
 onTst v2 true (k (.bool false) H n) (onA (aBslice 1 12 [(.str 0 0)] [(0, .c (.str 36 115392871592208873063576388766376297854168949589050745868064178747391304713210393027948)), (1, .c (.str 56 168047369847121166307127589277239756968611204178421004957305883239378799941135632467364434563107968784458576913206629158630433813194092)), (2, .c (.str 28 6230468595316043393448429257230995687074251314155036094782105023088)), (3, .c (.str 53 10016403785176346677966570224356964672020649171928962456072319576598273045723891824846000201041436703660479811267841990795224428)), (4, .c (.str 23 5666578224102938107755772688020443257495432079956603504)), (5, .c (.str 51 152838192522832438323464511705849033111574546539002617370747577368622452667795661215279769269573603474889579312924873814640)), (6, .c (.str 49 2332125740399664891410286128324578661013312297535512185454350838031590153962806293506122010193618346173125505250325104)), (7, .c (.str 47 35587760870069570603816701953978900450233842991444908320728121870640435055399490549702333948108159382818580096364)), (8, .c (.str 47 35585414739985121023716524087325889960295002604106458796369654126618464587147998564320935199052101027702680872300)), (9, .c (.str 54 2564199369005144749559441975195522330200992572044471092385658530435328247581028392924165867107095580366869582573997760747823981932)), (10, .c (.str 43 8281580852295806409724121822912903127199174519563269148212874411588225381478943394083938128337824933228)), (11, .c (.str 39 1928206313677447255859218705955052894594413472423093401056068661111507168450252904257637606764))] E0) H n fun v3 H n =>
 onV (cviV .i64 (.int .u64 (.ofNat x1) 0)) fun v4 =>
 onV (iaddrV 1 v3 v4) fun v5 =>
 onV (ld1V v5 G H) fun v6 =>
 onV (B2.ev .add (.str 86 162939320741913380034531397489776220936200491067431926099926793058159338822472942727314302576235317367781732328097560132561591096238004017690368257412667157258472466767122315419633769134353800275037448662115) v6) fun v7 =>
 onV (B2.ev .add v7 (.str 4 2099281184)) fun v8 =>
 onA (aBslice 1 2 [(.str 0 0)] [(0, .c v8), (1, .c (.str 21 182873138172443285020062672248839359210811176348771))] E0) H n fun v9 H n =>
 call 10 [v9] H n fun v10 H n =>
 onV (extV v10 0) fun v11 =>
 onV (extV v10 1) fun v12 =>
 onV (extV v10 2) fun v13 =>
 onV (notV v13) fun v14 =>
 onTst v14 true (k (.bool false) H n) (call 14 [v12, v11] H n fun v15 H n =>
 onV (extV v15 0) fun v16 =>
 onV (extV v15 1) fun v17 =>
 onV (extV v15 2) fun v18 =>
 onV (notV v18) fun v19 =>
 onTst v19 true (k (.bool false) H n) (onV (buildV [(.int .i64 (.ofNat 0) 0), (.int .i64 (.ofNat 0) 0), (.int .i64 (.ofNat 0) 0)] [(0, 1, .c (.int .i64 (.ofNat 5000) 0)), (1, 1, .c (.int .i64 (.ofNat 100) 0)), (2, 1, .c (.int .i64 (.ofNat 20) 0))]) fun v20 =>
 onA (aAlloc 3 [[(.int .i64 (.ofNat 0) 0), (.int .i64 (.ofNat 0) 0), (.int .i64 (.ofNat 0) 0)]] E0) H n fun v21 H n =>
 stV 3 v21 v20 H n fun v22 H n =>
 onA (aBslice 1 1 [(.int .i64 (.ofNat 0) 0)] [(0, .c (.int .i64 (.ofNat x0) 0))] E0) H n fun v23 H n =>
 onV (ldnV 3 v21 G H) fun v24 =>
 call 16 [v12, v11, (.str 1 65), (.str 1 109), v23, v24] H n fun v25 H n =>
 onV (extV v25 0) fun v26 =>
 onV (extV v25 1) fun v27 =>
 onA (aAlloc 3 [[(.int .i64 (.ofNat 0) 0), (.int .i64 (.ofNat 0) 0), .nils]] E0) H n fun v28 H n =>
 stV 3 v28 v26 H n fun v29 H n =>
 onA (aBslice 1 1 [(.int .i64 (.ofNat 0) 0)] [(0, .c (.int .i64 (.ofNat x0) 0))] E0) H n fun v30 H n =>
 onV (ldnV 3 v21 G H) fun v31 =>
 call 15 [v16, (.str 1 65), (.str 1 109), v30, v31] H n fun v32 H n =>
 onV (extV v32 0) fun v33 =>
 onV (extV v32 1) fun v34 =>
 onA (aAlloc 3 [[(.int .i64 (.ofNat 0) 0), (.int .i64 (.ofNat 0) 0), .nils]] E0) H n fun v35 H n =>
 stV 3 v35 v33 H n fun v36 H n =>
 onV (eqV (.one .int) false v27 (.int .i64 (.ofNat 0) 0)) fun v37 =>
 onG v37 true (some v34) fun v38 =>
 onG v37 true (eqV (.one .int) false v38 (.int .i64 (.ofNat 0) 0)) fun v39 =>
 onV (pickV v37 v39 (.bool false)) fun v40 =>
 onG v40 true (paddV 0 v28) fun v41 =>
 onG v40 true (ld1V v41 G H) fun v42 =>
 onG v40 true (eqV (.one .int) true v42 (.int .i64 (.ofNat 0) 0)) fun v43 =>
 onV (pickV v40 v43 (.bool false)) fun v44 =>
 onG v44 true (ldnV 3 v28 G H) fun v45 =>
 onG v44 true (ldnV 3 v35 G H) fun v46 =>
 onGT v44 true (call 17 [v45, v46] H n) H n fun v47 H n =>
 onV (pickV v44 v47 (.bool false)) fun v48 =>
 onG v48 true (paddV 2 v28) fun v49 =>
 onG v48 true (ld1V v49 G H) fun v50 =>
 onG v48 true (lenV v50) fun v51 =>
 onG v48 true (B2.ev .gtr v51 (.int .i64 (.ofNat 0) 0)) fun v52 =>
 onV (pickV v48 v52 (.bool false)) fun v53 =>
 k v53 H n)))
theorem ti_f8 {lp : LpT} (hL : LpOk lp) {G : Roms} {call callE : CallT} (z0 : Int) (z1 : Int) (x0 : Nat) (x1 : Nat) (ex0 : uand z1 15 = x0) (ex1 : umod z0 12 = x1) (hle : CallLe call callE) (hd : CallDet callE) {H : Heap} {n : Nat} {k : KV} (h : t_f8 lp G call z0 z1 x0 x1 H n k) : exFunL lf G callE [(.int .i64 z0 0), (.int .i64 z1 0)] H n k := by
  delta t_f8 at h
  refine f_intro rfl ?_
  refine c_seq ?_
  refine c_ops ?_
  refine ov_t (a := (.bool false)) (k_mv rfl) ?_
  refine o0 ?_
  refine c_seq ?_
  refine c_seq ?_
  refine c_ops ?_
  refine oe_s hle hd h (k_call xs0) fun v1 H n h => ?_
  refine on_t h (k_not rfl) fun v2 h => ?_
  refine o0 ?_
  refine c_cond h (xr sm) (fun h => ?_) (fun h => ?_)
  · refine c_seq ?_
    refine c_ops ?_
    refine ov_t (a := (.bool false)) (k_mv rfl) ?_
    refine o0 ?_
    refine c_ret ?_
    exact fin_no (rsT sm rs0) h
  · refine c_skip ?_
    refine c_seq ?_
    refine c_ops ?_
    refine ov_s (a := (.int .i64 (.ofNat x0) 0)) (km3 (by decide) ex0 (xr (ne rfl (ne rfl rfl)))) ?_
    refine ov_t (a := (.int .i64 (.ofNat x0) 0)) (k_mv rfl) ?_
    refine o0 ?_
    refine c_seq ?_
    refine c_ops ?_
    refine oa_s h (k_bslice (pbS rfl (pbS rfl (pbS rfl (pbS rfl (pbS rfl (pbS rfl (pbS rfl (pbS rfl (pbS rfl (pbS rfl (pbS rfl (pbS rfl pb0))))))))))))) fun v3 H n h => ?_
    refine ov_t (a := v3) (k_mv rfl) ?_
    refine o0 ?_
    refine c_seq ?_
    refine c_ops ?_
    refine ov_s (a := (.int .u64 (IntKind.wrap .u64 z0) 0)) (km1 (xr (ne rfl (ne rfl (ne rfl (ne rfl rfl)))))) ?_
    refine ov_s (a := (.int .u64 (.ofNat x1) 0)) (km2 (by decide) ex1 rfl) ?_
    refine on_s h (k_cvi rfl) fun v4 h => ?_
    refine on_s h (k_iaddr (xr sm) rfl) fun v5 h => ?_
    refine on_s h (k_ld1 rfl) fun v6 h => ?_
    refine on_s h (k_bin rfl rfl) fun v7 h => ?_
    refine on_s h (k_bin rfl rfl) fun v8 h => ?_
    refine oa_s h (k_bslice (pbS rfl (pbS rfl pb0))) fun v9 H n h => ?_
    refine oe_s hle hd h (k_call (xsS rfl xs0)) fun v10 H n h => ?_
    refine on_s h (k_ext rfl) fun v11 h => ?_
    refine on_s h (k_ext rfl) fun v12 h => ?_
    refine on_s h (k_ext rfl) fun v13 h => ?_
    refine ov_t (a := v11) (k_mv rfl) ?_
    refine ov_t (a := v12) (k_mv rfl) ?_
    refine ov_t (a := v13) (k_mv rfl) ?_
    refine o0 ?_
    refine c_seq ?_
    refine c_seq ?_
    refine c_ops ?_
    refine on_t h (k_not (xr sm)) fun v14 h => ?_
    refine o0 ?_
    refine c_cond h (xr sm) (fun h => ?_) (fun h => ?_)
    · refine c_seq ?_
      refine c_ops ?_
      refine ov_t (a := (.bool false)) (k_mv rfl) ?_
      refine o0 ?_
      refine c_ret ?_
      exact fin_no (rsT sm rs0) h
    · refine c_skip ?_
      refine c_seq ?_
      refine c_ops ?_
      refine oe_s hle hd h (k_call (xsS (xr (ne rfl (ne rfl sm))) (xsS (xr (ne rfl (ne rfl (ne rfl sm)))) xs0))) fun v15 H n h => ?_
      refine on_s h (k_ext rfl) fun v16 h => ?_
      refine on_s h (k_ext rfl) fun v17 h => ?_
      refine on_s h (k_ext rfl) fun v18 h => ?_
      refine ov_t (a := v16) (k_mv rfl) ?_
      refine ov_t (a := v18) (k_mv rfl) ?_
      refine o0 ?_
      refine c_seq ?_
      refine c_seq ?_
      refine c_ops ?_
      refine on_t h (k_not (xr sm)) fun v19 h => ?_
      refine o0 ?_
      refine c_cond h (xr sm) (fun h => ?_) (fun h => ?_)
      · refine c_seq ?_
        refine c_ops ?_
        refine ov_t (a := (.bool false)) (k_mv rfl) ?_
        refine o0 ?_
        refine c_ret ?_
        exact fin_no (rsT sm rs0) h
      · refine c_skip ?_
        refine c_seq ?_
        refine c_ops ?_
        refine on_s h (k_build (psS rfl (psS rfl (psS rfl ps0)))) fun v20 h => ?_
        refine oa_t h k_alloc fun v21 H n h => ?_
        refine oe_x hle hd h (k_st (xr sm) rfl) fun v22 H n h => ?_
        refine o0 ?_
        refine c_seq ?_
        refine c_ops ?_
        refine oa_s h (k_bslice (pbS (xr (ne rfl (ne rfl (ne rfl (ne rfl (ne rfl (ne rfl (ne rfl (ne rfl (ne rfl sm)))))))))) pb0)) fun v23 H n h => ?_
        refine on_s h (k_ldn (xr sm)) fun v24 h => ?_
        refine oe_s hle hd h (k_call (xsS (xr (ne rfl (ne rfl (ne rfl (ne rfl (ne rfl (ne rfl sm))))))) (xsS (xr (ne rfl (ne rfl (ne rfl (ne rfl (ne rfl (ne rfl (ne rfl sm)))))))) (xsS rfl (xsS rfl (xsS rfl (xsS rfl xs0))))))) fun v25 H n h => ?_
        refine on_s h (k_ext rfl) fun v26 h => ?_
        refine on_s h (k_ext rfl) fun v27 h => ?_
        refine oa_t h k_alloc fun v28 H n h => ?_
        refine oe_x hle hd h (k_st (xr sm) rfl) fun v29 H n h => ?_
        refine ov_t (a := v27) (k_mv rfl) ?_
        refine o0 ?_
        refine c_seq ?_
        refine c_ops ?_
        refine oa_s h (k_bslice (pbS (xr (ne rfl (ne rfl (ne rfl (ne rfl (ne rfl (ne rfl (ne rfl (ne rfl (ne rfl (ne rfl (ne rfl sm)))))))))))) pb0)) fun v30 H n h => ?_
        refine on_s h (k_ldn (xr (ne rfl (ne rfl sm)))) fun v31 h => ?_
        refine oe_s hle hd h (k_call (xsS (xr (ne rfl (ne rfl (ne rfl (ne rfl (ne rfl sm)))))) (xsS rfl (xsS rfl (xsS rfl (xsS rfl xs0)))))) fun v32 H n h => ?_
        refine on_s h (k_ext rfl) fun v33 h => ?_
        refine on_s h (k_ext rfl) fun v34 h => ?_
        refine oa_t h k_alloc fun v35 H n h => ?_
        refine oe_x hle hd h (k_st (xr sm) rfl) fun v36 H n h => ?_
        refine ov_t (a := v34) (k_mv rfl) ?_
        refine o0 ?_
        refine c_seq ?_
        refine c_ops ?_
        refine on_s h (k_eq (xr (ne rfl (ne rfl sm))) rfl) fun v37 h => ?_
        refine ogn_s h rfl (k_mv (xr sm)) fun v38 h => ?_
        refine ogn_s h rfl (k_eq rfl rfl) fun v39 h => ?_
        refine on_s h (k_pick rfl rfl rfl) fun v40 h => ?_
        refine ogn_s h rfl (k_faddr (xr (ne rfl (ne rfl (ne rfl sm))))) fun v41 h => ?_
        refine ogn_s h rfl (k_ld1 rfl) fun v42 h => ?_
        refine ogn_s h rfl (k_eq rfl rfl) fun v43 h => ?_
        refine on_s h (k_pick rfl rfl rfl) fun v44 h => ?_
        refine ogn_s h rfl (k_ldn (xr (ne rfl (ne rfl (ne rfl sm))))) fun v45 h => ?_
        refine ogn_s h rfl (k_ldn (xr (ne rfl sm))) fun v46 h => ?_
        refine oge_s hle hd h rfl (k_call (xsS rfl (xsS rfl xs0))) fun v47 H n h => ?_
        refine on_s h (k_pick rfl rfl rfl) fun v48 h => ?_
        refine ogn_s h rfl (k_faddr (xr (ne rfl (ne rfl (ne rfl sm))))) fun v49 h => ?_
        refine ogn_s h rfl (k_ld1 rfl) fun v50 h => ?_
        refine ogn_s h rfl (k_lenL rfl) fun v51 h => ?_
        refine ogn_s h rfl (k_bin rfl rfl) fun v52 h => ?_
        refine on_s h (k_pick rfl rfl rfl) fun v53 h => ?_
        refine ov_t (a := v53) (k_mv rfl) ?_
        refine o0 ?_
        refine c_ret ?_
        exact fin_no (rsT sm rs0) h
end Go.R5.VC

