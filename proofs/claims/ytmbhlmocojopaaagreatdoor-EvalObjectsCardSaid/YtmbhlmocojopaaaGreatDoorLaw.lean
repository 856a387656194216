/- Part of a proof: texts LK LKB of the engine and what is proved with it; nothing is assumed. -/
import Derived.Test.YtmbhlmocojopaaaGreatDoorPlainR
import Derived.Test.YtmbhlmocojopaaaGreatDoorCode
import Derived.Test.YtmbhlmocojopaaaGreatDoorEngF
set_option linter.unusedVariables false
set_option linter.unusedSimpArgs false
/- The law, with what it reads of its numbers. -/
namespace Go.R3.LK
open Go.Eng Go.R3
set_option maxRecDepth 100000
def r0 : X := .r q0
def r1 : X := .r q1
def r2 : X := .r q2
def r3 : X := .r q3
def r9 : X := .r q9
def r10 : X := .r q10
def r11 : X := .r q11
def r12 : X := .r q12
def r13 : X := .r q13
def r14 : X := .r q14
def r15 : X := .r q15
def r17 : X := .r q17
def r32 : X := .r q32
def r65 : X := .r q65
def r67 : X := .r q67
def r68 : X := .r q68
def r69 : X := .r q69
def r71 : X := .r q71
def r72 : X := .r q72
def r73 : X := .r q73
def r74 : X := .r q74
def r75 : X := .r q75
def r76 : X := .r q76
def r77 : X := .r q77
def r78 : X := .r q78
def r79 : X := .r q79
def r80 : X := .r q80
def lf : AF := .mk 4 (.seq (.ops [.mk (.to q8) .no (.n (.mv (.c (.bool false))))])
 (.seq (.seq (.ops [.mk .ps .no (.e (.call 23 [])),
    .mk (.to q17) .no (.n (.not (.s 0)))])
   (.cond r17 (.seq (.ops [.mk (.to q8) .no (.n (.mv (.c (.bool false))))])
     .ret)
    .skip))
  (.seq (.ops [.mk .ps .no (.n (.bin .and r0 (.c (.int .i64 (.ofNat 15) 0)))),
    .mk .ps .no (.n (.bin .add (.c (.int .i64 (.ofNat 2) 0)) (.s 0))),
    .mk (.to q0) .no (.n (.mv (.s 0)))])
   (.seq (.ops [.mk .ps .no (.n (.bin .and r1 (.c (.int .i64 (.ofNat 255) 0)))),
     .mk .ps .no (.n (.bin .rem (.s 0) r0)),
     .mk (.to q1) .no (.n (.mv (.s 0)))])
    (.seq (.ops [.mk .ps .no (.a (.bslice 1 2 [(.str 0 0)] [(0, (.c (.str 35 949524246276522529238934535916581232995715618072535529729327315352871175527472393315))), (1, (.c (.str 372 35840812629340755946231454769795932583893860101365972634884414696628483670317634748726321319788619691196952818211505453707990991150602483288180231118036961404822182004179827284783340288087284034577045120661976276531960885187933536450231214280806730146125216267996831121713021886355168928055927582512407258384668433123804011541566466926931634343668773956615537814513702990073947272615283586860149338809698671041458029923337161037989871916531741731259078376924920476616694532907153438298016017299260724865914831925304575940289370846504532754743633968690831090132086748589118703344423948430436451034287313329542842569096430935915435147798436354522738497117170532885022559301206056494537189995721012517746273118523833794501247935791149239911347614876326109714574163497549959951167970252837934445520995873629531108738952176004320372744492678302527702322279526634175560060441743583543488490426721201251)))])),
      .mk .ps .no (.e (.call 24 [(.s 0)])),
      .mk .ps .no (.n (.ext (.s 0) 0)),
      .mk .ps .no (.n (.ext (.s 1) 1)),
      .mk .ps .no (.n (.ext (.s 2) 2)),
      .mk (.to q9) .no (.n (.mv (.s 2))),
      .mk (.to q10) .no (.n (.mv (.s 1))),
      .mk (.to q11) .no (.n (.mv (.s 0)))])
     (.seq (.seq (.ops [.mk (.to q32) .no (.n (.not r11))])
       (.cond r32 (.seq (.ops [.mk (.to q8) .no (.n (.mv (.c (.bool false))))])
         .ret)
        .skip))
      (.seq (.ops [.mk .ps .no (.a (.bslice 1 4 [(.int .i64 (.ofNat 0) 0)] [(0, r0), (1, r1), (2, r2), (3, r3)])),
        .mk .ps .no (.n (.build [(.int .i64 (.ofNat 0) 0), (.int .i64 (.ofNat 0) 0), (.int .i64 (.ofNat 0) 0)] [(0, 1, (.c (.int .i64 (.ofNat 300) 0))), (1, 1, (.c (.int .i64 (.ofNat 40) 0))), (2, 1, (.c (.int .i64 (.ofNat 1) 0)))])),
        .mk .ps .no (.e (.call 25 [r10, r9, (.c (.str 1 65)), (.c (.str 1 109)), (.s 1), (.s 0)])),
        .mk .ps .no (.n (.ext (.s 0) 0)),
        .mk .ps .no (.n (.ext (.s 1) 1)),
        .mk (.to q12) .no (.a (.alloc 3 [[(.int .i64 (.ofNat 0) 0), (.int .i64 (.ofNat 0) 0), .nils]])),
        .mk .no .no (.e (.st 3 r12 (.s 1))),
        .mk (.to q13) .no (.n (.mv (.s 0)))])
       (.seq (.ops [.mk .ps .no (.a (.bslice 1 7 [(.int .i64 (.ofNat 0) 0)] [(0, r2), (1, r3), (2, r3), (3, r2), (4, (.c (.int .i64 (.ofNat 8) 0))), (5, (.c (.int .i64 (.ofNat 9) 0))), (6, (.c (.int .i64 (.ofNat 10) 0)))])),
         .mk (.to q14) .no (.n (.mv (.s 0)))])
        (.seq (.seq (.ops [.mk .ps .no (.n (.eq (.one .int) true r13 (.c (.int .i64 (.ofNat 0) 0)))),
           .mk .ps (.on (.s 0) false) (.n (.faddr 1 r12)),
           .mk .ps (.on (.s 1) false) (.n (.ld1 (.s 0))),
           .mk .ps (.on (.s 2) false) (.n (.mv r0)),
           .mk .ps (.on (.s 3) false) (.n (.eq (.one .int) true (.s 1) (.s 0))),
           .mk .ps .no (.n (.pick (.s 4) (.c (.bool true)) (.s 0))),
           .mk .ps (.on (.s 0) false) (.n (.faddr 2 r12)),
           .mk .ps (.on (.s 1) false) (.n (.ld1 (.s 0))),
           .mk .ps (.on (.s 2) false) (.n (.lenL (.s 0))),
           .mk .ps (.on (.s 3) false) (.n (.mv r14)),
           .mk .ps (.on (.s 4) false) (.n (.lenL (.s 0))),
           .mk .ps (.on (.s 5) false) (.n (.eq (.one .int) true (.s 2) (.s 0))),
           .mk (.to q65) .no (.n (.pick (.s 6) (.c (.bool true)) (.s 0)))])
          (.cond r65 (.seq (.ops [.mk (.to q8) .no (.n (.mv (.c (.bool false))))])
            .ret)
           .skip))
         (.seq (.seq (.ops [.mk (.to q67) .no (.n (.lenL r14)),
            .mk (.to q68) .no (.n (.mv (.c (.int .i64 (.ofNat 0) 0))))])
           (.block 0 (.loop (.seq (.ops [.mk (.to q69) .no (.n (.bin .lss r68 r67))])
              (.seq (.cond r69 .skip
                (.exit 0))
               (.seq (.block 1 (.seq (.ops [.mk (.to q15) .no (.n (.mv r68))])
                  (.seq (.reg [.op (.mk (.to q71) .no (.n (.faddr 2 r12))),
                    .op (.mk (.to q72) .no (.n (.ld1 r71))),
                    .op (.mk (.to q73) .no (.n (.mv r15))),
                    .op (.mk (.to q74) .no (.n (.iaddr 1 r72 r73))),
                    .op (.mk (.to q75) .no (.n (.ld1 r74))),
                    .op (.mk (.to q76) .no (.n (.mv r14))),
                    .op (.mk (.to q77) .no (.n (.mv r15))),
                    .op (.mk (.to q78) .no (.n (.iaddr 1 r76 r77))),
                    .op (.mk (.to q79) .no (.n (.ld1 r78))),
                    .op (.mk (.to q80) .no (.n (.eq (.one .int) true r75 r79)))])
                   (.cond r80 (.seq (.ops [.mk (.to q8) .no (.n (.mv (.c (.bool false))))])
                     .ret)
                    .skip))))
                (.ops [.mk .ps .no (.n (.bin .add r68 (.c (.int .i64 (.ofNat 1) 0)))),
                 .mk (.to q68) .no (.n (.mv (.s 0)))])))))))
          (.seq (.ops [.mk (.to q8) .no (.n (.mv (.c (.bool true))))])
           .ret)))))))))))
 [.tmp q8] .no 0
theorem at_law : T.get F 7 = some lf := by kernel_rfl
noncomputable def t_f7_j32 (lp : LpT) (G : Roms) (call : CallT) (k : KV) (w : Nat) (x0 : Nat) (x1 : Nat) (z0 : Int) (z1 : Int) (z2 : Int) (z3 : Int) (H : Heap) (n : Nat) : Prop :=
 k (.bool true) H n
noncomputable def t_f7_l34 (lp : LpT) (G : Roms) (call : CallT) (k : KV) (v16 : V) (v18 : V) (v33 : V) (w : Nat) (x0 : Nat) (x1 : Nat) (z0 : Int) (z1 : Int) (z2 : Int) (z3 : Int) (ih34 : (V × Heap × Nat) → Prop) (a68_l34 : V) (H : Heap) (n : Nat) : Prop :=
 onV (B2.ev .lss a68_l34 v33) fun v35 =>
 onTst v35 true (onV (paddV 2 v16) fun v36 =>
 onV (ld1V v36 G H) fun v37 =>
 onV (iaddrV 1 v37 a68_l34) fun v38 =>
 onV (ld1V v38 G H) fun v39 =>
 onV (iaddrV 1 v18 a68_l34) fun v40 =>
 onV (ld1V v40 G H) fun v41 =>
 askV false (eqV (.one .int) true v39 v41) fun v42 =>
 onTst v42 true (k (.bool false) H n) (onV (B2.ev .add a68_l34 (.int .i64 (.ofNat 1) 0)) fun v43 =>
 ih34 (v43, H, n))) (t_f7_j32 lp G call k w x0 x1 z0 z1 z2 z3 H n)
noncomputable def t_f7 (lp : LpT) (G : Roms) (call : CallT) (z0 : Int) (z1 : Int) (z2 : Int) (z3 : Int) (x0 : Nat) (x1 : Nat) (w : Nat) (H : Heap) (n : Nat) (k : KV) : Prop :=
 call 23 [] H n fun v1 H n =>
 onV (notV v1) fun v2 =>
 onTst v2 true (k (.bool false) H n) (onV (B2.ev .add (.int .i64 (.ofNat 2) 0) (.int .i64 (.ofNat x0) 0)) fun v3 =>
 askI w (B2.ev .rem (.int .i64 (.ofNat x1) 0) v3) <|
 onA (aBslice 1 2 [(.str 0 0)] [(0, .c (.str 35 949524246276522529238934535916581232995715618072535529729327315352871175527472393315)), (1, .c (.str 372 35840812629340755946231454769795932583893860101365972634884414696628483670317634748726321319788619691196952818211505453707990991150602483288180231118036961404822182004179827284783340288087284034577045120661976276531960885187933536450231214280806730146125216267996831121713021886355168928055927582512407258384668433123804011541566466926931634343668773956615537814513702990073947272615283586860149338809698671041458029923337161037989871916531741731259078376924920476616694532907153438298016017299260724865914831925304575940289370846504532754743633968690831090132086748589118703344423948430436451034287313329542842569096430935915435147798436354522738497117170532885022559301206056494537189995721012517746273118523833794501247935791149239911347614876326109714574163497549959951167970252837934445520995873629531108738952176004320372744492678302527702322279526634175560060441743583543488490426721201251))] E0) H n fun v5 H n =>
 call 24 [v5] H n fun v6 H n =>
 onV (extV v6 0) fun v7 =>
 onV (extV v6 1) fun v8 =>
 onV (extV v6 2) fun v9 =>
 onV (notV v9) fun v10 =>
 onTst v10 true (k (.bool false) H n) (onA (aBslice 1 4 [(.int .i64 (.ofNat 0) 0)] [(0, .c v3), (1, .c (.int .i64 (.ofNat w) 0)), (2, .c (.int .i64 z2 0)), (3, .c (.int .i64 z3 0))] E0) H n fun v11 H n =>
 onV (buildV [(.int .i64 (.ofNat 0) 0), (.int .i64 (.ofNat 0) 0), (.int .i64 (.ofNat 0) 0)] [(0, 1, .c (.int .i64 (.ofNat 300) 0)), (1, 1, .c (.int .i64 (.ofNat 40) 0)), (2, 1, .c (.int .i64 (.ofNat 1) 0))]) fun v12 =>
 call 25 [v8, v7, (.str 1 65), (.str 1 109), v11, v12] H n fun v13 H n =>
 onV (extV v13 0) fun v14 =>
 onV (extV v13 1) fun v15 =>
 onA (aAlloc 3 [[(.int .i64 (.ofNat 0) 0), (.int .i64 (.ofNat 0) 0), .nils]] E0) H n fun v16 H n =>
 stV 3 v16 v14 H n fun v17 H n =>
 onA (aBslice 1 7 [(.int .i64 (.ofNat 0) 0)] [(0, .c (.int .i64 z2 0)), (1, .c (.int .i64 z3 0)), (2, .c (.int .i64 z3 0)), (3, .c (.int .i64 z2 0)), (4, .c (.int .i64 (.ofNat 8) 0)), (5, .c (.int .i64 (.ofNat 9) 0)), (6, .c (.int .i64 (.ofNat 10) 0))] E0) H n fun v18 H n =>
 onV (eqV (.one .int) true v15 (.int .i64 (.ofNat 0) 0)) fun v19 =>
 onG v19 false (paddV 1 v16) fun v20 =>
 onG v19 false (ld1V v20 G H) fun v21 =>
 onG v19 false (some v3) fun v22 =>
 onG v19 false (eqV (.one .int) true v21 v22) fun v23 =>
 onV (pickV v19 (.bool true) v23) fun v24 =>
 onG v24 false (paddV 2 v16) fun v25 =>
 onG v24 false (ld1V v25 G H) fun v26 =>
 onG v24 false (lenV v26) fun v27 =>
 onG v24 false (some v18) fun v28 =>
 onG v24 false (lenV v28) fun v29 =>
 onG v24 false (eqV (.one .int) true v27 v29) fun v30 =>
 onV (pickV v24 (.bool true) v30) fun v31 =>
 onTst v31 true (k (.bool false) H n) (onV (lenV v18) fun v33 =>
 lp (V × Heap × Nat) (fun ih s => t_f7_l34 lp G call k v16 v18 v33 w x0 x1 z0 z1 z2 z3 ih s.1 s.2.1 s.2.2) ((.int .i64 (.ofNat 0) 0), H, n))))
theorem ti_f7 {lp : LpT} (hL : LpOk lp) {G : Roms} {call callE : CallT} (z0 : Int) (z1 : Int) (z2 : Int) (z3 : Int) (x0 : Nat) (x1 : Nat) (w : Nat) (ex0 : uand z0 15 = x0) (ex1 : uand z1 255 = x1) (hle : CallLe call callE) (hd : CallDet callE) {H : Heap} {n : Nat} {k : KV} (h : t_f7 lp G call z0 z1 z2 z3 x0 x1 w H n k) : exFunL lf G callE [(.int .i64 z0 0), (.int .i64 z1 0), (.int .i64 z2 0), (.int .i64 z3 0)] H n k := by
  delta t_f7 at h
  refine f_intro rfl ?_
  refine c_seq ?_
  refine c_ops ?_
  refine ov_t (a := (.bool false)) (k_mv rfl) ?_
  refine o0 ?_
  refine c_seq ?_
  refine c_seq ?_
  refine c_ops ?_
  refine oe_s hle hd h (k_call xs0) fun v1 H n h => ?_
  refine on_t h (k_not rfl) fun v2 h => ?_
  refine o0 ?_
  refine c_cond h (xr sm) (fun h => ?_) (fun h => ?_)
  · refine c_seq ?_
    refine c_ops ?_
    refine ov_t (a := (.bool false)) (k_mv rfl) ?_
    refine o0 ?_
    refine c_ret ?_
    exact fin_no (rsT sm rs0) h
  · refine c_skip ?_
    refine c_seq ?_
    refine c_ops ?_
    refine ov_s (a := (.int .i64 (.ofNat x0) 0)) (km3 (by decide) ex0 (xr (ne rfl (ne rfl rfl)))) ?_
    refine on_s h (k_bin rfl rfl) fun v3 h => ?_
    refine ov_t (a := v3) (k_mv rfl) ?_
    refine o0 ?_
    refine c_seq ?_
    refine c_ops ?_
    refine ov_s (a := (.int .i64 (.ofNat x1) 0)) (km3 (by decide) ex1 (xr (ne rfl (ne rfl (ne rfl rfl))))) ?_
    refine on_s (askI_ok h) (k_bin rfl (xr sm)) fun v4 h => ?_
    obtain ⟨rfl, h⟩ := h
    refine ov_t (a := (.int .i64 (.ofNat w) 0)) (k_mv rfl) ?_
    refine o0 ?_
    refine c_seq ?_
    refine c_ops ?_
    refine oa_s h (k_bslice (pbS rfl (pbS rfl pb0))) fun v5 H n h => ?_
    refine oe_s hle hd h (k_call (xsS rfl xs0)) fun v6 H n h => ?_
    refine on_s h (k_ext rfl) fun v7 h => ?_
    refine on_s h (k_ext rfl) fun v8 h => ?_
    refine on_s h (k_ext rfl) fun v9 h => ?_
    refine ov_t (a := v7) (k_mv rfl) ?_
    refine ov_t (a := v8) (k_mv rfl) ?_
    refine ov_t (a := v9) (k_mv rfl) ?_
    refine o0 ?_
    refine c_seq ?_
    refine c_seq ?_
    refine c_ops ?_
    refine on_t h (k_not (xr sm)) fun v10 h => ?_
    refine o0 ?_
    refine c_cond h (xr sm) (fun h => ?_) (fun h => ?_)
    · refine c_seq ?_
      refine c_ops ?_
      refine ov_t (a := (.bool false)) (k_mv rfl) ?_
      refine o0 ?_
      refine c_ret ?_
      exact fin_no (rsT sm rs0) h
    · refine c_skip ?_
      refine c_seq ?_
      refine c_ops ?_
      refine oa_s h (k_bslice (pbS (xr (ne rfl (ne rfl (ne rfl (ne rfl (ne rfl sm)))))) (pbS (xr (ne rfl (ne rfl (ne rfl (ne rfl sm))))) (pbS (xr (ne rfl (ne rfl (ne rfl (ne rfl (ne rfl (ne rfl (ne rfl (ne rfl rfl))))))))) (pbS (xr (ne rfl (ne rfl (ne rfl (ne rfl (ne rfl (ne rfl (ne rfl (ne rfl rfl))))))))) pb0))))) fun v11 H n h => ?_
      refine on_s h (k_build (psS rfl (psS rfl (psS rfl ps0)))) fun v12 h => ?_
      refine oe_s hle hd h (k_call (xsS (xr (ne rfl (ne rfl sm))) (xsS (xr (ne rfl (ne rfl (ne rfl sm)))) (xsS rfl (xsS rfl (xsS rfl (xsS rfl xs0))))))) fun v13 H n h => ?_
      refine on_s h (k_ext rfl) fun v14 h => ?_
      refine on_s h (k_ext rfl) fun v15 h => ?_
      refine oa_t h k_alloc fun v16 H n h => ?_
      refine oe_x hle hd h (k_st (xr sm) rfl) fun v17 H n h => ?_
      refine ov_t (a := v15) (k_mv rfl) ?_
      refine o0 ?_
      refine c_seq ?_
      refine c_ops ?_
      refine oa_s h (k_bslice (pbS (xr (ne rfl (ne rfl (ne rfl (ne rfl (ne rfl (ne rfl (ne rfl (ne rfl (ne rfl (ne rfl rfl))))))))))) (pbS (xr (ne rfl (ne rfl (ne rfl (ne rfl (ne rfl (ne rfl (ne rfl (ne rfl (ne rfl (ne rfl rfl))))))))))) (pbS (xr (ne rfl (ne rfl (ne rfl (ne rfl (ne rfl (ne rfl (ne rfl (ne rfl (ne rfl (ne rfl rfl))))))))))) (pbS (xr (ne rfl (ne rfl (ne rfl (ne rfl (ne rfl (ne rfl (ne rfl (ne rfl (ne rfl (ne rfl rfl))))))))))) (pbS rfl (pbS rfl (pbS rfl pb0)))))))) fun v18 H n h => ?_
      refine ov_t (a := v18) (k_mv rfl) ?_
      refine o0 ?_
      refine c_seq ?_
      refine c_seq ?_
      refine c_ops ?_
      refine on_s h (k_eq (xr (ne rfl sm)) rfl) fun v19 h => ?_
      refine ogn_s h rfl (k_faddr (xr (ne rfl (ne rfl sm)))) fun v20 h => ?_
      refine ogn_s h rfl (k_ld1 rfl) fun v21 h => ?_
      refine ogn_s h rfl (k_mv (xr (ne rfl (ne rfl (ne rfl (ne rfl (ne rfl (ne rfl (ne rfl (ne rfl sm)))))))))) fun v22 h => ?_
      refine ogn_s h rfl (k_eq rfl rfl) fun v23 h => ?_
      refine on_s h (k_pick rfl rfl rfl) fun v24 h => ?_
      refine ogn_s h rfl (k_faddr (xr (ne rfl (ne rfl sm)))) fun v25 h => ?_
      refine ogn_s h rfl (k_ld1 rfl) fun v26 h => ?_
      refine ogn_s h rfl (k_lenL rfl) fun v27 h => ?_
      refine ogn_s h rfl (k_mv (xr sm)) fun v28 h => ?_
      refine ogn_s h rfl (k_lenL rfl) fun v29 h => ?_
      refine ogn_s h rfl (k_eq rfl rfl) fun v30 h => ?_
      refine on_t h (k_pick rfl rfl rfl) fun v31 h => ?_
      refine o0 ?_
      refine c_cond h (xr sm) (fun h => ?_) (fun h => ?_)
      · refine c_seq ?_
        refine c_ops ?_
        refine ov_t (a := (.bool false)) (k_mv rfl) ?_
        refine o0 ?_
        refine c_ret ?_
        exact fin_no (rsT sm rs0) h
      · refine c_skip ?_
        refine c_seqj (fun R H n => t_f7_j32 lp G call k w x0 x1 z0 z1 z2 z3 H n) ?_ fun j32 => ?_
        · intro R H n h
          delta t_f7_j32 at h
          refine c_seq ?_
          refine c_ops ?_
          refine ov_t (a := (.bool true)) (k_mv rfl) ?_
          refine o0 ?_
          refine c_ret ?_
          exact fin_no (rsT sm rs0) h
        · refine c_seq ?_
          refine c_ops ?_
          refine on_t h (k_lenL (xr (ne rfl sm))) fun v33 h => ?_
          refine ov_t (a := (.int .i64 (.ofNat 0) 0)) (k_mv rfl) ?_
          refine o0 ?_
          refine c_block ?_
          refine c_loop hL (fun s R H n => rg R q68 = s.1 ∧ rg R q12 = v16 ∧ rg R q14 = v18 ∧ rg R q67 = v33 ∧ H = s.2.1 ∧ n = s.2.2) h ⟨sm, (ne rfl (ne rfl (ne rfl (ne rfl (ne rfl sm))))), (ne rfl (ne rfl (ne rfl sm))), (ne rfl sm), rfl, rfl⟩ ?_
          rintro ih34 I34 hI34 ⟨a68_l34, H, n⟩ R H0 n0 ⟨f68, f12, f14, f67, eH, eN⟩ h
          replace h : t_f7_l34 lp G call k v16 v18 v33 w x0 x1 z0 z1 z2 z3 ih34 a68_l34 H n := h
          obtain rfl : H0 = H := eH
          obtain rfl : n0 = n := eN
          delta t_f7_l34 at h
          refine c_seq ?_
          refine c_ops ?_
          refine on_t h (k_bin (xr f68) (xr f67)) fun v35 h => ?_
          refine o0 ?_
          refine c_seq ?_
          refine c_cond h (xr sm) (fun h => ?_) (fun h => ?_)
          · refine c_skip ?_
            refine c_seq ?_
            refine c_block ?_
            refine c_seq ?_
            refine c_ops ?_
            refine ov_t (a := a68_l34) (k_mv (xr (ne rfl f68))) ?_
            refine o0 ?_
            refine c_seq ?_
            refine c_reg ?_
            refine in_t h (k_faddr (xr (ne rfl (ne rfl f12)))) fun v36 h => ?_
            refine in_t h (k_ld1 (xr sm)) fun v37 h => ?_
            refine iv_t (a := a68_l34) (k_mv (xr (ne rfl (ne rfl sm)))) ?_
            refine in_t h (k_iaddr (xr (ne rfl sm)) (xr sm)) fun v38 h => ?_
            refine in_t h (k_ld1 (xr sm)) fun v39 h => ?_
            refine iv_t (a := v18) (k_mv (xr (ne rfl (ne rfl (ne rfl (ne rfl (ne rfl (ne rfl (ne rfl f14))))))))) ?_
            refine iv_t (a := a68_l34) (k_mv (xr (ne rfl (ne rfl (ne rfl (ne rfl (ne rfl (ne rfl sm)))))))) ?_
            refine in_t h (k_iaddr (xr (ne rfl sm)) (xr sm)) fun v40 h => ?_
            refine in_t h (k_ld1 (xr sm)) fun v41 h => ?_
            refine in_t (askV_ok h) (k_eq (xr (ne rfl (ne rfl (ne rfl (ne rfl sm))))) (xr sm)) fun v42 h => ?_
            refine i0 ?_
            refine c_cond h (xr sm) (fun h => ?_) (fun h => ?_)
            · refine c_seq ?_
              refine c_ops ?_
              refine ov_t (a := (.bool false)) (k_mv rfl) ?_
              refine o0 ?_
              refine c_ret ?_
              exact fin_no (rsT sm rs0) h
            · refine c_skip ?_
              refine c_ops ?_
              refine on_s h (k_bin (xr (ne rfl (ne rfl (ne rfl (ne rfl (ne rfl (ne rfl (ne rfl (ne rfl (ne rfl (ne rfl (ne rfl (ne rfl f68))))))))))))) rfl) fun v43 h => ?_
              refine ov_t (a := v43) (k_mv rfl) ?_
              refine o0 ?_
              exact hI34 (v43, H0, n0) _ _ _ ⟨sm, (ne rfl (ne rfl (ne rfl (ne rfl (ne rfl (ne rfl (ne rfl (ne rfl (ne rfl (ne rfl (ne rfl (ne rfl (ne rfl f12))))))))))))), (ne rfl (ne rfl (ne rfl (ne rfl (ne rfl (ne rfl (ne rfl (ne rfl (ne rfl (ne rfl (ne rfl (ne rfl (ne rfl f14))))))))))))), (ne rfl (ne rfl (ne rfl (ne rfl (ne rfl (ne rfl (ne rfl (ne rfl (ne rfl (ne rfl (ne rfl (ne rfl (ne rfl f67))))))))))))), rfl, rfl⟩ h
          · refine c_exit ?_
            refine bx_same ?_
            exact j32 _ _ _ h
end Go.R3.LK

/- What is asked of the numbers that are put and told. -/
set_option maxRecDepth 100000
namespace Go.R3.LK
open Go.Eng Go.R3
noncomputable def tt (z0 z1 x y : Int) (n r w : Nat) : Prop := t_f7 (lpF 600) G0 (runS (FS (lpF 600) G0) 600) z0 z1 x y n r w .e 0 isT
noncomputable def N (x : Int) : Prop := eqV (.one .int) true (.int .i64 x 0) (.int .i64 x 0) = some (.bool false)
noncomputable def C : Prop := some (V.bool false) = some (V.bool false)
noncomputable def R (r n w : Nat) : Prop := B2.ev .rem (.int .i64 (.ofNat r) 0) (.int .i64 (.ofNat n) 0) = some (.int .i64 (.ofNat w) 0)
noncomputable def Goal (r n w : Nat) (x y : Int) : Prop := R r n w ∧ N x ∧ N y ∧ N y ∧ N x ∧ C ∧ C ∧ C ∧ True
theorem rem_n (r m : Nat) : R r (m + 1) (r % (m + 1)) := by
  show guardO (band true (band true (bnot (ieq (.ofNat (m + 1)) 0)))) (mkN .i64 (Int.tmod (.ofNat r) (.ofNat (m + 1))) 0) = _
  have : ieq (.ofNat (m + 1)) 0 = false := by rw [ieq_eq]; rfl
  rw [this]
  show forceIV (Int.tmod (.ofNat r) (.ofNat (m + 1))) (fun m => some (.int .i64 m 0)) = _
  rw [forceIV_eq]; rfl
theorem goal (r m : Nat) (x y : Int) : Goal r (m + 1) (r % (m + 1)) x y := ⟨rem_n r m, neq_self _, neq_self _, neq_self _, neq_self _, rfl, rfl, rfl, trivial⟩
end Go.R3.LK

