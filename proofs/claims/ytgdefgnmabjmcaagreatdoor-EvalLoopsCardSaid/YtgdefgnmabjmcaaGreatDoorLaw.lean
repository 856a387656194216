/- Part of a proof: texts LM LMB of the engine and what is proved with it; nothing is assumed. -/
import Derived.Test.YtgdefgnmabjmcaaGreatDoorPlainR
import Derived.Test.YtgdefgnmabjmcaaGreatDoorCode
import Derived.Test.YtgdefgnmabjmcaaGreatDoorEngF
set_option linter.unusedVariables false
set_option linter.unusedSimpArgs false
/- The law, with what it reads of its numbers. -/
namespace Go.R3.LM
open Go.Eng Go.R3
set_option maxRecDepth 100000
def r0 : X := .r q0
def r1 : X := .r q1
def r5 : X := .r q5
def r6 : X := .r q6
def r7 : X := .r q7
def r8 : X := .r q8
def r9 : X := .r q9
def r10 : X := .r q10
def r11 : X := .r q11
def r13 : X := .r q13
def r25 : X := .r q25
def r57 : X := .r q57
def r59 : X := .r q59
def r60 : X := .r q60
def r61 : X := .r q61
def r62 : X := .r q62
def r70 : X := .r q70
def lf : AF := .mk 2 (.seq (.ops [.mk (.to q4) .no (.n (.mv (.c (.bool false))))])
 (.seq (.seq (.ops [.mk .ps .no (.e (.call 19 [])),
    .mk (.to q13) .no (.n (.not (.s 0)))])
   (.cond r13 (.seq (.ops [.mk (.to q4) .no (.n (.mv (.c (.bool false))))])
     .ret)
    .skip))
  (.seq (.ops [.mk .ps .no (.n (.bin .and r0 (.c (.int .i64 (.ofNat 63) 0)))),
    .mk (.to q0) .no (.n (.mv (.s 0)))])
   (.seq (.ops [.mk .ps .no (.n (.bin .and r1 (.c (.int .i64 (.ofNat 65535) 0)))),
     .mk (.to q1) .no (.n (.mv (.s 0)))])
    (.seq (.ops [.mk .ps .no (.a (.bslice 1 1 [(.str 0 0)] [(0, (.c (.str 146 1959501893637393614636705159843733503122876927267802214976251878499094024064747373188466368380066641565526237002441851690768446460050571448775386809410005638943464026774110811413992899369852821543756084825727909243196399158508768676500825769399209499690767696164296306124765428097800165721661501788171396559181848165468036379411593103537536513660251235)))])),
      .mk .ps .no (.e (.call 20 [(.s 0)])),
      .mk .ps .no (.n (.ext (.s 0) 0)),
      .mk .ps .no (.n (.ext (.s 1) 1)),
      .mk .ps .no (.n (.ext (.s 2) 2)),
      .mk (.to q5) .no (.n (.mv (.s 2))),
      .mk (.to q6) .no (.n (.mv (.s 1))),
      .mk (.to q7) .no (.n (.mv (.s 0)))])
     (.seq (.seq (.ops [.mk (.to q25) .no (.n (.not r7))])
       (.cond r25 (.seq (.ops [.mk (.to q4) .no (.n (.mv (.c (.bool false))))])
         .ret)
        .skip))
      (.seq (.ops [.mk .ps .no (.a (.bslice 1 2 [(.int .i64 (.ofNat 0) 0)] [(0, r0), (1, r1)])),
        .mk .ps .no (.n (.build [(.int .i64 (.ofNat 0) 0), (.int .i64 (.ofNat 0) 0), (.int .i64 (.ofNat 0) 0)] [(0, 1, (.c (.int .i64 (.ofNat 2000) 0))), (2, 1, (.c (.int .i64 (.ofNat 1) 0)))])),
        .mk .ps .no (.e (.call 21 [r6, r5, (.c (.str 1 65)), (.c (.str 1 109)), (.s 1), (.s 0)])),
        .mk .ps .no (.n (.ext (.s 0) 0)),
        .mk .ps .no (.n (.ext (.s 1) 1)),
        .mk (.to q8) .no (.a (.alloc 3 [[(.int .i64 (.ofNat 0) 0), (.int .i64 (.ofNat 0) 0), .nils]])),
        .mk .no .no (.e (.st 3 r8 (.s 1))),
        .mk (.to q9) .no (.n (.mv (.s 0)))])
       (.seq (.seq (.ops [.mk .ps .no (.n (.eq (.one .int) true r9 (.c (.int .i64 (.ofNat 0) 0)))),
          .mk .ps (.on (.s 0) false) (.n (.faddr 0 r8)),
          .mk .ps (.on (.s 1) false) (.n (.ld1 (.s 0))),
          .mk .ps (.on (.s 2) false) (.n (.eq (.one .int) true (.s 0) (.c (.int .i64 (.ofNat 0) 0)))),
          .mk .ps .no (.n (.pick (.s 3) (.c (.bool true)) (.s 0))),
          .mk .ps (.on (.s 0) false) (.n (.faddr 1 r8)),
          .mk .ps (.on (.s 1) false) (.n (.ld1 (.s 0))),
          .mk .ps (.on (.s 2) false) (.n (.mv r0)),
          .mk .ps (.on (.s 3) false) (.n (.mv r1)),
          .mk .ps (.on (.s 4) false) (.n (.bin .mul (.s 1) (.s 0))),
          .mk .ps (.on (.s 5) false) (.n (.eq (.one .int) true (.s 3) (.s 0))),
          .mk .ps .no (.n (.pick (.s 6) (.c (.bool true)) (.s 0))),
          .mk .ps (.on (.s 0) false) (.n (.faddr 2 r8)),
          .mk .ps (.on (.s 1) false) (.n (.ld1 (.s 0))),
          .mk .ps (.on (.s 2) false) (.n (.lenL (.s 0))),
          .mk .ps (.on (.s 3) false) (.n (.mv r0)),
          .mk .ps (.on (.s 4) false) (.n (.eq (.one .int) true (.s 1) (.s 0))),
          .mk (.to q57) .no (.n (.pick (.s 5) (.c (.bool true)) (.s 0)))])
         (.cond r57 (.seq (.ops [.mk (.to q4) .no (.n (.mv (.c (.bool false))))])
           .ret)
          .skip))
        (.seq (.seq (.ops [.mk .ps .no (.n (.faddr 2 r8)),
           .mk (.to q59) .no (.n (.ld1 (.s 0))),
           .mk (.to q60) .no (.n (.lenL r59)),
           .mk (.to q61) .no (.n (.mv (.c (.int .i64 (.ofNat 0) 0))))])
          (.block 0 (.loop (.seq (.ops [.mk (.to q62) .no (.n (.bin .lss r61 r60))])
             (.seq (.cond r62 .skip
               (.exit 0))
              (.seq (.block 1 (.seq (.ops [.mk .ps .no (.n (.iaddr 1 r59 r61)),
                  .mk .ps .no (.n (.ld1 (.s 0))),
                  .mk (.to q10) .no (.n (.mv r61)),
                  .mk (.to q11) .no (.n (.mv (.s 0)))])
                 (.seq (.ops [.mk .ps .no (.n (.bin .mul r10 r1)),
                   .mk (.to q70) .no (.n (.eq (.one .int) true r11 (.s 0)))])
                  (.cond r70 (.seq (.ops [.mk (.to q4) .no (.n (.mv (.c (.bool false))))])
                    .ret)
                   .skip))))
               (.ops [.mk .ps .no (.n (.bin .add r61 (.c (.int .i64 (.ofNat 1) 0)))),
                .mk (.to q61) .no (.n (.mv (.s 0)))])))))))
         (.seq (.ops [.mk (.to q4) .no (.n (.mv (.c (.bool true))))])
          .ret))))))))))
 [.tmp q4] .no 0
theorem at_law : T.get F 10 = some lf := by kernel_rfl
noncomputable def t_f10_j34 (lp : LpT) (G : Roms) (call : CallT) (k : KV) (x0 : Nat) (x1 : Nat) (z0 : Int) (z1 : Int) (H : Heap) (n : Nat) : Prop :=
 k (.bool true) H n
noncomputable def t_f10_l38 (lp : LpT) (G : Roms) (call : CallT) (k : KV) (v36 : V) (v37 : V) (x0 : Nat) (x1 : Nat) (z0 : Int) (z1 : Int) (ih38 : (V × Heap × Nat) → Prop) (a61_l38 : V) (H : Heap) (n : Nat) : Prop :=
 onV (B2.ev .lss a61_l38 v37) fun v39 =>
 onTst v39 true (onV (iaddrV 1 v36 a61_l38) fun v40 =>
 onV (ld1V v40 G H) fun v41 =>
 onV (B2.ev .mul a61_l38 (.int .i64 (.ofNat x1) 0)) fun v42 =>
 askV false (eqV (.one .int) true v41 v42) fun v43 =>
 onTst v43 true (k (.bool false) H n) (onV (B2.ev .add a61_l38 (.int .i64 (.ofNat 1) 0)) fun v44 =>
 ih38 (v44, H, n))) (t_f10_j34 lp G call k x0 x1 z0 z1 H n)
noncomputable def t_f10 (lp : LpT) (G : Roms) (call : CallT) (z0 : Int) (z1 : Int) (x0 : Nat) (x1 : Nat) (H : Heap) (n : Nat) (k : KV) : Prop :=
 call 19 [] H n fun v1 H n =>
 onV (notV v1) fun v2 =>
 onTst v2 true (k (.bool false) H n) (onA (aBslice 1 1 [(.str 0 0)] [(0, .c (.str 146 1959501893637393614636705159843733503122876927267802214976251878499094024064747373188466368380066641565526237002441851690768446460050571448775386809410005638943464026774110811413992899369852821543756084825727909243196399158508768676500825769399209499690767696164296306124765428097800165721661501788171396559181848165468036379411593103537536513660251235))] E0) H n fun v3 H n =>
 call 20 [v3] H n fun v4 H n =>
 onV (extV v4 0) fun v5 =>
 onV (extV v4 1) fun v6 =>
 onV (extV v4 2) fun v7 =>
 onV (notV v7) fun v8 =>
 onTst v8 true (k (.bool false) H n) (onA (aBslice 1 2 [(.int .i64 (.ofNat 0) 0)] [(0, .c (.int .i64 (.ofNat x0) 0)), (1, .c (.int .i64 (.ofNat x1) 0))] E0) H n fun v9 H n =>
 onV (buildV [(.int .i64 (.ofNat 0) 0), (.int .i64 (.ofNat 0) 0), (.int .i64 (.ofNat 0) 0)] [(0, 1, .c (.int .i64 (.ofNat 2000) 0)), (2, 1, .c (.int .i64 (.ofNat 1) 0))]) fun v10 =>
 call 21 [v6, v5, (.str 1 65), (.str 1 109), v9, v10] H n fun v11 H n =>
 onV (extV v11 0) fun v12 =>
 onV (extV v11 1) fun v13 =>
 onA (aAlloc 3 [[(.int .i64 (.ofNat 0) 0), (.int .i64 (.ofNat 0) 0), .nils]] E0) H n fun v14 H n =>
 stV 3 v14 v12 H n fun v15 H n =>
 onV (eqV (.one .int) true v13 (.int .i64 (.ofNat 0) 0)) fun v16 =>
 onG v16 false (paddV 0 v14) fun v17 =>
 onG v16 false (ld1V v17 G H) fun v18 =>
 onG v16 false (eqV (.one .int) true v18 (.int .i64 (.ofNat 0) 0)) fun v19 =>
 onV (pickV v16 (.bool true) v19) fun v20 =>
 onG v20 false (paddV 1 v14) fun v21 =>
 onG v20 false (ld1V v21 G H) fun v22 =>
 onG v20 false (some (.int .i64 (.ofNat x0) 0)) fun v23 =>
 onG v20 false (some (.int .i64 (.ofNat x1) 0)) fun v24 =>
 onG v20 false (B2.ev .mul v23 v24) fun v25 =>
 askG v20 false false (eqV (.one .int) true v22 v25) fun v26 =>
 onV (pickV v20 (.bool true) v26) fun v27 =>
 onG v27 false (paddV 2 v14) fun v28 =>
 onG v27 false (ld1V v28 G H) fun v29 =>
 onG v27 false (lenV v29) fun v30 =>
 onG v27 false (some (.int .i64 (.ofNat x0) 0)) fun v31 =>
 onG v27 false (eqV (.one .int) true v30 v31) fun v32 =>
 onV (pickV v27 (.bool true) v32) fun v33 =>
 onTst v33 true (k (.bool false) H n) (onV (paddV 2 v14) fun v35 =>
 onV (ld1V v35 G H) fun v36 =>
 onV (lenV v36) fun v37 =>
 lp (V × Heap × Nat) (fun ih s => t_f10_l38 lp G call k v36 v37 x0 x1 z0 z1 ih s.1 s.2.1 s.2.2) ((.int .i64 (.ofNat 0) 0), H, n))))
theorem ti_f10 {lp : LpT} (hL : LpOk lp) {G : Roms} {call callE : CallT} (z0 : Int) (z1 : Int) (x0 : Nat) (x1 : Nat) (ex0 : uand z0 63 = x0) (ex1 : uand z1 65535 = x1) (hle : CallLe call callE) (hd : CallDet callE) {H : Heap} {n : Nat} {k : KV} (h : t_f10 lp G call z0 z1 x0 x1 H n k) : exFunL lf G callE [(.int .i64 z0 0), (.int .i64 z1 0)] H n k := by
  delta t_f10 at h
  refine f_intro rfl ?_
  refine c_seq ?_
  refine c_ops ?_
  refine ov_t (a := (.bool false)) (k_mv rfl) ?_
  refine o0 ?_
  refine c_seq ?_
  refine c_seq ?_
  refine c_ops ?_
  refine oe_s hle hd h (k_call xs0) fun v1 H n h => ?_
  refine on_t h (k_not rfl) fun v2 h => ?_
  refine o0 ?_
  refine c_cond h (xr sm) (fun h => ?_) (fun h => ?_)
  · refine c_seq ?_
    refine c_ops ?_
    refine ov_t (a := (.bool false)) (k_mv rfl) ?_
    refine o0 ?_
    refine c_ret ?_
    exact fin_no (rsT sm rs0) h
  · refine c_skip ?_
    refine c_seq ?_
    refine c_ops ?_
    refine ov_s (a := (.int .i64 (.ofNat x0) 0)) (km3 (by decide) ex0 (xr (ne rfl (ne rfl rfl)))) ?_
    refine ov_t (a := (.int .i64 (.ofNat x0) 0)) (k_mv rfl) ?_
    refine o0 ?_
    refine c_seq ?_
    refine c_ops ?_
    refine ov_s (a := (.int .i64 (.ofNat x1) 0)) (km3 (by decide) ex1 (xr (ne rfl (ne rfl (ne rfl rfl))))) ?_
    refine ov_t (a := (.int .i64 (.ofNat x1) 0)) (k_mv rfl) ?_
    refine o0 ?_
    refine c_seq ?_
    refine c_ops ?_
    refine oa_s h (k_bslice (pbS rfl pb0)) fun v3 H n h => ?_
    refine oe_s hle hd h (k_call (xsS rfl xs0)) fun v4 H n h => ?_
    refine on_s h (k_ext rfl) fun v5 h => ?_
    refine on_s h (k_ext rfl) fun v6 h => ?_
    refine on_s h (k_ext rfl) fun v7 h => ?_
    refine ov_t (a := v5) (k_mv rfl) ?_
    refine ov_t (a := v6) (k_mv rfl) ?_
    refine ov_t (a := v7) (k_mv rfl) ?_
    refine o0 ?_
    refine c_seq ?_
    refine c_seq ?_
    refine c_ops ?_
    refine on_t h (k_not (xr sm)) fun v8 h => ?_
    refine o0 ?_
    refine c_cond h (xr sm) (fun h => ?_) (fun h => ?_)
    · refine c_seq ?_
      refine c_ops ?_
      refine ov_t (a := (.bool false)) (k_mv rfl) ?_
      refine o0 ?_
      refine c_ret ?_
      exact fin_no (rsT sm rs0) h
    · refine c_skip ?_
      refine c_seq ?_
      refine c_ops ?_
      refine oa_s h (k_bslice (pbS (xr (ne rfl (ne rfl (ne rfl (ne rfl (ne rfl sm)))))) (pbS (xr (ne rfl (ne rfl (ne rfl (ne rfl sm))))) pb0))) fun v9 H n h => ?_
      refine on_s h (k_build (psS rfl (psS rfl ps0))) fun v10 h => ?_
      refine oe_s hle hd h (k_call (xsS (xr (ne rfl (ne rfl sm))) (xsS (xr (ne rfl (ne rfl (ne rfl sm)))) (xsS rfl (xsS rfl (xsS rfl (xsS rfl xs0))))))) fun v11 H n h => ?_
      refine on_s h (k_ext rfl) fun v12 h => ?_
      refine on_s h (k_ext rfl) fun v13 h => ?_
      refine oa_t h k_alloc fun v14 H n h => ?_
      refine oe_x hle hd h (k_st (xr sm) rfl) fun v15 H n h => ?_
      refine ov_t (a := v13) (k_mv rfl) ?_
      refine o0 ?_
      refine c_seq ?_
      refine c_seq ?_
      refine c_ops ?_
      refine on_s h (k_eq (xr sm) rfl) fun v16 h => ?_
      refine ogn_s h rfl (k_faddr (xr (ne rfl sm))) fun v17 h => ?_
      refine ogn_s h rfl (k_ld1 rfl) fun v18 h => ?_
      refine ogn_s h rfl (k_eq rfl rfl) fun v19 h => ?_
      refine on_s h (k_pick rfl rfl rfl) fun v20 h => ?_
      refine ogn_s h rfl (k_faddr (xr (ne rfl sm))) fun v21 h => ?_
      refine ogn_s h rfl (k_ld1 rfl) fun v22 h => ?_
      refine ogn_s h rfl (k_mv (xr (ne rfl (ne rfl (ne rfl (ne rfl (ne rfl (ne rfl (ne rfl sm))))))))) fun v23 h => ?_
      refine ogn_s h rfl (k_mv (xr (ne rfl (ne rfl (ne rfl (ne rfl (ne rfl (ne rfl sm)))))))) fun v24 h => ?_
      refine ogn_s h rfl (k_bin rfl rfl) fun v25 h => ?_
      refine ogn_s (askG_ok h) rfl (k_eq rfl rfl) fun v26 h => ?_
      refine on_s h (k_pick rfl rfl rfl) fun v27 h => ?_
      refine ogn_s h rfl (k_faddr (xr (ne rfl sm))) fun v28 h => ?_
      refine ogn_s h rfl (k_ld1 rfl) fun v29 h => ?_
      refine ogn_s h rfl (k_lenL rfl) fun v30 h => ?_
      refine ogn_s h rfl (k_mv (xr (ne rfl (ne rfl (ne rfl (ne rfl (ne rfl (ne rfl (ne rfl sm))))))))) fun v31 h => ?_
      refine ogn_s h rfl (k_eq rfl rfl) fun v32 h => ?_
      refine on_t h (k_pick rfl rfl rfl) fun v33 h => ?_
      refine o0 ?_
      refine c_cond h (xr sm) (fun h => ?_) (fun h => ?_)
      · refine c_seq ?_
        refine c_ops ?_
        refine ov_t (a := (.bool false)) (k_mv rfl) ?_
        refine o0 ?_
        refine c_ret ?_
        exact fin_no (rsT sm rs0) h
      · refine c_skip ?_
        refine c_seqj (fun R H n => t_f10_j34 lp G call k x0 x1 z0 z1 H n) ?_ fun j34 => ?_
        · intro R H n h
          delta t_f10_j34 at h
          refine c_seq ?_
          refine c_ops ?_
          refine ov_t (a := (.bool true)) (k_mv rfl) ?_
          refine o0 ?_
          refine c_ret ?_
          exact fin_no (rsT sm rs0) h
        · refine c_seq ?_
          refine c_ops ?_
          refine on_s h (k_faddr (xr (ne rfl (ne rfl sm)))) fun v35 h => ?_
          refine on_t h (k_ld1 rfl) fun v36 h => ?_
          refine on_t h (k_lenL (xr sm)) fun v37 h => ?_
          refine ov_t (a := (.int .i64 (.ofNat 0) 0)) (k_mv rfl) ?_
          refine o0 ?_
          refine c_block ?_
          refine c_loop hL (fun s R H n => rg R q61 = s.1 ∧ rg R q1 = (.int .i64 (.ofNat x1) 0) ∧ rg R q59 = v36 ∧ rg R q60 = v37 ∧ H = s.2.1 ∧ n = s.2.2) h ⟨sm, (ne rfl (ne rfl (ne rfl (ne rfl (ne rfl (ne rfl (ne rfl (ne rfl (ne rfl (ne rfl sm)))))))))), (ne rfl (ne rfl sm)), (ne rfl sm), rfl, rfl⟩ ?_
          rintro ih38 I38 hI38 ⟨a61_l38, H, n⟩ R H0 n0 ⟨f61, f1, f59, f60, eH, eN⟩ h
          replace h : t_f10_l38 lp G call k v36 v37 x0 x1 z0 z1 ih38 a61_l38 H n := h
          obtain rfl : H0 = H := eH
          obtain rfl : n0 = n := eN
          delta t_f10_l38 at h
          refine c_seq ?_
          refine c_ops ?_
          refine on_t h (k_bin (xr f61) (xr f60)) fun v39 h => ?_
          refine o0 ?_
          refine c_seq ?_
          refine c_cond h (xr sm) (fun h => ?_) (fun h => ?_)
          · refine c_skip ?_
            refine c_seq ?_
            refine c_block ?_
            refine c_seq ?_
            refine c_ops ?_
            refine on_s h (k_iaddr (xr (ne rfl f59)) (xr (ne rfl f61))) fun v40 h => ?_
            refine on_s h (k_ld1 rfl) fun v41 h => ?_
            refine ov_t (a := a61_l38) (k_mv (xr (ne rfl f61))) ?_
            refine ov_t (a := v41) (k_mv rfl) ?_
            refine o0 ?_
            refine c_seq ?_
            refine c_ops ?_
            refine on_s h (k_bin (xr (ne rfl sm)) (xr (ne rfl (ne rfl (ne rfl f1))))) fun v42 h => ?_
            refine on_t (askV_ok h) (k_eq (xr sm) rfl) fun v43 h => ?_
            refine o0 ?_
            refine c_cond h (xr sm) (fun h => ?_) (fun h => ?_)
            · refine c_seq ?_
              refine c_ops ?_
              refine ov_t (a := (.bool false)) (k_mv rfl) ?_
              refine o0 ?_
              refine c_ret ?_
              exact fin_no (rsT sm rs0) h
            · refine c_skip ?_
              refine c_ops ?_
              refine on_s h (k_bin (xr (ne rfl (ne rfl (ne rfl (ne rfl f61))))) rfl) fun v44 h => ?_
              refine ov_t (a := v44) (k_mv rfl) ?_
              refine o0 ?_
              exact hI38 (v44, H0, n0) _ _ _ ⟨sm, (ne rfl (ne rfl (ne rfl (ne rfl (ne rfl f1))))), (ne rfl (ne rfl (ne rfl (ne rfl (ne rfl f59))))), (ne rfl (ne rfl (ne rfl (ne rfl (ne rfl f60))))), rfl, rfl⟩ h
          · refine c_exit ?_
            refine bx_same ?_
            exact j34 _ _ _ h
end Go.R3.LM

/- What is asked of the sums. -/
set_option maxRecDepth 100000
namespace Go.R3.LM
open Go.Eng Go.R3
noncomputable def tt (z0 z1 : Int) (n x : Nat) : Prop := t_f10 (lpF 600) G0 (runS (FS (lpF 600) G0) 600) z0 z1 n x .e 0 isT
noncomputable def I (x : Int) : V := .int .i64 x 0
noncomputable def acc (x i : Nat) : Int := Nat.rec (motive := fun _ => Int) (.ofNat 0) (fun _ a => wrapI .i64 (iadd a (.ofNat x))) i
noncomputable def Is (x i : Nat) : Prop := eqV (.one .int) true (I (acc x i)) (I (wrapI .i64 (Int.mul (.ofNat i) (.ofNat x)))) = some (.bool false)
noncomputable def Outs (x k : Nat) : Nat → Prop := Nat.rec (motive := fun _ => Nat → Prop) (fun _ => True) (fun _ g i => Is x i ∧ g (Nat.succ i)) k
theorem acc_eq (x i : Nat) : acc x i = IntKind.wrap .i64 ((i : Int) * x) := by
  induction i with
  | zero => simp; rfl
  | succ i ih =>
    show wrapI .i64 (iadd (acc x i) (.ofNat x)) = _
    rw [wrapI_eq, iadd_eq, ih]
    refine wrap64_congr ?_
    rw [Int.add_emod, wrap64_mod, ← Int.add_emod]
    congr 1
    show (i : Int) * x + x = ((i + 1 : Nat) : Int) * x
    rw [Int.natCast_add, Int.add_mul]; simp
theorem is (x i : Nat) : Is x i := by
  unfold Is I
  rw [acc_eq, wrapI_eq]
  exact neq_self _
theorem outs (x : Nat) : ∀ k i, Outs x k i
  | 0, _ => trivial
  | k + 1, i => ⟨is x i, outs x k (i + 1)⟩
end Go.R3.LM

