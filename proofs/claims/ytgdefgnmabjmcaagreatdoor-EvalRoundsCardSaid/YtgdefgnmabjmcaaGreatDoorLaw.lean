/- Part of a proof: texts LJ LJB of the engine and what is proved with it; nothing is assumed. -/
import Derived.Test.YtgdefgnmabjmcaaGreatDoorPlainR
import Derived.Test.YtgdefgnmabjmcaaGreatDoorCode
import Derived.Test.YtgdefgnmabjmcaaGreatDoorEngF
set_option linter.unusedVariables false
set_option linter.unusedSimpArgs false
/- The law, with what it reads of its numbers. -/
namespace Go.R3.LJ
open Go.Eng Go.R3
set_option maxRecDepth 100000
def r0 : X := .r q0
def r1 : X := .r q1
def r5 : X := .r q5
def r6 : X := .r q6
def r7 : X := .r q7
def r8 : X := .r q8
def r9 : X := .r q9
def r10 : X := .r q10
def r12 : X := .r q12
def r14 : X := .r q14
def r22 : X := .r q22
def r51 : X := .r q51
def lf : AF := .mk 2 (.seq (.ops [.mk (.to q4) .no (.n (.mv (.c (.bool false))))])
 (.seq (.seq (.ops [.mk .ps .no (.e (.call 19 [])),
    .mk (.to q12) .no (.n (.not (.s 0)))])
   (.cond r12 (.seq (.ops [.mk (.to q4) .no (.n (.mv (.c (.bool false))))])
     .ret)
    .skip))
  (.seq (.seq (.ops [.mk (.to q14) .no (.n (.eq (.one .int) false r1 (.c (.int .i64 (.ofNat 0) 0))))])
    (.cond r14 (.ops [.mk (.to q1) .no (.n (.mv (.c (.int .i64 (.ofNat 3) 0))))])
     .skip))
   (.seq (.ops [.mk .ps .no (.a (.bslice 1 1 [(.str 0 0)] [(0, (.c (.str 101 834348036952865241905642870034996599237127778970491082855153202930908676144287906734291307261592343102519390873842310788575346216359654058404372833101890244211256616074672811553987108595594946385508086028855743059808317111510700714160837192803)))])),
     .mk .ps .no (.e (.call 20 [(.s 0)])),
     .mk .ps .no (.n (.ext (.s 0) 0)),
     .mk .ps .no (.n (.ext (.s 1) 1)),
     .mk .ps .no (.n (.ext (.s 2) 2)),
     .mk (.to q5) .no (.n (.mv (.s 2))),
     .mk (.to q6) .no (.n (.mv (.s 1))),
     .mk (.to q7) .no (.n (.mv (.s 0)))])
    (.seq (.seq (.ops [.mk (.to q22) .no (.n (.not r7))])
      (.cond r22 (.seq (.ops [.mk (.to q4) .no (.n (.mv (.c (.bool false))))])
        .ret)
       .skip))
     (.seq (.ops [.mk .ps .no (.a (.bslice 1 2 [(.int .i64 (.ofNat 0) 0)] [(0, r0), (1, r1)])),
       .mk .ps .no (.n (.build [(.int .i64 (.ofNat 0) 0), (.int .i64 (.ofNat 0) 0), (.int .i64 (.ofNat 0) 0)] [(0, 1, (.c (.int .i64 (.ofNat 50) 0))), (2, 1, (.c (.int .i64 (.ofNat 1) 0)))])),
       .mk .ps .no (.e (.call 21 [r6, r5, (.c (.str 1 65)), (.c (.str 1 109)), (.s 1), (.s 0)])),
       .mk .ps .no (.n (.ext (.s 0) 0)),
       .mk .ps .no (.n (.ext (.s 1) 1)),
       .mk (.to q8) .no (.a (.alloc 3 [[(.int .i64 (.ofNat 0) 0), (.int .i64 (.ofNat 0) 0), .nils]])),
       .mk .no .no (.e (.st 3 r8 (.s 1))),
       .mk (.to q9) .no (.n (.mv (.s 0)))])
      (.seq (.seq (.ops [.mk .ps .no (.n (.eq (.one .int) true r9 (.c (.int .i64 (.ofNat 0) 0)))),
         .mk .ps (.on (.s 0) false) (.n (.faddr 0 r8)),
         .mk .ps (.on (.s 1) false) (.n (.ld1 (.s 0))),
         .mk .ps (.on (.s 2) false) (.n (.eq (.one .int) true (.s 0) (.c (.int .i64 (.ofNat 0) 0)))),
         .mk .ps .no (.n (.pick (.s 3) (.c (.bool true)) (.s 0))),
         .mk .ps (.on (.s 0) false) (.n (.faddr 1 r8)),
         .mk .ps (.on (.s 1) false) (.n (.ld1 (.s 0))),
         .mk .ps (.on (.s 2) false) (.n (.mv r0)),
         .mk .ps (.on (.s 3) false) (.n (.eq (.one .int) true (.s 1) (.s 0))),
         .mk .ps .no (.n (.pick (.s 4) (.c (.bool true)) (.s 0))),
         .mk .ps (.on (.s 0) false) (.n (.faddr 2 r8)),
         .mk .ps (.on (.s 1) false) (.n (.ld1 (.s 0))),
         .mk .ps (.on (.s 2) false) (.n (.lenL (.s 0))),
         .mk .ps (.on (.s 3) false) (.n (.eq (.one .int) true (.s 0) (.c (.int .i64 (.ofNat 2) 0)))),
         .mk (.to q51) .no (.n (.pick (.s 4) (.c (.bool true)) (.s 0)))])
        (.cond r51 (.seq (.ops [.mk (.to q4) .no (.n (.mv (.c (.bool false))))])
          .ret)
         .skip))
       (.seq (.ops [.mk .ps .no (.n (.faddr 2 r8)),
         .mk .ps .no (.n (.ld1 (.s 0))),
         .mk .ps .no (.n (.iaddr 1 (.s 0) (.c (.int .i64 (.ofNat 1) 0)))),
         .mk .ps .no (.n (.ld1 (.s 0))),
         .mk (.to q10) .no (.n (.mv (.s 0)))])
        (.seq (.ops [.mk .ps .no (.n (.eq (.one .int) false r10 (.c (.int .i64 (.ofNat 0) 0)))),
          .mk .ps (.on (.s 0) false) (.n (.mv r10)),
          .mk .ps (.on (.s 1) false) (.n (.bin .lss (.s 0) (.c (.int .i64 (.ofNat 0) 0)))),
          .mk .ps (.on (.s 2) false) (.n (.mv r0)),
          .mk .ps (.on (.s 3) false) (.n (.bin .lss (.s 0) (.c (.int .i64 (.ofNat 0) 0)))),
          .mk .ps (.on (.s 4) false) (.n (.eq (.one .bool) false (.s 2) (.s 0))),
          .mk .ps .no (.n (.pick (.s 5) (.c (.bool true)) (.s 0))),
          .mk (.to q4) .no (.n (.mv (.s 0)))])
         .ret)))))))))
 [.tmp q4] .no 0
theorem at_law : T.get F 13 = some lf := by kernel_rfl
noncomputable def t_f13_j3 (lp : LpT) (G : Roms) (call : CallT) (k : KV) (y0 : Bool) (y1 : Bool) (y2 : Bool) (z0 : Int) (z1 : Int) (a1_j3 : V) (H : Heap) (n : Nat) : Prop :=
 onA (aBslice 1 1 [(.str 0 0)] [(0, .c (.str 101 834348036952865241905642870034996599237127778970491082855153202930908676144287906734291307261592343102519390873842310788575346216359654058404372833101890244211256616074672811553987108595594946385508086028855743059808317111510700714160837192803))] E0) H n fun v4 H n =>
 call 20 [v4] H n fun v5 H n =>
 onV (extV v5 0) fun v6 =>
 onV (extV v5 1) fun v7 =>
 onV (extV v5 2) fun v8 =>
 onV (notV v8) fun v9 =>
 onTst v9 true (k (.bool false) H n) (onA (aBslice 1 2 [(.int .i64 (.ofNat 0) 0)] [(0, .c (.int .i64 z0 0)), (1, .c a1_j3)] E0) H n fun v10 H n =>
 onV (buildV [(.int .i64 (.ofNat 0) 0), (.int .i64 (.ofNat 0) 0), (.int .i64 (.ofNat 0) 0)] [(0, 1, .c (.int .i64 (.ofNat 50) 0)), (2, 1, .c (.int .i64 (.ofNat 1) 0))]) fun v11 =>
 call 21 [v7, v6, (.str 1 65), (.str 1 109), v10, v11] H n fun v12 H n =>
 onV (extV v12 0) fun v13 =>
 onV (extV v12 1) fun v14 =>
 onA (aAlloc 3 [[(.int .i64 (.ofNat 0) 0), (.int .i64 (.ofNat 0) 0), .nils]] E0) H n fun v15 H n =>
 stV 3 v15 v13 H n fun v16 H n =>
 onV (eqV (.one .int) true v14 (.int .i64 (.ofNat 0) 0)) fun v17 =>
 onG v17 false (paddV 0 v15) fun v18 =>
 onG v17 false (ld1V v18 G H) fun v19 =>
 onG v17 false (eqV (.one .int) true v19 (.int .i64 (.ofNat 0) 0)) fun v20 =>
 onV (pickV v17 (.bool true) v20) fun v21 =>
 onG v21 false (paddV 1 v15) fun v22 =>
 onG v21 false (ld1V v22 G H) fun v23 =>
 onG v21 false (some (.int .i64 z0 0)) fun v24 =>
 askG v21 false false (eqV (.one .int) true v23 v24) fun v25 =>
 onV (pickV v21 (.bool true) v25) fun v26 =>
 onG v26 false (paddV 2 v15) fun v27 =>
 onG v26 false (ld1V v27 G H) fun v28 =>
 onG v26 false (lenV v28) fun v29 =>
 onG v26 false (eqV (.one .int) true v29 (.int .i64 (.ofNat 2) 0)) fun v30 =>
 onV (pickV v26 (.bool true) v30) fun v31 =>
 onTst v31 true (k (.bool false) H n) (onV (paddV 2 v15) fun v32 =>
 onV (ld1V v32 G H) fun v33 =>
 onV (iaddrV 1 v33 (.int .i64 (.ofNat 1) 0)) fun v34 =>
 onV (ld1V v34 G H) fun v35 =>
 askV y0 (eqV (.one .int) false v35 (.int .i64 (.ofNat 0) 0)) fun v36 =>
 onG v36 false (some v35) fun v37 =>
 askG v36 false y1 (B2.ev .lss v37 (.int .i64 (.ofNat 0) 0)) fun v38 =>
 onG v36 false (some (.int .i64 z0 0)) fun v39 =>
 askG v36 false y2 (B2.ev .lss v39 (.int .i64 (.ofNat 0) 0)) fun v40 =>
 onG v36 false (eqV (.one .bool) false v38 v40) fun v41 =>
 onV (pickV v36 (.bool true) v41) fun v42 =>
 k v42 H n))
noncomputable def t_f13 (lp : LpT) (G : Roms) (call : CallT) (z0 : Int) (z1 : Int) (y0 : Bool) (y1 : Bool) (y2 : Bool) (H : Heap) (n : Nat) (k : KV) : Prop :=
 call 19 [] H n fun v1 H n =>
 onV (notV v1) fun v2 =>
 onTst v2 true (k (.bool false) H n) (onV (eqV (.one .int) false (.int .i64 z1 0) (.int .i64 (.ofNat 0) 0)) fun v43 =>
 onTst v43 true (t_f13_j3 lp G call k y0 y1 y2 z0 z1 (.int .i64 (.ofNat 3) 0) H n) (t_f13_j3 lp G call k y0 y1 y2 z0 z1 (.int .i64 z1 0) H n))
theorem ti_f13 {lp : LpT} (hL : LpOk lp) {G : Roms} {call callE : CallT} (z0 : Int) (z1 : Int) (y0 : Bool) (y1 : Bool) (y2 : Bool)  (hle : CallLe call callE) (hd : CallDet callE) {H : Heap} {n : Nat} {k : KV} (h : t_f13 lp G call z0 z1 y0 y1 y2 H n k) : exFunL lf G callE [(.int .i64 z0 0), (.int .i64 z1 0)] H n k := by
  delta t_f13 at h
  refine f_intro rfl ?_
  refine c_seq ?_
  refine c_ops ?_
  refine ov_t (a := (.bool false)) (k_mv rfl) ?_
  refine o0 ?_
  refine c_seq ?_
  refine c_seq ?_
  refine c_ops ?_
  refine oe_s hle hd h (k_call xs0) fun v1 H n h => ?_
  refine on_t h (k_not rfl) fun v2 h => ?_
  refine o0 ?_
  refine c_cond h (xr sm) (fun h => ?_) (fun h => ?_)
  · refine c_seq ?_
    refine c_ops ?_
    refine ov_t (a := (.bool false)) (k_mv rfl) ?_
    refine o0 ?_
    refine c_ret ?_
    exact fin_no (rsT sm rs0) h
  · refine c_skip ?_
    refine c_seqj (fun R H n => ∃ a1_j3, rg R q1 = a1_j3 ∧ rg R q0 = (.int .i64 z0 0) ∧ t_f13_j3 lp G call k y0 y1 y2 z0 z1 a1_j3 H n) ?_ fun j3 => ?_
    · rintro R H n ⟨a1_j3, f1, f0, h⟩
      delta t_f13_j3 at h
      refine c_seq ?_
      refine c_ops ?_
      refine oa_s h (k_bslice (pbS rfl pb0)) fun v4 H n h => ?_
      refine oe_s hle hd h (k_call (xsS rfl xs0)) fun v5 H n h => ?_
      refine on_s h (k_ext rfl) fun v6 h => ?_
      refine on_s h (k_ext rfl) fun v7 h => ?_
      refine on_s h (k_ext rfl) fun v8 h => ?_
      refine ov_t (a := v6) (k_mv rfl) ?_
      refine ov_t (a := v7) (k_mv rfl) ?_
      refine ov_t (a := v8) (k_mv rfl) ?_
      refine o0 ?_
      refine c_seq ?_
      refine c_seq ?_
      refine c_ops ?_
      refine on_t h (k_not (xr sm)) fun v9 h => ?_
      refine o0 ?_
      refine c_cond h (xr sm) (fun h => ?_) (fun h => ?_)
      · refine c_seq ?_
        refine c_ops ?_
        refine ov_t (a := (.bool false)) (k_mv rfl) ?_
        refine o0 ?_
        refine c_ret ?_
        exact fin_no (rsT sm rs0) h
      · refine c_skip ?_
        refine c_seq ?_
        refine c_ops ?_
        refine oa_s h (k_bslice (pbS (xr (ne rfl (ne rfl (ne rfl (ne rfl f0))))) (pbS (xr (ne rfl (ne rfl (ne rfl (ne rfl f1))))) pb0))) fun v10 H n h => ?_
        refine on_s h (k_build (psS rfl (psS rfl ps0))) fun v11 h => ?_
        refine oe_s hle hd h (k_call (xsS (xr (ne rfl (ne rfl sm))) (xsS (xr (ne rfl (ne rfl (ne rfl sm)))) (xsS rfl (xsS rfl (xsS rfl (xsS rfl xs0))))))) fun v12 H n h => ?_
        refine on_s h (k_ext rfl) fun v13 h => ?_
        refine on_s h (k_ext rfl) fun v14 h => ?_
        refine oa_t h k_alloc fun v15 H n h => ?_
        refine oe_x hle hd h (k_st (xr sm) rfl) fun v16 H n h => ?_
        refine ov_t (a := v14) (k_mv rfl) ?_
        refine o0 ?_
        refine c_seq ?_
        refine c_seq ?_
        refine c_ops ?_
        refine on_s h (k_eq (xr sm) rfl) fun v17 h => ?_
        refine ogn_s h rfl (k_faddr (xr (ne rfl sm))) fun v18 h => ?_
        refine ogn_s h rfl (k_ld1 rfl) fun v19 h => ?_
        refine ogn_s h rfl (k_eq rfl rfl) fun v20 h => ?_
        refine on_s h (k_pick rfl rfl rfl) fun v21 h => ?_
        refine ogn_s h rfl (k_faddr (xr (ne rfl sm))) fun v22 h => ?_
        refine ogn_s h rfl (k_ld1 rfl) fun v23 h => ?_
        refine ogn_s h rfl (k_mv (xr (ne rfl (ne rfl (ne rfl (ne rfl (ne rfl (ne rfl f0)))))))) fun v24 h => ?_
        refine ogn_s (askG_ok h) rfl (k_eq rfl rfl) fun v25 h => ?_
        refine on_s h (k_pick rfl rfl rfl) fun v26 h => ?_
        refine ogn_s h rfl (k_faddr (xr (ne rfl sm))) fun v27 h => ?_
        refine ogn_s h rfl (k_ld1 rfl) fun v28 h => ?_
        refine ogn_s h rfl (k_lenL rfl) fun v29 h => ?_
        refine ogn_s h rfl (k_eq rfl rfl) fun v30 h => ?_
        refine on_t h (k_pick rfl rfl rfl) fun v31 h => ?_
        refine o0 ?_
        refine c_cond h (xr sm) (fun h => ?_) (fun h => ?_)
        · refine c_seq ?_
          refine c_ops ?_
          refine ov_t (a := (.bool false)) (k_mv rfl) ?_
          refine o0 ?_
          refine c_ret ?_
          exact fin_no (rsT sm rs0) h
        · refine c_skip ?_
          refine c_seq ?_
          refine c_ops ?_
          refine on_s h (k_faddr (xr (ne rfl (ne rfl sm)))) fun v32 h => ?_
          refine on_s h (k_ld1 rfl) fun v33 h => ?_
          refine on_s h (k_iaddr rfl rfl) fun v34 h => ?_
          refine on_s h (k_ld1 rfl) fun v35 h => ?_
          refine ov_t (a := v35) (k_mv rfl) ?_
          refine o0 ?_
          refine c_seq ?_
          refine c_ops ?_
          refine on_s (askV_ok h) (k_eq (xr sm) rfl) fun v36 h => ?_
          refine ogn_s h rfl (k_mv (xr sm)) fun v37 h => ?_
          refine ogn_s (askG_ok h) rfl (k_bin rfl rfl) fun v38 h => ?_
          refine ogn_s h rfl (k_mv (xr (ne rfl (ne rfl (ne rfl (ne rfl (ne rfl (ne rfl (ne rfl (ne rfl f0)))))))))) fun v39 h => ?_
          refine ogn_s (askG_ok h) rfl (k_bin rfl rfl) fun v40 h => ?_
          refine ogn_s h rfl (k_eq rfl rfl) fun v41 h => ?_
          refine on_s h (k_pick rfl rfl rfl) fun v42 h => ?_
          refine ov_t (a := v42) (k_mv rfl) ?_
          refine o0 ?_
          refine c_ret ?_
          exact fin_no (rsT sm rs0) h
    · refine c_seq ?_
      refine c_ops ?_
      refine on_t h (k_eq (xr (ne rfl (ne rfl rfl))) rfl) fun v43 h => ?_
      refine o0 ?_
      refine c_cond h (xr sm) (fun h => ?_) (fun h => ?_)
      · refine c_ops ?_
        refine ov_t (a := (.int .i64 (.ofNat 3) 0)) (k_mv rfl) ?_
        refine o0 ?_
        exact j3 _ _ _ ⟨_, sm, (ne rfl (ne rfl (ne rfl (ne rfl rfl)))), h⟩
      · refine c_skip ?_
        exact j3 _ _ _ ⟨_, (ne rfl (ne rfl (ne rfl rfl))), (ne rfl (ne rfl (ne rfl rfl))), h⟩
end Go.R3.LJ

/- What is asked of two numbers. -/
set_option maxRecDepth 100000
namespace Go.R3.LJ
open Go.Eng Go.R3
noncomputable def tt (a b c : Bool) (x y : Int) : Prop := t_f13 (lpF 600) G0 (runS (FS (lpF 600) G0) 600) x y a b c .e 0 isT
noncomputable def I (x : Int) : V := .int .i64 x 0
noncomputable def W (a : Int) : Int := wrapI .i64 a
noncomputable def Whole (x y : Int) : Int := W (iadd (W (Int.mul (W (Int.tdiv x y)) y)) (Int.tmod x y))
noncomputable def Rest (x y : Int) (a b c : Bool) : Prop := eqV (.one .int) true (I (Whole x y)) (I x) = some (.bool false) ∧ eqV (.one .int) false (I (Int.tmod x y)) (I (.ofNat 0)) = some (.bool a) ∧
  Bool.rec (B2.ev .lss (I (Int.tmod x y)) (I (.ofNat 0)) = some (.bool b) ∧ B2.ev .lss (I x) (I (.ofNat 0)) = some (.bool c) ∧ True) True a
theorem whole {x : Int} (y : Int) (h1 : -9223372036854775808 ≤ x) (h2 : x < 9223372036854775808) : Whole x y = x := by
  show wrapI .i64 (iadd (wrapI .i64 (wrapI .i64 (Int.tdiv x y) * y)) (Int.tmod x y)) = x
  simp only [wrapI_eq, iadd_eq]
  refine Eq.trans (wrap64_congr ?_) (wrap64_id h1 h2)
  have e : Int.tdiv x y * y + Int.tmod x y = x := Int.tdiv_mul_add_tmod x y
  rw [Int.add_emod, wrap64_mod, Int.mul_emod, wrap64_mod, ← Int.mul_emod, ← Int.add_emod, e]
theorem rest {x y : Int} (h1 : -9223372036854775808 ≤ x) (h2 : x < 9223372036854775808) {a b c : Bool} (ha : (Int.tmod x y == 0) = a) (hb : a = false → decide (Int.tmod x y < 0) = b) (hc : a = false → decide (x < 0) = c) : Rest x y a b c := by
  refine ⟨by rw [whole y h1 h2]; unfold I; rw [neq_self], ?_, ?_⟩
  · unfold I; rw [eq_i]; exact congrArg (fun b => some (V.bool b)) ha
  · cases a with
    | true => trivial
    | false =>
      refine ⟨?_, ?_, trivial⟩
      · unfold I; rw [lss_i]; exact congrArg (fun b => some (V.bool b)) (hb rfl)
      · unfold I; rw [lss_i]; exact congrArg (fun b => some (V.bool b)) (hc rfl)
end Go.R3.LJ

