/- Part of a proof: texts LA of the engine and what is proved with it; nothing is assumed. -/
import Derived.Test.YtgdefgnmabjmcaaGreatDoorPlainR
import Derived.Test.YtgdefgnmabjmcaaGreatDoorCode
import Derived.Test.YtgdefgnmabjmcaaGreatDoorEngF
set_option linter.unusedVariables false
set_option linter.unusedSimpArgs false
/- The law, with what it reads of its numbers. -/
namespace Go.R3.LA
open Go.Eng Go.R3
set_option maxRecDepth 100000
def r0 : X := .r q0
def r1 : X := .r q1
def r5 : X := .r q5
def r6 : X := .r q6
def r7 : X := .r q7
def r8 : X := .r q8
def r9 : X := .r q9
def r10 : X := .r q10
def r11 : X := .r q11
def r12 : X := .r q12
def r14 : X := .r q14
def r46 : X := .r q46
def r63 : X := .r q63
def r64 : X := .r q64
def r65 : X := .r q65
def r66 : X := .r q66
def r67 : X := .r q67
def r68 : X := .r q68
def r69 : X := .r q69
def r70 : X := .r q70
def r71 : X := .r q71
def r72 : X := .r q72
def lf : AF := .mk 2 (.seq (.ops [.mk (.to q4) .no (.n (.mv (.c (.bool false))))])
 (.seq (.seq (.ops [.mk .ps .no (.e (.call 15 [])),
    .mk (.to q14) .no (.n (.not (.s 0)))])
   (.cond r14 (.seq (.ops [.mk (.to q4) .no (.n (.mv (.c (.bool false))))])
     .ret)
    .skip))
  (.seq (.ops [.mk .ps .no (.n (.build [(.str 0 0), (.int .i64 (.ofNat 0) 0), (.int .i64 (.ofNat 0) 0)] [(0, 1, (.c (.str 2 15225))), (1, 1, (.c (.int .i64 (.ofNat 23) 0))), (2, 1, (.c (.int .i64 (.ofNat 8) 0)))])),
    .mk .ps .no (.n (.build [(.str 0 0), (.int .i64 (.ofNat 0) 0), (.int .i64 (.ofNat 0) 0)] [(0, 1, (.c (.str 9 1095668775762050883704))), (1, 1, (.c (.int .i64 (.ofNat 24) 0))), (2, 1, (.c (.int .i64 (.ofNat 12) 0)))])),
    .mk .ps .no (.n (.build [(.str 0 0), (.int .i64 (.ofNat 0) 0), (.int .i64 (.ofNat 0) 0)] [(0, 1, (.c (.str 10 280491206595084942712952))), (1, 1, (.c (.int .i64 (.ofNat 24) 0))), (2, 1, (.c (.int .i64 (.ofNat 8) 0)))])),
    .mk .ps .no (.n (.build [(.str 0 0), (.int .i64 (.ofNat 0) 0), (.int .i64 (.ofNat 0) 0)] [(0, 1, (.c (.str 4 996552312))), (1, 1, (.c (.int .i64 (.ofNat 24) 0))), (2, 1, (.c (.int .i64 (.ofNat 8) 0)))])),
    .mk .ps .no (.n (.build [(.str 0 0), (.int .i64 (.ofNat 0) 0), (.int .i64 (.ofNat 0) 0)] [(0, 1, (.c (.str 7 16719373316745332))), (1, 1, (.c (.int .i64 (.ofNat 23) 0))), (2, 1, (.c (.int .i64 (.ofNat 12) 0)))])),
    .mk .ps .no (.n (.build [(.str 0 0), (.int .i64 (.ofNat 0) 0), (.int .i64 (.ofNat 0) 0)] [(0, 1, (.c (.str 10 279384597286661051213940))), (1, 1, (.c (.int .i64 (.ofNat 25) 0))), (2, 1, (.c (.int .i64 (.ofNat 12) 0)))])),
    .mk .ps .no (.n (.build [(.str 0 0), (.int .i64 (.ofNat 0) 0), (.int .i64 (.ofNat 0) 0)] [(0, 1, (.c (.str 16 78639772360703599659101684245253941364))), (1, 1, (.c (.int .i64 (.ofNat 24) 0))), (2, 1, (.c (.int .i64 (.ofNat 15) 0)))])),
    .mk .ps .no (.n (.build [(.str 0 0), (.int .i64 (.ofNat 0) 0), (.int .i64 (.ofNat 0) 0)] [(0, 1, (.c (.str 10 279384594963709551259201))), (1, 1, (.c (.int .i64 (.ofNat 23) 0))), (2, 1, (.c (.int .i64 (.ofNat 8) 0)))])),
    .mk .ps .no (.n (.build [(.str 0 0), (.int .i64 (.ofNat 0) 0), (.int .i64 (.ofNat 0) 0)] [(0, 1, (.c (.str 7 16652619676986947))), (1, 1, (.c (.int .i64 (.ofNat 23) 0))), (2, 1, (.c (.int .i64 (.ofNat 8) 0)))])),
    .mk .ps .no (.n (.build [(.str 0 0), (.int .i64 (.ofNat 0) 0), (.int .i64 (.ofNat 0) 0)] [(0, 1, (.c (.str 5 254966586232))), (1, 1, (.c (.int .i64 (.ofNat 24) 0))), (2, 1, (.c (.int .i64 (.ofNat 8) 0)))])),
    .mk .ps .no (.n (.build [(.str 0 0), (.int .i64 (.ofNat 0) 0), (.int .i64 (.ofNat 0) 0)] [(0, 1, (.c (.str 23 5690158451213160028657012262683434810511696796276059688))), (1, 1, (.c (.int .i64 (.ofNat 24) 0))), (2, 1, (.c (.int .i64 (.ofNat 17) 0)))])),
    .mk .ps .no (.n (.build [(.str 0 0), (.int .i64 (.ofNat 0) 0), (.int .i64 (.ofNat 0) 0)] [(0, 1, (.c (.str 9 1095884654949952138872))), (1, 1, (.c (.int .i64 (.ofNat 24) 0))), (2, 1, (.c (.int .i64 (.ofNat 8) 0)))])),
    .mk .ps .no (.n (.build [(.str 0 0), (.int .i64 (.ofNat 0) 0), (.int .i64 (.ofNat 0) 0)] [(0, 1, (.c (.str 6 65306948170797))), (1, 1, (.c (.int .i64 (.ofNat 24) 0))), (2, 1, (.c (.int .i64 (.ofNat 9) 0)))])),
    .mk .ps .no (.n (.build [(.str 0 0), (.int .i64 (.ofNat 0) 0), (.int .i64 (.ofNat 0) 0)] [(0, 1, (.c (.str 3 3897377))), (1, 1, (.c (.int .i64 (.ofNat 24) 0))), (2, 1, (.c (.int .i64 (.ofNat 9) 0)))])),
    .mk .ps .no (.n (.build [(.str 0 0), (.int .i64 (.ofNat 0) 0), (.int .i64 (.ofNat 0) 0)] [(0, 1, (.c (.str 7 16678631256432760))), (1, 1, (.c (.int .i64 (.ofNat 24) 0))), (2, 1, (.c (.int .i64 (.ofNat 8) 0)))])),
    .mk .ps .no (.n (.build [(.str 0 0), (.int .i64 (.ofNat 0) 0), (.int .i64 (.ofNat 0) 0)] [(0, 1, (.c (.str 10 279857892670467239143540))), (1, 1, (.c (.int .i64 (.ofNat 23) 0))), (2, 1, (.c (.int .i64 (.ofNat 13) 0)))])),
    .mk .ps .no (.n (.build [(.str 0 0), (.int .i64 (.ofNat 0) 0), (.int .i64 (.ofNat 0) 0)] [(0, 1, (.c (.str 10 280491206595085330096248))), (1, 1, (.c (.int .i64 (.ofNat 24) 0))), (2, 1, (.c (.int .i64 (.ofNat 10) 0)))])),
    .mk .ps .no (.n (.build [(.str 0 0), (.int .i64 (.ofNat 0) 0), (.int .i64 (.ofNat 0) 0)] [(0, 1, (.c (.str 10 280619686123082815971448))), (1, 1, (.c (.int .i64 (.ofNat 24) 0))), (2, 1, (.c (.int .i64 (.ofNat 10) 0)))])),
    .mk .ps .no (.n (.build [(.str 0 0), (.int .i64 (.ofNat 0) 0), (.int .i64 (.ofNat 0) 0)] [(0, 1, (.c (.str 5 255105266292))), (1, 1, (.c (.int .i64 (.ofNat 24) 0))), (2, 1, (.c (.int .i64 (.ofNat 8) 0)))])),
    .mk .ps .no (.n (.build [(.str 0 0), (.int .i64 (.ofNat 0) 0), (.int .i64 (.ofNat 0) 0)] [(0, 1, (.c (.str 6 65159493543278))), (1, 1, (.c (.int .i64 (.ofNat 23) 0))), (2, 1, (.c (.int .i64 (.ofNat 8) 0)))])),
    .mk .ps .no (.a (.bslice 3 20 [(.str 0 0), (.int .i64 (.ofNat 0) 0), (.int .i64 (.ofNat 0) 0)] [(0, (.s 19)), (1, (.s 18)), (2, (.s 17)), (3, (.s 16)), (4, (.s 15)), (5, (.s 14)), (6, (.s 13)), (7, (.s 12)), (8, (.s 11)), (9, (.s 10)), (10, (.s 9)), (11, (.s 8)), (12, (.s 7)), (13, (.s 6)), (14, (.s 5)), (15, (.s 4)), (16, (.s 3)), (17, (.s 2)), (18, (.s 1)), (19, (.s 0))])),
    .mk (.to q5) .no (.n (.mv (.s 0)))])
   (.seq (.ops [.mk .ps .no (.n (.cvi .u64 r0)),
     .mk .ps .no (.n (.bin .rem (.s 0) (.c (.int .u64 (.ofNat 20) 0)))),
     .mk .ps .no (.n (.cvi .i64 (.s 0))),
     .mk .ps .no (.n (.iaddr 3 r5 (.s 0))),
     .mk .ps .no (.n (.ldn 3 (.s 0))),
     .mk (.to q6) .no (.a (.alloc 3 [[(.str 0 0), (.int .i64 (.ofNat 0) 0), (.int .i64 (.ofNat 0) 0)]])),
     .mk .no .no (.e (.st 3 r6 (.s 0)))])
    (.seq (.ops [.mk (.to q7) .no (.n (.mv (.c (.str 39 341601465201344024587442840349271434025986201493981735635938284993263138666397428737059679331))))])
     (.seq (.seq (.ops [.mk (.to q8) .no (.n (.mv (.c (.int .i64 (.ofNat 0) 0))))])
       (.block 0 (.loop (.seq (.seq (.ops [.mk .ps .no (.n (.bin .and r1 (.c (.int .i64 (.ofNat 7) 0)))),
            .mk (.to q46) .no (.n (.bin .lss r8 (.s 0)))])
           (.cond r46 .skip
            (.exit 0)))
          (.seq (.block 1 (.ops [.mk .ps .no (.n (.bin .add r7 (.c (.str 9 188752651466979242608)))),
             .mk (.to q7) .no (.n (.mv (.s 0)))]))
           (.ops [.mk .ps .no (.n (.bin .add r8 (.c (.int .i64 (.ofNat 1) 0)))),
            .mk (.to q8) .no (.n (.mv (.s 0)))]))))))
      (.seq (.ops [.mk .ps .no (.n (.bin .add r7 (.c (.str 7 9128637130630514)))),
        .mk .ps .no (.n (.faddr 0 r6)),
        .mk .ps .no (.n (.ld1 (.s 0))),
        .mk .ps .no (.n (.bin .add (.s 2) (.s 0))),
        .mk .ps .no (.n (.bin .add (.s 0) (.c (.str 4 2099281162)))),
        .mk .ps .no (.a (.bslice 1 1 [(.str 0 0)] [(0, (.s 0))])),
        .mk .ps .no (.e (.call 16 [(.s 0)])),
        .mk .ps .no (.n (.ext (.s 0) 0)),
        .mk .ps .no (.n (.ext (.s 1) 1)),
        .mk (.to q9) .no (.n (.mv (.s 1))),
        .mk (.to q10) .no (.n (.mv (.s 0)))])
       (.seq (.seq (.ops [.mk (.to q63) .no (.n (.not r10))])
         (.cond r63 (.seq (.ops [.mk (.to q4) .no (.n (.mv (.c (.bool false))))])
           .ret)
          .skip))
        (.seq (.reg [.op (.mk (.to q65) .no (.n (.mv r9))),
          .op (.mk (.to q67) .no (.n (.mv r9))),
          .op (.mk (.to q68) .no (.n (.iaddr 6 r67 (.c (.int .i64 (.ofNat 0) 0))))),
          .op (.mk (.to q69) .no (.n (.ldn 6 r68))),
          .op (.mk (.to q11) .no (.a (.alloc 6 [[(.int .i64 (.ofNat 0) 0), (.int .i64 (.ofNat 0) 0), (.str 0 0), (.str 0 0), .nils, .nils]]))),
          .op (.mk (.to q12) .no (.a (.alloc 3 [[(.int .i64 (.ofNat 0) 0), (.int .i64 (.ofNat 0) 0), (.int .i64 (.ofNat 0) 0)]]))),
          .op (.mk (.to q66) .no (.e (.call 18 [r65]))),
          .re q69 .no (.ldn 6 r68),
          .op (.mk (.to q70) .no (.e (.call 17 [r66, r69]))),
          .op (.mk (.to q64) .no (.n (.mv r70))),
          .op (.mk (.to q71) .no (.n (.ext r64 0))),
          .op (.mk (.to q72) .no (.n (.ext r64 1))),
          .op (.mk .no .no (.e (.st 6 r11 r71))),
          .op (.mk .no .no (.e (.st 3 r12 r72)))])
         (.seq (.ops [.mk .ps .no (.n (.ldn 3 r12)),
           .mk .ps .no (.n (.faddr 1 r6)),
           .mk .ps .no (.n (.ld1 (.s 0))),
           .mk .ps .no (.n (.bin .and r1 (.c (.int .i64 (.ofNat 7) 0)))),
           .mk .ps .no (.n (.bin .add (.c (.int .i64 (.ofNat 3) 0)) (.s 0))),
           .mk .ps .no (.n (.faddr 2 r6)),
           .mk .ps .no (.n (.ld1 (.s 0))),
           .mk .ps .no (.n (.build [(.int .i64 (.ofNat 0) 0), (.int .i64 (.ofNat 0) 0)] [(0, 1, (.s 2)), (1, 1, (.s 0))])),
           .mk .ps .no (.n (.build [(.int .i64 (.ofNat 0) 0), (.int .i64 (.ofNat 0) 0), (.int .i64 (.ofNat 0) 0)] [(0, 1, (.s 5)), (1, 2, (.s 0))])),
           .mk .ps .no (.n (.eq (.agg [.int, .int, .int]) false (.s 8) (.s 0))),
           .mk (.to q4) .no (.n (.mv (.s 0)))])
          .ret))))))))))
 [.tmp q4] .no 0
theorem at_law : T.get F 3 = some lf := by kernel_rfl
noncomputable def t_f3_j29 (lp : LpT) (G : Roms) (call : CallT) (k : KV) (v27 : V) (x0 : Nat) (x1 : Nat) (z0 : Int) (z1 : Int) (a7_j29 : V) (H : Heap) (n : Nat) : Prop :=
 onV (B2.ev .add a7_j29 (.str 7 9128637130630514)) fun v30 =>
 onV (paddV 0 v27) fun v31 =>
 onV (ld1V v31 G H) fun v32 =>
 onV (B2.ev .add v30 v32) fun v33 =>
 onV (B2.ev .add v33 (.str 4 2099281162)) fun v34 =>
 onA (aBslice 1 1 [(.str 0 0)] [(0, .c v34)] E0) H n fun v35 H n =>
 call 16 [v35] H n fun v36 H n =>
 onV (extV v36 0) fun v37 =>
 onV (extV v36 1) fun v38 =>
 onV (notV v38) fun v39 =>
 onTst v39 true (k (.bool false) H n) (onV (iaddrV 6 v37 (.int .i64 (.ofNat 0) 0)) fun v40 =>
 onV (ldnV 6 v40 G H) fun v41 =>
 onA (aAlloc 6 [[(.int .i64 (.ofNat 0) 0), (.int .i64 (.ofNat 0) 0), (.str 0 0), (.str 0 0), .nils, .nils]] E0) H n fun v42 H n =>
 onA (aAlloc 3 [[(.int .i64 (.ofNat 0) 0), (.int .i64 (.ofNat 0) 0), (.int .i64 (.ofNat 0) 0)]] E0) H n fun v43 H n =>
 call 18 [v37] H n fun v44 H n =>
 onV (ldnV 6 v40 G H) fun v => onB (vsame v v41) <|
 call 17 [v44, v41] H n fun v45 H n =>
 onV (extV v45 0) fun v46 =>
 onV (extV v45 1) fun v47 =>
 stV 6 v42 v46 H n fun v48 H n =>
 stV 3 v43 v47 H n fun v49 H n =>
 onV (ldnV 3 v43 G H) fun v50 =>
 onV (paddV 1 v27) fun v51 =>
 onV (ld1V v51 G H) fun v52 =>
 onV (B2.ev .add (.int .i64 (.ofNat 3) 0) (.int .i64 (.ofNat x1) 0)) fun v53 =>
 onV (paddV 2 v27) fun v54 =>
 onV (ld1V v54 G H) fun v55 =>
 onV (buildV [(.int .i64 (.ofNat 0) 0), (.int .i64 (.ofNat 0) 0)] [(0, 1, .c v53), (1, 1, .c v55)]) fun v56 =>
 onV (buildV [(.int .i64 (.ofNat 0) 0), (.int .i64 (.ofNat 0) 0), (.int .i64 (.ofNat 0) 0)] [(0, 1, .c v52), (1, 2, .c v56)]) fun v57 =>
 onV (eqV (.agg [.int, .int, .int]) false v50 v57) fun v58 =>
 k v58 H n)
noncomputable def t_f3_l59 (lp : LpT) (G : Roms) (call : CallT) (k : KV) (v27 : V) (x0 : Nat) (x1 : Nat) (z0 : Int) (z1 : Int) (ih59 : (V × V × Heap × Nat) → Prop) (a7_l59 a8_l59 : V) (H : Heap) (n : Nat) : Prop :=
 onV (B2.ev .lss a8_l59 (.int .i64 (.ofNat x1) 0)) fun v60 =>
 onTst v60 true (onV (B2.ev .add a7_l59 (.str 9 188752651466979242608)) fun v61 =>
 onV (B2.ev .add a8_l59 (.int .i64 (.ofNat 1) 0)) fun v62 =>
 ih59 (v61, v62, H, n)) (t_f3_j29 lp G call k v27 x0 x1 z0 z1 a7_l59 H n)
noncomputable def t_f3 (lp : LpT) (G : Roms) (call : CallT) (z0 : Int) (z1 : Int) (x0 : Nat) (x1 : Nat) (H : Heap) (n : Nat) (k : KV) : Prop :=
 call 15 [] H n fun v1 H n =>
 onV (notV v1) fun v2 =>
 onTst v2 true (k (.bool false) H n) (onV (buildV [(.str 0 0), (.int .i64 (.ofNat 0) 0), (.int .i64 (.ofNat 0) 0)] [(0, 1, .c (.str 2 15225)), (1, 1, .c (.int .i64 (.ofNat 23) 0)), (2, 1, .c (.int .i64 (.ofNat 8) 0))]) fun v3 =>
 onV (buildV [(.str 0 0), (.int .i64 (.ofNat 0) 0), (.int .i64 (.ofNat 0) 0)] [(0, 1, .c (.str 9 1095668775762050883704)), (1, 1, .c (.int .i64 (.ofNat 24) 0)), (2, 1, .c (.int .i64 (.ofNat 12) 0))]) fun v4 =>
 onV (buildV [(.str 0 0), (.int .i64 (.ofNat 0) 0), (.int .i64 (.ofNat 0) 0)] [(0, 1, .c (.str 10 280491206595084942712952)), (1, 1, .c (.int .i64 (.ofNat 24) 0)), (2, 1, .c (.int .i64 (.ofNat 8) 0))]) fun v5 =>
 onV (buildV [(.str 0 0), (.int .i64 (.ofNat 0) 0), (.int .i64 (.ofNat 0) 0)] [(0, 1, .c (.str 4 996552312)), (1, 1, .c (.int .i64 (.ofNat 24) 0)), (2, 1, .c (.int .i64 (.ofNat 8) 0))]) fun v6 =>
 onV (buildV [(.str 0 0), (.int .i64 (.ofNat 0) 0), (.int .i64 (.ofNat 0) 0)] [(0, 1, .c (.str 7 16719373316745332)), (1, 1, .c (.int .i64 (.ofNat 23) 0)), (2, 1, .c (.int .i64 (.ofNat 12) 0))]) fun v7 =>
 onV (buildV [(.str 0 0), (.int .i64 (.ofNat 0) 0), (.int .i64 (.ofNat 0) 0)] [(0, 1, .c (.str 10 279384597286661051213940)), (1, 1, .c (.int .i64 (.ofNat 25) 0)), (2, 1, .c (.int .i64 (.ofNat 12) 0))]) fun v8 =>
 onV (buildV [(.str 0 0), (.int .i64 (.ofNat 0) 0), (.int .i64 (.ofNat 0) 0)] [(0, 1, .c (.str 16 78639772360703599659101684245253941364)), (1, 1, .c (.int .i64 (.ofNat 24) 0)), (2, 1, .c (.int .i64 (.ofNat 15) 0))]) fun v9 =>
 onV (buildV [(.str 0 0), (.int .i64 (.ofNat 0) 0), (.int .i64 (.ofNat 0) 0)] [(0, 1, .c (.str 10 279384594963709551259201)), (1, 1, .c (.int .i64 (.ofNat 23) 0)), (2, 1, .c (.int .i64 (.ofNat 8) 0))]) fun v10 =>
 onV (buildV [(.str 0 0), (.int .i64 (.ofNat 0) 0), (.int .i64 (.ofNat 0) 0)] [(0, 1, .c (.str 7 16652619676986947)), (1, 1, .c (.int .i64 (.ofNat 23) 0)), (2, 1, .c (.int .i64 (.ofNat 8) 0))]) fun v11 =>
 onV (buildV [(.str 0 0), (.int .i64 (.ofNat 0) 0), (.int .i64 (.ofNat 0) 0)] [(0, 1, .c (.str 5 254966586232)), (1, 1, .c (.int .i64 (.ofNat 24) 0)), (2, 1, .c (.int .i64 (.ofNat 8) 0))]) fun v12 =>
 onV (buildV [(.str 0 0), (.int .i64 (.ofNat 0) 0), (.int .i64 (.ofNat 0) 0)] [(0, 1, .c (.str 23 5690158451213160028657012262683434810511696796276059688)), (1, 1, .c (.int .i64 (.ofNat 24) 0)), (2, 1, .c (.int .i64 (.ofNat 17) 0))]) fun v13 =>
 onV (buildV [(.str 0 0), (.int .i64 (.ofNat 0) 0), (.int .i64 (.ofNat 0) 0)] [(0, 1, .c (.str 9 1095884654949952138872)), (1, 1, .c (.int .i64 (.ofNat 24) 0)), (2, 1, .c (.int .i64 (.ofNat 8) 0))]) fun v14 =>
 onV (buildV [(.str 0 0), (.int .i64 (.ofNat 0) 0), (.int .i64 (.ofNat 0) 0)] [(0, 1, .c (.str 6 65306948170797)), (1, 1, .c (.int .i64 (.ofNat 24) 0)), (2, 1, .c (.int .i64 (.ofNat 9) 0))]) fun v15 =>
 onV (buildV [(.str 0 0), (.int .i64 (.ofNat 0) 0), (.int .i64 (.ofNat 0) 0)] [(0, 1, .c (.str 3 3897377)), (1, 1, .c (.int .i64 (.ofNat 24) 0)), (2, 1, .c (.int .i64 (.ofNat 9) 0))]) fun v16 =>
 onV (buildV [(.str 0 0), (.int .i64 (.ofNat 0) 0), (.int .i64 (.ofNat 0) 0)] [(0, 1, .c (.str 7 16678631256432760)), (1, 1, .c (.int .i64 (.ofNat 24) 0)), (2, 1, .c (.int .i64 (.ofNat 8) 0))]) fun v17 =>
 onV (buildV [(.str 0 0), (.int .i64 (.ofNat 0) 0), (.int .i64 (.ofNat 0) 0)] [(0, 1, .c (.str 10 279857892670467239143540)), (1, 1, .c (.int .i64 (.ofNat 23) 0)), (2, 1, .c (.int .i64 (.ofNat 13) 0))]) fun v18 =>
 onV (buildV [(.str 0 0), (.int .i64 (.ofNat 0) 0), (.int .i64 (.ofNat 0) 0)] [(0, 1, .c (.str 10 280491206595085330096248)), (1, 1, .c (.int .i64 (.ofNat 24) 0)), (2, 1, .c (.int .i64 (.ofNat 10) 0))]) fun v19 =>
 onV (buildV [(.str 0 0), (.int .i64 (.ofNat 0) 0), (.int .i64 (.ofNat 0) 0)] [(0, 1, .c (.str 10 280619686123082815971448)), (1, 1, .c (.int .i64 (.ofNat 24) 0)), (2, 1, .c (.int .i64 (.ofNat 10) 0))]) fun v20 =>
 onV (buildV [(.str 0 0), (.int .i64 (.ofNat 0) 0), (.int .i64 (.ofNat 0) 0)] [(0, 1, .c (.str 5 255105266292)), (1, 1, .c (.int .i64 (.ofNat 24) 0)), (2, 1, .c (.int .i64 (.ofNat 8) 0))]) fun v21 =>
 onV (buildV [(.str 0 0), (.int .i64 (.ofNat 0) 0), (.int .i64 (.ofNat 0) 0)] [(0, 1, .c (.str 6 65159493543278)), (1, 1, .c (.int .i64 (.ofNat 23) 0)), (2, 1, .c (.int .i64 (.ofNat 8) 0))]) fun v22 =>
 onA (aBslice 3 20 [(.str 0 0), (.int .i64 (.ofNat 0) 0), (.int .i64 (.ofNat 0) 0)] [(0, .c v3), (1, .c v4), (2, .c v5), (3, .c v6), (4, .c v7), (5, .c v8), (6, .c v9), (7, .c v10), (8, .c v11), (9, .c v12), (10, .c v13), (11, .c v14), (12, .c v15), (13, .c v16), (14, .c v17), (15, .c v18), (16, .c v19), (17, .c v20), (18, .c v21), (19, .c v22)] E0) H n fun v23 H n =>
 onV (cviV .i64 (.int .u64 (.ofNat x0) 0)) fun v24 =>
 onV (iaddrV 3 v23 v24) fun v25 =>
 onV (ldnV 3 v25 G H) fun v26 =>
 onA (aAlloc 3 [[(.str 0 0), (.int .i64 (.ofNat 0) 0), (.int .i64 (.ofNat 0) 0)]] E0) H n fun v27 H n =>
 stV 3 v27 v26 H n fun v28 H n =>
 lp (V × V × Heap × Nat) (fun ih s => t_f3_l59 lp G call k v27 x0 x1 z0 z1 ih s.1 s.2.1 s.2.2.1 s.2.2.2) ((.str 39 341601465201344024587442840349271434025986201493981735635938284993263138666397428737059679331), (.int .i64 (.ofNat 0) 0), H, n))
theorem ti_f3 {lp : LpT} (hL : LpOk lp) {G : Roms} {call callE : CallT} (z0 : Int) (z1 : Int) (x0 : Nat) (x1 : Nat) (ex0 : umod z0 20 = x0) (ex1 : uand z1 7 = x1) (hle : CallLe call callE) (hd : CallDet callE) {H : Heap} {n : Nat} {k : KV} (h : t_f3 lp G call z0 z1 x0 x1 H n k) : exFunL lf G callE [(.int .i64 z0 0), (.int .i64 z1 0)] H n k := by
  delta t_f3 at h
  refine f_intro rfl ?_
  refine c_seq ?_
  refine c_ops ?_
  refine ov_t (a := (.bool false)) (k_mv rfl) ?_
  refine o0 ?_
  refine c_seq ?_
  refine c_seq ?_
  refine c_ops ?_
  refine oe_s hle hd h (k_call xs0) fun v1 H n h => ?_
  refine on_t h (k_not rfl) fun v2 h => ?_
  refine o0 ?_
  refine c_cond h (xr sm) (fun h => ?_) (fun h => ?_)
  · refine c_seq ?_
    refine c_ops ?_
    refine ov_t (a := (.bool false)) (k_mv rfl) ?_
    refine o0 ?_
    refine c_ret ?_
    exact fin_no (rsT sm rs0) h
  · refine c_skip ?_
    refine c_seq ?_
    refine c_ops ?_
    refine on_s h (k_build (psS rfl (psS rfl (psS rfl ps0)))) fun v3 h => ?_
    refine on_s h (k_build (psS rfl (psS rfl (psS rfl ps0)))) fun v4 h => ?_
    refine on_s h (k_build (psS rfl (psS rfl (psS rfl ps0)))) fun v5 h => ?_
    refine on_s h (k_build (psS rfl (psS rfl (psS rfl ps0)))) fun v6 h => ?_
    refine on_s h (k_build (psS rfl (psS rfl (psS rfl ps0)))) fun v7 h => ?_
    refine on_s h (k_build (psS rfl (psS rfl (psS rfl ps0)))) fun v8 h => ?_
    refine on_s h (k_build (psS rfl (psS rfl (psS rfl ps0)))) fun v9 h => ?_
    refine on_s h (k_build (psS rfl (psS rfl (psS rfl ps0)))) fun v10 h => ?_
    refine on_s h (k_build (psS rfl (psS rfl (psS rfl ps0)))) fun v11 h => ?_
    refine on_s h (k_build (psS rfl (psS rfl (psS rfl ps0)))) fun v12 h => ?_
    refine on_s h (k_build (psS rfl (psS rfl (psS rfl ps0)))) fun v13 h => ?_
    refine on_s h (k_build (psS rfl (psS rfl (psS rfl ps0)))) fun v14 h => ?_
    refine on_s h (k_build (psS rfl (psS rfl (psS rfl ps0)))) fun v15 h => ?_
    refine on_s h (k_build (psS rfl (psS rfl (psS rfl ps0)))) fun v16 h => ?_
    refine on_s h (k_build (psS rfl (psS rfl (psS rfl ps0)))) fun v17 h => ?_
    refine on_s h (k_build (psS rfl (psS rfl (psS rfl ps0)))) fun v18 h => ?_
    refine on_s h (k_build (psS rfl (psS rfl (psS rfl ps0)))) fun v19 h => ?_
    refine on_s h (k_build (psS rfl (psS rfl (psS rfl ps0)))) fun v20 h => ?_
    refine on_s h (k_build (psS rfl (psS rfl (psS rfl ps0)))) fun v21 h => ?_
    refine on_s h (k_build (psS rfl (psS rfl (psS rfl ps0)))) fun v22 h => ?_
    refine oa_s h (k_bslice (pbS rfl (pbS rfl (pbS rfl (pbS rfl (pbS rfl (pbS rfl (pbS rfl (pbS rfl (pbS rfl (pbS rfl (pbS rfl (pbS rfl (pbS rfl (pbS rfl (pbS rfl (pbS rfl (pbS rfl (pbS rfl (pbS rfl (pbS rfl pb0))))))))))))))))))))) fun v23 H n h => ?_
    refine ov_t (a := v23) (k_mv rfl) ?_
    refine o0 ?_
    refine c_seq ?_
    refine c_ops ?_
    refine ov_s (a := (.int .u64 (IntKind.wrap .u64 z0) 0)) (km1 (xr (ne rfl (ne rfl (ne rfl rfl))))) ?_
    refine ov_s (a := (.int .u64 (.ofNat x0) 0)) (km2 (by decide) ex0 rfl) ?_
    refine on_s h (k_cvi rfl) fun v24 h => ?_
    refine on_s h (k_iaddr (xr sm) rfl) fun v25 h => ?_
    refine on_s h (k_ldn rfl) fun v26 h => ?_
    refine oa_t h k_alloc fun v27 H n h => ?_
    refine oe_x hle hd h (k_st (xr sm) rfl) fun v28 H n h => ?_
    refine o0 ?_
    refine c_seq ?_
    refine c_ops ?_
    refine ov_t (a := (.str 39 341601465201344024587442840349271434025986201493981735635938284993263138666397428737059679331)) (k_mv rfl) ?_
    refine o0 ?_
    refine c_seqj (fun R H n => ∃ a7_j29, rg R q7 = a7_j29 ∧ rg R q1 = (.int .i64 z1 0) ∧ rg R q6 = v27 ∧ t_f3_j29 lp G call k v27 x0 x1 z0 z1 a7_j29 H n) ?_ fun j29 => ?_
    · rintro R H n ⟨a7_j29, f7, f1, f6, h⟩
      delta t_f3_j29 at h
      refine c_seq ?_
      refine c_ops ?_
      refine on_s h (k_bin (xr f7) rfl) fun v30 h => ?_
      refine on_s h (k_faddr (xr f6)) fun v31 h => ?_
      refine on_s h (k_ld1 rfl) fun v32 h => ?_
      refine on_s h (k_bin rfl rfl) fun v33 h => ?_
      refine on_s h (k_bin rfl rfl) fun v34 h => ?_
      refine oa_s h (k_bslice (pbS rfl pb0)) fun v35 H n h => ?_
      refine oe_s hle hd h (k_call (xsS rfl xs0)) fun v36 H n h => ?_
      refine on_s h (k_ext rfl) fun v37 h => ?_
      refine on_s h (k_ext rfl) fun v38 h => ?_
      refine ov_t (a := v37) (k_mv rfl) ?_
      refine ov_t (a := v38) (k_mv rfl) ?_
      refine o0 ?_
      refine c_seq ?_
      refine c_seq ?_
      refine c_ops ?_
      refine on_t h (k_not (xr sm)) fun v39 h => ?_
      refine o0 ?_
      refine c_cond h (xr sm) (fun h => ?_) (fun h => ?_)
      · refine c_seq ?_
        refine c_ops ?_
        refine ov_t (a := (.bool false)) (k_mv rfl) ?_
        refine o0 ?_
        refine c_ret ?_
        exact fin_no (rsT sm rs0) h
      · refine c_skip ?_
        refine c_seq ?_
        refine c_reg ?_
        refine iv_t (a := v37) (k_mv (xr (ne rfl (ne rfl sm)))) ?_
        refine iv_t (a := v37) (k_mv (xr (ne rfl (ne rfl (ne rfl sm))))) ?_
        refine in_t h (k_iaddr (xr sm) rfl) fun v40 h => ?_
        refine in_t h (k_ldn (xr sm)) fun v41 h => ?_
        refine ia_t h k_alloc fun v42 H n h => ?_
        refine ia_t h k_alloc fun v43 H n h => ?_
        refine ie_t hle hd h (k_call (xsS (xr (ne rfl (ne rfl (ne rfl (ne rfl (ne rfl sm)))))) xs0)) fun v44 H n h => ?_
        refine ire h (ne rfl (ne rfl (ne rfl sm))) (k_ldn (xr (ne rfl (ne rfl (ne rfl (ne rfl sm)))))) fun h => ?_
        refine ie_t hle hd h (k_call (xsS (xr sm) (xsS (xr (ne rfl (ne rfl (ne rfl sm)))) xs0))) fun v45 H n h => ?_
        refine iv_t (a := v45) (k_mv (xr sm)) ?_
        refine in_t h (k_ext (xr sm)) fun v46 h => ?_
        refine in_t h (k_ext (xr (ne rfl sm))) fun v47 h => ?_
        refine ie_x hle hd h (k_st (xr (ne rfl (ne rfl (ne rfl (ne rfl (ne rfl (ne rfl sm))))))) (xr (ne rfl sm))) fun v48 H n h => ?_
        refine ie_x hle hd h (k_st (xr (ne rfl (ne rfl (ne rfl (ne rfl (ne rfl sm)))))) (xr sm)) fun v49 H n h => ?_
        refine i0 ?_
        refine c_seq ?_
        refine c_ops ?_
        refine on_s h (k_ldn (xr (ne rfl (ne rfl (ne rfl (ne rfl (ne rfl sm))))))) fun v50 h => ?_
        refine on_s h (k_faddr (xr (ne rfl (ne rfl (ne rfl (ne rfl (ne rfl (ne rfl (ne rfl (ne rfl (ne rfl (ne rfl (ne rfl (ne rfl (ne rfl (ne rfl f6)))))))))))))))) fun v51 h => ?_
        refine on_s h (k_ld1 rfl) fun v52 h => ?_
        refine ov_s (a := (.int .i64 (.ofNat x1) 0)) (km3 (by decide) ex1 (xr (ne rfl (ne rfl (ne rfl (ne rfl (ne rfl (ne rfl (ne rfl (ne rfl (ne rfl (ne rfl (ne rfl (ne rfl (ne rfl (ne rfl f1)))))))))))))))) ?_
        refine on_s h (k_bin rfl rfl) fun v53 h => ?_
        refine on_s h (k_faddr (xr (ne rfl (ne rfl (ne rfl (ne rfl (ne rfl (ne rfl (ne rfl (ne rfl (ne rfl (ne rfl (ne rfl (ne rfl (ne rfl (ne rfl f6)))))))))))))))) fun v54 h => ?_
        refine on_s h (k_ld1 rfl) fun v55 h => ?_
        refine on_s h (k_build (psS rfl (psS rfl ps0))) fun v56 h => ?_
        refine on_s h (k_build (psS rfl (psS rfl ps0))) fun v57 h => ?_
        refine on_s h (k_eq rfl rfl) fun v58 h => ?_
        refine ov_t (a := v58) (k_mv rfl) ?_
        refine o0 ?_
        refine c_ret ?_
        exact fin_no (rsT sm rs0) h
    · refine c_seq ?_
      refine c_ops ?_
      refine ov_t (a := (.int .i64 (.ofNat 0) 0)) (k_mv rfl) ?_
      refine o0 ?_
      refine c_block ?_
      refine c_loop hL (fun s R H n => rg R q7 = s.1 ∧ rg R q8 = s.2.1 ∧ rg R q1 = (.int .i64 z1 0) ∧ rg R q6 = v27 ∧ H = s.2.2.1 ∧ n = s.2.2.2) h ⟨(ne rfl sm), sm, (ne rfl (ne rfl (ne rfl (ne rfl (ne rfl (ne rfl rfl)))))), (ne rfl (ne rfl sm)), rfl, rfl⟩ ?_
      rintro ih59 I59 hI59 ⟨a7_l59, a8_l59, H, n⟩ R H0 n0 ⟨f7, f8, f1, f6, eH, eN⟩ h
      replace h : t_f3_l59 lp G call k v27 x0 x1 z0 z1 ih59 a7_l59 a8_l59 H n := h
      obtain rfl : H0 = H := eH
      obtain rfl : n0 = n := eN
      delta t_f3_l59 at h
      refine c_seq ?_
      refine c_seq ?_
      refine c_ops ?_
      refine ov_s (a := (.int .i64 (.ofNat x1) 0)) (km3 (by decide) ex1 (xr f1)) ?_
      refine on_t h (k_bin (xr f8) rfl) fun v60 h => ?_
      refine o0 ?_
      refine c_cond h (xr sm) (fun h => ?_) (fun h => ?_)
      · refine c_skip ?_
        refine c_seq ?_
        refine c_block ?_
        refine c_ops ?_
        refine on_s h (k_bin (xr (ne rfl f7)) rfl) fun v61 h => ?_
        refine ov_t (a := v61) (k_mv rfl) ?_
        refine o0 ?_
        refine c_ops ?_
        refine on_s h (k_bin (xr (ne rfl (ne rfl f8))) rfl) fun v62 h => ?_
        refine ov_t (a := v62) (k_mv rfl) ?_
        refine o0 ?_
        exact hI59 (v61, v62, H0, n0) _ _ _ ⟨(ne rfl sm), sm, (ne rfl (ne rfl (ne rfl f1))), (ne rfl (ne rfl (ne rfl f6))), rfl, rfl⟩ h
      · refine c_exit ?_
        refine bx_same ?_
        exact j29 _ _ _ ⟨_, (ne rfl f7), (ne rfl f1), (ne rfl f6), h⟩
end Go.R3.LA

