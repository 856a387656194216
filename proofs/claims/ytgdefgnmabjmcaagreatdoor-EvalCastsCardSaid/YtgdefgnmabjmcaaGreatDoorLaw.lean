/- Part of a proof: texts LH of the engine and what is proved with it; nothing is assumed. -/
import Derived.Test.YtgdefgnmabjmcaaGreatDoorPlainR
import Derived.Test.YtgdefgnmabjmcaaGreatDoorCode
import Derived.Test.YtgdefgnmabjmcaaGreatDoorEngF
set_option linter.unusedVariables false
set_option linter.unusedSimpArgs false
/- The law, with what it reads of its numbers. -/
namespace Go.R3.LH
open Go.Eng Go.R3
set_option maxRecDepth 100000
def r0 : X := .r q0
def r1 : X := .r q1
def r5 : X := .r q5
def r6 : X := .r q6
def r7 : X := .r q7
def r8 : X := .r q8
def r9 : X := .r q9
def r10 : X := .r q10
def r11 : X := .r q11
def r12 : X := .r q12
def r13 : X := .r q13
def r15 : X := .r q15
def r26 : X := .r q26
def r27 : X := .r q27
def r28 : X := .r q28
def r29 : X := .r q29
def r30 : X := .r q30
def r31 : X := .r q31
def r32 : X := .r q32
def r33 : X := .r q33
def r34 : X := .r q34
def r35 : X := .r q35
def r36 : X := .r q36
def r37 : X := .r q37
def r38 : X := .r q38
def r39 : X := .r q39
def r40 : X := .r q40
def r41 : X := .r q41
def r42 : X := .r q42
def r43 : X := .r q43
def r44 : X := .r q44
def r45 : X := .r q45
def r46 : X := .r q46
def r47 : X := .r q47
def r48 : X := .r q48
def r49 : X := .r q49
def r50 : X := .r q50
def r51 : X := .r q51
def r52 : X := .r q52
def r53 : X := .r q53
def r54 : X := .r q54
def r55 : X := .r q55
def r56 : X := .r q56
def r57 : X := .r q57
def r58 : X := .r q58
def r59 : X := .r q59
def r60 : X := .r q60
def r61 : X := .r q61
def r63 : X := .r q63
def r72 : X := .r q72
def r79 : X := .r q79
def lf : AF := .mk 2 (.seq (.ops [.mk (.to q4) .no (.n (.mv (.c (.bool false))))])
 (.seq (.seq (.ops [.mk .ps .no (.e (.call 19 [])),
    .mk (.to q15) .no (.n (.not (.s 0)))])
   (.cond r15 (.seq (.ops [.mk (.to q4) .no (.n (.mv (.c (.bool false))))])
     .ret)
    .skip))
  (.seq (.ops [.mk .ps .no (.n (.bin .and r0 (.c (.int .i64 (.ofNat 3) 0)))),
    .mk (.to q5) .no (.n (.mv (.s 0)))])
   (.seq (.ops [.mk .ps .no (.n (.bin .and r1 (.c (.int .i64 (.ofNat 3) 0)))),
     .mk (.to q6) .no (.n (.mv (.s 0)))])
    (.seq (.ops [.mk .ps .no (.a (.bslice 1 4 [(.str 0 0)] [(0, (.c (.str 1 65))), (1, (.c (.str 1 66))), (2, (.c (.str 1 67))), (3, (.c (.str 1 68)))])),
      .mk (.to q7) .no (.n (.mv (.s 0)))])
     (.seq (.ops [.mk .ps .no (.a (.bslice 1 4 [(.bool false)] [(0, (.c (.bool true))), (1, (.c (.bool false))), (2, (.c (.bool false))), (3, (.c (.bool false)))])),
       .mk .ps .no (.a (.bslice 1 4 [(.bool false)] [(0, (.c (.bool true))), (1, (.c (.bool true))), (2, (.c (.bool false))), (3, (.c (.bool false)))])),
       .mk .ps .no (.a (.bslice 1 4 [(.bool false)] [(0, (.c (.bool true))), (1, (.c (.bool true))), (2, (.c (.bool true))), (3, (.c (.bool false)))])),
       .mk .ps .no (.a (.bslice 1 4 [(.bool false)] [(0, (.c (.bool true))), (1, (.c (.bool false))), (2, (.c (.bool false))), (3, (.c (.bool true)))])),
       .mk .ps .no (.a (.bslice 1 4 [.nils] [(0, (.s 3)), (1, (.s 2)), (2, (.s 1)), (3, (.s 0))])),
       .mk (.to q8) .no (.n (.mv (.s 0)))])
      (.seq (.reg [.op (.mk (.to q27) .no (.n (.mv r7))),
        .op (.mk (.to q28) .no (.n (.mv r5))),
        .op (.mk (.to q29) .no (.n (.iaddr 1 r27 r28))),
        .op (.mk (.to q30) .no (.n (.ld1 r29))),
        .op (.mk (.to q31) .no (.n (.bin .add (.c (.str 49 1279240957154941245233853269387969820486934136445242300446691537666279221626106071495546563655458805840294280310123619)) r30))),
        .op (.mk (.to q32) .no (.n (.bin .add r31 (.c (.str 10 153244678206959034900539))))),
        .op (.mk (.to q33) .no (.n (.mv r7))),
        .op (.mk (.to q34) .no (.n (.mv r6))),
        .op (.mk (.to q35) .no (.n (.iaddr 1 r33 r34))),
        .op (.mk (.to q36) .no (.n (.ld1 r35))),
        .op (.mk (.to q37) .no (.n (.bin .add r32 r36))),
        .op (.mk (.to q38) .no (.n (.bin .add r37 (.c (.str 38 4131468351513920290875996564680139533255745923575545071295508068303278832911426928808852256))))),
        .op (.mk (.to q39) .no (.n (.mv r7))),
        .op (.mk (.to q40) .no (.n (.mv r6))),
        .op (.mk (.to q41) .no (.n (.iaddr 1 r39 r40))),
        .op (.mk (.to q42) .no (.n (.ld1 r41))),
        .op (.mk (.to q43) .no (.n (.bin .add r38 r42))),
        .op (.mk (.to q44) .no (.n (.bin .add r43 (.c (.str 23 3108159640982523825135167709532685317069818853528206112))))),
        .op (.mk (.to q45) .no (.n (.mv r7))),
        .op (.mk (.to q46) .no (.n (.mv r6))),
        .op (.mk (.to q47) .no (.n (.iaddr 1 r45 r46))),
        .op (.mk (.to q48) .no (.n (.ld1 r47))),
        .op (.mk (.to q49) .no (.n (.bin .add r44 r48))),
        .op (.mk (.to q50) .no (.n (.bin .add r49 (.c (.str 20 185260751304639761444129458855409083430126755899))))),
        .op (.mk (.to q51) .no (.n (.mv r7))),
        .op (.mk (.to q52) .no (.n (.mv r6))),
        .op (.mk (.to q53) .no (.n (.iaddr 1 r51 r52))),
        .op (.mk (.to q54) .no (.n (.ld1 r53))),
        .op (.mk (.to q55) .no (.n (.bin .add r50 r54))),
        .op (.mk (.to q56) .no (.n (.bin .add r55 (.c (.str 24 3068102887971971698066167332423668786582015605716053663803))))),
        .op (.mk (.to q57) .no (.a (.bslice 1 5 [(.str 0 0)] [(0, (.c (.str 11 151269114452976104688938083))), (1, (.c (.str 21 182873138172443285020062672248839359210811176348771))), (2, (.c (.str 21 182873138172783567386983610712302734099717921270883))), (3, (.c (.str 21 182873138172443285020062672248839359773761129770083))), (4, r56)]))),
        .op (.mk (.to q58) .no (.e (.call 20 [r57]))),
        .op (.mk (.to q26) .no (.n (.mv r58))),
        .op (.mk (.to q59) .no (.n (.ext r26 0))),
        .op (.mk (.to q60) .no (.n (.ext r26 1))),
        .op (.mk (.to q61) .no (.n (.ext r26 2))),
        .op (.mk (.to q9) .no (.n (.mv r59))),
        .op (.mk (.to q10) .no (.n (.mv r60))),
        .op (.mk (.to q11) .no (.n (.mv r61)))])
       (.seq (.seq (.ops [.mk (.to q63) .no (.n (.not r11))])
         (.cond r63 (.seq (.ops [.mk (.to q4) .no (.n (.mv (.c (.bool false))))])
           .ret)
          .skip))
        (.seq (.ops [.mk .ps .no (.n (.build [(.int .i64 (.ofNat 0) 0), (.int .i64 (.ofNat 0) 0), (.int .i64 (.ofNat 0) 0)] [(0, 1, (.c (.int .i64 (.ofNat 100) 0))), (1, 1, (.c (.int .i64 (.ofNat 5) 0))), (2, 1, (.c (.int .i64 (.ofNat 1) 0)))])),
          .mk .ps .no (.e (.call 21 [r10, r9, (.c (.str 1 77)), (.c (.str 2 28519)), (.c .nils), (.s 0)])),
          .mk .ps .no (.n (.ext (.s 0) 0)),
          .mk .ps .no (.n (.ext (.s 1) 1)),
          .mk (.to q12) .no (.a (.alloc 3 [[(.int .i64 (.ofNat 0) 0), (.int .i64 (.ofNat 0) 0), .nils]])),
          .mk .no .no (.e (.st 3 r12 (.s 1))),
          .mk (.to q13) .no (.n (.mv (.s 0)))])
         (.seq (.seq (.ops [.mk (.to q72) .no (.n (.eq (.one .int) true r13 (.c (.int .i64 (.ofNat 0) 0))))])
           (.cond r72 (.seq (.ops [.mk (.to q4) .no (.n (.mv (.c (.bool false))))])
             .ret)
            .skip))
          (.seq (.seq (.ops [.mk .ps .no (.n (.iaddr 1 r8 r5)),
             .mk .ps .no (.n (.ld1 (.s 0))),
             .mk .ps .no (.n (.iaddr 1 (.s 0) r6)),
             .mk (.to q79) .no (.n (.ld1 (.s 0)))])
            (.cond r79 (.seq (.ops [.mk .ps .no (.n (.faddr 0 r12)),
               .mk .ps .no (.n (.ld1 (.s 0))),
               .mk .ps .no (.n (.eq (.one .int) false (.s 0) (.c (.int .i64 (.ofNat 0) 0)))),
               .mk .ps (.on (.s 0) true) (.n (.faddr 1 r12)),
               .mk .ps (.on (.s 1) true) (.n (.ld1 (.s 0))),
               .mk .ps (.on (.s 2) true) (.n (.eq (.one .int) false (.s 0) (.c (.int .i64 (.ofNat 5) 0)))),
               .mk .ps .no (.n (.pick (.s 3) (.s 0) (.c (.bool false)))),
               .mk .ps (.on (.s 0) true) (.n (.faddr 2 r12)),
               .mk .ps (.on (.s 1) true) (.n (.ld1 (.s 0))),
               .mk .ps (.on (.s 2) true) (.n (.lenL (.s 0))),
               .mk .ps (.on (.s 3) true) (.n (.eq (.one .int) false (.s 0) (.c (.int .i64 (.ofNat 3) 0)))),
               .mk .ps .no (.n (.pick (.s 4) (.s 0) (.c (.bool false)))),
               .mk .ps (.on (.s 0) true) (.n (.faddr 2 r12)),
               .mk .ps (.on (.s 1) true) (.n (.ld1 (.s 0))),
               .mk .ps (.on (.s 2) true) (.n (.iaddr 1 (.s 0) (.c (.int .i64 (.ofNat 0) 0)))),
               .mk .ps (.on (.s 3) true) (.n (.ld1 (.s 0))),
               .mk .ps (.on (.s 4) true) (.n (.eq (.one .int) false (.s 0) (.c (.int .i64 (.ofNat 1) 0)))),
               .mk .ps .no (.n (.pick (.s 5) (.s 0) (.c (.bool false)))),
               .mk .ps (.on (.s 0) true) (.n (.faddr 2 r12)),
               .mk .ps (.on (.s 1) true) (.n (.ld1 (.s 0))),
               .mk .ps (.on (.s 2) true) (.n (.iaddr 1 (.s 0) (.c (.int .i64 (.ofNat 1) 0)))),
               .mk .ps (.on (.s 3) true) (.n (.ld1 (.s 0))),
               .mk .ps (.on (.s 4) true) (.n (.eq (.one .int) false (.s 0) (.c (.int .i64 (.ofNat 3) 0)))),
               .mk .ps .no (.n (.pick (.s 5) (.s 0) (.c (.bool false)))),
               .mk .ps (.on (.s 0) true) (.n (.faddr 2 r12)),
               .mk .ps (.on (.s 1) true) (.n (.ld1 (.s 0))),
               .mk .ps (.on (.s 2) true) (.n (.iaddr 1 (.s 0) (.c (.int .i64 (.ofNat 2) 0)))),
               .mk .ps (.on (.s 3) true) (.n (.ld1 (.s 0))),
               .mk .ps (.on (.s 4) true) (.n (.eq (.one .int) false (.s 0) (.c (.int .i64 (.ofNat 4) 0)))),
               .mk .ps .no (.n (.pick (.s 5) (.s 0) (.c (.bool false)))),
               .mk (.to q4) .no (.n (.mv (.s 0)))])
              .ret)
             .skip))
           (.seq (.ops [.mk .ps .no (.n (.faddr 0 r12)),
             .mk .ps .no (.n (.ld1 (.s 0))),
             .mk .ps .no (.n (.eq (.one .int) false (.s 0) (.c (.int .i64 (.ofNat 4) 0)))),
             .mk .ps (.on (.s 0) true) (.n (.faddr 1 r12)),
             .mk .ps (.on (.s 1) true) (.n (.ld1 (.s 0))),
             .mk .ps (.on (.s 2) true) (.n (.eq (.one .int) false (.s 0) (.c (.int .i64 (.ofNat 0) 0)))),
             .mk .ps .no (.n (.pick (.s 3) (.s 0) (.c (.bool false)))),
             .mk .ps (.on (.s 0) true) (.n (.faddr 2 r12)),
             .mk .ps (.on (.s 1) true) (.n (.ld1 (.s 0))),
             .mk .ps (.on (.s 2) true) (.n (.lenL (.s 0))),
             .mk .ps (.on (.s 3) true) (.n (.eq (.one .int) false (.s 0) (.c (.int .i64 (.ofNat 1) 0)))),
             .mk .ps .no (.n (.pick (.s 4) (.s 0) (.c (.bool false)))),
             .mk .ps (.on (.s 0) true) (.n (.faddr 2 r12)),
             .mk .ps (.on (.s 1) true) (.n (.ld1 (.s 0))),
             .mk .ps (.on (.s 2) true) (.n (.iaddr 1 (.s 0) (.c (.int .i64 (.ofNat 0) 0)))),
             .mk .ps (.on (.s 3) true) (.n (.ld1 (.s 0))),
             .mk .ps (.on (.s 4) true) (.n (.eq (.one .int) false (.s 0) (.c (.int .i64 (.ofNat 3) 0)))),
             .mk .ps .no (.n (.pick (.s 5) (.s 0) (.c (.bool false)))),
             .mk (.to q4) .no (.n (.mv (.s 0)))])
            .ret))))))))))))
 [.tmp q4] .no 0
theorem at_law : T.get F 14 = some lf := by kernel_rfl
noncomputable def t_f14 (lp : LpT) (G : Roms) (call : CallT) (z0 : Int) (z1 : Int) (x0 : Nat) (x1 : Nat) (H : Heap) (n : Nat) (k : KV) : Prop :=
 call 19 [] H n fun v1 H n =>
 onV (notV v1) fun v2 =>
 onTst v2 true (k (.bool false) H n) (onA (aBslice 1 4 [(.str 0 0)] [(0, .c (.str 1 65)), (1, .c (.str 1 66)), (2, .c (.str 1 67)), (3, .c (.str 1 68))] E0) H n fun v3 H n =>
 onA (aBslice 1 4 [(.bool false)] [(0, .c (.bool true)), (1, .c (.bool false)), (2, .c (.bool false)), (3, .c (.bool false))] E0) H n fun v4 H n =>
 onA (aBslice 1 4 [(.bool false)] [(0, .c (.bool true)), (1, .c (.bool true)), (2, .c (.bool false)), (3, .c (.bool false))] E0) H n fun v5 H n =>
 onA (aBslice 1 4 [(.bool false)] [(0, .c (.bool true)), (1, .c (.bool true)), (2, .c (.bool true)), (3, .c (.bool false))] E0) H n fun v6 H n =>
 onA (aBslice 1 4 [(.bool false)] [(0, .c (.bool true)), (1, .c (.bool false)), (2, .c (.bool false)), (3, .c (.bool true))] E0) H n fun v7 H n =>
 onA (aBslice 1 4 [.nils] [(0, .c v4), (1, .c v5), (2, .c v6), (3, .c v7)] E0) H n fun v8 H n =>
 onV (iaddrV 1 v3 (.int .i64 (.ofNat x0) 0)) fun v9 =>
 onV (ld1V v9 G H) fun v10 =>
 onV (B2.ev .add (.str 49 1279240957154941245233853269387969820486934136445242300446691537666279221626106071495546563655458805840294280310123619) v10) fun v11 =>
 onV (B2.ev .add v11 (.str 10 153244678206959034900539)) fun v12 =>
 onV (iaddrV 1 v3 (.int .i64 (.ofNat x1) 0)) fun v13 =>
 onV (ld1V v13 G H) fun v14 =>
 onV (B2.ev .add v12 v14) fun v15 =>
 onV (B2.ev .add v15 (.str 38 4131468351513920290875996564680139533255745923575545071295508068303278832911426928808852256)) fun v16 =>
 onV (iaddrV 1 v3 (.int .i64 (.ofNat x1) 0)) fun v17 =>
 onV (ld1V v17 G H) fun v18 =>
 onV (B2.ev .add v16 v18) fun v19 =>
 onV (B2.ev .add v19 (.str 23 3108159640982523825135167709532685317069818853528206112)) fun v20 =>
 onV (iaddrV 1 v3 (.int .i64 (.ofNat x1) 0)) fun v21 =>
 onV (ld1V v21 G H) fun v22 =>
 onV (B2.ev .add v20 v22) fun v23 =>
 onV (B2.ev .add v23 (.str 20 185260751304639761444129458855409083430126755899)) fun v24 =>
 onV (iaddrV 1 v3 (.int .i64 (.ofNat x1) 0)) fun v25 =>
 onV (ld1V v25 G H) fun v26 =>
 onV (B2.ev .add v24 v26) fun v27 =>
 onV (B2.ev .add v27 (.str 24 3068102887971971698066167332423668786582015605716053663803)) fun v28 =>
 onA (aBslice 1 5 [(.str 0 0)] [(0, .c (.str 11 151269114452976104688938083)), (1, .c (.str 21 182873138172443285020062672248839359210811176348771)), (2, .c (.str 21 182873138172783567386983610712302734099717921270883)), (3, .c (.str 21 182873138172443285020062672248839359773761129770083)), (4, .c v28)] E0) H n fun v29 H n =>
 call 20 [v29] H n fun v30 H n =>
 onV (extV v30 0) fun v31 =>
 onV (extV v30 1) fun v32 =>
 onV (extV v30 2) fun v33 =>
 onV (notV v33) fun v34 =>
 onTst v34 true (k (.bool false) H n) (onV (buildV [(.int .i64 (.ofNat 0) 0), (.int .i64 (.ofNat 0) 0), (.int .i64 (.ofNat 0) 0)] [(0, 1, .c (.int .i64 (.ofNat 100) 0)), (1, 1, .c (.int .i64 (.ofNat 5) 0)), (2, 1, .c (.int .i64 (.ofNat 1) 0))]) fun v35 =>
 call 21 [v32, v31, (.str 1 77), (.str 2 28519), .nils, v35] H n fun v36 H n =>
 onV (extV v36 0) fun v37 =>
 onV (extV v36 1) fun v38 =>
 onA (aAlloc 3 [[(.int .i64 (.ofNat 0) 0), (.int .i64 (.ofNat 0) 0), .nils]] E0) H n fun v39 H n =>
 stV 3 v39 v37 H n fun v40 H n =>
 onV (eqV (.one .int) true v38 (.int .i64 (.ofNat 0) 0)) fun v41 =>
 onTst v41 true (k (.bool false) H n) (onV (iaddrV 1 v8 (.int .i64 (.ofNat x0) 0)) fun v42 =>
 onV (ld1V v42 G H) fun v43 =>
 onV (iaddrV 1 v43 (.int .i64 (.ofNat x1) 0)) fun v44 =>
 onV (ld1V v44 G H) fun v45 =>
 onTst v45 true (onV (paddV 0 v39) fun v46 =>
 onV (ld1V v46 G H) fun v47 =>
 onV (eqV (.one .int) false v47 (.int .i64 (.ofNat 0) 0)) fun v48 =>
 onG v48 true (paddV 1 v39) fun v49 =>
 onG v48 true (ld1V v49 G H) fun v50 =>
 onG v48 true (eqV (.one .int) false v50 (.int .i64 (.ofNat 5) 0)) fun v51 =>
 onV (pickV v48 v51 (.bool false)) fun v52 =>
 onG v52 true (paddV 2 v39) fun v53 =>
 onG v52 true (ld1V v53 G H) fun v54 =>
 onG v52 true (lenV v54) fun v55 =>
 onG v52 true (eqV (.one .int) false v55 (.int .i64 (.ofNat 3) 0)) fun v56 =>
 onV (pickV v52 v56 (.bool false)) fun v57 =>
 onG v57 true (paddV 2 v39) fun v58 =>
 onG v57 true (ld1V v58 G H) fun v59 =>
 onG v57 true (iaddrV 1 v59 (.int .i64 (.ofNat 0) 0)) fun v60 =>
 onG v57 true (ld1V v60 G H) fun v61 =>
 onG v57 true (eqV (.one .int) false v61 (.int .i64 (.ofNat 1) 0)) fun v62 =>
 onV (pickV v57 v62 (.bool false)) fun v63 =>
 onG v63 true (paddV 2 v39) fun v64 =>
 onG v63 true (ld1V v64 G H) fun v65 =>
 onG v63 true (iaddrV 1 v65 (.int .i64 (.ofNat 1) 0)) fun v66 =>
 onG v63 true (ld1V v66 G H) fun v67 =>
 onG v63 true (eqV (.one .int) false v67 (.int .i64 (.ofNat 3) 0)) fun v68 =>
 onV (pickV v63 v68 (.bool false)) fun v69 =>
 onG v69 true (paddV 2 v39) fun v70 =>
 onG v69 true (ld1V v70 G H) fun v71 =>
 onG v69 true (iaddrV 1 v71 (.int .i64 (.ofNat 2) 0)) fun v72 =>
 onG v69 true (ld1V v72 G H) fun v73 =>
 onG v69 true (eqV (.one .int) false v73 (.int .i64 (.ofNat 4) 0)) fun v74 =>
 onV (pickV v69 v74 (.bool false)) fun v75 =>
 k v75 H n) (onV (paddV 0 v39) fun v76 =>
 onV (ld1V v76 G H) fun v77 =>
 onV (eqV (.one .int) false v77 (.int .i64 (.ofNat 4) 0)) fun v78 =>
 onG v78 true (paddV 1 v39) fun v79 =>
 onG v78 true (ld1V v79 G H) fun v80 =>
 onG v78 true (eqV (.one .int) false v80 (.int .i64 (.ofNat 0) 0)) fun v81 =>
 onV (pickV v78 v81 (.bool false)) fun v82 =>
 onG v82 true (paddV 2 v39) fun v83 =>
 onG v82 true (ld1V v83 G H) fun v84 =>
 onG v82 true (lenV v84) fun v85 =>
 onG v82 true (eqV (.one .int) false v85 (.int .i64 (.ofNat 1) 0)) fun v86 =>
 onV (pickV v82 v86 (.bool false)) fun v87 =>
 onG v87 true (paddV 2 v39) fun v88 =>
 onG v87 true (ld1V v88 G H) fun v89 =>
 onG v87 true (iaddrV 1 v89 (.int .i64 (.ofNat 0) 0)) fun v90 =>
 onG v87 true (ld1V v90 G H) fun v91 =>
 onG v87 true (eqV (.one .int) false v91 (.int .i64 (.ofNat 3) 0)) fun v92 =>
 onV (pickV v87 v92 (.bool false)) fun v93 =>
 k v93 H n))))
theorem ti_f14 {lp : LpT} (hL : LpOk lp) {G : Roms} {call callE : CallT} (z0 : Int) (z1 : Int) (x0 : Nat) (x1 : Nat) (ex0 : uand z0 3 = x0) (ex1 : uand z1 3 = x1) (hle : CallLe call callE) (hd : CallDet callE) {H : Heap} {n : Nat} {k : KV} (h : t_f14 lp G call z0 z1 x0 x1 H n k) : exFunL lf G callE [(.int .i64 z0 0), (.int .i64 z1 0)] H n k := by
  delta t_f14 at h
  refine f_intro rfl ?_
  refine c_seq ?_
  refine c_ops ?_
  refine ov_t (a := (.bool false)) (k_mv rfl) ?_
  refine o0 ?_
  refine c_seq ?_
  refine c_seq ?_
  refine c_ops ?_
  refine oe_s hle hd h (k_call xs0) fun v1 H n h => ?_
  refine on_t h (k_not rfl) fun v2 h => ?_
  refine o0 ?_
  refine c_cond h (xr sm) (fun h => ?_) (fun h => ?_)
  · refine c_seq ?_
    refine c_ops ?_
    refine ov_t (a := (.bool false)) (k_mv rfl) ?_
    refine o0 ?_
    refine c_ret ?_
    exact fin_no (rsT sm rs0) h
  · refine c_skip ?_
    refine c_seq ?_
    refine c_ops ?_
    refine ov_s (a := (.int .i64 (.ofNat x0) 0)) (km3 (by decide) ex0 (xr (ne rfl (ne rfl rfl)))) ?_
    refine ov_t (a := (.int .i64 (.ofNat x0) 0)) (k_mv rfl) ?_
    refine o0 ?_
    refine c_seq ?_
    refine c_ops ?_
    refine ov_s (a := (.int .i64 (.ofNat x1) 0)) (km3 (by decide) ex1 (xr (ne rfl (ne rfl (ne rfl rfl))))) ?_
    refine ov_t (a := (.int .i64 (.ofNat x1) 0)) (k_mv rfl) ?_
    refine o0 ?_
    refine c_seq ?_
    refine c_ops ?_
    refine oa_s h (k_bslice (pbS rfl (pbS rfl (pbS rfl (pbS rfl pb0))))) fun v3 H n h => ?_
    refine ov_t (a := v3) (k_mv rfl) ?_
    refine o0 ?_
    refine c_seq ?_
    refine c_ops ?_
    refine oa_s h (k_bslice (pbS rfl (pbS rfl (pbS rfl (pbS rfl pb0))))) fun v4 H n h => ?_
    refine oa_s h (k_bslice (pbS rfl (pbS rfl (pbS rfl (pbS rfl pb0))))) fun v5 H n h => ?_
    refine oa_s h (k_bslice (pbS rfl (pbS rfl (pbS rfl (pbS rfl pb0))))) fun v6 H n h => ?_
    refine oa_s h (k_bslice (pbS rfl (pbS rfl (pbS rfl (pbS rfl pb0))))) fun v7 H n h => ?_
    refine oa_s h (k_bslice (pbS rfl (pbS rfl (pbS rfl (pbS rfl pb0))))) fun v8 H n h => ?_
    refine ov_t (a := v8) (k_mv rfl) ?_
    refine o0 ?_
    refine c_seq ?_
    refine c_reg ?_
    refine iv_t (a := v3) (k_mv (xr (ne rfl sm))) ?_
    refine iv_t (a := (.int .i64 (.ofNat x0) 0)) (k_mv (xr (ne rfl (ne rfl (ne rfl (ne rfl sm)))))) ?_
    refine in_t h (k_iaddr (xr (ne rfl sm)) (xr sm)) fun v9 h => ?_
    refine in_t h (k_ld1 (xr sm)) fun v10 h => ?_
    refine in_t h (k_bin rfl (xr sm)) fun v11 h => ?_
    refine in_t h (k_bin (xr sm) rfl) fun v12 h => ?_
    refine iv_t (a := v3) (k_mv (xr (ne rfl (ne rfl (ne rfl (ne rfl (ne rfl (ne rfl (ne rfl sm))))))))) ?_
    refine iv_t (a := (.int .i64 (.ofNat x1) 0)) (k_mv (xr (ne rfl (ne rfl (ne rfl (ne rfl (ne rfl (ne rfl (ne rfl (ne rfl (ne rfl sm))))))))))) ?_
    refine in_t h (k_iaddr (xr (ne rfl sm)) (xr sm)) fun v13 h => ?_
    refine in_t h (k_ld1 (xr sm)) fun v14 h => ?_
    refine in_t h (k_bin (xr (ne rfl (ne rfl (ne rfl (ne rfl sm))))) (xr sm)) fun v15 h => ?_
    refine in_t h (k_bin (xr sm) rfl) fun v16 h => ?_
    refine iv_t (a := v3) (k_mv (xr (ne rfl (ne rfl (ne rfl (ne rfl (ne rfl (ne rfl (ne rfl (ne rfl (ne rfl (ne rfl (ne rfl (ne rfl (ne rfl sm))))))))))))))) ?_
    refine iv_t (a := (.int .i64 (.ofNat x1) 0)) (k_mv (xr (ne rfl (ne rfl (ne rfl (ne rfl (ne rfl (ne rfl (ne rfl (ne rfl (ne rfl (ne rfl (ne rfl (ne rfl (ne rfl (ne rfl (ne rfl sm))))))))))))))))) ?_
    refine in_t h (k_iaddr (xr (ne rfl sm)) (xr sm)) fun v17 h => ?_
    refine in_t h (k_ld1 (xr sm)) fun v18 h => ?_
    refine in_t h (k_bin (xr (ne rfl (ne rfl (ne rfl (ne rfl sm))))) (xr sm)) fun v19 h => ?_
    refine in_t h (k_bin (xr sm) rfl) fun v20 h => ?_
    refine iv_t (a := v3) (k_mv (xr (ne rfl (ne rfl (ne rfl (ne rfl (ne rfl (ne rfl (ne rfl (ne rfl (ne rfl (ne rfl (ne rfl (ne rfl (ne rfl (ne rfl (ne rfl (ne rfl (ne rfl (ne rfl (ne rfl sm))))))))))))))))))))) ?_
    refine iv_t (a := (.int .i64 (.ofNat x1) 0)) (k_mv (xr (ne rfl (ne rfl (ne rfl (ne rfl (ne rfl (ne rfl (ne rfl (ne rfl (ne rfl (ne rfl (ne rfl (ne rfl (ne rfl (ne rfl (ne rfl (ne rfl (ne rfl (ne rfl (ne rfl (ne rfl (ne rfl sm))))))))))))))))))))))) ?_
    refine in_t h (k_iaddr (xr (ne rfl sm)) (xr sm)) fun v21 h => ?_
    refine in_t h (k_ld1 (xr sm)) fun v22 h => ?_
    refine in_t h (k_bin (xr (ne rfl (ne rfl (ne rfl (ne rfl sm))))) (xr sm)) fun v23 h => ?_
    refine in_t h (k_bin (xr sm) rfl) fun v24 h => ?_
    refine iv_t (a := v3) (k_mv (xr (ne rfl (ne rfl (ne rfl (ne rfl (ne rfl (ne rfl (ne rfl (ne rfl (ne rfl (ne rfl (ne rfl (ne rfl (ne rfl (ne rfl (ne rfl (ne rfl (ne rfl (ne rfl (ne rfl (ne rfl (ne rfl (ne rfl (ne rfl (ne rfl (ne rfl sm))))))))))))))))))))))))))) ?_
    refine iv_t (a := (.int .i64 (.ofNat x1) 0)) (k_mv (xr (ne rfl (ne rfl (ne rfl (ne rfl (ne rfl (ne rfl (ne rfl (ne rfl (ne rfl (ne rfl (ne rfl (ne rfl (ne rfl (ne rfl (ne rfl (ne rfl (ne rfl (ne rfl (ne rfl (ne rfl (ne rfl (ne rfl (ne rfl (ne rfl (ne rfl (ne rfl (ne rfl sm))))))))))))))))))))))))))))) ?_
    refine in_t h (k_iaddr (xr (ne rfl sm)) (xr sm)) fun v25 h => ?_
    refine in_t h (k_ld1 (xr sm)) fun v26 h => ?_
    refine in_t h (k_bin (xr (ne rfl (ne rfl (ne rfl (ne rfl sm))))) (xr sm)) fun v27 h => ?_
    refine in_t h (k_bin (xr sm) rfl) fun v28 h => ?_
    refine ia_t h (k_bslice (pbS rfl (pbS rfl (pbS rfl (pbS rfl (pbS (xr sm) pb0)))))) fun v29 H n h => ?_
    refine ie_t hle hd h (k_call (xsS (xr sm) xs0)) fun v30 H n h => ?_
    refine iv_t (a := v30) (k_mv (xr sm)) ?_
    refine in_t h (k_ext (xr sm)) fun v31 h => ?_
    refine in_t h (k_ext (xr (ne rfl sm))) fun v32 h => ?_
    refine in_t h (k_ext (xr (ne rfl (ne rfl sm)))) fun v33 h => ?_
    refine iv_t (a := v31) (k_mv (xr (ne rfl (ne rfl sm)))) ?_
    refine iv_t (a := v32) (k_mv (xr (ne rfl (ne rfl sm)))) ?_
    refine iv_t (a := v33) (k_mv (xr (ne rfl (ne rfl sm)))) ?_
    refine i0 ?_
    refine c_seq ?_
    refine c_seq ?_
    refine c_ops ?_
    refine on_t h (k_not (xr sm)) fun v34 h => ?_
    refine o0 ?_
    refine c_cond h (xr sm) (fun h => ?_) (fun h => ?_)
    · refine c_seq ?_
      refine c_ops ?_
      refine ov_t (a := (.bool false)) (k_mv rfl) ?_
      refine o0 ?_
      refine c_ret ?_
      exact fin_no (rsT sm rs0) h
    · refine c_skip ?_
      refine c_seq ?_
      refine c_ops ?_
      refine on_s h (k_build (psS rfl (psS rfl (psS rfl ps0)))) fun v35 h => ?_
      refine oe_s hle hd h (k_call (xsS (xr (ne rfl (ne rfl sm))) (xsS (xr (ne rfl (ne rfl (ne rfl sm)))) (xsS rfl (xsS rfl (xsS rfl (xsS rfl xs0))))))) fun v36 H n h => ?_
      refine on_s h (k_ext rfl) fun v37 h => ?_
      refine on_s h (k_ext rfl) fun v38 h => ?_
      refine oa_t h k_alloc fun v39 H n h => ?_
      refine oe_x hle hd h (k_st (xr sm) rfl) fun v40 H n h => ?_
      refine ov_t (a := v38) (k_mv rfl) ?_
      refine o0 ?_
      refine c_seq ?_
      refine c_seq ?_
      refine c_ops ?_
      refine on_t h (k_eq (xr sm) rfl) fun v41 h => ?_
      refine o0 ?_
      refine c_cond h (xr sm) (fun h => ?_) (fun h => ?_)
      · refine c_seq ?_
        refine c_ops ?_
        refine ov_t (a := (.bool false)) (k_mv rfl) ?_
        refine o0 ?_
        refine c_ret ?_
        exact fin_no (rsT sm rs0) h
      · refine c_skip ?_
        refine c_seq ?_
        refine c_seq ?_
        refine c_ops ?_
        refine on_s h (k_iaddr (xr (ne rfl (ne rfl (ne rfl (ne rfl (ne rfl (ne rfl (ne rfl (ne rfl (ne rfl (ne rfl (ne rfl (ne rfl (ne rfl (ne rfl (ne rfl (ne rfl (ne rfl (ne rfl (ne rfl (ne rfl (ne rfl (ne rfl (ne rfl (ne rfl (ne rfl (ne rfl (ne rfl (ne rfl (ne rfl (ne rfl (ne rfl (ne rfl (ne rfl (ne rfl (ne rfl (ne rfl (ne rfl (ne rfl (ne rfl (ne rfl (ne rfl (ne rfl (ne rfl sm)))))))))))))))))))))))))))))))))))))))))))) (xr (ne rfl (ne rfl (ne rfl (ne rfl (ne rfl (ne rfl (ne rfl (ne rfl (ne rfl (ne rfl (ne rfl (ne rfl (ne rfl (ne rfl (ne rfl (ne rfl (ne rfl (ne rfl (ne rfl (ne rfl (ne rfl (ne rfl (ne rfl (ne rfl (ne rfl (ne rfl (ne rfl (ne rfl (ne rfl (ne rfl (ne rfl (ne rfl (ne rfl (ne rfl (ne rfl (ne rfl (ne rfl (ne rfl (ne rfl (ne rfl (ne rfl (ne rfl (ne rfl (ne rfl (ne rfl (ne rfl sm)))))))))))))))))))))))))))))))))))))))))))))))) fun v42 h => ?_
        refine on_s h (k_ld1 rfl) fun v43 h => ?_
        refine on_s h (k_iaddr rfl (xr (ne rfl (ne rfl (ne rfl (ne rfl (ne rfl (ne rfl (ne rfl (ne rfl (ne rfl (ne rfl (ne rfl (ne rfl (ne rfl (ne rfl (ne rfl (ne rfl (ne rfl (ne rfl (ne rfl (ne rfl (ne rfl (ne rfl (ne rfl (ne rfl (ne rfl (ne rfl (ne rfl (ne rfl (ne rfl (ne rfl (ne rfl (ne rfl (ne rfl (ne rfl (ne rfl (ne rfl (ne rfl (ne rfl (ne rfl (ne rfl (ne rfl (ne rfl (ne rfl (ne rfl (ne rfl sm))))))))))))))))))))))))))))))))))))))))))))))) fun v44 h => ?_
        refine on_t h (k_ld1 rfl) fun v45 h => ?_
        refine o0 ?_
        refine c_cond h (xr sm) (fun h => ?_) (fun h => ?_)
        · refine c_seq ?_
          refine c_ops ?_
          refine on_s h (k_faddr (xr (ne rfl (ne rfl (ne rfl sm))))) fun v46 h => ?_
          refine on_s h (k_ld1 rfl) fun v47 h => ?_
          refine on_s h (k_eq rfl rfl) fun v48 h => ?_
          refine ogn_s h rfl (k_faddr (xr (ne rfl (ne rfl (ne rfl sm))))) fun v49 h => ?_
          refine ogn_s h rfl (k_ld1 rfl) fun v50 h => ?_
          refine ogn_s h rfl (k_eq rfl rfl) fun v51 h => ?_
          refine on_s h (k_pick rfl rfl rfl) fun v52 h => ?_
          refine ogn_s h rfl (k_faddr (xr (ne rfl (ne rfl (ne rfl sm))))) fun v53 h => ?_
          refine ogn_s h rfl (k_ld1 rfl) fun v54 h => ?_
          refine ogn_s h rfl (k_lenL rfl) fun v55 h => ?_
          refine ogn_s h rfl (k_eq rfl rfl) fun v56 h => ?_
          refine on_s h (k_pick rfl rfl rfl) fun v57 h => ?_
          refine ogn_s h rfl (k_faddr (xr (ne rfl (ne rfl (ne rfl sm))))) fun v58 h => ?_
          refine ogn_s h rfl (k_ld1 rfl) fun v59 h => ?_
          refine ogn_s h rfl (k_iaddr rfl rfl) fun v60 h => ?_
          refine ogn_s h rfl (k_ld1 rfl) fun v61 h => ?_
          refine ogn_s h rfl (k_eq rfl rfl) fun v62 h => ?_
          refine on_s h (k_pick rfl rfl rfl) fun v63 h => ?_
          refine ogn_s h rfl (k_faddr (xr (ne rfl (ne rfl (ne rfl sm))))) fun v64 h => ?_
          refine ogn_s h rfl (k_ld1 rfl) fun v65 h => ?_
          refine ogn_s h rfl (k_iaddr rfl rfl) fun v66 h => ?_
          refine ogn_s h rfl (k_ld1 rfl) fun v67 h => ?_
          refine ogn_s h rfl (k_eq rfl rfl) fun v68 h => ?_
          refine on_s h (k_pick rfl rfl rfl) fun v69 h => ?_
          refine ogn_s h rfl (k_faddr (xr (ne rfl (ne rfl (ne rfl sm))))) fun v70 h => ?_
          refine ogn_s h rfl (k_ld1 rfl) fun v71 h => ?_
          refine ogn_s h rfl (k_iaddr rfl rfl) fun v72 h => ?_
          refine ogn_s h rfl (k_ld1 rfl) fun v73 h => ?_
          refine ogn_s h rfl (k_eq rfl rfl) fun v74 h => ?_
          refine on_s h (k_pick rfl rfl rfl) fun v75 h => ?_
          refine ov_t (a := v75) (k_mv rfl) ?_
          refine o0 ?_
          refine c_ret ?_
          exact fin_no (rsT sm rs0) h
        · refine c_skip ?_
          refine c_seq ?_
          refine c_ops ?_
          refine on_s h (k_faddr (xr (ne rfl (ne rfl (ne rfl sm))))) fun v76 h => ?_
          refine on_s h (k_ld1 rfl) fun v77 h => ?_
          refine on_s h (k_eq rfl rfl) fun v78 h => ?_
          refine ogn_s h rfl (k_faddr (xr (ne rfl (ne rfl (ne rfl sm))))) fun v79 h => ?_
          refine ogn_s h rfl (k_ld1 rfl) fun v80 h => ?_
          refine ogn_s h rfl (k_eq rfl rfl) fun v81 h => ?_
          refine on_s h (k_pick rfl rfl rfl) fun v82 h => ?_
          refine ogn_s h rfl (k_faddr (xr (ne rfl (ne rfl (ne rfl sm))))) fun v83 h => ?_
          refine ogn_s h rfl (k_ld1 rfl) fun v84 h => ?_
          refine ogn_s h rfl (k_lenL rfl) fun v85 h => ?_
          refine ogn_s h rfl (k_eq rfl rfl) fun v86 h => ?_
          refine on_s h (k_pick rfl rfl rfl) fun v87 h => ?_
          refine ogn_s h rfl (k_faddr (xr (ne rfl (ne rfl (ne rfl sm))))) fun v88 h => ?_
          refine ogn_s h rfl (k_ld1 rfl) fun v89 h => ?_
          refine ogn_s h rfl (k_iaddr rfl rfl) fun v90 h => ?_
          refine ogn_s h rfl (k_ld1 rfl) fun v91 h => ?_
          refine ogn_s h rfl (k_eq rfl rfl) fun v92 h => ?_
          refine on_s h (k_pick rfl rfl rfl) fun v93 h => ?_
          refine ov_t (a := v93) (k_mv rfl) ?_
          refine o0 ?_
          refine c_ret ?_
          exact fin_no (rsT sm rs0) h
end Go.R3.LH

