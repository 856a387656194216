/- Part of a proof: texts LD of the engine and what is proved with it; nothing is assumed. -/
import Derived.Test.YtgdefgnmabjmcaaGreatDoorPlainR
import Derived.Test.YtgdefgnmabjmcaaGreatDoorCode
import Derived.Test.YtgdefgnmabjmcaaGreatDoorEngF
set_option linter.unusedVariables false
set_option linter.unusedSimpArgs false
/- The law, with what it reads of its numbers. -/
namespace Go.R3.LD
open Go.Eng Go.R3
set_option maxRecDepth 100000
def r0 : X := .r q0
def r1 : X := .r q1
def r5 : X := .r q5
def r6 : X := .r q6
def r7 : X := .r q7
def r8 : X := .r q8
def r9 : X := .r q9
def r10 : X := .r q10
def r11 : X := .r q11
def r13 : X := .r q13
def r15 : X := .r q15
def r47 : X := .r q47
def r76 : X := .r q76
def r78 : X := .r q78
def r79 : X := .r q79
def r80 : X := .r q80
def r81 : X := .r q81
def r86 : X := .r q86
def lf : AF := .mk 2 (.seq (.ops [.mk (.to q4) .no (.n (.mv (.c (.bool false))))])
 (.seq (.seq (.ops [.mk .ps .no (.e (.call 19 [])),
    .mk (.to q15) .no (.n (.not (.s 0)))])
   (.cond r15 (.seq (.ops [.mk (.to q4) .no (.n (.mv (.c (.bool false))))])
     .ret)
    .skip))
  (.seq (.ops [.mk .ps .no (.n (.bin .and r1 (.c (.int .i64 (.ofNat 15) 0)))),
    .mk (.to q1) .no (.n (.mv (.s 0)))])
   (.seq (.ops [.mk .ps .no (.n (.build [(.str 0 0), (.int .i64 (.ofNat 0) 0)] [(0, 1, (.c (.str 36 115392871592208873063576388766376297854168949589050745868064178747391304713210393027948))), (1, 1, (.c (.int .i64 (.ofNat 1) 0)))])),
     .mk .ps .no (.n (.build [(.str 0 0), (.int .i64 (.ofNat 0) 0)] [(0, 1, (.c (.str 56 168047369847121166307127589277239756968611204178421004957305883239378799941135632467364434563107968784458576913206629158630433813194092))), (1, 1, (.c (.int .i64 (.ofNat 2) 0)))])),
     .mk .ps .no (.n (.build [(.str 0 0), (.int .i64 (.ofNat 0) 0)] [(0, 1, (.c (.str 28 6230468595316043393448429257230995687074251314155036094782105023088))), (1, 1, (.c (.int .i64 (.ofNat 3) 0)))])),
     .mk .ps .no (.n (.build [(.str 0 0), (.int .i64 (.ofNat 0) 0)] [(0, 1, (.c (.str 53 10016403785176346677966570224356964672020649171928962456072319576598273045723891824846000201041436703660479811267841990795224428))), (1, 1, (.c (.int .i64 (.ofNat 4) 0)))])),
     .mk .ps .no (.n (.build [(.str 0 0), (.int .i64 (.ofNat 0) 0)] [(0, 1, (.c (.str 23 5666578224102938107755772688020443257495432079956603504))), (1, 1, (.c (.int .i64 (.ofNat 7) 0)))])),
     .mk .ps .no (.n (.build [(.str 0 0), (.int .i64 (.ofNat 0) 0)] [(0, 1, (.c (.str 33 6853501583117626712722856091438809644581354867836436067907172519023712060142192))), (1, 1, (.c (.int .i64 (.ofNat 5) 0)))])),
     .mk .ps .no (.n (.build [(.str 0 0), (.int .i64 (.ofNat 0) 0)] [(0, 1, (.c (.str 51 152838192522832438323464511705849033111574546539002617370747577368622452667795661215279769269573603474889579312924873814640))), (1, 1, (.c (.int .i64 (.ofNat 6) 0)))])),
     .mk .ps .no (.n (.build [(.str 0 0), (.int .i64 (.ofNat 0) 0)] [(0, 1, (.c (.str 49 2332125740399664891410286128324578661013312297535512185454350838031590153962806293506122010193618346173125505250325104))), (1, 1, (.c (.int .i64 (.ofNat 2) 0)))])),
     .mk .ps .no (.n (.build [(.str 0 0), (.int .i64 (.ofNat 0) 0)] [(0, 1, (.c (.str 47 35717703488735314489392612404716469236185982158334925456483542194085402996761723064128525511528564704513392665964))), (1, 1, (.c (.int .i64 (.ofNat 1) 0)))])),
     .mk .ps .no (.n (.build [(.str 0 0), (.int .i64 (.ofNat 0) 0)] [(0, 1, (.c (.str 47 35585414739985121023716524087325889960295002604106458796369654126618464587147998564320935199052101027702680872300))), (1, 1, (.c (.int .i64 (.ofNat 3) 0)))])),
     .mk .ps .no (.a (.bslice 2 10 [(.str 0 0), (.int .i64 (.ofNat 0) 0)] [(0, (.s 9)), (1, (.s 8)), (2, (.s 7)), (3, (.s 6)), (4, (.s 5)), (5, (.s 4)), (6, (.s 3)), (7, (.s 2)), (8, (.s 1)), (9, (.s 0))])),
     .mk (.to q5) .no (.n (.mv (.s 0)))])
    (.seq (.ops [.mk .ps .no (.n (.cvi .u64 r0)),
      .mk .ps .no (.n (.bin .rem (.s 0) (.c (.int .u64 (.ofNat 10) 0)))),
      .mk .ps .no (.n (.cvi .i64 (.s 0))),
      .mk .ps .no (.n (.iaddr 2 r5 (.s 0))),
      .mk .ps .no (.n (.ldn 2 (.s 0))),
      .mk (.to q6) .no (.a (.alloc 2 [[(.str 0 0), (.int .i64 (.ofNat 0) 0)]])),
      .mk .no .no (.e (.st 2 r6 (.s 0)))])
     (.seq (.ops [.mk .ps .no (.n (.faddr 0 r6)),
       .mk .ps .no (.n (.ld1 (.s 0))),
       .mk .ps .no (.n (.bin .add (.c (.str 52 21471732149959722080935081637776567937948759766477184271521029999316284757963750620835056952760885778046210610008152646708323)) (.s 0))),
       .mk .ps .no (.n (.bin .add (.s 0) (.c (.str 4 2099281184)))),
       .mk .ps .no (.a (.bslice 1 2 [(.str 0 0)] [(0, (.s 0)), (1, (.c (.str 21 182873138172443285020062672248839359210811176348771)))])),
       .mk .ps .no (.e (.call 20 [(.s 0)])),
       .mk .ps .no (.n (.ext (.s 0) 0)),
       .mk .ps .no (.n (.ext (.s 1) 1)),
       .mk .ps .no (.n (.ext (.s 2) 2)),
       .mk (.to q7) .no (.n (.mv (.s 2))),
       .mk (.to q8) .no (.n (.mv (.s 1))),
       .mk (.to q9) .no (.n (.mv (.s 0)))])
      (.seq (.seq (.ops [.mk (.to q47) .no (.n (.not r9))])
        (.cond r47 (.seq (.ops [.mk (.to q4) .no (.n (.mv (.c (.bool false))))])
          .ret)
         .skip))
       (.seq (.ops [.mk .ps .no (.a (.bslice 1 1 [(.int .i64 (.ofNat 0) 0)] [(0, r1)])),
         .mk .ps .no (.n (.build [(.int .i64 (.ofNat 0) 0), (.int .i64 (.ofNat 0) 0), (.int .i64 (.ofNat 0) 0)] [(0, 1, (.c (.int .i64 (.ofNat 2000) 0))), (1, 1, (.c (.int .i64 (.ofNat 100) 0))), (2, 1, (.c (.int .i64 (.ofNat 20) 0)))])),
         .mk .ps .no (.e (.call 21 [r8, r7, (.c (.str 1 65)), (.c (.str 1 109)), (.s 1), (.s 0)])),
         .mk .ps .no (.n (.ext (.s 0) 0)),
         .mk .ps .no (.n (.ext (.s 1) 1)),
         .mk (.to q10) .no (.a (.alloc 3 [[(.int .i64 (.ofNat 0) 0), (.int .i64 (.ofNat 0) 0), .nils]])),
         .mk .no .no (.e (.st 3 r10 (.s 1))),
         .mk (.to q11) .no (.n (.mv (.s 0)))])
        (.seq (.seq (.ops [.mk .ps .no (.n (.eq (.one .int) true r11 (.c (.int .i64 (.ofNat 0) 0)))),
           .mk .ps (.on (.s 0) false) (.n (.faddr 0 r10)),
           .mk .ps (.on (.s 1) false) (.n (.ld1 (.s 0))),
           .mk .ps (.on (.s 2) false) (.n (.faddr 1 r6)),
           .mk .ps (.on (.s 3) false) (.n (.ld1 (.s 0))),
           .mk .ps (.on (.s 4) false) (.n (.eq (.one .int) true (.s 2) (.s 0))),
           .mk .ps .no (.n (.pick (.s 5) (.c (.bool true)) (.s 0))),
           .mk .ps (.on (.s 0) false) (.n (.faddr 1 r10)),
           .mk .ps (.on (.s 1) false) (.n (.ld1 (.s 0))),
           .mk .ps (.on (.s 2) false) (.n (.eq (.one .int) true (.s 0) (.c (.int .i64 (.ofNat 0) 0)))),
           .mk .ps .no (.n (.pick (.s 3) (.c (.bool true)) (.s 0))),
           .mk .ps (.on (.s 0) false) (.n (.faddr 2 r10)),
           .mk .ps (.on (.s 1) false) (.n (.ld1 (.s 0))),
           .mk .ps (.on (.s 2) false) (.n (.lenL (.s 0))),
           .mk .ps (.on (.s 3) false) (.n (.eq (.one .int) false (.s 0) (.c (.int .i64 (.ofNat 0) 0)))),
           .mk (.to q76) .no (.n (.pick (.s 4) (.c (.bool true)) (.s 0)))])
          (.cond r76 (.seq (.ops [.mk (.to q4) .no (.n (.mv (.c (.bool false))))])
            .ret)
           .skip))
         (.seq (.seq (.ops [.mk .ps .no (.n (.faddr 2 r10)),
            .mk (.to q78) .no (.n (.ld1 (.s 0))),
            .mk (.to q79) .no (.n (.lenL r78)),
            .mk (.to q80) .no (.n (.mv (.c (.int .i64 (.ofNat 0) 0))))])
           (.block 0 (.loop (.seq (.ops [.mk (.to q81) .no (.n (.bin .lss r80 r79))])
              (.seq (.cond r81 .skip
                (.exit 0))
               (.seq (.block 1 (.seq (.ops [.mk .ps .no (.n (.iaddr 1 r78 r80)),
                   .mk .ps .no (.n (.ld1 (.s 0))),
                   .mk (.to q13) .no (.n (.mv (.s 0)))])
                  (.seq (.ops [.mk (.to q86) .no (.n (.eq (.one .int) true r13 r1))])
                   (.cond r86 (.seq (.ops [.mk (.to q4) .no (.n (.mv (.c (.bool false))))])
                     .ret)
                    .skip))))
                (.ops [.mk .ps .no (.n (.bin .add r80 (.c (.int .i64 (.ofNat 1) 0)))),
                 .mk (.to q80) .no (.n (.mv (.s 0)))])))))))
          (.seq (.ops [.mk .ps .no (.n (.faddr 1 r6)),
            .mk .ps .no (.n (.ld1 (.s 0))),
            .mk .ps .no (.n (.eq (.one .int) false (.s 0) (.c (.int .i64 (.ofNat 7) 0)))),
            .mk .ps (.on (.s 0) true) (.n (.faddr 2 r10)),
            .mk .ps (.on (.s 1) true) (.n (.ld1 (.s 0))),
            .mk .ps (.on (.s 2) true) (.n (.lenL (.s 0))),
            .mk .ps (.on (.s 3) true) (.n (.eq (.one .int) false (.s 0) (.c (.int .i64 (.ofNat 20) 0)))),
            .mk .ps .no (.n (.pick (.s 4) (.s 0) (.c (.bool false)))),
            .mk .ps (.on (.s 0) false) (.n (.faddr 1 r6)),
            .mk .ps (.on (.s 1) false) (.n (.ld1 (.s 0))),
            .mk .ps (.on (.s 2) false) (.n (.eq (.one .int) true (.s 0) (.c (.int .i64 (.ofNat 7) 0)))),
            .mk .ps (.on (.s 3) false) (.n (.mv (.s 0))),
            .mk .ps (.on (.s 0) true) (.n (.faddr 2 r10)),
            .mk .ps (.on (.s 1) true) (.n (.ld1 (.s 0))),
            .mk .ps (.on (.s 2) true) (.n (.lenL (.s 0))),
            .mk .ps (.on (.s 3) true) (.n (.eq (.one .int) false (.s 0) (.c (.int .i64 (.ofNat 1) 0)))),
            .mk .ps (.on (.s 8) false) (.n (.pick (.s 4) (.s 0) (.c (.bool false)))),
            .mk .ps .no (.n (.pick (.s 9) (.c (.bool true)) (.s 0))),
            .mk (.to q4) .no (.n (.mv (.s 0)))])
           .ret)))))))))))
 [.tmp q4] .no 0
theorem at_law : T.get F 8 = some lf := by kernel_rfl
noncomputable def t_f8_j52 (lp : LpT) (G : Roms) (call : CallT) (k : KV) (v17 : V) (v34 : V) (x0 : Nat) (x1 : Nat) (z0 : Int) (z1 : Int) (H : Heap) (n : Nat) : Prop :=
 onV (paddV 1 v17) fun v53 =>
 onV (ld1V v53 G H) fun v54 =>
 onV (eqV (.one .int) false v54 (.int .i64 (.ofNat 7) 0)) fun v55 =>
 onG v55 true (paddV 2 v34) fun v56 =>
 onG v55 true (ld1V v56 G H) fun v57 =>
 onG v55 true (lenV v57) fun v58 =>
 onG v55 true (eqV (.one .int) false v58 (.int .i64 (.ofNat 20) 0)) fun v59 =>
 onV (pickV v55 v59 (.bool false)) fun v60 =>
 onG v60 false (paddV 1 v17) fun v61 =>
 onG v60 false (ld1V v61 G H) fun v62 =>
 onG v60 false (eqV (.one .int) true v62 (.int .i64 (.ofNat 7) 0)) fun v63 =>
 onG v60 false (some v63) fun v64 =>
 onG v64 true (paddV 2 v34) fun v65 =>
 onG v64 true (ld1V v65 G H) fun v66 =>
 onG v64 true (lenV v66) fun v67 =>
 onG v64 true (eqV (.one .int) false v67 (.int .i64 (.ofNat 1) 0)) fun v68 =>
 onG v60 false (pickV v64 v68 (.bool false)) fun v69 =>
 onV (pickV v60 (.bool true) v69) fun v70 =>
 k v70 H n
noncomputable def t_f8_l74 (lp : LpT) (G : Roms) (call : CallT) (k : KV) (v17 : V) (v34 : V) (v72 : V) (v73 : V) (x0 : Nat) (x1 : Nat) (z0 : Int) (z1 : Int) (ih74 : (V × Heap × Nat) → Prop) (a80_l74 : V) (H : Heap) (n : Nat) : Prop :=
 onV (B2.ev .lss a80_l74 v73) fun v75 =>
 onTst v75 true (onV (iaddrV 1 v72 a80_l74) fun v76 =>
 onV (ld1V v76 G H) fun v77 =>
 onV (eqV (.one .int) true v77 (.int .i64 (.ofNat x0) 0)) fun v78 =>
 onTst v78 true (k (.bool false) H n) (onV (B2.ev .add a80_l74 (.int .i64 (.ofNat 1) 0)) fun v79 =>
 ih74 (v79, H, n))) (t_f8_j52 lp G call k v17 v34 x0 x1 z0 z1 H n)
noncomputable def t_f8 (lp : LpT) (G : Roms) (call : CallT) (z0 : Int) (z1 : Int) (x0 : Nat) (x1 : Nat) (H : Heap) (n : Nat) (k : KV) : Prop :=
 call 19 [] H n fun v1 H n =>
 onV (notV v1) fun v2 =>
 onTst v2 true (k (.bool false) H n) (onV (buildV [(.str 0 0), (.int .i64 (.ofNat 0) 0)] [(0, 1, .c (.str 36 115392871592208873063576388766376297854168949589050745868064178747391304713210393027948)), (1, 1, .c (.int .i64 (.ofNat 1) 0))]) fun v3 =>
 onV (buildV [(.str 0 0), (.int .i64 (.ofNat 0) 0)] [(0, 1, .c (.str 56 168047369847121166307127589277239756968611204178421004957305883239378799941135632467364434563107968784458576913206629158630433813194092)), (1, 1, .c (.int .i64 (.ofNat 2) 0))]) fun v4 =>
 onV (buildV [(.str 0 0), (.int .i64 (.ofNat 0) 0)] [(0, 1, .c (.str 28 6230468595316043393448429257230995687074251314155036094782105023088)), (1, 1, .c (.int .i64 (.ofNat 3) 0))]) fun v5 =>
 onV (buildV [(.str 0 0), (.int .i64 (.ofNat 0) 0)] [(0, 1, .c (.str 53 10016403785176346677966570224356964672020649171928962456072319576598273045723891824846000201041436703660479811267841990795224428)), (1, 1, .c (.int .i64 (.ofNat 4) 0))]) fun v6 =>
 onV (buildV [(.str 0 0), (.int .i64 (.ofNat 0) 0)] [(0, 1, .c (.str 23 5666578224102938107755772688020443257495432079956603504)), (1, 1, .c (.int .i64 (.ofNat 7) 0))]) fun v7 =>
 onV (buildV [(.str 0 0), (.int .i64 (.ofNat 0) 0)] [(0, 1, .c (.str 33 6853501583117626712722856091438809644581354867836436067907172519023712060142192)), (1, 1, .c (.int .i64 (.ofNat 5) 0))]) fun v8 =>
 onV (buildV [(.str 0 0), (.int .i64 (.ofNat 0) 0)] [(0, 1, .c (.str 51 152838192522832438323464511705849033111574546539002617370747577368622452667795661215279769269573603474889579312924873814640)), (1, 1, .c (.int .i64 (.ofNat 6) 0))]) fun v9 =>
 onV (buildV [(.str 0 0), (.int .i64 (.ofNat 0) 0)] [(0, 1, .c (.str 49 2332125740399664891410286128324578661013312297535512185454350838031590153962806293506122010193618346173125505250325104)), (1, 1, .c (.int .i64 (.ofNat 2) 0))]) fun v10 =>
 onV (buildV [(.str 0 0), (.int .i64 (.ofNat 0) 0)] [(0, 1, .c (.str 47 35717703488735314489392612404716469236185982158334925456483542194085402996761723064128525511528564704513392665964)), (1, 1, .c (.int .i64 (.ofNat 1) 0))]) fun v11 =>
 onV (buildV [(.str 0 0), (.int .i64 (.ofNat 0) 0)] [(0, 1, .c (.str 47 35585414739985121023716524087325889960295002604106458796369654126618464587147998564320935199052101027702680872300)), (1, 1, .c (.int .i64 (.ofNat 3) 0))]) fun v12 =>
 onA (aBslice 2 10 [(.str 0 0), (.int .i64 (.ofNat 0) 0)] [(0, .c v3), (1, .c v4), (2, .c v5), (3, .c v6), (4, .c v7), (5, .c v8), (6, .c v9), (7, .c v10), (8, .c v11), (9, .c v12)] E0) H n fun v13 H n =>
 onV (cviV .i64 (.int .u64 (.ofNat x1) 0)) fun v14 =>
 onV (iaddrV 2 v13 v14) fun v15 =>
 onV (ldnV 2 v15 G H) fun v16 =>
 onA (aAlloc 2 [[(.str 0 0), (.int .i64 (.ofNat 0) 0)]] E0) H n fun v17 H n =>
 stV 2 v17 v16 H n fun v18 H n =>
 onV (paddV 0 v17) fun v19 =>
 onV (ld1V v19 G H) fun v20 =>
 onV (B2.ev .add (.str 52 21471732149959722080935081637776567937948759766477184271521029999316284757963750620835056952760885778046210610008152646708323) v20) fun v21 =>
 onV (B2.ev .add v21 (.str 4 2099281184)) fun v22 =>
 onA (aBslice 1 2 [(.str 0 0)] [(0, .c v22), (1, .c (.str 21 182873138172443285020062672248839359210811176348771))] E0) H n fun v23 H n =>
 call 20 [v23] H n fun v24 H n =>
 onV (extV v24 0) fun v25 =>
 onV (extV v24 1) fun v26 =>
 onV (extV v24 2) fun v27 =>
 onV (notV v27) fun v28 =>
 onTst v28 true (k (.bool false) H n) (onA (aBslice 1 1 [(.int .i64 (.ofNat 0) 0)] [(0, .c (.int .i64 (.ofNat x0) 0))] E0) H n fun v29 H n =>
 onV (buildV [(.int .i64 (.ofNat 0) 0), (.int .i64 (.ofNat 0) 0), (.int .i64 (.ofNat 0) 0)] [(0, 1, .c (.int .i64 (.ofNat 2000) 0)), (1, 1, .c (.int .i64 (.ofNat 100) 0)), (2, 1, .c (.int .i64 (.ofNat 20) 0))]) fun v30 =>
 call 21 [v26, v25, (.str 1 65), (.str 1 109), v29, v30] H n fun v31 H n =>
 onV (extV v31 0) fun v32 =>
 onV (extV v31 1) fun v33 =>
 onA (aAlloc 3 [[(.int .i64 (.ofNat 0) 0), (.int .i64 (.ofNat 0) 0), .nils]] E0) H n fun v34 H n =>
 stV 3 v34 v32 H n fun v35 H n =>
 onV (eqV (.one .int) true v33 (.int .i64 (.ofNat 0) 0)) fun v36 =>
 onG v36 false (paddV 0 v34) fun v37 =>
 onG v36 false (ld1V v37 G H) fun v38 =>
 onG v36 false (paddV 1 v17) fun v39 =>
 onG v36 false (ld1V v39 G H) fun v40 =>
 onG v36 false (eqV (.one .int) true v38 v40) fun v41 =>
 onV (pickV v36 (.bool true) v41) fun v42 =>
 onG v42 false (paddV 1 v34) fun v43 =>
 onG v42 false (ld1V v43 G H) fun v44 =>
 onG v42 false (eqV (.one .int) true v44 (.int .i64 (.ofNat 0) 0)) fun v45 =>
 onV (pickV v42 (.bool true) v45) fun v46 =>
 onG v46 false (paddV 2 v34) fun v47 =>
 onG v46 false (ld1V v47 G H) fun v48 =>
 onG v46 false (lenV v48) fun v49 =>
 onG v46 false (eqV (.one .int) false v49 (.int .i64 (.ofNat 0) 0)) fun v50 =>
 onV (pickV v46 (.bool true) v50) fun v51 =>
 onTst v51 true (k (.bool false) H n) (onV (paddV 2 v34) fun v71 =>
 onV (ld1V v71 G H) fun v72 =>
 onV (lenV v72) fun v73 =>
 lp (V × Heap × Nat) (fun ih s => t_f8_l74 lp G call k v17 v34 v72 v73 x0 x1 z0 z1 ih s.1 s.2.1 s.2.2) ((.int .i64 (.ofNat 0) 0), H, n))))
theorem ti_f8 {lp : LpT} (hL : LpOk lp) {G : Roms} {call callE : CallT} (z0 : Int) (z1 : Int) (x0 : Nat) (x1 : Nat) (ex0 : uand z1 15 = x0) (ex1 : umod z0 10 = x1) (hle : CallLe call callE) (hd : CallDet callE) {H : Heap} {n : Nat} {k : KV} (h : t_f8 lp G call z0 z1 x0 x1 H n k) : exFunL lf G callE [(.int .i64 z0 0), (.int .i64 z1 0)] H n k := by
  delta t_f8 at h
  refine f_intro rfl ?_
  refine c_seq ?_
  refine c_ops ?_
  refine ov_t (a := (.bool false)) (k_mv rfl) ?_
  refine o0 ?_
  refine c_seq ?_
  refine c_seq ?_
  refine c_ops ?_
  refine oe_s hle hd h (k_call xs0) fun v1 H n h => ?_
  refine on_t h (k_not rfl) fun v2 h => ?_
  refine o0 ?_
  refine c_cond h (xr sm) (fun h => ?_) (fun h => ?_)
  · refine c_seq ?_
    refine c_ops ?_
    refine ov_t (a := (.bool false)) (k_mv rfl) ?_
    refine o0 ?_
    refine c_ret ?_
    exact fin_no (rsT sm rs0) h
  · refine c_skip ?_
    refine c_seq ?_
    refine c_ops ?_
    refine ov_s (a := (.int .i64 (.ofNat x0) 0)) (km3 (by decide) ex0 (xr (ne rfl (ne rfl rfl)))) ?_
    refine ov_t (a := (.int .i64 (.ofNat x0) 0)) (k_mv rfl) ?_
    refine o0 ?_
    refine c_seq ?_
    refine c_ops ?_
    refine on_s h (k_build (psS rfl (psS rfl ps0))) fun v3 h => ?_
    refine on_s h (k_build (psS rfl (psS rfl ps0))) fun v4 h => ?_
    refine on_s h (k_build (psS rfl (psS rfl ps0))) fun v5 h => ?_
    refine on_s h (k_build (psS rfl (psS rfl ps0))) fun v6 h => ?_
    refine on_s h (k_build (psS rfl (psS rfl ps0))) fun v7 h => ?_
    refine on_s h (k_build (psS rfl (psS rfl ps0))) fun v8 h => ?_
    refine on_s h (k_build (psS rfl (psS rfl ps0))) fun v9 h => ?_
    refine on_s h (k_build (psS rfl (psS rfl ps0))) fun v10 h => ?_
    refine on_s h (k_build (psS rfl (psS rfl ps0))) fun v11 h => ?_
    refine on_s h (k_build (psS rfl (psS rfl ps0))) fun v12 h => ?_
    refine oa_s h (k_bslice (pbS rfl (pbS rfl (pbS rfl (pbS rfl (pbS rfl (pbS rfl (pbS rfl (pbS rfl (pbS rfl (pbS rfl pb0))))))))))) fun v13 H n h => ?_
    refine ov_t (a := v13) (k_mv rfl) ?_
    refine o0 ?_
    refine c_seq ?_
    refine c_ops ?_
    refine ov_s (a := (.int .u64 (IntKind.wrap .u64 z0) 0)) (km1 (xr (ne rfl (ne rfl (ne rfl (ne rfl rfl)))))) ?_
    refine ov_s (a := (.int .u64 (.ofNat x1) 0)) (km2 (by decide) ex1 rfl) ?_
    refine on_s h (k_cvi rfl) fun v14 h => ?_
    refine on_s h (k_iaddr (xr sm) rfl) fun v15 h => ?_
    refine on_s h (k_ldn rfl) fun v16 h => ?_
    refine oa_t h k_alloc fun v17 H n h => ?_
    refine oe_x hle hd h (k_st (xr sm) rfl) fun v18 H n h => ?_
    refine o0 ?_
    refine c_seq ?_
    refine c_ops ?_
    refine on_s h (k_faddr (xr sm)) fun v19 h => ?_
    refine on_s h (k_ld1 rfl) fun v20 h => ?_
    refine on_s h (k_bin rfl rfl) fun v21 h => ?_
    refine on_s h (k_bin rfl rfl) fun v22 h => ?_
    refine oa_s h (k_bslice (pbS rfl (pbS rfl pb0))) fun v23 H n h => ?_
    refine oe_s hle hd h (k_call (xsS rfl xs0)) fun v24 H n h => ?_
    refine on_s h (k_ext rfl) fun v25 h => ?_
    refine on_s h (k_ext rfl) fun v26 h => ?_
    refine on_s h (k_ext rfl) fun v27 h => ?_
    refine ov_t (a := v25) (k_mv rfl) ?_
    refine ov_t (a := v26) (k_mv rfl) ?_
    refine ov_t (a := v27) (k_mv rfl) ?_
    refine o0 ?_
    refine c_seq ?_
    refine c_seq ?_
    refine c_ops ?_
    refine on_t h (k_not (xr sm)) fun v28 h => ?_
    refine o0 ?_
    refine c_cond h (xr sm) (fun h => ?_) (fun h => ?_)
    · refine c_seq ?_
      refine c_ops ?_
      refine ov_t (a := (.bool false)) (k_mv rfl) ?_
      refine o0 ?_
      refine c_ret ?_
      exact fin_no (rsT sm rs0) h
    · refine c_skip ?_
      refine c_seq ?_
      refine c_ops ?_
      refine oa_s h (k_bslice (pbS (xr (ne rfl (ne rfl (ne rfl (ne rfl (ne rfl (ne rfl sm))))))) pb0)) fun v29 H n h => ?_
      refine on_s h (k_build (psS rfl (psS rfl (psS rfl ps0)))) fun v30 h => ?_
      refine oe_s hle hd h (k_call (xsS (xr (ne rfl (ne rfl sm))) (xsS (xr (ne rfl (ne rfl (ne rfl sm)))) (xsS rfl (xsS rfl (xsS rfl (xsS rfl xs0))))))) fun v31 H n h => ?_
      refine on_s h (k_ext rfl) fun v32 h => ?_
      refine on_s h (k_ext rfl) fun v33 h => ?_
      refine oa_t h k_alloc fun v34 H n h => ?_
      refine oe_x hle hd h (k_st (xr sm) rfl) fun v35 H n h => ?_
      refine ov_t (a := v33) (k_mv rfl) ?_
      refine o0 ?_
      refine c_seq ?_
      refine c_seq ?_
      refine c_ops ?_
      refine on_s h (k_eq (xr sm) rfl) fun v36 h => ?_
      refine ogn_s h rfl (k_faddr (xr (ne rfl sm))) fun v37 h => ?_
      refine ogn_s h rfl (k_ld1 rfl) fun v38 h => ?_
      refine ogn_s h rfl (k_faddr (xr (ne rfl (ne rfl (ne rfl (ne rfl (ne rfl (ne rfl sm)))))))) fun v39 h => ?_
      refine ogn_s h rfl (k_ld1 rfl) fun v40 h => ?_
      refine ogn_s h rfl (k_eq rfl rfl) fun v41 h => ?_
      refine on_s h (k_pick rfl rfl rfl) fun v42 h => ?_
      refine ogn_s h rfl (k_faddr (xr (ne rfl sm))) fun v43 h => ?_
      refine ogn_s h rfl (k_ld1 rfl) fun v44 h => ?_
      refine ogn_s h rfl (k_eq rfl rfl) fun v45 h => ?_
      refine on_s h (k_pick rfl rfl rfl) fun v46 h => ?_
      refine ogn_s h rfl (k_faddr (xr (ne rfl sm))) fun v47 h => ?_
      refine ogn_s h rfl (k_ld1 rfl) fun v48 h => ?_
      refine ogn_s h rfl (k_lenL rfl) fun v49 h => ?_
      refine ogn_s h rfl (k_eq rfl rfl) fun v50 h => ?_
      refine on_t h (k_pick rfl rfl rfl) fun v51 h => ?_
      refine o0 ?_
      refine c_cond h (xr sm) (fun h => ?_) (fun h => ?_)
      · refine c_seq ?_
        refine c_ops ?_
        refine ov_t (a := (.bool false)) (k_mv rfl) ?_
        refine o0 ?_
        refine c_ret ?_
        exact fin_no (rsT sm rs0) h
      · refine c_skip ?_
        refine c_seqj (fun R H n => rg R q6 = v17 ∧ rg R q10 = v34 ∧ t_f8_j52 lp G call k v17 v34 x0 x1 z0 z1 H n) ?_ fun j52 => ?_
        · rintro R H n ⟨f6, f10, h⟩
          delta t_f8_j52 at h
          refine c_seq ?_
          refine c_ops ?_
          refine on_s h (k_faddr (xr f6)) fun v53 h => ?_
          refine on_s h (k_ld1 rfl) fun v54 h => ?_
          refine on_s h (k_eq rfl rfl) fun v55 h => ?_
          refine ogn_s h rfl (k_faddr (xr f10)) fun v56 h => ?_
          refine ogn_s h rfl (k_ld1 rfl) fun v57 h => ?_
          refine ogn_s h rfl (k_lenL rfl) fun v58 h => ?_
          refine ogn_s h rfl (k_eq rfl rfl) fun v59 h => ?_
          refine on_s h (k_pick rfl rfl rfl) fun v60 h => ?_
          refine ogn_s h rfl (k_faddr (xr f6)) fun v61 h => ?_
          refine ogn_s h rfl (k_ld1 rfl) fun v62 h => ?_
          refine ogn_s h rfl (k_eq rfl rfl) fun v63 h => ?_
          refine ogn_s h rfl (k_mv rfl) fun v64 h => ?_
          refine ogn_s h rfl (k_faddr (xr f10)) fun v65 h => ?_
          refine ogn_s h rfl (k_ld1 rfl) fun v66 h => ?_
          refine ogn_s h rfl (k_lenL rfl) fun v67 h => ?_
          refine ogn_s h rfl (k_eq rfl rfl) fun v68 h => ?_
          refine ogn_s h rfl (k_pick rfl rfl rfl) fun v69 h => ?_
          refine on_s h (k_pick rfl rfl rfl) fun v70 h => ?_
          refine ov_t (a := v70) (k_mv rfl) ?_
          refine o0 ?_
          refine c_ret ?_
          exact fin_no (rsT sm rs0) h
        · refine c_seq ?_
          refine c_ops ?_
          refine on_s h (k_faddr (xr (ne rfl (ne rfl sm)))) fun v71 h => ?_
          refine on_t h (k_ld1 rfl) fun v72 h => ?_
          refine on_t h (k_lenL (xr sm)) fun v73 h => ?_
          refine ov_t (a := (.int .i64 (.ofNat 0) 0)) (k_mv rfl) ?_
          refine o0 ?_
          refine c_block ?_
          refine c_loop hL (fun s R H n => rg R q80 = s.1 ∧ rg R q1 = (.int .i64 (.ofNat x0) 0) ∧ rg R q6 = v17 ∧ rg R q10 = v34 ∧ rg R q78 = v72 ∧ rg R q79 = v73 ∧ H = s.2.1 ∧ n = s.2.2) h ⟨sm, (ne rfl (ne rfl (ne rfl (ne rfl (ne rfl (ne rfl (ne rfl (ne rfl (ne rfl (ne rfl (ne rfl (ne rfl sm)))))))))))), (ne rfl (ne rfl (ne rfl (ne rfl (ne rfl (ne rfl (ne rfl (ne rfl (ne rfl (ne rfl sm)))))))))), (ne rfl (ne rfl (ne rfl (ne rfl (ne rfl sm))))), (ne rfl (ne rfl sm)), (ne rfl sm), rfl, rfl⟩ ?_
          rintro ih74 I74 hI74 ⟨a80_l74, H, n⟩ R H0 n0 ⟨f80, f1, f6, f10, f78, f79, eH, eN⟩ h
          replace h : t_f8_l74 lp G call k v17 v34 v72 v73 x0 x1 z0 z1 ih74 a80_l74 H n := h
          obtain rfl : H0 = H := eH
          obtain rfl : n0 = n := eN
          delta t_f8_l74 at h
          refine c_seq ?_
          refine c_ops ?_
          refine on_t h (k_bin (xr f80) (xr f79)) fun v75 h => ?_
          refine o0 ?_
          refine c_seq ?_
          refine c_cond h (xr sm) (fun h => ?_) (fun h => ?_)
          · refine c_skip ?_
            refine c_seq ?_
            refine c_block ?_
            refine c_seq ?_
            refine c_ops ?_
            refine on_s h (k_iaddr (xr (ne rfl f78)) (xr (ne rfl f80))) fun v76 h => ?_
            refine on_s h (k_ld1 rfl) fun v77 h => ?_
            refine ov_t (a := v77) (k_mv rfl) ?_
            refine o0 ?_
            refine c_seq ?_
            refine c_ops ?_
            refine on_t h (k_eq (xr sm) (xr (ne rfl (ne rfl f1)))) fun v78 h => ?_
            refine o0 ?_
            refine c_cond h (xr sm) (fun h => ?_) (fun h => ?_)
            · refine c_seq ?_
              refine c_ops ?_
              refine ov_t (a := (.bool false)) (k_mv rfl) ?_
              refine o0 ?_
              refine c_ret ?_
              exact fin_no (rsT sm rs0) h
            · refine c_skip ?_
              refine c_ops ?_
              refine on_s h (k_bin (xr (ne rfl (ne rfl (ne rfl f80)))) rfl) fun v79 h => ?_
              refine ov_t (a := v79) (k_mv rfl) ?_
              refine o0 ?_
              exact hI74 (v79, H0, n0) _ _ _ ⟨sm, (ne rfl (ne rfl (ne rfl (ne rfl f1)))), (ne rfl (ne rfl (ne rfl (ne rfl f6)))), (ne rfl (ne rfl (ne rfl (ne rfl f10)))), (ne rfl (ne rfl (ne rfl (ne rfl f78)))), (ne rfl (ne rfl (ne rfl (ne rfl f79)))), rfl, rfl⟩ h
          · refine c_exit ?_
            refine bx_same ?_
            exact j52 _ _ _ ⟨(ne rfl f6), (ne rfl f10), h⟩
end Go.R3.LD

