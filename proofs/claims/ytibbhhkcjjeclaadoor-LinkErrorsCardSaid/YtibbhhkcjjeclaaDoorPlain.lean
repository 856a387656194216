/- Part of a proof: texts LQSh of the engine and what is proved with it; nothing is assumed. -/
import Derived.Test.YtibbhhkcjjeclaaDoorCode
import Derived.Test.YtibbhhkcjjeclaaDoorEngF
set_option linter.unusedVariables false
set_option linter.unusedSimpArgs false
/- The functions, as plain functions of values: printed by program. -/
namespace Go.RL
open Go.Eng
set_option maxRecDepth 100000
noncomputable def s_kilnlaw14_LinkTurns_j27 (lp : LpT) (G : Roms) (call : CallT) (k : KV) (H : Heap) (n : Nat) : Prop :=
 k (.bool true) H n
noncomputable def s_kilnlaw14_LinkTurns_j31 (lp : LpT) (G : Roms) (call : CallT) (k : KV) (ih29 : (V × V × V × V × V × Heap × Nat) → Prop) (a6 a8 a62 a63 a64 : V) (H : Heap) (n : Nat) : Prop :=
 onV (B2.ev .add a64 (.int .i64 (.ofNat 1) 0)) fun v32=>
 ih29 (a6, a8, a62, a63, v32, H, n)
noncomputable def s_kilnlaw14_LinkTurns_l51 (lp : LpT) (G : Roms) (call : CallT) (k : KV) (ih29 : (V × V × V × V × V × Heap × Nat) → Prop) (ih51 : (V × V × V × V × V × V × V × V × V × Heap × Nat) → Prop) (a6 a8 a11 a62 a63 a64 a105 a106 a107 : V) (H : Heap) (n : Nat) : Prop :=
 onV (B2.ev .lss a107 a106) fun v52=>
 onTst v52 true (onV (iaddrV 5 a105 a107) fun v53=>
 onV (ldnV 5 v53 G H) fun v54=>
 onA (aAlloc 5 [[(.str 0 0), (.bool false), .nils, (.str 0 0), (.bool false)]] E0) H n fun v55 H n=>
 stV 5 v55 v54 H n fun v56 H n=>
 onV (ldnV 5 v55 G H) fun v57=>
 onV (paddV 0 a11) fun v58=>
 onV (paddV 0 v58) fun v59=>
 onV (ld1V v59 G H) fun v60=>
 onV (buildV [(.str 0 0), (.bool false), .nils, (.str 0 0), (.bool false), (.str 0 0)] [(0, 5, .c v57), (5, 1, .c v60)]) fun v61=>
 onA (aAlloc 6 [[(.str 0 0), (.bool false), .nils, (.str 0 0), (.bool false), (.str 0 0)]] E0) H n fun v62 H n=>
 stV 6 v62 v61 H n fun v63 H n=>
 onV (ldnV 6 v62 G H) fun v64=>
 call n_link_Image_Find [a6, v64] H n fun v65 H n=>
 onV (extV v65 0) fun v66=>
 onV (extV v65 1) fun v67=>
 onV (ldnV 6 v62 G H) fun v68=>
 call n_link_Image_Find [a8, v68] H n fun v69 H n=>
 onV (extV v69 0) fun v70=>
 onV (extV v69 1) fun v71=>
 onV (paddV 0 a11) fun v72=>
 onV (paddV 0 v72) fun v73=>
 onV (ld1V v73 G H) fun v74=>
 onV (eqV (.one .str) true v66 v74) fun v75=>
 onG v75 false (some v70) fun v76=>
 onG v75 false (some v66) fun v77=>
 onG v75 false (eqV (.one .str) true v76 v77) fun v78=>
 onV (pickV v75 (.bool true) v78) fun v79=>
 onG v79 false (some v67) fun v80=>
 onG v79 false (notV v80) fun v81=>
 onV (pickV v79 (.bool true) v81) fun v82=>
 onG v82 false (some v71) fun v83=>
 onG v82 false (notV v83) fun v84=>
 onV (pickV v82 (.bool true) v84) fun v85=>
 onTst v85 true (k (.bool false) H n) (onV (B2.ev .add a107 (.int .i64 (.ofNat 1) 0)) fun v86=>
 ih51 (a6, a8, a11, a62, a63, a64, a105, a106, v86, H, n))) (s_kilnlaw14_LinkTurns_j31 lp G call k ih29 a6 a8 a62 a63 a64 H n)
noncomputable def s_kilnlaw14_LinkTurns_l51b (lp : LpT) (G : Roms) (call : CallT) (k : KV) (ih29 : (V × V × V × V × V × Heap × Nat) → Prop) : ((V × V × V × V × V × V × V × V × V × Heap × Nat) → Prop) → (V × V × V × V × V × V × V × V × V × Heap × Nat) → Prop := fun ih51 s => s_kilnlaw14_LinkTurns_l51 lp G call k ih29 ih51 s.1 s.2.1 s.2.2.1 s.2.2.2.1 s.2.2.2.2.1 s.2.2.2.2.2.1 s.2.2.2.2.2.2.1 s.2.2.2.2.2.2.2.1 s.2.2.2.2.2.2.2.2.1 s.2.2.2.2.2.2.2.2.2.1 s.2.2.2.2.2.2.2.2.2.2
noncomputable def s_kilnlaw14_LinkTurns_j46 (lp : LpT) (G : Roms) (call : CallT) (k : KV) (ih29 : (V × V × V × V × V × Heap × Nat) → Prop) (a6 a8 a11 a62 a63 a64 : V) (H : Heap) (n : Nat) : Prop :=
 onV (paddV 0 a11) fun v47=>
 onV (paddV 3 v47) fun v48=>
 onV (ld1V v48 G H) fun v49=>
 onV (lenV v49) fun v50=>
 lp (V × V × V × V × V × V × V × V × V × Heap × Nat) (s_kilnlaw14_LinkTurns_l51b lp G call k ih29) (a6, a8, a11, a62, a63, a64, v49, v50, (.int .i64 (.ofNat 0) 0), H, n)
noncomputable def s_kilnlaw14_LinkTurns_l91 (lp : LpT) (G : Roms) (call : CallT) (k : KV) (ih29 : (V × V × V × V × V × Heap × Nat) → Prop) (ih91 : (V × V × V × V × V × V × V × V × V × Heap × Nat) → Prop) (a6 a8 a11 a62 a63 a64 a81 a82 a83 : V) (H : Heap) (n : Nat) : Prop :=
 onV (B2.ev .lss a83 a82) fun v92=>
 onTst v92 true (onV (iaddrV 3 a81 a83) fun v93=>
 onV (ldnV 3 v93 G H) fun v94=>
 onA (aAlloc 3 [[(.str 0 0), (.str 0 0), (.bool false)]] E0) H n fun v95 H n=>
 stV 3 v95 v94 H n fun v96 H n=>
 onV (paddV 0 a11) fun v97=>
 onV (paddV 0 v97) fun v98=>
 onV (ld1V v98 G H) fun v99=>
 onV (paddV 0 v95) fun v100=>
 onV (ld1V v100 G H) fun v101=>
 onV (paddV 0 a11) fun v102=>
 onV (paddV 0 v102) fun v103=>
 onV (ld1V v103 G H) fun v104=>
 onV (paddV 0 v95) fun v105=>
 onV (ld1V v105 G H) fun v106=>
 call n_link_Image_Slot [a6, v99, v101] H n fun v107 H n=>
 onV (ld1V v103 G H) fun v=>onB (vsame v v104) <|
 onV (ld1V v105 G H) fun v=>onB (vsame v v106) <|
 call n_link_Image_Slot [a8, v104, v106] H n fun v108 H n=>
 onV (eqV (.one .int) true v107 v108) fun v109=>
 onTst v109 true (k (.bool false) H n) (onV (B2.ev .add a83 (.int .i64 (.ofNat 1) 0)) fun v110=>
 ih91 (a6, a8, a11, a62, a63, a64, a81, a82, v110, H, n))) (s_kilnlaw14_LinkTurns_j46 lp G call k ih29 a6 a8 a11 a62 a63 a64 H n)
noncomputable def s_kilnlaw14_LinkTurns_l91b (lp : LpT) (G : Roms) (call : CallT) (k : KV) (ih29 : (V × V × V × V × V × Heap × Nat) → Prop) : ((V × V × V × V × V × V × V × V × V × Heap × Nat) → Prop) → (V × V × V × V × V × V × V × V × V × Heap × Nat) → Prop := fun ih91 s => s_kilnlaw14_LinkTurns_l91 lp G call k ih29 ih91 s.1 s.2.1 s.2.2.1 s.2.2.2.1 s.2.2.2.2.1 s.2.2.2.2.2.1 s.2.2.2.2.2.2.1 s.2.2.2.2.2.2.2.1 s.2.2.2.2.2.2.2.2.1 s.2.2.2.2.2.2.2.2.2.1 s.2.2.2.2.2.2.2.2.2.2
noncomputable def s_kilnlaw14_LinkTurns_l29 (lp : LpT) (G : Roms) (call : CallT) (k : KV) (ih29 : (V × V × V × V × V × Heap × Nat) → Prop) (a6 a8 a62 a63 a64 : V) (H : Heap) (n : Nat) : Prop :=
 onV (B2.ev .lss a64 a63) fun v30=>
 onTst v30 true (onV (iaddrV 10 a62 a64) fun v33=>
 onV (ldnV 10 v33 G H) fun v34=>
 onA (aAlloc 10 [[(.str 0 0), (.str 0 0), .nils, .nils, .nils, .nils, .nils, .nils, .nils, .nils]] E0) H n fun v35 H n=>
 stV 10 v35 v34 H n fun v36 H n=>
 onV (paddV 0 v35) fun v37=>
 onV (paddV 0 v37) fun v38=>
 onV (ld1V v38 G H) fun v39=>
 onV (paddV 0 v35) fun v40=>
 onV (paddV 0 v40) fun v41=>
 onV (ld1V v41 G H) fun v42=>
 call n_link_Image_Size [a6, v39] H n fun v43 H n=>
 onV (ld1V v41 G H) fun v=>onB (vsame v v42) <|
 call n_link_Image_Size [a8, v42] H n fun v44 H n=>
 onV (eqV (.one .int) true v43 v44) fun v45=>
 onTst v45 true (k (.bool false) H n) (onV (paddV 0 v35) fun v87=>
 onV (paddV 2 v87) fun v88=>
 onV (ld1V v88 G H) fun v89=>
 onV (lenV v89) fun v90=>
 lp (V × V × V × V × V × V × V × V × V × Heap × Nat) (s_kilnlaw14_LinkTurns_l91b lp G call k ih29) (a6, a8, v35, a62, a63, a64, v89, v90, (.int .i64 (.ofNat 0) 0), H, n))) (s_kilnlaw14_LinkTurns_j27 lp G call k H n)
noncomputable def s_kilnlaw14_LinkTurns_l29b (lp : LpT) (G : Roms) (call : CallT) (k : KV) : ((V × V × V × V × V × Heap × Nat) → Prop) → (V × V × V × V × V × Heap × Nat) → Prop := fun ih29 s => s_kilnlaw14_LinkTurns_l29 lp G call k ih29 s.1 s.2.1 s.2.2.1 s.2.2.2.1 s.2.2.2.2.1 s.2.2.2.2.2.1 s.2.2.2.2.2.2
noncomputable def s_kilnlaw14_LinkTurns (lp : LpT) (G : Roms) (call : CallT) (a0 a1 : V) (H : Heap) (n : Nat) (k : KV) : Prop :=
 call n_kilnlaw14_head [] H n fun v1 H n=>
 onV (notV v1) fun v2=>
 onTst v2 true (k (.bool false) H n) (call n_kilnlaw14_Few [a0] H n fun v3 H n=>
 onV (notV v3) fun v4=>
 onG v4 false (some a0) fun v5=>
 onG v4 false (lenV v5) fun v6=>
 onG v4 false (eqV (.one .int) false v6 (.int .i64 (.ofNat 0) 0)) fun v7=>
 onV (pickV v4 (.bool true) v7) fun v8=>
 onTst v8 true (k (.bool true) H n) (onV (B2.ev .and a1 (.int .i64 (.ofNat 255) 0)) fun v9=>
 onV (lenV a0) fun v10=>
 onV (B2.ev .rem v9 v10) fun v11=>
 onA (aBslice 10 0 [(.str 0 0), (.str 0 0), .nils, .nils, .nils, .nils, .nils, .nils, .nils, .nils] [] E0) H n fun v12 H n=>
 onV (slcV 10 a0 E0 (some (.c v11)) none none) fun v13=>
 onV (slcV 10 a0 E0 none (some (.c v11)) none) fun v14=>
 appV 10 224 v12 v13 G H n fun v15 H n=>
 appV 10 224 v15 v14 G H n fun v16 H n=>
 call n_link_Link [a0] H n fun v17 H n=>
 onV (extV v17 0) fun v18=>
 onV (extV v17 1) fun v19=>
 call n_link_Link [v16] H n fun v20 H n=>
 onV (extV v20 0) fun v21=>
 onV (extV v20 1) fun v22=>
 onV (eqV (.one .int) false v19 (.int .i64 (.ofNat 0) 0)) fun v23=>
 onV (eqV (.one .int) false v22 (.int .i64 (.ofNat 0) 0)) fun v24=>
 onV (eqV (.one .bool) true v23 v24) fun v25=>
 onTst v25 true (k (.bool false) H n) (onV (eqV (.one .int) true v19 (.int .i64 (.ofNat 0) 0)) fun v26=>
 onTst v26 true (k (.bool true) H n) (onV (lenV a0) fun v28=>
 lp (V × V × V × V × V × Heap × Nat) (s_kilnlaw14_LinkTurns_l29b lp G call k) (v18, v21, a0, v28, (.int .i64 (.ofNat 0) 0), H, n)))))
noncomputable def s_kilnlaw14_LinkMany_j5 (lp : LpT) (G : Roms) (call : CallT) (k : KV) (a0 a3 : V) (H : Heap) (n : Nat) : Prop :=
 call n_link_Link [a3] H n fun v6 H n=>
 onV (extV v6 0) fun v7=>
 onV (extV v6 1) fun v8=>
 onV (B2.ev .gtr a0 (.int .i64 (.ofNat 200) 0)) fun v9=>
 onTst v9 true (onV (eqV (.one .int) false v8 (.int .i64 (.ofNat 4) 0)) fun v10=>
 onG v10 true (some v7) fun v11=>
 onG v10 true (eqV (.one .ptr) false v11 .nilp) fun v12=>
 onV (pickV v10 v12 (.bool false)) fun v13=>
 k v13 H n) (onV (eqV (.one .int) true v8 (.int .i64 (.ofNat 0) 0)) fun v14=>
 onG v14 false (some v7) fun v15=>
 onGT v14 false (call n_link_Image_Names [v15] H n) H n fun v16 H n=>
 onG v14 false (lenV v16) fun v17=>
 onG v14 false (some a0) fun v18=>
 onG v14 false (eqV (.one .int) true v17 v18) fun v19=>
 onV (pickV v14 (.bool true) v19) fun v20=>
 onTst v20 true (k (.bool false) H n) (onV (B2.ev .gtr a0 (.int .i64 (.ofNat 0) 0)) fun v21=>
 onTst v21 true (onV (nilckV v7) fun v22=>
 onV (paddV 0 v22) fun v23=>
 onV (ld1V v23 G H) fun v24=>
 onV (B2.ev .sub a0 (.int .i64 (.ofNat 1) 0)) fun v25=>
 onV (iaddrV 10 a3 v25) fun v26=>
 onV (paddV 0 v26) fun v27=>
 onV (paddV 0 v27) fun v28=>
 onV (ld1V v28 G H) fun v29=>
 call n_hier_Table_Above [v24, v29] H n fun v30 H n=>
 onV (extV v30 0) fun v31=>
 onV (extV v30 1) fun v32=>
 onG v32 true (some v31) fun v33=>
 onG v32 true (lenV v33) fun v34=>
 onG v32 true (some a0) fun v35=>
 onG v32 true (eqV (.one .int) false v34 v35) fun v36=>
 onV (pickV v32 v36 (.bool false)) fun v37=>
 k v37 H n) (k (.bool true) H n)))
noncomputable def s_kilnlaw14_LinkMany_j53 (lp : LpT) (G : Roms) (call : CallT) (k : KV) (ih38 : (V × V × V × Heap × Nat) → Prop) (a0 a3 a4 a5 : V) (H : Heap) (n : Nat) : Prop :=
 onV (ldnV 10 a5 G H) fun v54=>
 onA (aBslice 10 1 [(.str 0 0), (.str 0 0), .nils, .nils, .nils, .nils, .nils, .nils, .nils, .nils] [(0, .c v54)] E0) H n fun v55 H n=>
 appV 10 224 a3 v55 G H n fun v56 H n=>
 onV (B2.ev .add a4 (.int .i64 (.ofNat 1) 0)) fun v57=>
 ih38 (a0, v56, v57, H, n)
noncomputable def s_kilnlaw14_LinkMany_l38 (lp : LpT) (G : Roms) (call : CallT) (k : KV) (ih38 : (V × V × V × Heap × Nat) → Prop) (a0 a3 a4 : V) (H : Heap) (n : Nat) : Prop :=
 onV (B2.ev .lss a4 a0) fun v39=>
 onTst v39 true (onV (B2.ev .quo a4 (.int .i64 (.ofNat 16) 0)) fun v40=>
 onV (cviV .u8 v40) fun v41=>
 onV (B2.ev .add (.int .u8 (.ofNat 97) 0) v41) fun v42=>
 onV (B2.ev .rem a4 (.int .i64 (.ofNat 16) 0)) fun v43=>
 onV (cviV .u8 v43) fun v44=>
 onV (B2.ev .add (.int .u8 (.ofNat 97) 0) v44) fun v45=>
 onA (aBslice 1 2 [(.int .u8 (.ofNat 0) 0)] [(0, .c v42), (1, .c v45)] E0) H n fun v46 H n=>
 onV (cvSV v46 G H) fun v47=>
 onV (B2.ev .add (.str 1 67) v47) fun v48=>
 onV (buildV [(.str 0 0), (.str 0 0), .nils, .nils] [(0, 1, .c v48)]) fun v49=>
 onV (buildV [(.str 0 0), (.str 0 0), .nils, .nils, .nils, .nils, .nils, .nils, .nils, .nils] [(0, 4, .c v49)]) fun v50=>
 onA (aAlloc 10 [[(.str 0 0), (.str 0 0), .nils, .nils, .nils, .nils, .nils, .nils, .nils, .nils]] E0) H n fun v51 H n=>
 stV 10 v51 v50 H n fun v52 H n=>
 onV (B2.ev .gtr a4 (.int .i64 (.ofNat 0) 0)) fun v58=>
 onTst v58 true (onV (B2.ev .sub a4 (.int .i64 (.ofNat 1) 0)) fun v59=>
 onV (iaddrV 10 a3 v59) fun v60=>
 onV (paddV 0 v60) fun v61=>
 onV (paddV 0 v61) fun v62=>
 onV (ld1V v62 G H) fun v63=>
 onV (paddV 0 v51) fun v64=>
 onV (paddV 1 v64) fun v65=>
 stV 1 v65 v63 H n fun v66 H n=>
 s_kilnlaw14_LinkMany_j53 lp G call k ih38 a0 a3 a4 v51 H n) (s_kilnlaw14_LinkMany_j53 lp G call k ih38 a0 a3 a4 v51 H n)) (s_kilnlaw14_LinkMany_j5 lp G call k a0 a3 H n)
noncomputable def s_kilnlaw14_LinkMany_l38b (lp : LpT) (G : Roms) (call : CallT) (k : KV) : ((V × V × V × Heap × Nat) → Prop) → (V × V × V × Heap × Nat) → Prop := fun ih38 s => s_kilnlaw14_LinkMany_l38 lp G call k ih38 s.1 s.2.1 s.2.2.1 s.2.2.2.1 s.2.2.2.2
noncomputable def s_kilnlaw14_LinkMany (lp : LpT) (G : Roms) (call : CallT) (a0 : V) (H : Heap) (n : Nat) (k : KV) : Prop :=
 call n_kilnlaw14_head [] H n fun v1 H n=>
 onV (notV v1) fun v2=>
 onTst v2 true (k (.bool false) H n) (onV (B2.ev .and a0 (.int .i64 (.ofNat 255) 0)) fun v3=>
 onA (aBslice 10 0 [(.str 0 0), (.str 0 0), .nils, .nils, .nils, .nils, .nils, .nils, .nils, .nils] [] E0) H n fun v4 H n=>
 lp (V × V × V × Heap × Nat) (s_kilnlaw14_LinkMany_l38b lp G call k) (v3, v4, (.int .i64 (.ofNat 0) 0), H, n))
noncomputable def s_kilnlaw14_LinkErrors_j21 (lp : LpT) (G : Roms) (call : CallT) (k : KV) (a3 : V) (H : Heap) (n : Nat) : Prop :=
 call n_link_Image_File [a3, (.str 7 29382753671737198)] H n fun v22 H n=>
 onV (extV v22 0) fun v23=>
 onV (extV v22 1) fun v24=>
 onA (aAlloc 10 [[(.str 0 0), (.str 0 0), .nils, .nils, .nils, .nils, .nils, .nils, .nils, .nils]] E0) H n fun v25 H n=>
 stV 10 v25 v23 H n fun v26 H n=>
 call n_link_Image_Body [a3, (.str 7 29382753671737198), (.str 1 109)] H n fun v27 H n=>
 onV (extV v27 0) fun v28=>
 onV (extV v27 1) fun v29=>
 onA (aAlloc 3 [[(.int .i64 (.ofNat 0) 0), (.int .i64 (.ofNat 0) 0), .nils]] E0) H n fun v30 H n=>
 stV 3 v30 v28 H n fun v31 H n=>
 onV (notV v24) fun v32=>
 onG v32 true (some v29) fun v33=>
 onG v32 true (notV v33) fun v34=>
 onV (pickV v32 v34 (.bool false)) fun v35=>
 k v35 H n
noncomputable def s_kilnlaw14_LinkErrors_j39 (lp : LpT) (G : Roms) (call : CallT) (k : KV) (ih37 : (V × V × V × V × V × Heap × Nat) → Prop) (a3 a5 a54 a55 a56 : V) (H : Heap) (n : Nat) : Prop :=
 onV (B2.ev .add a56 (.int .i64 (.ofNat 1) 0)) fun v40=>
 ih37 (a3, a5, a54, a55, v40, H, n)
noncomputable def s_kilnlaw14_LinkErrors_l72 (lp : LpT) (G : Roms) (call : CallT) (k : KV) (ih37 : (V × V × V × V × V × Heap × Nat) → Prop) (ih72 : (V × V × V × V × V × V × V × V × Heap × Nat) → Prop) (a3 a5 a54 a55 a56 a135 a136 a137 : V) (H : Heap) (n : Nat) : Prop :=
 onV (B2.ev .lss a137 a136) fun v73=>
 onTst v73 true (onV (iaddrV 6 a135 a137) fun v74=>
 onV (ldnV 6 v74 G H) fun v75=>
 onA (aAlloc 6 [[(.str 0 0), (.bool false), .nils, (.str 0 0), (.bool false), (.str 0 0)]] E0) H n fun v76 H n=>
 stV 6 v76 v75 H n fun v77 H n=>
 onV (ldnV 6 v76 G H) fun v78=>
 call n_link_Image_Find [a3, v78] H n fun v79 H n=>
 onV (extV v79 0) fun v80=>
 onV (extV v79 1) fun v81=>
 onV (nilckV a3) fun v82=>
 onV (paddV 0 v82) fun v83=>
 onV (ld1V v83 G H) fun v84=>
 onV (ldnV 6 v76 G H) fun v85=>
 call n_kilnlaw14_find [v84, v85] H n fun v86 H n=>
 onV (extV v86 0) fun v87=>
 onV (extV v86 1) fun v88=>
 onV (eqV (.one .str) true v80 v87) fun v89=>
 onG v89 false (some v81) fun v90=>
 onG v89 false (notV v90) fun v91=>
 onV (pickV v89 (.bool true) v91) fun v92=>
 onG v92 false (some v88) fun v93=>
 onG v92 false (notV v93) fun v94=>
 onV (pickV v92 (.bool true) v94) fun v95=>
 onTst v95 true (k (.bool false) H n) (onV (B2.ev .add a137 (.int .i64 (.ofNat 1) 0)) fun v96=>
 ih72 (a3, a5, a54, a55, a56, a135, a136, v96, H, n))) (s_kilnlaw14_LinkErrors_j39 lp G call k ih37 a3 a5 a54 a55 a56 H n)
noncomputable def s_kilnlaw14_LinkErrors_l72b (lp : LpT) (G : Roms) (call : CallT) (k : KV) (ih37 : (V × V × V × V × V × Heap × Nat) → Prop) : ((V × V × V × V × V × V × V × V × Heap × Nat) → Prop) → (V × V × V × V × V × V × V × V × Heap × Nat) → Prop := fun ih72 s => s_kilnlaw14_LinkErrors_l72 lp G call k ih37 ih72 s.1 s.2.1 s.2.2.1 s.2.2.2.1 s.2.2.2.2.1 s.2.2.2.2.2.1 s.2.2.2.2.2.2.1 s.2.2.2.2.2.2.2.1 s.2.2.2.2.2.2.2.2.1 s.2.2.2.2.2.2.2.2.2
noncomputable def s_kilnlaw14_LinkErrors_j67 (lp : LpT) (G : Roms) (call : CallT) (k : KV) (ih37 : (V × V × V × V × V × Heap × Nat) → Prop) (a3 a5 a7 a54 a55 a56 : V) (H : Heap) (n : Nat) : Prop :=
 onV (paddV 4 a7) fun v68=>
 onV (paddV 4 v68) fun v69=>
 onV (ld1V v69 G H) fun v70=>
 onV (lenV v70) fun v71=>
 lp (V × V × V × V × V × V × V × V × Heap × Nat) (s_kilnlaw14_LinkErrors_l72b lp G call k ih37) (a3, a5, a54, a55, a56, v70, v71, (.int .i64 (.ofNat 0) 0), H, n)
noncomputable def s_kilnlaw14_LinkErrors_l101 (lp : LpT) (G : Roms) (call : CallT) (k : KV) (ih37 : (V × V × V × V × V × Heap × Nat) → Prop) (ih101 : (V × V × V × V × V × V × V × V × V × Heap × Nat) → Prop) (a3 a5 a7 a54 a55 a56 a89 a90 a91 : V) (H : Heap) (n : Nat) : Prop :=
 onV (B2.ev .lss a91 a90) fun v102=>
 onTst v102 true (onV (iaddrV 5 a89 a91) fun v103=>
 onV (ldnV 5 v103 G H) fun v104=>
 onA (aAlloc 5 [[(.str 0 0), (.bool false), .nils, (.str 0 0), (.bool false)]] E0) H n fun v105 H n=>
 stV 5 v105 v104 H n fun v106 H n=>
 onV (paddV 0 a7) fun v107=>
 onV (paddV 0 v107) fun v108=>
 onV (ld1V v108 G H) fun v109=>
 onV (paddV 0 v105) fun v110=>
 onV (ld1V v110 G H) fun v111=>
 call n_link_Image_Body [a3, v109, v111] H n fun v112 H n=>
 onV (extV v112 0) fun v113=>
 onV (extV v112 1) fun v114=>
 onA (aAlloc 3 [[(.int .i64 (.ofNat 0) 0), (.int .i64 (.ofNat 0) 0), .nils]] E0) H n fun v115 H n=>
 stV 3 v115 v113 H n fun v116 H n=>
 onV (notV v114) fun v117=>
 onG v117 false (paddV 2 v115) fun v118=>
 onG v117 false (ld1V v118 G H) fun v119=>
 onG v117 false (lenV v119) fun v120=>
 onG v117 false (paddV 9 a7) fun v121=>
 onG v117 false (ld1V v121 G H) fun v122=>
 onG v117 false (some a91) fun v123=>
 onG v117 false (iaddrV 3 v122 v123) fun v124=>
 onG v117 false (paddV 2 v124) fun v125=>
 onG v117 false (ld1V v125 G H) fun v126=>
 onG v117 false (lenV v126) fun v127=>
 onG v117 false (eqV (.one .int) true v120 v127) fun v128=>
 onV (pickV v117 (.bool true) v128) fun v129=>
 onG v129 false (paddV 0 v115) fun v130=>
 onG v129 false (ld1V v130 G H) fun v131=>
 onG v129 false (paddV 9 a7) fun v132=>
 onG v129 false (ld1V v132 G H) fun v133=>
 onG v129 false (some a91) fun v134=>
 onG v129 false (iaddrV 3 v133 v134) fun v135=>
 onG v129 false (paddV 0 v135) fun v136=>
 onG v129 false (ld1V v136 G H) fun v137=>
 onG v129 false (eqV (.one .int) true v131 v137) fun v138=>
 onV (pickV v129 (.bool true) v138) fun v139=>
 onTst v139 true (k (.bool false) H n) (onV (B2.ev .add a91 (.int .i64 (.ofNat 1) 0)) fun v140=>
 ih101 (a3, a5, a7, a54, a55, a56, a89, a90, v140, H, n))) (s_kilnlaw14_LinkErrors_j67 lp G call k ih37 a3 a5 a7 a54 a55 a56 H n)
noncomputable def s_kilnlaw14_LinkErrors_l101b (lp : LpT) (G : Roms) (call : CallT) (k : KV) (ih37 : (V × V × V × V × V × Heap × Nat) → Prop) : ((V × V × V × V × V × V × V × V × V × Heap × Nat) → Prop) → (V × V × V × V × V × V × V × V × V × Heap × Nat) → Prop := fun ih101 s => s_kilnlaw14_LinkErrors_l101 lp G call k ih37 ih101 s.1 s.2.1 s.2.2.1 s.2.2.2.1 s.2.2.2.2.1 s.2.2.2.2.2.1 s.2.2.2.2.2.2.1 s.2.2.2.2.2.2.2.1 s.2.2.2.2.2.2.2.2.1 s.2.2.2.2.2.2.2.2.2.1 s.2.2.2.2.2.2.2.2.2.2
noncomputable def s_kilnlaw14_LinkErrors_l37 (lp : LpT) (G : Roms) (call : CallT) (k : KV) (ih37 : (V × V × V × V × V × Heap × Nat) → Prop) (a3 a5 a54 a55 a56 : V) (H : Heap) (n : Nat) : Prop :=
 onV (B2.ev .lss a56 a55) fun v38=>
 onTst v38 true (onV (iaddrV 10 a54 a56) fun v41=>
 onV (ldnV 10 v41 G H) fun v42=>
 onA (aAlloc 10 [[(.str 0 0), (.str 0 0), .nils, .nils, .nils, .nils, .nils, .nils, .nils, .nils]] E0) H n fun v43 H n=>
 stV 10 v43 v42 H n fun v44 H n=>
 onV (paddV 0 v43) fun v45=>
 onV (paddV 0 v45) fun v46=>
 onV (ld1V v46 G H) fun v47=>
 call n_link_Image_File [a3, v47] H n fun v48 H n=>
 onV (extV v48 0) fun v49=>
 onV (extV v48 1) fun v50=>
 onA (aAlloc 10 [[(.str 0 0), (.str 0 0), .nils, .nils, .nils, .nils, .nils, .nils, .nils, .nils]] E0) H n fun v51 H n=>
 stV 10 v51 v49 H n fun v52 H n=>
 onV (iaddrV 1 a5 a56) fun v53=>
 onV (ld1V v53 G H) fun v54=>
 onV (paddV 0 v43) fun v55=>
 onV (paddV 0 v55) fun v56=>
 onV (ld1V v56 G H) fun v57=>
 onV (eqV (.one .str) true v54 v57) fun v58=>
 onG v58 false (some v50) fun v59=>
 onG v58 false (notV v59) fun v60=>
 onV (pickV v58 (.bool true) v60) fun v61=>
 onG v61 false (ldnV 10 v43 G H) fun v62=>
 onG v61 false (ldnV 10 v51 G H) fun v63=>
 onGT v61 false (call n_kilnlaw12_Same [v62, v63] H n) H n fun v64 H n=>
 onG v61 false (notV v64) fun v65=>
 onV (pickV v61 (.bool true) v65) fun v66=>
 onTst v66 true (k (.bool false) H n) (onV (paddV 0 v43) fun v97=>
 onV (paddV 3 v97) fun v98=>
 onV (ld1V v98 G H) fun v99=>
 onV (lenV v99) fun v100=>
 lp (V × V × V × V × V × V × V × V × V × Heap × Nat) (s_kilnlaw14_LinkErrors_l101b lp G call k ih37) (a3, a5, v43, a54, a55, a56, v99, v100, (.int .i64 (.ofNat 0) 0), H, n))) (s_kilnlaw14_LinkErrors_j21 lp G call k a3 H n)
noncomputable def s_kilnlaw14_LinkErrors_l37b (lp : LpT) (G : Roms) (call : CallT) (k : KV) : ((V × V × V × V × V × Heap × Nat) → Prop) → (V × V × V × V × V × Heap × Nat) → Prop := fun ih37 s => s_kilnlaw14_LinkErrors_l37 lp G call k ih37 s.1 s.2.1 s.2.2.1 s.2.2.2.1 s.2.2.2.2.1 s.2.2.2.2.2.1 s.2.2.2.2.2.2
noncomputable def s_kilnlaw14_LinkErrors (lp : LpT) (G : Roms) (call : CallT) (a0 : V) (H : Heap) (n : Nat) (k : KV) : Prop :=
 call n_kilnlaw14_head [] H n fun v1 H n=>
 onV (notV v1) fun v2=>
 onTst v2 true (k (.bool false) H n) (call n_kilnlaw14_Few [a0] H n fun v3 H n=>
 onV (notV v3) fun v4=>
 onTst v4 true (k (.bool true) H n) (call n_link_Link [a0] H n fun v5 H n=>
 onV (extV v5 0) fun v6=>
 onV (extV v5 1) fun v7=>
 call n_kilnlaw14_check [a0] H n fun v8 H n=>
 onV (eqV (.one .int) true v7 v8) fun v9=>
 onG v9 false (some v6) fun v10=>
 onG v9 false (eqV (.one .ptr) false v10 .nilp) fun v11=>
 onG v9 false (some v7) fun v12=>
 onG v9 false (eqV (.one .int) true v12 (.int .i64 (.ofNat 0) 0)) fun v13=>
 onG v9 false (eqV (.one .bool) true v11 v13) fun v14=>
 onV (pickV v9 (.bool true) v14) fun v15=>
 onTst v15 true (k (.bool false) H n) (onV (eqV (.one .int) true v7 (.int .i64 (.ofNat 0) 0)) fun v16=>
 onTst v16 true (k (.bool true) H n) (call n_link_Image_Names [v6] H n fun v17 H n=>
 onV (lenV v17) fun v18=>
 onV (lenV a0) fun v19=>
 onV (eqV (.one .int) true v18 v19) fun v20=>
 onTst v20 true (k (.bool false) H n) (onV (lenV a0) fun v36=>
 lp (V × V × V × V × V × Heap × Nat) (s_kilnlaw14_LinkErrors_l37b lp G call k) (v6, v17, a0, v36, (.int .i64 (.ofNat 0) 0), H, n))))))
noncomputable def s_kilnlaw14_head (lp : LpT) (G : Roms) (call : CallT) (H : Heap) (n : Nat) (k : KV) : Prop :=
 callvV (.fn 36 [] []) [(.str 1 120)] call H n fun v1 H n=>
 callvV (.fn 36 [] []) [(.str 1 121)] call H n fun v2 H n=>
 onA (aBslice 3 2 [(.str 0 0), (.str 0 0), (.bool false)] [(0, .c v1), (1, .c v2)] E0) H n fun v3 H n=>
 onV (buildV [(.str 0 0), (.str 0 0), .nils, .nils] [(0, 1, .c (.str 1 65)), (2, 1, .c v3)]) fun v4=>
 onV (buildV [(.str 0 0), (.str 0 0), .nils, .nils, .nils, .nils, .nils, .nils, .nils, .nils] [(0, 4, .c v4)]) fun v5=>
 callvV (.fn 36 [] []) [(.str 1 122)] call H n fun v6 H n=>
 onA (aBslice 3 1 [(.str 0 0), (.str 0 0), (.bool false)] [(0, .c v6)] E0) H n fun v7 H n=>
 onV (buildV [(.str 0 0), (.str 0 0), .nils, .nils] [(0, 1, .c (.str 1 66)), (1, 1, .c (.str 1 65)), (2, 1, .c v7)]) fun v8=>
 onV (buildV [(.str 0 0), (.str 0 0), .nils, .nils, .nils, .nils, .nils, .nils, .nils, .nils] [(0, 4, .c v8)]) fun v9=>
 onA (aBslice 10 2 [(.str 0 0), (.str 0 0), .nils, .nils, .nils, .nils, .nils, .nils, .nils, .nils] [(0, .c v5), (1, .c v9)] E0) H n fun v10 H n=>
 call n_link_Link [v10] H n fun v11 H n=>
 onV (extV v11 0) fun v12=>
 onV (extV v11 1) fun v13=>
 onV (eqV (.one .int) false v13 (.int .i64 (.ofNat 0) 0)) fun v14=>
 onG v14 true (some v12) fun v15=>
 onGT v14 true (call n_link_Image_Size [v15, (.str 1 66)] H n) H n fun v16 H n=>
 onG v14 true (eqV (.one .int) false v16 (.int .i64 (.ofNat 3) 0)) fun v17=>
 onV (pickV v14 v17 (.bool false)) fun v18=>
 onG v18 true (some v12) fun v19=>
 onGT v18 true (call n_link_Image_Slot [v19, (.str 1 66), (.str 1 122)] H n) H n fun v20 H n=>
 onG v18 true (eqV (.one .int) false v20 (.int .i64 (.ofNat 2) 0)) fun v21=>
 onV (pickV v18 v21 (.bool false)) fun v22=>
 onG v22 true (some v12) fun v23=>
 onGT v22 true (call n_link_Image_Slot [v23, (.str 1 66), (.str 1 120)] H n) H n fun v24 H n=>
 onG v22 true (eqV (.one .int) false v24 (.int .i64 (.ofNat 0) 0)) fun v25=>
 onV (pickV v22 v25 (.bool false)) fun v26=>
 k v26 H n
noncomputable def s_kilnlaw14_Few_j1 (lp : LpT) (G : Roms) (call : CallT) (k : KV) (a0 : V) (H : Heap) (n : Nat) : Prop :=
 onV (lenV a0) fun v2=>
 onV (B2.ev .leq v2 (.int .i64 (.ofNat 8) 0)) fun v3=>
 k v3 H n
noncomputable def s_kilnlaw14_Few_l5 (lp : LpT) (G : Roms) (call : CallT) (k : KV) (ih5 : (V × V × V × V × Heap × Nat) → Prop) (a0 a5 a6 a7 : V) (H : Heap) (n : Nat) : Prop :=
 onV (B2.ev .lss a7 a6) fun v6=>
 onTst v6 true (onV (iaddrV 10 a5 a7) fun v7=>
 onV (ldnV 10 v7 G H) fun v8=>
 onA (aAlloc 10 [[(.str 0 0), (.str 0 0), .nils, .nils, .nils, .nils, .nils, .nils, .nils, .nils]] E0) H n fun v9 H n=>
 stV 10 v9 v8 H n fun v10 H n=>
 onV (ldnV 10 v9 G H) fun v11=>
 call n_kilnlaw12_Few [v11] H n fun v12 H n=>
 onV (notV v12) fun v13=>
 onTst v13 true (k (.bool false) H n) (onV (B2.ev .add a7 (.int .i64 (.ofNat 1) 0)) fun v14=>
 ih5 (a0, a5, a6, v14, H, n))) (s_kilnlaw14_Few_j1 lp G call k a0 H n)
noncomputable def s_kilnlaw14_Few_l5b (lp : LpT) (G : Roms) (call : CallT) (k : KV) : ((V × V × V × V × Heap × Nat) → Prop) → (V × V × V × V × Heap × Nat) → Prop := fun ih5 s => s_kilnlaw14_Few_l5 lp G call k ih5 s.1 s.2.1 s.2.2.1 s.2.2.2.1 s.2.2.2.2.1 s.2.2.2.2.2
noncomputable def s_kilnlaw14_Few (lp : LpT) (G : Roms) (call : CallT) (a0 : V) (H : Heap) (n : Nat) (k : KV) : Prop :=
 onV (lenV a0) fun v4=>
 lp (V × V × V × V × Heap × Nat) (s_kilnlaw14_Few_l5b lp G call k) (a0, a0, v4, (.int .i64 (.ofNat 0) 0), H, n)
noncomputable def s_link_Link_j11 (lp : LpT) (G : Roms) (call : CallT) (k : KV) (a5 : V) (H : Heap) (n : Nat) : Prop :=
 k (.tup [a5, (.int .i64 (.ofNat 0) 0)]) H n
noncomputable def s_link_Link_l13 (lp : LpT) (G : Roms) (call : CallT) (k : KV) (ih13 : (V × V × V × V × Heap × Nat) → Prop) (a5 a73 a74 a75 : V) (H : Heap) (n : Nat) : Prop :=
 onV (B2.ev .lss a75 a74) fun v14=>
 onTst v14 true (onV (iaddrV 10 a73 a75) fun v15=>
 onV (ldnV 10 v15 G H) fun v16=>
 onA (aAlloc 10 [[(.str 0 0), (.str 0 0), .nils, .nils, .nils, .nils, .nils, .nils, .nils, .nils]] E0) H n fun v17 H n=>
 stV 10 v17 v16 H n fun v18 H n=>
 onV (nilckV a5) fun v19=>
 onV (paddV 0 v19) fun v20=>
 onV (ld1V v20 G H) fun v21=>
 onV (paddV 0 v17) fun v22=>
 onV (paddV 0 v22) fun v23=>
 onV (ld1V v23 G H) fun v24=>
 call n_hier_Table_Check [v21, v24] H n fun v25 H n=>
 onV (eqV (.one .int) true v25 (.int .i64 (.ofNat 0) 0)) fun v26=>
 onTst v26 true (k (.tup [.nilp, v25]) H n) (onV (paddV 4 v17) fun v27=>
 onV (ldnV 5 v27 G H) fun v28=>
 call n_link_Image_pool [a5, v28] H n fun v29 H n=>
 onV (notV v29) fun v30=>
 onTst v30 true (k (.tup [.nilp, (.int .i64 (.ofNat 30) 0)]) H n) (onV (B2.ev .add a75 (.int .i64 (.ofNat 1) 0)) fun v31=>
 ih13 (a5, a73, a74, v31, H, n)))) (s_link_Link_j11 lp G call k a5 H n)
noncomputable def s_link_Link_l13b (lp : LpT) (G : Roms) (call : CallT) (k : KV) : ((V × V × V × V × Heap × Nat) → Prop) → (V × V × V × V × Heap × Nat) → Prop := fun ih13 s => s_link_Link_l13 lp G call k ih13 s.1 s.2.1 s.2.2.1 s.2.2.2.1 s.2.2.2.2.1 s.2.2.2.2.2
noncomputable def s_link_Link_j6 (lp : LpT) (G : Roms) (call : CallT) (k : KV) (a0 a4 a5 : V) (H : Heap) (n : Nat) : Prop :=
 call n_hier_New [a4] H n fun v7 H n=>
 onV (nilckV a5) fun v8=>
 onV (paddV 0 v8) fun v9=>
 stV 1 v9 v7 H n fun v10 H n=>
 onV (lenV a0) fun v12=>
 lp (V × V × V × V × Heap × Nat) (s_link_Link_l13b lp G call k) (a5, a0, v12, (.int .i64 (.ofNat 0) 0), H, n)
noncomputable def s_link_Link_l33 (lp : LpT) (G : Roms) (call : CallT) (k : KV) (ih33 : (V × V × V × V × V × V × Heap × Nat) → Prop) (a0 a4 a5 a19 a20 a21 : V) (H : Heap) (n : Nat) : Prop :=
 onV (B2.ev .lss a21 a20) fun v34=>
 onTst v34 true (onV (iaddrV 10 a19 a21) fun v35=>
 onV (ldnV 10 v35 G H) fun v36=>
 onA (aAlloc 10 [[(.str 0 0), (.str 0 0), .nils, .nils, .nils, .nils, .nils, .nils, .nils, .nils]] E0) H n fun v37 H n=>
 stV 10 v37 v36 H n fun v38 H n=>
 onV (nilckV a5) fun v39=>
 onV (paddV 1 v39) fun v40=>
 onV (ld1V v40 G H) fun v41=>
 onV (paddV 0 v37) fun v42=>
 onV (paddV 0 v42) fun v43=>
 onV (ld1V v43 G H) fun v44=>
 onV (lookV .str true (.agg [(.str 0 0), (.str 0 0), .nils, .nils, .nils, .nils, .nils, .nils, .nils, .nils]) v41 v44 H) fun v45=>
 onV (extV v45 0) fun v46=>
 onV (extV v45 1) fun v47=>
 onA (aAlloc 10 [[(.str 0 0), (.str 0 0), .nils, .nils, .nils, .nils, .nils, .nils, .nils, .nils]] E0) H n fun v48 H n=>
 stV 10 v48 v46 H n fun v49 H n=>
 onV (ldnV 10 v37 G H) fun v50=>
 call n_class_File_Right [v50] H n fun v51 H n=>
 onV (notV v51) fun v52=>
 onTst v52 true (k (.tup [.nilp, (.int .i64 (.ofNat 2) 0)]) H n) (onTst v47 true (k (.tup [.nilp, (.int .i64 (.ofNat 6) 0)]) H n) (onV (nilckV a5) fun v53=>
 onV (paddV 1 v53) fun v54=>
 onV (ld1V v54 G H) fun v55=>
 onV (paddV 0 v37) fun v56=>
 onV (paddV 0 v56) fun v57=>
 onV (ld1V v57 G H) fun v58=>
 onV (ldnV 10 v37 G H) fun v59=>
 updV .str v55 v58 v59 H n fun v60 H n=>
 onV (nilckV a5) fun v61=>
 onV (paddV 2 v61) fun v62=>
 onV (ld1V v62 G H) fun v63=>
 onV (paddV 0 v37) fun v64=>
 onV (paddV 0 v64) fun v65=>
 onV (ld1V v65 G H) fun v66=>
 onA (aBslice 1 1 [(.str 0 0)] [(0, .c v66)] E0) H n fun v67 H n=>
 appV 1 16 v63 v67 G H n fun v68 H n=>
 onV (nilckV a5) fun v69=>
 onV (paddV 2 v69) fun v70=>
 stV 1 v70 v68 H n fun v71 H n=>
 onV (paddV 0 v37) fun v72=>
 onV (ldnV 4 v72 G H) fun v73=>
 onA (aBslice 4 1 [(.str 0 0), (.str 0 0), .nils, .nils] [(0, .c v73)] E0) H n fun v74 H n=>
 appV 4 80 a4 v74 G H n fun v75 H n=>
 onV (B2.ev .add a21 (.int .i64 (.ofNat 1) 0)) fun v76=>
 ih33 (a0, v75, a5, a19, a20, v76, H, n)))) (s_link_Link_j6 lp G call k a0 a4 a5 H n)
noncomputable def s_link_Link_l33b (lp : LpT) (G : Roms) (call : CallT) (k : KV) : ((V × V × V × V × V × V × Heap × Nat) → Prop) → (V × V × V × V × V × V × Heap × Nat) → Prop := fun ih33 s => s_link_Link_l33 lp G call k ih33 s.1 s.2.1 s.2.2.1 s.2.2.2.1 s.2.2.2.2.1 s.2.2.2.2.2.1 s.2.2.2.2.2.2.1 s.2.2.2.2.2.2.2
noncomputable def s_link_Link (lp : LpT) (G : Roms) (call : CallT) (a0 : V) (H : Heap) (n : Nat) (k : KV) : Prop :=
 onV (lenV a0) fun v1=>
 onV (B2.ev .gtr v1 (.int .i64 (.ofNat 200) 0)) fun v2=>
 onTst v2 true (k (.tup [.nilp, (.int .i64 (.ofNat 4) 0)]) H n) (onA (aMkmap E0) H n fun v3 H n=>
 onV (buildV [.nilp, .nilm, .nils] [(1, 1, .c v3)]) fun v4=>
 onA (aBoxV v4) H n fun v5 H n=>
 onV (lenV a0) fun v32=>
 lp (V × V × V × V × V × V × Heap × Nat) (s_link_Link_l33b lp G call k) (a0, .nils, v5, a0, v32, (.int .i64 (.ofNat 0) 0), H, n))
noncomputable def s_link_Image_Size_j7 (lp : LpT) (G : Roms) (call : CallT) (k : KV) (a5 : V) (H : Heap) (n : Nat) : Prop :=
 k a5 H n
noncomputable def s_link_Image_Size_l9 (lp : LpT) (G : Roms) (call : CallT) (k : KV) (ih9 : (V × V × V × V × V × Heap × Nat) → Prop) (a0 a5 a21 a22 a23 : V) (H : Heap) (n : Nat) : Prop :=
 onV (B2.ev .lss a23 a22) fun v10=>
 onTst v10 true (onV (iaddrV 1 a21 a23) fun v11=>
 onV (ld1V v11 G H) fun v12=>
 onV (nilckV a0) fun v13=>
 onV (paddV 0 v13) fun v14=>
 onV (ld1V v14 G H) fun v15=>
 call n_hier_Table_Face [v15, v12] H n fun v16 H n=>
 onV (extV v16 0) fun v17=>
 onV (extV v16 1) fun v18=>
 onA (aAlloc 4 [[(.str 0 0), (.str 0 0), .nils, .nils]] E0) H n fun v19 H n=>
 stV 4 v19 v17 H n fun v20 H n=>
 onV (paddV 2 v19) fun v21=>
 onV (ld1V v21 G H) fun v22=>
 onV (lenV v22) fun v23=>
 onV (B2.ev .add a5 v23) fun v24=>
 onV (B2.ev .add a23 (.int .i64 (.ofNat 1) 0)) fun v25=>
 ih9 (a0, v24, a21, a22, v25, H, n)) (s_link_Image_Size_j7 lp G call k a5 H n)
noncomputable def s_link_Image_Size_l9b (lp : LpT) (G : Roms) (call : CallT) (k : KV) : ((V × V × V × V × V × Heap × Nat) → Prop) → (V × V × V × V × V × Heap × Nat) → Prop := fun ih9 s => s_link_Image_Size_l9 lp G call k ih9 s.1 s.2.1 s.2.2.1 s.2.2.2.1 s.2.2.2.2.1 s.2.2.2.2.2.1 s.2.2.2.2.2.2
noncomputable def s_link_Image_Size (lp : LpT) (G : Roms) (call : CallT) (a0 a1 : V) (H : Heap) (n : Nat) (k : KV) : Prop :=
 onV (nilckV a0) fun v1=>
 onV (paddV 0 v1) fun v2=>
 onV (ld1V v2 G H) fun v3=>
 call n_hier_Table_Above [v3, a1] H n fun v4 H n=>
 onV (extV v4 0) fun v5=>
 onV (extV v4 1) fun v6=>
 onV (lenV v5) fun v8=>
 lp (V × V × V × V × V × Heap × Nat) (s_link_Image_Size_l9b lp G call k) (a0, (.int .i64 (.ofNat 0) 0), v5, v8, (.int .i64 (.ofNat 0) 0), H, n)
noncomputable def s_link_Image_Slot_j21 (lp : LpT) (G : Roms) (call : CallT) (k : KV) (H : Heap) (n : Nat) : Prop :=
 k (.int .i64 (.negSucc 0) 0) H n
noncomputable def s_link_Image_Slot_l25 (lp : LpT) (G : Roms) (call : CallT) (k : KV) (ih25 : (V × V × V × V × V × Heap × Nat) → Prop) (a2 a12 a40 a41 a42 : V) (H : Heap) (n : Nat) : Prop :=
 onV (B2.ev .lss a42 a41) fun v26=>
 onTst v26 true (onV (iaddrV 3 a40 a42) fun v27=>
 onV (ldnV 3 v27 G H) fun v28=>
 onA (aAlloc 3 [[(.str 0 0), (.str 0 0), (.bool false)]] E0) H n fun v29 H n=>
 stV 3 v29 v28 H n fun v30 H n=>
 onV (paddV 0 v29) fun v31=>
 onV (ld1V v31 G H) fun v32=>
 onV (eqV (.one .str) false v32 a2) fun v33=>
 onTst v33 true (onV (B2.ev .add a12 a42) fun v34=>
 k v34 H n) (onV (B2.ev .add a42 (.int .i64 (.ofNat 1) 0)) fun v35=>
 ih25 (a2, a12, a40, a41, v35, H, n))) (s_link_Image_Slot_j21 lp G call k H n)
noncomputable def s_link_Image_Slot_l25b (lp : LpT) (G : Roms) (call : CallT) (k : KV) : ((V × V × V × V × V × Heap × Nat) → Prop) → (V × V × V × V × V × Heap × Nat) → Prop := fun ih25 s => s_link_Image_Slot_l25 lp G call k ih25 s.1 s.2.1 s.2.2.1 s.2.2.2.1 s.2.2.2.2.1 s.2.2.2.2.2.1 s.2.2.2.2.2.2
noncomputable def s_link_Image_Slot (lp : LpT) (G : Roms) (call : CallT) (a0 a1 a2 : V) (H : Heap) (n : Nat) (k : KV) : Prop :=
 onV (nilckV a0) fun v1=>
 onV (paddV 0 v1) fun v2=>
 onV (ld1V v2 G H) fun v3=>
 call n_hier_Table_Field [v3, a1, a2] H n fun v4 H n=>
 onV (extV v4 0) fun v5=>
 onV (extV v4 1) fun v6=>
 onV (extV v4 2) fun v7=>
 onA (aAlloc 2 [[(.str 0 0), (.bool false)]] E0) H n fun v8 H n=>
 stV 2 v8 v6 H n fun v9 H n=>
 onV (nilckV a0) fun v10=>
 onV (paddV 0 v10) fun v11=>
 onV (ld1V v11 G H) fun v12=>
 call n_hier_Table_Face [v12, v5] H n fun v13 H n=>
 onV (extV v13 0) fun v14=>
 onV (extV v13 1) fun v15=>
 onA (aAlloc 4 [[(.str 0 0), (.str 0 0), .nils, .nils]] E0) H n fun v16 H n=>
 stV 4 v16 v14 H n fun v17 H n=>
 onV (paddV 1 v16) fun v18=>
 onV (ld1V v18 G H) fun v19=>
 call n_link_Image_Size [a0, v19] H n fun v20 H n=>
 onV (paddV 2 v16) fun v22=>
 onV (ld1V v22 G H) fun v23=>
 onV (lenV v23) fun v24=>
 lp (V × V × V × V × V × Heap × Nat) (s_link_Image_Slot_l25b lp G call k) (a2, v20, v23, v24, (.int .i64 (.ofNat 0) 0), H, n)
noncomputable def s_link_Image_Find_j10 (lp : LpT) (G : Roms) (call : CallT) (k : KV) (H : Heap) (n : Nat) : Prop :=
 k (.tup [(.str 0 0), (.bool false)]) H n
noncomputable def s_link_Image_Find_l12 (lp : LpT) (G : Roms) (call : CallT) (k : KV) (ih12 : (V × V × V × V × V × Heap × Nat) → Prop) (a0 a3 a24 a25 a26 : V) (H : Heap) (n : Nat) : Prop :=
 onV (B2.ev .lss a26 a25) fun v13=>
 onTst v13 true (onV (iaddrV 1 a24 a26) fun v14=>
 onV (ld1V v14 G H) fun v15=>
 onV (nilckV a0) fun v16=>
 onV (paddV 0 v16) fun v17=>
 onV (ld1V v17 G H) fun v18=>
 call n_hier_Table_Face [v18, v15] H n fun v19 H n=>
 onV (extV v19 0) fun v20=>
 onV (extV v19 1) fun v21=>
 onA (aAlloc 4 [[(.str 0 0), (.str 0 0), .nils, .nils]] E0) H n fun v22 H n=>
 stV 4 v22 v20 H n fun v23 H n=>
 onV (ldnV 4 v22 G H) fun v24=>
 onV (paddV 0 a3) fun v25=>
 onV (paddV 0 v25) fun v26=>
 onV (ld1V v26 G H) fun v27=>
 call n_face_Face_Method [v24, v27] H n fun v28 H n=>
 onV (extV v28 0) fun v29=>
 onV (extV v28 1) fun v30=>
 onA (aAlloc 5 [[(.str 0 0), (.bool false), .nils, (.str 0 0), (.bool false)]] E0) H n fun v31 H n=>
 stV 5 v31 v29 H n fun v32 H n=>
 onG v30 true (ldnV 5 v31 G H) fun v33=>
 onG v30 true (paddV 0 a3) fun v34=>
 onG v30 true (ldnV 5 v34 G H) fun v35=>
 onGT v30 true (call n_face_Sig_Same [v33, v35] H n) H n fun v36 H n=>
 onV (pickV v30 v36 (.bool false)) fun v37=>
 onTst v37 true (k (.tup [v15, (.bool true)]) H n) (onV (B2.ev .add a26 (.int .i64 (.ofNat 1) 0)) fun v38=>
 ih12 (a0, a3, a24, a25, v38, H, n))) (s_link_Image_Find_j10 lp G call k H n)
noncomputable def s_link_Image_Find_l12b (lp : LpT) (G : Roms) (call : CallT) (k : KV) : ((V × V × V × V × V × Heap × Nat) → Prop) → (V × V × V × V × V × Heap × Nat) → Prop := fun ih12 s => s_link_Image_Find_l12 lp G call k ih12 s.1 s.2.1 s.2.2.1 s.2.2.2.1 s.2.2.2.2.1 s.2.2.2.2.2.1 s.2.2.2.2.2.2
noncomputable def s_link_Image_Find (lp : LpT) (G : Roms) (call : CallT) (a0 a1 : V) (H : Heap) (n : Nat) (k : KV) : Prop :=
 onA (aBoxV a1) H n fun v1 H n=>
 onV (nilckV a0) fun v2=>
 onV (paddV 0 v2) fun v3=>
 onV (ld1V v3 G H) fun v4=>
 onV (paddV 5 v1) fun v5=>
 onV (ld1V v5 G H) fun v6=>
 call n_hier_Table_Above [v4, v6] H n fun v7 H n=>
 onV (extV v7 0) fun v8=>
 onV (extV v7 1) fun v9=>
 onV (lenV v8) fun v11=>
 lp (V × V × V × V × V × Heap × Nat) (s_link_Image_Find_l12b lp G call k) (a0, v1, v8, v11, (.int .i64 (.ofNat 0) 0), H, n)
noncomputable def s_link_Image_Names (lp : LpT) (G : Roms) (call : CallT) (a0 : V) (H : Heap) (n : Nat) (k : KV) : Prop :=
 onV (eqV (.one .ptr) false a0 .nilp) fun v1=>
 onTst v1 true (k .nils H n) (onV (nilckV a0) fun v2=>
 onV (paddV 2 v2) fun v3=>
 onV (ld1V v3 G H) fun v4=>
 appV 1 16 .nils v4 G H n fun v5 H n=>
 k v5 H n)
noncomputable def s_hier_Table_Above_j1 (lp : LpT) (G : Roms) (call : CallT) (k : KV) (a6 : V) (H : Heap) (n : Nat) : Prop :=
 k (.tup [a6, (.bool true)]) H n
noncomputable def s_hier_Table_Above_l2 (lp : LpT) (G : Roms) (call : CallT) (k : KV) (ih2 : (V × V × V × Heap × Nat) → Prop) (a0 a1 a6 : V) (H : Heap) (n : Nat) : Prop :=
 onV (eqV (.one .str) true a1 (.str 0 0)) fun v3=>
 onTst v3 true (call n_hier_Table_Face [a0, a1] H n fun v4 H n=>
 onV (extV v4 0) fun v5=>
 onV (extV v4 1) fun v6=>
 onA (aAlloc 4 [[(.str 0 0), (.str 0 0), .nils, .nils]] E0) H n fun v7 H n=>
 stV 4 v7 v5 H n fun v8 H n=>
 onV (notV v6) fun v9=>
 onG v9 false (some a6) fun v10=>
 onG v9 false (some a1) fun v11=>
 onGT v9 false (call n_slices_Contains_string_string [v10, v11] H n) H n fun v12 H n=>
 onV (pickV v9 (.bool true) v12) fun v13=>
 onTst v13 true (k (.tup [a6, (.bool false)]) H n) (onA (aBslice 1 1 [(.str 0 0)] [(0, .c a1)] E0) H n fun v14 H n=>
 onV (paddV 1 v7) fun v15=>
 onV (ld1V v15 G H) fun v16=>
 appV 1 16 a6 v14 G H n fun v17 H n=>
 onV (ld1V v15 G H) fun v=>onB (vsame v v16) <|
 onV (ld1V v15 G H) fun v=>onB (vsame v v16) <|
 ih2 (a0, v16, v17, H, n))) (s_hier_Table_Above_j1 lp G call k a6 H n)
noncomputable def s_hier_Table_Above_l2b (lp : LpT) (G : Roms) (call : CallT) (k : KV) : ((V × V × V × Heap × Nat) → Prop) → (V × V × V × Heap × Nat) → Prop := fun ih2 s => s_hier_Table_Above_l2 lp G call k ih2 s.1 s.2.1 s.2.2.1 s.2.2.2.1 s.2.2.2.2
noncomputable def s_hier_Table_Above (lp : LpT) (G : Roms) (call : CallT) (a0 a1 : V) (H : Heap) (n : Nat) (k : KV) : Prop :=
 lp (V × V × V × Heap × Nat) (s_hier_Table_Above_l2b lp G call k) (a0, a1, .nils, H, n)
noncomputable def s_kilnlaw14_check_j4 (lp : LpT) (G : Roms) (call : CallT) (k : KV) (H : Heap) (n : Nat) : Prop :=
 k (.int .i64 (.ofNat 0) 0) H n
noncomputable def s_kilnlaw14_check_j8 (lp : LpT) (G : Roms) (call : CallT) (k : KV) (ih6 : (V × V × V × V × Heap × Nat) → Prop) (a8 a61 a62 a63 : V) (H : Heap) (n : Nat) : Prop :=
 onV (B2.ev .add a63 (.int .i64 (.ofNat 1) 0)) fun v9=>
 ih6 (a8, a61, a62, v9, H, n)
noncomputable def s_kilnlaw14_check_j25 (lp : LpT) (G : Roms) (call : CallT) (k : KV) (ih6 : (V × V × V × V × Heap × Nat) → Prop) (a8 a12 a61 a62 a63 : V) (H : Heap) (n : Nat) : Prop :=
 onV (notV a12) fun v26=>
 onTst v26 true (k (.int .i64 (.ofNat 30) 0) H n) (s_kilnlaw14_check_j8 lp G call k ih6 a8 a61 a62 a63 H n)
noncomputable def s_kilnlaw14_check_l31 (lp : LpT) (G : Roms) (call : CallT) (k : KV) (ih6 : (V × V × V × V × Heap × Nat) → Prop) (ih31 : (V × V × V × V × V × V × V × V × Heap × Nat) → Prop) (a8 a12 a61 a62 a63 a132 a133 a134 : V) (H : Heap) (n : Nat) : Prop :=
 onV (B2.ev .lss a134 a133) fun v32=>
 onTst v32 true (onV (iaddrV 6 a132 a134) fun v33=>
 onV (ldnV 6 v33 G H) fun v34=>
 onA (aAlloc 6 [[(.str 0 0), (.bool false), .nils, (.str 0 0), (.bool false), (.str 0 0)]] E0) H n fun v35 H n=>
 stV 6 v35 v34 H n fun v36 H n=>
 onV (ldnV 6 v35 G H) fun v37=>
 call n_kilnlaw14_find [a8, v37] H n fun v38 H n=>
 onV (extV v38 0) fun v39=>
 onV (extV v38 1) fun v40=>
 onG a12 true (some v40) fun v41=>
 onV (pickV a12 v41 (.bool false)) fun v42=>
 onV (B2.ev .add a134 (.int .i64 (.ofNat 1) 0)) fun v43=>
 ih31 (a8, v42, a61, a62, a63, a132, a133, v43, H, n)) (s_kilnlaw14_check_j25 lp G call k ih6 a8 a12 a61 a62 a63 H n)
noncomputable def s_kilnlaw14_check_l31b (lp : LpT) (G : Roms) (call : CallT) (k : KV) (ih6 : (V × V × V × V × Heap × Nat) → Prop) : ((V × V × V × V × V × V × V × V × Heap × Nat) → Prop) → (V × V × V × V × V × V × V × V × Heap × Nat) → Prop := fun ih31 s => s_kilnlaw14_check_l31 lp G call k ih6 ih31 s.1 s.2.1 s.2.2.1 s.2.2.2.1 s.2.2.2.2.1 s.2.2.2.2.2.1 s.2.2.2.2.2.2.1 s.2.2.2.2.2.2.2.1 s.2.2.2.2.2.2.2.2.1 s.2.2.2.2.2.2.2.2.2
noncomputable def s_kilnlaw14_check_j24 (lp : LpT) (G : Roms) (call : CallT) (k : KV) (ih6 : (V × V × V × V × Heap × Nat) → Prop) (a8 a10 a12 a61 a62 a63 : V) (H : Heap) (n : Nat) : Prop :=
 onV (paddV 4 a10) fun v27=>
 onV (paddV 4 v27) fun v28=>
 onV (ld1V v28 G H) fun v29=>
 onV (lenV v29) fun v30=>
 lp (V × V × V × V × V × V × V × V × Heap × Nat) (s_kilnlaw14_check_l31b lp G call k ih6) (a8, a12, a61, a62, a63, v29, v30, (.int .i64 (.ofNat 0) 0), H, n)
noncomputable def s_kilnlaw14_check_l48 (lp : LpT) (G : Roms) (call : CallT) (k : KV) (ih6 : (V × V × V × V × Heap × Nat) → Prop) (ih48 : (V × V × V × V × V × V × V × V × V × Heap × Nat) → Prop) (a8 a10 a12 a61 a62 a63 a101 a102 a103 : V) (H : Heap) (n : Nat) : Prop :=
 onV (B2.ev .lss a103 a102) fun v49=>
 onTst v49 true (onV (iaddrV 4 a101 a103) fun v50=>
 onV (ldnV 4 v50 G H) fun v51=>
 onA (aAlloc 4 [[(.str 0 0), (.str 0 0), (.bool false), (.str 0 0)]] E0) H n fun v52 H n=>
 stV 4 v52 v51 H n fun v53 H n=>
 onV (paddV 3 v52) fun v54=>
 onV (ld1V v54 G H) fun v55=>
 onV (paddV 0 v52) fun v56=>
 onV (paddV 0 v56) fun v57=>
 onV (ld1V v57 G H) fun v58=>
 call n_hier_Table_Field [a8, v55, v58] H n fun v59 H n=>
 onV (extV v59 0) fun v60=>
 onV (extV v59 1) fun v61=>
 onV (extV v59 2) fun v62=>
 onA (aAlloc 2 [[(.str 0 0), (.bool false)]] E0) H n fun v63 H n=>
 stV 2 v63 v61 H n fun v64 H n=>
 onG a12 true (some v62) fun v65=>
 onV (pickV a12 v65 (.bool false)) fun v66=>
 onG v66 true (ldnV 2 v63 G H) fun v67=>
 onG v66 true (paddV 0 v52) fun v68=>
 onG v66 true (paddV 1 v68) fun v69=>
 onG v66 true (ldnV 2 v69 G H) fun v70=>
 onG v66 true (eqV (.agg [.str, .bool]) false v67 v70) fun v71=>
 onV (pickV v66 v71 (.bool false)) fun v72=>
 onV (B2.ev .add a103 (.int .i64 (.ofNat 1) 0)) fun v73=>
 ih48 (a8, a10, v72, a61, a62, a63, a101, a102, v73, H, n)) (s_kilnlaw14_check_j24 lp G call k ih6 a8 a10 a12 a61 a62 a63 H n)
noncomputable def s_kilnlaw14_check_l48b (lp : LpT) (G : Roms) (call : CallT) (k : KV) (ih6 : (V × V × V × V × Heap × Nat) → Prop) : ((V × V × V × V × V × V × V × V × V × Heap × Nat) → Prop) → (V × V × V × V × V × V × V × V × V × Heap × Nat) → Prop := fun ih48 s => s_kilnlaw14_check_l48 lp G call k ih6 ih48 s.1 s.2.1 s.2.2.1 s.2.2.2.1 s.2.2.2.2.1 s.2.2.2.2.2.1 s.2.2.2.2.2.2.1 s.2.2.2.2.2.2.2.1 s.2.2.2.2.2.2.2.2.1 s.2.2.2.2.2.2.2.2.2.1 s.2.2.2.2.2.2.2.2.2.2
noncomputable def s_kilnlaw14_check_j23 (lp : LpT) (G : Roms) (call : CallT) (k : KV) (ih6 : (V × V × V × V × Heap × Nat) → Prop) (a8 a10 a12 a61 a62 a63 : V) (H : Heap) (n : Nat) : Prop :=
 onV (paddV 4 a10) fun v44=>
 onV (paddV 3 v44) fun v45=>
 onV (ld1V v45 G H) fun v46=>
 onV (lenV v46) fun v47=>
 lp (V × V × V × V × V × V × V × V × V × Heap × Nat) (s_kilnlaw14_check_l48b lp G call k ih6) (a8, a10, a12, a61, a62, a63, v46, v47, (.int .i64 (.ofNat 0) 0), H, n)
noncomputable def s_kilnlaw14_check_l78 (lp : LpT) (G : Roms) (call : CallT) (k : KV) (ih6 : (V × V × V × V × Heap × Nat) → Prop) (ih78 : (V × V × V × V × V × V × V × V × V × Heap × Nat) → Prop) (a8 a10 a12 a61 a62 a63 a82 a83 a84 : V) (H : Heap) (n : Nat) : Prop :=
 onV (B2.ev .lss a84 a83) fun v79=>
 onTst v79 true (onV (iaddrV 1 a82 a84) fun v80=>
 onV (ld1V v80 G H) fun v81=>
 call n_hier_Table_Face [a8, v81] H n fun v82 H n=>
 onV (extV v82 0) fun v83=>
 onV (extV v82 1) fun v84=>
 onA (aAlloc 4 [[(.str 0 0), (.str 0 0), .nils, .nils]] E0) H n fun v85 H n=>
 stV 4 v85 v83 H n fun v86 H n=>
 onG a12 true (some v84) fun v87=>
 onV (pickV a12 v87 (.bool false)) fun v88=>
 onV (B2.ev .add a84 (.int .i64 (.ofNat 1) 0)) fun v89=>
 ih78 (a8, a10, v88, a61, a62, a63, a82, a83, v89, H, n)) (s_kilnlaw14_check_j23 lp G call k ih6 a8 a10 a12 a61 a62 a63 H n)
noncomputable def s_kilnlaw14_check_l78b (lp : LpT) (G : Roms) (call : CallT) (k : KV) (ih6 : (V × V × V × V × Heap × Nat) → Prop) : ((V × V × V × V × V × V × V × V × V × Heap × Nat) → Prop) → (V × V × V × V × V × V × V × V × V × Heap × Nat) → Prop := fun ih78 s => s_kilnlaw14_check_l78 lp G call k ih6 ih78 s.1 s.2.1 s.2.2.1 s.2.2.2.1 s.2.2.2.2.1 s.2.2.2.2.2.1 s.2.2.2.2.2.2.1 s.2.2.2.2.2.2.2.1 s.2.2.2.2.2.2.2.2.1 s.2.2.2.2.2.2.2.2.2.1 s.2.2.2.2.2.2.2.2.2.2
noncomputable def s_kilnlaw14_check_l6 (lp : LpT) (G : Roms) (call : CallT) (k : KV) (ih6 : (V × V × V × V × Heap × Nat) → Prop) (a8 a61 a62 a63 : V) (H : Heap) (n : Nat) : Prop :=
 onV (B2.ev .lss a63 a62) fun v7=>
 onTst v7 true (onV (iaddrV 10 a61 a63) fun v10=>
 onV (ldnV 10 v10 G H) fun v11=>
 onA (aAlloc 10 [[(.str 0 0), (.str 0 0), .nils, .nils, .nils, .nils, .nils, .nils, .nils, .nils]] E0) H n fun v12 H n=>
 stV 10 v12 v11 H n fun v13 H n=>
 onV (paddV 0 v12) fun v14=>
 onV (paddV 0 v14) fun v15=>
 onV (ld1V v15 G H) fun v16=>
 call n_hier_Table_Check [a8, v16] H n fun v17 H n=>
 onV (eqV (.one .int) true v17 (.int .i64 (.ofNat 0) 0)) fun v18=>
 onTst v18 true (k v17 H n) (onV (paddV 4 v12) fun v19=>
 onV (paddV 2 v19) fun v20=>
 onV (ld1V v20 G H) fun v21=>
 call n_hier_Table_Known [a8, v21] H n fun v22 H n=>
 onV (paddV 4 v12) fun v74=>
 onV (paddV 1 v74) fun v75=>
 onV (ld1V v75 G H) fun v76=>
 onV (lenV v76) fun v77=>
 lp (V × V × V × V × V × V × V × V × V × Heap × Nat) (s_kilnlaw14_check_l78b lp G call k ih6) (a8, v12, v22, a61, a62, a63, v76, v77, (.int .i64 (.ofNat 0) 0), H, n))) (s_kilnlaw14_check_j4 lp G call k H n)
noncomputable def s_kilnlaw14_check_l6b (lp : LpT) (G : Roms) (call : CallT) (k : KV) : ((V × V × V × V × Heap × Nat) → Prop) → (V × V × V × V × Heap × Nat) → Prop := fun ih6 s => s_kilnlaw14_check_l6 lp G call k ih6 s.1 s.2.1 s.2.2.1 s.2.2.2.1 s.2.2.2.2.1 s.2.2.2.2.2
noncomputable def s_kilnlaw14_check_j2 (lp : LpT) (G : Roms) (call : CallT) (k : KV) (a0 a3 : V) (H : Heap) (n : Nat) : Prop :=
 call n_hier_New [a3] H n fun v3 H n=>
 onV (lenV a0) fun v5=>
 lp (V × V × V × V × Heap × Nat) (s_kilnlaw14_check_l6b lp G call k) (v3, a0, v5, (.int .i64 (.ofNat 0) 0), H, n)
noncomputable def s_kilnlaw14_check_j93 (lp : LpT) (G : Roms) (call : CallT) (k : KV) (ih91 : (V × V × V × V × V × Heap × Nat) → Prop) (a0 a3 a27 a28 a29 : V) (H : Heap) (n : Nat) : Prop :=
 onV (B2.ev .add a29 (.int .i64 (.ofNat 1) 0)) fun v94=>
 ih91 (a0, a3, a27, a28, v94, H, n)
noncomputable def s_kilnlaw14_check_j102 (lp : LpT) (G : Roms) (call : CallT) (k : KV) (ih91 : (V × V × V × V × V × Heap × Nat) → Prop) (a0 a3 a5 a27 a28 a29 : V) (H : Heap) (n : Nat) : Prop :=
 onV (paddV 0 a5) fun v103=>
 onV (ldnV 4 v103 G H) fun v104=>
 onA (aBslice 4 1 [(.str 0 0), (.str 0 0), .nils, .nils] [(0, .c v104)] E0) H n fun v105 H n=>
 appV 4 80 a3 v105 G H n fun v106 H n=>
 s_kilnlaw14_check_j93 lp G call k ih91 a0 v106 a27 a28 a29 H n
noncomputable def s_kilnlaw14_check_l109 (lp : LpT) (G : Roms) (call : CallT) (k : KV) (ih91 : (V × V × V × V × V × Heap × Nat) → Prop) (ih109 : (V × V × V × V × V × V × V × V × V × Heap × Nat) → Prop) (a0 a3 a5 a27 a28 a29 a39 a40 a41 : V) (H : Heap) (n : Nat) : Prop :=
 onV (B2.ev .lss a41 a40) fun v110=>
 onTst v110 true (onV (iaddrV 10 a39 a41) fun v111=>
 onV (ldnV 10 v111 G H) fun v112=>
 onA (aAlloc 10 [[(.str 0 0), (.str 0 0), .nils, .nils, .nils, .nils, .nils, .nils, .nils, .nils]] E0) H n fun v113 H n=>
 stV 10 v113 v112 H n fun v114 H n=>
 onV (paddV 0 v113) fun v115=>
 onV (paddV 0 v115) fun v116=>
 onV (ld1V v116 G H) fun v117=>
 onV (paddV 0 a5) fun v118=>
 onV (paddV 0 v118) fun v119=>
 onV (ld1V v119 G H) fun v120=>
 onV (eqV (.one .str) false v117 v120) fun v121=>
 onTst v121 true (k (.int .i64 (.ofNat 6) 0) H n) (onV (B2.ev .add a41 (.int .i64 (.ofNat 1) 0)) fun v122=>
 ih109 (a0, a3, a5, a27, a28, a29, a39, a40, v122, H, n))) (s_kilnlaw14_check_j102 lp G call k ih91 a0 a3 a5 a27 a28 a29 H n)
noncomputable def s_kilnlaw14_check_l109b (lp : LpT) (G : Roms) (call : CallT) (k : KV) (ih91 : (V × V × V × V × V × Heap × Nat) → Prop) : ((V × V × V × V × V × V × V × V × V × Heap × Nat) → Prop) → (V × V × V × V × V × V × V × V × V × Heap × Nat) → Prop := fun ih109 s => s_kilnlaw14_check_l109 lp G call k ih91 ih109 s.1 s.2.1 s.2.2.1 s.2.2.2.1 s.2.2.2.2.1 s.2.2.2.2.2.1 s.2.2.2.2.2.2.1 s.2.2.2.2.2.2.2.1 s.2.2.2.2.2.2.2.2.1 s.2.2.2.2.2.2.2.2.2.1 s.2.2.2.2.2.2.2.2.2.2
noncomputable def s_kilnlaw14_check_l91 (lp : LpT) (G : Roms) (call : CallT) (k : KV) (ih91 : (V × V × V × V × V × Heap × Nat) → Prop) (a0 a3 a27 a28 a29 : V) (H : Heap) (n : Nat) : Prop :=
 onV (B2.ev .lss a29 a28) fun v92=>
 onTst v92 true (onV (iaddrV 10 a27 a29) fun v95=>
 onV (ldnV 10 v95 G H) fun v96=>
 onA (aAlloc 10 [[(.str 0 0), (.str 0 0), .nils, .nils, .nils, .nils, .nils, .nils, .nils, .nils]] E0) H n fun v97 H n=>
 stV 10 v97 v96 H n fun v98 H n=>
 onV (ldnV 10 v97 G H) fun v99=>
 call n_class_File_Right [v99] H n fun v100 H n=>
 onV (notV v100) fun v101=>
 onTst v101 true (k (.int .i64 (.ofNat 2) 0) H n) (onV (slcV 10 a0 E0 none (some (.c a29)) none) fun v107=>
 onV (lenV v107) fun v108=>
 lp (V × V × V × V × V × V × V × V × V × Heap × Nat) (s_kilnlaw14_check_l109b lp G call k ih91) (a0, a3, v97, a27, a28, a29, v107, v108, (.int .i64 (.ofNat 0) 0), H, n))) (s_kilnlaw14_check_j2 lp G call k a0 a3 H n)
noncomputable def s_kilnlaw14_check_l91b (lp : LpT) (G : Roms) (call : CallT) (k : KV) : ((V × V × V × V × V × Heap × Nat) → Prop) → (V × V × V × V × V × Heap × Nat) → Prop := fun ih91 s => s_kilnlaw14_check_l91 lp G call k ih91 s.1 s.2.1 s.2.2.1 s.2.2.2.1 s.2.2.2.2.1 s.2.2.2.2.2.1 s.2.2.2.2.2.2
noncomputable def s_kilnlaw14_check (lp : LpT) (G : Roms) (call : CallT) (a0 : V) (H : Heap) (n : Nat) (k : KV) : Prop :=
 onA (aBslice 4 0 [(.str 0 0), (.str 0 0), .nils, .nils] [] E0) H n fun v1 H n=>
 onV (lenV a0) fun v90=>
 lp (V × V × V × V × V × Heap × Nat) (s_kilnlaw14_check_l91b lp G call k) (a0, v1, a0, v90, (.int .i64 (.ofNat 0) 0), H, n)
noncomputable def s_link_Image_File (lp : LpT) (G : Roms) (call : CallT) (a0 a1 : V) (H : Heap) (n : Nat) (k : KV) : Prop :=
 onA (aAlloc 10 [[(.str 0 0), (.str 0 0), .nils, .nils, .nils, .nils, .nils, .nils, .nils, .nils]] E0) H n fun v1 H n=>
 onV (eqV (.one .ptr) false a0 .nilp) fun v2=>
 onTst v2 true (onV (buildV [(.str 0 0), (.str 0 0), .nils, .nils, .nils, .nils, .nils, .nils, .nils, .nils] []) fun v3=>
 stV 10 v1 v3 H n fun v4 H n=>
 onO (getVs [.cn v1 10, .t (.bool false)] G H) fun l => k (oneV l) H n) (onV (nilckV a0) fun v5=>
 onV (paddV 1 v5) fun v6=>
 onV (ld1V v6 G H) fun v7=>
 onV (lookV .str true (.agg [(.str 0 0), (.str 0 0), .nils, .nils, .nils, .nils, .nils, .nils, .nils, .nils]) v7 a1 H) fun v8=>
 onV (extV v8 0) fun v9=>
 onV (extV v8 1) fun v10=>
 onA (aAlloc 10 [[(.str 0 0), (.str 0 0), .nils, .nils, .nils, .nils, .nils, .nils, .nils, .nils]] E0) H n fun v11 H n=>
 stV 10 v11 v9 H n fun v12 H n=>
 onV (ldnV 10 v11 G H) fun v13=>
 stV 10 v1 v13 H n fun v14 H n=>
 onO (getVs [.cn v1 10, .t v10] G H) fun l => k (oneV l) H n)
noncomputable def s_kilnlaw12_Same_j72 (lp : LpT) (G : Roms) (call : CallT) (k : KV) (H : Heap) (n : Nat) : Prop :=
 k (.bool true) H n
noncomputable def s_kilnlaw12_Same_j78 (lp : LpT) (G : Roms) (call : CallT) (k : KV) (ih76 : (V × V × V × V × Heap × Nat) → Prop) (a3 a210 a211 a212 : V) (H : Heap) (n : Nat) : Prop :=
 onV (B2.ev .add a212 (.int .i64 (.ofNat 1) 0)) fun v79=>
 ih76 (a3, a210, a211, v79, H, n)
noncomputable def s_kilnlaw12_Same_l112 (lp : LpT) (G : Roms) (call : CallT) (k : KV) (ih76 : (V × V × V × V × Heap × Nat) → Prop) (ih112 : (V × V × V × V × V × V × V × V × Heap × Nat) → Prop) (a3 a11 a12 a210 a211 a212 a245 a246 : V) (H : Heap) (n : Nat) : Prop :=
 onV (B2.ev .lss a246 a245) fun v113=>
 onTst v113 true (onV (paddV 2 a11) fun v114=>
 onV (ld1V v114 G H) fun v115=>
 onV (iaddrV 2 v115 a246) fun v116=>
 onV (ldnV 2 v116 G H) fun v117=>
 onV (paddV 2 a12) fun v118=>
 onV (ld1V v118 G H) fun v119=>
 onV (iaddrV 2 v119 a246) fun v120=>
 onV (ldnV 2 v120 G H) fun v121=>
 onV (eqV (.agg [.int, .int]) true v117 v121) fun v122=>
 onTst v122 true (k (.bool false) H n) (onV (B2.ev .add a246 (.int .i64 (.ofNat 1) 0)) fun v123=>
 ih112 (a3, a11, a12, a210, a211, a212, a245, v123, H, n))) (s_kilnlaw12_Same_j78 lp G call k ih76 a3 a210 a211 a212 H n)
noncomputable def s_kilnlaw12_Same_l112b (lp : LpT) (G : Roms) (call : CallT) (k : KV) (ih76 : (V × V × V × V × Heap × Nat) → Prop) : ((V × V × V × V × V × V × V × V × Heap × Nat) → Prop) → (V × V × V × V × V × V × V × V × Heap × Nat) → Prop := fun ih112 s => s_kilnlaw12_Same_l112 lp G call k ih76 ih112 s.1 s.2.1 s.2.2.1 s.2.2.2.1 s.2.2.2.2.1 s.2.2.2.2.2.1 s.2.2.2.2.2.2.1 s.2.2.2.2.2.2.2.1 s.2.2.2.2.2.2.2.2.1 s.2.2.2.2.2.2.2.2.2
noncomputable def s_kilnlaw12_Same_l76 (lp : LpT) (G : Roms) (call : CallT) (k : KV) (ih76 : (V × V × V × V × Heap × Nat) → Prop) (a3 a210 a211 a212 : V) (H : Heap) (n : Nat) : Prop :=
 onV (B2.ev .lss a212 a211) fun v77=>
 onTst v77 true (onV (iaddrV 3 a210 a212) fun v80=>
 onV (ldnV 3 v80 G H) fun v81=>
 onA (aAlloc 3 [[(.int .i64 (.ofNat 0) 0), (.int .i64 (.ofNat 0) 0), .nils]] E0) H n fun v82 H n=>
 stV 3 v82 v81 H n fun v83 H n=>
 onV (paddV 9 a3) fun v84=>
 onV (ld1V v84 G H) fun v85=>
 onV (iaddrV 3 v85 a212) fun v86=>
 onV (ldnV 3 v86 G H) fun v87=>
 onA (aAlloc 3 [[(.int .i64 (.ofNat 0) 0), (.int .i64 (.ofNat 0) 0), .nils]] E0) H n fun v88 H n=>
 stV 3 v88 v87 H n fun v89 H n=>
 onV (paddV 0 v82) fun v90=>
 onV (ld1V v90 G H) fun v91=>
 onV (paddV 0 v88) fun v92=>
 onV (ld1V v92 G H) fun v93=>
 onV (eqV (.one .int) true v91 v93) fun v94=>
 onG v94 false (paddV 1 v82) fun v95=>
 onG v94 false (ld1V v95 G H) fun v96=>
 onG v94 false (paddV 1 v88) fun v97=>
 onG v94 false (ld1V v97 G H) fun v98=>
 onG v94 false (eqV (.one .int) true v96 v98) fun v99=>
 onV (pickV v94 (.bool true) v99) fun v100=>
 onG v100 false (paddV 2 v82) fun v101=>
 onG v100 false (ld1V v101 G H) fun v102=>
 onG v100 false (lenV v102) fun v103=>
 onG v100 false (paddV 2 v88) fun v104=>
 onG v100 false (ld1V v104 G H) fun v105=>
 onG v100 false (lenV v105) fun v106=>
 onG v100 false (eqV (.one .int) true v103 v106) fun v107=>
 onV (pickV v100 (.bool true) v107) fun v108=>
 onTst v108 true (k (.bool false) H n) (onV (paddV 2 v82) fun v109=>
 onV (ld1V v109 G H) fun v110=>
 onV (lenV v110) fun v111=>
 lp (V × V × V × V × V × V × V × V × Heap × Nat) (s_kilnlaw12_Same_l112b lp G call k ih76) (a3, v82, v88, a210, a211, a212, v111, (.int .i64 (.ofNat 0) 0), H, n))) (s_kilnlaw12_Same_j72 lp G call k H n)
noncomputable def s_kilnlaw12_Same_l76b (lp : LpT) (G : Roms) (call : CallT) (k : KV) : ((V × V × V × V × Heap × Nat) → Prop) → (V × V × V × V × Heap × Nat) → Prop := fun ih76 s => s_kilnlaw12_Same_l76 lp G call k ih76 s.1 s.2.1 s.2.2.1 s.2.2.2.1 s.2.2.2.2.1 s.2.2.2.2.2
noncomputable def s_kilnlaw12_Same_j71 (lp : LpT) (G : Roms) (call : CallT) (k : KV) (a2 a3 : V) (H : Heap) (n : Nat) : Prop :=
 onV (paddV 9 a2) fun v73=>
 onV (ld1V v73 G H) fun v74=>
 onV (lenV v74) fun v75=>
 lp (V × V × V × V × Heap × Nat) (s_kilnlaw12_Same_l76b lp G call k) (a3, v74, v75, (.int .i64 (.ofNat 0) 0), H, n)
noncomputable def s_kilnlaw12_Same_l128 (lp : LpT) (G : Roms) (call : CallT) (k : KV) (ih128 : (V × V × V × V × Heap × Nat) → Prop) (a2 a3 a171 a172 : V) (H : Heap) (n : Nat) : Prop :=
 onV (B2.ev .lss a172 a171) fun v129=>
 onTst v129 true (onV (paddV 4 a2) fun v130=>
 onV (paddV 4 v130) fun v131=>
 onV (ld1V v131 G H) fun v132=>
 onV (iaddrV 6 v132 a172) fun v133=>
 onV (paddV 5 v133) fun v134=>
 onV (ld1V v134 G H) fun v135=>
 onV (paddV 4 a3) fun v136=>
 onV (paddV 4 v136) fun v137=>
 onV (ld1V v137 G H) fun v138=>
 onV (iaddrV 6 v138 a172) fun v139=>
 onV (paddV 5 v139) fun v140=>
 onV (ld1V v140 G H) fun v141=>
 onV (eqV (.one .str) true v135 v141) fun v142=>
 onG v142 false (paddV 4 a2) fun v143=>
 onG v142 false (paddV 4 v143) fun v144=>
 onG v142 false (ld1V v144 G H) fun v145=>
 onG v142 false (some a172) fun v146=>
 onG v142 false (iaddrV 6 v145 v146) fun v147=>
 onG v142 false (paddV 0 v147) fun v148=>
 onG v142 false (ldnV 5 v148 G H) fun v149=>
 onG v142 false (paddV 4 a3) fun v150=>
 onG v142 false (paddV 4 v150) fun v151=>
 onG v142 false (ld1V v151 G H) fun v152=>
 onG v142 false (some a172) fun v153=>
 onG v142 false (iaddrV 6 v152 v153) fun v154=>
 onG v142 false (paddV 0 v154) fun v155=>
 onG v142 false (ldnV 5 v155 G H) fun v156=>
 onGT v142 false (call n_face_Sig_Same [v149, v156] H n) H n fun v157 H n=>
 onG v142 false (notV v157) fun v158=>
 onV (pickV v142 (.bool true) v158) fun v159=>
 onTst v159 true (k (.bool false) H n) (onV (B2.ev .add a172 (.int .i64 (.ofNat 1) 0)) fun v160=>
 ih128 (a2, a3, a171, v160, H, n))) (s_kilnlaw12_Same_j71 lp G call k a2 a3 H n)
noncomputable def s_kilnlaw12_Same_l128b (lp : LpT) (G : Roms) (call : CallT) (k : KV) : ((V × V × V × V × Heap × Nat) → Prop) → (V × V × V × V × Heap × Nat) → Prop := fun ih128 s => s_kilnlaw12_Same_l128 lp G call k ih128 s.1 s.2.1 s.2.2.1 s.2.2.2.1 s.2.2.2.2.1 s.2.2.2.2.2
noncomputable def s_kilnlaw12_Same_j70 (lp : LpT) (G : Roms) (call : CallT) (k : KV) (a2 a3 : V) (H : Heap) (n : Nat) : Prop :=
 onV (paddV 4 a2) fun v124=>
 onV (paddV 4 v124) fun v125=>
 onV (ld1V v125 G H) fun v126=>
 onV (lenV v126) fun v127=>
 lp (V × V × V × V × Heap × Nat) (s_kilnlaw12_Same_l128b lp G call k) (a2, a3, v127, (.int .i64 (.ofNat 0) 0), H, n)
noncomputable def s_kilnlaw12_Same_l165 (lp : LpT) (G : Roms) (call : CallT) (k : KV) (ih165 : (V × V × V × V × Heap × Nat) → Prop) (a2 a3 a150 a151 : V) (H : Heap) (n : Nat) : Prop :=
 onV (B2.ev .lss a151 a150) fun v166=>
 onTst v166 true (onV (paddV 4 a2) fun v167=>
 onV (paddV 3 v167) fun v168=>
 onV (ld1V v168 G H) fun v169=>
 onV (iaddrV 4 v169 a151) fun v170=>
 onV (ldnV 4 v170 G H) fun v171=>
 onV (paddV 4 a3) fun v172=>
 onV (paddV 3 v172) fun v173=>
 onV (ld1V v173 G H) fun v174=>
 onV (iaddrV 4 v174 a151) fun v175=>
 onV (ldnV 4 v175 G H) fun v176=>
 onV (eqV (.agg [.str, .str, .bool, .str]) true v171 v176) fun v177=>
 onTst v177 true (k (.bool false) H n) (onV (B2.ev .add a151 (.int .i64 (.ofNat 1) 0)) fun v178=>
 ih165 (a2, a3, a150, v178, H, n))) (s_kilnlaw12_Same_j70 lp G call k a2 a3 H n)
noncomputable def s_kilnlaw12_Same_l165b (lp : LpT) (G : Roms) (call : CallT) (k : KV) : ((V × V × V × V × Heap × Nat) → Prop) → (V × V × V × V × Heap × Nat) → Prop := fun ih165 s => s_kilnlaw12_Same_l165 lp G call k ih165 s.1 s.2.1 s.2.2.1 s.2.2.2.1 s.2.2.2.2.1 s.2.2.2.2.2
noncomputable def s_kilnlaw12_Same_j69 (lp : LpT) (G : Roms) (call : CallT) (k : KV) (a2 a3 : V) (H : Heap) (n : Nat) : Prop :=
 onV (paddV 4 a2) fun v161=>
 onV (paddV 3 v161) fun v162=>
 onV (ld1V v162 G H) fun v163=>
 onV (lenV v163) fun v164=>
 lp (V × V × V × V × Heap × Nat) (s_kilnlaw12_Same_l165b lp G call k) (a2, a3, v164, (.int .i64 (.ofNat 0) 0), H, n)
noncomputable def s_kilnlaw12_Same_l183 (lp : LpT) (G : Roms) (call : CallT) (k : KV) (ih183 : (V × V × V × V × Heap × Nat) → Prop) (a2 a3 a129 a130 : V) (H : Heap) (n : Nat) : Prop :=
 onV (B2.ev .lss a130 a129) fun v184=>
 onTst v184 true (onV (paddV 4 a2) fun v185=>
 onV (paddV 2 v185) fun v186=>
 onV (ld1V v186 G H) fun v187=>
 onV (iaddrV 2 v187 a130) fun v188=>
 onV (ldnV 2 v188 G H) fun v189=>
 onV (paddV 4 a3) fun v190=>
 onV (paddV 2 v190) fun v191=>
 onV (ld1V v191 G H) fun v192=>
 onV (iaddrV 2 v192 a130) fun v193=>
 onV (ldnV 2 v193 G H) fun v194=>
 onV (eqV (.agg [.str, .bool]) true v189 v194) fun v195=>
 onTst v195 true (k (.bool false) H n) (onV (B2.ev .add a130 (.int .i64 (.ofNat 1) 0)) fun v196=>
 ih183 (a2, a3, a129, v196, H, n))) (s_kilnlaw12_Same_j69 lp G call k a2 a3 H n)
noncomputable def s_kilnlaw12_Same_l183b (lp : LpT) (G : Roms) (call : CallT) (k : KV) : ((V × V × V × V × Heap × Nat) → Prop) → (V × V × V × V × Heap × Nat) → Prop := fun ih183 s => s_kilnlaw12_Same_l183 lp G call k ih183 s.1 s.2.1 s.2.2.1 s.2.2.2.1 s.2.2.2.2.1 s.2.2.2.2.2
noncomputable def s_kilnlaw12_Same_j68 (lp : LpT) (G : Roms) (call : CallT) (k : KV) (a2 a3 : V) (H : Heap) (n : Nat) : Prop :=
 onV (paddV 4 a2) fun v179=>
 onV (paddV 2 v179) fun v180=>
 onV (ld1V v180 G H) fun v181=>
 onV (lenV v181) fun v182=>
 lp (V × V × V × V × Heap × Nat) (s_kilnlaw12_Same_l183b lp G call k) (a2, a3, v182, (.int .i64 (.ofNat 0) 0), H, n)
noncomputable def s_kilnlaw12_Same_l201 (lp : LpT) (G : Roms) (call : CallT) (k : KV) (ih201 : (V × V × V × V × Heap × Nat) → Prop) (a2 a3 a108 a109 : V) (H : Heap) (n : Nat) : Prop :=
 onV (B2.ev .lss a109 a108) fun v202=>
 onTst v202 true (onV (paddV 4 a2) fun v203=>
 onV (paddV 1 v203) fun v204=>
 onV (ld1V v204 G H) fun v205=>
 onV (iaddrV 1 v205 a109) fun v206=>
 onV (ld1V v206 G H) fun v207=>
 onV (paddV 4 a3) fun v208=>
 onV (paddV 1 v208) fun v209=>
 onV (ld1V v209 G H) fun v210=>
 onV (iaddrV 1 v210 a109) fun v211=>
 onV (ld1V v211 G H) fun v212=>
 onV (eqV (.one .str) true v207 v212) fun v213=>
 onTst v213 true (k (.bool false) H n) (onV (B2.ev .add a109 (.int .i64 (.ofNat 1) 0)) fun v214=>
 ih201 (a2, a3, a108, v214, H, n))) (s_kilnlaw12_Same_j68 lp G call k a2 a3 H n)
noncomputable def s_kilnlaw12_Same_l201b (lp : LpT) (G : Roms) (call : CallT) (k : KV) : ((V × V × V × V × Heap × Nat) → Prop) → (V × V × V × V × Heap × Nat) → Prop := fun ih201 s => s_kilnlaw12_Same_l201 lp G call k ih201 s.1 s.2.1 s.2.2.1 s.2.2.2.1 s.2.2.2.2.1 s.2.2.2.2.2
noncomputable def s_kilnlaw12_Same_j67 (lp : LpT) (G : Roms) (call : CallT) (k : KV) (a2 a3 : V) (H : Heap) (n : Nat) : Prop :=
 onV (paddV 4 a2) fun v197=>
 onV (paddV 1 v197) fun v198=>
 onV (ld1V v198 G H) fun v199=>
 onV (lenV v199) fun v200=>
 lp (V × V × V × V × Heap × Nat) (s_kilnlaw12_Same_l201b lp G call k) (a2, a3, v200, (.int .i64 (.ofNat 0) 0), H, n)
noncomputable def s_kilnlaw12_Same_l219 (lp : LpT) (G : Roms) (call : CallT) (k : KV) (ih219 : (V × V × V × V × Heap × Nat) → Prop) (a2 a3 a87 a88 : V) (H : Heap) (n : Nat) : Prop :=
 onV (B2.ev .lss a88 a87) fun v220=>
 onTst v220 true (onV (paddV 4 a2) fun v221=>
 onV (paddV 0 v221) fun v222=>
 onV (ld1V v222 G H) fun v223=>
 onV (iaddrV 1 v223 a88) fun v224=>
 onV (ld1V v224 G H) fun v225=>
 onV (paddV 4 a3) fun v226=>
 onV (paddV 0 v226) fun v227=>
 onV (ld1V v227 G H) fun v228=>
 onV (iaddrV 1 v228 a88) fun v229=>
 onV (ld1V v229 G H) fun v230=>
 onV (eqV (.one .int) true v225 v230) fun v231=>
 onTst v231 true (k (.bool false) H n) (onV (B2.ev .add a88 (.int .i64 (.ofNat 1) 0)) fun v232=>
 ih219 (a2, a3, a87, v232, H, n))) (s_kilnlaw12_Same_j67 lp G call k a2 a3 H n)
noncomputable def s_kilnlaw12_Same_l219b (lp : LpT) (G : Roms) (call : CallT) (k : KV) : ((V × V × V × V × Heap × Nat) → Prop) → (V × V × V × V × Heap × Nat) → Prop := fun ih219 s => s_kilnlaw12_Same_l219 lp G call k ih219 s.1 s.2.1 s.2.2.1 s.2.2.2.1 s.2.2.2.2.1 s.2.2.2.2.2
noncomputable def s_kilnlaw12_Same (lp : LpT) (G : Roms) (call : CallT) (a0 a1 : V) (H : Heap) (n : Nat) (k : KV) : Prop :=
 onA (aBoxV a0) H n fun v1 H n=>
 onA (aBoxV a1) H n fun v2 H n=>
 onV (paddV 0 v1) fun v3=>
 onV (ldnV 4 v3 G H) fun v4=>
 onV (paddV 0 v2) fun v5=>
 onV (ldnV 4 v5 G H) fun v6=>
 call n_face_Face_Same [v4, v6] H n fun v7 H n=>
 onV (notV v7) fun v8=>
 onG v8 false (paddV 4 v1) fun v9=>
 onG v8 false (paddV 0 v9) fun v10=>
 onG v8 false (ld1V v10 G H) fun v11=>
 onG v8 false (lenV v11) fun v12=>
 onG v8 false (paddV 4 v2) fun v13=>
 onG v8 false (paddV 0 v13) fun v14=>
 onG v8 false (ld1V v14 G H) fun v15=>
 onG v8 false (lenV v15) fun v16=>
 onG v8 false (eqV (.one .int) true v12 v16) fun v17=>
 onV (pickV v8 (.bool true) v17) fun v18=>
 onG v18 false (paddV 4 v1) fun v19=>
 onG v18 false (paddV 1 v19) fun v20=>
 onG v18 false (ld1V v20 G H) fun v21=>
 onG v18 false (lenV v21) fun v22=>
 onG v18 false (paddV 4 v2) fun v23=>
 onG v18 false (paddV 1 v23) fun v24=>
 onG v18 false (ld1V v24 G H) fun v25=>
 onG v18 false (lenV v25) fun v26=>
 onG v18 false (eqV (.one .int) true v22 v26) fun v27=>
 onV (pickV v18 (.bool true) v27) fun v28=>
 onG v28 false (paddV 4 v1) fun v29=>
 onG v28 false (paddV 2 v29) fun v30=>
 onG v28 false (ld1V v30 G H) fun v31=>
 onG v28 false (lenV v31) fun v32=>
 onG v28 false (paddV 4 v2) fun v33=>
 onG v28 false (paddV 2 v33) fun v34=>
 onG v28 false (ld1V v34 G H) fun v35=>
 onG v28 false (lenV v35) fun v36=>
 onG v28 false (eqV (.one .int) true v32 v36) fun v37=>
 onV (pickV v28 (.bool true) v37) fun v38=>
 onG v38 false (paddV 4 v1) fun v39=>
 onG v38 false (paddV 3 v39) fun v40=>
 onG v38 false (ld1V v40 G H) fun v41=>
 onG v38 false (lenV v41) fun v42=>
 onG v38 false (paddV 4 v2) fun v43=>
 onG v38 false (paddV 3 v43) fun v44=>
 onG v38 false (ld1V v44 G H) fun v45=>
 onG v38 false (lenV v45) fun v46=>
 onG v38 false (eqV (.one .int) true v42 v46) fun v47=>
 onV (pickV v38 (.bool true) v47) fun v48=>
 onG v48 false (paddV 4 v1) fun v49=>
 onG v48 false (paddV 4 v49) fun v50=>
 onG v48 false (ld1V v50 G H) fun v51=>
 onG v48 false (lenV v51) fun v52=>
 onG v48 false (paddV 4 v2) fun v53=>
 onG v48 false (paddV 4 v53) fun v54=>
 onG v48 false (ld1V v54 G H) fun v55=>
 onG v48 false (lenV v55) fun v56=>
 onG v48 false (eqV (.one .int) true v52 v56) fun v57=>
 onV (pickV v48 (.bool true) v57) fun v58=>
 onG v58 false (paddV 9 v1) fun v59=>
 onG v58 false (ld1V v59 G H) fun v60=>
 onG v58 false (lenV v60) fun v61=>
 onG v58 false (paddV 9 v2) fun v62=>
 onG v58 false (ld1V v62 G H) fun v63=>
 onG v58 false (lenV v63) fun v64=>
 onG v58 false (eqV (.one .int) true v61 v64) fun v65=>
 onV (pickV v58 (.bool true) v65) fun v66=>
 onTst v66 true (k (.bool false) H n) (onV (paddV 4 v1) fun v215=>
 onV (paddV 0 v215) fun v216=>
 onV (ld1V v216 G H) fun v217=>
 onV (lenV v217) fun v218=>
 lp (V × V × V × V × Heap × Nat) (s_kilnlaw12_Same_l219b lp G call k) (v1, v2, v218, (.int .i64 (.ofNat 0) 0), H, n))
noncomputable def s_link_Image_Body_j7 (lp : LpT) (G : Roms) (call : CallT) (k : KV) (a6 : V) (H : Heap) (n : Nat) : Prop :=
 onV (buildV [(.int .i64 (.ofNat 0) 0), (.int .i64 (.ofNat 0) 0), .nils] []) fun v8=>
 stV 3 a6 v8 H n fun v9 H n=>
 onO (getVs [.cn a6 3, .t (.bool false)] G H) fun l => k (oneV l) H n
noncomputable def s_link_Image_Body_l14 (lp : LpT) (G : Roms) (call : CallT) (k : KV) (ih14 : (V × V × V × V × V × V × Heap × Nat) → Prop) (a2 a6 a8 a20 a21 a22 : V) (H : Heap) (n : Nat) : Prop :=
 onV (B2.ev .lss a22 a21) fun v15=>
 onTst v15 true (onV (iaddrV 5 a20 a22) fun v16=>
 onV (ldnV 5 v16 G H) fun v17=>
 onA (aAlloc 5 [[(.str 0 0), (.bool false), .nils, (.str 0 0), (.bool false)]] E0) H n fun v18 H n=>
 stV 5 v18 v17 H n fun v19 H n=>
 onV (paddV 0 v18) fun v20=>
 onV (ld1V v20 G H) fun v21=>
 onV (eqV (.one .str) false v21 a2) fun v22=>
 onTst v22 true (onV (paddV 9 a8) fun v23=>
 onV (ld1V v23 G H) fun v24=>
 onV (iaddrV 3 v24 a22) fun v25=>
 onV (ldnV 3 v25 G H) fun v26=>
 stV 3 a6 v26 H n fun v27 H n=>
 onO (getVs [.cn a6 3, .t (.bool true)] G H) fun l => k (oneV l) H n) (onV (B2.ev .add a22 (.int .i64 (.ofNat 1) 0)) fun v28=>
 ih14 (a2, a6, a8, a20, a21, v28, H, n))) (s_link_Image_Body_j7 lp G call k a6 H n)
noncomputable def s_link_Image_Body_l14b (lp : LpT) (G : Roms) (call : CallT) (k : KV) : ((V × V × V × V × V × V × Heap × Nat) → Prop) → (V × V × V × V × V × V × Heap × Nat) → Prop := fun ih14 s => s_link_Image_Body_l14 lp G call k ih14 s.1 s.2.1 s.2.2.1 s.2.2.2.1 s.2.2.2.2.1 s.2.2.2.2.2.1 s.2.2.2.2.2.2.1 s.2.2.2.2.2.2.2
noncomputable def s_link_Image_Body (lp : LpT) (G : Roms) (call : CallT) (a0 a1 a2 : V) (H : Heap) (n : Nat) (k : KV) : Prop :=
 onA (aAlloc 3 [[(.int .i64 (.ofNat 0) 0), (.int .i64 (.ofNat 0) 0), .nils]] E0) H n fun v1 H n=>
 call n_link_Image_File [a0, a1] H n fun v2 H n=>
 onV (extV v2 0) fun v3=>
 onV (extV v2 1) fun v4=>
 onA (aAlloc 10 [[(.str 0 0), (.str 0 0), .nils, .nils, .nils, .nils, .nils, .nils, .nils, .nils]] E0) H n fun v5 H n=>
 stV 10 v5 v3 H n fun v6 H n=>
 onV (paddV 0 v5) fun v10=>
 onV (paddV 3 v10) fun v11=>
 onV (ld1V v11 G H) fun v12=>
 onV (lenV v12) fun v13=>
 lp (V × V × V × V × V × V × Heap × Nat) (s_link_Image_Body_l14b lp G call k) (a2, v1, v5, v12, v13, (.int .i64 (.ofNat 0) 0), H, n)
noncomputable def s_kilnlaw14_find_j7 (lp : LpT) (G : Roms) (call : CallT) (k : KV) (H : Heap) (n : Nat) : Prop :=
 k (.tup [(.str 0 0), (.bool false)]) H n
noncomputable def s_kilnlaw14_find_j11 (lp : LpT) (G : Roms) (call : CallT) (k : KV) (ih9 : (V × V × V × V × V × Heap × Nat) → Prop) (a0 a3 a21 a22 a23 : V) (H : Heap) (n : Nat) : Prop :=
 onV (B2.ev .add a23 (.int .i64 (.ofNat 1) 0)) fun v12=>
 ih9 (a0, a3, a21, a22, v12, H, n)
noncomputable def s_kilnlaw14_find_l23 (lp : LpT) (G : Roms) (call : CallT) (k : KV) (ih9 : (V × V × V × V × V × Heap × Nat) → Prop) (ih23 : (V × V × V × V × V × V × V × V × V × Heap × Nat) → Prop) (a0 a3 a9 a21 a22 a23 a34 a35 a36 : V) (H : Heap) (n : Nat) : Prop :=
 onV (B2.ev .lss a36 a35) fun v24=>
 onTst v24 true (onV (iaddrV 5 a34 a36) fun v25=>
 onV (ldnV 5 v25 G H) fun v26=>
 onA (aAlloc 5 [[(.str 0 0), (.bool false), .nils, (.str 0 0), (.bool false)]] E0) H n fun v27 H n=>
 stV 5 v27 v26 H n fun v28 H n=>
 onV (paddV 0 v27) fun v29=>
 onV (ld1V v29 G H) fun v30=>
 onV (paddV 0 a3) fun v31=>
 onV (paddV 0 v31) fun v32=>
 onV (ld1V v32 G H) fun v33=>
 onV (eqV (.one .str) false v30 v33) fun v34=>
 onTst v34 true (onV (ldnV 5 v27 G H) fun v35=>
 onV (paddV 0 a3) fun v36=>
 onV (ldnV 5 v36 G H) fun v37=>
 call n_face_Sig_Same [v35, v37] H n fun v38 H n=>
 onTst v38 true (k (.tup [a9, (.bool true)]) H n) (s_kilnlaw14_find_j11 lp G call k ih9 a0 a3 a21 a22 a23 H n)) (onV (B2.ev .add a36 (.int .i64 (.ofNat 1) 0)) fun v39=>
 ih23 (a0, a3, a9, a21, a22, a23, a34, a35, v39, H, n))) (s_kilnlaw14_find_j11 lp G call k ih9 a0 a3 a21 a22 a23 H n)
noncomputable def s_kilnlaw14_find_l23b (lp : LpT) (G : Roms) (call : CallT) (k : KV) (ih9 : (V × V × V × V × V × Heap × Nat) → Prop) : ((V × V × V × V × V × V × V × V × V × Heap × Nat) → Prop) → (V × V × V × V × V × V × V × V × V × Heap × Nat) → Prop := fun ih23 s => s_kilnlaw14_find_l23 lp G call k ih9 ih23 s.1 s.2.1 s.2.2.1 s.2.2.2.1 s.2.2.2.2.1 s.2.2.2.2.2.1 s.2.2.2.2.2.2.1 s.2.2.2.2.2.2.2.1 s.2.2.2.2.2.2.2.2.1 s.2.2.2.2.2.2.2.2.2.1 s.2.2.2.2.2.2.2.2.2.2
noncomputable def s_kilnlaw14_find_l9 (lp : LpT) (G : Roms) (call : CallT) (k : KV) (ih9 : (V × V × V × V × V × Heap × Nat) → Prop) (a0 a3 a21 a22 a23 : V) (H : Heap) (n : Nat) : Prop :=
 onV (B2.ev .lss a23 a22) fun v10=>
 onTst v10 true (onV (iaddrV 1 a21 a23) fun v13=>
 onV (ld1V v13 G H) fun v14=>
 call n_hier_Table_Face [a0, v14] H n fun v15 H n=>
 onV (extV v15 0) fun v16=>
 onV (extV v15 1) fun v17=>
 onA (aAlloc 4 [[(.str 0 0), (.str 0 0), .nils, .nils]] E0) H n fun v18 H n=>
 stV 4 v18 v16 H n fun v19 H n=>
 onV (paddV 3 v18) fun v20=>
 onV (ld1V v20 G H) fun v21=>
 onV (lenV v21) fun v22=>
 lp (V × V × V × V × V × V × V × V × V × Heap × Nat) (s_kilnlaw14_find_l23b lp G call k ih9) (a0, a3, v14, a21, a22, a23, v21, v22, (.int .i64 (.ofNat 0) 0), H, n)) (s_kilnlaw14_find_j7 lp G call k H n)
noncomputable def s_kilnlaw14_find_l9b (lp : LpT) (G : Roms) (call : CallT) (k : KV) : ((V × V × V × V × V × Heap × Nat) → Prop) → (V × V × V × V × V × Heap × Nat) → Prop := fun ih9 s => s_kilnlaw14_find_l9 lp G call k ih9 s.1 s.2.1 s.2.2.1 s.2.2.2.1 s.2.2.2.2.1 s.2.2.2.2.2.1 s.2.2.2.2.2.2
noncomputable def s_kilnlaw14_find (lp : LpT) (G : Roms) (call : CallT) (a0 a1 : V) (H : Heap) (n : Nat) (k : KV) : Prop :=
 onA (aBoxV a1) H n fun v1 H n=>
 onV (paddV 5 v1) fun v2=>
 onV (ld1V v2 G H) fun v3=>
 call n_hier_Table_Above [a0, v3] H n fun v4 H n=>
 onV (extV v4 0) fun v5=>
 onV (extV v4 1) fun v6=>
 onV (lenV v5) fun v8=>
 lp (V × V × V × V × V × Heap × Nat) (s_kilnlaw14_find_l9b lp G call k) (a0, v1, v5, v8, (.int .i64 (.ofNat 0) 0), H, n)
noncomputable def s_ast_Int (lp : LpT) (G : Roms) (call : CallT) (H : Heap) (n : Nat) (k : KV) : Prop :=
 onA (aAlloc 2 [[(.str 0 0), (.bool false)]] E0) H n fun v1 H n=>
 onV (buildV [(.str 0 0), (.bool false)] [(0, 1, .c (.str 3 7630441))]) fun v2=>
 stV 2 v1 v2 H n fun v3 H n=>
 onO (getVs [.cn v1 2] G H) fun l => k (oneV l) H n
noncomputable def s_op_Code_Pool (lp : LpT) (G : Roms) (call : CallT) (a0 : V) (H : Heap) (n : Nat) (k : KV) : Prop :=
 call n_op_Code_Known [a0] H n fun v1 H n=>
 onV (notV v1) fun v2=>
 onTst v2 true (k (.int .i32 (.ofNat 0) 0) H n) (onV (iaddrAV 33 2 (.gptr 0 0) a0) fun v3=>
 onV (paddV 1 v3) fun v4=>
 onV (ld1V v4 G H) fun v5=>
 k v5 H n)
noncomputable def s_kilnlaw14_head_1 (lp : LpT) (G : Roms) (call : CallT) (a0 : V) (H : Heap) (n : Nat) (k : KV) : Prop :=
 onA (aAlloc 3 [[(.str 0 0), (.str 0 0), (.bool false)]] E0) H n fun v1 H n=>
 call n_ast_Int [] H n fun v2 H n=>
 onV (buildV [(.str 0 0), (.str 0 0), (.bool false)] [(0, 1, .c a0), (1, 2, .c v2)]) fun v3=>
 stV 3 v1 v3 H n fun v4 H n=>
 onO (getVs [.cn v1 3] G H) fun l => k (oneV l) H n
noncomputable def s_kilnlaw12_Few_j45 (lp : LpT) (G : Roms) (call : CallT) (k : KV) (H : Heap) (n : Nat) : Prop :=
 k (.bool true) H n
noncomputable def s_kilnlaw12_Few_l49 (lp : LpT) (G : Roms) (call : CallT) (k : KV) (ih49 : (V × V × V × Heap × Nat) → Prop) (a129 a130 a131 : V) (H : Heap) (n : Nat) : Prop :=
 onV (B2.ev .lss a131 a130) fun v50=>
 onTst v50 true (onV (iaddrV 3 a129 a131) fun v51=>
 onV (ldnV 3 v51 G H) fun v52=>
 onA (aAlloc 3 [[(.int .i64 (.ofNat 0) 0), (.int .i64 (.ofNat 0) 0), .nils]] E0) H n fun v53 H n=>
 stV 3 v53 v52 H n fun v54 H n=>
 onV (paddV 2 v53) fun v55=>
 onV (ld1V v55 G H) fun v56=>
 onV (lenV v56) fun v57=>
 onV (B2.ev .gtr v57 (.int .i64 (.ofNat 60) 0)) fun v58=>
 onTst v58 true (k (.bool false) H n) (onV (B2.ev .add a131 (.int .i64 (.ofNat 1) 0)) fun v59=>
 ih49 (a129, a130, v59, H, n))) (s_kilnlaw12_Few_j45 lp G call k H n)
noncomputable def s_kilnlaw12_Few_l49b (lp : LpT) (G : Roms) (call : CallT) (k : KV) : ((V × V × V × Heap × Nat) → Prop) → (V × V × V × Heap × Nat) → Prop := fun ih49 s => s_kilnlaw12_Few_l49 lp G call k ih49 s.1 s.2.1 s.2.2.1 s.2.2.2.1 s.2.2.2.2
noncomputable def s_kilnlaw12_Few_j44 (lp : LpT) (G : Roms) (call : CallT) (k : KV) (a1 : V) (H : Heap) (n : Nat) : Prop :=
 onV (paddV 9 a1) fun v46=>
 onV (ld1V v46 G H) fun v47=>
 onV (lenV v47) fun v48=>
 lp (V × V × V × Heap × Nat) (s_kilnlaw12_Few_l49b lp G call k) (v47, v48, (.int .i64 (.ofNat 0) 0), H, n)
noncomputable def s_kilnlaw12_Few_l64 (lp : LpT) (G : Roms) (call : CallT) (k : KV) (ih64 : (V × V × V × V × Heap × Nat) → Prop) (a1 a109 a110 a111 : V) (H : Heap) (n : Nat) : Prop :=
 onV (B2.ev .lss a111 a110) fun v65=>
 onTst v65 true (onV (iaddrV 6 a109 a111) fun v66=>
 onV (ldnV 6 v66 G H) fun v67=>
 onA (aAlloc 6 [[(.str 0 0), (.bool false), .nils, (.str 0 0), (.bool false), (.str 0 0)]] E0) H n fun v68 H n=>
 stV 6 v68 v67 H n fun v69 H n=>
 onV (paddV 5 v68) fun v70=>
 onV (ld1V v70 G H) fun v71=>
 onV (lenSV v71) fun v72=>
 onV (B2.ev .gtr v72 (.int .i64 (.ofNat 60) 0)) fun v73=>
 onG v73 false (paddV 0 v68) fun v74=>
 onG v73 false (ldnV 5 v74 G H) fun v75=>
 onGT v73 false (onA (aBslice 5 1 [(.str 0 0), (.bool false), .nils, (.str 0 0), (.bool false)] [(0, .c v75)] E0) H n) H n fun v76 H n=>
 onG v73 false (buildV [(.str 0 0), (.str 0 0), .nils, .nils] [(3, 1, .c v76)]) fun v77=>
 onGT v73 false (call n_kilnlaw07_Few [v77] H n) H n fun v78 H n=>
 onG v73 false (notV v78) fun v79=>
 onV (pickV v73 (.bool true) v79) fun v80=>
 onTst v80 true (k (.bool false) H n) (onV (B2.ev .add a111 (.int .i64 (.ofNat 1) 0)) fun v81=>
 ih64 (a1, a109, a110, v81, H, n))) (s_kilnlaw12_Few_j44 lp G call k a1 H n)
noncomputable def s_kilnlaw12_Few_l64b (lp : LpT) (G : Roms) (call : CallT) (k : KV) : ((V × V × V × V × Heap × Nat) → Prop) → (V × V × V × V × Heap × Nat) → Prop := fun ih64 s => s_kilnlaw12_Few_l64 lp G call k ih64 s.1 s.2.1 s.2.2.1 s.2.2.2.1 s.2.2.2.2.1 s.2.2.2.2.2
noncomputable def s_kilnlaw12_Few_j43 (lp : LpT) (G : Roms) (call : CallT) (k : KV) (a1 : V) (H : Heap) (n : Nat) : Prop :=
 onV (paddV 4 a1) fun v60=>
 onV (paddV 4 v60) fun v61=>
 onV (ld1V v61 G H) fun v62=>
 onV (lenV v62) fun v63=>
 lp (V × V × V × V × Heap × Nat) (s_kilnlaw12_Few_l64b lp G call k) (a1, v62, v63, (.int .i64 (.ofNat 0) 0), H, n)
noncomputable def s_kilnlaw12_Few_l86 (lp : LpT) (G : Roms) (call : CallT) (k : KV) (ih86 : (V × V × V × V × Heap × Nat) → Prop) (a1 a85 a86 a87 : V) (H : Heap) (n : Nat) : Prop :=
 onV (B2.ev .lss a87 a86) fun v87=>
 onTst v87 true (onV (iaddrV 4 a85 a87) fun v88=>
 onV (ldnV 4 v88 G H) fun v89=>
 onA (aAlloc 4 [[(.str 0 0), (.str 0 0), (.bool false), (.str 0 0)]] E0) H n fun v90 H n=>
 stV 4 v90 v89 H n fun v91 H n=>
 onV (paddV 0 v90) fun v92=>
 onV (paddV 0 v92) fun v93=>
 onV (ld1V v93 G H) fun v94=>
 onV (lenSV v94) fun v95=>
 onV (paddV 3 v90) fun v96=>
 onV (ld1V v96 G H) fun v97=>
 onV (lenSV v97) fun v98=>
 onV (B2.ev .add v95 v98) fun v99=>
 onV (paddV 0 v90) fun v100=>
 onV (paddV 1 v100) fun v101=>
 onV (paddV 0 v101) fun v102=>
 onV (ld1V v102 G H) fun v103=>
 onV (lenSV v103) fun v104=>
 onV (B2.ev .add v99 v104) fun v105=>
 onV (B2.ev .gtr v105 (.int .i64 (.ofNat 120) 0)) fun v106=>
 onTst v106 true (k (.bool false) H n) (onV (B2.ev .add a87 (.int .i64 (.ofNat 1) 0)) fun v107=>
 ih86 (a1, a85, a86, v107, H, n))) (s_kilnlaw12_Few_j43 lp G call k a1 H n)
noncomputable def s_kilnlaw12_Few_l86b (lp : LpT) (G : Roms) (call : CallT) (k : KV) : ((V × V × V × V × Heap × Nat) → Prop) → (V × V × V × V × Heap × Nat) → Prop := fun ih86 s => s_kilnlaw12_Few_l86 lp G call k ih86 s.1 s.2.1 s.2.2.1 s.2.2.2.1 s.2.2.2.2.1 s.2.2.2.2.2
noncomputable def s_kilnlaw12_Few_j42 (lp : LpT) (G : Roms) (call : CallT) (k : KV) (a1 : V) (H : Heap) (n : Nat) : Prop :=
 onV (paddV 4 a1) fun v82=>
 onV (paddV 3 v82) fun v83=>
 onV (ld1V v83 G H) fun v84=>
 onV (lenV v84) fun v85=>
 lp (V × V × V × V × Heap × Nat) (s_kilnlaw12_Few_l86b lp G call k) (a1, v84, v85, (.int .i64 (.ofNat 0) 0), H, n)
noncomputable def s_kilnlaw12_Few_l112 (lp : LpT) (G : Roms) (call : CallT) (k : KV) (ih112 : (V × V × V × V × Heap × Nat) → Prop) (a1 a72 a73 a74 : V) (H : Heap) (n : Nat) : Prop :=
 onV (B2.ev .lss a74 a73) fun v113=>
 onTst v113 true (onV (iaddrV 2 a72 a74) fun v114=>
 onV (ldnV 2 v114 G H) fun v115=>
 onA (aAlloc 2 [[(.str 0 0), (.bool false)]] E0) H n fun v116 H n=>
 stV 2 v116 v115 H n fun v117 H n=>
 onV (paddV 0 v116) fun v118=>
 onV (ld1V v118 G H) fun v119=>
 onV (lenSV v119) fun v120=>
 onV (B2.ev .gtr v120 (.int .i64 (.ofNat 60) 0)) fun v121=>
 onTst v121 true (k (.bool false) H n) (onV (B2.ev .add a74 (.int .i64 (.ofNat 1) 0)) fun v122=>
 ih112 (a1, a72, a73, v122, H, n))) (s_kilnlaw12_Few_j42 lp G call k a1 H n)
noncomputable def s_kilnlaw12_Few_l112b (lp : LpT) (G : Roms) (call : CallT) (k : KV) : ((V × V × V × V × Heap × Nat) → Prop) → (V × V × V × V × Heap × Nat) → Prop := fun ih112 s => s_kilnlaw12_Few_l112 lp G call k ih112 s.1 s.2.1 s.2.2.1 s.2.2.2.1 s.2.2.2.2.1 s.2.2.2.2.2
noncomputable def s_kilnlaw12_Few_j41 (lp : LpT) (G : Roms) (call : CallT) (k : KV) (a1 : V) (H : Heap) (n : Nat) : Prop :=
 onV (paddV 4 a1) fun v108=>
 onV (paddV 2 v108) fun v109=>
 onV (ld1V v109 G H) fun v110=>
 onV (lenV v110) fun v111=>
 lp (V × V × V × V × Heap × Nat) (s_kilnlaw12_Few_l112b lp G call k) (a1, v110, v111, (.int .i64 (.ofNat 0) 0), H, n)
noncomputable def s_kilnlaw12_Few_l127 (lp : LpT) (G : Roms) (call : CallT) (k : KV) (ih127 : (V × V × V × V × Heap × Nat) → Prop) (a1 a60 a61 a62 : V) (H : Heap) (n : Nat) : Prop :=
 onV (B2.ev .lss a62 a61) fun v128=>
 onTst v128 true (onV (iaddrV 1 a60 a62) fun v129=>
 onV (ld1V v129 G H) fun v130=>
 onV (lenSV v130) fun v131=>
 onV (B2.ev .gtr v131 (.int .i64 (.ofNat 60) 0)) fun v132=>
 onTst v132 true (k (.bool false) H n) (onV (B2.ev .add a62 (.int .i64 (.ofNat 1) 0)) fun v133=>
 ih127 (a1, a60, a61, v133, H, n))) (s_kilnlaw12_Few_j41 lp G call k a1 H n)
noncomputable def s_kilnlaw12_Few_l127b (lp : LpT) (G : Roms) (call : CallT) (k : KV) : ((V × V × V × V × Heap × Nat) → Prop) → (V × V × V × V × Heap × Nat) → Prop := fun ih127 s => s_kilnlaw12_Few_l127 lp G call k ih127 s.1 s.2.1 s.2.2.1 s.2.2.2.1 s.2.2.2.2.1 s.2.2.2.2.2
noncomputable def s_kilnlaw12_Few (lp : LpT) (G : Roms) (call : CallT) (a0 : V) (H : Heap) (n : Nat) (k : KV) : Prop :=
 onA (aBoxV a0) H n fun v1 H n=>
 onV (paddV 0 v1) fun v2=>
 onV (ldnV 4 v2 G H) fun v3=>
 call n_kilnlaw07_Few [v3] H n fun v4 H n=>
 onV (notV v4) fun v5=>
 onG v5 false (paddV 4 v1) fun v6=>
 onG v5 false (paddV 0 v6) fun v7=>
 onG v5 false (ld1V v7 G H) fun v8=>
 onG v5 false (lenV v8) fun v9=>
 onG v5 false (B2.ev .gtr v9 (.int .i64 (.ofNat 20) 0)) fun v10=>
 onV (pickV v5 (.bool true) v10) fun v11=>
 onG v11 false (paddV 4 v1) fun v12=>
 onG v11 false (paddV 1 v12) fun v13=>
 onG v11 false (ld1V v13 G H) fun v14=>
 onG v11 false (lenV v14) fun v15=>
 onG v11 false (B2.ev .gtr v15 (.int .i64 (.ofNat 20) 0)) fun v16=>
 onV (pickV v11 (.bool true) v16) fun v17=>
 onG v17 false (paddV 4 v1) fun v18=>
 onG v17 false (paddV 2 v18) fun v19=>
 onG v17 false (ld1V v19 G H) fun v20=>
 onG v17 false (lenV v20) fun v21=>
 onG v17 false (B2.ev .gtr v21 (.int .i64 (.ofNat 20) 0)) fun v22=>
 onV (pickV v17 (.bool true) v22) fun v23=>
 onG v23 false (paddV 4 v1) fun v24=>
 onG v23 false (paddV 3 v24) fun v25=>
 onG v23 false (ld1V v25 G H) fun v26=>
 onG v23 false (lenV v26) fun v27=>
 onG v23 false (B2.ev .gtr v27 (.int .i64 (.ofNat 20) 0)) fun v28=>
 onV (pickV v23 (.bool true) v28) fun v29=>
 onG v29 false (paddV 4 v1) fun v30=>
 onG v29 false (paddV 4 v30) fun v31=>
 onG v29 false (ld1V v31 G H) fun v32=>
 onG v29 false (lenV v32) fun v33=>
 onG v29 false (B2.ev .gtr v33 (.int .i64 (.ofNat 20) 0)) fun v34=>
 onV (pickV v29 (.bool true) v34) fun v35=>
 onG v35 false (paddV 9 v1) fun v36=>
 onG v35 false (ld1V v36 G H) fun v37=>
 onG v35 false (lenV v37) fun v38=>
 onG v35 false (B2.ev .gtr v38 (.int .i64 (.ofNat 12) 0)) fun v39=>
 onV (pickV v35 (.bool true) v39) fun v40=>
 onTst v40 true (k (.bool false) H n) (onV (paddV 4 v1) fun v123=>
 onV (paddV 1 v123) fun v124=>
 onV (ld1V v124 G H) fun v125=>
 onV (lenV v125) fun v126=>
 lp (V × V × V × V × Heap × Nat) (s_kilnlaw12_Few_l127b lp G call k) (v1, v125, v126, (.int .i64 (.ofNat 0) 0), H, n))
noncomputable def s_class_File_Right_j20 (lp : LpT) (G : Roms) (call : CallT) (k : KV) (H : Heap) (n : Nat) : Prop :=
 k (.bool true) H n
noncomputable def s_class_File_Right_j26 (lp : LpT) (G : Roms) (call : CallT) (k : KV) (ih24 : (V × V × V × V × Heap × Nat) → Prop) (a1 a30 a31 a32 : V) (H : Heap) (n : Nat) : Prop :=
 onV (B2.ev .add a32 (.int .i64 (.ofNat 1) 0)) fun v27=>
 ih24 (a1, a30, a31, v27, H, n)
noncomputable def s_class_File_Right_l71 (lp : LpT) (G : Roms) (call : CallT) (k : KV) (ih24 : (V × V × V × V × Heap × Nat) → Prop) (ih71 : (V × V × V × V × V × V × V × V × Heap × Nat) → Prop) (a1 a4 a30 a31 a32 a83 a84 a85 : V) (H : Heap) (n : Nat) : Prop :=
 onV (B2.ev .lss a85 a84) fun v72=>
 onTst v72 true (onV (iaddrV 2 a83 a85) fun v73=>
 onV (ldnV 2 v73 G H) fun v74=>
 onA (aAlloc 2 [[(.int .i64 (.ofNat 0) 0), (.int .i64 (.ofNat 0) 0)]] E0) H n fun v75 H n=>
 stV 2 v75 v74 H n fun v76 H n=>
 onV (ldnV 2 v75 G H) fun v77=>
 onV (ldnV 10 a1 G H) fun v78=>
 onV (ldnV 3 a4 G H) fun v79=>
 call n_class_File_many [v78, v79] H n fun v80 H n=>
 onV (ldnV 2 v75 G H) fun v=>onB (vsame v v77) <|
 call n_op_Instr_Right [v77, v80] H n fun v81 H n=>
 onV (notV v81) fun v82=>
 onTst v82 true (k (.bool false) H n) (onV (B2.ev .add a85 (.int .i64 (.ofNat 1) 0)) fun v83=>
 ih71 (a1, a4, a30, a31, a32, a83, a84, v83, H, n))) (s_class_File_Right_j26 lp G call k ih24 a1 a30 a31 a32 H n)
noncomputable def s_class_File_Right_l71b (lp : LpT) (G : Roms) (call : CallT) (k : KV) (ih24 : (V × V × V × V × Heap × Nat) → Prop) : ((V × V × V × V × V × V × V × V × Heap × Nat) → Prop) → (V × V × V × V × V × V × V × V × Heap × Nat) → Prop := fun ih71 s => s_class_File_Right_l71 lp G call k ih24 ih71 s.1 s.2.1 s.2.2.1 s.2.2.2.1 s.2.2.2.2.1 s.2.2.2.2.2.1 s.2.2.2.2.2.2.1 s.2.2.2.2.2.2.2.1 s.2.2.2.2.2.2.2.2.1 s.2.2.2.2.2.2.2.2.2
noncomputable def s_class_File_Right_j42 (lp : LpT) (G : Roms) (call : CallT) (k : KV) (ih24 : (V × V × V × V × Heap × Nat) → Prop) (a1 a4 a6 a30 a31 a32 : V) (H : Heap) (n : Nat) : Prop :=
 onV (paddV 0 a4) fun v43=>
 onV (ld1V v43 G H) fun v44=>
 onV (B2.ev .lss v44 a6) fun v45=>
 onG v45 false (paddV 0 a4) fun v46=>
 onG v45 false (ld1V v46 G H) fun v47=>
 onG v45 false (B2.ev .gtr v47 (.int .i64 (.ofNat 401) 0)) fun v48=>
 onV (pickV v45 (.bool true) v48) fun v49=>
 onG v49 false (paddV 1 a4) fun v50=>
 onG v49 false (ld1V v50 G H) fun v51=>
 onG v49 false (B2.ev .lss v51 (.int .i64 (.ofNat 0) 0)) fun v52=>
 onV (pickV v49 (.bool true) v52) fun v53=>
 onG v53 false (paddV 1 a4) fun v54=>
 onG v53 false (ld1V v54 G H) fun v55=>
 onG v53 false (B2.ev .gtr v55 (.int .i64 (.ofNat 1000) 0)) fun v56=>
 onV (pickV v53 (.bool true) v56) fun v57=>
 onG v57 false (paddV 2 a4) fun v58=>
 onG v57 false (ld1V v58 G H) fun v59=>
 onG v57 false (lenV v59) fun v60=>
 onG v57 false (B2.ev .lss v60 (.int .i64 (.ofNat 1) 0)) fun v61=>
 onV (pickV v57 (.bool true) v61) fun v62=>
 onG v62 false (paddV 2 a4) fun v63=>
 onG v62 false (ld1V v63 G H) fun v64=>
 onG v62 false (lenV v64) fun v65=>
 onG v62 false (B2.ev .gtr v65 (.int .i64 (.ofNat 16384) 0)) fun v66=>
 onV (pickV v62 (.bool true) v66) fun v67=>
 onTst v67 true (k (.bool false) H n) (onV (paddV 2 a4) fun v68=>
 onV (ld1V v68 G H) fun v69=>
 onV (lenV v69) fun v70=>
 lp (V × V × V × V × V × V × V × V × Heap × Nat) (s_class_File_Right_l71b lp G call k ih24) (a1, a4, a30, a31, a32, v69, v70, (.int .i64 (.ofNat 0) 0), H, n))
noncomputable def s_class_File_Right_l24 (lp : LpT) (G : Roms) (call : CallT) (k : KV) (ih24 : (V × V × V × V × Heap × Nat) → Prop) (a1 a30 a31 a32 : V) (H : Heap) (n : Nat) : Prop :=
 onV (B2.ev .lss a32 a31) fun v25=>
 onTst v25 true (onV (iaddrV 3 a30 a32) fun v28=>
 onV (ldnV 3 v28 G H) fun v29=>
 onA (aAlloc 3 [[(.int .i64 (.ofNat 0) 0), (.int .i64 (.ofNat 0) 0), .nils]] E0) H n fun v30 H n=>
 stV 3 v30 v29 H n fun v31 H n=>
 onV (paddV 0 a1) fun v32=>
 onV (paddV 3 v32) fun v33=>
 onV (ld1V v33 G H) fun v34=>
 onV (iaddrV 5 v34 a32) fun v35=>
 onV (ldnV 5 v35 G H) fun v36=>
 onA (aAlloc 5 [[(.str 0 0), (.bool false), .nils, (.str 0 0), (.bool false)]] E0) H n fun v37 H n=>
 stV 5 v37 v36 H n fun v38 H n=>
 onV (paddV 2 v37) fun v39=>
 onV (ld1V v39 G H) fun v40=>
 onV (lenV v40) fun v41=>
 onV (paddV 1 v37) fun v84=>
 onV (ld1V v84 G H) fun v85=>
 onV (notV v85) fun v86=>
 onTst v86 true (onV (B2.ev .add v41 (.int .i64 (.ofNat 1) 0)) fun v87=>
 s_class_File_Right_j42 lp G call k ih24 a1 v30 v87 a30 a31 a32 H n) (s_class_File_Right_j42 lp G call k ih24 a1 v30 v41 a30 a31 a32 H n)) (s_class_File_Right_j20 lp G call k H n)
noncomputable def s_class_File_Right_l24b (lp : LpT) (G : Roms) (call : CallT) (k : KV) : ((V × V × V × V × Heap × Nat) → Prop) → (V × V × V × V × Heap × Nat) → Prop := fun ih24 s => s_class_File_Right_l24 lp G call k ih24 s.1 s.2.1 s.2.2.1 s.2.2.2.1 s.2.2.2.2.1 s.2.2.2.2.2
noncomputable def s_class_File_Right (lp : LpT) (G : Roms) (call : CallT) (a0 : V) (H : Heap) (n : Nat) (k : KV) : Prop :=
 onA (aBoxV a0) H n fun v1 H n=>
 onV (paddV 0 v1) fun v2=>
 onV (ldnV 4 v2 G H) fun v3=>
 call n_face_Face_Right [v3] H n fun v4 H n=>
 onV (notV v4) fun v5=>
 onG v5 false (paddV 4 v1) fun v6=>
 onG v5 false (ldnV 5 v6 G H) fun v7=>
 onGT v5 false (call n_class_Pool_right [v7] H n) H n fun v8 H n=>
 onG v5 false (notV v8) fun v9=>
 onV (pickV v5 (.bool true) v9) fun v10=>
 onG v10 false (paddV 9 v1) fun v11=>
 onG v10 false (ld1V v11 G H) fun v12=>
 onG v10 false (lenV v12) fun v13=>
 onG v10 false (paddV 0 v1) fun v14=>
 onG v10 false (paddV 3 v14) fun v15=>
 onG v10 false (ld1V v15 G H) fun v16=>
 onG v10 false (lenV v16) fun v17=>
 onG v10 false (eqV (.one .int) true v13 v17) fun v18=>
 onV (pickV v10 (.bool true) v18) fun v19=>
 onTst v19 true (k (.bool false) H n) (onV (paddV 9 v1) fun v21=>
 onV (ld1V v21 G H) fun v22=>
 onV (lenV v22) fun v23=>
 lp (V × V × V × V × Heap × Nat) (s_class_File_Right_l24b lp G call k) (v1, v22, v23, (.int .i64 (.ofNat 0) 0), H, n))
noncomputable def s_hier_New_j5 (lp : LpT) (G : Roms) (call : CallT) (k : KV) (a3 : V) (H : Heap) (n : Nat) : Prop :=
 k a3 H n
noncomputable def s_hier_New_l7 (lp : LpT) (G : Roms) (call : CallT) (k : KV) (ih7 : (V × V × V × V × Heap × Nat) → Prop) (a3 a10 a11 a12 : V) (H : Heap) (n : Nat) : Prop :=
 onV (B2.ev .lss a12 a11) fun v8=>
 onTst v8 true (onV (iaddrV 4 a10 a12) fun v9=>
 onV (ldnV 4 v9 G H) fun v10=>
 onA (aAlloc 4 [[(.str 0 0), (.str 0 0), .nils, .nils]] E0) H n fun v11 H n=>
 stV 4 v11 v10 H n fun v12 H n=>
 onV (nilckV a3) fun v13=>
 onV (paddV 0 v13) fun v14=>
 onV (ld1V v14 G H) fun v15=>
 onV (paddV 0 v11) fun v16=>
 onV (ld1V v16 G H) fun v17=>
 onV (ldnV 4 v11 G H) fun v18=>
 updV .str v15 v17 v18 H n fun v19 H n=>
 onV (B2.ev .add a12 (.int .i64 (.ofNat 1) 0)) fun v20=>
 ih7 (a3, a10, a11, v20, H, n)) (s_hier_New_j5 lp G call k a3 H n)
noncomputable def s_hier_New_l7b (lp : LpT) (G : Roms) (call : CallT) (k : KV) : ((V × V × V × V × Heap × Nat) → Prop) → (V × V × V × V × Heap × Nat) → Prop := fun ih7 s => s_hier_New_l7 lp G call k ih7 s.1 s.2.1 s.2.2.1 s.2.2.2.1 s.2.2.2.2.1 s.2.2.2.2.2
noncomputable def s_hier_New (lp : LpT) (G : Roms) (call : CallT) (a0 : V) (H : Heap) (n : Nat) (k : KV) : Prop :=
 onA (aMkmap E0) H n fun v1 H n=>
 onA (aMkmap E0) H n fun v2 H n=>
 onV (buildV [.nilm, .nilm] [(0, 1, .c v1), (1, 1, .c v2)]) fun v3=>
 onA (aBoxV v3) H n fun v4 H n=>
 onV (lenV a0) fun v6=>
 lp (V × V × V × V × Heap × Nat) (s_hier_New_l7b lp G call k) (v4, a0, v6, (.int .i64 (.ofNat 0) 0), H, n)
noncomputable def s_hier_Table_Check_j33 (lp : LpT) (G : Roms) (call : CallT) (k : KV) (H : Heap) (n : Nat) : Prop :=
 k (.int .i64 (.ofNat 0) 0) H n
noncomputable def s_hier_Table_Check_l37 (lp : LpT) (G : Roms) (call : CallT) (k : KV) (ih37 : (V × V × V × V × V × Heap × Nat) → Prop) (a0 a5 a92 a93 a94 : V) (H : Heap) (n : Nat) : Prop :=
 onV (B2.ev .lss a94 a93) fun v38=>
 onTst v38 true (onV (iaddrV 5 a92 a94) fun v39=>
 onV (ldnV 5 v39 G H) fun v40=>
 onA (aAlloc 5 [[(.str 0 0), (.bool false), .nils, (.str 0 0), (.bool false)]] E0) H n fun v41 H n=>
 stV 5 v41 v40 H n fun v42 H n=>
 onV (paddV 3 v41) fun v43=>
 onV (ldnV 2 v43 G H) fun v44=>
 onA (aBslice 2 1 [(.str 0 0), (.bool false)] [(0, .c v44)] E0) H n fun v45 H n=>
 onV (paddV 2 v41) fun v46=>
 onV (ld1V v46 G H) fun v47=>
 appV 2 24 v45 v47 G H n fun v48 H n=>
 call n_hier_Table_Known [a0, v48] H n fun v49 H n=>
 onV (notV v49) fun v50=>
 onTst v50 true (k (.int .i64 (.ofNat 23) 0) H n) (onV (paddV 1 a5) fun v51=>
 onV (ld1V v51 G H) fun v52=>
 onV (paddV 0 v41) fun v53=>
 onV (ld1V v53 G H) fun v54=>
 call n_hier_Table_Method [a0, v52, v54, (.bool false)] H n fun v55 H n=>
 onV (extV v55 0) fun v56=>
 onV (extV v55 1) fun v57=>
 onV (extV v55 2) fun v58=>
 onA (aAlloc 5 [[(.str 0 0), (.bool false), .nils, (.str 0 0), (.bool false)]] E0) H n fun v59 H n=>
 stV 5 v59 v57 H n fun v60 H n=>
 onG v58 true (paddV 1 v41) fun v61=>
 onG v58 true (ld1V v61 G H) fun v62=>
 onG v58 true (notV v62) fun v63=>
 onV (pickV v58 v63 (.bool false)) fun v64=>
 onG v64 true (ldnV 5 v41 G H) fun v65=>
 onG v64 true (ldnV 5 v59 G H) fun v66=>
 onGT v64 true (call n_face_Sig_Same [v65, v66] H n) H n fun v67 H n=>
 onG v64 true (notV v67) fun v68=>
 onV (pickV v64 v68 (.bool false)) fun v69=>
 onTst v69 true (k (.int .i64 (.ofNat 27) 0) H n) (onV (B2.ev .add a94 (.int .i64 (.ofNat 1) 0)) fun v70=>
 ih37 (a0, a5, a92, a93, v70, H, n)))) (s_hier_Table_Check_j33 lp G call k H n)
noncomputable def s_hier_Table_Check_l37b (lp : LpT) (G : Roms) (call : CallT) (k : KV) : ((V × V × V × V × V × Heap × Nat) → Prop) → (V × V × V × V × V × Heap × Nat) → Prop := fun ih37 s => s_hier_Table_Check_l37 lp G call k ih37 s.1 s.2.1 s.2.2.1 s.2.2.2.1 s.2.2.2.2.1 s.2.2.2.2.2.1 s.2.2.2.2.2.2
noncomputable def s_hier_Table_Check_j32 (lp : LpT) (G : Roms) (call : CallT) (k : KV) (a0 a5 : V) (H : Heap) (n : Nat) : Prop :=
 onV (paddV 3 a5) fun v34=>
 onV (ld1V v34 G H) fun v35=>
 onV (lenV v35) fun v36=>
 lp (V × V × V × V × V × Heap × Nat) (s_hier_Table_Check_l37b lp G call k) (a0, a5, v35, v36, (.int .i64 (.ofNat 0) 0), H, n)
noncomputable def s_hier_Table_Check_l74 (lp : LpT) (G : Roms) (call : CallT) (k : KV) (ih74 : (V × V × V × V × V × Heap × Nat) → Prop) (a0 a5 a67 a68 a69 : V) (H : Heap) (n : Nat) : Prop :=
 onV (B2.ev .lss a69 a68) fun v75=>
 onTst v75 true (onV (iaddrV 3 a67 a69) fun v76=>
 onV (ldnV 3 v76 G H) fun v77=>
 onA (aAlloc 3 [[(.str 0 0), (.str 0 0), (.bool false)]] E0) H n fun v78 H n=>
 stV 3 v78 v77 H n fun v79 H n=>
 onV (paddV 1 v78) fun v80=>
 onV (ldnV 2 v80 G H) fun v81=>
 onA (aBslice 2 1 [(.str 0 0), (.bool false)] [(0, .c v81)] E0) H n fun v82 H n=>
 call n_hier_Table_Known [a0, v82] H n fun v83 H n=>
 onV (notV v83) fun v84=>
 onTst v84 true (k (.int .i64 (.ofNat 23) 0) H n) (onV (paddV 1 a5) fun v85=>
 onV (ld1V v85 G H) fun v86=>
 onV (paddV 0 v78) fun v87=>
 onV (ld1V v87 G H) fun v88=>
 call n_hier_Table_Field [a0, v86, v88] H n fun v89 H n=>
 onV (extV v89 0) fun v90=>
 onV (extV v89 1) fun v91=>
 onV (extV v89 2) fun v92=>
 onA (aAlloc 2 [[(.str 0 0), (.bool false)]] E0) H n fun v93 H n=>
 stV 2 v93 v91 H n fun v94 H n=>
 onTst v92 true (k (.int .i64 (.ofNat 6) 0) H n) (onV (B2.ev .add a69 (.int .i64 (.ofNat 1) 0)) fun v95=>
 ih74 (a0, a5, a67, a68, v95, H, n)))) (s_hier_Table_Check_j32 lp G call k a0 a5 H n)
noncomputable def s_hier_Table_Check_l74b (lp : LpT) (G : Roms) (call : CallT) (k : KV) : ((V × V × V × V × V × Heap × Nat) → Prop) → (V × V × V × V × V × Heap × Nat) → Prop := fun ih74 s => s_hier_Table_Check_l74 lp G call k ih74 s.1 s.2.1 s.2.2.1 s.2.2.2.1 s.2.2.2.2.1 s.2.2.2.2.2.1 s.2.2.2.2.2.2
noncomputable def s_hier_Table_Check (lp : LpT) (G : Roms) (call : CallT) (a0 a1 : V) (H : Heap) (n : Nat) (k : KV) : Prop :=
 call n_hier_Table_Face [a0, a1] H n fun v1 H n=>
 onV (extV v1 0) fun v2=>
 onV (extV v1 1) fun v3=>
 onA (aAlloc 4 [[(.str 0 0), (.str 0 0), .nils, .nils]] E0) H n fun v4 H n=>
 stV 4 v4 v2 H n fun v5 H n=>
 onV (notV v3) fun v6=>
 onG v6 false (some a1) fun v7=>
 onG v6 false (eqV (.one .str) false v7 (.str 0 0)) fun v8=>
 onV (pickV v6 (.bool true) v8) fun v9=>
 onTst v9 true (k (.int .i64 (.ofNat 23) 0) H n) (call n_hier_Table_Above [a0, a1] H n fun v10 H n=>
 onV (extV v10 0) fun v11=>
 onV (extV v10 1) fun v12=>
 onV (lenV v11) fun v13=>
 onV (B2.ev .sub v13 (.int .i64 (.ofNat 1) 0)) fun v14=>
 onV (iaddrV 1 v11 v14) fun v15=>
 onV (ld1V v15 G H) fun v16=>
 call n_hier_Table_Face [a0, v16] H n fun v17 H n=>
 onV (extV v17 0) fun v18=>
 onV (extV v17 1) fun v19=>
 onA (aAlloc 4 [[(.str 0 0), (.str 0 0), .nils, .nils]] E0) H n fun v20 H n=>
 stV 4 v20 v18 H n fun v21 H n=>
 onV (notV v12) fun v22=>
 onG v22 true (some v11) fun v23=>
 onG v22 true (paddV 1 v20) fun v24=>
 onG v22 true (ld1V v24 G H) fun v25=>
 onGT v22 true (call n_slices_Contains_string_string [v23, v25] H n) H n fun v26 H n=>
 onG v22 true (notV v26) fun v27=>
 onV (pickV v22 v27 (.bool false)) fun v28=>
 onTst v28 true (k (.int .i64 (.ofNat 23) 0) H n) (onV (notV v12) fun v29=>
 onTst v29 true (k (.int .i64 (.ofNat 26) 0) H n) (onV (ldnV 4 v4 G H) fun v30=>
 call n_hier_twice [v30] H n fun v31 H n=>
 onTst v31 true (k (.int .i64 (.ofNat 6) 0) H n) (onV (paddV 2 v4) fun v71=>
 onV (ld1V v71 G H) fun v72=>
 onV (lenV v72) fun v73=>
 lp (V × V × V × V × V × Heap × Nat) (s_hier_Table_Check_l74b lp G call k) (a0, v4, v72, v73, (.int .i64 (.ofNat 0) 0), H, n)))))
noncomputable def s_link_Image_pool_j11 (lp : LpT) (G : Roms) (call : CallT) (k : KV) (H : Heap) (n : Nat) : Prop :=
 k (.bool true) H n
noncomputable def s_link_Image_pool_l15 (lp : LpT) (G : Roms) (call : CallT) (k : KV) (ih15 : (V × V × V × V × Heap × Nat) → Prop) (a0 a73 a74 a75 : V) (H : Heap) (n : Nat) : Prop :=
 onV (B2.ev .lss a75 a74) fun v16=>
 onTst v16 true (onV (iaddrV 6 a73 a75) fun v17=>
 onV (ldnV 6 v17 G H) fun v18=>
 onA (aAlloc 6 [[(.str 0 0), (.bool false), .nils, (.str 0 0), (.bool false), (.str 0 0)]] E0) H n fun v19 H n=>
 stV 6 v19 v18 H n fun v20 H n=>
 onV (ldnV 6 v19 G H) fun v21=>
 call n_link_Image_Find [a0, v21] H n fun v22 H n=>
 onV (extV v22 0) fun v23=>
 onV (extV v22 1) fun v24=>
 onV (notV v24) fun v25=>
 onTst v25 true (k (.bool false) H n) (onV (B2.ev .add a75 (.int .i64 (.ofNat 1) 0)) fun v26=>
 ih15 (a0, a73, a74, v26, H, n))) (s_link_Image_pool_j11 lp G call k H n)
noncomputable def s_link_Image_pool_l15b (lp : LpT) (G : Roms) (call : CallT) (k : KV) : ((V × V × V × V × Heap × Nat) → Prop) → (V × V × V × V × Heap × Nat) → Prop := fun ih15 s => s_link_Image_pool_l15 lp G call k ih15 s.1 s.2.1 s.2.2.1 s.2.2.2.1 s.2.2.2.2.1 s.2.2.2.2.2
noncomputable def s_link_Image_pool_j10 (lp : LpT) (G : Roms) (call : CallT) (k : KV) (a0 a3 : V) (H : Heap) (n : Nat) : Prop :=
 onV (paddV 4 a3) fun v12=>
 onV (ld1V v12 G H) fun v13=>
 onV (lenV v13) fun v14=>
 lp (V × V × V × V × Heap × Nat) (s_link_Image_pool_l15b lp G call k) (a0, v13, v14, (.int .i64 (.ofNat 0) 0), H, n)
noncomputable def s_link_Image_pool_l30 (lp : LpT) (G : Roms) (call : CallT) (k : KV) (ih30 : (V × V × V × V × V × Heap × Nat) → Prop) (a0 a3 a42 a43 a44 : V) (H : Heap) (n : Nat) : Prop :=
 onV (B2.ev .lss a44 a43) fun v31=>
 onTst v31 true (onV (iaddrV 4 a42 a44) fun v32=>
 onV (ldnV 4 v32 G H) fun v33=>
 onA (aAlloc 4 [[(.str 0 0), (.str 0 0), (.bool false), (.str 0 0)]] E0) H n fun v34 H n=>
 stV 4 v34 v33 H n fun v35 H n=>
 onV (nilckV a0) fun v36=>
 onV (paddV 0 v36) fun v37=>
 onV (ld1V v37 G H) fun v38=>
 onV (paddV 3 v34) fun v39=>
 onV (ld1V v39 G H) fun v40=>
 onV (paddV 0 v34) fun v41=>
 onV (paddV 0 v41) fun v42=>
 onV (ld1V v42 G H) fun v43=>
 onA (aAlloc 2 [[(.str 0 0), (.bool false)]] E0) H n fun v44 H n=>
 call n_hier_Table_Field [v38, v40, v43] H n fun v45 H n=>
 onV (extV v45 0) fun v46=>
 onV (extV v45 1) fun v47=>
 onV (extV v45 2) fun v48=>
 stV 2 v44 v47 H n fun v49 H n=>
 onV (notV v48) fun v50=>
 onG v50 false (ldnV 2 v44 G H) fun v51=>
 onG v50 false (paddV 0 v34) fun v52=>
 onG v50 false (paddV 1 v52) fun v53=>
 onG v50 false (ldnV 2 v53 G H) fun v54=>
 onG v50 false (eqV (.agg [.str, .bool]) true v51 v54) fun v55=>
 onV (pickV v50 (.bool true) v55) fun v56=>
 onTst v56 true (k (.bool false) H n) (onV (B2.ev .add a44 (.int .i64 (.ofNat 1) 0)) fun v57=>
 ih30 (a0, a3, a42, a43, v57, H, n))) (s_link_Image_pool_j10 lp G call k a0 a3 H n)
noncomputable def s_link_Image_pool_l30b (lp : LpT) (G : Roms) (call : CallT) (k : KV) : ((V × V × V × V × V × Heap × Nat) → Prop) → (V × V × V × V × V × Heap × Nat) → Prop := fun ih30 s => s_link_Image_pool_l30 lp G call k ih30 s.1 s.2.1 s.2.2.1 s.2.2.2.1 s.2.2.2.2.1 s.2.2.2.2.2.1 s.2.2.2.2.2.2
noncomputable def s_link_Image_pool_j2 (lp : LpT) (G : Roms) (call : CallT) (k : KV) (a0 a3 : V) (H : Heap) (n : Nat) : Prop :=
 onV (nilckV a0) fun v3=>
 onV (paddV 0 v3) fun v4=>
 onV (ld1V v4 G H) fun v5=>
 onV (paddV 2 a3) fun v6=>
 onV (ld1V v6 G H) fun v7=>
 call n_hier_Table_Known [v5, v7] H n fun v8 H n=>
 onV (notV v8) fun v9=>
 onTst v9 true (k (.bool false) H n) (onV (paddV 3 a3) fun v27=>
 onV (ld1V v27 G H) fun v28=>
 onV (lenV v28) fun v29=>
 lp (V × V × V × V × V × Heap × Nat) (s_link_Image_pool_l30b lp G call k) (a0, a3, v28, v29, (.int .i64 (.ofNat 0) 0), H, n))
noncomputable def s_link_Image_pool_l61 (lp : LpT) (G : Roms) (call : CallT) (k : KV) (ih61 : (V × V × V × V × V × Heap × Nat) → Prop) (a0 a3 a17 a18 a19 : V) (H : Heap) (n : Nat) : Prop :=
 onV (B2.ev .lss a19 a18) fun v62=>
 onTst v62 true (onV (iaddrV 1 a17 a19) fun v63=>
 onV (ld1V v63 G H) fun v64=>
 onV (nilckV a0) fun v65=>
 onV (paddV 0 v65) fun v66=>
 onV (ld1V v66 G H) fun v67=>
 call n_ast_Of [v64] H n fun v68 H n=>
 onV (ld1V v66 G H) fun v=>onB (vsame v v67) <|
 onA (aBslice 2 1 [(.str 0 0), (.bool false)] [(0, .c v68)] E0) H n fun v69 H n=>
 call n_hier_Table_Known [v67, v69] H n fun v70 H n=>
 onV (notV v70) fun v71=>
 onTst v71 true (k (.bool false) H n) (onV (B2.ev .add a19 (.int .i64 (.ofNat 1) 0)) fun v72=>
 ih61 (a0, a3, a17, a18, v72, H, n))) (s_link_Image_pool_j2 lp G call k a0 a3 H n)
noncomputable def s_link_Image_pool_l61b (lp : LpT) (G : Roms) (call : CallT) (k : KV) : ((V × V × V × V × V × Heap × Nat) → Prop) → (V × V × V × V × V × Heap × Nat) → Prop := fun ih61 s => s_link_Image_pool_l61 lp G call k ih61 s.1 s.2.1 s.2.2.1 s.2.2.2.1 s.2.2.2.2.1 s.2.2.2.2.2.1 s.2.2.2.2.2.2
noncomputable def s_link_Image_pool (lp : LpT) (G : Roms) (call : CallT) (a0 a1 : V) (H : Heap) (n : Nat) (k : KV) : Prop :=
 onA (aBoxV a1) H n fun v1 H n=>
 onV (paddV 1 v1) fun v58=>
 onV (ld1V v58 G H) fun v59=>
 onV (lenV v59) fun v60=>
 lp (V × V × V × V × V × Heap × Nat) (s_link_Image_pool_l61b lp G call k) (a0, v1, v59, v60, (.int .i64 (.ofNat 0) 0), H, n)
noncomputable def s_hier_Table_Face (lp : LpT) (G : Roms) (call : CallT) (a0 a1 : V) (H : Heap) (n : Nat) (k : KV) : Prop :=
 onA (aAlloc 4 [[(.str 0 0), (.str 0 0), .nils, .nils]] E0) H n fun v1 H n=>
 onV (eqV (.one .ptr) false a0 .nilp) fun v2=>
 onTst v2 true (onV (buildV [(.str 0 0), (.str 0 0), .nils, .nils] []) fun v3=>
 stV 4 v1 v3 H n fun v4 H n=>
 onO (getVs [.cn v1 4, .t (.bool false)] G H) fun l => k (oneV l) H n) (onV (nilckV a0) fun v5=>
 onV (paddV 1 v5) fun v6=>
 onV (ld1V v6 G H) fun v7=>
 updV .str v7 a1 (.bool true) H n fun v8 H n=>
 onV (nilckV a0) fun v9=>
 onV (paddV 0 v9) fun v10=>
 onV (ld1V v10 G H) fun v11=>
 onV (lookV .str true (.agg [(.str 0 0), (.str 0 0), .nils, .nils]) v11 a1 H) fun v12=>
 onV (extV v12 0) fun v13=>
 onV (extV v12 1) fun v14=>
 onA (aAlloc 4 [[(.str 0 0), (.str 0 0), .nils, .nils]] E0) H n fun v15 H n=>
 stV 4 v15 v13 H n fun v16 H n=>
 onV (ldnV 4 v15 G H) fun v17=>
 stV 4 v1 v17 H n fun v18 H n=>
 onO (getVs [.cn v1 4, .t v14] G H) fun l => k (oneV l) H n)
noncomputable def s_hier_Table_Field_j5 (lp : LpT) (G : Roms) (call : CallT) (k : KV) (a7 : V) (H : Heap) (n : Nat) : Prop :=
 onV (buildV [(.str 0 0), (.bool false)] []) fun v6=>
 stV 2 a7 v6 H n fun v7 H n=>
 onO (getVs [.t (.str 0 0), .cn a7 2, .t (.bool false)] G H) fun l => k (oneV l) H n
noncomputable def s_hier_Table_Field_l9 (lp : LpT) (G : Roms) (call : CallT) (k : KV) (ih9 : (V × V × V × V × V × V × Heap × Nat) → Prop) (a0 a2 a7 a23 a24 a25 : V) (H : Heap) (n : Nat) : Prop :=
 onV (B2.ev .lss a25 a24) fun v10=>
 onTst v10 true (onV (iaddrV 1 a23 a25) fun v11=>
 onV (ld1V v11 G H) fun v12=>
 call n_hier_Table_Face [a0, v12] H n fun v13 H n=>
 onV (extV v13 0) fun v14=>
 onV (extV v13 1) fun v15=>
 onA (aAlloc 4 [[(.str 0 0), (.str 0 0), .nils, .nils]] E0) H n fun v16 H n=>
 stV 4 v16 v14 H n fun v17 H n=>
 onV (ldnV 4 v16 G H) fun v18=>
 call n_face_Face_Field [v18, a2] H n fun v19 H n=>
 onV (extV v19 0) fun v20=>
 onV (extV v19 1) fun v21=>
 onA (aAlloc 2 [[(.str 0 0), (.bool false)]] E0) H n fun v22 H n=>
 stV 2 v22 v20 H n fun v23 H n=>
 onTst v21 true (onV (ldnV 2 v22 G H) fun v24=>
 stV 2 a7 v24 H n fun v25 H n=>
 onO (getVs [.t v12, .cn a7 2, .t (.bool true)] G H) fun l => k (oneV l) H n) (onV (B2.ev .add a25 (.int .i64 (.ofNat 1) 0)) fun v26=>
 ih9 (a0, a2, a7, a23, a24, v26, H, n))) (s_hier_Table_Field_j5 lp G call k a7 H n)
noncomputable def s_hier_Table_Field_l9b (lp : LpT) (G : Roms) (call : CallT) (k : KV) : ((V × V × V × V × V × V × Heap × Nat) → Prop) → (V × V × V × V × V × V × Heap × Nat) → Prop := fun ih9 s => s_hier_Table_Field_l9 lp G call k ih9 s.1 s.2.1 s.2.2.1 s.2.2.2.1 s.2.2.2.2.1 s.2.2.2.2.2.1 s.2.2.2.2.2.2.1 s.2.2.2.2.2.2.2
noncomputable def s_hier_Table_Field (lp : LpT) (G : Roms) (call : CallT) (a0 a1 a2 : V) (H : Heap) (n : Nat) (k : KV) : Prop :=
 onA (aAlloc 2 [[(.str 0 0), (.bool false)]] E0) H n fun v1 H n=>
 call n_hier_Table_Above [a0, a1] H n fun v2 H n=>
 onV (extV v2 0) fun v3=>
 onV (extV v2 1) fun v4=>
 onV (lenV v3) fun v8=>
 lp (V × V × V × V × V × V × Heap × Nat) (s_hier_Table_Field_l9b lp G call k) (a0, a2, v1, v3, v8, (.int .i64 (.ofNat 0) 0), H, n)
noncomputable def s_face_Face_Method_j3 (lp : LpT) (G : Roms) (call : CallT) (k : KV) (a4 : V) (H : Heap) (n : Nat) : Prop :=
 onV (buildV [(.str 0 0), (.bool false), .nils, (.str 0 0), (.bool false)] []) fun v4=>
 stV 5 a4 v4 H n fun v5 H n=>
 onO (getVs [.cn a4 5, .t (.bool false)] G H) fun l => k (oneV l) H n
noncomputable def s_face_Face_Method_l9 (lp : LpT) (G : Roms) (call : CallT) (k : KV) (ih9 : (V × V × V × V × V × Heap × Nat) → Prop) (a1 a4 a9 a10 a11 : V) (H : Heap) (n : Nat) : Prop :=
 onV (B2.ev .lss a11 a10) fun v10=>
 onTst v10 true (onV (iaddrV 5 a9 a11) fun v11=>
 onV (ldnV 5 v11 G H) fun v12=>
 onA (aAlloc 5 [[(.str 0 0), (.bool false), .nils, (.str 0 0), (.bool false)]] E0) H n fun v13 H n=>
 stV 5 v13 v12 H n fun v14 H n=>
 onV (paddV 0 v13) fun v15=>
 onV (ld1V v15 G H) fun v16=>
 onV (eqV (.one .str) false v16 a1) fun v17=>
 onTst v17 true (onV (ldnV 5 v13 G H) fun v18=>
 stV 5 a4 v18 H n fun v19 H n=>
 onO (getVs [.cn a4 5, .t (.bool true)] G H) fun l => k (oneV l) H n) (onV (B2.ev .add a11 (.int .i64 (.ofNat 1) 0)) fun v20=>
 ih9 (a1, a4, a9, a10, v20, H, n))) (s_face_Face_Method_j3 lp G call k a4 H n)
noncomputable def s_face_Face_Method_l9b (lp : LpT) (G : Roms) (call : CallT) (k : KV) : ((V × V × V × V × V × Heap × Nat) → Prop) → (V × V × V × V × V × Heap × Nat) → Prop := fun ih9 s => s_face_Face_Method_l9 lp G call k ih9 s.1 s.2.1 s.2.2.1 s.2.2.2.1 s.2.2.2.2.1 s.2.2.2.2.2.1 s.2.2.2.2.2.2
noncomputable def s_face_Face_Method (lp : LpT) (G : Roms) (call : CallT) (a0 a1 : V) (H : Heap) (n : Nat) (k : KV) : Prop :=
 onA (aBoxV a0) H n fun v1 H n=>
 onA (aAlloc 5 [[(.str 0 0), (.bool false), .nils, (.str 0 0), (.bool false)]] E0) H n fun v2 H n=>
 onV (paddV 3 v1) fun v6=>
 onV (ld1V v6 G H) fun v7=>
 onV (lenV v7) fun v8=>
 lp (V × V × V × V × V × Heap × Nat) (s_face_Face_Method_l9b lp G call k) (a1, v2, v7, v8, (.int .i64 (.ofNat 0) 0), H, n)
noncomputable def s_face_Sig_Same (lp : LpT) (G : Roms) (call : CallT) (a0 a1 : V) (H : Heap) (n : Nat) (k : KV) : Prop :=
 onA (aBoxV a0) H n fun v1 H n=>
 onA (aBoxV a1) H n fun v2 H n=>
 onV (paddV 0 v1) fun v3=>
 onV (ld1V v3 G H) fun v4=>
 onV (paddV 0 v2) fun v5=>
 onV (ld1V v5 G H) fun v6=>
 onV (eqV (.one .str) false v4 v6) fun v7=>
 onG v7 true (paddV 1 v1) fun v8=>
 onG v7 true (ld1V v8 G H) fun v9=>
 onG v7 true (paddV 1 v2) fun v10=>
 onG v7 true (ld1V v10 G H) fun v11=>
 onG v7 true (eqV (.one .bool) false v9 v11) fun v12=>
 onV (pickV v7 v12 (.bool false)) fun v13=>
 onG v13 true (paddV 3 v1) fun v14=>
 onG v13 true (ldnV 2 v14 G H) fun v15=>
 onG v13 true (paddV 3 v2) fun v16=>
 onG v13 true (ldnV 2 v16 G H) fun v17=>
 onG v13 true (eqV (.agg [.str, .bool]) false v15 v17) fun v18=>
 onV (pickV v13 v18 (.bool false)) fun v19=>
 onG v19 true (paddV 2 v1) fun v20=>
 onG v19 true (ld1V v20 G H) fun v21=>
 onG v19 true (paddV 2 v2) fun v22=>
 onG v19 true (ld1V v22 G H) fun v23=>
 onGT v19 true (call n_slices_Equal_ast_Type_ast_Type [v21, v23] H n) H n fun v24 H n=>
 onV (pickV v19 v24 (.bool false)) fun v25=>
 k v25 H n
noncomputable def s_slices_Contains_string_string (lp : LpT) (G : Roms) (call : CallT) (a0 a1 : V) (H : Heap) (n : Nat) (k : KV) : Prop :=
 call n_slices_Index_string_string [a0, a1] H n fun v1 H n=>
 onV (B2.ev .geq v1 (.int .i64 (.ofNat 0) 0)) fun v2=>
 k v2 H n
noncomputable def s_hier_Table_Known_j1 (lp : LpT) (G : Roms) (call : CallT) (k : KV) (H : Heap) (n : Nat) : Prop :=
 k (.bool true) H n
noncomputable def s_hier_Table_Known_j5 (lp : LpT) (G : Roms) (call : CallT) (k : KV) (ih3 : (V × V × V × V × Heap × Nat) → Prop) (a0 a9 a10 a11 : V) (H : Heap) (n : Nat) : Prop :=
 onV (B2.ev .add a11 (.int .i64 (.ofNat 1) 0)) fun v6=>
 ih3 (a0, a9, a10, v6, H, n)
noncomputable def s_hier_Table_Known_l3 (lp : LpT) (G : Roms) (call : CallT) (k : KV) (ih3 : (V × V × V × V × Heap × Nat) → Prop) (a0 a9 a10 a11 : V) (H : Heap) (n : Nat) : Prop :=
 onV (B2.ev .lss a11 a10) fun v4=>
 onTst v4 true (onV (iaddrV 2 a9 a11) fun v7=>
 onV (ldnV 2 v7 G H) fun v8=>
 onA (aAlloc 2 [[(.str 0 0), (.bool false)]] E0) H n fun v9 H n=>
 stV 2 v9 v8 H n fun v10 H n=>
 onV (ldnV 2 v9 G H) fun v11=>
 call n_face_Good [v11] H n fun v12 H n=>
 onV (notV v12) fun v13=>
 onTst v13 true (k (.bool false) H n) (onV (paddV 0 v9) fun v14=>
 onV (ld1V v14 G H) fun v15=>
 call n_ast_Of [v15] H n fun v16 H n=>
 call n_ast_Type_Class [v16] H n fun v17 H n=>
 onTst v17 true (onV (paddV 0 v9) fun v18=>
 onV (ld1V v18 G H) fun v19=>
 call n_hier_Table_Face [a0, v19] H n fun v20 H n=>
 onV (extV v20 0) fun v21=>
 onV (extV v20 1) fun v22=>
 onA (aAlloc 4 [[(.str 0 0), (.str 0 0), .nils, .nils]] E0) H n fun v23 H n=>
 stV 4 v23 v21 H n fun v24 H n=>
 onV (notV v22) fun v25=>
 onTst v25 true (k (.bool false) H n) (s_hier_Table_Known_j5 lp G call k ih3 a0 a9 a10 a11 H n)) (s_hier_Table_Known_j5 lp G call k ih3 a0 a9 a10 a11 H n))) (s_hier_Table_Known_j1 lp G call k H n)
noncomputable def s_hier_Table_Known_l3b (lp : LpT) (G : Roms) (call : CallT) (k : KV) : ((V × V × V × V × Heap × Nat) → Prop) → (V × V × V × V × Heap × Nat) → Prop := fun ih3 s => s_hier_Table_Known_l3 lp G call k ih3 s.1 s.2.1 s.2.2.1 s.2.2.2.1 s.2.2.2.2.1 s.2.2.2.2.2
noncomputable def s_hier_Table_Known (lp : LpT) (G : Roms) (call : CallT) (a0 a1 : V) (H : Heap) (n : Nat) (k : KV) : Prop :=
 onV (lenV a1) fun v2=>
 lp (V × V × V × V × Heap × Nat) (s_hier_Table_Known_l3b lp G call k) (a0, a1, v2, (.int .i64 (.ofNat 0) 0), H, n)
noncomputable def s_face_Face_Same (lp : LpT) (G : Roms) (call : CallT) (a0 a1 : V) (H : Heap) (n : Nat) (k : KV) : Prop :=
 onA (aBoxV a0) H n fun v1 H n=>
 onA (aBoxV a1) H n fun v2 H n=>
 onV (paddV 0 v1) fun v3=>
 onV (ld1V v3 G H) fun v4=>
 onV (paddV 0 v2) fun v5=>
 onV (ld1V v5 G H) fun v6=>
 onV (eqV (.one .str) false v4 v6) fun v7=>
 onG v7 true (paddV 1 v1) fun v8=>
 onG v7 true (ld1V v8 G H) fun v9=>
 onG v7 true (paddV 1 v2) fun v10=>
 onG v7 true (ld1V v10 G H) fun v11=>
 onG v7 true (eqV (.one .str) false v9 v11) fun v12=>
 onV (pickV v7 v12 (.bool false)) fun v13=>
 onG v13 true (paddV 2 v1) fun v14=>
 onG v13 true (ld1V v14 G H) fun v15=>
 onG v13 true (paddV 2 v2) fun v16=>
 onG v13 true (ld1V v16 G H) fun v17=>
 onGT v13 true (call n_slices_Equal_ast_Var_ast_Var [v15, v17] H n) H n fun v18 H n=>
 onV (pickV v13 v18 (.bool false)) fun v19=>
 onG v19 true (paddV 3 v1) fun v20=>
 onG v19 true (ld1V v20 G H) fun v21=>
 onG v19 true (paddV 3 v2) fun v22=>
 onG v19 true (ld1V v22 G H) fun v23=>
 onGT v19 true (call n_slices_EqualFunc_face_Sig_face_Sig_face_Sig_face_Sig [v21, v23, (.fn 45 [] [])] H n) H n fun v24 H n=>
 onV (pickV v19 v24 (.bool false)) fun v25=>
 k v25 H n
noncomputable def s_ast_Of (lp : LpT) (G : Roms) (call : CallT) (a0 : V) (H : Heap) (n : Nat) (k : KV) : Prop :=
 onA (aAlloc 2 [[(.str 0 0), (.bool false)]] E0) H n fun v1 H n=>
 onV (buildV [(.str 0 0), (.bool false)] [(0, 1, .c a0)]) fun v2=>
 stV 2 v1 v2 H n fun v3 H n=>
 onO (getVs [.cn v1 2] G H) fun l => k (oneV l) H n
noncomputable def s_hier_Table_Method_j5 (lp : LpT) (G : Roms) (call : CallT) (k : KV) (a9 : V) (H : Heap) (n : Nat) : Prop :=
 onV (buildV [(.str 0 0), (.bool false), .nils, (.str 0 0), (.bool false)] []) fun v6=>
 stV 5 a9 v6 H n fun v7 H n=>
 onO (getVs [.t (.str 0 0), .cn a9 5, .t (.bool false)] G H) fun l => k (oneV l) H n
noncomputable def s_hier_Table_Method_l9 (lp : LpT) (G : Roms) (call : CallT) (k : KV) (ih9 : (V × V × V × V × V × V × V × Heap × Nat) → Prop) (a0 a2 a3 a9 a25 a26 a27 : V) (H : Heap) (n : Nat) : Prop :=
 onV (B2.ev .lss a27 a26) fun v10=>
 onTst v10 true (onV (iaddrV 1 a25 a27) fun v11=>
 onV (ld1V v11 G H) fun v12=>
 call n_hier_Table_Face [a0, v12] H n fun v13 H n=>
 onV (extV v13 0) fun v14=>
 onV (extV v13 1) fun v15=>
 onA (aAlloc 4 [[(.str 0 0), (.str 0 0), .nils, .nils]] E0) H n fun v16 H n=>
 stV 4 v16 v14 H n fun v17 H n=>
 onV (ldnV 4 v16 G H) fun v18=>
 call n_face_Face_Method [v18, a2] H n fun v19 H n=>
 onV (extV v19 0) fun v20=>
 onV (extV v19 1) fun v21=>
 onA (aAlloc 5 [[(.str 0 0), (.bool false), .nils, (.str 0 0), (.bool false)]] E0) H n fun v22 H n=>
 stV 5 v22 v20 H n fun v23 H n=>
 onG v21 true (paddV 1 v22) fun v24=>
 onG v21 true (ld1V v24 G H) fun v25=>
 onG v21 true (some a3) fun v26=>
 onG v21 true (eqV (.one .bool) false v25 v26) fun v27=>
 onV (pickV v21 v27 (.bool false)) fun v28=>
 onTst v28 true (onV (ldnV 5 v22 G H) fun v29=>
 stV 5 a9 v29 H n fun v30 H n=>
 onO (getVs [.t v12, .cn a9 5, .t (.bool true)] G H) fun l => k (oneV l) H n) (onV (B2.ev .add a27 (.int .i64 (.ofNat 1) 0)) fun v31=>
 ih9 (a0, a2, a3, a9, a25, a26, v31, H, n))) (s_hier_Table_Method_j5 lp G call k a9 H n)
noncomputable def s_hier_Table_Method_l9b (lp : LpT) (G : Roms) (call : CallT) (k : KV) : ((V × V × V × V × V × V × V × Heap × Nat) → Prop) → (V × V × V × V × V × V × V × Heap × Nat) → Prop := fun ih9 s => s_hier_Table_Method_l9 lp G call k ih9 s.1 s.2.1 s.2.2.1 s.2.2.2.1 s.2.2.2.2.1 s.2.2.2.2.2.1 s.2.2.2.2.2.2.1 s.2.2.2.2.2.2.2.1 s.2.2.2.2.2.2.2.2
noncomputable def s_hier_Table_Method (lp : LpT) (G : Roms) (call : CallT) (a0 a1 a2 a3 : V) (H : Heap) (n : Nat) (k : KV) : Prop :=
 onA (aAlloc 5 [[(.str 0 0), (.bool false), .nils, (.str 0 0), (.bool false)]] E0) H n fun v1 H n=>
 call n_hier_Table_Above [a0, a1] H n fun v2 H n=>
 onV (extV v2 0) fun v3=>
 onV (extV v2 1) fun v4=>
 onV (lenV v3) fun v8=>
 lp (V × V × V × V × V × V × V × Heap × Nat) (s_hier_Table_Method_l9b lp G call k) (a0, a2, a3, v1, v3, v8, (.int .i64 (.ofNat 0) 0), H, n)
noncomputable def s_op_Code_Known (lp : LpT) (G : Roms) (call : CallT) (a0 : V) (H : Heap) (n : Nat) (k : KV) : Prop :=
 onV (B2.ev .geq a0 (.int .i64 (.ofNat 1) 0)) fun v1=>
 onG v1 true (some a0) fun v2=>
 onG v1 true (B2.ev .leq v2 (.int .i64 (.ofNat 32) 0)) fun v3=>
 onV (pickV v1 v3 (.bool false)) fun v4=>
 k v4 H n
noncomputable def s_kilnlaw07_Few_j22 (lp : LpT) (G : Roms) (call : CallT) (k : KV) (H : Heap) (n : Nat) : Prop :=
 k (.bool true) H n
noncomputable def s_kilnlaw07_Few_j28 (lp : LpT) (G : Roms) (call : CallT) (k : KV) (ih26 : (V × V × V × Heap × Nat) → Prop) (a51 a52 a53 : V) (H : Heap) (n : Nat) : Prop :=
 onV (B2.ev .add a53 (.int .i64 (.ofNat 1) 0)) fun v29=>
 ih26 (a51, a52, v29, H, n)
noncomputable def s_kilnlaw07_Few_l52 (lp : LpT) (G : Roms) (call : CallT) (k : KV) (ih26 : (V × V × V × Heap × Nat) → Prop) (ih52 : (V × V × V × V × V × V × Heap × Nat) → Prop) (a51 a52 a53 a75 a76 a77 : V) (H : Heap) (n : Nat) : Prop :=
 onV (B2.ev .lss a77 a76) fun v53=>
 onTst v53 true (onV (iaddrV 2 a75 a77) fun v54=>
 onV (ldnV 2 v54 G H) fun v55=>
 onA (aAlloc 2 [[(.str 0 0), (.bool false)]] E0) H n fun v56 H n=>
 stV 2 v56 v55 H n fun v57 H n=>
 onV (paddV 0 v56) fun v58=>
 onV (ld1V v58 G H) fun v59=>
 onV (lenSV v59) fun v60=>
 onV (B2.ev .gtr v60 (.int .i64 (.ofNat 60) 0)) fun v61=>
 onTst v61 true (k (.bool false) H n) (onV (B2.ev .add a77 (.int .i64 (.ofNat 1) 0)) fun v62=>
 ih52 (a51, a52, a53, a75, a76, v62, H, n))) (s_kilnlaw07_Few_j28 lp G call k ih26 a51 a52 a53 H n)
noncomputable def s_kilnlaw07_Few_l52b (lp : LpT) (G : Roms) (call : CallT) (k : KV) (ih26 : (V × V × V × Heap × Nat) → Prop) : ((V × V × V × V × V × V × Heap × Nat) → Prop) → (V × V × V × V × V × V × Heap × Nat) → Prop := fun ih52 s => s_kilnlaw07_Few_l52 lp G call k ih26 ih52 s.1 s.2.1 s.2.2.1 s.2.2.2.1 s.2.2.2.2.1 s.2.2.2.2.2.1 s.2.2.2.2.2.2.1 s.2.2.2.2.2.2.2
noncomputable def s_kilnlaw07_Few_l26 (lp : LpT) (G : Roms) (call : CallT) (k : KV) (ih26 : (V × V × V × Heap × Nat) → Prop) (a51 a52 a53 : V) (H : Heap) (n : Nat) : Prop :=
 onV (B2.ev .lss a53 a52) fun v27=>
 onTst v27 true (onV (iaddrV 5 a51 a53) fun v30=>
 onV (ldnV 5 v30 G H) fun v31=>
 onA (aAlloc 5 [[(.str 0 0), (.bool false), .nils, (.str 0 0), (.bool false)]] E0) H n fun v32 H n=>
 stV 5 v32 v31 H n fun v33 H n=>
 onV (paddV 0 v32) fun v34=>
 onV (ld1V v34 G H) fun v35=>
 onV (lenSV v35) fun v36=>
 onV (B2.ev .gtr v36 (.int .i64 (.ofNat 60) 0)) fun v37=>
 onG v37 false (paddV 3 v32) fun v38=>
 onG v37 false (paddV 0 v38) fun v39=>
 onG v37 false (ld1V v39 G H) fun v40=>
 onG v37 false (lenSV v40) fun v41=>
 onG v37 false (B2.ev .gtr v41 (.int .i64 (.ofNat 60) 0)) fun v42=>
 onV (pickV v37 (.bool true) v42) fun v43=>
 onG v43 false (paddV 2 v32) fun v44=>
 onG v43 false (ld1V v44 G H) fun v45=>
 onG v43 false (lenV v45) fun v46=>
 onG v43 false (B2.ev .gtr v46 (.int .i64 (.ofNat 10) 0)) fun v47=>
 onV (pickV v43 (.bool true) v47) fun v48=>
 onTst v48 true (k (.bool false) H n) (onV (paddV 2 v32) fun v49=>
 onV (ld1V v49 G H) fun v50=>
 onV (lenV v50) fun v51=>
 lp (V × V × V × V × V × V × Heap × Nat) (s_kilnlaw07_Few_l52b lp G call k ih26) (a51, a52, a53, v50, v51, (.int .i64 (.ofNat 0) 0), H, n))) (s_kilnlaw07_Few_j22 lp G call k H n)
noncomputable def s_kilnlaw07_Few_l26b (lp : LpT) (G : Roms) (call : CallT) (k : KV) : ((V × V × V × Heap × Nat) → Prop) → (V × V × V × Heap × Nat) → Prop := fun ih26 s => s_kilnlaw07_Few_l26 lp G call k ih26 s.1 s.2.1 s.2.2.1 s.2.2.2.1 s.2.2.2.2
noncomputable def s_kilnlaw07_Few_j21 (lp : LpT) (G : Roms) (call : CallT) (k : KV) (a1 : V) (H : Heap) (n : Nat) : Prop :=
 onV (paddV 3 a1) fun v23=>
 onV (ld1V v23 G H) fun v24=>
 onV (lenV v24) fun v25=>
 lp (V × V × V × Heap × Nat) (s_kilnlaw07_Few_l26b lp G call k) (v24, v25, (.int .i64 (.ofNat 0) 0), H, n)
noncomputable def s_kilnlaw07_Few_l66 (lp : LpT) (G : Roms) (call : CallT) (k : KV) (ih66 : (V × V × V × V × Heap × Nat) → Prop) (a1 a32 a33 a34 : V) (H : Heap) (n : Nat) : Prop :=
 onV (B2.ev .lss a34 a33) fun v67=>
 onTst v67 true (onV (iaddrV 3 a32 a34) fun v68=>
 onV (ldnV 3 v68 G H) fun v69=>
 onA (aAlloc 3 [[(.str 0 0), (.str 0 0), (.bool false)]] E0) H n fun v70 H n=>
 stV 3 v70 v69 H n fun v71 H n=>
 onV (paddV 0 v70) fun v72=>
 onV (ld1V v72 G H) fun v73=>
 onV (lenSV v73) fun v74=>
 onV (B2.ev .gtr v74 (.int .i64 (.ofNat 60) 0)) fun v75=>
 onG v75 false (paddV 1 v70) fun v76=>
 onG v75 false (paddV 0 v76) fun v77=>
 onG v75 false (ld1V v77 G H) fun v78=>
 onG v75 false (lenSV v78) fun v79=>
 onG v75 false (B2.ev .gtr v79 (.int .i64 (.ofNat 60) 0)) fun v80=>
 onV (pickV v75 (.bool true) v80) fun v81=>
 onTst v81 true (k (.bool false) H n) (onV (B2.ev .add a34 (.int .i64 (.ofNat 1) 0)) fun v82=>
 ih66 (a1, a32, a33, v82, H, n))) (s_kilnlaw07_Few_j21 lp G call k a1 H n)
noncomputable def s_kilnlaw07_Few_l66b (lp : LpT) (G : Roms) (call : CallT) (k : KV) : ((V × V × V × V × Heap × Nat) → Prop) → (V × V × V × V × Heap × Nat) → Prop := fun ih66 s => s_kilnlaw07_Few_l66 lp G call k ih66 s.1 s.2.1 s.2.2.1 s.2.2.2.1 s.2.2.2.2.1 s.2.2.2.2.2
noncomputable def s_kilnlaw07_Few (lp : LpT) (G : Roms) (call : CallT) (a0 : V) (H : Heap) (n : Nat) (k : KV) : Prop :=
 onA (aBoxV a0) H n fun v1 H n=>
 onV (paddV 2 v1) fun v2=>
 onV (ld1V v2 G H) fun v3=>
 onV (lenV v3) fun v4=>
 onV (B2.ev .gtr v4 (.int .i64 (.ofNat 12) 0)) fun v5=>
 onG v5 false (paddV 3 v1) fun v6=>
 onG v5 false (ld1V v6 G H) fun v7=>
 onG v5 false (lenV v7) fun v8=>
 onG v5 false (B2.ev .gtr v8 (.int .i64 (.ofNat 12) 0)) fun v9=>
 onV (pickV v5 (.bool true) v9) fun v10=>
 onG v10 false (paddV 0 v1) fun v11=>
 onG v10 false (ld1V v11 G H) fun v12=>
 onG v10 false (lenSV v12) fun v13=>
 onG v10 false (B2.ev .gtr v13 (.int .i64 (.ofNat 60) 0)) fun v14=>
 onV (pickV v10 (.bool true) v14) fun v15=>
 onG v15 false (paddV 1 v1) fun v16=>
 onG v15 false (ld1V v16 G H) fun v17=>
 onG v15 false (lenSV v17) fun v18=>
 onG v15 false (B2.ev .gtr v18 (.int .i64 (.ofNat 60) 0)) fun v19=>
 onV (pickV v15 (.bool true) v19) fun v20=>
 onTst v20 true (k (.bool false) H n) (onV (paddV 2 v1) fun v63=>
 onV (ld1V v63 G H) fun v64=>
 onV (lenV v64) fun v65=>
 lp (V × V × V × V × Heap × Nat) (s_kilnlaw07_Few_l66b lp G call k) (v1, v64, v65, (.int .i64 (.ofNat 0) 0), H, n))
noncomputable def s_face_Face_Right_j39 (lp : LpT) (G : Roms) (call : CallT) (k : KV) (H : Heap) (n : Nat) : Prop :=
 k (.bool true) H n
noncomputable def s_face_Face_Right_l43 (lp : LpT) (G : Roms) (call : CallT) (k : KV) (ih43 : (V × V × V × V × Heap × Nat) → Prop) (a3 a76 a77 a78 : V) (H : Heap) (n : Nat) : Prop :=
 onV (B2.ev .lss a78 a77) fun v44=>
 onTst v44 true (onV (iaddrV 5 a76 a78) fun v45=>
 onV (ldnV 5 v45 G H) fun v46=>
 onA (aAlloc 5 [[(.str 0 0), (.bool false), .nils, (.str 0 0), (.bool false)]] E0) H n fun v47 H n=>
 stV 5 v47 v46 H n fun v48 H n=>
 onV (paddV 0 v47) fun v49=>
 onV (ld1V v49 G H) fun v50=>
 onV (B2.ev .leq v50 a3) fun v51=>
 onG v51 false (paddV 0 v47) fun v52=>
 onG v51 false (ld1V v52 G H) fun v53=>
 onG v51 false (lenSV v53) fun v54=>
 onG v51 false (B2.ev .gtr v54 (.int .i64 (.ofNat 40) 0)) fun v55=>
 onV (pickV v51 (.bool true) v55) fun v56=>
 onG v56 false (paddV 3 v47) fun v57=>
 onG v56 false (ldnV 2 v57 G H) fun v58=>
 onGT v56 false (call n_face_Good [v58] H n) H n fun v59 H n=>
 onG v56 false (notV v59) fun v60=>
 onV (pickV v56 (.bool true) v60) fun v61=>
 onG v61 false (paddV 2 v47) fun v62=>
 onG v61 false (ld1V v62 G H) fun v63=>
 onG v61 false (lenV v63) fun v64=>
 onG v61 false (B2.ev .gtr v64 (.int .i64 (.ofNat 200) 0)) fun v65=>
 onV (pickV v61 (.bool true) v65) fun v66=>
 onG v66 false (paddV 2 v47) fun v67=>
 onG v66 false (ld1V v67 G H) fun v68=>
 onGT v66 false (call n_slices_ContainsFunc_ast_Type_ast_Type [v68, (.fn 91 [] [])] H n) H n fun v69 H n=>
 onV (pickV v66 (.bool true) v69) fun v70=>
 onTst v70 true (k (.bool false) H n) (onV (paddV 0 v47) fun v71=>
 onV (ld1V v71 G H) fun v72=>
 onV (B2.ev .add a78 (.int .i64 (.ofNat 1) 0)) fun v73=>
 ih43 (v72, a76, a77, v73, H, n))) (s_face_Face_Right_j39 lp G call k H n)
noncomputable def s_face_Face_Right_l43b (lp : LpT) (G : Roms) (call : CallT) (k : KV) : ((V × V × V × V × Heap × Nat) → Prop) → (V × V × V × V × Heap × Nat) → Prop := fun ih43 s => s_face_Face_Right_l43 lp G call k ih43 s.1 s.2.1 s.2.2.1 s.2.2.2.1 s.2.2.2.2.1 s.2.2.2.2.2
noncomputable def s_face_Face_Right_j38 (lp : LpT) (G : Roms) (call : CallT) (k : KV) (a1 : V) (H : Heap) (n : Nat) : Prop :=
 onV (paddV 3 a1) fun v40=>
 onV (ld1V v40 G H) fun v41=>
 onV (lenV v41) fun v42=>
 lp (V × V × V × V × Heap × Nat) (s_face_Face_Right_l43b lp G call k) ((.str 0 0), v41, v42, (.int .i64 (.ofNat 0) 0), H, n)
noncomputable def s_face_Face_Right_l77 (lp : LpT) (G : Roms) (call : CallT) (k : KV) (ih77 : (V × V × V × V × V × Heap × Nat) → Prop) (a1 a3 a50 a51 a52 : V) (H : Heap) (n : Nat) : Prop :=
 onV (B2.ev .lss a52 a51) fun v78=>
 onTst v78 true (onV (iaddrV 3 a50 a52) fun v79=>
 onV (ldnV 3 v79 G H) fun v80=>
 onA (aAlloc 3 [[(.str 0 0), (.str 0 0), (.bool false)]] E0) H n fun v81 H n=>
 stV 3 v81 v80 H n fun v82 H n=>
 onV (paddV 0 v81) fun v83=>
 onV (ld1V v83 G H) fun v84=>
 onV (B2.ev .leq v84 a3) fun v85=>
 onG v85 false (paddV 0 v81) fun v86=>
 onG v85 false (ld1V v86 G H) fun v87=>
 onG v85 false (lenSV v87) fun v88=>
 onG v85 false (B2.ev .gtr v88 (.int .i64 (.ofNat 40) 0)) fun v89=>
 onV (pickV v85 (.bool true) v89) fun v90=>
 onG v90 false (paddV 1 v81) fun v91=>
 onG v90 false (ldnV 2 v91 G H) fun v92=>
 onGT v90 false (call n_face_Good [v92] H n) H n fun v93 H n=>
 onG v90 false (notV v93) fun v94=>
 onV (pickV v90 (.bool true) v94) fun v95=>
 onTst v95 true (k (.bool false) H n) (onV (paddV 0 v81) fun v96=>
 onV (ld1V v96 G H) fun v97=>
 onV (B2.ev .add a52 (.int .i64 (.ofNat 1) 0)) fun v98=>
 ih77 (a1, v97, a50, a51, v98, H, n))) (s_face_Face_Right_j38 lp G call k a1 H n)
noncomputable def s_face_Face_Right_l77b (lp : LpT) (G : Roms) (call : CallT) (k : KV) : ((V × V × V × V × V × Heap × Nat) → Prop) → (V × V × V × V × V × Heap × Nat) → Prop := fun ih77 s => s_face_Face_Right_l77 lp G call k ih77 s.1 s.2.1 s.2.2.1 s.2.2.2.1 s.2.2.2.2.1 s.2.2.2.2.2.1 s.2.2.2.2.2.2
noncomputable def s_face_Face_Right (lp : LpT) (G : Roms) (call : CallT) (a0 : V) (H : Heap) (n : Nat) (k : KV) : Prop :=
 onA (aBoxV a0) H n fun v1 H n=>
 onV (paddV 0 v1) fun v2=>
 onV (ld1V v2 G H) fun v3=>
 call n_ast_Of [v3] H n fun v4 H n=>
 call n_ast_Type_Class [v4] H n fun v5 H n=>
 onV (notV v5) fun v6=>
 onG v6 false (paddV 1 v1) fun v7=>
 onG v6 false (ld1V v7 G H) fun v8=>
 onG v6 false (eqV (.one .str) true v8 (.str 0 0)) fun v9=>
 onG v6 false (some v9) fun v10=>
 onG v10 true (paddV 1 v1) fun v11=>
 onG v10 true (ld1V v11 G H) fun v12=>
 onGT v10 true (call n_ast_Of [v12] H n) H n fun v13 H n=>
 onGT v10 true (call n_ast_Type_Class [v13] H n) H n fun v14 H n=>
 onG v10 true (notV v14) fun v15=>
 onG v6 false (pickV v10 v15 (.bool false)) fun v16=>
 onV (pickV v6 (.bool true) v16) fun v17=>
 onG v17 false (paddV 2 v1) fun v18=>
 onG v17 false (ld1V v18 G H) fun v19=>
 onG v17 false (lenV v19) fun v20=>
 onG v17 false (B2.ev .gtr v20 (.int .i64 (.ofNat 200) 0)) fun v21=>
 onV (pickV v17 (.bool true) v21) fun v22=>
 onG v22 false (paddV 3 v1) fun v23=>
 onG v22 false (ld1V v23 G H) fun v24=>
 onG v22 false (lenV v24) fun v25=>
 onG v22 false (B2.ev .gtr v25 (.int .i64 (.ofNat 200) 0)) fun v26=>
 onV (pickV v22 (.bool true) v26) fun v27=>
 onG v27 false (paddV 0 v1) fun v28=>
 onG v27 false (ld1V v28 G H) fun v29=>
 onG v27 false (lenSV v29) fun v30=>
 onG v27 false (B2.ev .gtr v30 (.int .i64 (.ofNat 40) 0)) fun v31=>
 onV (pickV v27 (.bool true) v31) fun v32=>
 onG v32 false (paddV 1 v1) fun v33=>
 onG v32 false (ld1V v33 G H) fun v34=>
 onG v32 false (lenSV v34) fun v35=>
 onG v32 false (B2.ev .gtr v35 (.int .i64 (.ofNat 40) 0)) fun v36=>
 onV (pickV v32 (.bool true) v36) fun v37=>
 onTst v37 true (k (.bool false) H n) (onV (paddV 2 v1) fun v74=>
 onV (ld1V v74 G H) fun v75=>
 onV (lenV v75) fun v76=>
 lp (V × V × V × V × V × Heap × Nat) (s_face_Face_Right_l77b lp G call k) (v1, (.str 0 0), v75, v76, (.int .i64 (.ofNat 0) 0), H, n))
noncomputable def s_class_Pool_right_j6 (lp : LpT) (G : Roms) (call : CallT) (k : KV) (H : Heap) (n : Nat) : Prop :=
 k (.bool true) H n
noncomputable def s_class_Pool_right_l10 (lp : LpT) (G : Roms) (call : CallT) (k : KV) (ih10 : (V × V × V × Heap × Nat) → Prop) (a92 a93 a94 : V) (H : Heap) (n : Nat) : Prop :=
 onV (B2.ev .lss a94 a93) fun v11=>
 onTst v11 true (onV (iaddrV 6 a92 a94) fun v12=>
 onV (ldnV 6 v12 G H) fun v13=>
 onA (aAlloc 6 [[(.str 0 0), (.bool false), .nils, (.str 0 0), (.bool false), (.str 0 0)]] E0) H n fun v14 H n=>
 stV 6 v14 v13 H n fun v15 H n=>
 onV (paddV 5 v14) fun v16=>
 onV (ld1V v16 G H) fun v17=>
 call n_class_class [v17] H n fun v18 H n=>
 onV (notV v18) fun v19=>
 onG v19 false (paddV 0 v14) fun v20=>
 onG v19 false (ldnV 5 v20 G H) fun v21=>
 onGT v19 false (call n_class_sig [v21] H n) H n fun v22 H n=>
 onG v19 false (notV v22) fun v23=>
 onV (pickV v19 (.bool true) v23) fun v24=>
 onTst v24 true (k (.bool false) H n) (onV (B2.ev .add a94 (.int .i64 (.ofNat 1) 0)) fun v25=>
 ih10 (a92, a93, v25, H, n))) (s_class_Pool_right_j6 lp G call k H n)
noncomputable def s_class_Pool_right_l10b (lp : LpT) (G : Roms) (call : CallT) (k : KV) : ((V × V × V × Heap × Nat) → Prop) → (V × V × V × Heap × Nat) → Prop := fun ih10 s => s_class_Pool_right_l10 lp G call k ih10 s.1 s.2.1 s.2.2.1 s.2.2.2.1 s.2.2.2.2
noncomputable def s_class_Pool_right_j5 (lp : LpT) (G : Roms) (call : CallT) (k : KV) (a1 : V) (H : Heap) (n : Nat) : Prop :=
 onV (paddV 4 a1) fun v7=>
 onV (ld1V v7 G H) fun v8=>
 onV (lenV v8) fun v9=>
 lp (V × V × V × Heap × Nat) (s_class_Pool_right_l10b lp G call k) (v8, v9, (.int .i64 (.ofNat 0) 0), H, n)
noncomputable def s_class_Pool_right_l29 (lp : LpT) (G : Roms) (call : CallT) (k : KV) (ih29 : (V × V × V × V × Heap × Nat) → Prop) (a1 a60 a61 a62 : V) (H : Heap) (n : Nat) : Prop :=
 onV (B2.ev .lss a62 a61) fun v30=>
 onTst v30 true (onV (iaddrV 4 a60 a62) fun v31=>
 onV (ldnV 4 v31 G H) fun v32=>
 onA (aAlloc 4 [[(.str 0 0), (.str 0 0), (.bool false), (.str 0 0)]] E0) H n fun v33 H n=>
 stV 4 v33 v32 H n fun v34 H n=>
 onV (paddV 3 v33) fun v35=>
 onV (ld1V v35 G H) fun v36=>
 call n_class_class [v36] H n fun v37 H n=>
 onV (notV v37) fun v38=>
 onG v38 false (paddV 0 v33) fun v39=>
 onG v38 false (paddV 0 v39) fun v40=>
 onG v38 false (ld1V v40 G H) fun v41=>
 onG v38 false (eqV (.one .str) false v41 (.str 0 0)) fun v42=>
 onV (pickV v38 (.bool true) v42) fun v43=>
 onG v43 false (paddV 0 v33) fun v44=>
 onG v43 false (paddV 0 v44) fun v45=>
 onG v43 false (ld1V v45 G H) fun v46=>
 onG v43 false (lenSV v46) fun v47=>
 onG v43 false (B2.ev .gtr v47 (.int .i64 (.ofNat 40) 0)) fun v48=>
 onV (pickV v43 (.bool true) v48) fun v49=>
 onG v49 false (paddV 0 v33) fun v50=>
 onG v49 false (paddV 1 v50) fun v51=>
 onG v49 false (ldnV 2 v51 G H) fun v52=>
 onGT v49 false (call n_face_Good [v52] H n) H n fun v53 H n=>
 onG v49 false (notV v53) fun v54=>
 onV (pickV v49 (.bool true) v54) fun v55=>
 onTst v55 true (k (.bool false) H n) (onV (B2.ev .add a62 (.int .i64 (.ofNat 1) 0)) fun v56=>
 ih29 (a1, a60, a61, v56, H, n))) (s_class_Pool_right_j5 lp G call k a1 H n)
noncomputable def s_class_Pool_right_l29b (lp : LpT) (G : Roms) (call : CallT) (k : KV) : ((V × V × V × V × Heap × Nat) → Prop) → (V × V × V × V × Heap × Nat) → Prop := fun ih29 s => s_class_Pool_right_l29 lp G call k ih29 s.1 s.2.1 s.2.2.1 s.2.2.2.1 s.2.2.2.2.1 s.2.2.2.2.2
noncomputable def s_class_Pool_right_j4 (lp : LpT) (G : Roms) (call : CallT) (k : KV) (a1 : V) (H : Heap) (n : Nat) : Prop :=
 onV (paddV 3 a1) fun v26=>
 onV (ld1V v26 G H) fun v27=>
 onV (lenV v27) fun v28=>
 lp (V × V × V × V × Heap × Nat) (s_class_Pool_right_l29b lp G call k) (a1, v27, v28, (.int .i64 (.ofNat 0) 0), H, n)
noncomputable def s_class_Pool_right_l60 (lp : LpT) (G : Roms) (call : CallT) (k : KV) (ih60 : (V × V × V × V × Heap × Nat) → Prop) (a1 a49 a50 a51 : V) (H : Heap) (n : Nat) : Prop :=
 onV (B2.ev .lss a51 a50) fun v61=>
 onTst v61 true (onV (iaddrV 2 a49 a51) fun v62=>
 onV (ldnV 2 v62 G H) fun v63=>
 onA (aAlloc 2 [[(.str 0 0), (.bool false)]] E0) H n fun v64 H n=>
 stV 2 v64 v63 H n fun v65 H n=>
 onV (ldnV 2 v64 G H) fun v66=>
 call n_face_Good [v66] H n fun v67 H n=>
 onV (notV v67) fun v68=>
 onTst v68 true (k (.bool false) H n) (onV (B2.ev .add a51 (.int .i64 (.ofNat 1) 0)) fun v69=>
 ih60 (a1, a49, a50, v69, H, n))) (s_class_Pool_right_j4 lp G call k a1 H n)
noncomputable def s_class_Pool_right_l60b (lp : LpT) (G : Roms) (call : CallT) (k : KV) : ((V × V × V × V × Heap × Nat) → Prop) → (V × V × V × V × Heap × Nat) → Prop := fun ih60 s => s_class_Pool_right_l60 lp G call k ih60 s.1 s.2.1 s.2.2.1 s.2.2.2.1 s.2.2.2.2.1 s.2.2.2.2.2
noncomputable def s_class_Pool_right_j3 (lp : LpT) (G : Roms) (call : CallT) (k : KV) (a1 : V) (H : Heap) (n : Nat) : Prop :=
 onV (paddV 2 a1) fun v57=>
 onV (ld1V v57 G H) fun v58=>
 onV (lenV v58) fun v59=>
 lp (V × V × V × V × Heap × Nat) (s_class_Pool_right_l60b lp G call k) (a1, v58, v59, (.int .i64 (.ofNat 0) 0), H, n)
noncomputable def s_class_Pool_right_l73 (lp : LpT) (G : Roms) (call : CallT) (k : KV) (ih73 : (V × V × V × V × Heap × Nat) → Prop) (a1 a38 a39 a40 : V) (H : Heap) (n : Nat) : Prop :=
 onV (B2.ev .lss a40 a39) fun v74=>
 onTst v74 true (onV (iaddrV 1 a38 a40) fun v75=>
 onV (ld1V v75 G H) fun v76=>
 call n_class_class [v76] H n fun v77 H n=>
 onV (notV v77) fun v78=>
 onTst v78 true (k (.bool false) H n) (onV (B2.ev .add a40 (.int .i64 (.ofNat 1) 0)) fun v79=>
 ih73 (a1, a38, a39, v79, H, n))) (s_class_Pool_right_j3 lp G call k a1 H n)
noncomputable def s_class_Pool_right_l73b (lp : LpT) (G : Roms) (call : CallT) (k : KV) : ((V × V × V × V × Heap × Nat) → Prop) → (V × V × V × V × Heap × Nat) → Prop := fun ih73 s => s_class_Pool_right_l73 lp G call k ih73 s.1 s.2.1 s.2.2.1 s.2.2.2.1 s.2.2.2.2.1 s.2.2.2.2.2
noncomputable def s_class_Pool_right_j2 (lp : LpT) (G : Roms) (call : CallT) (k : KV) (a1 : V) (H : Heap) (n : Nat) : Prop :=
 onV (paddV 1 a1) fun v70=>
 onV (ld1V v70 G H) fun v71=>
 onV (lenV v71) fun v72=>
 lp (V × V × V × V × Heap × Nat) (s_class_Pool_right_l73b lp G call k) (a1, v71, v72, (.int .i64 (.ofNat 0) 0), H, n)
noncomputable def s_class_Pool_right_l97 (lp : LpT) (G : Roms) (call : CallT) (k : KV) (ih97 : (V × V × V × V × Heap × Nat) → Prop) (a1 a28 a29 a30 : V) (H : Heap) (n : Nat) : Prop :=
 onV (B2.ev .lss a30 a29) fun v98=>
 onTst v98 true (onV (iaddrV 1 a28 a30) fun v99=>
 onV (ld1V v99 G H) fun v100=>
 onV (B2.ev .gtr v100 (.int .i64 (.ofNat 16384) 0)) fun v101=>
 onTst v101 true (k (.bool false) H n) (onV (B2.ev .add a30 (.int .i64 (.ofNat 1) 0)) fun v102=>
 ih97 (a1, a28, a29, v102, H, n))) (s_class_Pool_right_j2 lp G call k a1 H n)
noncomputable def s_class_Pool_right_l97b (lp : LpT) (G : Roms) (call : CallT) (k : KV) : ((V × V × V × V × Heap × Nat) → Prop) → (V × V × V × V × Heap × Nat) → Prop := fun ih97 s => s_class_Pool_right_l97 lp G call k ih97 s.1 s.2.1 s.2.2.1 s.2.2.2.1 s.2.2.2.2.1 s.2.2.2.2.2
noncomputable def s_class_Pool_right (lp : LpT) (G : Roms) (call : CallT) (a0 : V) (H : Heap) (n : Nat) (k : KV) : Prop :=
 onA (aBoxV a0) H n fun v1 H n=>
 onV (paddV 0 v1) fun v80=>
 onV (ld1V v80 G H) fun v81=>
 onV (lenV v81) fun v82=>
 onV (paddV 1 v1) fun v83=>
 onV (ld1V v83 G H) fun v84=>
 onV (lenV v84) fun v85=>
 onV (paddV 2 v1) fun v86=>
 onV (ld1V v86 G H) fun v87=>
 onV (lenV v87) fun v88=>
 onV (paddV 3 v1) fun v89=>
 onV (ld1V v89 G H) fun v90=>
 onV (lenV v90) fun v91=>
 onV (paddV 4 v1) fun v92=>
 onV (ld1V v92 G H) fun v93=>
 onV (lenV v93) fun v94=>
 onA (aBslice 1 5 [(.int .i64 (.ofNat 0) 0)] [(0, .c v82), (1, .c v85), (2, .c v88), (3, .c v91), (4, .c v94)] E0) H n fun v95 H n=>
 onV (lenV v95) fun v96=>
 lp (V × V × V × V × Heap × Nat) (s_class_Pool_right_l97b lp G call k) (v1, v95, v96, (.int .i64 (.ofNat 0) 0), H, n)
noncomputable def s_op_Instr_Right (lp : LpT) (G : Roms) (call : CallT) (a0 a1 : V) (H : Heap) (n : Nat) (k : KV) : Prop :=
 onA (aBoxV a0) H n fun v1 H n=>
 onV (paddV 0 v1) fun v2=>
 onV (ld1V v2 G H) fun v3=>
 call n_op_Code_Known [v3] H n fun v4 H n=>
 onV (notV v4) fun v5=>
 onTst v5 true (k (.bool false) H n) (onV (paddV 0 v1) fun v6=>
 onV (ld1V v6 G H) fun v7=>
 call n_op_Code_Pool [v7] H n fun v8 H n=>
 onV (eqV (.one .int) false v8 (.int .i32 (.ofNat 0) 0)) fun v9=>
 onTst v9 true (onV (paddV 1 v1) fun v10=>
 onV (ld1V v10 G H) fun v11=>
 onV (eqV (.one .int) false v11 (.int .i64 (.ofNat 0) 0)) fun v12=>
 k v12 H n) (onV (paddV 1 v1) fun v13=>
 onV (ld1V v13 G H) fun v14=>
 onV (B2.ev .geq v14 (.int .i64 (.ofNat 0) 0)) fun v15=>
 onG v15 true (paddV 1 v1) fun v16=>
 onG v15 true (ld1V v16 G H) fun v17=>
 onG v15 true (some a1) fun v18=>
 onG v15 true (some v8) fun v19=>
 onGT v15 true (callvV v18 [v19] call H n) H n fun v20 H n=>
 onRe v15 true (ld1V v16 G H) v17 <|
 onG v15 true (B2.ev .lss v17 v20) fun v21=>
 onV (pickV v15 v21 (.bool false)) fun v22=>
 k v22 H n))
noncomputable def s_class_File_many (lp : LpT) (G : Roms) (call : CallT) (a0 a1 : V) (H : Heap) (n : Nat) (k : KV) : Prop :=
 onA (aBoxV a0) H n fun v1 H n=>
 onA (aBoxV a1) H n fun v2 H n=>
 k (.fn n_class_File_many_1 [] [v1, v2]) H n
noncomputable def s_hier_twice_j3 (lp : LpT) (G : Roms) (call : CallT) (k : KV) (H : Heap) (n : Nat) : Prop :=
 k (.bool false) H n
noncomputable def s_hier_twice_l7 (lp : LpT) (G : Roms) (call : CallT) (k : KV) (ih7 : (V × V × V × Heap × Nat) → Prop) (a1 a32 a33 : V) (H : Heap) (n : Nat) : Prop :=
 onV (B2.ev .lss a33 a32) fun v8=>
 onTst v8 true (onV (B2.ev .gtr a33 (.int .i64 (.ofNat 0) 0)) fun v9=>
 onG v9 true (paddV 3 a1) fun v10=>
 onG v9 true (ld1V v10 G H) fun v11=>
 onG v9 true (some a33) fun v12=>
 onG v9 true (B2.ev .sub v12 (.int .i64 (.ofNat 1) 0)) fun v13=>
 onG v9 true (iaddrV 5 v11 v13) fun v14=>
 onG v9 true (paddV 0 v14) fun v15=>
 onG v9 true (ld1V v15 G H) fun v16=>
 onG v9 true (paddV 3 a1) fun v17=>
 onG v9 true (ld1V v17 G H) fun v18=>
 onG v9 true (some a33) fun v19=>
 onG v9 true (iaddrV 5 v18 v19) fun v20=>
 onG v9 true (paddV 0 v20) fun v21=>
 onG v9 true (ld1V v21 G H) fun v22=>
 onG v9 true (eqV (.one .str) false v16 v22) fun v23=>
 onV (pickV v9 v23 (.bool false)) fun v24=>
 onTst v24 true (k (.bool true) H n) (onV (B2.ev .add a33 (.int .i64 (.ofNat 1) 0)) fun v25=>
 ih7 (a1, a32, v25, H, n))) (s_hier_twice_j3 lp G call k H n)
noncomputable def s_hier_twice_l7b (lp : LpT) (G : Roms) (call : CallT) (k : KV) : ((V × V × V × Heap × Nat) → Prop) → (V × V × V × Heap × Nat) → Prop := fun ih7 s => s_hier_twice_l7 lp G call k ih7 s.1 s.2.1 s.2.2.1 s.2.2.2.1 s.2.2.2.2
noncomputable def s_hier_twice_j2 (lp : LpT) (G : Roms) (call : CallT) (k : KV) (a1 : V) (H : Heap) (n : Nat) : Prop :=
 onV (paddV 3 a1) fun v4=>
 onV (ld1V v4 G H) fun v5=>
 onV (lenV v5) fun v6=>
 lp (V × V × V × Heap × Nat) (s_hier_twice_l7b lp G call k) (a1, v6, (.int .i64 (.ofNat 0) 0), H, n)
noncomputable def s_hier_twice_l29 (lp : LpT) (G : Roms) (call : CallT) (k : KV) (ih29 : (V × V × V × Heap × Nat) → Prop) (a1 a7 a8 : V) (H : Heap) (n : Nat) : Prop :=
 onV (B2.ev .lss a8 a7) fun v30=>
 onTst v30 true (onV (B2.ev .gtr a8 (.int .i64 (.ofNat 0) 0)) fun v31=>
 onG v31 true (paddV 2 a1) fun v32=>
 onG v31 true (ld1V v32 G H) fun v33=>
 onG v31 true (some a8) fun v34=>
 onG v31 true (B2.ev .sub v34 (.int .i64 (.ofNat 1) 0)) fun v35=>
 onG v31 true (iaddrV 3 v33 v35) fun v36=>
 onG v31 true (paddV 0 v36) fun v37=>
 onG v31 true (ld1V v37 G H) fun v38=>
 onG v31 true (paddV 2 a1) fun v39=>
 onG v31 true (ld1V v39 G H) fun v40=>
 onG v31 true (some a8) fun v41=>
 onG v31 true (iaddrV 3 v40 v41) fun v42=>
 onG v31 true (paddV 0 v42) fun v43=>
 onG v31 true (ld1V v43 G H) fun v44=>
 onG v31 true (eqV (.one .str) false v38 v44) fun v45=>
 onV (pickV v31 v45 (.bool false)) fun v46=>
 onTst v46 true (k (.bool true) H n) (onV (B2.ev .add a8 (.int .i64 (.ofNat 1) 0)) fun v47=>
 ih29 (a1, a7, v47, H, n))) (s_hier_twice_j2 lp G call k a1 H n)
noncomputable def s_hier_twice_l29b (lp : LpT) (G : Roms) (call : CallT) (k : KV) : ((V × V × V × Heap × Nat) → Prop) → (V × V × V × Heap × Nat) → Prop := fun ih29 s => s_hier_twice_l29 lp G call k ih29 s.1 s.2.1 s.2.2.1 s.2.2.2.1 s.2.2.2.2
noncomputable def s_hier_twice (lp : LpT) (G : Roms) (call : CallT) (a0 : V) (H : Heap) (n : Nat) (k : KV) : Prop :=
 onA (aBoxV a0) H n fun v1 H n=>
 onV (paddV 2 v1) fun v26=>
 onV (ld1V v26 G H) fun v27=>
 onV (lenV v27) fun v28=>
 lp (V × V × V × Heap × Nat) (s_hier_twice_l29b lp G call k) (v1, v28, (.int .i64 (.ofNat 0) 0), H, n)
noncomputable def s_face_Face_Field_j3 (lp : LpT) (G : Roms) (call : CallT) (k : KV) (a4 : V) (H : Heap) (n : Nat) : Prop :=
 onV (buildV [(.str 0 0), (.bool false)] []) fun v4=>
 stV 2 a4 v4 H n fun v5 H n=>
 onO (getVs [.cn a4 2, .t (.bool false)] G H) fun l => k (oneV l) H n
noncomputable def s_face_Face_Field_l9 (lp : LpT) (G : Roms) (call : CallT) (k : KV) (ih9 : (V × V × V × V × V × Heap × Nat) → Prop) (a1 a4 a9 a10 a11 : V) (H : Heap) (n : Nat) : Prop :=
 onV (B2.ev .lss a11 a10) fun v10=>
 onTst v10 true (onV (iaddrV 3 a9 a11) fun v11=>
 onV (ldnV 3 v11 G H) fun v12=>
 onA (aAlloc 3 [[(.str 0 0), (.str 0 0), (.bool false)]] E0) H n fun v13 H n=>
 stV 3 v13 v12 H n fun v14 H n=>
 onV (paddV 0 v13) fun v15=>
 onV (ld1V v15 G H) fun v16=>
 onV (eqV (.one .str) false v16 a1) fun v17=>
 onTst v17 true (onV (paddV 1 v13) fun v18=>
 onV (ldnV 2 v18 G H) fun v19=>
 stV 2 a4 v19 H n fun v20 H n=>
 onO (getVs [.cn a4 2, .t (.bool true)] G H) fun l => k (oneV l) H n) (onV (B2.ev .add a11 (.int .i64 (.ofNat 1) 0)) fun v21=>
 ih9 (a1, a4, a9, a10, v21, H, n))) (s_face_Face_Field_j3 lp G call k a4 H n)
noncomputable def s_face_Face_Field_l9b (lp : LpT) (G : Roms) (call : CallT) (k : KV) : ((V × V × V × V × V × Heap × Nat) → Prop) → (V × V × V × V × V × Heap × Nat) → Prop := fun ih9 s => s_face_Face_Field_l9 lp G call k ih9 s.1 s.2.1 s.2.2.1 s.2.2.2.1 s.2.2.2.2.1 s.2.2.2.2.2.1 s.2.2.2.2.2.2
noncomputable def s_face_Face_Field (lp : LpT) (G : Roms) (call : CallT) (a0 a1 : V) (H : Heap) (n : Nat) (k : KV) : Prop :=
 onA (aBoxV a0) H n fun v1 H n=>
 onA (aAlloc 2 [[(.str 0 0), (.bool false)]] E0) H n fun v2 H n=>
 onV (paddV 2 v1) fun v6=>
 onV (ld1V v6 G H) fun v7=>
 onV (lenV v7) fun v8=>
 lp (V × V × V × V × V × Heap × Nat) (s_face_Face_Field_l9b lp G call k) (a1, v2, v7, v8, (.int .i64 (.ofNat 0) 0), H, n)
noncomputable def s_slices_Equal_ast_Type_ast_Type_j4 (lp : LpT) (G : Roms) (call : CallT) (k : KV) (H : Heap) (n : Nat) : Prop :=
 k (.bool true) H n
noncomputable def s_slices_Equal_ast_Type_ast_Type_l6 (lp : LpT) (G : Roms) (call : CallT) (k : KV) (ih6 : (V × V × V × V × Heap × Nat) → Prop) (a0 a1 a12 a13 : V) (H : Heap) (n : Nat) : Prop :=
 onV (B2.ev .lss a13 a12) fun v7=>
 onTst v7 true (onV (iaddrV 2 a0 a13) fun v8=>
 onV (ldnV 2 v8 G H) fun v9=>
 onV (iaddrV 2 a1 a13) fun v10=>
 onV (ldnV 2 v10 G H) fun v11=>
 onV (eqV (.agg [.str, .bool]) true v9 v11) fun v12=>
 onTst v12 true (k (.bool false) H n) (onV (B2.ev .add a13 (.int .i64 (.ofNat 1) 0)) fun v13=>
 ih6 (a0, a1, a12, v13, H, n))) (s_slices_Equal_ast_Type_ast_Type_j4 lp G call k H n)
noncomputable def s_slices_Equal_ast_Type_ast_Type_l6b (lp : LpT) (G : Roms) (call : CallT) (k : KV) : ((V × V × V × V × Heap × Nat) → Prop) → (V × V × V × V × Heap × Nat) → Prop := fun ih6 s => s_slices_Equal_ast_Type_ast_Type_l6 lp G call k ih6 s.1 s.2.1 s.2.2.1 s.2.2.2.1 s.2.2.2.2.1 s.2.2.2.2.2
noncomputable def s_slices_Equal_ast_Type_ast_Type (lp : LpT) (G : Roms) (call : CallT) (a0 a1 : V) (H : Heap) (n : Nat) (k : KV) : Prop :=
 onV (lenV a0) fun v1=>
 onV (lenV a1) fun v2=>
 onV (eqV (.one .int) true v1 v2) fun v3=>
 onTst v3 true (k (.bool false) H n) (onV (lenV a0) fun v5=>
 lp (V × V × V × V × Heap × Nat) (s_slices_Equal_ast_Type_ast_Type_l6b lp G call k) (a0, a1, v5, (.int .i64 (.ofNat 0) 0), H, n))
noncomputable def s_slices_Index_string_string_j1 (lp : LpT) (G : Roms) (call : CallT) (k : KV) (H : Heap) (n : Nat) : Prop :=
 k (.int .i64 (.negSucc 0) 0) H n
noncomputable def s_slices_Index_string_string_l3 (lp : LpT) (G : Roms) (call : CallT) (k : KV) (ih3 : (V × V × V × V × Heap × Nat) → Prop) (a0 a1 a7 a8 : V) (H : Heap) (n : Nat) : Prop :=
 onV (B2.ev .lss a8 a7) fun v4=>
 onTst v4 true (onV (iaddrV 1 a0 a8) fun v5=>
 onV (ld1V v5 G H) fun v6=>
 onV (eqV (.one .str) false a1 v6) fun v7=>
 onTst v7 true (k a8 H n) (onV (B2.ev .add a8 (.int .i64 (.ofNat 1) 0)) fun v8=>
 ih3 (a0, a1, a7, v8, H, n))) (s_slices_Index_string_string_j1 lp G call k H n)
noncomputable def s_slices_Index_string_string_l3b (lp : LpT) (G : Roms) (call : CallT) (k : KV) : ((V × V × V × V × Heap × Nat) → Prop) → (V × V × V × V × Heap × Nat) → Prop := fun ih3 s => s_slices_Index_string_string_l3 lp G call k ih3 s.1 s.2.1 s.2.2.1 s.2.2.2.1 s.2.2.2.2.1 s.2.2.2.2.2
noncomputable def s_slices_Index_string_string (lp : LpT) (G : Roms) (call : CallT) (a0 a1 : V) (H : Heap) (n : Nat) (k : KV) : Prop :=
 onV (lenV a0) fun v2=>
 lp (V × V × V × V × Heap × Nat) (s_slices_Index_string_string_l3b lp G call k) (a0, a1, v2, (.int .i64 (.ofNat 0) 0), H, n)
noncomputable def s_face_Good (lp : LpT) (G : Roms) (call : CallT) (a0 : V) (H : Heap) (n : Nat) (k : KV) : Prop :=
 onA (aBoxV a0) H n fun v1 H n=>
 onV (paddV 0 v1) fun v2=>
 onV (ld1V v2 G H) fun v3=>
 onV (eqV (.one .str) false v3 (.str 3 7630441)) fun v4=>
 onG v4 false (paddV 0 v1) fun v5=>
 onG v4 false (ld1V v5 G H) fun v6=>
 onG v4 false (eqV (.one .str) false v6 (.str 4 1819242338)) fun v7=>
 onV (pickV v4 (.bool true) v7) fun v8=>
 onG v8 false (paddV 0 v1) fun v9=>
 onG v8 false (ld1V v9 G H) fun v10=>
 onGT v8 false (call n_ast_Of [v10] H n) H n fun v11 H n=>
 onGT v8 false (call n_ast_Type_Class [v11] H n) H n fun v12 H n=>
 onG v8 false (some v12) fun v13=>
 onG v13 true (paddV 0 v1) fun v14=>
 onG v13 true (ld1V v14 G H) fun v15=>
 onG v13 true (lenSV v15) fun v16=>
 onG v13 true (B2.ev .leq v16 (.int .i64 (.ofNat 40) 0)) fun v17=>
 onG v8 false (pickV v13 v17 (.bool false)) fun v18=>
 onV (pickV v8 (.bool true) v18) fun v19=>
 k v19 H n
noncomputable def s_ast_Type_Class (lp : LpT) (G : Roms) (call : CallT) (a0 : V) (H : Heap) (n : Nat) (k : KV) : Prop :=
 onA (aBoxV a0) H n fun v1 H n=>
 onV (paddV 1 v1) fun v2=>
 onV (ld1V v2 G H) fun v3=>
 onV (notV v3) fun v4=>
 onG v4 true (paddV 0 v1) fun v5=>
 onG v4 true (ld1V v5 G H) fun v6=>
 onG v4 true (eqV (.one .str) true v6 (.str 0 0)) fun v7=>
 onV (pickV v4 v7 (.bool false)) fun v8=>
 onG v8 true (paddV 0 v1) fun v9=>
 onG v8 true (ld1V v9 G H) fun v10=>
 onG v8 true (idxSV v10 (.int .i64 (.ofNat 0) 0)) fun v11=>
 onG v8 true (B2.ev .geq v11 (.int .u8 (.ofNat 65) 0)) fun v12=>
 onV (pickV v8 v12 (.bool false)) fun v13=>
 onG v13 true (paddV 0 v1) fun v14=>
 onG v13 true (ld1V v14 G H) fun v15=>
 onG v13 true (idxSV v15 (.int .i64 (.ofNat 0) 0)) fun v16=>
 onG v13 true (B2.ev .leq v16 (.int .u8 (.ofNat 90) 0)) fun v17=>
 onV (pickV v13 v17 (.bool false)) fun v18=>
 k v18 H n
noncomputable def s_slices_Equal_ast_Var_ast_Var_j4 (lp : LpT) (G : Roms) (call : CallT) (k : KV) (H : Heap) (n : Nat) : Prop :=
 k (.bool true) H n
noncomputable def s_slices_Equal_ast_Var_ast_Var_l6 (lp : LpT) (G : Roms) (call : CallT) (k : KV) (ih6 : (V × V × V × V × Heap × Nat) → Prop) (a0 a1 a12 a13 : V) (H : Heap) (n : Nat) : Prop :=
 onV (B2.ev .lss a13 a12) fun v7=>
 onTst v7 true (onV (iaddrV 3 a0 a13) fun v8=>
 onV (ldnV 3 v8 G H) fun v9=>
 onV (iaddrV 3 a1 a13) fun v10=>
 onV (ldnV 3 v10 G H) fun v11=>
 onV (eqV (.agg [.str, .str, .bool]) true v9 v11) fun v12=>
 onTst v12 true (k (.bool false) H n) (onV (B2.ev .add a13 (.int .i64 (.ofNat 1) 0)) fun v13=>
 ih6 (a0, a1, a12, v13, H, n))) (s_slices_Equal_ast_Var_ast_Var_j4 lp G call k H n)
noncomputable def s_slices_Equal_ast_Var_ast_Var_l6b (lp : LpT) (G : Roms) (call : CallT) (k : KV) : ((V × V × V × V × Heap × Nat) → Prop) → (V × V × V × V × Heap × Nat) → Prop := fun ih6 s => s_slices_Equal_ast_Var_ast_Var_l6 lp G call k ih6 s.1 s.2.1 s.2.2.1 s.2.2.2.1 s.2.2.2.2.1 s.2.2.2.2.2
noncomputable def s_slices_Equal_ast_Var_ast_Var (lp : LpT) (G : Roms) (call : CallT) (a0 a1 : V) (H : Heap) (n : Nat) (k : KV) : Prop :=
 onV (lenV a0) fun v1=>
 onV (lenV a1) fun v2=>
 onV (eqV (.one .int) true v1 v2) fun v3=>
 onTst v3 true (k (.bool false) H n) (onV (lenV a0) fun v5=>
 lp (V × V × V × V × Heap × Nat) (s_slices_Equal_ast_Var_ast_Var_l6b lp G call k) (a0, a1, v5, (.int .i64 (.ofNat 0) 0), H, n))
noncomputable def s_slices_EqualFunc_face_Sig_face_Sig_face_Sig_face_Sig_j4 (lp : LpT) (G : Roms) (call : CallT) (k : KV) (H : Heap) (n : Nat) : Prop :=
 k (.bool true) H n
noncomputable def s_slices_EqualFunc_face_Sig_face_Sig_face_Sig_face_Sig_l6 (lp : LpT) (G : Roms) (call : CallT) (k : KV) (ih6 : (V × V × V × V × V × Heap × Nat) → Prop) (a1 a2 a15 a16 a17 : V) (H : Heap) (n : Nat) : Prop :=
 onV (B2.ev .lss a17 a16) fun v7=>
 onTst v7 true (onV (iaddrV 5 a15 a17) fun v8=>
 onV (ldnV 5 v8 G H) fun v9=>
 onA (aAlloc 5 [[(.str 0 0), (.bool false), .nils, (.str 0 0), (.bool false)]] E0) H n fun v10 H n=>
 stV 5 v10 v9 H n fun v11 H n=>
 onV (iaddrV 5 a1 a17) fun v12=>
 onV (ldnV 5 v12 G H) fun v13=>
 onA (aAlloc 5 [[(.str 0 0), (.bool false), .nils, (.str 0 0), (.bool false)]] E0) H n fun v14 H n=>
 stV 5 v14 v13 H n fun v15 H n=>
 onV (ldnV 5 v10 G H) fun v16=>
 onV (ldnV 5 v14 G H) fun v17=>
 callvV a2 [v16, v17] call H n fun v18 H n=>
 onV (notV v18) fun v19=>
 onTst v19 true (k (.bool false) H n) (onV (B2.ev .add a17 (.int .i64 (.ofNat 1) 0)) fun v20=>
 ih6 (a1, a2, a15, a16, v20, H, n))) (s_slices_EqualFunc_face_Sig_face_Sig_face_Sig_face_Sig_j4 lp G call k H n)
noncomputable def s_slices_EqualFunc_face_Sig_face_Sig_face_Sig_face_Sig_l6b (lp : LpT) (G : Roms) (call : CallT) (k : KV) : ((V × V × V × V × V × Heap × Nat) → Prop) → (V × V × V × V × V × Heap × Nat) → Prop := fun ih6 s => s_slices_EqualFunc_face_Sig_face_Sig_face_Sig_face_Sig_l6 lp G call k ih6 s.1 s.2.1 s.2.2.1 s.2.2.2.1 s.2.2.2.2.1 s.2.2.2.2.2.1 s.2.2.2.2.2.2
noncomputable def s_slices_EqualFunc_face_Sig_face_Sig_face_Sig_face_Sig (lp : LpT) (G : Roms) (call : CallT) (a0 a1 a2 : V) (H : Heap) (n : Nat) (k : KV) : Prop :=
 onV (lenV a0) fun v1=>
 onV (lenV a1) fun v2=>
 onV (eqV (.one .int) true v1 v2) fun v3=>
 onTst v3 true (k (.bool false) H n) (onV (lenV a0) fun v5=>
 lp (V × V × V × V × V × Heap × Nat) (s_slices_EqualFunc_face_Sig_face_Sig_face_Sig_face_Sig_l6b lp G call k) (a1, a2, a0, v5, (.int .i64 (.ofNat 0) 0), H, n))
noncomputable def s_slices_ContainsFunc_ast_Type_ast_Type (lp : LpT) (G : Roms) (call : CallT) (a0 a1 : V) (H : Heap) (n : Nat) (k : KV) : Prop :=
 call n_slices_IndexFunc_ast_Type_ast_Type [a0, a1] H n fun v1 H n=>
 onV (B2.ev .geq v1 (.int .i64 (.ofNat 0) 0)) fun v2=>
 k v2 H n
noncomputable def s_face_Face_Right_1 (lp : LpT) (G : Roms) (call : CallT) (a0 : V) (H : Heap) (n : Nat) (k : KV) : Prop :=
 onA (aBoxV a0) H n fun v1 H n=>
 onV (ldnV 2 v1 G H) fun v2=>
 call n_face_Good [v2] H n fun v3 H n=>
 onV (notV v3) fun v4=>
 k v4 H n
noncomputable def s_class_class (lp : LpT) (G : Roms) (call : CallT) (a0 : V) (H : Heap) (n : Nat) (k : KV) : Prop :=
 call n_ast_Of [a0] H n fun v1 H n=>
 call n_ast_Type_Class [v1] H n fun v2 H n=>
 onG v2 true (some a0) fun v3=>
 onG v2 true (lenSV v3) fun v4=>
 onG v2 true (B2.ev .leq v4 (.int .i64 (.ofNat 40) 0)) fun v5=>
 onV (pickV v2 v5 (.bool false)) fun v6=>
 k v6 H n
noncomputable def s_class_sig (lp : LpT) (G : Roms) (call : CallT) (a0 : V) (H : Heap) (n : Nat) (k : KV) : Prop :=
 onA (aBoxV a0) H n fun v1 H n=>
 onV (ldnV 5 v1 G H) fun v2=>
 onA (aBslice 5 1 [(.str 0 0), (.bool false), .nils, (.str 0 0), (.bool false)] [(0, .c v2)] E0) H n fun v3 H n=>
 onV (buildV [(.str 0 0), (.str 0 0), .nils, .nils] [(0, 1, .c (.str 1 65)), (3, 1, .c v3)]) fun v4=>
 call n_face_Face_Right [v4] H n fun v5 H n=>
 k v5 H n
noncomputable def s_class_File_many_1 (lp : LpT) (G : Roms) (call : CallT) (a0 a1 a2 : V) (H : Heap) (n : Nat) (k : KV) : Prop :=
 onV (eqV (.one .int) false a0 (.int .i32 (.ofNat 110) 0)) fun v1=>
 onTst v1 true (onV (paddV 4 a1) fun v2=>
 onV (paddV 0 v2) fun v3=>
 onV (ld1V v3 G H) fun v4=>
 onV (lenV v4) fun v5=>
 k v5 H n) (onV (eqV (.one .int) false a0 (.int .i32 (.ofNat 99) 0)) fun v6=>
 onTst v6 true (onV (paddV 4 a1) fun v7=>
 onV (paddV 1 v7) fun v8=>
 onV (ld1V v8 G H) fun v9=>
 onV (lenV v9) fun v10=>
 k v10 H n) (onV (eqV (.one .int) false a0 (.int .i32 (.ofNat 116) 0)) fun v11=>
 onTst v11 true (onV (paddV 4 a1) fun v12=>
 onV (paddV 2 v12) fun v13=>
 onV (ld1V v13 G H) fun v14=>
 onV (lenV v14) fun v15=>
 k v15 H n) (onV (eqV (.one .int) false a0 (.int .i32 (.ofNat 102) 0)) fun v16=>
 onTst v16 true (onV (paddV 4 a1) fun v17=>
 onV (paddV 3 v17) fun v18=>
 onV (ld1V v18 G H) fun v19=>
 onV (lenV v19) fun v20=>
 k v20 H n) (onV (eqV (.one .int) false a0 (.int .i32 (.ofNat 109) 0)) fun v21=>
 onTst v21 true (onV (paddV 4 a1) fun v22=>
 onV (paddV 4 v22) fun v23=>
 onV (ld1V v23 G H) fun v24=>
 onV (lenV v24) fun v25=>
 k v25 H n) (onV (eqV (.one .int) false a0 (.int .i32 (.ofNat 108) 0)) fun v26=>
 onTst v26 true (onV (paddV 0 a2) fun v27=>
 onV (ld1V v27 G H) fun v28=>
 k v28 H n) (onV (eqV (.one .int) false a0 (.int .i32 (.ofNat 106) 0)) fun v29=>
 onTst v29 true (onV (paddV 2 a2) fun v30=>
 onV (ld1V v30 G H) fun v31=>
 onV (lenV v31) fun v32=>
 k v32 H n) (k (.int .i64 (.ofNat 2) 0) H n)))))))
noncomputable def s_slices_IndexFunc_ast_Type_ast_Type_j1 (lp : LpT) (G : Roms) (call : CallT) (k : KV) (H : Heap) (n : Nat) : Prop :=
 k (.int .i64 (.negSucc 0) 0) H n
noncomputable def s_slices_IndexFunc_ast_Type_ast_Type_l3 (lp : LpT) (G : Roms) (call : CallT) (k : KV) (ih3 : (V × V × V × V × Heap × Nat) → Prop) (a0 a1 a7 a8 : V) (H : Heap) (n : Nat) : Prop :=
 onV (B2.ev .lss a8 a7) fun v4=>
 onTst v4 true (onV (iaddrV 2 a0 a8) fun v5=>
 onV (ldnV 2 v5 G H) fun v6=>
 callvV a1 [v6] call H n fun v7 H n=>
 onTst v7 true (k a8 H n) (onV (B2.ev .add a8 (.int .i64 (.ofNat 1) 0)) fun v8=>
 ih3 (a0, a1, a7, v8, H, n))) (s_slices_IndexFunc_ast_Type_ast_Type_j1 lp G call k H n)
noncomputable def s_slices_IndexFunc_ast_Type_ast_Type_l3b (lp : LpT) (G : Roms) (call : CallT) (k : KV) : ((V × V × V × V × Heap × Nat) → Prop) → (V × V × V × V × Heap × Nat) → Prop := fun ih3 s => s_slices_IndexFunc_ast_Type_ast_Type_l3 lp G call k ih3 s.1 s.2.1 s.2.2.1 s.2.2.2.1 s.2.2.2.2.1 s.2.2.2.2.2
noncomputable def s_slices_IndexFunc_ast_Type_ast_Type (lp : LpT) (G : Roms) (call : CallT) (a0 a1 : V) (H : Heap) (n : Nat) (k : KV) : Prop :=
 onV (lenV a0) fun v2=>
 lp (V × V × V × V × Heap × Nat) (s_slices_IndexFunc_ast_Type_ast_Type_l3b lp G call k) (a0, a1, v2, (.int .i64 (.ofNat 0) 0), H, n)
end Go.RL

