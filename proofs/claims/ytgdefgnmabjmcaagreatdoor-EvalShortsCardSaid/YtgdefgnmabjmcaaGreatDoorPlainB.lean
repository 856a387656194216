/- Part of a proof: texts R3Sh of the engine and what is proved with it; nothing is assumed. -/
import Derived.Test.YtgdefgnmabjmcaaGreatDoorPlain
set_option linter.unusedVariables false
set_option linter.unusedSimpArgs false
/- The functions, as plain functions of values: printed by program. -/
namespace Go.R3
open Go.Eng
set_option maxRecDepth 100000
noncomputable def s_f151 (lp : LpT) (G : Roms) (call : CallT) (a0 a1 a2 : V) (H : Heap) (n : Nat) (k : KV) : Prop :=
 onA (aBoxV a1) H n fun v1 H n=>
 onA (aBoxV a2) H n fun v2 H n=>
 onA (aAlloc 11 [[(.int .i64 (.ofNat 0) 0), (.int .i64 (.ofNat 0) 0), (.int .i64 (.ofNat 0) 0), (.int .i64 (.ofNat 0) 0), (.str 0 0), (.str 0 0), (.bool false), .nils, (.str 0 0), (.bool false), (.str 0 0)]] E0) H n fun v3 H n=>
 call 63 [a0, (.str 6 114849160783212)] H n fun v4 H n=>
 onTst v4 true (onV (ldnV 2 v2 G H) fun v5=>
 onV (ldnV 11 v1 G H) fun v6=>
 onA (aBslice 11 1 [(.int .i64 (.ofNat 0) 0), (.int .i64 (.ofNat 0) 0), (.int .i64 (.ofNat 0) 0), (.int .i64 (.ofNat 0) 0), (.str 0 0), (.str 0 0), (.bool false), .nils, (.str 0 0), (.bool false), (.str 0 0)] [(0, .c v6)] E0) H n fun v7 H n=>
 onV (buildV [(.int .i64 (.ofNat 0) 0), (.int .i64 (.ofNat 0) 0), (.int .i64 (.ofNat 0) 0), (.int .i64 (.ofNat 0) 0), (.str 0 0), (.str 0 0), (.bool false), .nils, (.str 0 0), (.bool false), (.str 0 0)] [(0, 1, .c (.int .i64 (.ofNat 13) 0)), (1, 2, .c v5), (7, 1, .c v7)]) fun v8=>
 stV 11 v3 v8 H n fun v9 H n=>
 onO (getVs [.cn v3 11] G H) fun l => k (oneV l) H n) (call 62 [a0, (.int .i64 (.ofNat 3) 0)] H n fun v10 H n=>
 onA (aBslice 1 1 [(.str 0 0)] [(0, .c (.str 1 40))] E0) H n fun v11 H n=>
 call 66 [a0, v11] H n fun v12 H n=>
 onV (notV v12) fun v13=>
 onTst v13 true (onV (ldnV 2 v2 G H) fun v14=>
 onV (ldnV 11 v1 G H) fun v15=>
 onA (aBslice 11 1 [(.int .i64 (.ofNat 0) 0), (.int .i64 (.ofNat 0) 0), (.int .i64 (.ofNat 0) 0), (.int .i64 (.ofNat 0) 0), (.str 0 0), (.str 0 0), (.bool false), .nils, (.str 0 0), (.bool false), (.str 0 0)] [(0, .c v15)] E0) H n fun v16 H n=>
 onV (buildV [(.int .i64 (.ofNat 0) 0), (.int .i64 (.ofNat 0) 0), (.int .i64 (.ofNat 0) 0), (.int .i64 (.ofNat 0) 0), (.str 0 0), (.str 0 0), (.bool false), .nils, (.str 0 0), (.bool false), (.str 0 0)] [(0, 1, .c (.int .i64 (.ofNat 7) 0)), (1, 2, .c v14), (4, 1, .c v10), (7, 1, .c v16)]) fun v17=>
 stV 11 v3 v17 H n fun v18 H n=>
 onO (getVs [.cn v3 11] G H) fun l => k (oneV l) H n) (onV (ldnV 2 v2 G H) fun v19=>
 onV (ldnV 11 v1 G H) fun v20=>
 onA (aBslice 11 1 [(.int .i64 (.ofNat 0) 0), (.int .i64 (.ofNat 0) 0), (.int .i64 (.ofNat 0) 0), (.int .i64 (.ofNat 0) 0), (.str 0 0), (.str 0 0), (.bool false), .nils, (.str 0 0), (.bool false), (.str 0 0)] [(0, .c v20)] E0) H n fun v21 H n=>
 call 152 [a0] H n fun v22 H n=>
 onV (ldnV 2 v2 G H) fun v=>onB (vsame v v19) <|
 onV (ldnV 11 v1 G H) fun v=>onB (vsame v v20) <|
 appV 11 136 v21 v22 G H n fun v23 H n=>
 onV (ldnV 2 v2 G H) fun v=>onB (vsame v v19) <|
 onV (buildV [(.int .i64 (.ofNat 0) 0), (.int .i64 (.ofNat 0) 0), (.int .i64 (.ofNat 0) 0), (.int .i64 (.ofNat 0) 0), (.str 0 0), (.str 0 0), (.bool false), .nils, (.str 0 0), (.bool false), (.str 0 0)] [(0, 1, .c (.int .i64 (.ofNat 8) 0)), (1, 2, .c v19), (4, 1, .c v10), (7, 1, .c v23)]) fun v24=>
 stV 11 v3 v24 H n fun v25 H n=>
 onO (getVs [.cn v3 11] G H) fun l => k (oneV l) H n))
noncomputable def s_f152_j3 (lp : LpT) (G : Roms) (call : CallT) (k : KV) (a3 : V) (H : Heap) (n : Nat) : Prop :=
 k a3 H n
noncomputable def s_f152_j10 (lp : LpT) (G : Roms) (call : CallT) (k : KV) (ih4 : (V × V × Heap × Nat) → Prop) (a0 a3 : V) (H : Heap) (n : Nat) : Prop :=
 call 131 [a0] H n fun v11 H n=>
 onA (aBslice 11 1 [(.int .i64 (.ofNat 0) 0), (.int .i64 (.ofNat 0) 0), (.int .i64 (.ofNat 0) 0), (.int .i64 (.ofNat 0) 0), (.str 0 0), (.str 0 0), (.bool false), .nils, (.str 0 0), (.bool false), (.str 0 0)] [(0, .c v11)] E0) H n fun v12 H n=>
 appV 11 136 a3 v12 G H n fun v13 H n=>
 onV (lenV v13) fun v14=>
 call 65 [a0, v14] H n fun v15 H n=>
 ih4 (a0, v13, H, n)
noncomputable def s_f152_l4 (lp : LpT) (G : Roms) (call : CallT) (k : KV) (ih4 : (V × V × Heap × Nat) → Prop) (a0 a3 : V) (H : Heap) (n : Nat) : Prop :=
 call 40 [a0] H n fun v5 H n=>
 onG v5 true (some a0) fun v6=>
 onGT v5 true (call 63 [v6, (.str 1 41)] H n) H n fun v7 H n=>
 onG v5 true (notV v7) fun v8=>
 onV (pickV v5 v8 (.bool false)) fun v9=>
 onTst v9 true (onV (lenV a3) fun v16=>
 onV (B2.ev .gtr v16 (.int .i64 (.ofNat 0) 0)) fun v17=>
 onTst v17 true (onA (aBslice 1 1 [(.str 0 0)] [(0, .c (.str 1 44))] E0) H n fun v18 H n=>
 call 61 [a0, v18] H n fun v19 H n=>
 s_f152_j10 lp G call k ih4 a0 a3 H n) (s_f152_j10 lp G call k ih4 a0 a3 H n)) (s_f152_j3 lp G call k a3 H n)
noncomputable def s_f152_l4b (lp : LpT) (G : Roms) (call : CallT) (k : KV) : ((V × V × Heap × Nat) → Prop) → (V × V × Heap × Nat) → Prop := fun ih4 s => s_f152_l4 lp G call k ih4 s.1 s.2.1 s.2.2.1 s.2.2.2
noncomputable def s_f152 (lp : LpT) (G : Roms) (call : CallT) (a0 : V) (H : Heap) (n : Nat) (k : KV) : Prop :=
 onA (aBslice 1 1 [(.str 0 0)] [(0, .c (.str 1 40))] E0) H n fun v1 H n=>
 call 61 [a0, v1] H n fun v2 H n=>
 lp (V × V × Heap × Nat) (s_f152_l4b lp G call k) (a0, .nils, H, n)
end Go.R3

