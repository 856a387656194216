/- Part of a proof: texts W2L of the engine and what is proved with it; nothing is assumed. -/
import Derived.Test.YtcjkfmaoahojeaaDoorPlainR
import Derived.Test.YtcjkfmaoahojeaaDoorTran
import Derived.Test.YtcjkfmaoahojeaaDoorEngF
set_option linter.unusedVariables false
set_option linter.unusedSimpArgs false
/- The law, with what it reads of its numbers. -/
namespace Go.P2
open Go.Eng
set_option maxRecDepth 100000
noncomputable def t_kilnlaw06_ParseErrors_j29 (lp : LpT) (G : Roms) (call : CallT) (k : KV) (v27 : V) (x0 : Nat) (x1 : Nat) (z0 : Int) (z1 : Int) (a7_j29 : V) (H : Heap) (n : Nat) : Prop :=
 onV (paddV 0 v27) fun v30 =>
 onV (ld1V v30 G H) fun v31 =>
 onV (B2.ev .add a7_j29 v31) fun v32 =>
 call n_parse_Class [v32] H n fun v33 H n =>
 onV (extV v33 0) fun v34 =>
 onV (extV v33 1) fun v35 =>
 onA (aAlloc 6 [[(.int .i64 (.ofNat 0) 0), (.int .i64 (.ofNat 0) 0), (.str 0 0), (.str 0 0), .nils, .nils]] E0) H n fun v36 H n =>
 onA (aAlloc 3 [[(.int .i64 (.ofNat 0) 0), (.int .i64 (.ofNat 0) 0), (.int .i64 (.ofNat 0) 0)]] E0) H n fun v37 H n =>
 stV 6 v36 v34 H n fun v38 H n =>
 stV 3 v37 v35 H n fun v39 H n =>
 onV (ldnV 3 v37 G H) fun v40 =>
 onV (paddV 1 v27) fun v41 =>
 onV (ld1V v41 G H) fun v42 =>
 onV (paddV 2 v27) fun v43 =>
 onV (ld1V v43 G H) fun v44 =>
 onV (B2.ev .add v44 (.int .i64 (.ofNat x1) 0)) fun v45 =>
 onV (buildV [(.int .i64 (.ofNat 0) 0), (.int .i64 (.ofNat 0) 0)] [(0, 1, .c (.int .i64 (.ofNat 1) 0)), (1, 1, .c v45)]) fun v46 =>
 onV (buildV [(.int .i64 (.ofNat 0) 0), (.int .i64 (.ofNat 0) 0), (.int .i64 (.ofNat 0) 0)] [(0, 1, .c v42), (1, 2, .c v46)]) fun v47 =>
 onV (eqV (.agg [.int, .int, .int]) false v40 v47) fun v48 =>
 onG v48 true (paddV 2 v36) fun v49 =>
 onG v48 true (ld1V v49 G H) fun v50 =>
 onG v48 true (eqV (.one .str) false v50 (.str 0 0)) fun v51 =>
 onV (pickV v48 v51 (.bool false)) fun v52 =>
 k v52 H n
noncomputable def t_kilnlaw06_ParseErrors_l53 (lp : LpT) (G : Roms) (call : CallT) (k : KV) (v27 : V) (x0 : Nat) (x1 : Nat) (z0 : Int) (z1 : Int) (ih53 : (V × V × Heap × Nat) → Prop) (a7_l53 a8_l53 : V) (H : Heap) (n : Nat) : Prop :=
 onV (B2.ev .lss a8_l53 (.int .i64 (.ofNat x1) 0)) fun v54 =>
 onTst v54 true (onV (B2.ev .add a7_l53 (.str 1 32)) fun v55 =>
 onV (B2.ev .add a8_l53 (.int .i64 (.ofNat 1) 0)) fun v56 =>
 ih53 (v55, v56, H, n)) (t_kilnlaw06_ParseErrors_j29 lp G call k v27 x0 x1 z0 z1 a7_l53 H n)
noncomputable def t_kilnlaw06_ParseErrors (lp : LpT) (G : Roms) (call : CallT) (z0 : Int) (z1 : Int) (x0 : Nat) (x1 : Nat) (H : Heap) (n : Nat) (k : KV) : Prop :=
 call n_kilnlaw06_head [] H n fun v1 H n =>
 onV (notV v1) fun v2 =>
 onTst v2 true (k (.bool false) H n) (onV (buildV [(.str 0 0), (.int .i64 (.ofNat 0) 0), (.int .i64 (.ofNat 0) 0)] [(0, 1, .c (.str 0 0)), (1, 1, .c (.int .i64 (.ofNat 21) 0)), (2, 1, .c (.int .i64 (.ofNat 1) 0))]) fun v3 =>
 onV (buildV [(.str 0 0), (.int .i64 (.ofNat 0) 0), (.int .i64 (.ofNat 0) 0)] [(0, 1, .c (.str 11 151269114461983303943679075)), (1, 1, .c (.int .i64 (.ofNat 21) 0)), (2, 1, .c (.int .i64 (.ofNat 7) 0))]) fun v4 =>
 onV (buildV [(.str 0 0), (.int .i64 (.ofNat 0) 0), (.int .i64 (.ofNat 0) 0)] [(0, 1, .c (.str 7 18331553715285091)), (1, 1, .c (.int .i64 (.ofNat 21) 0)), (2, 1, .c (.int .i64 (.ofNat 8) 0))]) fun v5 =>
 onV (buildV [(.str 0 0), (.int .i64 (.ofNat 0) 0), (.int .i64 (.ofNat 0) 0)] [(0, 1, .c (.str 22 46815159978657599995208688822975117215726279885679715)), (1, 1, .c (.int .i64 (.ofNat 21) 0)), (2, 1, .c (.int .i64 (.ofNat 17) 0))]) fun v6 =>
 onV (buildV [(.str 0 0), (.int .i64 (.ofNat 0) 0), (.int .i64 (.ofNat 0) 0)] [(0, 1, .c (.str 24 3068078277593169672074997178410002772653796832177622707299)), (1, 1, .c (.int .i64 (.ofNat 21) 0)), (2, 1, .c (.int .i64 (.ofNat 21) 0))]) fun v7 =>
 onV (buildV [(.str 0 0), (.int .i64 (.ofNat 0) 0), (.int .i64 (.ofNat 0) 0)] [(0, 1, .c (.str 26 201071190890045738315510173618928349866930927578536727514541155)), (1, 1, .c (.int .i64 (.ofNat 21) 0)), (2, 1, .c (.int .i64 (.ofNat 18) 0))]) fun v8 =>
 onV (buildV [(.str 0 0), (.int .i64 (.ofNat 0) 0), (.int .i64 (.ofNat 0) 0)] [(0, 1, .c (.str 23 11984773983291543892144418592037054523940439930118958179)), (1, 1, .c (.int .i64 (.ofNat 21) 0)), (2, 1, .c (.int .i64 (.ofNat 13) 0))]) fun v9 =>
 onV (buildV [(.str 0 0), (.int .i64 (.ofNat 0) 0), (.int .i64 (.ofNat 0) 0)] [(0, 1, .c (.str 19 2790422640831722487321507526718622653208423523)), (1, 1, .c (.int .i64 (.ofNat 21) 0)), (2, 1, .c (.int .i64 (.ofNat 17) 0))]) fun v10 =>
 onV (buildV [(.str 0 0), (.int .i64 (.ofNat 0) 0), (.int .i64 (.ofNat 0) 0)] [(0, 1, .c (.str 31 221078342268074835684310045228073883675938768823189576210046756240303942755)), (1, 1, .c (.int .i64 (.ofNat 21) 0)), (2, 1, .c (.int .i64 (.ofNat 18) 0))]) fun v11 =>
 onV (buildV [(.str 0 0), (.int .i64 (.ofNat 0) 0), (.int .i64 (.ofNat 0) 0)] [(0, 1, .c (.str 33 14488706245877629834626066465904251399382144338276921484479574061375024808422499)), (1, 1, .c (.int .i64 (.ofNat 21) 0)), (2, 1, .c (.int .i64 (.ofNat 27) 0))]) fun v12 =>
 onV (buildV [(.str 0 0), (.int .i64 (.ofNat 0) 0), (.int .i64 (.ofNat 0) 0)] [(0, 1, .c (.str 38 15930500986885138082716914188727736072962408112583856241367264959125805008679045704552901731)), (1, 1, .c (.int .i64 (.ofNat 21) 0)), (2, 1, .c (.int .i64 (.ofNat 34) 0))]) fun v13 =>
 onV (buildV [(.str 0 0), (.int .i64 (.ofNat 0) 0), (.int .i64 (.ofNat 0) 0)] [(0, 1, .c (.str 33 14488706244154401114425594346271548022737168424226343147880102921316280895106147)), (1, 1, .c (.int .i64 (.ofNat 21) 0)), (2, 1, .c (.int .i64 (.ofNat 29) 0))]) fun v14 =>
 onV (buildV [(.str 0 0), (.int .i64 (.ofNat 0) 0), (.int .i64 (.ofNat 0) 0)] [(0, 1, .c (.str 35 949531852417241394129436670842345759973782932551510502972350619456122065751516474467)), (1, 1, .c (.int .i64 (.ofNat 21) 0)), (2, 1, .c (.int .i64 (.ofNat 31) 0))]) fun v15 =>
 onV (buildV [(.str 0 0), (.int .i64 (.ofNat 0) 0), (.int .i64 (.ofNat 0) 0)] [(0, 1, .c (.str 39 4078208252640777619480331876091949744795966551672811730729216707453114688321201553543557901411)), (1, 1, .c (.int .i64 (.ofNat 21) 0)), (2, 1, .c (.int .i64 (.ofNat 29) 0))]) fun v16 =>
 onV (buildV [(.str 0 0), (.int .i64 (.ofNat 0) 0), (.int .i64 (.ofNat 0) 0)] [(0, 1, .c (.str 41 267269456045066002070263029831939141923130603439715108013358400382421417457663728548347933500730467)), (1, 1, .c (.int .i64 (.ofNat 21) 0)), (2, 1, .c (.int .i64 (.ofNat 34) 0))]) fun v17 =>
 onV (buildV [(.str 0 0), (.int .i64 (.ofNat 0) 0), (.int .i64 (.ofNat 0) 0)] [(0, 1, .c (.str 46 293865874671060366523700435097813126891475674474228766584349853623034110162305846144904541450378801492040707171)), (1, 1, .c (.int .i64 (.ofNat 21) 0)), (2, 1, .c (.int .i64 (.ofNat 42) 0))]) fun v18 =>
 onV (buildV [(.str 0 0), (.int .i64 (.ofNat 0) 0), (.int .i64 (.ofNat 0) 0)] [(0, 1, .c (.str 40 1044021312676168081654126156204260185274382502498199415021007376214439791071396003711452893506659)), (1, 1, .c (.int .i64 (.ofNat 21) 0)), (2, 1, .c (.int .i64 (.ofNat 36) 0))]) fun v19 =>
 onV (buildV [(.str 0 0), (.int .i64 (.ofNat 0) 0), (.int .i64 (.ofNat 0) 0)] [(0, 1, .c (.str 47 75229663915791453830066799985890437460684047575436199320030244206753160003881881805970752297940011770084214271075)), (1, 1, .c (.int .i64 (.ofNat 21) 0)), (2, 1, .c (.int .i64 (.ofNat 40) 0))]) fun v20 =>
 onV (buildV [(.str 0 0), (.int .i64 (.ofNat 0) 0), (.int .i64 (.ofNat 0) 0)] [(0, 1, .c (.str 13 9913466300388012900871152168035)), (1, 1, .c (.int .i64 (.ofNat 20) 0)), (2, 1, .c (.int .i64 (.ofNat 11) 0))]) fun v21 =>
 onV (buildV [(.str 0 0), (.int .i64 (.ofNat 0) 0), (.int .i64 (.ofNat 0) 0)] [(0, 1, .c (.str 45 1147913572933267987332599409699845108147798504875178604942777447886720633572192218131434309178180360564993123)), (1, 1, .c (.int .i64 (.ofNat 21) 0)), (2, 1, .c (.int .i64 (.ofNat 33) 0))]) fun v22 =>
 onA (aBslice 3 20 [(.str 0 0), (.int .i64 (.ofNat 0) 0), (.int .i64 (.ofNat 0) 0)] [(0, .c v3), (1, .c v4), (2, .c v5), (3, .c v6), (4, .c v7), (5, .c v8), (6, .c v9), (7, .c v10), (8, .c v11), (9, .c v12), (10, .c v13), (11, .c v14), (12, .c v15), (13, .c v16), (14, .c v17), (15, .c v18), (16, .c v19), (17, .c v20), (18, .c v21), (19, .c v22)] E0) H n fun v23 H n =>
 onV (cviV .i64 (.int .u64 (.ofNat x0) 0)) fun v24 =>
 onV (iaddrV 3 v23 v24) fun v25 =>
 onV (ldnV 3 v25 G H) fun v26 =>
 onA (aAlloc 3 [[(.str 0 0), (.int .i64 (.ofNat 0) 0), (.int .i64 (.ofNat 0) 0)]] E0) H n fun v27 H n =>
 stV 3 v27 v26 H n fun v28 H n =>
 lp (V × V × Heap × Nat) (fun ih s => t_kilnlaw06_ParseErrors_l53 lp G call k v27 x0 x1 z0 z1 ih s.1 s.2.1 s.2.2.1 s.2.2.2) ((.str 0 0), (.int .i64 (.ofNat 0) 0), H, n))
theorem ti_kilnlaw06_ParseErrors {lp : LpT} (hL : LpOk lp) {G : Roms} {call callE : CallT} (z0 : Int) (z1 : Int) (x0 : Nat) (x1 : Nat) (ex0 : umod z0 20 = x0) (ex1 : uand z1 15 = x1) (hle : CallLe call callE) (hd : CallDet callE) {H : Heap} {n : Nat} {k : KV} (h : t_kilnlaw06_ParseErrors lp G call z0 z1 x0 x1 H n k) : exFunL af_kilnlaw06_ParseErrors G callE [(.int .i64 z0 0), (.int .i64 z1 0)] H n k := by
  delta t_kilnlaw06_ParseErrors at h
  refine f_intro rfl ?_
  refine c_seq ?_
  refine c_ops ?_
  refine ov_t (a := (.bool false)) (k_mv rfl) ?_
  refine o0 ?_
  refine c_seq ?_
  refine c_seq ?_
  refine c_ops ?_
  refine oe_s hle hd h (k_call xs0) fun v1 H n h => ?_
  refine on_t h (k_not rfl) fun v2 h => ?_
  refine o0 ?_
  refine c_cond h (xr sm) (fun h => ?_) (fun h => ?_)
  · refine c_seq ?_
    refine c_ops ?_
    refine ov_t (a := (.bool false)) (k_mv rfl) ?_
    refine o0 ?_
    refine c_ret ?_
    exact fin_no (rsT sm rs0) h
  · refine c_skip ?_
    refine c_seq ?_
    refine c_ops ?_
    refine on_s h (k_build (psS rfl (psS rfl (psS rfl ps0)))) fun v3 h => ?_
    refine on_s h (k_build (psS rfl (psS rfl (psS rfl ps0)))) fun v4 h => ?_
    refine on_s h (k_build (psS rfl (psS rfl (psS rfl ps0)))) fun v5 h => ?_
    refine on_s h (k_build (psS rfl (psS rfl (psS rfl ps0)))) fun v6 h => ?_
    refine on_s h (k_build (psS rfl (psS rfl (psS rfl ps0)))) fun v7 h => ?_
    refine on_s h (k_build (psS rfl (psS rfl (psS rfl ps0)))) fun v8 h => ?_
    refine on_s h (k_build (psS rfl (psS rfl (psS rfl ps0)))) fun v9 h => ?_
    refine on_s h (k_build (psS rfl (psS rfl (psS rfl ps0)))) fun v10 h => ?_
    refine on_s h (k_build (psS rfl (psS rfl (psS rfl ps0)))) fun v11 h => ?_
    refine on_s h (k_build (psS rfl (psS rfl (psS rfl ps0)))) fun v12 h => ?_
    refine on_s h (k_build (psS rfl (psS rfl (psS rfl ps0)))) fun v13 h => ?_
    refine on_s h (k_build (psS rfl (psS rfl (psS rfl ps0)))) fun v14 h => ?_
    refine on_s h (k_build (psS rfl (psS rfl (psS rfl ps0)))) fun v15 h => ?_
    refine on_s h (k_build (psS rfl (psS rfl (psS rfl ps0)))) fun v16 h => ?_
    refine on_s h (k_build (psS rfl (psS rfl (psS rfl ps0)))) fun v17 h => ?_
    refine on_s h (k_build (psS rfl (psS rfl (psS rfl ps0)))) fun v18 h => ?_
    refine on_s h (k_build (psS rfl (psS rfl (psS rfl ps0)))) fun v19 h => ?_
    refine on_s h (k_build (psS rfl (psS rfl (psS rfl ps0)))) fun v20 h => ?_
    refine on_s h (k_build (psS rfl (psS rfl (psS rfl ps0)))) fun v21 h => ?_
    refine on_s h (k_build (psS rfl (psS rfl (psS rfl ps0)))) fun v22 h => ?_
    refine oa_s h (k_bslice (pbS rfl (pbS rfl (pbS rfl (pbS rfl (pbS rfl (pbS rfl (pbS rfl (pbS rfl (pbS rfl (pbS rfl (pbS rfl (pbS rfl (pbS rfl (pbS rfl (pbS rfl (pbS rfl (pbS rfl (pbS rfl (pbS rfl (pbS rfl pb0))))))))))))))))))))) fun v23 H n h => ?_
    refine ov_t (a := v23) (k_mv rfl) ?_
    refine o0 ?_
    refine c_seq ?_
    refine c_ops ?_
    refine ov_s (a := (.int .u64 (IntKind.wrap .u64 z0) 0)) (km1 (xr (ne rfl (ne rfl (ne rfl rfl))))) ?_
    refine ov_s (a := (.int .u64 (.ofNat x0) 0)) (km2 (by decide) ex0 rfl) ?_
    refine on_s h (k_cvi rfl) fun v24 h => ?_
    refine on_s h (k_iaddr (xr sm) rfl) fun v25 h => ?_
    refine on_s h (k_ldn rfl) fun v26 h => ?_
    refine oa_t h k_alloc fun v27 H n h => ?_
    refine oe_x hle hd h (k_st (xr sm) rfl) fun v28 H n h => ?_
    refine o0 ?_
    refine c_seq ?_
    refine c_ops ?_
    refine ov_t (a := (.str 0 0)) (k_mv rfl) ?_
    refine o0 ?_
    refine c_seqj (fun R H n => ∃ a7_j29, rg R q7 = a7_j29 ∧ rg R q1 = (.int .i64 z1 0) ∧ rg R q6 = v27 ∧ t_kilnlaw06_ParseErrors_j29 lp G call k v27 x0 x1 z0 z1 a7_j29 H n) ?_ fun j29 => ?_
    · rintro R H n ⟨a7_j29, f7, f1, f6, h⟩
      delta t_kilnlaw06_ParseErrors_j29 at h
      refine c_seq ?_
      refine c_ops ?_
      refine on_s h (k_faddr (xr f6)) fun v30 h => ?_
      refine on_s h (k_ld1 rfl) fun v31 h => ?_
      refine on_s h (k_bin (xr f7) rfl) fun v32 h => ?_
      refine oe_s hle hd h (k_call (xsS rfl xs0)) fun v33 H n h => ?_
      refine on_s h (k_ext rfl) fun v34 h => ?_
      refine on_s h (k_ext rfl) fun v35 h => ?_
      refine oa_t h k_alloc fun v36 H n h => ?_
      refine oa_t h k_alloc fun v37 H n h => ?_
      refine oe_x hle hd h (k_st (xr (ne rfl sm)) rfl) fun v38 H n h => ?_
      refine oe_x hle hd h (k_st (xr sm) rfl) fun v39 H n h => ?_
      refine o0 ?_
      refine c_seq ?_
      refine c_ops ?_
      refine on_s h (k_ldn (xr sm)) fun v40 h => ?_
      refine on_s h (k_faddr (xr (ne rfl (ne rfl f6)))) fun v41 h => ?_
      refine on_s h (k_ld1 rfl) fun v42 h => ?_
      refine on_s h (k_faddr (xr (ne rfl (ne rfl f6)))) fun v43 h => ?_
      refine on_s h (k_ld1 rfl) fun v44 h => ?_
      refine ov_s (a := (.int .i64 (.ofNat x1) 0)) (km3 (by decide) ex1 (xr (ne rfl (ne rfl f1)))) ?_
      refine on_s h (k_bin rfl rfl) fun v45 h => ?_
      refine on_s h (k_build (psS rfl (psS rfl ps0))) fun v46 h => ?_
      refine on_s h (k_build (psS rfl (psS rfl ps0))) fun v47 h => ?_
      refine on_s h (k_eq rfl rfl) fun v48 h => ?_
      refine ogn_s h rfl (k_faddr (xr (ne rfl sm))) fun v49 h => ?_
      refine ogn_s h rfl (k_ld1 rfl) fun v50 h => ?_
      refine ogn_s h rfl (k_eq rfl rfl) fun v51 h => ?_
      refine on_s h (k_pick rfl rfl rfl) fun v52 h => ?_
      refine ov_t (a := v52) (k_mv rfl) ?_
      refine o0 ?_
      refine c_ret ?_
      exact fin_no (rsT sm rs0) h
    · refine c_seq ?_
      refine c_ops ?_
      refine ov_t (a := (.int .i64 (.ofNat 0) 0)) (k_mv rfl) ?_
      refine o0 ?_
      refine c_block ?_
      refine c_loop hL (fun s R H n => rg R q7 = s.1 ∧ rg R q8 = s.2.1 ∧ rg R q1 = (.int .i64 z1 0) ∧ rg R q6 = v27 ∧ H = s.2.2.1 ∧ n = s.2.2.2) h ⟨(ne rfl sm), sm, (ne rfl (ne rfl (ne rfl (ne rfl (ne rfl (ne rfl rfl)))))), (ne rfl (ne rfl sm)), rfl, rfl⟩ ?_
      rintro ih53 I53 hI53 ⟨a7_l53, a8_l53, H, n⟩ R H0 n0 ⟨f7, f8, f1, f6, eH, eN⟩ h
      replace h : t_kilnlaw06_ParseErrors_l53 lp G call k v27 x0 x1 z0 z1 ih53 a7_l53 a8_l53 H n := h
      obtain rfl : H0 = H := eH
      obtain rfl : n0 = n := eN
      delta t_kilnlaw06_ParseErrors_l53 at h
      refine c_seq ?_
      refine c_seq ?_
      refine c_ops ?_
      refine ov_s (a := (.int .i64 (.ofNat x1) 0)) (km3 (by decide) ex1 (xr f1)) ?_
      refine on_t h (k_bin (xr f8) rfl) fun v54 h => ?_
      refine o0 ?_
      refine c_cond h (xr sm) (fun h => ?_) (fun h => ?_)
      · refine c_skip ?_
        refine c_seq ?_
        refine c_block ?_
        refine c_ops ?_
        refine on_s h (k_bin (xr (ne rfl f7)) rfl) fun v55 h => ?_
        refine ov_t (a := v55) (k_mv rfl) ?_
        refine o0 ?_
        refine c_ops ?_
        refine on_s h (k_bin (xr (ne rfl (ne rfl f8))) rfl) fun v56 h => ?_
        refine ov_t (a := v56) (k_mv rfl) ?_
        refine o0 ?_
        exact hI53 (v55, v56, H0, n0) _ _ _ ⟨(ne rfl sm), sm, (ne rfl (ne rfl (ne rfl f1))), (ne rfl (ne rfl (ne rfl f6))), rfl, rfl⟩ h
      · refine c_exit ?_
        refine bx_same ?_
        exact j29 _ _ _ ⟨_, (ne rfl f7), (ne rfl f1), (ne rfl f6), h⟩
end Go.P2

