/- Part of a proof: texts RGSh of the engine and what is proved with it; nothing is assumed. -/
import Derived.Test.YtdplchkljbfjdaaGreatDoorPlain
set_option linter.unusedVariables false
set_option linter.unusedSimpArgs false
/- The functions, as plain functions of values: printed by program. -/
namespace Go.R5
open Go.Eng
set_option maxRecDepth 100000
noncomputable def s_f206 (lp : LpT) (G : Roms) (call : CallT) (a0 : V) (H : Heap) (n : Nat) (k : KV) : Prop :=
 call 235 [a0] H n fun v1 H n=>
 call 234 [v1] H n fun v2 H n=>
 onV (iaddrAV 20 1 (.gptr 3 0) v2) fun v3=>
 onV (ld1V v3 G H) fun v4=>
 onV (B2.ev .geq a0 v4) fun v5=>
 call 236 [v5] H n fun v6 H n=>
 onV (B2.ev .add v2 v6) fun v7=>
 k v7 H n
noncomputable def s_f207_j5 (lp : LpT) (G : Roms) (call : CallT) (k : KV) (a0 a4 a12 : V) (H : Heap) (n : Nat) : Prop :=
 onV (B2.ev .gtr a4 (.int .i64 (.ofNat 0) 0)) fun v6=>
 onTst v6 true (onV (B2.ev .add (.int .u32 (.ofNat 48) 0) a12) fun v7=>
 onV (cviV .u8 v7) fun v8=>
 onV (iaddrV 1 a0 (.int .i64 (.ofNat 0) 0)) fun v9=>
 stV 1 v9 v8 H n fun v10 H n=>
 k (.tup []) H n) (k (.tup []) H n)
noncomputable def s_f207_j4 (lp : LpT) (G : Roms) (call : CallT) (k : KV) (a0 a4 a12 : V) (H : Heap) (n : Nat) : Prop :=
 onV (B2.ev .geq a4 (.int .i64 (.ofNat 2) 0)) fun v11=>
 onTst v11 true (onV (B2.ev .rem a12 (.int .u32 (.ofNat 100) 0)) fun v12=>
 onV (B2.ev .mul v12 (.int .u32 (.ofNat 2) 0)) fun v13=>
 onV (B2.ev .quo a12 (.int .u32 (.ofNat 100) 0)) fun v14=>
 onV (B2.ev .sub a4 (.int .i64 (.ofNat 1) 0)) fun v15=>
 onV (B2.ev .sub a4 (.int .i64 (.ofNat 2) 0)) fun v16=>
 onV (B2.ev .add v13 (.int .u32 (.ofNat 1) 0)) fun v17=>
 onV (idxSV (.str 200 9938655150514779720929161263213647789093395803754561035662628441001274968862597953692946393464194303251501229616933063375291039650253924995779037586872666250072396106842829501851083234932712366962979930255066872747696324303968523733872590022915936937156789320557469720923390131174387415513794469201054844961267015441141542819553679203788501627738430154234325528792480477051962324423099068299719245009424585859096469223093538032153047611602695245052081125123941502624659711709950000) v17) fun v18=>
 onV (idxSV (.str 200 9938655150514779720929161263213647789093395803754561035662628441001274968862597953692946393464194303251501229616933063375291039650253924995779037586872666250072396106842829501851083234932712366962979930255066872747696324303968523733872590022915936937156789320557469720923390131174387415513794469201054844961267015441141542819553679203788501627738430154234325528792480477051962324423099068299719245009424585859096469223093538032153047611602695245052081125123941502624659711709950000) v13) fun v19=>
 onV (iaddrV 1 a0 v15) fun v20=>
 stV 1 v20 v18 H n fun v21 H n=>
 onV (iaddrV 1 a0 v16) fun v22=>
 stV 1 v22 v19 H n fun v23 H n=>
 onV (B2.ev .sub a4 (.int .i64 (.ofNat 2) 0)) fun v24=>
 s_f207_j5 lp G call k a0 v24 v14 H n) (s_f207_j5 lp G call k a0 a4 a12 H n)
noncomputable def s_f207_j2 (lp : LpT) (G : Roms) (call : CallT) (k : KV) (a0 a1 a4 : V) (H : Heap) (n : Nat) : Prop :=
 onV (cviV .u32 a1) fun v3=>
 onV (B2.ev .geq a4 (.int .i64 (.ofNat 4) 0)) fun v25=>
 onTst v25 true (onV (B2.ev .rem v3 (.int .u32 (.ofNat 10000) 0)) fun v26=>
 onV (B2.ev .quo v3 (.int .u32 (.ofNat 10000) 0)) fun v27=>
 onV (B2.ev .quo v26 (.int .u32 (.ofNat 100) 0)) fun v28=>
 onV (B2.ev .mul v28 (.int .u32 (.ofNat 2) 0)) fun v29=>
 onV (B2.ev .rem v26 (.int .u32 (.ofNat 100) 0)) fun v30=>
 onV (B2.ev .mul v30 (.int .u32 (.ofNat 2) 0)) fun v31=>
 onV (B2.ev .sub a4 (.int .i64 (.ofNat 1) 0)) fun v32=>
 onV (B2.ev .sub a4 (.int .i64 (.ofNat 2) 0)) fun v33=>
 onV (B2.ev .add v31 (.int .u32 (.ofNat 1) 0)) fun v34=>
 onV (idxSV (.str 200 9938655150514779720929161263213647789093395803754561035662628441001274968862597953692946393464194303251501229616933063375291039650253924995779037586872666250072396106842829501851083234932712366962979930255066872747696324303968523733872590022915936937156789320557469720923390131174387415513794469201054844961267015441141542819553679203788501627738430154234325528792480477051962324423099068299719245009424585859096469223093538032153047611602695245052081125123941502624659711709950000) v34) fun v35=>
 onV (idxSV (.str 200 9938655150514779720929161263213647789093395803754561035662628441001274968862597953692946393464194303251501229616933063375291039650253924995779037586872666250072396106842829501851083234932712366962979930255066872747696324303968523733872590022915936937156789320557469720923390131174387415513794469201054844961267015441141542819553679203788501627738430154234325528792480477051962324423099068299719245009424585859096469223093538032153047611602695245052081125123941502624659711709950000) v31) fun v36=>
 onV (iaddrV 1 a0 v32) fun v37=>
 stV 1 v37 v35 H n fun v38 H n=>
 onV (iaddrV 1 a0 v33) fun v39=>
 stV 1 v39 v36 H n fun v40 H n=>
 onV (B2.ev .sub a4 (.int .i64 (.ofNat 3) 0)) fun v41=>
 onV (B2.ev .sub a4 (.int .i64 (.ofNat 4) 0)) fun v42=>
 onV (B2.ev .add v29 (.int .u32 (.ofNat 1) 0)) fun v43=>
 onV (idxSV (.str 200 9938655150514779720929161263213647789093395803754561035662628441001274968862597953692946393464194303251501229616933063375291039650253924995779037586872666250072396106842829501851083234932712366962979930255066872747696324303968523733872590022915936937156789320557469720923390131174387415513794469201054844961267015441141542819553679203788501627738430154234325528792480477051962324423099068299719245009424585859096469223093538032153047611602695245052081125123941502624659711709950000) v43) fun v44=>
 onV (idxSV (.str 200 9938655150514779720929161263213647789093395803754561035662628441001274968862597953692946393464194303251501229616933063375291039650253924995779037586872666250072396106842829501851083234932712366962979930255066872747696324303968523733872590022915936937156789320557469720923390131174387415513794469201054844961267015441141542819553679203788501627738430154234325528792480477051962324423099068299719245009424585859096469223093538032153047611602695245052081125123941502624659711709950000) v29) fun v45=>
 onV (iaddrV 1 a0 v41) fun v46=>
 stV 1 v46 v44 H n fun v47 H n=>
 onV (iaddrV 1 a0 v42) fun v48=>
 stV 1 v48 v45 H n fun v49 H n=>
 onV (B2.ev .sub a4 (.int .i64 (.ofNat 4) 0)) fun v50=>
 s_f207_j4 lp G call k a0 v50 v27 H n) (s_f207_j4 lp G call k a0 a4 v3 H n)
noncomputable def s_f207_l51 (lp : LpT) (G : Roms) (call : CallT) (k : KV) (ih51 : (V × V × V × Heap × Nat) → Prop) (a0 a1 a4 : V) (H : Heap) (n : Nat) : Prop :=
 onV (B2.ev .geq a4 (.int .i64 (.ofNat 8) 0)) fun v52=>
 onTst v52 true (onV (B2.ev .rem a1 (.int .u64 (.ofNat 100000000) 0)) fun v53=>
 onV (cviV .u32 v53) fun v54=>
 onV (B2.ev .quo a1 (.int .u64 (.ofNat 100000000) 0)) fun v55=>
 onV (B2.ev .quo v54 (.int .u32 (.ofNat 10000) 0)) fun v56=>
 onV (B2.ev .rem v54 (.int .u32 (.ofNat 10000) 0)) fun v57=>
 onV (B2.ev .quo v57 (.int .u32 (.ofNat 100) 0)) fun v58=>
 onV (B2.ev .mul v58 (.int .u32 (.ofNat 2) 0)) fun v59=>
 onV (B2.ev .rem v57 (.int .u32 (.ofNat 100) 0)) fun v60=>
 onV (B2.ev .mul v60 (.int .u32 (.ofNat 2) 0)) fun v61=>
 onV (B2.ev .quo v56 (.int .u32 (.ofNat 100) 0)) fun v62=>
 onV (B2.ev .mul v62 (.int .u32 (.ofNat 2) 0)) fun v63=>
 onV (B2.ev .rem v56 (.int .u32 (.ofNat 100) 0)) fun v64=>
 onV (B2.ev .mul v64 (.int .u32 (.ofNat 2) 0)) fun v65=>
 onV (B2.ev .sub a4 (.int .i64 (.ofNat 1) 0)) fun v66=>
 onV (B2.ev .sub a4 (.int .i64 (.ofNat 2) 0)) fun v67=>
 onV (B2.ev .add v61 (.int .u32 (.ofNat 1) 0)) fun v68=>
 onV (idxSV (.str 200 9938655150514779720929161263213647789093395803754561035662628441001274968862597953692946393464194303251501229616933063375291039650253924995779037586872666250072396106842829501851083234932712366962979930255066872747696324303968523733872590022915936937156789320557469720923390131174387415513794469201054844961267015441141542819553679203788501627738430154234325528792480477051962324423099068299719245009424585859096469223093538032153047611602695245052081125123941502624659711709950000) v68) fun v69=>
 onV (idxSV (.str 200 9938655150514779720929161263213647789093395803754561035662628441001274968862597953692946393464194303251501229616933063375291039650253924995779037586872666250072396106842829501851083234932712366962979930255066872747696324303968523733872590022915936937156789320557469720923390131174387415513794469201054844961267015441141542819553679203788501627738430154234325528792480477051962324423099068299719245009424585859096469223093538032153047611602695245052081125123941502624659711709950000) v61) fun v70=>
 onV (iaddrV 1 a0 v66) fun v71=>
 stV 1 v71 v69 H n fun v72 H n=>
 onV (iaddrV 1 a0 v67) fun v73=>
 stV 1 v73 v70 H n fun v74 H n=>
 onV (B2.ev .sub a4 (.int .i64 (.ofNat 3) 0)) fun v75=>
 onV (B2.ev .sub a4 (.int .i64 (.ofNat 4) 0)) fun v76=>
 onV (B2.ev .add v59 (.int .u32 (.ofNat 1) 0)) fun v77=>
 onV (idxSV (.str 200 9938655150514779720929161263213647789093395803754561035662628441001274968862597953692946393464194303251501229616933063375291039650253924995779037586872666250072396106842829501851083234932712366962979930255066872747696324303968523733872590022915936937156789320557469720923390131174387415513794469201054844961267015441141542819553679203788501627738430154234325528792480477051962324423099068299719245009424585859096469223093538032153047611602695245052081125123941502624659711709950000) v77) fun v78=>
 onV (idxSV (.str 200 9938655150514779720929161263213647789093395803754561035662628441001274968862597953692946393464194303251501229616933063375291039650253924995779037586872666250072396106842829501851083234932712366962979930255066872747696324303968523733872590022915936937156789320557469720923390131174387415513794469201054844961267015441141542819553679203788501627738430154234325528792480477051962324423099068299719245009424585859096469223093538032153047611602695245052081125123941502624659711709950000) v59) fun v79=>
 onV (iaddrV 1 a0 v75) fun v80=>
 stV 1 v80 v78 H n fun v81 H n=>
 onV (iaddrV 1 a0 v76) fun v82=>
 stV 1 v82 v79 H n fun v83 H n=>
 onV (B2.ev .sub a4 (.int .i64 (.ofNat 5) 0)) fun v84=>
 onV (B2.ev .sub a4 (.int .i64 (.ofNat 6) 0)) fun v85=>
 onV (B2.ev .add v65 (.int .u32 (.ofNat 1) 0)) fun v86=>
 onV (idxSV (.str 200 9938655150514779720929161263213647789093395803754561035662628441001274968862597953692946393464194303251501229616933063375291039650253924995779037586872666250072396106842829501851083234932712366962979930255066872747696324303968523733872590022915936937156789320557469720923390131174387415513794469201054844961267015441141542819553679203788501627738430154234325528792480477051962324423099068299719245009424585859096469223093538032153047611602695245052081125123941502624659711709950000) v86) fun v87=>
 onV (idxSV (.str 200 9938655150514779720929161263213647789093395803754561035662628441001274968862597953692946393464194303251501229616933063375291039650253924995779037586872666250072396106842829501851083234932712366962979930255066872747696324303968523733872590022915936937156789320557469720923390131174387415513794469201054844961267015441141542819553679203788501627738430154234325528792480477051962324423099068299719245009424585859096469223093538032153047611602695245052081125123941502624659711709950000) v65) fun v88=>
 onV (iaddrV 1 a0 v84) fun v89=>
 stV 1 v89 v87 H n fun v90 H n=>
 onV (iaddrV 1 a0 v85) fun v91=>
 stV 1 v91 v88 H n fun v92 H n=>
 onV (B2.ev .sub a4 (.int .i64 (.ofNat 7) 0)) fun v93=>
 onV (B2.ev .sub a4 (.int .i64 (.ofNat 8) 0)) fun v94=>
 onV (B2.ev .add v63 (.int .u32 (.ofNat 1) 0)) fun v95=>
 onV (idxSV (.str 200 9938655150514779720929161263213647789093395803754561035662628441001274968862597953692946393464194303251501229616933063375291039650253924995779037586872666250072396106842829501851083234932712366962979930255066872747696324303968523733872590022915936937156789320557469720923390131174387415513794469201054844961267015441141542819553679203788501627738430154234325528792480477051962324423099068299719245009424585859096469223093538032153047611602695245052081125123941502624659711709950000) v95) fun v96=>
 onV (idxSV (.str 200 9938655150514779720929161263213647789093395803754561035662628441001274968862597953692946393464194303251501229616933063375291039650253924995779037586872666250072396106842829501851083234932712366962979930255066872747696324303968523733872590022915936937156789320557469720923390131174387415513794469201054844961267015441141542819553679203788501627738430154234325528792480477051962324423099068299719245009424585859096469223093538032153047611602695245052081125123941502624659711709950000) v63) fun v97=>
 onV (iaddrV 1 a0 v93) fun v98=>
 stV 1 v98 v96 H n fun v99 H n=>
 onV (iaddrV 1 a0 v94) fun v100=>
 stV 1 v100 v97 H n fun v101 H n=>
 onV (B2.ev .sub a4 (.int .i64 (.ofNat 8) 0)) fun v102=>
 ih51 (a0, v55, v102, H, n)) (s_f207_j2 lp G call k a0 a1 a4 H n)
noncomputable def s_f207_l51b (lp : LpT) (G : Roms) (call : CallT) (k : KV) : ((V × V × V × Heap × Nat) → Prop) → (V × V × V × Heap × Nat) → Prop := fun ih51 s => s_f207_l51 lp G call k ih51 s.1 s.2.1 s.2.2.1 s.2.2.2.1 s.2.2.2.2
noncomputable def s_f207 (lp : LpT) (G : Roms) (call : CallT) (a0 a1 : V) (H : Heap) (n : Nat) (k : KV) : Prop :=
 onV (lenV a0) fun v1=>
 lp (V × V × V × Heap × Nat) (s_f207_l51b lp G call k) (a0, a1, v1, H, n)
noncomputable def s_f208_j5 (lp : LpT) (G : Roms) (call : CallT) (k : KV) (a0 a4 a10 a11 a12 a13 : V) (H : Heap) (n : Nat) : Prop :=
 onTst a4 true (onV (slcAV 65 1 a12 (some (.c a13)) none) fun v6=>
 appV 1 1 a0 v6 G H n fun v7 H n=>
 k (.tup [v7, a11]) H n) (onV (slcAV 65 1 a12 (some (.c a13)) none) fun v8=>
 onV (cvSV v8 G H) fun v9=>
 k (.tup [a10, v9]) H n)
noncomputable def s_f208_j4 (lp : LpT) (G : Roms) (call : CallT) (k : KV) (a0 a3 a4 a10 a11 a12 a13 : V) (H : Heap) (n : Nat) : Prop :=
 onTst a3 true (onV (B2.ev .sub a13 (.int .i64 (.ofNat 1) 0)) fun v10=>
 onV (iaddrAV 65 1 a12 v10) fun v11=>
 stV 1 v11 (.int .u8 (.ofNat 45) 0) H n fun v12 H n=>
 s_f208_j5 lp G call k a0 a4 a10 a11 a12 v10 H n) (s_f208_j5 lp G call k a0 a4 a10 a11 a12 a13 H n)
noncomputable def s_f208_j20 (lp : LpT) (G : Roms) (call : CallT) (k : KV) (a0 a1 a3 a4 a10 a11 a12 a13 : V) (H : Heap) (n : Nat) : Prop :=
 onV (B2.ev .sub a13 (.int .i64 (.ofNat 1) 0)) fun v21=>
 onV (idxSV (.str 36 237927390410950444456928663707796224754864904193074819559483181009558347043374296609072) a1) fun v22=>
 onV (iaddrAV 65 1 a12 v21) fun v23=>
 stV 1 v23 v22 H n fun v24 H n=>
 s_f208_j4 lp G call k a0 a3 a4 a10 a11 a12 v21 H n
noncomputable def s_f208_l25 (lp : LpT) (G : Roms) (call : CallT) (k : KV) (ih25 : (V × V × V × V × V × V × V × V × V × V × V × Heap × Nat) → Prop) (a0 a1 a3 a4 a10 a11 a12 a13 a14 a15 a16 : V) (H : Heap) (n : Nat) : Prop :=
 onV (B2.ev .geq a1 a15) fun v26=>
 onTst v26 true (onV (B2.ev .sub a13 (.int .i64 (.ofNat 1) 0)) fun v27=>
 onV (B2.ev .and a1 a16) fun v28=>
 onV (idxSV (.str 36 237927390410950444456928663707796224754864904193074819559483181009558347043374296609072) v28) fun v29=>
 onV (iaddrAV 65 1 a12 v27) fun v30=>
 stV 1 v30 v29 H n fun v31 H n=>
 onV (B2.ev .shr a1 a14) fun v32=>
 ih25 (a0, v32, a3, a4, a10, a11, a12, v27, a14, a15, a16, H, n)) (s_f208_j20 lp G call k a0 a1 a3 a4 a10 a11 a12 a13 H n)
noncomputable def s_f208_l25b (lp : LpT) (G : Roms) (call : CallT) (k : KV) : ((V × V × V × V × V × V × V × V × V × V × V × Heap × Nat) → Prop) → (V × V × V × V × V × V × V × V × V × V × V × Heap × Nat) → Prop := fun ih25 s => s_f208_l25 lp G call k ih25 s.1 s.2.1 s.2.2.1 s.2.2.2.1 s.2.2.2.2.1 s.2.2.2.2.2.1 s.2.2.2.2.2.2.1 s.2.2.2.2.2.2.2.1 s.2.2.2.2.2.2.2.2.1 s.2.2.2.2.2.2.2.2.2.1 s.2.2.2.2.2.2.2.2.2.2.1 s.2.2.2.2.2.2.2.2.2.2.2.1 s.2.2.2.2.2.2.2.2.2.2.2.2
noncomputable def s_f208_j34 (lp : LpT) (G : Roms) (call : CallT) (k : KV) (a0 a1 a3 a4 a10 a11 a12 a13 : V) (H : Heap) (n : Nat) : Prop :=
 onV (B2.ev .sub a13 (.int .i64 (.ofNat 1) 0)) fun v35=>
 onV (idxSV (.str 36 237927390410950444456928663707796224754864904193074819559483181009558347043374296609072) a1) fun v36=>
 onV (iaddrAV 65 1 a12 v35) fun v37=>
 stV 1 v37 v36 H n fun v38 H n=>
 s_f208_j4 lp G call k a0 a3 a4 a10 a11 a12 v35 H n
noncomputable def s_f208_l39 (lp : LpT) (G : Roms) (call : CallT) (k : KV) (ih39 : (V × V × V × V × V × V × V × V × V × Heap × Nat) → Prop) (a0 a1 a3 a4 a10 a11 a12 a13 a17 : V) (H : Heap) (n : Nat) : Prop :=
 onV (B2.ev .geq a1 a17) fun v40=>
 onTst v40 true (onV (B2.ev .sub a13 (.int .i64 (.ofNat 1) 0)) fun v41=>
 onV (B2.ev .quo a1 a17) fun v42=>
 onV (B2.ev .mul v42 a17) fun v43=>
 onV (B2.ev .sub a1 v43) fun v44=>
 onV (idxSV (.str 36 237927390410950444456928663707796224754864904193074819559483181009558347043374296609072) v44) fun v45=>
 onV (iaddrAV 65 1 a12 v41) fun v46=>
 stV 1 v46 v45 H n fun v47 H n=>
 ih39 (a0, v42, a3, a4, a10, a11, a12, v41, a17, H, n)) (s_f208_j34 lp G call k a0 a1 a3 a4 a10 a11 a12 a13 H n)
noncomputable def s_f208_l39b (lp : LpT) (G : Roms) (call : CallT) (k : KV) : ((V × V × V × V × V × V × V × V × V × Heap × Nat) → Prop) → (V × V × V × V × V × V × V × V × V × Heap × Nat) → Prop := fun ih39 s => s_f208_l39 lp G call k ih39 s.1 s.2.1 s.2.2.1 s.2.2.2.1 s.2.2.2.2.1 s.2.2.2.2.2.1 s.2.2.2.2.2.2.1 s.2.2.2.2.2.2.2.1 s.2.2.2.2.2.2.2.2.1 s.2.2.2.2.2.2.2.2.2.1 s.2.2.2.2.2.2.2.2.2.2
noncomputable def s_f208_j3 (lp : LpT) (G : Roms) (call : CallT) (k : KV) (a0 a1 a2 a3 a4 a10 a11 a12 a13 : V) (H : Heap) (n : Nat) : Prop :=
 call 237 [a2] H n fun v13 H n=>
 onTst v13 true (onV (cviV .u64 a2) fun v14=>
 call 238 [v14] H n fun v15 H n=>
 onV (cviV .u64 v15) fun v16=>
 onV (cviV .u64 a2) fun v17=>
 onV (cviV .u64 a2) fun v18=>
 onV (B2.ev .sub v18 (.int .u64 (.ofNat 1) 0)) fun v19=>
 lp (V × V × V × V × V × V × V × V × V × V × V × Heap × Nat) (s_f208_l25b lp G call k) (a0, a1, a3, a4, a10, a11, a12, a13, v16, v17, v19, H, n)) (onV (cviV .u64 a2) fun v33=>
 lp (V × V × V × V × V × V × V × V × V × Heap × Nat) (s_f208_l39b lp G call k) (a0, a1, a3, a4, a10, a11, a12, a13, v33, H, n))
noncomputable def s_f208_j1 (lp : LpT) (G : Roms) (call : CallT) (k : KV) (a0 a1 a2 a3 a4 a10 a11 : V) (H : Heap) (n : Nat) : Prop :=
 onA (aAlloc 1 [[(.int .u8 (.ofNat 0) 0)], [(.int .u8 (.ofNat 0) 0)], [(.int .u8 (.ofNat 0) 0)], [(.int .u8 (.ofNat 0) 0)], [(.int .u8 (.ofNat 0) 0)], [(.int .u8 (.ofNat 0) 0)], [(.int .u8 (.ofNat 0) 0)], [(.int .u8 (.ofNat 0) 0)], [(.int .u8 (.ofNat 0) 0)], [(.int .u8 (.ofNat 0) 0)], [(.int .u8 (.ofNat 0) 0)], [(.int .u8 (.ofNat 0) 0)], [(.int .u8 (.ofNat 0) 0)], [(.int .u8 (.ofNat 0) 0)], [(.int .u8 (.ofNat 0) 0)], [(.int .u8 (.ofNat 0) 0)], [(.int .u8 (.ofNat 0) 0)], [(.int .u8 (.ofNat 0) 0)], [(.int .u8 (.ofNat 0) 0)], [(.int .u8 (.ofNat 0) 0)], [(.int .u8 (.ofNat 0) 0)], [(.int .u8 (.ofNat 0) 0)], [(.int .u8 (.ofNat 0) 0)], [(.int .u8 (.ofNat 0) 0)], [(.int .u8 (.ofNat 0) 0)], [(.int .u8 (.ofNat 0) 0)], [(.int .u8 (.ofNat 0) 0)], [(.int .u8 (.ofNat 0) 0)], [(.int .u8 (.ofNat 0) 0)], [(.int .u8 (.ofNat 0) 0)], [(.int .u8 (.ofNat 0) 0)], [(.int .u8 (.ofNat 0) 0)], [(.int .u8 (.ofNat 0) 0)], [(.int .u8 (.ofNat 0) 0)], [(.int .u8 (.ofNat 0) 0)], [(.int .u8 (.ofNat 0) 0)], [(.int .u8 (.ofNat 0) 0)], [(.int .u8 (.ofNat 0) 0)], [(.int .u8 (.ofNat 0) 0)], [(.int .u8 (.ofNat 0) 0)], [(.int .u8 (.ofNat 0) 0)], [(.int .u8 (.ofNat 0) 0)], [(.int .u8 (.ofNat 0) 0)], [(.int .u8 (.ofNat 0) 0)], [(.int .u8 (.ofNat 0) 0)], [(.int .u8 (.ofNat 0) 0)], [(.int .u8 (.ofNat 0) 0)], [(.int .u8 (.ofNat 0) 0)], [(.int .u8 (.ofNat 0) 0)], [(.int .u8 (.ofNat 0) 0)], [(.int .u8 (.ofNat 0) 0)], [(.int .u8 (.ofNat 0) 0)], [(.int .u8 (.ofNat 0) 0)], [(.int .u8 (.ofNat 0) 0)], [(.int .u8 (.ofNat 0) 0)], [(.int .u8 (.ofNat 0) 0)], [(.int .u8 (.ofNat 0) 0)], [(.int .u8 (.ofNat 0) 0)], [(.int .u8 (.ofNat 0) 0)], [(.int .u8 (.ofNat 0) 0)], [(.int .u8 (.ofNat 0) 0)], [(.int .u8 (.ofNat 0) 0)], [(.int .u8 (.ofNat 0) 0)], [(.int .u8 (.ofNat 0) 0)], [(.int .u8 (.ofNat 0) 0)]] E0) H n fun v2 H n=>
 onTst a3 true (onV (negV a1) fun v48=>
 s_f208_j3 lp G call k a0 v48 a2 a3 a4 a10 a11 v2 (.int .i64 (.ofNat 65) 0) H n) (s_f208_j3 lp G call k a0 a1 a2 a3 a4 a10 a11 v2 (.int .i64 (.ofNat 65) 0) H n)
noncomputable def s_f208 (lp : LpT) (G : Roms) (call : CallT) (a0 a1 a2 a3 a4 : V) (H : Heap) (n : Nat) (k : KV) : Prop :=
 onV (B2.ev .lss a2 (.int .i64 (.ofNat 2) 0)) fun v49=>
 onG v49 false (some a2) fun v50=>
 onG v49 false (eqV (.one .int) false v50 (.int .i64 (.ofNat 10) 0)) fun v51=>
 onV (pickV v49 (.bool true) v51) fun v52=>
 onG v52 false (some a2) fun v53=>
 onG v52 false (B2.ev .gtr v53 (.int .i64 (.ofNat 36) 0)) fun v54=>
 onV (pickV v52 (.bool true) v54) fun v55=>
 onTst v55 true (onV (nilckV .undef) fun v56=>
 onV (nilckV .undef) fun v57=>
 s_f208_j1 lp G call k a0 a1 a2 a3 a4 .nils (.str 0 0) H n) (s_f208_j1 lp G call k a0 a1 a2 a3 a4 .nils (.str 0 0) H n)
noncomputable def s_f210 (lp : LpT) (G : Roms) (call : CallT) (a0 : V) (H : Heap) (n : Nat) (k : KV) : Prop :=
 onV (ld1V a0 G H) fun v1=>
 onV (nilckV v1) fun v2=>
 onV (paddV 1 v2) fun v3=>
 onV (ld1V v3 G H) fun v4=>
 onV (B2.ev .sub v4 (.int .i64 (.ofNat 1) 0)) fun v5=>
 onV (nilckV v1) fun v6=>
 onV (paddV 1 v6) fun v7=>
 stV 1 v7 v5 H n fun v8 H n=>
 k (.tup []) H n
noncomputable def s_f211 (lp : LpT) (G : Roms) (call : CallT) (a0 : V) (H : Heap) (n : Nat) (k : KV) : Prop :=
 onA (aBoxV a0) H n fun v1 H n=>
 onA (aAlloc 11 [[(.int .i64 (.ofNat 0) 0), (.int .i64 (.ofNat 0) 0), (.int .i64 (.ofNat 0) 0), (.int .i64 (.ofNat 0) 0), (.str 0 0), (.str 0 0), (.bool false), .nils, (.str 0 0), (.bool false), (.str 0 0)]] E0) H n fun v2 H n=>
 onV (ld1V v1 G H) fun v3=>
 call 183 [v3] H n fun v4 H n=>
 deferV .undef v4 [] H n fun v5 H n=>
 onV (ld1V v1 G H) fun v6=>
 call 239 [v6, (.int .i64 (.ofNat 18) 0), (.str 2 31868), (.fn 240 [] [v1])] H n fun v7 H n=>
 stV 11 v2 v7 H n fun v8 H n=>
 exDef 210 (tupL v5) call H n fun H n => onO (getVs [.cn v2 11] G H) fun l => k (oneV l) H n
noncomputable def s_f212_j22 (lp : LpT) (G : Roms) (call : CallT) (k : KV) (a2 a3 a37 : V) (H : Heap) (n : Nat) : Prop :=
 onV (ldnV 9 a3 G H) fun v23=>
 stV 9 a2 v23 H n fun v24 H n=>
 exDef 210 (tupL a37) call H n fun H n => onO (getVs [.cn a2 9] G H) fun l => k (oneV l) H n
noncomputable def s_f212 (lp : LpT) (G : Roms) (call : CallT) (a0 : V) (H : Heap) (n : Nat) (k : KV) : Prop :=
 onA (aAlloc 9 [[(.int .i64 (.ofNat 0) 0), (.int .i64 (.ofNat 0) 0), (.int .i64 (.ofNat 0) 0), (.str 0 0), (.str 0 0), (.bool false), .nils, .nils, .nils]] E0) H n fun v1 H n=>
 call 183 [a0] H n fun v2 H n=>
 deferV .undef v2 [] H n fun v3 H n=>
 onV (nilckV a0) fun v4=>
 onV (paddV 0 v4) fun v5=>
 onV (ld1V v5 G H) fun v6=>
 onV (iaddrV 5 v6 (.int .i64 (.ofNat 0) 0)) fun v7=>
 onV (paddV 3 v7) fun v8=>
 onV (ldnV 2 v8 G H) fun v9=>
 onV (buildV [(.int .i64 (.ofNat 0) 0), (.int .i64 (.ofNat 0) 0), (.int .i64 (.ofNat 0) 0), (.str 0 0), (.str 0 0), (.bool false), .nils, .nils, .nils] [(0, 1, .c (.int .i64 (.ofNat 4) 0)), (1, 2, .c v9)]) fun v10=>
 onA (aAlloc 9 [[(.int .i64 (.ofNat 0) 0), (.int .i64 (.ofNat 0) 0), (.int .i64 (.ofNat 0) 0), (.str 0 0), (.str 0 0), (.bool false), .nils, .nils, .nils]] E0) H n fun v11 H n=>
 stV 9 v11 v10 H n fun v12 H n=>
 onA (aBslice 1 1 [(.str 0 0)] [(0, .c (.str 2 26217))] E0) H n fun v13 H n=>
 call 82 [a0, v13] H n fun v14 H n=>
 call 211 [a0] H n fun v15 H n=>
 onA (aBslice 11 1 [(.int .i64 (.ofNat 0) 0), (.int .i64 (.ofNat 0) 0), (.int .i64 (.ofNat 0) 0), (.int .i64 (.ofNat 0) 0), (.str 0 0), (.str 0 0), (.bool false), .nils, (.str 0 0), (.bool false), (.str 0 0)] [(0, .c v15)] E0) H n fun v16 H n=>
 onV (paddV 6 v11) fun v17=>
 stV 1 v17 v16 H n fun v18 H n=>
 call 142 [a0] H n fun v19 H n=>
 onV (paddV 7 v11) fun v20=>
 stV 1 v20 v19 H n fun v21 H n=>
 call 84 [a0, (.str 4 1702063205)] H n fun v25 H n=>
 onTst v25 true (onA (aBslice 1 1 [(.str 0 0)] [(0, .c (.str 2 26217))] E0) H n fun v26 H n=>
 call 87 [a0, v26] H n fun v27 H n=>
 onTst v27 true (call 212 [a0] H n fun v28 H n=>
 onA (aBslice 9 1 [(.int .i64 (.ofNat 0) 0), (.int .i64 (.ofNat 0) 0), (.int .i64 (.ofNat 0) 0), (.str 0 0), (.str 0 0), (.bool false), .nils, .nils, .nils] [(0, .c v28)] E0) H n fun v29 H n=>
 onV (paddV 8 v11) fun v30=>
 stV 1 v30 v29 H n fun v31 H n=>
 s_f212_j22 lp G call k v1 v11 v3 H n) (call 142 [a0] H n fun v32 H n=>
 onV (paddV 8 v11) fun v33=>
 stV 1 v33 v32 H n fun v34 H n=>
 s_f212_j22 lp G call k v1 v11 v3 H n)) (s_f212_j22 lp G call k v1 v11 v3 H n)
noncomputable def s_f213_j15 (lp : LpT) (G : Roms) (call : CallT) (k : KV) (H : Heap) (n : Nat) : Prop :=
 k (.tup []) H n
noncomputable def s_f213_j24 (lp : LpT) (G : Roms) (call : CallT) (k : KV) (a0 a1 : V) (H : Heap) (n : Nat) : Prop :=
 onA (aBslice 1 1 [(.str 0 0)] [(0, .c (.str 1 61))] E0) H n fun v25 H n=>
 call 82 [a0, v25] H n fun v26 H n=>
 onV (nilckV a1) fun v27=>
 onV (paddV 6 v27) fun v28=>
 onV (ld1V v28 G H) fun v29=>
 call 211 [a0] H n fun v30 H n=>
 onV (ld1V v28 G H) fun v=>onB (vsame v v29) <|
 onA (aBslice 11 1 [(.int .i64 (.ofNat 0) 0), (.int .i64 (.ofNat 0) 0), (.int .i64 (.ofNat 0) 0), (.int .i64 (.ofNat 0) 0), (.str 0 0), (.str 0 0), (.bool false), .nils, (.str 0 0), (.bool false), (.str 0 0)] [(0, .c v30)] E0) H n fun v31 H n=>
 appV 11 136 v29 v31 G H n fun v32 H n=>
 onV (nilckV a1) fun v33=>
 onV (paddV 0 v33) fun v34=>
 stV 1 v34 (.int .i64 (.ofNat 2) 0) H n fun v35 H n=>
 onV (nilckV a1) fun v36=>
 onV (paddV 6 v36) fun v37=>
 stV 1 v37 v32 H n fun v38 H n=>
 k (.tup []) H n
noncomputable def s_f213 (lp : LpT) (G : Roms) (call : CallT) (a0 a1 : V) (H : Heap) (n : Nat) (k : KV) : Prop :=
 call 211 [a0] H n fun v1 H n=>
 onA (aAlloc 11 [[(.int .i64 (.ofNat 0) 0), (.int .i64 (.ofNat 0) 0), (.int .i64 (.ofNat 0) 0), (.int .i64 (.ofNat 0) 0), (.str 0 0), (.str 0 0), (.bool false), .nils, (.str 0 0), (.bool false), (.str 0 0)]] E0) H n fun v2 H n=>
 stV 11 v2 v1 H n fun v3 H n=>
 onV (ldnV 11 v2 G H) fun v4=>
 onA (aBslice 11 1 [(.int .i64 (.ofNat 0) 0), (.int .i64 (.ofNat 0) 0), (.int .i64 (.ofNat 0) 0), (.int .i64 (.ofNat 0) 0), (.str 0 0), (.str 0 0), (.bool false), .nils, (.str 0 0), (.bool false), (.str 0 0)] [(0, .c v4)] E0) H n fun v5 H n=>
 onV (nilckV a1) fun v6=>
 onV (paddV 0 v6) fun v7=>
 stV 1 v7 (.int .i64 (.ofNat 3) 0) H n fun v8 H n=>
 onV (ldnV 11 v2 G H) fun v=>onB (vsame v v4) <|
 onV (nilckV a1) fun v9=>
 onV (paddV 6 v9) fun v10=>
 stV 1 v10 v5 H n fun v11 H n=>
 onA (aBslice 1 1 [(.str 0 0)] [(0, .c (.str 1 61))] E0) H n fun v12 H n=>
 call 87 [a0, v12] H n fun v13 H n=>
 onV (notV v13) fun v14=>
 onTst v14 true (onV (paddV 0 v2) fun v16=>
 onV (ld1V v16 G H) fun v17=>
 onV (eqV (.one .int) true v17 (.int .i64 (.ofNat 8) 0)) fun v18=>
 onG v18 true (paddV 0 v2) fun v19=>
 onG v18 true (ld1V v19 G H) fun v20=>
 onG v18 true (eqV (.one .int) true v20 (.int .i64 (.ofNat 9) 0)) fun v21=>
 onV (pickV v18 v21 (.bool false)) fun v22=>
 onTst v22 true (call 89 [a0, (.int .i64 (.ofNat 21) 0)] H n fun v23 H n=>
 s_f213_j15 lp G call k H n) (s_f213_j15 lp G call k H n)) (onV (paddV 0 v2) fun v39=>
 onV (ld1V v39 G H) fun v40=>
 onV (eqV (.one .int) true v40 (.int .i64 (.ofNat 6) 0)) fun v41=>
 onG v41 true (paddV 0 v2) fun v42=>
 onG v41 true (ld1V v42 G H) fun v43=>
 onG v41 true (eqV (.one .int) true v43 (.int .i64 (.ofNat 7) 0)) fun v44=>
 onV (pickV v41 v44 (.bool false)) fun v45=>
 onG v45 true (paddV 0 v2) fun v46=>
 onG v45 true (ld1V v46 G H) fun v47=>
 onG v45 true (eqV (.one .int) true v47 (.int .i64 (.ofNat 12) 0)) fun v48=>
 onV (pickV v45 v48 (.bool false)) fun v49=>
 onTst v49 true (call 89 [a0, (.int .i64 (.ofNat 21) 0)] H n fun v50 H n=>
 s_f213_j24 lp G call k a0 a1 H n) (s_f213_j24 lp G call k a0 a1 H n))
noncomputable def s_f214_j4 (lp : LpT) (G : Roms) (call : CallT) (k : KV) (ih2 : (V × V × V × V × V × Heap × Nat) → Prop) (a0 a1 a2 a3 a8 : V) (H : Heap) (n : Nat) : Prop :=
 onV (B2.ev .add a8 (.int .i64 (.ofNat 1) 0)) fun v5=>
 ih2 (a0, a1, a2, a3, v5, H, n)
noncomputable def s_f214_l6 (lp : LpT) (G : Roms) (call : CallT) (k : KV) (ih2 : (V × V × V × V × V × Heap × Nat) → Prop) (ih6 : (V × V × V × V × V × V × Heap × Nat) → Prop) (a0 a1 a2 a3 a8 a9 : V) (H : Heap) (n : Nat) : Prop :=
 onV (B2.ev .gtr a9 a1) fun v7=>
 onG v7 true (some a3) fun v8=>
 onG v7 true (some a0) fun v9=>
 onG v7 true (some a9) fun v10=>
 onG v7 true (iaddrV 3 v9 v10) fun v11=>
 onG v7 true (ldnV 3 v11 G H) fun v12=>
 onG v7 true (some a0) fun v13=>
 onG v7 true (some a9) fun v14=>
 onG v7 true (B2.ev .sub v14 (.int .i64 (.ofNat 1) 0)) fun v15=>
 onG v7 true (iaddrV 3 v13 v15) fun v16=>
 onG v7 true (ldnV 3 v16 G H) fun v17=>
 onGT v7 true (callvV v8 [v12, v17] call H n) H n fun v18 H n=>
 onG v7 true (B2.ev .lss v18 (.int .i64 (.ofNat 0) 0)) fun v19=>
 onV (pickV v7 v19 (.bool false)) fun v20=>
 onTst v20 true (onV (B2.ev .sub a9 (.int .i64 (.ofNat 1) 0)) fun v21=>
 onV (B2.ev .sub a9 (.int .i64 (.ofNat 1) 0)) fun v22=>
 onV (iaddrV 3 a0 v22) fun v23=>
 onV (ldnV 3 v23 G H) fun v24=>
 onV (iaddrV 3 a0 a9) fun v25=>
 onV (ldnV 3 v25 G H) fun v26=>
 onV (iaddrV 3 a0 a9) fun v27=>
 stV 3 v27 v24 H n fun v28 H n=>
 onV (iaddrV 3 a0 v21) fun v29=>
 stV 3 v29 v26 H n fun v30 H n=>
 onV (B2.ev .sub a9 (.int .i64 (.ofNat 1) 0)) fun v31=>
 ih6 (a0, a1, a2, a3, a8, v31, H, n)) (s_f214_j4 lp G call k ih2 a0 a1 a2 a3 a8 H n)
noncomputable def s_f214_l6b (lp : LpT) (G : Roms) (call : CallT) (k : KV) (ih2 : (V × V × V × V × V × Heap × Nat) → Prop) : ((V × V × V × V × V × V × Heap × Nat) → Prop) → (V × V × V × V × V × V × Heap × Nat) → Prop := fun ih6 s => s_f214_l6 lp G call k ih2 ih6 s.1 s.2.1 s.2.2.1 s.2.2.2.1 s.2.2.2.2.1 s.2.2.2.2.2.1 s.2.2.2.2.2.2.1 s.2.2.2.2.2.2.2
noncomputable def s_f214_l2 (lp : LpT) (G : Roms) (call : CallT) (k : KV) (ih2 : (V × V × V × V × V × Heap × Nat) → Prop) (a0 a1 a2 a3 a8 : V) (H : Heap) (n : Nat) : Prop :=
 onV (B2.ev .lss a8 a2) fun v3=>
 onTst v3 true (lp (V × V × V × V × V × V × Heap × Nat) (s_f214_l6b lp G call k ih2) (a0, a1, a2, a3, a8, a8, H, n)) (k (.tup []) H n)
noncomputable def s_f214_l2b (lp : LpT) (G : Roms) (call : CallT) (k : KV) : ((V × V × V × V × V × Heap × Nat) → Prop) → (V × V × V × V × V × Heap × Nat) → Prop := fun ih2 s => s_f214_l2 lp G call k ih2 s.1 s.2.1 s.2.2.1 s.2.2.2.1 s.2.2.2.2.1 s.2.2.2.2.2.1 s.2.2.2.2.2.2
noncomputable def s_f214 (lp : LpT) (G : Roms) (call : CallT) (a0 a1 a2 a3 : V) (H : Heap) (n : Nat) (k : KV) : Prop :=
 onV (B2.ev .add a1 (.int .i64 (.ofNat 1) 0)) fun v1=>
 lp (V × V × V × V × V × Heap × Nat) (s_f214_l2b lp G call k) (a0, a1, a2, a3, v1, H, n)
noncomputable def s_f215_j13 (lp : LpT) (G : Roms) (call : CallT) (k : KV) (a0 a3 a4 a18 a24 : V) (H : Heap) (n : Nat) : Prop :=
 onV (B2.ev .lss a18 a24) fun v14=>
 onG v14 true (some a24) fun v15=>
 onG v14 true (some a3) fun v16=>
 onG v14 true (B2.ev .lss v15 v16) fun v17=>
 onV (pickV v14 v17 (.bool false)) fun v18=>
 onTst v18 true (call 215 [a0, a18, a24, a3, a4] H n fun v19 H n=>
 k (.tup []) H n) (k (.tup []) H n)
noncomputable def s_f215_j12 (lp : LpT) (G : Roms) (call : CallT) (k : KV) (a0 a1 a3 a4 a18 a20 a24 : V) (H : Heap) (n : Nat) : Prop :=
 onV (B2.ev .lss a1 a20) fun v20=>
 onG v20 true (some a20) fun v21=>
 onG v20 true (some a18) fun v22=>
 onG v20 true (B2.ev .lss v21 v22) fun v23=>
 onV (pickV v20 v23 (.bool false)) fun v24=>
 onTst v24 true (call 215 [a0, a1, a20, a18, a4] H n fun v25 H n=>
 s_f215_j13 lp G call k a0 a3 a4 a18 a24 H n) (s_f215_j13 lp G call k a0 a3 a4 a18 a24 H n)
noncomputable def s_f215_j10 (lp : LpT) (G : Roms) (call : CallT) (k : KV) (a0 a1 a2 a3 a4 a18 a19 a20 : V) (H : Heap) (n : Nat) : Prop :=
 onV (B2.ev .sub a19 a20) fun v11=>
 onV (B2.ev .lss a20 a2) fun v26=>
 onG v26 true (some a2) fun v27=>
 onG v26 true (some v11) fun v28=>
 onG v26 true (B2.ev .lss v27 v28) fun v29=>
 onV (pickV v26 v29 (.bool false)) fun v30=>
 onTst v30 true (call 242 [a0, a20, a2, v11, a4] H n fun v31 H n=>
 s_f215_j12 lp G call k a0 a1 a3 a4 a18 a20 v11 H n) (s_f215_j12 lp G call k a0 a1 a3 a4 a18 a20 v11 H n)
noncomputable def s_f215_l32 (lp : LpT) (G : Roms) (call : CallT) (k : KV) (ih32 : (V × V × V × V × V × V × V × V × V × V × Heap × Nat) → Prop) (a0 a1 a2 a3 a4 a18 a19 a20 a21 a22 : V) (H : Heap) (n : Nat) : Prop :=
 onV (B2.ev .lss a20 a21) fun v33=>
 onTst v33 true (onV (B2.ev .add a20 a21) fun v34=>
 onV (cviV .u64 v34) fun v35=>
 onV (B2.ev .shr v35 (.int .u64 (.ofNat 1) 0)) fun v36=>
 onV (cviV .i64 v36) fun v37=>
 onV (B2.ev .sub a22 v37) fun v38=>
 onV (iaddrV 3 a0 v38) fun v39=>
 onV (ldnV 3 v39 G H) fun v40=>
 onV (iaddrV 3 a0 v37) fun v41=>
 onV (ldnV 3 v41 G H) fun v42=>
 callvV a4 [v40, v42] call H n fun v43 H n=>
 onV (B2.ev .lss v43 (.int .i64 (.ofNat 0) 0)) fun v44=>
 onV (notV v44) fun v45=>
 onTst v45 true (onV (B2.ev .add v37 (.int .i64 (.ofNat 1) 0)) fun v46=>
 ih32 (a0, a1, a2, a3, a4, a18, a19, v46, a21, a22, H, n)) (ih32 (a0, a1, a2, a3, a4, a18, a19, a20, v37, a22, H, n))) (s_f215_j10 lp G call k a0 a1 a2 a3 a4 a18 a19 a20 H n)
noncomputable def s_f215_l32b (lp : LpT) (G : Roms) (call : CallT) (k : KV) : ((V × V × V × V × V × V × V × V × V × V × Heap × Nat) → Prop) → (V × V × V × V × V × V × V × V × V × V × Heap × Nat) → Prop := fun ih32 s => s_f215_l32 lp G call k ih32 s.1 s.2.1 s.2.2.1 s.2.2.2.1 s.2.2.2.2.1 s.2.2.2.2.2.1 s.2.2.2.2.2.2.1 s.2.2.2.2.2.2.2.1 s.2.2.2.2.2.2.2.2.1 s.2.2.2.2.2.2.2.2.2.1 s.2.2.2.2.2.2.2.2.2.2.1 s.2.2.2.2.2.2.2.2.2.2.2
noncomputable def s_f215_j8 (lp : LpT) (G : Roms) (call : CallT) (k : KV) (a0 a1 a2 a3 a4 a18 a19 a20 a21 : V) (H : Heap) (n : Nat) : Prop :=
 onV (B2.ev .sub a19 (.int .i64 (.ofNat 1) 0)) fun v9=>
 lp (V × V × V × V × V × V × V × V × V × V × Heap × Nat) (s_f215_l32b lp G call k) (a0, a1, a2, a3, a4, a18, a19, a20, a21, v9, H, n)
noncomputable def s_f215_j2 (lp : LpT) (G : Roms) (call : CallT) (k : KV) (a0 a1 a2 a3 a4 : V) (H : Heap) (n : Nat) : Prop :=
 onV (B2.ev .add a1 a3) fun v3=>
 onV (cviV .u64 v3) fun v4=>
 onV (B2.ev .shr v4 (.int .u64 (.ofNat 1) 0)) fun v5=>
 onV (cviV .i64 v5) fun v6=>
 onV (B2.ev .add v6 a2) fun v7=>
 onV (B2.ev .gtr a2 v6) fun v47=>
 onTst v47 true (onV (B2.ev .sub v7 a3) fun v48=>
 s_f215_j8 lp G call k a0 a1 a2 a3 a4 v6 v7 v48 v6 H n) (s_f215_j8 lp G call k a0 a1 a2 a3 a4 v6 v7 a1 a2 H n)
noncomputable def s_f215_l52 (lp : LpT) (G : Roms) (call : CallT) (k : KV) (ih52 : (V × V × V × Heap × Nat) → Prop) (a0 a14 a17 : V) (H : Heap) (n : Nat) : Prop :=
 onV (B2.ev .gtr a17 a14) fun v53=>
 onTst v53 true (onV (B2.ev .sub a17 (.int .i64 (.ofNat 1) 0)) fun v54=>
 onV (B2.ev .sub a17 (.int .i64 (.ofNat 1) 0)) fun v55=>
 onV (iaddrV 3 a0 v55) fun v56=>
 onV (ldnV 3 v56 G H) fun v57=>
 onV (iaddrV 3 a0 a17) fun v58=>
 onV (ldnV 3 v58 G H) fun v59=>
 onV (iaddrV 3 a0 a17) fun v60=>
 stV 3 v60 v57 H n fun v61 H n=>
 onV (iaddrV 3 a0 v54) fun v62=>
 stV 3 v62 v59 H n fun v63 H n=>
 onV (B2.ev .sub a17 (.int .i64 (.ofNat 1) 0)) fun v64=>
 ih52 (a0, a14, v64, H, n)) (k (.tup []) H n)
noncomputable def s_f215_l52b (lp : LpT) (G : Roms) (call : CallT) (k : KV) : ((V × V × V × Heap × Nat) → Prop) → (V × V × V × Heap × Nat) → Prop := fun ih52 s => s_f215_l52 lp G call k ih52 s.1 s.2.1 s.2.2.1 s.2.2.2.1 s.2.2.2.2
noncomputable def s_f215_j51 (lp : LpT) (G : Roms) (call : CallT) (k : KV) (a0 a2 a14 : V) (H : Heap) (n : Nat) : Prop :=
 lp (V × V × V × Heap × Nat) (s_f215_l52b lp G call k) (a0, a14, a2, H, n)
noncomputable def s_f215_l65 (lp : LpT) (G : Roms) (call : CallT) (k : KV) (ih65 : (V × V × V × V × V × Heap × Nat) → Prop) (a0 a2 a4 a14 a15 : V) (H : Heap) (n : Nat) : Prop :=
 onV (B2.ev .lss a14 a15) fun v66=>
 onTst v66 true (onV (B2.ev .add a14 a15) fun v67=>
 onV (cviV .u64 v67) fun v68=>
 onV (B2.ev .shr v68 (.int .u64 (.ofNat 1) 0)) fun v69=>
 onV (cviV .i64 v69) fun v70=>
 onV (iaddrV 3 a0 a2) fun v71=>
 onV (ldnV 3 v71 G H) fun v72=>
 onV (iaddrV 3 a0 v70) fun v73=>
 onV (ldnV 3 v73 G H) fun v74=>
 callvV a4 [v72, v74] call H n fun v75 H n=>
 onV (B2.ev .lss v75 (.int .i64 (.ofNat 0) 0)) fun v76=>
 onV (notV v76) fun v77=>
 onTst v77 true (onV (B2.ev .add v70 (.int .i64 (.ofNat 1) 0)) fun v78=>
 ih65 (a0, a2, a4, v78, a15, H, n)) (ih65 (a0, a2, a4, a14, v70, H, n))) (s_f215_j51 lp G call k a0 a2 a14 H n)
noncomputable def s_f215_l65b (lp : LpT) (G : Roms) (call : CallT) (k : KV) : ((V × V × V × V × V × Heap × Nat) → Prop) → (V × V × V × V × V × Heap × Nat) → Prop := fun ih65 s => s_f215_l65 lp G call k ih65 s.1 s.2.1 s.2.2.1 s.2.2.2.1 s.2.2.2.2.1 s.2.2.2.2.2.1 s.2.2.2.2.2.2
noncomputable def s_f215_j1 (lp : LpT) (G : Roms) (call : CallT) (k : KV) (a0 a1 a2 a3 a4 : V) (H : Heap) (n : Nat) : Prop :=
 onV (B2.ev .sub a3 a2) fun v49=>
 onV (eqV (.one .int) false v49 (.int .i64 (.ofNat 1) 0)) fun v50=>
 onTst v50 true (lp (V × V × V × V × V × Heap × Nat) (s_f215_l65b lp G call k) (a0, a2, a4, a1, a2, H, n)) (s_f215_j2 lp G call k a0 a1 a2 a3 a4 H n)
noncomputable def s_f215_l82 (lp : LpT) (G : Roms) (call : CallT) (k : KV) (ih82 : (V × V × V × Heap × Nat) → Prop) (a0 a10 a13 : V) (H : Heap) (n : Nat) : Prop :=
 onV (B2.ev .sub a10 (.int .i64 (.ofNat 1) 0)) fun v83=>
 onV (B2.ev .lss a13 v83) fun v84=>
 onTst v84 true (onV (B2.ev .add a13 (.int .i64 (.ofNat 1) 0)) fun v85=>
 onV (B2.ev .add a13 (.int .i64 (.ofNat 1) 0)) fun v86=>
 onV (iaddrV 3 a0 v86) fun v87=>
 onV (ldnV 3 v87 G H) fun v88=>
 onV (iaddrV 3 a0 a13) fun v89=>
 onV (ldnV 3 v89 G H) fun v90=>
 onV (iaddrV 3 a0 a13) fun v91=>
 stV 3 v91 v88 H n fun v92 H n=>
 onV (iaddrV 3 a0 v85) fun v93=>
 stV 3 v93 v90 H n fun v94 H n=>
 onV (B2.ev .add a13 (.int .i64 (.ofNat 1) 0)) fun v95=>
 ih82 (a0, a10, v95, H, n)) (k (.tup []) H n)
noncomputable def s_f215_l82b (lp : LpT) (G : Roms) (call : CallT) (k : KV) : ((V × V × V × Heap × Nat) → Prop) → (V × V × V × Heap × Nat) → Prop := fun ih82 s => s_f215_l82 lp G call k ih82 s.1 s.2.1 s.2.2.1 s.2.2.2.1 s.2.2.2.2
noncomputable def s_f215_j81 (lp : LpT) (G : Roms) (call : CallT) (k : KV) (a0 a1 a10 : V) (H : Heap) (n : Nat) : Prop :=
 lp (V × V × V × Heap × Nat) (s_f215_l82b lp G call k) (a0, a10, a1, H, n)
noncomputable def s_f215_l96 (lp : LpT) (G : Roms) (call : CallT) (k : KV) (ih96 : (V × V × V × V × V × Heap × Nat) → Prop) (a0 a1 a4 a10 a11 : V) (H : Heap) (n : Nat) : Prop :=
 onV (B2.ev .lss a10 a11) fun v97=>
 onTst v97 true (onV (B2.ev .add a10 a11) fun v98=>
 onV (cviV .u64 v98) fun v99=>
 onV (B2.ev .shr v99 (.int .u64 (.ofNat 1) 0)) fun v100=>
 onV (cviV .i64 v100) fun v101=>
 onV (iaddrV 3 a0 v101) fun v102=>
 onV (ldnV 3 v102 G H) fun v103=>
 onV (iaddrV 3 a0 a1) fun v104=>
 onV (ldnV 3 v104 G H) fun v105=>
 callvV a4 [v103, v105] call H n fun v106 H n=>
 onV (B2.ev .lss v106 (.int .i64 (.ofNat 0) 0)) fun v107=>
 onTst v107 true (onV (B2.ev .add v101 (.int .i64 (.ofNat 1) 0)) fun v108=>
 ih96 (a0, a1, a4, v108, a11, H, n)) (ih96 (a0, a1, a4, a10, v101, H, n))) (s_f215_j81 lp G call k a0 a1 a10 H n)
noncomputable def s_f215_l96b (lp : LpT) (G : Roms) (call : CallT) (k : KV) : ((V × V × V × V × V × Heap × Nat) → Prop) → (V × V × V × V × V × Heap × Nat) → Prop := fun ih96 s => s_f215_l96 lp G call k ih96 s.1 s.2.1 s.2.2.1 s.2.2.2.1 s.2.2.2.2.1 s.2.2.2.2.2.1 s.2.2.2.2.2.2
noncomputable def s_f215 (lp : LpT) (G : Roms) (call : CallT) (a0 a1 a2 a3 a4 : V) (H : Heap) (n : Nat) (k : KV) : Prop :=
 onV (B2.ev .sub a2 a1) fun v79=>
 onV (eqV (.one .int) false v79 (.int .i64 (.ofNat 1) 0)) fun v80=>
 onTst v80 true (lp (V × V × V × V × V × Heap × Nat) (s_f215_l96b lp G call k) (a0, a1, a4, a2, a3, H, n)) (s_f215_j1 lp G call k a0 a1 a2 a3 a4 H n)
noncomputable def s_f216_j4 (lp : LpT) (G : Roms) (call : CallT) (k : KV) (ih2 : (V × V × V × V × V × Heap × Nat) → Prop) (a0 a1 a2 a3 a8 : V) (H : Heap) (n : Nat) : Prop :=
 onV (B2.ev .add a8 (.int .i64 (.ofNat 1) 0)) fun v5=>
 ih2 (a0, a1, a2, a3, v5, H, n)
noncomputable def s_f216_l6 (lp : LpT) (G : Roms) (call : CallT) (k : KV) (ih2 : (V × V × V × V × V × Heap × Nat) → Prop) (ih6 : (V × V × V × V × V × V × Heap × Nat) → Prop) (a0 a1 a2 a3 a8 a9 : V) (H : Heap) (n : Nat) : Prop :=
 onV (B2.ev .gtr a9 a1) fun v7=>
 onG v7 true (some a3) fun v8=>
 onG v7 true (some a0) fun v9=>
 onG v7 true (some a9) fun v10=>
 onG v7 true (iaddrV 5 v9 v10) fun v11=>
 onG v7 true (ldnV 5 v11 G H) fun v12=>
 onG v7 true (some a0) fun v13=>
 onG v7 true (some a9) fun v14=>
 onG v7 true (B2.ev .sub v14 (.int .i64 (.ofNat 1) 0)) fun v15=>
 onG v7 true (iaddrV 5 v13 v15) fun v16=>
 onG v7 true (ldnV 5 v16 G H) fun v17=>
 onGT v7 true (callvV v8 [v12, v17] call H n) H n fun v18 H n=>
 onG v7 true (B2.ev .lss v18 (.int .i64 (.ofNat 0) 0)) fun v19=>
 onV (pickV v7 v19 (.bool false)) fun v20=>
 onTst v20 true (onV (B2.ev .sub a9 (.int .i64 (.ofNat 1) 0)) fun v21=>
 onV (B2.ev .sub a9 (.int .i64 (.ofNat 1) 0)) fun v22=>
 onV (iaddrV 5 a0 v22) fun v23=>
 onV (ldnV 5 v23 G H) fun v24=>
 onV (iaddrV 5 a0 a9) fun v25=>
 onV (ldnV 5 v25 G H) fun v26=>
 onV (iaddrV 5 a0 a9) fun v27=>
 stV 5 v27 v24 H n fun v28 H n=>
 onV (iaddrV 5 a0 v21) fun v29=>
 stV 5 v29 v26 H n fun v30 H n=>
 onV (B2.ev .sub a9 (.int .i64 (.ofNat 1) 0)) fun v31=>
 ih6 (a0, a1, a2, a3, a8, v31, H, n)) (s_f216_j4 lp G call k ih2 a0 a1 a2 a3 a8 H n)
noncomputable def s_f216_l6b (lp : LpT) (G : Roms) (call : CallT) (k : KV) (ih2 : (V × V × V × V × V × Heap × Nat) → Prop) : ((V × V × V × V × V × V × Heap × Nat) → Prop) → (V × V × V × V × V × V × Heap × Nat) → Prop := fun ih6 s => s_f216_l6 lp G call k ih2 ih6 s.1 s.2.1 s.2.2.1 s.2.2.2.1 s.2.2.2.2.1 s.2.2.2.2.2.1 s.2.2.2.2.2.2.1 s.2.2.2.2.2.2.2
noncomputable def s_f216_l2 (lp : LpT) (G : Roms) (call : CallT) (k : KV) (ih2 : (V × V × V × V × V × Heap × Nat) → Prop) (a0 a1 a2 a3 a8 : V) (H : Heap) (n : Nat) : Prop :=
 onV (B2.ev .lss a8 a2) fun v3=>
 onTst v3 true (lp (V × V × V × V × V × V × Heap × Nat) (s_f216_l6b lp G call k ih2) (a0, a1, a2, a3, a8, a8, H, n)) (k (.tup []) H n)
noncomputable def s_f216_l2b (lp : LpT) (G : Roms) (call : CallT) (k : KV) : ((V × V × V × V × V × Heap × Nat) → Prop) → (V × V × V × V × V × Heap × Nat) → Prop := fun ih2 s => s_f216_l2 lp G call k ih2 s.1 s.2.1 s.2.2.1 s.2.2.2.1 s.2.2.2.2.1 s.2.2.2.2.2.1 s.2.2.2.2.2.2
noncomputable def s_f216 (lp : LpT) (G : Roms) (call : CallT) (a0 a1 a2 a3 : V) (H : Heap) (n : Nat) (k : KV) : Prop :=
 onV (B2.ev .add a1 (.int .i64 (.ofNat 1) 0)) fun v1=>
 lp (V × V × V × V × V × Heap × Nat) (s_f216_l2b lp G call k) (a0, a1, a2, a3, v1, H, n)
noncomputable def s_f217_j13 (lp : LpT) (G : Roms) (call : CallT) (k : KV) (a0 a3 a4 a18 a24 : V) (H : Heap) (n : Nat) : Prop :=
 onV (B2.ev .lss a18 a24) fun v14=>
 onG v14 true (some a24) fun v15=>
 onG v14 true (some a3) fun v16=>
 onG v14 true (B2.ev .lss v15 v16) fun v17=>
 onV (pickV v14 v17 (.bool false)) fun v18=>
 onTst v18 true (call 217 [a0, a18, a24, a3, a4] H n fun v19 H n=>
 k (.tup []) H n) (k (.tup []) H n)
noncomputable def s_f217_j12 (lp : LpT) (G : Roms) (call : CallT) (k : KV) (a0 a1 a3 a4 a18 a20 a24 : V) (H : Heap) (n : Nat) : Prop :=
 onV (B2.ev .lss a1 a20) fun v20=>
 onG v20 true (some a20) fun v21=>
 onG v20 true (some a18) fun v22=>
 onG v20 true (B2.ev .lss v21 v22) fun v23=>
 onV (pickV v20 v23 (.bool false)) fun v24=>
 onTst v24 true (call 217 [a0, a1, a20, a18, a4] H n fun v25 H n=>
 s_f217_j13 lp G call k a0 a3 a4 a18 a24 H n) (s_f217_j13 lp G call k a0 a3 a4 a18 a24 H n)
noncomputable def s_f217_j10 (lp : LpT) (G : Roms) (call : CallT) (k : KV) (a0 a1 a2 a3 a4 a18 a19 a20 : V) (H : Heap) (n : Nat) : Prop :=
 onV (B2.ev .sub a19 a20) fun v11=>
 onV (B2.ev .lss a20 a2) fun v26=>
 onG v26 true (some a2) fun v27=>
 onG v26 true (some v11) fun v28=>
 onG v26 true (B2.ev .lss v27 v28) fun v29=>
 onV (pickV v26 v29 (.bool false)) fun v30=>
 onTst v30 true (call 243 [a0, a20, a2, v11, a4] H n fun v31 H n=>
 s_f217_j12 lp G call k a0 a1 a3 a4 a18 a20 v11 H n) (s_f217_j12 lp G call k a0 a1 a3 a4 a18 a20 v11 H n)
noncomputable def s_f217_l32 (lp : LpT) (G : Roms) (call : CallT) (k : KV) (ih32 : (V × V × V × V × V × V × V × V × V × V × Heap × Nat) → Prop) (a0 a1 a2 a3 a4 a18 a19 a20 a21 a22 : V) (H : Heap) (n : Nat) : Prop :=
 onV (B2.ev .lss a20 a21) fun v33=>
 onTst v33 true (onV (B2.ev .add a20 a21) fun v34=>
 onV (cviV .u64 v34) fun v35=>
 onV (B2.ev .shr v35 (.int .u64 (.ofNat 1) 0)) fun v36=>
 onV (cviV .i64 v36) fun v37=>
 onV (B2.ev .sub a22 v37) fun v38=>
 onV (iaddrV 5 a0 v38) fun v39=>
 onV (ldnV 5 v39 G H) fun v40=>
 onV (iaddrV 5 a0 v37) fun v41=>
 onV (ldnV 5 v41 G H) fun v42=>
 callvV a4 [v40, v42] call H n fun v43 H n=>
 onV (B2.ev .lss v43 (.int .i64 (.ofNat 0) 0)) fun v44=>
 onV (notV v44) fun v45=>
 onTst v45 true (onV (B2.ev .add v37 (.int .i64 (.ofNat 1) 0)) fun v46=>
 ih32 (a0, a1, a2, a3, a4, a18, a19, v46, a21, a22, H, n)) (ih32 (a0, a1, a2, a3, a4, a18, a19, a20, v37, a22, H, n))) (s_f217_j10 lp G call k a0 a1 a2 a3 a4 a18 a19 a20 H n)
noncomputable def s_f217_l32b (lp : LpT) (G : Roms) (call : CallT) (k : KV) : ((V × V × V × V × V × V × V × V × V × V × Heap × Nat) → Prop) → (V × V × V × V × V × V × V × V × V × V × Heap × Nat) → Prop := fun ih32 s => s_f217_l32 lp G call k ih32 s.1 s.2.1 s.2.2.1 s.2.2.2.1 s.2.2.2.2.1 s.2.2.2.2.2.1 s.2.2.2.2.2.2.1 s.2.2.2.2.2.2.2.1 s.2.2.2.2.2.2.2.2.1 s.2.2.2.2.2.2.2.2.2.1 s.2.2.2.2.2.2.2.2.2.2.1 s.2.2.2.2.2.2.2.2.2.2.2
noncomputable def s_f217_j8 (lp : LpT) (G : Roms) (call : CallT) (k : KV) (a0 a1 a2 a3 a4 a18 a19 a20 a21 : V) (H : Heap) (n : Nat) : Prop :=
 onV (B2.ev .sub a19 (.int .i64 (.ofNat 1) 0)) fun v9=>
 lp (V × V × V × V × V × V × V × V × V × V × Heap × Nat) (s_f217_l32b lp G call k) (a0, a1, a2, a3, a4, a18, a19, a20, a21, v9, H, n)
noncomputable def s_f217_j2 (lp : LpT) (G : Roms) (call : CallT) (k : KV) (a0 a1 a2 a3 a4 : V) (H : Heap) (n : Nat) : Prop :=
 onV (B2.ev .add a1 a3) fun v3=>
 onV (cviV .u64 v3) fun v4=>
 onV (B2.ev .shr v4 (.int .u64 (.ofNat 1) 0)) fun v5=>
 onV (cviV .i64 v5) fun v6=>
 onV (B2.ev .add v6 a2) fun v7=>
 onV (B2.ev .gtr a2 v6) fun v47=>
 onTst v47 true (onV (B2.ev .sub v7 a3) fun v48=>
 s_f217_j8 lp G call k a0 a1 a2 a3 a4 v6 v7 v48 v6 H n) (s_f217_j8 lp G call k a0 a1 a2 a3 a4 v6 v7 a1 a2 H n)
noncomputable def s_f217_l52 (lp : LpT) (G : Roms) (call : CallT) (k : KV) (ih52 : (V × V × V × Heap × Nat) → Prop) (a0 a14 a17 : V) (H : Heap) (n : Nat) : Prop :=
 onV (B2.ev .gtr a17 a14) fun v53=>
 onTst v53 true (onV (B2.ev .sub a17 (.int .i64 (.ofNat 1) 0)) fun v54=>
 onV (B2.ev .sub a17 (.int .i64 (.ofNat 1) 0)) fun v55=>
 onV (iaddrV 5 a0 v55) fun v56=>
 onV (ldnV 5 v56 G H) fun v57=>
 onV (iaddrV 5 a0 a17) fun v58=>
 onV (ldnV 5 v58 G H) fun v59=>
 onV (iaddrV 5 a0 a17) fun v60=>
 stV 5 v60 v57 H n fun v61 H n=>
 onV (iaddrV 5 a0 v54) fun v62=>
 stV 5 v62 v59 H n fun v63 H n=>
 onV (B2.ev .sub a17 (.int .i64 (.ofNat 1) 0)) fun v64=>
 ih52 (a0, a14, v64, H, n)) (k (.tup []) H n)
noncomputable def s_f217_l52b (lp : LpT) (G : Roms) (call : CallT) (k : KV) : ((V × V × V × Heap × Nat) → Prop) → (V × V × V × Heap × Nat) → Prop := fun ih52 s => s_f217_l52 lp G call k ih52 s.1 s.2.1 s.2.2.1 s.2.2.2.1 s.2.2.2.2
noncomputable def s_f217_j51 (lp : LpT) (G : Roms) (call : CallT) (k : KV) (a0 a2 a14 : V) (H : Heap) (n : Nat) : Prop :=
 lp (V × V × V × Heap × Nat) (s_f217_l52b lp G call k) (a0, a14, a2, H, n)
noncomputable def s_f217_l65 (lp : LpT) (G : Roms) (call : CallT) (k : KV) (ih65 : (V × V × V × V × V × Heap × Nat) → Prop) (a0 a2 a4 a14 a15 : V) (H : Heap) (n : Nat) : Prop :=
 onV (B2.ev .lss a14 a15) fun v66=>
 onTst v66 true (onV (B2.ev .add a14 a15) fun v67=>
 onV (cviV .u64 v67) fun v68=>
 onV (B2.ev .shr v68 (.int .u64 (.ofNat 1) 0)) fun v69=>
 onV (cviV .i64 v69) fun v70=>
 onV (iaddrV 5 a0 a2) fun v71=>
 onV (ldnV 5 v71 G H) fun v72=>
 onV (iaddrV 5 a0 v70) fun v73=>
 onV (ldnV 5 v73 G H) fun v74=>
 callvV a4 [v72, v74] call H n fun v75 H n=>
 onV (B2.ev .lss v75 (.int .i64 (.ofNat 0) 0)) fun v76=>
 onV (notV v76) fun v77=>
 onTst v77 true (onV (B2.ev .add v70 (.int .i64 (.ofNat 1) 0)) fun v78=>
 ih65 (a0, a2, a4, v78, a15, H, n)) (ih65 (a0, a2, a4, a14, v70, H, n))) (s_f217_j51 lp G call k a0 a2 a14 H n)
noncomputable def s_f217_l65b (lp : LpT) (G : Roms) (call : CallT) (k : KV) : ((V × V × V × V × V × Heap × Nat) → Prop) → (V × V × V × V × V × Heap × Nat) → Prop := fun ih65 s => s_f217_l65 lp G call k ih65 s.1 s.2.1 s.2.2.1 s.2.2.2.1 s.2.2.2.2.1 s.2.2.2.2.2.1 s.2.2.2.2.2.2
noncomputable def s_f217_j1 (lp : LpT) (G : Roms) (call : CallT) (k : KV) (a0 a1 a2 a3 a4 : V) (H : Heap) (n : Nat) : Prop :=
 onV (B2.ev .sub a3 a2) fun v49=>
 onV (eqV (.one .int) false v49 (.int .i64 (.ofNat 1) 0)) fun v50=>
 onTst v50 true (lp (V × V × V × V × V × Heap × Nat) (s_f217_l65b lp G call k) (a0, a2, a4, a1, a2, H, n)) (s_f217_j2 lp G call k a0 a1 a2 a3 a4 H n)
noncomputable def s_f217_l82 (lp : LpT) (G : Roms) (call : CallT) (k : KV) (ih82 : (V × V × V × Heap × Nat) → Prop) (a0 a10 a13 : V) (H : Heap) (n : Nat) : Prop :=
 onV (B2.ev .sub a10 (.int .i64 (.ofNat 1) 0)) fun v83=>
 onV (B2.ev .lss a13 v83) fun v84=>
 onTst v84 true (onV (B2.ev .add a13 (.int .i64 (.ofNat 1) 0)) fun v85=>
 onV (B2.ev .add a13 (.int .i64 (.ofNat 1) 0)) fun v86=>
 onV (iaddrV 5 a0 v86) fun v87=>
 onV (ldnV 5 v87 G H) fun v88=>
 onV (iaddrV 5 a0 a13) fun v89=>
 onV (ldnV 5 v89 G H) fun v90=>
 onV (iaddrV 5 a0 a13) fun v91=>
 stV 5 v91 v88 H n fun v92 H n=>
 onV (iaddrV 5 a0 v85) fun v93=>
 stV 5 v93 v90 H n fun v94 H n=>
 onV (B2.ev .add a13 (.int .i64 (.ofNat 1) 0)) fun v95=>
 ih82 (a0, a10, v95, H, n)) (k (.tup []) H n)
noncomputable def s_f217_l82b (lp : LpT) (G : Roms) (call : CallT) (k : KV) : ((V × V × V × Heap × Nat) → Prop) → (V × V × V × Heap × Nat) → Prop := fun ih82 s => s_f217_l82 lp G call k ih82 s.1 s.2.1 s.2.2.1 s.2.2.2.1 s.2.2.2.2
noncomputable def s_f217_j81 (lp : LpT) (G : Roms) (call : CallT) (k : KV) (a0 a1 a10 : V) (H : Heap) (n : Nat) : Prop :=
 lp (V × V × V × Heap × Nat) (s_f217_l82b lp G call k) (a0, a10, a1, H, n)
noncomputable def s_f217_l96 (lp : LpT) (G : Roms) (call : CallT) (k : KV) (ih96 : (V × V × V × V × V × Heap × Nat) → Prop) (a0 a1 a4 a10 a11 : V) (H : Heap) (n : Nat) : Prop :=
 onV (B2.ev .lss a10 a11) fun v97=>
 onTst v97 true (onV (B2.ev .add a10 a11) fun v98=>
 onV (cviV .u64 v98) fun v99=>
 onV (B2.ev .shr v99 (.int .u64 (.ofNat 1) 0)) fun v100=>
 onV (cviV .i64 v100) fun v101=>
 onV (iaddrV 5 a0 v101) fun v102=>
 onV (ldnV 5 v102 G H) fun v103=>
 onV (iaddrV 5 a0 a1) fun v104=>
 onV (ldnV 5 v104 G H) fun v105=>
 callvV a4 [v103, v105] call H n fun v106 H n=>
 onV (B2.ev .lss v106 (.int .i64 (.ofNat 0) 0)) fun v107=>
 onTst v107 true (onV (B2.ev .add v101 (.int .i64 (.ofNat 1) 0)) fun v108=>
 ih96 (a0, a1, a4, v108, a11, H, n)) (ih96 (a0, a1, a4, a10, v101, H, n))) (s_f217_j81 lp G call k a0 a1 a10 H n)
noncomputable def s_f217_l96b (lp : LpT) (G : Roms) (call : CallT) (k : KV) : ((V × V × V × V × V × Heap × Nat) → Prop) → (V × V × V × V × V × Heap × Nat) → Prop := fun ih96 s => s_f217_l96 lp G call k ih96 s.1 s.2.1 s.2.2.1 s.2.2.2.1 s.2.2.2.2.1 s.2.2.2.2.2.1 s.2.2.2.2.2.2
noncomputable def s_f217 (lp : LpT) (G : Roms) (call : CallT) (a0 a1 a2 a3 a4 : V) (H : Heap) (n : Nat) (k : KV) : Prop :=
 onV (B2.ev .sub a2 a1) fun v79=>
 onV (eqV (.one .int) false v79 (.int .i64 (.ofNat 1) 0)) fun v80=>
 onTst v80 true (lp (V × V × V × V × V × Heap × Nat) (s_f217_l96b lp G call k) (a0, a1, a4, a2, a3, H, n)) (s_f217_j1 lp G call k a0 a1 a2 a3 a4 H n)
noncomputable def s_f218_j8 (lp : LpT) (G : Roms) (call : CallT) (k : KV) (a0 : V) (H : Heap) (n : Nat) : Prop :=
 onV (nilckV a0) fun v9=>
 onV (paddV 17 v9) fun v10=>
 onV (paddV 0 v10) fun v11=>
 onV (ld1V v11 G H) fun v12=>
 onV (eqV (.one .int) false v12 (.int .i64 (.ofNat 0) 0)) fun v13=>
 k v13 H n
noncomputable def s_f218_l18 (lp : LpT) (G : Roms) (call : CallT) (k : KV) (ih18 : (V × V × V × V × V × Heap × Nat) → Prop) (a0 a1 a18 a19 a20 : V) (H : Heap) (n : Nat) : Prop :=
 onV (B2.ev .lss a20 a19) fun v19=>
 onTst v19 true (onV (iaddrV 11 a18 a20) fun v20=>
 onV (ldnV 11 v20 G H) fun v21=>
 onA (aAlloc 11 [[(.int .i64 (.ofNat 0) 0), (.int .i64 (.ofNat 0) 0), (.int .i64 (.ofNat 0) 0), (.int .i64 (.ofNat 0) 0), (.str 0 0), (.str 0 0), (.bool false), .nils, (.str 0 0), (.bool false), (.str 0 0)]] E0) H n fun v22 H n=>
 stV 11 v22 v21 H n fun v23 H n=>
 onV (nilckV a1) fun v24=>
 onV (paddV 7 v24) fun v25=>
 onV (ld1V v25 G H) fun v26=>
 onV (ldnV 11 v22 G H) fun v27=>
 call 189 [a0, v27] H n fun v28 H n=>
 onV (ld1V v25 G H) fun v=>onB (vsame v v26) <|
 onV (iaddrV 11 v26 a20) fun v29=>
 stV 11 v29 v28 H n fun v30 H n=>
 onV (B2.ev .add a20 (.int .i64 (.ofNat 1) 0)) fun v31=>
 ih18 (a0, a1, a18, a19, v31, H, n)) (s_f218_j8 lp G call k a0 H n)
noncomputable def s_f218_l18b (lp : LpT) (G : Roms) (call : CallT) (k : KV) : ((V × V × V × V × V × Heap × Nat) → Prop) → (V × V × V × V × V × Heap × Nat) → Prop := fun ih18 s => s_f218_l18 lp G call k ih18 s.1 s.2.1 s.2.2.1 s.2.2.2.1 s.2.2.2.2.1 s.2.2.2.2.2.1 s.2.2.2.2.2.2
noncomputable def s_f218 (lp : LpT) (G : Roms) (call : CallT) (a0 a1 : V) (H : Heap) (n : Nat) (k : KV) : Prop :=
 onV (nilckV a1) fun v1=>
 onV (paddV 7 v1) fun v2=>
 onV (ld1V v2 G H) fun v3=>
 call 188 [v3] H n fun v4 H n=>
 onV (nilckV a1) fun v5=>
 onV (paddV 7 v5) fun v6=>
 stV 1 v6 v4 H n fun v7 H n=>
 onV (nilckV a1) fun v14=>
 onV (paddV 7 v14) fun v15=>
 onV (ld1V v15 G H) fun v16=>
 onV (lenV v16) fun v17=>
 lp (V × V × V × V × V × Heap × Nat) (s_f218_l18b lp G call k) (a0, a1, v16, v17, (.int .i64 (.ofNat 0) 0), H, n)
noncomputable def s_f219_j68 (lp : LpT) (G : Roms) (call : CallT) (k : KV) (a1 a9 a10 : V) (H : Heap) (n : Nat) : Prop :=
 onV (paddV 3 a10) fun v69=>
 onV (ldnV 2 v69 G H) fun v70=>
 onV (nilckV a1) fun v71=>
 onV (paddV 10 v71) fun v72=>
 stV 1 v72 a9 H n fun v73 H n=>
 onV (ldnV 2 v69 G H) fun v=>onB (vsame v v70) <|
 onV (nilckV a1) fun v74=>
 onV (paddV 8 v74) fun v75=>
 stV 2 v75 v70 H n fun v76 H n=>
 k (.tup []) H n
noncomputable def s_f219_j9 (lp : LpT) (G : Roms) (call : CallT) (k : KV) (a0 a1 a4 a5 : V) (H : Heap) (n : Nat) : Prop :=
 onV (nilckV a0) fun v10=>
 onV (paddV 0 v10) fun v11=>
 onV (ld1V v11 G H) fun v12=>
 onV (ldnV 2 a4 G H) fun v13=>
 onA (aBslice 2 1 [(.str 0 0), (.bool false)] [(0, .c v13)] E0) H n fun v14 H n=>
 onV (nilckV a1) fun v15=>
 onV (paddV 1 v15) fun v16=>
 onV (ldnV 2 v16 G H) fun v17=>
 call 97 [v12, v14] H n fun v18 H n=>
 onV (ldnV 2 v16 G H) fun v=>onB (vsame v v17) <|
 call 152 [a0, v18, (.int .i64 (.ofNat 23) 0), v17] H n fun v19 H n=>
 onV (notV v19) fun v20=>
 onTst v20 true (k (.tup []) H n) (onV (nilckV a1) fun v21=>
 onV (paddV 0 v21) fun v22=>
 onV (ld1V v22 G H) fun v23=>
 onV (eqV (.one .int) false v23 (.int .i64 (.ofNat 7) 0)) fun v24=>
 onTst v24 true (onV (nilckV a0) fun v25=>
 onV (paddV 0 v25) fun v26=>
 onV (ld1V v26 G H) fun v27=>
 onV (paddV 0 a4) fun v28=>
 onV (ld1V v28 G H) fun v29=>
 onV (nilckV a1) fun v30=>
 onV (paddV 4 v30) fun v31=>
 onV (ld1V v31 G H) fun v32=>
 onA (aAlloc 2 [[(.str 0 0), (.bool false)]] E0) H n fun v33 H n=>
 call 98 [v27, v29, v32] H n fun v34 H n=>
 onV (extV v34 0) fun v35=>
 onV (extV v34 1) fun v36=>
 onV (extV v34 2) fun v37=>
 stV 2 v33 v36 H n fun v38 H n=>
 onV (nilckV a1) fun v39=>
 onV (paddV 1 v39) fun v40=>
 onV (ldnV 2 v40 G H) fun v41=>
 call 152 [a0, v37, (.int .i64 (.ofNat 23) 0), v41] H n fun v42 H n=>
 onV (ldnV 2 v33 G H) fun v43=>
 onV (nilckV a1) fun v44=>
 onV (paddV 10 v44) fun v45=>
 stV 1 v45 v35 H n fun v46 H n=>
 onV (ldnV 2 v33 G H) fun v=>onB (vsame v v43) <|
 onV (nilckV a1) fun v47=>
 onV (paddV 8 v47) fun v48=>
 stV 2 v48 v43 H n fun v49 H n=>
 k (.tup []) H n) (onV (nilckV a0) fun v50=>
 onV (paddV 0 v50) fun v51=>
 onV (ld1V v51 G H) fun v52=>
 onV (paddV 0 a4) fun v53=>
 onV (ld1V v53 G H) fun v54=>
 onV (nilckV a1) fun v55=>
 onV (paddV 4 v55) fun v56=>
 onV (ld1V v56 G H) fun v57=>
 onV (nilckV a1) fun v58=>
 onV (paddV 0 v58) fun v59=>
 onV (ld1V v59 G H) fun v60=>
 onV (eqV (.one .int) false v60 (.int .i64 (.ofNat 9) 0)) fun v61=>
 onA (aAlloc 5 [[(.str 0 0), (.bool false), .nils, (.str 0 0), (.bool false)]] E0) H n fun v62 H n=>
 call 23 [v52, v54, v57, v61] H n fun v63 H n=>
 onV (extV v63 0) fun v64=>
 onV (extV v63 1) fun v65=>
 onV (extV v63 2) fun v66=>
 stV 5 v62 v65 H n fun v67 H n=>
 onV (nilckV a1) fun v77=>
 onV (paddV 1 v77) fun v78=>
 onV (ldnV 2 v78 G H) fun v79=>
 call 152 [a0, v66, (.int .i64 (.ofNat 23) 0), v79] H n fun v80 H n=>
 onTst v80 true (onV (nilckV a1) fun v81=>
 onV (ldnV 11 v81 G H) fun v82=>
 onV (ldnV 5 v62 G H) fun v83=>
 call 244 [a0, v82, a5, v83] H n fun v84 H n=>
 s_f219_j68 lp G call k a1 v64 v62 H n) (s_f219_j68 lp G call k a1 v64 v62 H n)))
noncomputable def s_f219 (lp : LpT) (G : Roms) (call : CallT) (a0 a1 : V) (H : Heap) (n : Nat) (k : KV) : Prop :=
 onV (nilckV a1) fun v1=>
 onV (paddV 5 v1) fun v2=>
 onV (ldnV 2 v2 G H) fun v3=>
 onV (nilckV a1) fun v4=>
 onV (paddV 7 v4) fun v5=>
 onV (ld1V v5 G H) fun v6=>
 onA (aAlloc 2 [[(.str 0 0), (.bool false)]] E0) H n fun v7 H n=>
 stV 2 v7 v3 H n fun v8 H n=>
 onV (ld1V v5 G H) fun v=>onB (vsame v v6) <|
 onV (nilckV a1) fun v85=>
 onV (paddV 0 v85) fun v86=>
 onV (ld1V v86 G H) fun v87=>
 onV (eqV (.one .int) true v87 (.int .i64 (.ofNat 9) 0)) fun v88=>
 onTst v88 true (onV (nilckV a1) fun v89=>
 onV (paddV 7 v89) fun v90=>
 onV (ld1V v90 G H) fun v91=>
 onV (iaddrV 11 v91 (.int .i64 (.ofNat 0) 0)) fun v92=>
 onV (paddV 8 v92) fun v93=>
 onV (ldnV 2 v93 G H) fun v94=>
 onV (nilckV a1) fun v95=>
 onV (paddV 7 v95) fun v96=>
 onV (ld1V v96 G H) fun v97=>
 onV (slcV 11 v97 E0 (some (.c (.int .i64 (.ofNat 1) 0))) none none) fun v98=>
 stV 2 v7 v94 H n fun v99 H n=>
 onV (ld1V v96 G H) fun v=>onB (vsame v v97) <|
 onV (ldnV 2 v7 G H) fun v100=>
 onV (nilckV a1) fun v101=>
 onV (paddV 7 v101) fun v102=>
 onV (ld1V v102 G H) fun v103=>
 onV (iaddrV 11 v103 (.int .i64 (.ofNat 0) 0)) fun v104=>
 onV (paddV 1 v104) fun v105=>
 onV (ldnV 2 v105 G H) fun v106=>
 call 149 [v100] H n fun v107 H n=>
 onV (ld1V v102 G H) fun v=>onB (vsame v v103) <|
 onV (ldnV 2 v105 G H) fun v=>onB (vsame v v106) <|
 call 152 [a0, v107, (.int .i64 (.ofNat 24) 0), v106] H n fun v108 H n=>
 onV (notV v108) fun v109=>
 onTst v109 true (k (.tup []) H n) (s_f219_j9 lp G call k a0 a1 v7 v98 H n)) (s_f219_j9 lp G call k a0 a1 v7 v6 H n)
noncomputable def s_f220 (lp : LpT) (G : Roms) (call : CallT) (a0 : V) (H : Heap) (n : Nat) (k : KV) : Prop :=
 onA (aBoxV a0) H n fun v1 H n=>
 onA (aAlloc 2 [[(.str 0 0), (.bool false)]] E0) H n fun v2 H n=>
 onV (paddV 0 v1) fun v3=>
 onV (ld1V v3 G H) fun v4=>
 onV (buildV [(.str 0 0), (.bool false)] [(0, 1, .c v4)]) fun v5=>
 stV 2 v2 v5 H n fun v6 H n=>
 onO (getVs [.cn v2 2] G H) fun l => k (oneV l) H n
noncomputable def s_f221_j57 (lp : LpT) (G : Roms) (call : CallT) (k : KV) (a1 : V) (H : Heap) (n : Nat) : Prop :=
 onV (nilckV a1) fun v58=>
 onV (paddV 5 v58) fun v59=>
 onV (ldnV 2 v59 G H) fun v60=>
 onV (nilckV a1) fun v61=>
 onV (paddV 8 v61) fun v62=>
 stV 2 v62 v60 H n fun v63 H n=>
 onV (nilckV a1) fun v64=>
 onV (paddV 0 v64) fun v65=>
 onV (ld1V v65 G H) fun v66=>
 onV (eqV (.one .int) false v66 (.int .i64 (.ofNat 20) 0)) fun v67=>
 onTst v67 true (call 161 [] H n fun v68 H n=>
 onV (nilckV a1) fun v69=>
 onV (paddV 8 v69) fun v70=>
 stV 2 v70 v68 H n fun v71 H n=>
 k (.tup []) H n) (k (.tup []) H n)
noncomputable def s_f221 (lp : LpT) (G : Roms) (call : CallT) (a0 a1 : V) (H : Heap) (n : Nat) (k : KV) : Prop :=
 onV (nilckV a1) fun v1=>
 onV (paddV 0 v1) fun v2=>
 onV (ld1V v2 G H) fun v3=>
 onV (eqV (.one .int) false v3 (.int .i64 (.ofNat 14) 0)) fun v4=>
 onTst v4 true (onV (nilckV a1) fun v5=>
 onV (paddV 7 v5) fun v6=>
 onV (ld1V v6 G H) fun v7=>
 call 28 [] H n fun v8 H n=>
 onV (ld1V v6 G H) fun v=>onB (vsame v v7) <|
 call 191 [a0, v7, v8] H n fun v9 H n=>
 call 28 [] H n fun v10 H n=>
 onV (nilckV a1) fun v11=>
 onV (paddV 8 v11) fun v12=>
 stV 2 v12 v10 H n fun v13 H n=>
 k (.tup []) H n) (onV (nilckV a1) fun v14=>
 onV (paddV 0 v14) fun v15=>
 onV (ld1V v15 G H) fun v16=>
 onV (eqV (.one .int) false v16 (.int .i64 (.ofNat 15) 0)) fun v17=>
 onG v17 false (some a1) fun v18=>
 onG v17 false (nilckV v18) fun v19=>
 onG v17 false (paddV 0 v19) fun v20=>
 onG v17 false (ld1V v20 G H) fun v21=>
 onG v17 false (eqV (.one .int) false v21 (.int .i64 (.ofNat 17) 0)) fun v22=>
 onV (pickV v17 (.bool true) v22) fun v23=>
 onG v23 false (some a1) fun v24=>
 onG v23 false (nilckV v24) fun v25=>
 onG v23 false (paddV 0 v25) fun v26=>
 onG v23 false (ld1V v26 G H) fun v27=>
 onG v23 false (eqV (.one .int) false v27 (.int .i64 (.ofNat 18) 0)) fun v28=>
 onV (pickV v23 (.bool true) v28) fun v29=>
 onTst v29 true (onV (nilckV a1) fun v30=>
 onV (paddV 7 v30) fun v31=>
 onV (ld1V v31 G H) fun v32=>
 call 161 [] H n fun v33 H n=>
 onV (ld1V v31 G H) fun v=>onB (vsame v v32) <|
 call 191 [a0, v32, v33] H n fun v34 H n=>
 call 161 [] H n fun v35 H n=>
 onV (nilckV a1) fun v36=>
 onV (paddV 8 v36) fun v37=>
 stV 2 v37 v35 H n fun v38 H n=>
 k (.tup []) H n) (onV (nilckV a1) fun v39=>
 onV (paddV 0 v39) fun v40=>
 onV (ld1V v40 G H) fun v41=>
 onV (eqV (.one .int) false v41 (.int .i64 (.ofNat 19) 0)) fun v42=>
 onG v42 false (some a1) fun v43=>
 onG v42 false (nilckV v43) fun v44=>
 onG v42 false (paddV 0 v44) fun v45=>
 onG v42 false (ld1V v45 G H) fun v46=>
 onG v42 false (eqV (.one .int) false v46 (.int .i64 (.ofNat 20) 0)) fun v47=>
 onV (pickV v42 (.bool true) v47) fun v48=>
 onTst v48 true (onV (nilckV a1) fun v49=>
 onV (paddV 7 v49) fun v50=>
 onV (ld1V v50 G H) fun v51=>
 onV (iaddrV 11 v51 (.int .i64 (.ofNat 0) 0)) fun v52=>
 onV (paddV 8 v52) fun v53=>
 onV (ldnV 2 v53 G H) fun v54=>
 onA (aAlloc 2 [[(.str 0 0), (.bool false)]] E0) H n fun v55 H n=>
 stV 2 v55 v54 H n fun v56 H n=>
 onV (ldnV 2 v55 G H) fun v72=>
 onV (nilckV a1) fun v73=>
 onV (paddV 7 v73) fun v74=>
 onV (ld1V v74 G H) fun v75=>
 onV (iaddrV 11 v75 (.int .i64 (.ofNat 0) 0)) fun v76=>
 onV (paddV 1 v76) fun v77=>
 onV (ldnV 2 v77 G H) fun v78=>
 call 149 [v72] H n fun v79 H n=>
 onV (ld1V v74 G H) fun v=>onB (vsame v v75) <|
 onV (ldnV 2 v77 G H) fun v=>onB (vsame v v78) <|
 onG v79 false (ldnV 2 v55 G H) fun v80=>
 onGT v79 false (call 170 [] H n) H n fun v81 H n=>
 onV (ld1V v74 G H) fun v=>onB (vsame v v75) <|
 onV (ldnV 2 v77 G H) fun v=>onB (vsame v v78) <|
 onRe v79 false (ldnV 2 v55 G H) v80 <|
 onG v79 false (eqV (.agg [.str, .bool]) false v80 v81) fun v82=>
 onV (pickV v79 (.bool true) v82) fun v83=>
 call 152 [a0, v83, (.int .i64 (.ofNat 24) 0), v78] H n fun v84 H n=>
 onTst v84 true (onV (nilckV a0) fun v85=>
 onV (paddV 0 v85) fun v86=>
 onV (ld1V v86 G H) fun v87=>
 onV (nilckV a1) fun v88=>
 onV (paddV 5 v88) fun v89=>
 onV (ldnV 2 v89 G H) fun v90=>
 onA (aBslice 2 1 [(.str 0 0), (.bool false)] [(0, .c v90)] E0) H n fun v91 H n=>
 onV (nilckV a1) fun v92=>
 onV (paddV 1 v92) fun v93=>
 onV (ldnV 2 v93 G H) fun v94=>
 call 97 [v87, v91] H n fun v95 H n=>
 onV (ldnV 2 v93 G H) fun v=>onB (vsame v v94) <|
 call 152 [a0, v95, (.int .i64 (.ofNat 23) 0), v94] H n fun v96 H n=>
 s_f221_j57 lp G call k a1 H n) (s_f221_j57 lp G call k a1 H n)) (onV (nilckV a1) fun v97=>
 onV (paddV 4 v97) fun v98=>
 onV (ld1V v98 G H) fun v99=>
 onV (eqV (.one .str) false v99 (.str 2 15677)) fun v100=>
 onG v100 false (some a1) fun v101=>
 onG v100 false (nilckV v101) fun v102=>
 onG v100 false (paddV 4 v102) fun v103=>
 onG v100 false (ld1V v103 G H) fun v104=>
 onG v100 false (eqV (.one .str) false v104 (.str 2 15649)) fun v105=>
 onV (pickV v100 (.bool true) v105) fun v106=>
 onTst v106 true (onV (nilckV a1) fun v107=>
 onV (paddV 7 v107) fun v108=>
 onV (ld1V v108 G H) fun v109=>
 onV (iaddrV 11 v109 (.int .i64 (.ofNat 0) 0)) fun v110=>
 onV (paddV 8 v110) fun v111=>
 onV (ldnV 2 v111 G H) fun v112=>
 onV (nilckV a1) fun v113=>
 onV (paddV 7 v113) fun v114=>
 onV (ld1V v114 G H) fun v115=>
 onV (iaddrV 11 v115 (.int .i64 (.ofNat 1) 0)) fun v116=>
 onV (paddV 8 v116) fun v117=>
 onV (ldnV 2 v117 G H) fun v118=>
 onA (aAlloc 2 [[(.str 0 0), (.bool false)]] E0) H n fun v119 H n=>
 onA (aAlloc 2 [[(.str 0 0), (.bool false)]] E0) H n fun v120 H n=>
 stV 2 v119 v112 H n fun v121 H n=>
 onV (ld1V v114 G H) fun v=>onB (vsame v v115) <|
 onV (ldnV 2 v117 G H) fun v=>onB (vsame v v118) <|
 stV 2 v120 v118 H n fun v122 H n=>
 onV (ldnV 2 v119 G H) fun v123=>
 onV (ldnV 2 v120 G H) fun v124=>
 onV (eqV (.agg [.str, .bool]) false v123 v124) fun v125=>
 onG v125 false (ldnV 2 v119 G H) fun v126=>
 onV (nilckV a1) fun v127=>
 onV (paddV 1 v127) fun v128=>
 onV (ldnV 2 v128 G H) fun v129=>
 onGT v125 false (call 173 [v126] H n) H n fun v130 H n=>
 onV (ldnV 2 v128 G H) fun v=>onB (vsame v v129) <|
 onG v125 false (some v130) fun v131=>
 onG v131 true (ldnV 2 v120 G H) fun v132=>
 onGT v131 true (call 173 [v132] H n) H n fun v133 H n=>
 onV (ldnV 2 v128 G H) fun v=>onB (vsame v v129) <|
 onG v125 false (pickV v131 v133 (.bool false)) fun v134=>
 onV (pickV v125 (.bool true) v134) fun v135=>
 call 152 [a0, v135, (.int .i64 (.ofNat 24) 0), v129] H n fun v136 H n=>
 call 161 [] H n fun v137 H n=>
 onV (nilckV a1) fun v138=>
 onV (paddV 8 v138) fun v139=>
 stV 2 v139 v137 H n fun v140 H n=>
 k (.tup []) H n) (onV (nilckV a1) fun v141=>
 onV (paddV 7 v141) fun v142=>
 onV (ld1V v142 G H) fun v143=>
 call 28 [] H n fun v144 H n=>
 onV (ld1V v142 G H) fun v=>onB (vsame v v143) <|
 call 191 [a0, v143, v144] H n fun v145 H n=>
 call 28 [] H n fun v146 H n=>
 onV (nilckV a1) fun v147=>
 onV (paddV 8 v147) fun v148=>
 stV 2 v148 v146 H n fun v149 H n=>
 onV (nilckV a1) fun v150=>
 onV (paddV 4 v150) fun v151=>
 onV (ld1V v151 G H) fun v152=>
 onV (eqV (.one .str) false v152 (.str 1 60)) fun v153=>
 onG v153 false (some a1) fun v154=>
 onG v153 false (nilckV v154) fun v155=>
 onG v153 false (paddV 4 v155) fun v156=>
 onG v153 false (ld1V v156 G H) fun v157=>
 onG v153 false (eqV (.one .str) false v157 (.str 2 15676)) fun v158=>
 onV (pickV v153 (.bool true) v158) fun v159=>
 onTst v159 true (call 161 [] H n fun v160 H n=>
 onV (nilckV a1) fun v161=>
 onV (paddV 8 v161) fun v162=>
 stV 2 v162 v160 H n fun v163 H n=>
 k (.tup []) H n) (k (.tup []) H n)))))
noncomputable def s_f222_l1 (lp : LpT) (G : Roms) (call : CallT) (k : KV) (ih1 : (V × V × V × V × V × Heap × Nat) → Prop) (a0 a1 a2 a3 a10 : V) (H : Heap) (n : Nat) : Prop :=
 onV (B2.ev .lss a10 a3) fun v2=>
 onTst v2 true (onV (B2.ev .add a1 a10) fun v3=>
 onV (B2.ev .add a2 a10) fun v4=>
 onV (B2.ev .add a2 a10) fun v5=>
 onV (iaddrV 8 a0 v5) fun v6=>
 onV (ldnV 8 v6 G H) fun v7=>
 onV (B2.ev .add a1 a10) fun v8=>
 onV (iaddrV 8 a0 v8) fun v9=>
 onV (ldnV 8 v9 G H) fun v10=>
 onV (iaddrV 8 a0 v3) fun v11=>
 stV 8 v11 v7 H n fun v12 H n=>
 onV (iaddrV 8 a0 v4) fun v13=>
 stV 8 v13 v10 H n fun v14 H n=>
 onV (B2.ev .add a10 (.int .i64 (.ofNat 1) 0)) fun v15=>
 ih1 (a0, a1, a2, a3, v15, H, n)) (k (.tup []) H n)
noncomputable def s_f222_l1b (lp : LpT) (G : Roms) (call : CallT) (k : KV) : ((V × V × V × V × V × Heap × Nat) → Prop) → (V × V × V × V × V × Heap × Nat) → Prop := fun ih1 s => s_f222_l1 lp G call k ih1 s.1 s.2.1 s.2.2.1 s.2.2.2.1 s.2.2.2.2.1 s.2.2.2.2.2.1 s.2.2.2.2.2.2
noncomputable def s_f222 (lp : LpT) (G : Roms) (call : CallT) (a0 a1 a2 a3 a4 : V) (H : Heap) (n : Nat) (k : KV) : Prop :=
 lp (V × V × V × V × V × Heap × Nat) (s_f222_l1b lp G call k) (a0, a1, a2, a3, (.int .i64 (.ofNat 0) 0), H, n)
noncomputable def s_f223_j1 (lp : LpT) (G : Roms) (call : CallT) (k : KV) (H : Heap) (n : Nat) : Prop :=
 k (.int .i64 (.ofNat 0) 0) H n
noncomputable def s_f223_l6 (lp : LpT) (G : Roms) (call : CallT) (k : KV) (ih6 : (V × V × V × V × V × Heap × Nat) → Prop) (a0 a1 a10 a11 a12 : V) (H : Heap) (n : Nat) : Prop :=
 onV (B2.ev .lss a12 a11) fun v7=>
 onTst v7 true (onV (iaddrV 3 a10 a12) fun v8=>
 onV (ldnV 3 v8 G H) fun v9=>
 onA (aAlloc 3 [[(.str 0 0), (.str 0 0), (.bool false)]] E0) H n fun v10 H n=>
 stV 3 v10 v9 H n fun v11 H n=>
 onV (paddV 0 v10) fun v12=>
 onV (ld1V v12 G H) fun v13=>
 onV (eqV (.one .str) false v13 a1) fun v14=>
 onTst v14 true (onV (nilckV a0) fun v15=>
 onV (paddV 5 v15) fun v16=>
 onV (ld1V v16 G H) fun v17=>
 onV (iaddrV 1 v17 a12) fun v18=>
 onV (ld1V v18 G H) fun v19=>
 k v19 H n) (onV (B2.ev .add a12 (.int .i64 (.ofNat 1) 0)) fun v20=>
 ih6 (a0, a1, a10, a11, v20, H, n))) (s_f223_j1 lp G call k H n)
noncomputable def s_f223_l6b (lp : LpT) (G : Roms) (call : CallT) (k : KV) : ((V × V × V × V × V × Heap × Nat) → Prop) → (V × V × V × V × V × Heap × Nat) → Prop := fun ih6 s => s_f223_l6 lp G call k ih6 s.1 s.2.1 s.2.2.1 s.2.2.2.1 s.2.2.2.2.1 s.2.2.2.2.2.1 s.2.2.2.2.2.2
noncomputable def s_f223 (lp : LpT) (G : Roms) (call : CallT) (a0 a1 : V) (H : Heap) (n : Nat) (k : KV) : Prop :=
 onV (nilckV a0) fun v2=>
 onV (paddV 4 v2) fun v3=>
 onV (ld1V v3 G H) fun v4=>
 onV (lenV v4) fun v5=>
 lp (V × V × V × V × V × Heap × Nat) (s_f223_l6b lp G call k) (a0, a1, v4, v5, (.int .i64 (.ofNat 0) 0), H, n)
noncomputable def s_f224 (lp : LpT) (G : Roms) (call : CallT) (a0 a1 : V) (H : Heap) (n : Nat) (k : KV) : Prop :=
 onA (aBoxV a1) H n fun v1 H n=>
 onV (nilckV a0) fun v2=>
 onV (paddV 0 v2) fun v3=>
 onV (ld1V v3 G H) fun v4=>
 onV (nilckV v4) fun v5=>
 onV (paddV 0 v5) fun v6=>
 onV (paddV 4 v6) fun v7=>
 onV (paddV 3 v7) fun v8=>
 onV (paddV 4 v1) fun v9=>
 onV (ld1V v9 G H) fun v10=>
 onV (paddV 8 v1) fun v11=>
 onV (ldnV 2 v11 G H) fun v12=>
 onV (buildV [(.str 0 0), (.str 0 0), (.bool false)] [(0, 1, .c v10), (1, 2, .c v12)]) fun v13=>
 onV (paddV 10 v1) fun v14=>
 onV (ld1V v14 G H) fun v15=>
 onV (buildV [(.str 0 0), (.str 0 0), (.bool false), (.str 0 0)] [(0, 3, .c v13), (3, 1, .c v15)]) fun v16=>
 call 245 [v8, v16, (.fn 246 [] [])] H n fun v17 H n=>
 k v17 H n
noncomputable def s_f225_j6 (lp : LpT) (G : Roms) (call : CallT) (k : KV) (a7 : V) (H : Heap) (n : Nat) : Prop :=
 k a7 H n
noncomputable def s_f225 (lp : LpT) (G : Roms) (call : CallT) (a0 a1 a2 : V) (H : Heap) (n : Nat) (k : KV) : Prop :=
 onA (aBoxV a1) H n fun v1 H n=>
 onA (aBoxV a2) H n fun v2 H n=>
 onV (nilckV a0) fun v3=>
 onV (ld1V v3 G H) fun v4=>
 call 66 [v4, (.fn 247 [] [v2, v1])] H n fun v5 H n=>
 onV (B2.ev .lss v5 (.int .i64 (.ofNat 0) 0)) fun v7=>
 onTst v7 true (onV (nilckV a0) fun v8=>
 onV (ld1V v8 G H) fun v9=>
 onV (lenV v9) fun v10=>
 onV (nilckV a0) fun v11=>
 onV (ld1V v11 G H) fun v12=>
 onV (ldnV 2 v1 G H) fun v13=>
 onA (aBslice 2 1 [(.str 0 0), (.bool false)] [(0, .c v13)] E0) H n fun v14 H n=>
 appV 2 24 v12 v14 G H n fun v15 H n=>
 onV (nilckV a0) fun v16=>
 stV 1 v16 v15 H n fun v17 H n=>
 s_f225_j6 lp G call k v10 H n) (s_f225_j6 lp G call k v5 H n)
noncomputable def s_f226 (lp : LpT) (G : Roms) (call : CallT) (a0 a1 : V) (H : Heap) (n : Nat) (k : KV) : Prop :=
 onA (aBoxV a0) H n fun v1 H n=>
 onA (aBoxV a1) H n fun v2 H n=>
 onV (ldnV 2 v1 G H) fun v3=>
 onV (ldnV 2 v2 G H) fun v4=>
 onV (eqV (.agg [.str, .bool]) false v3 v4) fun v5=>
 k v5 H n
noncomputable def s_f227 (lp : LpT) (G : Roms) (call : CallT) (a0 a1 : V) (H : Heap) (n : Nat) (k : KV) : Prop :=
 onA (aBoxV a0) H n fun v1 H n=>
 onA (aBoxV a1) H n fun v2 H n=>
 onV (ld1V v1 G H) fun v3=>
 onV (paddV 7 v2) fun v4=>
 onV (ld1V v4 G H) fun v5=>
 onV (iaddrV 11 v5 (.int .i64 (.ofNat 0) 0)) fun v6=>
 onV (ldnV 11 v6 G H) fun v7=>
 call 194 [v3, v7] H n fun v8 H n=>
 onV (ld1V v1 G H) fun v9=>
 call 158 [v9, (.int .i64 (.ofNat 28) 0), (.int .i64 (.ofNat 0) 0), (.int .i64 (.negSucc 0) 0)] H n fun v10 H n=>
 callvV (.fn 248 [] [v2, v1]) [] call H n fun v11 H n=>
 onV (ld1V v1 G H) fun v12=>
 call 158 [v12, (.int .i64 (.ofNat 27) 0), (.int .i64 (.ofNat 0) 0), (.int .i64 (.negSucc 0) 0)] H n fun v13 H n=>
 onV (ld1V v1 G H) fun v14=>
 call 195 [v14, v10] H n fun v15 H n=>
 callvV (.fn 249 [] [v2, v1]) [] call H n fun v16 H n=>
 onV (ld1V v1 G H) fun v17=>
 call 195 [v17, v13] H n fun v18 H n=>
 k (.tup []) H n
noncomputable def s_f228 (lp : LpT) (G : Roms) (call : CallT) (a0 a1 : V) (H : Heap) (n : Nat) (k : KV) : Prop :=
 onA (aBoxV a1) H n fun v1 H n=>
 onV (nilckV a0) fun v2=>
 onV (paddV 0 v2) fun v3=>
 onV (ld1V v3 G H) fun v4=>
 onV (nilckV v4) fun v5=>
 onV (paddV 10 v5) fun v6=>
 onV (ld1V v6 G H) fun v7=>
 onV (paddV 10 v1) fun v8=>
 onV (ld1V v8 G H) fun v9=>
 onV (paddV 4 v1) fun v10=>
 onV (ld1V v10 G H) fun v11=>
 onV (paddV 0 v1) fun v12=>
 onV (ld1V v12 G H) fun v13=>
 onV (eqV (.one .int) false v13 (.int .i64 (.ofNat 9) 0)) fun v14=>
 onA (aAlloc 5 [[(.str 0 0), (.bool false), .nils, (.str 0 0), (.bool false)]] E0) H n fun v15 H n=>
 call 23 [v7, v9, v11, v14] H n fun v16 H n=>
 onV (extV v16 0) fun v17=>
 onV (extV v16 1) fun v18=>
 onV (extV v16 2) fun v19=>
 stV 5 v15 v18 H n fun v20 H n=>
 onV (ldnV 5 v15 G H) fun v21=>
 onV (paddV 10 v1) fun v22=>
 onV (ld1V v22 G H) fun v23=>
 onV (buildV [(.str 0 0), (.bool false), .nils, (.str 0 0), (.bool false), (.str 0 0)] [(0, 5, .c v21), (5, 1, .c v23)]) fun v24=>
 onA (aAlloc 6 [[(.str 0 0), (.bool false), .nils, (.str 0 0), (.bool false), (.str 0 0)]] E0) H n fun v25 H n=>
 stV 6 v25 v24 H n fun v26 H n=>
 onV (nilckV a0) fun v27=>
 onV (paddV 0 v27) fun v28=>
 onV (ld1V v28 G H) fun v29=>
 onV (nilckV v29) fun v30=>
 onV (paddV 0 v30) fun v31=>
 onV (paddV 4 v31) fun v32=>
 onV (paddV 4 v32) fun v33=>
 onV (ldnV 6 v25 G H) fun v34=>
 onV (paddV 2 v15) fun v35=>
 onV (ld1V v35 G H) fun v36=>
 onV (lenV v36) fun v37=>
 call 250 [v33, v34, (.fn 251 [] [])] H n fun v38 H n=>
 onV (ld1V v35 G H) fun v=>onB (vsame v v36) <|
 k (.tup [v38, v37]) H n
noncomputable def s_f229 (lp : LpT) (G : Roms) (call : CallT) (a0 a1 : V) (H : Heap) (n : Nat) (k : KV) : Prop :=
 onA (aBoxV a1) H n fun v1 H n=>
 onV (nilckV a0) fun v2=>
 onV (paddV 0 v2) fun v3=>
 onV (ld1V v3 G H) fun v4=>
 onV (nilckV v4) fun v5=>
 onV (paddV 0 v5) fun v6=>
 onV (paddV 4 v6) fun v7=>
 onV (paddV 1 v7) fun v8=>
 onV (paddV 0 v1) fun v9=>
 onV (ld1V v9 G H) fun v10=>
 call 252 [v8, v10, (.fn 253 [] [])] H n fun v11 H n=>
 k v11 H n
noncomputable def s_f230_j7 (lp : LpT) (G : Roms) (call : CallT) (k : KV) (H : Heap) (n : Nat) : Prop :=
 k (.tup []) H n
noncomputable def s_f230_j5 (lp : LpT) (G : Roms) (call : CallT) (k : KV) (a0 a3 a4 : V) (H : Heap) (n : Nat) : Prop :=
 call 158 [a0, a4, (.int .i64 (.ofNat 0) 0), (.int .i64 (.negSucc 0) 0)] H n fun v6 H n=>
 onV (paddV 4 a3) fun v8=>
 onV (ld1V v8 G H) fun v9=>
 onV (eqV (.one .str) false v9 (.str 2 15649)) fun v10=>
 onTst v10 true (call 158 [a0, (.int .i64 (.ofNat 15) 0), (.int .i64 (.ofNat 0) 0), (.int .i64 (.ofNat 0) 0)] H n fun v11 H n=>
 s_f230_j7 lp G call k H n) (s_f230_j7 lp G call k H n)
noncomputable def s_f230_j4 (lp : LpT) (G : Roms) (call : CallT) (k : KV) (a0 a3 a8 : V) (H : Heap) (n : Nat) : Prop :=
 onTst a8 true (onV (paddV 7 a3) fun v12=>
 onV (ld1V v12 G H) fun v13=>
 onV (iaddrV 11 v13 (.int .i64 (.ofNat 0) 0)) fun v14=>
 onV (paddV 8 v14) fun v15=>
 onV (ldnV 2 v15 G H) fun v16=>
 call 173 [v16] H n fun v17 H n=>
 onTst v17 true (s_f230_j5 lp G call k a0 a3 (.int .i64 (.ofNat 13) 0) H n) (s_f230_j5 lp G call k a0 a3 (.int .i64 (.ofNat 12) 0) H n)) (onA (aBslice 1 7 [(.str 0 0)] [(0, .c (.str 1 43)), (1, .c (.str 1 45)), (2, .c (.str 1 42)), (3, .c (.str 1 47)), (4, .c (.str 1 37)), (5, .c (.str 1 60)), (6, .c (.str 2 15676))] E0) H n fun v18 H n=>
 onV (paddV 4 a3) fun v19=>
 onV (ld1V v19 G H) fun v20=>
 call 147 [v18, v20] H n fun v21 H n=>
 onV (maxV (.int .i64 (.ofNat 0) 0) v21) fun v22=>
 onV (B2.ev .add (.int .i64 (.ofNat 5) 0) v22) fun v23=>
 call 158 [a0, v23, (.int .i64 (.ofNat 0) 0), (.int .i64 (.negSucc 0) 0)] H n fun v24 H n=>
 k (.tup []) H n)
noncomputable def s_f230 (lp : LpT) (G : Roms) (call : CallT) (a0 a1 : V) (H : Heap) (n : Nat) (k : KV) : Prop :=
 onA (aBoxV a1) H n fun v1 H n=>
 onV (paddV 4 v1) fun v2=>
 onV (ld1V v2 G H) fun v3=>
 onV (eqV (.one .str) false v3 (.str 2 15677)) fun v25=>
 onTst v25 true (s_f230_j4 lp G call k a0 v1 v25 H n) (onV (eqV (.one .str) false v3 (.str 2 15649)) fun v26=>
 s_f230_j4 lp G call k a0 v1 v26 H n)
noncomputable def s_f234 (lp : LpT) (G : Roms) (call : CallT) (a0 : V) (H : Heap) (n : Nat) (k : KV) : Prop :=
 onV (B2.ev .mul a0 (.int .i64 (.ofNat 78913) 0)) fun v1=>
 onV (B2.ev .shr v1 (.int .u64 (.ofNat 18) 0)) fun v2=>
 k v2 H n
noncomputable def s_f235_j3 (lp : LpT) (G : Roms) (call : CallT) (k : KV) (a0 a2 : V) (H : Heap) (n : Nat) : Prop :=
 onV (cviV .u8 a0) fun v4=>
 onV (idxSV (.str 256 1013866857139168856493015739252390649739422828853819106890363778118420553376247557433637691341895324351018602695588957474325319502760499485336098898398377509666851054660423406800006203933793007272033180812049178612605246075062580585469430410618860250057463399279570354286669047577758927328864388992123306212451509403152394148136105363817402562688186708175358218852349079190158732807302672745370040257219644697201681238697346923541678507645485296520536209706771857694240900605172937619415410180424934769249448772944216470541052485265558808433676546390051204254346932932316488017972311616136051587427851453983453479168) v4) fun v5=>
 onV (cviV .i64 v5) fun v6=>
 onV (B2.ev .add a2 v6) fun v7=>
 k v7 H n
noncomputable def s_f235_j2 (lp : LpT) (G : Roms) (call : CallT) (k : KV) (a0 a2 : V) (H : Heap) (n : Nat) : Prop :=
 onV (B2.ev .geq a0 (.int .u64 (.ofNat 256) 0)) fun v8=>
 onTst v8 true (onV (B2.ev .shr a0 (.int .u64 (.ofNat 8) 0)) fun v9=>
 onV (B2.ev .add a2 (.int .i64 (.ofNat 8) 0)) fun v10=>
 s_f235_j3 lp G call k v9 v10 H n) (s_f235_j3 lp G call k a0 a2 H n)
noncomputable def s_f235_j1 (lp : LpT) (G : Roms) (call : CallT) (k : KV) (a0 a2 : V) (H : Heap) (n : Nat) : Prop :=
 onV (B2.ev .geq a0 (.int .u64 (.ofNat 65536) 0)) fun v11=>
 onTst v11 true (onV (B2.ev .shr a0 (.int .u64 (.ofNat 16) 0)) fun v12=>
 onV (B2.ev .add a2 (.int .i64 (.ofNat 16) 0)) fun v13=>
 s_f235_j2 lp G call k v12 v13 H n) (s_f235_j2 lp G call k a0 a2 H n)
noncomputable def s_f235 (lp : LpT) (G : Roms) (call : CallT) (a0 : V) (H : Heap) (n : Nat) (k : KV) : Prop :=
 onV (B2.ev .geq a0 (.int .u64 (.ofNat 4294967296) 0)) fun v14=>
 onTst v14 true (onV (B2.ev .shr a0 (.int .u64 (.ofNat 32) 0)) fun v15=>
 s_f235_j1 lp G call k v15 (.int .i64 (.ofNat 32) 0) H n) (s_f235_j1 lp G call k a0 (.int .i64 (.ofNat 0) 0) H n)
noncomputable def s_f236 (lp : LpT) (G : Roms) (call : CallT) (a0 : V) (H : Heap) (n : Nat) (k : KV) : Prop :=
 onTst a0 true (k (.int .i64 (.ofNat 1) 0) H n) (k (.int .i64 (.ofNat 0) 0) H n)
noncomputable def s_f237 (lp : LpT) (G : Roms) (call : CallT) (a0 : V) (H : Heap) (n : Nat) (k : KV) : Prop :=
 onV (B2.ev .sub a0 (.int .i64 (.ofNat 1) 0)) fun v1=>
 onV (B2.ev .and a0 v1) fun v2=>
 onV (eqV (.one .int) false v2 (.int .i64 (.ofNat 0) 0)) fun v3=>
 k v3 H n
noncomputable def s_f238 (lp : LpT) (G : Roms) (call : CallT) (a0 : V) (H : Heap) (n : Nat) (k : KV) : Prop :=
 onTst (.bool false) true (onV (cviV .u32 a0) fun v1=>
 call 254 [v1] H n fun v2 H n=>
 k v2 H n) (call 255 [a0] H n fun v3 H n=>
 k v3 H n)
noncomputable def s_f239_j5 (lp : LpT) (G : Roms) (call : CallT) (k : KV) (a8 a9 : V) (H : Heap) (n : Nat) : Prop :=
 onV (ldnV 11 a9 G H) fun v6=>
 stV 11 a8 v6 H n fun v7 H n=>
 onO (getVs [.cn a8 11] G H) fun l => k (oneV l) H n
noncomputable def s_f239_l8 (lp : LpT) (G : Roms) (call : CallT) (k : KV) (ih8 : (V × V × V × V × V × V × Heap × Nat) → Prop) (a0 a1 a2 a3 a8 a9 : V) (H : Heap) (n : Nat) : Prop :=
 onA (aBslice 1 1 [(.str 0 0)] [(0, .c a2)] E0) H n fun v9 H n=>
 call 87 [a0, v9] H n fun v10 H n=>
 onTst v10 true (call 140 [a0] H n fun v11 H n=>
 onV (fldn 3 2 v11) fun v12=>
 onA (aAlloc 2 [[(.int .i64 (.ofNat 0) 0), (.int .i64 (.ofNat 0) 0)]] E0) H n fun v13 H n=>
 stV 2 v13 v12 H n fun v14 H n=>
 onV (ldnV 2 v13 G H) fun v15=>
 onV (ldnV 11 a9 G H) fun v16=>
 callvV a3 [] call H n fun v17 H n=>
 onV (ldnV 2 v13 G H) fun v=>onB (vsame v v15) <|
 onV (ldnV 11 a9 G H) fun v=>onB (vsame v v16) <|
 onA (aBslice 11 2 [(.int .i64 (.ofNat 0) 0), (.int .i64 (.ofNat 0) 0), (.int .i64 (.ofNat 0) 0), (.int .i64 (.ofNat 0) 0), (.str 0 0), (.str 0 0), (.bool false), .nils, (.str 0 0), (.bool false), (.str 0 0)] [(0, .c v16), (1, .c v17)] E0) H n fun v18 H n=>
 onV (buildV [(.int .i64 (.ofNat 0) 0), (.int .i64 (.ofNat 0) 0), (.int .i64 (.ofNat 0) 0), (.int .i64 (.ofNat 0) 0), (.str 0 0), (.str 0 0), (.bool false), .nils, (.str 0 0), (.bool false), (.str 0 0)] [(0, 1, .c a1), (1, 2, .c v15), (7, 1, .c v18)]) fun v19=>
 stV 11 a9 v19 H n fun v20 H n=>
 ih8 (a0, a1, a2, a3, a8, a9, H, n)) (s_f239_j5 lp G call k a8 a9 H n)
noncomputable def s_f239_l8b (lp : LpT) (G : Roms) (call : CallT) (k : KV) : ((V × V × V × V × V × V × Heap × Nat) → Prop) → (V × V × V × V × V × V × Heap × Nat) → Prop := fun ih8 s => s_f239_l8 lp G call k ih8 s.1 s.2.1 s.2.2.1 s.2.2.2.1 s.2.2.2.2.1 s.2.2.2.2.2.1 s.2.2.2.2.2.2.1 s.2.2.2.2.2.2.2
noncomputable def s_f239 (lp : LpT) (G : Roms) (call : CallT) (a0 a1 a2 a3 : V) (H : Heap) (n : Nat) (k : KV) : Prop :=
 onA (aAlloc 11 [[(.int .i64 (.ofNat 0) 0), (.int .i64 (.ofNat 0) 0), (.int .i64 (.ofNat 0) 0), (.int .i64 (.ofNat 0) 0), (.str 0 0), (.str 0 0), (.bool false), .nils, (.str 0 0), (.bool false), (.str 0 0)]] E0) H n fun v1 H n=>
 callvV a3 [] call H n fun v2 H n=>
 onA (aAlloc 11 [[(.int .i64 (.ofNat 0) 0), (.int .i64 (.ofNat 0) 0), (.int .i64 (.ofNat 0) 0), (.int .i64 (.ofNat 0) 0), (.str 0 0), (.str 0 0), (.bool false), .nils, (.str 0 0), (.bool false), (.str 0 0)]] E0) H n fun v3 H n=>
 stV 11 v3 v2 H n fun v4 H n=>
 lp (V × V × V × V × V × V × Heap × Nat) (s_f239_l8b lp G call k) (a0, a1, a2, a3, v1, v3, H, n)
noncomputable def s_f240 (lp : LpT) (G : Roms) (call : CallT) (a0 : V) (H : Heap) (n : Nat) (k : KV) : Prop :=
 onA (aAlloc 11 [[(.int .i64 (.ofNat 0) 0), (.int .i64 (.ofNat 0) 0), (.int .i64 (.ofNat 0) 0), (.int .i64 (.ofNat 0) 0), (.str 0 0), (.str 0 0), (.bool false), .nils, (.str 0 0), (.bool false), (.str 0 0)]] E0) H n fun v1 H n=>
 onV (ld1V a0 G H) fun v2=>
 onV (ld1V a0 G H) fun v3=>
 call 239 [v2, (.int .i64 (.ofNat 17) 0), (.str 2 9766), (.fn 241 [v3] [])] H n fun v4 H n=>
 stV 11 v1 v4 H n fun v5 H n=>
 onO (getVs [.cn v1 11] G H) fun l => k (oneV l) H n
noncomputable def s_f241_j6 (lp : LpT) (G : Roms) (call : CallT) (k : KV) (a2 a4 : V) (H : Heap) (n : Nat) : Prop :=
 onV (ldnV 11 a4 G H) fun v7=>
 stV 11 a2 v7 H n fun v8 H n=>
 onO (getVs [.cn a2 11] G H) fun l => k (oneV l) H n
noncomputable def s_f241 (lp : LpT) (G : Roms) (call : CallT) (a0 : V) (H : Heap) (n : Nat) (k : KV) : Prop :=
 onA (aBoxV a0) H n fun v1 H n=>
 onA (aAlloc 11 [[(.int .i64 (.ofNat 0) 0), (.int .i64 (.ofNat 0) 0), (.int .i64 (.ofNat 0) 0), (.int .i64 (.ofNat 0) 0), (.str 0 0), (.str 0 0), (.bool false), .nils, (.str 0 0), (.bool false), (.str 0 0)]] E0) H n fun v2 H n=>
 callvV (.fn 256 [] [v1]) [] call H n fun v3 H n=>
 onA (aAlloc 11 [[(.int .i64 (.ofNat 0) 0), (.int .i64 (.ofNat 0) 0), (.int .i64 (.ofNat 0) 0), (.int .i64 (.ofNat 0) 0), (.str 0 0), (.str 0 0), (.bool false), .nils, (.str 0 0), (.bool false), (.str 0 0)]] E0) H n fun v4 H n=>
 stV 11 v4 v3 H n fun v5 H n=>
 onV (ld1V v1 G H) fun v9=>
 onA (aBslice 1 4 [(.str 0 0)] [(0, .c (.str 2 15677)), (1, .c (.str 2 15649)), (2, .c (.str 1 60)), (3, .c (.str 2 15676))] E0) H n fun v10 H n=>
 call 87 [v9, v10] H n fun v11 H n=>
 onTst v11 true (onV (ld1V v1 G H) fun v12=>
 call 140 [v12] H n fun v13 H n=>
 onA (aAlloc 5 [[(.int .i64 (.ofNat 0) 0), (.str 0 0), (.int .i64 (.ofNat 0) 0), (.int .i64 (.ofNat 0) 0), (.int .i64 (.ofNat 0) 0)]] E0) H n fun v14 H n=>
 stV 5 v14 v13 H n fun v15 H n=>
 onV (paddV 3 v14) fun v16=>
 onV (ldnV 2 v16 G H) fun v17=>
 onV (paddV 1 v14) fun v18=>
 onV (ld1V v18 G H) fun v19=>
 onV (ldnV 11 v4 G H) fun v20=>
 callvV (.fn 256 [] [v1]) [] call H n fun v21 H n=>
 onV (ldnV 2 v16 G H) fun v=>onB (vsame v v17) <|
 onV (ld1V v18 G H) fun v=>onB (vsame v v19) <|
 onV (ldnV 11 v4 G H) fun v=>onB (vsame v v20) <|
 onA (aBslice 11 2 [(.int .i64 (.ofNat 0) 0), (.int .i64 (.ofNat 0) 0), (.int .i64 (.ofNat 0) 0), (.int .i64 (.ofNat 0) 0), (.str 0 0), (.str 0 0), (.bool false), .nils, (.str 0 0), (.bool false), (.str 0 0)] [(0, .c v20), (1, .c v21)] E0) H n fun v22 H n=>
 onV (buildV [(.int .i64 (.ofNat 0) 0), (.int .i64 (.ofNat 0) 0), (.int .i64 (.ofNat 0) 0), (.int .i64 (.ofNat 0) 0), (.str 0 0), (.str 0 0), (.bool false), .nils, (.str 0 0), (.bool false), (.str 0 0)] [(0, 1, .c (.int .i64 (.ofNat 16) 0)), (1, 2, .c v17), (4, 1, .c v19), (7, 1, .c v22)]) fun v23=>
 stV 11 v4 v23 H n fun v24 H n=>
 s_f241_j6 lp G call k v2 v4 H n) (s_f241_j6 lp G call k v2 v4 H n)
noncomputable def s_f242_j3 (lp : LpT) (G : Roms) (call : CallT) (k : KV) (a0 a2 a4 a10 : V) (H : Heap) (n : Nat) : Prop :=
 onV (B2.ev .sub a2 a10) fun v4=>
 call 260 [a0, v4, a2, a10, a4] H n fun v5 H n=>
 k (.tup []) H n
noncomputable def s_f242_l6 (lp : LpT) (G : Roms) (call : CallT) (k : KV) (ih6 : (V × V × V × V × V × Heap × Nat) → Prop) (a0 a2 a4 a10 a11 : V) (H : Heap) (n : Nat) : Prop :=
 onV (eqV (.one .int) true a10 a11) fun v7=>
 onTst v7 true (onV (B2.ev .gtr a10 a11) fun v8=>
 onTst v8 true (onV (B2.ev .sub a2 a10) fun v9=>
 call 260 [a0, v9, a2, a11, a4] H n fun v10 H n=>
 onV (B2.ev .sub a10 a11) fun v11=>
 ih6 (a0, a2, a4, v11, a11, H, n)) (onV (B2.ev .sub a2 a10) fun v12=>
 onV (B2.ev .add a2 a11) fun v13=>
 onV (B2.ev .sub v13 a10) fun v14=>
 call 260 [a0, v12, v14, a10, a4] H n fun v15 H n=>
 onV (B2.ev .sub a11 a10) fun v16=>
 ih6 (a0, a2, a4, a10, v16, H, n))) (s_f242_j3 lp G call k a0 a2 a4 a10 H n)
noncomputable def s_f242_l6b (lp : LpT) (G : Roms) (call : CallT) (k : KV) : ((V × V × V × V × V × Heap × Nat) → Prop) → (V × V × V × V × V × Heap × Nat) → Prop := fun ih6 s => s_f242_l6 lp G call k ih6 s.1 s.2.1 s.2.2.1 s.2.2.2.1 s.2.2.2.2.1 s.2.2.2.2.2.1 s.2.2.2.2.2.2
noncomputable def s_f242 (lp : LpT) (G : Roms) (call : CallT) (a0 a1 a2 a3 a4 : V) (H : Heap) (n : Nat) (k : KV) : Prop :=
 onV (B2.ev .sub a2 a1) fun v1=>
 onV (B2.ev .sub a3 a2) fun v2=>
 lp (V × V × V × V × V × Heap × Nat) (s_f242_l6b lp G call k) (a0, a2, a4, v1, v2, H, n)
noncomputable def s_f243_j3 (lp : LpT) (G : Roms) (call : CallT) (k : KV) (a0 a2 a4 a10 : V) (H : Heap) (n : Nat) : Prop :=
 onV (B2.ev .sub a2 a10) fun v4=>
 call 261 [a0, v4, a2, a10, a4] H n fun v5 H n=>
 k (.tup []) H n
noncomputable def s_f243_l6 (lp : LpT) (G : Roms) (call : CallT) (k : KV) (ih6 : (V × V × V × V × V × Heap × Nat) → Prop) (a0 a2 a4 a10 a11 : V) (H : Heap) (n : Nat) : Prop :=
 onV (eqV (.one .int) true a10 a11) fun v7=>
 onTst v7 true (onV (B2.ev .gtr a10 a11) fun v8=>
 onTst v8 true (onV (B2.ev .sub a2 a10) fun v9=>
 call 261 [a0, v9, a2, a11, a4] H n fun v10 H n=>
 onV (B2.ev .sub a10 a11) fun v11=>
 ih6 (a0, a2, a4, v11, a11, H, n)) (onV (B2.ev .sub a2 a10) fun v12=>
 onV (B2.ev .add a2 a11) fun v13=>
 onV (B2.ev .sub v13 a10) fun v14=>
 call 261 [a0, v12, v14, a10, a4] H n fun v15 H n=>
 onV (B2.ev .sub a11 a10) fun v16=>
 ih6 (a0, a2, a4, a10, v16, H, n))) (s_f243_j3 lp G call k a0 a2 a4 a10 H n)
noncomputable def s_f243_l6b (lp : LpT) (G : Roms) (call : CallT) (k : KV) : ((V × V × V × V × V × Heap × Nat) → Prop) → (V × V × V × V × V × Heap × Nat) → Prop := fun ih6 s => s_f243_l6 lp G call k ih6 s.1 s.2.1 s.2.2.1 s.2.2.2.1 s.2.2.2.2.1 s.2.2.2.2.2.1 s.2.2.2.2.2.2
noncomputable def s_f243 (lp : LpT) (G : Roms) (call : CallT) (a0 a1 a2 a3 a4 : V) (H : Heap) (n : Nat) (k : KV) : Prop :=
 onV (B2.ev .sub a2 a1) fun v1=>
 onV (B2.ev .sub a3 a2) fun v2=>
 lp (V × V × V × V × V × Heap × Nat) (s_f243_l6b lp G call k) (a0, a2, a4, v1, v2, H, n)
noncomputable def s_f244_l13 (lp : LpT) (G : Roms) (call : CallT) (k : KV) (ih13 : (V × V × V × V × V × Heap × Nat) → Prop) (a0 a7 a21 a22 a23 : V) (H : Heap) (n : Nat) : Prop :=
 onV (B2.ev .lss a23 a22) fun v14=>
 onTst v14 true (onV (iaddrV 11 a21 a23) fun v15=>
 onV (ldnV 11 v15 G H) fun v16=>
 onA (aAlloc 11 [[(.int .i64 (.ofNat 0) 0), (.int .i64 (.ofNat 0) 0), (.int .i64 (.ofNat 0) 0), (.int .i64 (.ofNat 0) 0), (.str 0 0), (.str 0 0), (.bool false), .nils, (.str 0 0), (.bool false), (.str 0 0)]] E0) H n fun v17 H n=>
 stV 11 v17 v16 H n fun v18 H n=>
 onV (nilckV a0) fun v19=>
 onV (paddV 0 v19) fun v20=>
 onV (ld1V v20 G H) fun v21=>
 onV (paddV 8 v17) fun v22=>
 onV (ldnV 2 v22 G H) fun v23=>
 onV (paddV 2 a7) fun v24=>
 onV (ld1V v24 G H) fun v25=>
 onV (iaddrV 2 v25 a23) fun v26=>
 onV (ldnV 2 v26 G H) fun v27=>
 onV (paddV 1 v17) fun v28=>
 onV (ldnV 2 v28 G H) fun v29=>
 call 190 [v21, v23, v27] H n fun v30 H n=>
 onV (ldnV 2 v28 G H) fun v=>onB (vsame v v29) <|
 call 152 [a0, v30, (.int .i64 (.ofNat 24) 0), v29] H n fun v31 H n=>
 onV (B2.ev .add a23 (.int .i64 (.ofNat 1) 0)) fun v32=>
 ih13 (a0, a7, a21, a22, v32, H, n)) (k (.tup []) H n)
noncomputable def s_f244_l13b (lp : LpT) (G : Roms) (call : CallT) (k : KV) : ((V × V × V × V × V × Heap × Nat) → Prop) → (V × V × V × V × V × Heap × Nat) → Prop := fun ih13 s => s_f244_l13 lp G call k ih13 s.1 s.2.1 s.2.2.1 s.2.2.2.1 s.2.2.2.2.1 s.2.2.2.2.2.1 s.2.2.2.2.2.2
noncomputable def s_f244 (lp : LpT) (G : Roms) (call : CallT) (a0 a1 a2 a3 : V) (H : Heap) (n : Nat) (k : KV) : Prop :=
 onA (aBoxV a1) H n fun v1 H n=>
 onA (aBoxV a3) H n fun v2 H n=>
 onV (lenV a2) fun v3=>
 onV (paddV 2 v2) fun v4=>
 onV (ld1V v4 G H) fun v5=>
 onV (lenV v5) fun v6=>
 onV (eqV (.one .int) false v3 v6) fun v7=>
 onV (paddV 1 v1) fun v8=>
 onV (ldnV 2 v8 G H) fun v9=>
 call 152 [a0, v7, (.int .i64 (.ofNat 25) 0), v9] H n fun v10 H n=>
 onV (notV v10) fun v11=>
 onTst v11 true (k (.tup []) H n) (onV (lenV a2) fun v12=>
 lp (V × V × V × V × V × Heap × Nat) (s_f244_l13b lp G call k) (a0, v2, a2, v12, (.int .i64 (.ofNat 0) 0), H, n))
noncomputable def s_f245_j6 (lp : LpT) (G : Roms) (call : CallT) (k : KV) (a7 : V) (H : Heap) (n : Nat) : Prop :=
 k a7 H n
noncomputable def s_f245 (lp : LpT) (G : Roms) (call : CallT) (a0 a1 a2 : V) (H : Heap) (n : Nat) (k : KV) : Prop :=
 onA (aBoxV a1) H n fun v1 H n=>
 onA (aBoxV a2) H n fun v2 H n=>
 onV (nilckV a0) fun v3=>
 onV (ld1V v3 G H) fun v4=>
 call 262 [v4, (.fn 263 [] [v2, v1])] H n fun v5 H n=>
 onV (B2.ev .lss v5 (.int .i64 (.ofNat 0) 0)) fun v7=>
 onTst v7 true (onV (nilckV a0) fun v8=>
 onV (ld1V v8 G H) fun v9=>
 onV (lenV v9) fun v10=>
 onV (nilckV a0) fun v11=>
 onV (ld1V v11 G H) fun v12=>
 onV (ldnV 4 v1 G H) fun v13=>
 onA (aBslice 4 1 [(.str 0 0), (.str 0 0), (.bool false), (.str 0 0)] [(0, .c v13)] E0) H n fun v14 H n=>
 appV 4 56 v12 v14 G H n fun v15 H n=>
 onV (nilckV a0) fun v16=>
 stV 1 v16 v15 H n fun v17 H n=>
 s_f245_j6 lp G call k v10 H n) (s_f245_j6 lp G call k v5 H n)
noncomputable def s_f246 (lp : LpT) (G : Roms) (call : CallT) (a0 a1 : V) (H : Heap) (n : Nat) (k : KV) : Prop :=
 onA (aBoxV a0) H n fun v1 H n=>
 onA (aBoxV a1) H n fun v2 H n=>
 onV (ldnV 4 v1 G H) fun v3=>
 onV (ldnV 4 v2 G H) fun v4=>
 onV (eqV (.agg [.str, .str, .bool, .str]) false v3 v4) fun v5=>
 k v5 H n
noncomputable def s_f247 (lp : LpT) (G : Roms) (call : CallT) (a0 a1 a2 : V) (H : Heap) (n : Nat) (k : KV) : Prop :=
 onA (aBoxV a0) H n fun v1 H n=>
 onV (ld1V a1 G H) fun v2=>
 onV (ldnV 2 a2 G H) fun v3=>
 onV (ldnV 2 v1 G H) fun v4=>
 callvV v2 [v3, v4] call H n fun v5 H n=>
 k v5 H n
noncomputable def s_f248 (lp : LpT) (G : Roms) (call : CallT) (a0 a1 : V) (H : Heap) (n : Nat) (k : KV) : Prop :=
 onV (paddV 0 a0) fun v1=>
 onV (ld1V v1 G H) fun v2=>
 onV (eqV (.one .int) false v2 (.int .i64 (.ofNat 17) 0)) fun v3=>
 onTst v3 true (onV (ld1V a1 G H) fun v4=>
 onV (paddV 7 a0) fun v5=>
 onV (ld1V v5 G H) fun v6=>
 onV (iaddrV 11 v6 (.int .i64 (.ofNat 1) 0)) fun v7=>
 onV (ldnV 11 v7 G H) fun v8=>
 call 194 [v4, v8] H n fun v9 H n=>
 k (.tup []) H n) (onV (ld1V a1 G H) fun v10=>
 call 158 [v10, (.int .i64 (.ofNat 32) 0), (.int .i64 (.ofNat 1) 0), (.int .i64 (.ofNat 1) 0)] H n fun v11 H n=>
 k (.tup []) H n)
noncomputable def s_f249 (lp : LpT) (G : Roms) (call : CallT) (a0 a1 : V) (H : Heap) (n : Nat) (k : KV) : Prop :=
 onV (paddV 0 a0) fun v1=>
 onV (ld1V v1 G H) fun v2=>
 onV (eqV (.one .int) false v2 (.int .i64 (.ofNat 17) 0)) fun v3=>
 onTst v3 true (onV (ld1V a1 G H) fun v4=>
 call 158 [v4, (.int .i64 (.ofNat 32) 0), (.int .i64 (.ofNat 0) 0), (.int .i64 (.ofNat 1) 0)] H n fun v5 H n=>
 k (.tup []) H n) (onV (ld1V a1 G H) fun v6=>
 onV (paddV 7 a0) fun v7=>
 onV (ld1V v7 G H) fun v8=>
 onV (iaddrV 11 v8 (.int .i64 (.ofNat 1) 0)) fun v9=>
 onV (ldnV 11 v9 G H) fun v10=>
 call 194 [v6, v10] H n fun v11 H n=>
 k (.tup []) H n)
noncomputable def s_f250_j6 (lp : LpT) (G : Roms) (call : CallT) (k : KV) (a7 : V) (H : Heap) (n : Nat) : Prop :=
 k a7 H n
noncomputable def s_f250 (lp : LpT) (G : Roms) (call : CallT) (a0 a1 a2 : V) (H : Heap) (n : Nat) (k : KV) : Prop :=
 onA (aBoxV a1) H n fun v1 H n=>
 onA (aBoxV a2) H n fun v2 H n=>
 onV (nilckV a0) fun v3=>
 onV (ld1V v3 G H) fun v4=>
 call 264 [v4, (.fn 265 [] [v2, v1])] H n fun v5 H n=>
 onV (B2.ev .lss v5 (.int .i64 (.ofNat 0) 0)) fun v7=>
 onTst v7 true (onV (nilckV a0) fun v8=>
 onV (ld1V v8 G H) fun v9=>
 onV (lenV v9) fun v10=>
 onV (nilckV a0) fun v11=>
 onV (ld1V v11 G H) fun v12=>
 onV (ldnV 6 v1 G H) fun v13=>
 onA (aBslice 6 1 [(.str 0 0), (.bool false), .nils, (.str 0 0), (.bool false), (.str 0 0)] [(0, .c v13)] E0) H n fun v14 H n=>
 appV 6 88 v12 v14 G H n fun v15 H n=>
 onV (nilckV a0) fun v16=>
 stV 1 v16 v15 H n fun v17 H n=>
 s_f250_j6 lp G call k v10 H n) (s_f250_j6 lp G call k v5 H n)
noncomputable def s_f251 (lp : LpT) (G : Roms) (call : CallT) (a0 a1 : V) (H : Heap) (n : Nat) (k : KV) : Prop :=
 onA (aBoxV a0) H n fun v1 H n=>
 onA (aBoxV a1) H n fun v2 H n=>
 onV (paddV 5 v1) fun v3=>
 onV (ld1V v3 G H) fun v4=>
 onV (paddV 5 v2) fun v5=>
 onV (ld1V v5 G H) fun v6=>
 onV (eqV (.one .str) false v4 v6) fun v7=>
 onG v7 true (paddV 0 v1) fun v8=>
 onG v7 true (ldnV 5 v8 G H) fun v9=>
 onG v7 true (paddV 0 v2) fun v10=>
 onG v7 true (ldnV 5 v10 G H) fun v11=>
 onGT v7 true (call 56 [v9, v11] H n) H n fun v12 H n=>
 onV (pickV v7 v12 (.bool false)) fun v13=>
 k v13 H n
noncomputable def s_f252_j6 (lp : LpT) (G : Roms) (call : CallT) (k : KV) (a7 : V) (H : Heap) (n : Nat) : Prop :=
 k a7 H n
noncomputable def s_f252 (lp : LpT) (G : Roms) (call : CallT) (a0 a1 a2 : V) (H : Heap) (n : Nat) (k : KV) : Prop :=
 onA (aBoxV a1) H n fun v1 H n=>
 onA (aBoxV a2) H n fun v2 H n=>
 onV (nilckV a0) fun v3=>
 onV (ld1V v3 G H) fun v4=>
 call 266 [v4, (.fn 267 [] [v2, v1])] H n fun v5 H n=>
 onV (B2.ev .lss v5 (.int .i64 (.ofNat 0) 0)) fun v7=>
 onTst v7 true (onV (nilckV a0) fun v8=>
 onV (ld1V v8 G H) fun v9=>
 onV (lenV v9) fun v10=>
 onV (nilckV a0) fun v11=>
 onV (ld1V v11 G H) fun v12=>
 onV (ld1V v1 G H) fun v13=>
 onA (aBslice 1 1 [(.str 0 0)] [(0, .c v13)] E0) H n fun v14 H n=>
 appV 1 16 v12 v14 G H n fun v15 H n=>
 onV (nilckV a0) fun v16=>
 stV 1 v16 v15 H n fun v17 H n=>
 s_f252_j6 lp G call k v10 H n) (s_f252_j6 lp G call k v5 H n)
noncomputable def s_f253 (lp : LpT) (G : Roms) (call : CallT) (a0 a1 : V) (H : Heap) (n : Nat) (k : KV) : Prop :=
 onV (eqV (.one .str) false a0 a1) fun v1=>
 k v1 H n
noncomputable def s_f254 (lp : LpT) (G : Roms) (call : CallT) (a0 : V) (H : Heap) (n : Nat) (k : KV) : Prop :=
 onV (eqV (.one .int) false a0 (.int .u32 (.ofNat 0) 0)) fun v1=>
 onTst v1 true (k (.int .i64 (.ofNat 32) 0) H n) (onV (negV a0) fun v2=>
 onV (B2.ev .and a0 v2) fun v3=>
 onV (B2.ev .mul v3 (.int .u32 (.ofNat 125613361) 0)) fun v4=>
 onV (B2.ev .shr v4 (.int .u64 (.ofNat 27) 0)) fun v5=>
 onV (iaddrAV 32 1 (.gptr 4 0) v5) fun v6=>
 onV (ld1V v6 G H) fun v7=>
 onV (cviV .i64 v7) fun v8=>
 k v8 H n)
noncomputable def s_f255 (lp : LpT) (G : Roms) (call : CallT) (a0 : V) (H : Heap) (n : Nat) (k : KV) : Prop :=
 onV (eqV (.one .int) false a0 (.int .u64 (.ofNat 0) 0)) fun v1=>
 onTst v1 true (k (.int .i64 (.ofNat 64) 0) H n) (onV (negV a0) fun v2=>
 onV (B2.ev .and a0 v2) fun v3=>
 onV (B2.ev .mul v3 (.int .u64 (.ofNat 285870213051353865) 0)) fun v4=>
 onV (B2.ev .shr v4 (.int .u64 (.ofNat 58) 0)) fun v5=>
 onV (iaddrAV 64 1 (.gptr 5 0) v5) fun v6=>
 onV (ld1V v6 G H) fun v7=>
 onV (cviV .i64 v7) fun v8=>
 k v8 H n)
noncomputable def s_f256 (lp : LpT) (G : Roms) (call : CallT) (a0 : V) (H : Heap) (n : Nat) (k : KV) : Prop :=
 onA (aAlloc 11 [[(.int .i64 (.ofNat 0) 0), (.int .i64 (.ofNat 0) 0), (.int .i64 (.ofNat 0) 0), (.int .i64 (.ofNat 0) 0), (.str 0 0), (.str 0 0), (.bool false), .nils, (.str 0 0), (.bool false), (.str 0 0)]] E0) H n fun v1 H n=>
 onV (ld1V a0 G H) fun v2=>
 onA (aBslice 1 2 [(.str 0 0)] [(0, .c (.str 1 43)), (1, .c (.str 1 45))] E0) H n fun v3 H n=>
 call 257 [v2, (.fn 258 [] [a0]), v3] H n fun v4 H n=>
 stV 11 v1 v4 H n fun v5 H n=>
 onO (getVs [.cn v1 11] G H) fun l => k (oneV l) H n
noncomputable def s_f257_j5 (lp : LpT) (G : Roms) (call : CallT) (k : KV) (a6 a7 : V) (H : Heap) (n : Nat) : Prop :=
 onV (ldnV 11 a7 G H) fun v6=>
 stV 11 a6 v6 H n fun v7 H n=>
 onO (getVs [.cn a6 11] G H) fun l => k (oneV l) H n
noncomputable def s_f257_l8 (lp : LpT) (G : Roms) (call : CallT) (k : KV) (ih8 : (V × V × V × V × V × Heap × Nat) → Prop) (a0 a1 a2 a6 a7 : V) (H : Heap) (n : Nat) : Prop :=
 call 87 [a0, a2] H n fun v9 H n=>
 onTst v9 true (call 140 [a0] H n fun v10 H n=>
 onA (aAlloc 5 [[(.int .i64 (.ofNat 0) 0), (.str 0 0), (.int .i64 (.ofNat 0) 0), (.int .i64 (.ofNat 0) 0), (.int .i64 (.ofNat 0) 0)]] E0) H n fun v11 H n=>
 stV 5 v11 v10 H n fun v12 H n=>
 onV (paddV 3 v11) fun v13=>
 onV (ldnV 2 v13 G H) fun v14=>
 onV (paddV 1 v11) fun v15=>
 onV (ld1V v15 G H) fun v16=>
 onV (ldnV 11 a7 G H) fun v17=>
 callvV a1 [] call H n fun v18 H n=>
 onV (ldnV 2 v13 G H) fun v=>onB (vsame v v14) <|
 onV (ld1V v15 G H) fun v=>onB (vsame v v16) <|
 onV (ldnV 11 a7 G H) fun v=>onB (vsame v v17) <|
 onA (aBslice 11 2 [(.int .i64 (.ofNat 0) 0), (.int .i64 (.ofNat 0) 0), (.int .i64 (.ofNat 0) 0), (.int .i64 (.ofNat 0) 0), (.str 0 0), (.str 0 0), (.bool false), .nils, (.str 0 0), (.bool false), (.str 0 0)] [(0, .c v17), (1, .c v18)] E0) H n fun v19 H n=>
 onV (buildV [(.int .i64 (.ofNat 0) 0), (.int .i64 (.ofNat 0) 0), (.int .i64 (.ofNat 0) 0), (.int .i64 (.ofNat 0) 0), (.str 0 0), (.str 0 0), (.bool false), .nils, (.str 0 0), (.bool false), (.str 0 0)] [(0, 1, .c (.int .i64 (.ofNat 16) 0)), (1, 2, .c v14), (4, 1, .c v16), (7, 1, .c v19)]) fun v20=>
 stV 11 a7 v20 H n fun v21 H n=>
 ih8 (a0, a1, a2, a6, a7, H, n)) (s_f257_j5 lp G call k a6 a7 H n)
noncomputable def s_f257_l8b (lp : LpT) (G : Roms) (call : CallT) (k : KV) : ((V × V × V × V × V × Heap × Nat) → Prop) → (V × V × V × V × V × Heap × Nat) → Prop := fun ih8 s => s_f257_l8 lp G call k ih8 s.1 s.2.1 s.2.2.1 s.2.2.2.1 s.2.2.2.2.1 s.2.2.2.2.2.1 s.2.2.2.2.2.2
noncomputable def s_f257 (lp : LpT) (G : Roms) (call : CallT) (a0 a1 a2 : V) (H : Heap) (n : Nat) (k : KV) : Prop :=
 onA (aAlloc 11 [[(.int .i64 (.ofNat 0) 0), (.int .i64 (.ofNat 0) 0), (.int .i64 (.ofNat 0) 0), (.int .i64 (.ofNat 0) 0), (.str 0 0), (.str 0 0), (.bool false), .nils, (.str 0 0), (.bool false), (.str 0 0)]] E0) H n fun v1 H n=>
 callvV a1 [] call H n fun v2 H n=>
 onA (aAlloc 11 [[(.int .i64 (.ofNat 0) 0), (.int .i64 (.ofNat 0) 0), (.int .i64 (.ofNat 0) 0), (.int .i64 (.ofNat 0) 0), (.str 0 0), (.str 0 0), (.bool false), .nils, (.str 0 0), (.bool false), (.str 0 0)]] E0) H n fun v3 H n=>
 stV 11 v3 v2 H n fun v4 H n=>
 lp (V × V × V × V × V × Heap × Nat) (s_f257_l8b lp G call k) (a0, a1, a2, v1, v3, H, n)
noncomputable def s_f258 (lp : LpT) (G : Roms) (call : CallT) (a0 : V) (H : Heap) (n : Nat) (k : KV) : Prop :=
 onA (aAlloc 11 [[(.int .i64 (.ofNat 0) 0), (.int .i64 (.ofNat 0) 0), (.int .i64 (.ofNat 0) 0), (.int .i64 (.ofNat 0) 0), (.str 0 0), (.str 0 0), (.bool false), .nils, (.str 0 0), (.bool false), (.str 0 0)]] E0) H n fun v1 H n=>
 onV (ld1V a0 G H) fun v2=>
 onV (ld1V a0 G H) fun v3=>
 onA (aBslice 1 3 [(.str 0 0)] [(0, .c (.str 1 42)), (1, .c (.str 1 47)), (2, .c (.str 1 37))] E0) H n fun v4 H n=>
 call 257 [v2, (.fn 259 [v3] []), v4] H n fun v5 H n=>
 stV 11 v1 v5 H n fun v6 H n=>
 onO (getVs [.cn v1 11] G H) fun l => k (oneV l) H n
noncomputable def s_f259_j14 (lp : LpT) (G : Roms) (call : CallT) (k : KV) (a2 a6 a63 : V) (H : Heap) (n : Nat) : Prop :=
 onV (ldnV 11 a6 G H) fun v15=>
 stV 11 a2 v15 H n fun v16 H n=>
 exDef 210 (tupL a63) call H n fun H n => onO (getVs [.cn a2 11] G H) fun l => k (oneV l) H n
noncomputable def s_f259_j23 (lp : LpT) (G : Roms) (call : CallT) (k : KV) (ih17 : (V × V × V × V × Heap × Nat) → Prop) (a0 a2 a6 a7 a8 a63 : V) (H : Heap) (n : Nat) : Prop :=
 onV (paddV 3 a7) fun v24=>
 onV (ldnV 2 v24 G H) fun v25=>
 onV (ldnV 11 a6 G H) fun v26=>
 onA (aBslice 11 1 [(.int .i64 (.ofNat 0) 0), (.int .i64 (.ofNat 0) 0), (.int .i64 (.ofNat 0) 0), (.int .i64 (.ofNat 0) 0), (.str 0 0), (.str 0 0), (.bool false), .nils, (.str 0 0), (.bool false), (.str 0 0)] [(0, .c v26)] E0) H n fun v27 H n=>
 call 83 [a0, (.int .i64 (.ofNat 2) 0)] H n fun v28 H n=>
 onV (ldnV 2 v24 G H) fun v=>onB (vsame v v25) <|
 onV (ldnV 11 a6 G H) fun v=>onB (vsame v v26) <|
 call 116 [v28] H n fun v29 H n=>
 onV (ldnV 2 v24 G H) fun v=>onB (vsame v v25) <|
 onV (ldnV 11 a6 G H) fun v=>onB (vsame v v26) <|
 onV (buildV [(.int .i64 (.ofNat 0) 0), (.int .i64 (.ofNat 0) 0), (.int .i64 (.ofNat 0) 0), (.int .i64 (.ofNat 0) 0), (.str 0 0), (.str 0 0), (.bool false), .nils, (.str 0 0), (.bool false), (.str 0 0)] [(0, 1, .c a8), (1, 2, .c v25), (5, 2, .c v29), (7, 1, .c v27)]) fun v30=>
 stV 11 a6 v30 H n fun v31 H n=>
 ih17 (a0, a2, a6, a63, H, n)
noncomputable def s_f259_l17 (lp : LpT) (G : Roms) (call : CallT) (k : KV) (ih17 : (V × V × V × V × Heap × Nat) → Prop) (a0 a2 a6 a63 : V) (H : Heap) (n : Nat) : Prop :=
 onA (aBslice 1 2 [(.str 0 0)] [(0, .c (.str 2 29537)), (1, .c (.str 2 29545))] E0) H n fun v18 H n=>
 call 87 [a0, v18] H n fun v19 H n=>
 onTst v19 true (call 140 [a0] H n fun v20 H n=>
 onA (aAlloc 5 [[(.int .i64 (.ofNat 0) 0), (.str 0 0), (.int .i64 (.ofNat 0) 0), (.int .i64 (.ofNat 0) 0), (.int .i64 (.ofNat 0) 0)]] E0) H n fun v21 H n=>
 stV 5 v21 v20 H n fun v22 H n=>
 onV (paddV 1 v21) fun v32=>
 onV (ld1V v32 G H) fun v33=>
 onV (eqV (.one .str) false v33 (.str 2 29545)) fun v34=>
 onTst v34 true (s_f259_j23 lp G call k ih17 a0 a2 a6 v21 (.int .i64 (.ofNat 20) 0) a63 H n) (s_f259_j23 lp G call k ih17 a0 a2 a6 v21 (.int .i64 (.ofNat 19) 0) a63 H n)) (s_f259_j14 lp G call k a2 a6 a63 H n)
noncomputable def s_f259_l17b (lp : LpT) (G : Roms) (call : CallT) (k : KV) : ((V × V × V × V × Heap × Nat) → Prop) → (V × V × V × V × Heap × Nat) → Prop := fun ih17 s => s_f259_l17 lp G call k ih17 s.1 s.2.1 s.2.2.1 s.2.2.2.1 s.2.2.2.2.1 s.2.2.2.2.2
noncomputable def s_f259_j10 (lp : LpT) (G : Roms) (call : CallT) (k : KV) (a0 a2 a63 : V) (H : Heap) (n : Nat) : Prop :=
 call 268 [a0] H n fun v11 H n=>
 onA (aAlloc 11 [[(.int .i64 (.ofNat 0) 0), (.int .i64 (.ofNat 0) 0), (.int .i64 (.ofNat 0) 0), (.int .i64 (.ofNat 0) 0), (.str 0 0), (.str 0 0), (.bool false), .nils, (.str 0 0), (.bool false), (.str 0 0)]] E0) H n fun v12 H n=>
 stV 11 v12 v11 H n fun v13 H n=>
 lp (V × V × V × V × Heap × Nat) (s_f259_l17b lp G call k) (a0, a2, v12, a63, H, n)
noncomputable def s_f259_l37 (lp : LpT) (G : Roms) (call : CallT) (k : KV) (ih37 : (V × V × V × V × V × V × V × Heap × Nat) → Prop) (a0 a2 a3 a16 a17 a18 a63 : V) (H : Heap) (n : Nat) : Prop :=
 onV (B2.ev .lss a18 a17) fun v38=>
 onTst v38 true (onV (iaddrV 1 a16 a18) fun v39=>
 onV (ld1V v39 G H) fun v40=>
 onA (aBslice 1 1 [(.str 0 0)] [(0, .c v40)] E0) H n fun v41 H n=>
 call 87 [a0, v41] H n fun v42 H n=>
 onTst v42 true (call 183 [a0] H n fun v43 H n=>
 deferV a63 v43 [] H n fun v44 H n=>
 call 140 [a0] H n fun v45 H n=>
 onA (aBslice 1 2 [(.int .i64 (.ofNat 0) 0)] [(0, .c (.int .i64 (.ofNat 14) 0)), (1, .c (.int .i64 (.ofNat 15) 0))] E0) H n fun v46 H n=>
 onV (iaddrV 1 v46 a18) fun v47=>
 onV (ld1V v47 G H) fun v48=>
 onV (ldnV 2 a3 G H) fun v49=>
 call 259 [a0] H n fun v50 H n=>
 onV (ld1V v47 G H) fun v=>onB (vsame v v48) <|
 onV (ldnV 2 a3 G H) fun v=>onB (vsame v v49) <|
 onA (aBslice 11 1 [(.int .i64 (.ofNat 0) 0), (.int .i64 (.ofNat 0) 0), (.int .i64 (.ofNat 0) 0), (.int .i64 (.ofNat 0) 0), (.str 0 0), (.str 0 0), (.bool false), .nils, (.str 0 0), (.bool false), (.str 0 0)] [(0, .c v50)] E0) H n fun v51 H n=>
 stV 11 a2 (.agg [(.int .i64 (.ofNat 0) 0), (.int .i64 (.ofNat 0) 0), (.int .i64 (.ofNat 0) 0), (.int .i64 (.ofNat 0) 0), (.str 0 0), (.str 0 0), (.bool false), .nils, (.str 0 0), (.bool false), (.str 0 0)]) H n fun v52 H n=>
 onV (ld1V v47 G H) fun v=>onB (vsame v v48) <|
 onV (ldnV 2 a3 G H) fun v=>onB (vsame v v49) <|
 onV (paddV 0 a2) fun v53=>
 stV 1 v53 v48 H n fun v54 H n=>
 onV (ldnV 2 a3 G H) fun v=>onB (vsame v v49) <|
 onV (paddV 1 a2) fun v55=>
 stV 2 v55 v49 H n fun v56 H n=>
 onV (paddV 7 a2) fun v57=>
 stV 1 v57 v51 H n fun v58 H n=>
 exDef 210 (tupL v44) call H n fun H n => onO (getVs [.cn a2 11] G H) fun l => k (oneV l) H n) (onV (B2.ev .add a18 (.int .i64 (.ofNat 1) 0)) fun v59=>
 ih37 (a0, a2, a3, a16, a17, v59, a63, H, n))) (s_f259_j10 lp G call k a0 a2 a63 H n)
noncomputable def s_f259_l37b (lp : LpT) (G : Roms) (call : CallT) (k : KV) : ((V × V × V × V × V × V × V × Heap × Nat) → Prop) → (V × V × V × V × V × V × V × Heap × Nat) → Prop := fun ih37 s => s_f259_l37 lp G call k ih37 s.1 s.2.1 s.2.2.1 s.2.2.2.1 s.2.2.2.2.1 s.2.2.2.2.2.1 s.2.2.2.2.2.2.1 s.2.2.2.2.2.2.2.1 s.2.2.2.2.2.2.2.2
noncomputable def s_f259 (lp : LpT) (G : Roms) (call : CallT) (a0 : V) (H : Heap) (n : Nat) (k : KV) : Prop :=
 onA (aAlloc 11 [[(.int .i64 (.ofNat 0) 0), (.int .i64 (.ofNat 0) 0), (.int .i64 (.ofNat 0) 0), (.int .i64 (.ofNat 0) 0), (.str 0 0), (.str 0 0), (.bool false), .nils, (.str 0 0), (.bool false), (.str 0 0)]] E0) H n fun v1 H n=>
 onV (nilckV a0) fun v2=>
 onV (paddV 0 v2) fun v3=>
 onV (ld1V v3 G H) fun v4=>
 onV (iaddrV 5 v4 (.int .i64 (.ofNat 0) 0)) fun v5=>
 onV (paddV 3 v5) fun v6=>
 onV (ldnV 2 v6 G H) fun v7=>
 onA (aAlloc 2 [[(.int .i64 (.ofNat 0) 0), (.int .i64 (.ofNat 0) 0)]] E0) H n fun v8 H n=>
 stV 2 v8 v7 H n fun v9 H n=>
 onA (aBslice 1 2 [(.str 0 0)] [(0, .c (.str 1 45)), (1, .c (.str 1 33))] E0) H n fun v35 H n=>
 onV (lenV v35) fun v36=>
 lp (V × V × V × V × V × V × V × Heap × Nat) (s_f259_l37b lp G call k) (a0, v1, v8, v35, v36, (.int .i64 (.ofNat 0) 0), .undef, H, n)
noncomputable def s_f260_l1 (lp : LpT) (G : Roms) (call : CallT) (k : KV) (ih1 : (V × V × V × V × V × Heap × Nat) → Prop) (a0 a1 a2 a3 a10 : V) (H : Heap) (n : Nat) : Prop :=
 onV (B2.ev .lss a10 a3) fun v2=>
 onTst v2 true (onV (B2.ev .add a1 a10) fun v3=>
 onV (B2.ev .add a2 a10) fun v4=>
 onV (B2.ev .add a2 a10) fun v5=>
 onV (iaddrV 3 a0 v5) fun v6=>
 onV (ldnV 3 v6 G H) fun v7=>
 onV (B2.ev .add a1 a10) fun v8=>
 onV (iaddrV 3 a0 v8) fun v9=>
 onV (ldnV 3 v9 G H) fun v10=>
 onV (iaddrV 3 a0 v3) fun v11=>
 stV 3 v11 v7 H n fun v12 H n=>
 onV (iaddrV 3 a0 v4) fun v13=>
 stV 3 v13 v10 H n fun v14 H n=>
 onV (B2.ev .add a10 (.int .i64 (.ofNat 1) 0)) fun v15=>
 ih1 (a0, a1, a2, a3, v15, H, n)) (k (.tup []) H n)
noncomputable def s_f260_l1b (lp : LpT) (G : Roms) (call : CallT) (k : KV) : ((V × V × V × V × V × Heap × Nat) → Prop) → (V × V × V × V × V × Heap × Nat) → Prop := fun ih1 s => s_f260_l1 lp G call k ih1 s.1 s.2.1 s.2.2.1 s.2.2.2.1 s.2.2.2.2.1 s.2.2.2.2.2.1 s.2.2.2.2.2.2
noncomputable def s_f260 (lp : LpT) (G : Roms) (call : CallT) (a0 a1 a2 a3 a4 : V) (H : Heap) (n : Nat) (k : KV) : Prop :=
 lp (V × V × V × V × V × Heap × Nat) (s_f260_l1b lp G call k) (a0, a1, a2, a3, (.int .i64 (.ofNat 0) 0), H, n)
noncomputable def s_f261_l1 (lp : LpT) (G : Roms) (call : CallT) (k : KV) (ih1 : (V × V × V × V × V × Heap × Nat) → Prop) (a0 a1 a2 a3 a10 : V) (H : Heap) (n : Nat) : Prop :=
 onV (B2.ev .lss a10 a3) fun v2=>
 onTst v2 true (onV (B2.ev .add a1 a10) fun v3=>
 onV (B2.ev .add a2 a10) fun v4=>
 onV (B2.ev .add a2 a10) fun v5=>
 onV (iaddrV 5 a0 v5) fun v6=>
 onV (ldnV 5 v6 G H) fun v7=>
 onV (B2.ev .add a1 a10) fun v8=>
 onV (iaddrV 5 a0 v8) fun v9=>
 onV (ldnV 5 v9 G H) fun v10=>
 onV (iaddrV 5 a0 v3) fun v11=>
 stV 5 v11 v7 H n fun v12 H n=>
 onV (iaddrV 5 a0 v4) fun v13=>
 stV 5 v13 v10 H n fun v14 H n=>
 onV (B2.ev .add a10 (.int .i64 (.ofNat 1) 0)) fun v15=>
 ih1 (a0, a1, a2, a3, v15, H, n)) (k (.tup []) H n)
noncomputable def s_f261_l1b (lp : LpT) (G : Roms) (call : CallT) (k : KV) : ((V × V × V × V × V × Heap × Nat) → Prop) → (V × V × V × V × V × Heap × Nat) → Prop := fun ih1 s => s_f261_l1 lp G call k ih1 s.1 s.2.1 s.2.2.1 s.2.2.2.1 s.2.2.2.2.1 s.2.2.2.2.2.1 s.2.2.2.2.2.2
noncomputable def s_f261 (lp : LpT) (G : Roms) (call : CallT) (a0 a1 a2 a3 a4 : V) (H : Heap) (n : Nat) (k : KV) : Prop :=
 lp (V × V × V × V × V × Heap × Nat) (s_f261_l1b lp G call k) (a0, a1, a2, a3, (.int .i64 (.ofNat 0) 0), H, n)
noncomputable def s_f262_j1 (lp : LpT) (G : Roms) (call : CallT) (k : KV) (H : Heap) (n : Nat) : Prop :=
 k (.int .i64 (.negSucc 0) 0) H n
noncomputable def s_f262_l3 (lp : LpT) (G : Roms) (call : CallT) (k : KV) (ih3 : (V × V × V × V × Heap × Nat) → Prop) (a0 a1 a7 a8 : V) (H : Heap) (n : Nat) : Prop :=
 onV (B2.ev .lss a8 a7) fun v4=>
 onTst v4 true (onV (iaddrV 4 a0 a8) fun v5=>
 onV (ldnV 4 v5 G H) fun v6=>
 callvV a1 [v6] call H n fun v7 H n=>
 onTst v7 true (k a8 H n) (onV (B2.ev .add a8 (.int .i64 (.ofNat 1) 0)) fun v8=>
 ih3 (a0, a1, a7, v8, H, n))) (s_f262_j1 lp G call k H n)
noncomputable def s_f262_l3b (lp : LpT) (G : Roms) (call : CallT) (k : KV) : ((V × V × V × V × Heap × Nat) → Prop) → (V × V × V × V × Heap × Nat) → Prop := fun ih3 s => s_f262_l3 lp G call k ih3 s.1 s.2.1 s.2.2.1 s.2.2.2.1 s.2.2.2.2.1 s.2.2.2.2.2
noncomputable def s_f262 (lp : LpT) (G : Roms) (call : CallT) (a0 a1 : V) (H : Heap) (n : Nat) (k : KV) : Prop :=
 onV (lenV a0) fun v2=>
 lp (V × V × V × V × Heap × Nat) (s_f262_l3b lp G call k) (a0, a1, v2, (.int .i64 (.ofNat 0) 0), H, n)
noncomputable def s_f263 (lp : LpT) (G : Roms) (call : CallT) (a0 a1 a2 : V) (H : Heap) (n : Nat) (k : KV) : Prop :=
 onA (aBoxV a0) H n fun v1 H n=>
 onV (ld1V a1 G H) fun v2=>
 onV (ldnV 4 a2 G H) fun v3=>
 onV (ldnV 4 v1 G H) fun v4=>
 callvV v2 [v3, v4] call H n fun v5 H n=>
 k v5 H n
noncomputable def s_f264_j1 (lp : LpT) (G : Roms) (call : CallT) (k : KV) (H : Heap) (n : Nat) : Prop :=
 k (.int .i64 (.negSucc 0) 0) H n
noncomputable def s_f264_l3 (lp : LpT) (G : Roms) (call : CallT) (k : KV) (ih3 : (V × V × V × V × Heap × Nat) → Prop) (a0 a1 a7 a8 : V) (H : Heap) (n : Nat) : Prop :=
 onV (B2.ev .lss a8 a7) fun v4=>
 onTst v4 true (onV (iaddrV 6 a0 a8) fun v5=>
 onV (ldnV 6 v5 G H) fun v6=>
 callvV a1 [v6] call H n fun v7 H n=>
 onTst v7 true (k a8 H n) (onV (B2.ev .add a8 (.int .i64 (.ofNat 1) 0)) fun v8=>
 ih3 (a0, a1, a7, v8, H, n))) (s_f264_j1 lp G call k H n)
noncomputable def s_f264_l3b (lp : LpT) (G : Roms) (call : CallT) (k : KV) : ((V × V × V × V × Heap × Nat) → Prop) → (V × V × V × V × Heap × Nat) → Prop := fun ih3 s => s_f264_l3 lp G call k ih3 s.1 s.2.1 s.2.2.1 s.2.2.2.1 s.2.2.2.2.1 s.2.2.2.2.2
noncomputable def s_f264 (lp : LpT) (G : Roms) (call : CallT) (a0 a1 : V) (H : Heap) (n : Nat) (k : KV) : Prop :=
 onV (lenV a0) fun v2=>
 lp (V × V × V × V × Heap × Nat) (s_f264_l3b lp G call k) (a0, a1, v2, (.int .i64 (.ofNat 0) 0), H, n)
noncomputable def s_f265 (lp : LpT) (G : Roms) (call : CallT) (a0 a1 a2 : V) (H : Heap) (n : Nat) (k : KV) : Prop :=
 onA (aBoxV a0) H n fun v1 H n=>
 onV (ld1V a1 G H) fun v2=>
 onV (ldnV 6 a2 G H) fun v3=>
 onV (ldnV 6 v1 G H) fun v4=>
 callvV v2 [v3, v4] call H n fun v5 H n=>
 k v5 H n
noncomputable def s_f266_j1 (lp : LpT) (G : Roms) (call : CallT) (k : KV) (H : Heap) (n : Nat) : Prop :=
 k (.int .i64 (.negSucc 0) 0) H n
noncomputable def s_f266_l3 (lp : LpT) (G : Roms) (call : CallT) (k : KV) (ih3 : (V × V × V × V × Heap × Nat) → Prop) (a0 a1 a7 a8 : V) (H : Heap) (n : Nat) : Prop :=
 onV (B2.ev .lss a8 a7) fun v4=>
 onTst v4 true (onV (iaddrV 1 a0 a8) fun v5=>
 onV (ld1V v5 G H) fun v6=>
 callvV a1 [v6] call H n fun v7 H n=>
 onTst v7 true (k a8 H n) (onV (B2.ev .add a8 (.int .i64 (.ofNat 1) 0)) fun v8=>
 ih3 (a0, a1, a7, v8, H, n))) (s_f266_j1 lp G call k H n)
noncomputable def s_f266_l3b (lp : LpT) (G : Roms) (call : CallT) (k : KV) : ((V × V × V × V × Heap × Nat) → Prop) → (V × V × V × V × Heap × Nat) → Prop := fun ih3 s => s_f266_l3 lp G call k ih3 s.1 s.2.1 s.2.2.1 s.2.2.2.1 s.2.2.2.2.1 s.2.2.2.2.2
noncomputable def s_f266 (lp : LpT) (G : Roms) (call : CallT) (a0 a1 : V) (H : Heap) (n : Nat) (k : KV) : Prop :=
 onV (lenV a0) fun v2=>
 lp (V × V × V × V × Heap × Nat) (s_f266_l3b lp G call k) (a0, a1, v2, (.int .i64 (.ofNat 0) 0), H, n)
noncomputable def s_f267 (lp : LpT) (G : Roms) (call : CallT) (a0 a1 a2 : V) (H : Heap) (n : Nat) (k : KV) : Prop :=
 onV (ld1V a1 G H) fun v1=>
 onV (ld1V a2 G H) fun v2=>
 callvV v1 [v2, a0] call H n fun v3 H n=>
 k v3 H n
noncomputable def s_f268_l5 (lp : LpT) (G : Roms) (call : CallT) (k : KV) (ih5 : (V × V × V × Heap × Nat) → Prop) (a0 a2 a3 : V) (H : Heap) (n : Nat) : Prop :=
 onV (nilckV a0) fun v6=>
 onV (paddV 0 v6) fun v7=>
 onV (ld1V v7 G H) fun v8=>
 onV (iaddrV 5 v8 (.int .i64 (.ofNat 0) 0)) fun v9=>
 onV (paddV 3 v9) fun v10=>
 onV (ldnV 2 v10 G H) fun v11=>
 onA (aAlloc 2 [[(.int .i64 (.ofNat 0) 0), (.int .i64 (.ofNat 0) 0)]] E0) H n fun v12 H n=>
 stV 2 v12 v11 H n fun v13 H n=>
 call 84 [a0, (.str 1 91)] H n fun v14 H n=>
 onTst v14 true (onV (ldnV 2 v12 G H) fun v15=>
 onV (ldnV 11 a3 G H) fun v16=>
 call 211 [a0] H n fun v17 H n=>
 onV (ldnV 2 v12 G H) fun v=>onB (vsame v v15) <|
 onV (ldnV 11 a3 G H) fun v=>onB (vsame v v16) <|
 onA (aBslice 11 2 [(.int .i64 (.ofNat 0) 0), (.int .i64 (.ofNat 0) 0), (.int .i64 (.ofNat 0) 0), (.int .i64 (.ofNat 0) 0), (.str 0 0), (.str 0 0), (.bool false), .nils, (.str 0 0), (.bool false), (.str 0 0)] [(0, .c v16), (1, .c v17)] E0) H n fun v18 H n=>
 onV (buildV [(.int .i64 (.ofNat 0) 0), (.int .i64 (.ofNat 0) 0), (.int .i64 (.ofNat 0) 0), (.int .i64 (.ofNat 0) 0), (.str 0 0), (.str 0 0), (.bool false), .nils, (.str 0 0), (.bool false), (.str 0 0)] [(0, 1, .c (.int .i64 (.ofNat 12) 0)), (1, 2, .c v15), (7, 1, .c v18)]) fun v19=>
 stV 11 a3 v19 H n fun v20 H n=>
 onA (aBslice 1 1 [(.str 0 0)] [(0, .c (.str 1 93))] E0) H n fun v21 H n=>
 call 82 [a0, v21] H n fun v22 H n=>
 ih5 (a0, a2, a3, H, n)) (call 84 [a0, (.str 1 46)] H n fun v23 H n=>
 onTst v23 true (onV (ldnV 11 a3 G H) fun v24=>
 onV (ldnV 2 v12 G H) fun v25=>
 call 270 [a0, v24, v25] H n fun v26 H n=>
 stV 11 a3 v26 H n fun v27 H n=>
 ih5 (a0, a2, a3, H, n)) (onV (ldnV 11 a3 G H) fun v28=>
 stV 11 a2 v28 H n fun v29 H n=>
 onO (getVs [.cn a2 11] G H) fun l => k (oneV l) H n))
noncomputable def s_f268_l5b (lp : LpT) (G : Roms) (call : CallT) (k : KV) : ((V × V × V × Heap × Nat) → Prop) → (V × V × V × Heap × Nat) → Prop := fun ih5 s => s_f268_l5 lp G call k ih5 s.1 s.2.1 s.2.2.1 s.2.2.2.1 s.2.2.2.2
noncomputable def s_f268 (lp : LpT) (G : Roms) (call : CallT) (a0 : V) (H : Heap) (n : Nat) (k : KV) : Prop :=
 onA (aAlloc 11 [[(.int .i64 (.ofNat 0) 0), (.int .i64 (.ofNat 0) 0), (.int .i64 (.ofNat 0) 0), (.int .i64 (.ofNat 0) 0), (.str 0 0), (.str 0 0), (.bool false), .nils, (.str 0 0), (.bool false), (.str 0 0)]] E0) H n fun v1 H n=>
 call 269 [a0] H n fun v2 H n=>
 onA (aAlloc 11 [[(.int .i64 (.ofNat 0) 0), (.int .i64 (.ofNat 0) 0), (.int .i64 (.ofNat 0) 0), (.int .i64 (.ofNat 0) 0), (.str 0 0), (.str 0 0), (.bool false), .nils, (.str 0 0), (.bool false), (.str 0 0)]] E0) H n fun v3 H n=>
 stV 11 v3 v2 H n fun v4 H n=>
 lp (V × V × V × Heap × Nat) (s_f268_l5b lp G call k) (a0, v1, v3, H, n)
noncomputable def s_f269_j14 (lp : LpT) (G : Roms) (call : CallT) (k : KV) (a2 a4 : V) (H : Heap) (n : Nat) : Prop :=
 onV (ldnV 11 a4 G H) fun v15=>
 stV 11 a2 v15 H n fun v16 H n=>
 onO (getVs [.cn a2 11] G H) fun l => k (oneV l) H n
noncomputable def s_f269 (lp : LpT) (G : Roms) (call : CallT) (a0 : V) (H : Heap) (n : Nat) (k : KV) : Prop :=
 onA (aAlloc 11 [[(.int .i64 (.ofNat 0) 0), (.int .i64 (.ofNat 0) 0), (.int .i64 (.ofNat 0) 0), (.int .i64 (.ofNat 0) 0), (.str 0 0), (.str 0 0), (.bool false), .nils, (.str 0 0), (.bool false), (.str 0 0)]] E0) H n fun v1 H n=>
 onV (nilckV a0) fun v2=>
 onV (paddV 0 v2) fun v3=>
 onV (ld1V v3 G H) fun v4=>
 onV (iaddrV 5 v4 (.int .i64 (.ofNat 0) 0)) fun v5=>
 onV (ldnV 5 v5 G H) fun v6=>
 onA (aAlloc 5 [[(.int .i64 (.ofNat 0) 0), (.str 0 0), (.int .i64 (.ofNat 0) 0), (.int .i64 (.ofNat 0) 0), (.int .i64 (.ofNat 0) 0)]] E0) H n fun v7 H n=>
 stV 5 v7 v6 H n fun v8 H n=>
 onV (paddV 3 v7) fun v9=>
 onV (ldnV 2 v9 G H) fun v10=>
 onV (buildV [(.int .i64 (.ofNat 0) 0), (.int .i64 (.ofNat 0) 0), (.int .i64 (.ofNat 0) 0), (.int .i64 (.ofNat 0) 0), (.str 0 0), (.str 0 0), (.bool false), .nils, (.str 0 0), (.bool false), (.str 0 0)] [(1, 2, .c v10)]) fun v11=>
 onA (aAlloc 11 [[(.int .i64 (.ofNat 0) 0), (.int .i64 (.ofNat 0) 0), (.int .i64 (.ofNat 0) 0), (.int .i64 (.ofNat 0) 0), (.str 0 0), (.str 0 0), (.bool false), .nils, (.str 0 0), (.bool false), (.str 0 0)]] E0) H n fun v12 H n=>
 stV 11 v12 v11 H n fun v13 H n=>
 call 40 [a0] H n fun v17 H n=>
 onV (notV v17) fun v18=>
 onTst v18 true (onV (ldnV 11 v12 G H) fun v19=>
 stV 11 v1 v19 H n fun v20 H n=>
 onO (getVs [.cn v1 11] G H) fun l => k (oneV l) H n) (onV (paddV 0 v7) fun v21=>
 onV (ld1V v21 G H) fun v22=>
 onV (eqV (.one .int) false v22 (.int .i64 (.ofNat 4) 0)) fun v23=>
 onTst v23 true (call 140 [a0] H n fun v24 H n=>
 onV (paddV 2 v7) fun v25=>
 onV (ld1V v25 G H) fun v26=>
 onV (paddV 0 v12) fun v27=>
 stV 1 v27 (.int .i64 (.ofNat 1) 0) H n fun v28 H n=>
 onV (ld1V v25 G H) fun v=>onB (vsame v v26) <|
 onV (paddV 3 v12) fun v29=>
 stV 1 v29 v26 H n fun v30 H n=>
 s_f269_j14 lp G call k v1 v12 H n) (onV (paddV 0 v7) fun v31=>
 onV (ld1V v31 G H) fun v32=>
 onV (eqV (.one .int) false v32 (.int .i64 (.ofNat 3) 0)) fun v33=>
 onTst v33 true (call 140 [a0] H n fun v34 H n=>
 onV (paddV 1 v7) fun v35=>
 onV (ld1V v35 G H) fun v36=>
 onV (paddV 0 v12) fun v37=>
 stV 1 v37 (.int .i64 (.ofNat 6) 0) H n fun v38 H n=>
 onV (ld1V v35 G H) fun v=>onB (vsame v v36) <|
 onV (paddV 4 v12) fun v39=>
 stV 1 v39 v36 H n fun v40 H n=>
 s_f269_j14 lp G call k v1 v12 H n) (onV (paddV 0 v7) fun v41=>
 onV (ld1V v41 G H) fun v42=>
 onV (eqV (.one .int) false v42 (.int .i64 (.ofNat 2) 0)) fun v43=>
 onTst v43 true (call 140 [a0] H n fun v44 H n=>
 onV (fld1 1 v44) fun v45=>
 call 116 [v45] H n fun v46 H n=>
 onV (paddV 0 v12) fun v47=>
 stV 1 v47 (.int .i64 (.ofNat 9) 0) H n fun v48 H n=>
 onV (paddV 5 v12) fun v49=>
 stV 2 v49 v46 H n fun v50 H n=>
 onA (aBslice 1 1 [(.str 0 0)] [(0, .c (.str 1 46))] E0) H n fun v51 H n=>
 call 82 [a0, v51] H n fun v52 H n=>
 call 83 [a0, (.int .i64 (.ofNat 3) 0)] H n fun v53 H n=>
 onV (paddV 4 v12) fun v54=>
 stV 1 v54 v53 H n fun v55 H n=>
 call 271 [a0] H n fun v56 H n=>
 onV (paddV 7 v12) fun v57=>
 stV 1 v57 v56 H n fun v58 H n=>
 s_f269_j14 lp G call k v1 v12 H n) (call 84 [a0, (.str 4 1702195828)] H n fun v59 H n=>
 onTst v59 true (onV (paddV 0 v12) fun v60=>
 stV 1 v60 (.int .i64 (.ofNat 2) 0) H n fun v61 H n=>
 s_f269_j14 lp G call k v1 v12 H n) (call 84 [a0, (.str 5 435728179558)] H n fun v62 H n=>
 onTst v62 true (onV (paddV 0 v12) fun v63=>
 stV 1 v63 (.int .i64 (.ofNat 3) 0) H n fun v64 H n=>
 s_f269_j14 lp G call k v1 v12 H n) (call 84 [a0, (.str 4 1819047278)] H n fun v65 H n=>
 onTst v65 true (onV (paddV 0 v12) fun v66=>
 stV 1 v66 (.int .i64 (.ofNat 4) 0) H n fun v67 H n=>
 s_f269_j14 lp G call k v1 v12 H n) (call 84 [a0, (.str 4 1936287860)] H n fun v68 H n=>
 onTst v68 true (onV (paddV 0 v12) fun v69=>
 stV 1 v69 (.int .i64 (.ofNat 5) 0) H n fun v70 H n=>
 s_f269_j14 lp G call k v1 v12 H n) (call 84 [a0, (.str 3 7824750)] H n fun v71 H n=>
 onTst v71 true (call 141 [a0] H n fun v72 H n=>
 onV (paddV 0 v12) fun v73=>
 stV 1 v73 (.int .i64 (.ofNat 10) 0) H n fun v74 H n=>
 onV (paddV 5 v12) fun v75=>
 stV 2 v75 v72 H n fun v76 H n=>
 call 84 [a0, (.str 1 91)] H n fun v77 H n=>
 onTst v77 true (call 211 [a0] H n fun v78 H n=>
 onA (aBslice 11 1 [(.int .i64 (.ofNat 0) 0), (.int .i64 (.ofNat 0) 0), (.int .i64 (.ofNat 0) 0), (.int .i64 (.ofNat 0) 0), (.str 0 0), (.str 0 0), (.bool false), .nils, (.str 0 0), (.bool false), (.str 0 0)] [(0, .c v78)] E0) H n fun v79 H n=>
 onV (paddV 0 v12) fun v80=>
 stV 1 v80 (.int .i64 (.ofNat 11) 0) H n fun v81 H n=>
 onV (paddV 7 v12) fun v82=>
 stV 1 v82 v79 H n fun v83 H n=>
 onA (aBslice 1 1 [(.str 0 0)] [(0, .c (.str 1 93))] E0) H n fun v84 H n=>
 call 82 [a0, v84] H n fun v85 H n=>
 s_f269_j14 lp G call k v1 v12 H n) (onV (paddV 5 v12) fun v86=>
 onV (ldnV 2 v86 G H) fun v87=>
 call 149 [v87] H n fun v88 H n=>
 onV (notV v88) fun v89=>
 onTst v89 true (call 89 [a0, (.int .i64 (.ofNat 21) 0)] H n fun v90 H n=>
 s_f269_j14 lp G call k v1 v12 H n) (s_f269_j14 lp G call k v1 v12 H n))) (call 84 [a0, (.str 1 40)] H n fun v91 H n=>
 onTst v91 true (call 211 [a0] H n fun v92 H n=>
 stV 11 v12 v92 H n fun v93 H n=>
 onA (aBslice 1 1 [(.str 0 0)] [(0, .c (.str 1 41))] E0) H n fun v94 H n=>
 call 82 [a0, v94] H n fun v95 H n=>
 s_f269_j14 lp G call k v1 v12 H n) (call 89 [a0, (.int .i64 (.ofNat 21) 0)] H n fun v96 H n=>
 s_f269_j14 lp G call k v1 v12 H n))))))))))
noncomputable def s_f270 (lp : LpT) (G : Roms) (call : CallT) (a0 a1 a2 : V) (H : Heap) (n : Nat) (k : KV) : Prop :=
 onA (aBoxV a1) H n fun v1 H n=>
 onA (aBoxV a2) H n fun v2 H n=>
 onA (aAlloc 11 [[(.int .i64 (.ofNat 0) 0), (.int .i64 (.ofNat 0) 0), (.int .i64 (.ofNat 0) 0), (.int .i64 (.ofNat 0) 0), (.str 0 0), (.str 0 0), (.bool false), .nils, (.str 0 0), (.bool false), (.str 0 0)]] E0) H n fun v3 H n=>
 call 84 [a0, (.str 6 114849160783212)] H n fun v4 H n=>
 onTst v4 true (onV (ldnV 2 v2 G H) fun v5=>
 onV (ldnV 11 v1 G H) fun v6=>
 onA (aBslice 11 1 [(.int .i64 (.ofNat 0) 0), (.int .i64 (.ofNat 0) 0), (.int .i64 (.ofNat 0) 0), (.int .i64 (.ofNat 0) 0), (.str 0 0), (.str 0 0), (.bool false), .nils, (.str 0 0), (.bool false), (.str 0 0)] [(0, .c v6)] E0) H n fun v7 H n=>
 onV (buildV [(.int .i64 (.ofNat 0) 0), (.int .i64 (.ofNat 0) 0), (.int .i64 (.ofNat 0) 0), (.int .i64 (.ofNat 0) 0), (.str 0 0), (.str 0 0), (.bool false), .nils, (.str 0 0), (.bool false), (.str 0 0)] [(0, 1, .c (.int .i64 (.ofNat 13) 0)), (1, 2, .c v5), (7, 1, .c v7)]) fun v8=>
 stV 11 v3 v8 H n fun v9 H n=>
 onO (getVs [.cn v3 11] G H) fun l => k (oneV l) H n) (call 83 [a0, (.int .i64 (.ofNat 3) 0)] H n fun v10 H n=>
 onA (aBslice 1 1 [(.str 0 0)] [(0, .c (.str 1 40))] E0) H n fun v11 H n=>
 call 87 [a0, v11] H n fun v12 H n=>
 onV (notV v12) fun v13=>
 onTst v13 true (onV (ldnV 2 v2 G H) fun v14=>
 onV (ldnV 11 v1 G H) fun v15=>
 onA (aBslice 11 1 [(.int .i64 (.ofNat 0) 0), (.int .i64 (.ofNat 0) 0), (.int .i64 (.ofNat 0) 0), (.int .i64 (.ofNat 0) 0), (.str 0 0), (.str 0 0), (.bool false), .nils, (.str 0 0), (.bool false), (.str 0 0)] [(0, .c v15)] E0) H n fun v16 H n=>
 onV (buildV [(.int .i64 (.ofNat 0) 0), (.int .i64 (.ofNat 0) 0), (.int .i64 (.ofNat 0) 0), (.int .i64 (.ofNat 0) 0), (.str 0 0), (.str 0 0), (.bool false), .nils, (.str 0 0), (.bool false), (.str 0 0)] [(0, 1, .c (.int .i64 (.ofNat 7) 0)), (1, 2, .c v14), (4, 1, .c v10), (7, 1, .c v16)]) fun v17=>
 stV 11 v3 v17 H n fun v18 H n=>
 onO (getVs [.cn v3 11] G H) fun l => k (oneV l) H n) (onV (ldnV 2 v2 G H) fun v19=>
 onV (ldnV 11 v1 G H) fun v20=>
 onA (aBslice 11 1 [(.int .i64 (.ofNat 0) 0), (.int .i64 (.ofNat 0) 0), (.int .i64 (.ofNat 0) 0), (.int .i64 (.ofNat 0) 0), (.str 0 0), (.str 0 0), (.bool false), .nils, (.str 0 0), (.bool false), (.str 0 0)] [(0, .c v20)] E0) H n fun v21 H n=>
 call 271 [a0] H n fun v22 H n=>
 onV (ldnV 2 v2 G H) fun v=>onB (vsame v v19) <|
 onV (ldnV 11 v1 G H) fun v=>onB (vsame v v20) <|
 appV 11 136 v21 v22 G H n fun v23 H n=>
 onV (ldnV 2 v2 G H) fun v=>onB (vsame v v19) <|
 onV (buildV [(.int .i64 (.ofNat 0) 0), (.int .i64 (.ofNat 0) 0), (.int .i64 (.ofNat 0) 0), (.int .i64 (.ofNat 0) 0), (.str 0 0), (.str 0 0), (.bool false), .nils, (.str 0 0), (.bool false), (.str 0 0)] [(0, 1, .c (.int .i64 (.ofNat 8) 0)), (1, 2, .c v19), (4, 1, .c v10), (7, 1, .c v23)]) fun v24=>
 stV 11 v3 v24 H n fun v25 H n=>
 onO (getVs [.cn v3 11] G H) fun l => k (oneV l) H n))
noncomputable def s_f271_j3 (lp : LpT) (G : Roms) (call : CallT) (k : KV) (a3 : V) (H : Heap) (n : Nat) : Prop :=
 k a3 H n
noncomputable def s_f271_j10 (lp : LpT) (G : Roms) (call : CallT) (k : KV) (ih4 : (V × V × Heap × Nat) → Prop) (a0 a3 : V) (H : Heap) (n : Nat) : Prop :=
 call 211 [a0] H n fun v11 H n=>
 onA (aBslice 11 1 [(.int .i64 (.ofNat 0) 0), (.int .i64 (.ofNat 0) 0), (.int .i64 (.ofNat 0) 0), (.int .i64 (.ofNat 0) 0), (.str 0 0), (.str 0 0), (.bool false), .nils, (.str 0 0), (.bool false), (.str 0 0)] [(0, .c v11)] E0) H n fun v12 H n=>
 appV 11 136 a3 v12 G H n fun v13 H n=>
 onV (lenV v13) fun v14=>
 call 86 [a0, v14] H n fun v15 H n=>
 ih4 (a0, v13, H, n)
noncomputable def s_f271_l4 (lp : LpT) (G : Roms) (call : CallT) (k : KV) (ih4 : (V × V × Heap × Nat) → Prop) (a0 a3 : V) (H : Heap) (n : Nat) : Prop :=
 call 40 [a0] H n fun v5 H n=>
 onG v5 true (some a0) fun v6=>
 onGT v5 true (call 84 [v6, (.str 1 41)] H n) H n fun v7 H n=>
 onG v5 true (notV v7) fun v8=>
 onV (pickV v5 v8 (.bool false)) fun v9=>
 onTst v9 true (onV (lenV a3) fun v16=>
 onV (B2.ev .gtr v16 (.int .i64 (.ofNat 0) 0)) fun v17=>
 onTst v17 true (onA (aBslice 1 1 [(.str 0 0)] [(0, .c (.str 1 44))] E0) H n fun v18 H n=>
 call 82 [a0, v18] H n fun v19 H n=>
 s_f271_j10 lp G call k ih4 a0 a3 H n) (s_f271_j10 lp G call k ih4 a0 a3 H n)) (s_f271_j3 lp G call k a3 H n)
noncomputable def s_f271_l4b (lp : LpT) (G : Roms) (call : CallT) (k : KV) : ((V × V × Heap × Nat) → Prop) → (V × V × Heap × Nat) → Prop := fun ih4 s => s_f271_l4 lp G call k ih4 s.1 s.2.1 s.2.2.1 s.2.2.2
noncomputable def s_f271 (lp : LpT) (G : Roms) (call : CallT) (a0 : V) (H : Heap) (n : Nat) (k : KV) : Prop :=
 onA (aBslice 1 1 [(.str 0 0)] [(0, .c (.str 1 40))] E0) H n fun v1 H n=>
 call 82 [a0, v1] H n fun v2 H n=>
 lp (V × V × Heap × Nat) (s_f271_l4b lp G call k) (a0, .nils, H, n)
end Go.R5

