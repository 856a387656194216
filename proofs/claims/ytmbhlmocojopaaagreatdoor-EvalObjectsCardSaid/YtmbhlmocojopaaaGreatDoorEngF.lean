/- Part of a proof: texts En45 En46 En47 En49 En50 En51 En52 En53 En54 of the engine and what is proved with it; nothing is assumed. -/
import Derived.Test.YtmbhlmocojopaaaGreatDoorEngE
set_option linter.unusedVariables false
set_option linter.unusedSimpArgs false
/- The engine, part 45: code as plain functions of values. -/
namespace Go.Eng
noncomputable def P2.beq (p : P2) : P2 → Bool :=
  P2.rec (motive := fun _ => P2 → Bool) (fun q => P2.rec (motive := fun _ => Bool) true (fun _ _ => false) (fun _ _ => false) q)
    (fun _ g q => P2.rec (motive := fun _ => Bool) false (fun q _ => g q) (fun _ _ => false) q)
    (fun _ g q => P2.rec (motive := fun _ => Bool) false (fun _ _ => false) (fun q _ => g q) q) p
theorem P2.beq_self : ∀ p : P2, P2.beq p p = true
  | .h => rfl
  | .z p => P2.beq_self p
  | .o p => P2.beq_self p
noncomputable abbrev rg (R : Regs) (p : P2) : V := odef (T.getp p R)
theorem sm {R : Regs} {p : P2} {v : V} : rg (T.setp v p R) p = v := by show odef (T.getp p (T.setp v p R)) = v; rw [T.getp_setp]; rfl
theorem ne {R : Regs} {p q : P2} {v a : V} (hb : P2.beq q p = false) (h : rg R p = a) : rg (T.setp v q R) p = a := by
  show odef (T.getp p (T.setp v q R)) = a
  rw [T.getp_setp_ne _ _ _ _ (fun e => by subst e; rw [P2.beq_self] at hb; cases hb)]
  exact h

/- what goes round -/
abbrev LpT := (σ : Type) → ((σ → Prop) → σ → Prop) → σ → Prop
def LpOk (L : LpT) : Prop := ∀ (σ : Type) (b : (σ → Prop) → σ → Prop) (P : σ → Prop), (∀ ih, (∀ s, ih s → P s) → ∀ s, b ih s → P s) → ∀ s, L σ b s → P s
def lfp : LpT := fun σ b s => ∀ I : σ → Prop, (∀ s, b I s → I s) → I s
theorem lfp_ok : LpOk lfp := fun _ _ P h _ hL => hL P (h P fun _ h => h)
noncomputable def lpF (m : Nat) : LpT := fun σ b s => Nat.rec (motive := fun _ => σ → Prop) (fun _ => False) (fun _ g => b g) m s
theorem lpF_ok (m : Nat) : LpOk (lpF m) := fun σ b P h => by
  induction m with
  | zero => exact fun s hs => (show False from hs).elim
  | succ m ih => exact fun s hs => h _ ih s hs

noncomputable def E0 : RS := .mk [] .e
/- operations on values -/
noncomputable def pickV (c a b : V) : Option V := c.onBool fun t => selO t (some a) (some b)
noncomputable def ld1V (a : V) (G : Roms) (H : Heap) : Option V := lbind (ldP a G H 1) fun L => nth L 0
noncomputable def ldnV (n : Nat) (a : V) (G : Roms) (H : Heap) : Option V := lbind (ldP a G H n) fun L => some (.agg L)
noncomputable def notV (a : V) : Option V := a.onBool fun b => mkB (bnot b)
noncomputable def negV (a : V) : Option V := a.onInt fun k n s => mkI k (Int.neg n) s
noncomputable def cviV (k : IntKind) (a : V) : Option V := a.onInt fun _ n s => mkI k n s
noncomputable def fld1 (off : Nat) (a : V) : Option V := a.onAgg fun l => nth l off
noncomputable def fldn (off n : Nat) (a : V) : Option V := a.onAgg fun l => some (.agg (takeL n (dropL off l)))
noncomputable def iaddrAV (n esz : Nat) (a i : V) : Option V := onNat i fun i => guardO (Nat.blt i n) (paddV (Nat.mul i esz) a)
noncomputable def idxSV (a i : V) : Option V := a.onStr fun ln c => onNat i fun i => guardO (Nat.blt i ln) (forceN (sget c i) fun b => some (.int .u8 (.ofNat b) 0))
noncomputable def idxAV (n : Nat) (a i : V) : Option V := a.onAgg fun l => onNat i fun i => guardO (Nat.blt i n) (nth l i)
noncomputable def extV (a : V) (i : Nat) : Option V := a.onTup fun l => nth l i
noncomputable def lenSV (a : V) : Option V := a.onStr fun n _ => some (.int .i64 (.ofNat n) 0)
noncomputable def lenMV (a : V) (H : Heap) : Option V := withMap H a fun es _ => forceN (len es) fun n => some (.int .i64 (.ofNat n) 0)
noncomputable def lookV (c : CK) (ok : Bool) (z m k : V) (H : Heap) : Option V := withMap H m fun es _ => gbind (findK c k es 0) (lookR ok z)
noncomputable def buildV (z : LV) (ps : List (Nat × Nat × X)) : Option V := guardO (partsC ps E0) (some (.agg (fillL ps E0 z)))
noncomputable def slcAV (n esz : Nat) (a : V) (lo hi : Option X) : Option V := a.onPtr (fun id o => optN hi E0 n fun h => optN lo E0 0 fun l =>
  guardO (band (Nat.beq (Nat.mod o esz) 0) (band (Nat.ble l h) (Nat.ble h n))) (f3 (Nat.add (Nat.div o esz) l) (Nat.sub h l) (Nat.sub n l) fun a b c => .sl id a b c esz)) (fun _ _ => none)
noncomputable def maxV (x y : V) : Option V := x.onInt fun k a s => y.onInt fun k' b t => guardO (band (keq k k') (Nat.beq (Nat.add s t) 0)) (some (.int k (Bool.rec a b (ilt a b)) 0))
noncomputable def minV (x y : V) : Option V := x.onInt fun k a s => y.onInt fun k' b t => guardO (band (keq k k') (Nat.beq (Nat.add s t) 0)) (some (.int k (Bool.rec a b (ilt b a)) 0))
noncomputable def cvSV (a : V) (G : Roms) (H : Heap) : Option V := guardO (bnot (isStr a)) (gbind (elems a G H 1) fun l => gbind (packB l) fun c => f3 (len l) c 0 fun n c _ => .str n c)
noncomputable def idxByV (s c : V) : Option V := s.onStr fun n cd => c.onInt fun k b _ => guardO (Nat.beq (kno k) 4) (natI b fun b => guardO (Nat.blt b 256) (forceIV (idxByF b n cd 0) fun i => some (.int .i64 i 0)))
noncomputable def aBoxV (v : V) (k : KA) : Prop := onB (okC v) (forceP (len (vcells v)) fun e => k (.arr e 1 (T.set .e 0 (vcells v))) fun id => .ptr id 0)
noncomputable def stV (sz : Nat) (a b : V) (H : Heap) (n : Nat) (k : KV) : Prop := onB (band (okC b) (Nat.beq (len (vcells b)) sz)) (onO (stP a H sz (vcells b)) fun H => k .undef H n)
noncomputable def appV (esz bs : Nat) (a b : V) (G : Roms) (H : Heap) (n : Nat) (k : KV) : Prop := onO (elems b G H esz) fun LS => appE a G esz bs LS H n k
noncomputable def copyV (esz : Nat) (a b : V) (G : Roms) (H : Heap) (n : Nat) (k : KV) : Prop := onO (elems b G H esz) fun LS => copyE a esz LS H n k
noncomputable def updV (c : CK) (m key v : V) (H : Heap) (n : Nat) (k : KV) : Prop := mapE m H (updM c key v) fun H => k .undef H n
noncomputable def delV (c : CK) (m key : V) (H : Heap) (n : Nat) (k : KV) : Prop := mapE m H (delM c key) fun H => k (.tup []) H n
noncomputable def clrV (m : V) (H : Heap) (n : Nat) (k : KV) : Prop := mapE m H (fun _ c => some (.map [] c)) fun H => k (.tup []) H n
noncomputable def callvV (x : V) (args : List V) (call : CallT) (H : Heap) (n : Nat) (k : KV) : Prop := V.onFnP x fun f a c => call f (cat a (cat args c)) H n k
noncomputable def deferV (d x : V) (args : List V) (H : Heap) (n : Nat) (k : KV) : Prop := V.onFnP x fun f a c => k (.tup (.fn f (cat a args) c :: tupL d)) H n
noncomputable def cvBV (a : V) (H : Heap) (n : Nat) (k : KV) : Prop := onO (a.onStr fun l c => some (.ptr l c)) fun v => V.onPtrP2 v fun l c =>
  forceP n fun n => k (.gsl n 0 l 1) (T.set H n (.arr 1 l (setEs (bytesL l c) 0 .e))) (Nat.succ n)
/- operations that may be passed over; new blocks -/
noncomputable def onG (c : V) (b : Bool) (e : Option V) (P : V → Prop) : Prop := gTst c b (onV e P) (P (.tup []))
noncomputable def onA (al : KA → Prop) (H : Heap) (n : Nat) (P : KV) : Prop := al fun b f => forceP n fun n => P (f n) (T.set H n b) (Nat.succ n)
noncomputable def onGT (c : V) (b : Bool) (t : KV → Prop) (H : Heap) (n : Nat) (P : KV) : Prop := gTst c b (t P) (P (.tup []) H n)
/- results -/
inductive AVr where
  | t (v : V) | c1 (v : V) | cn (v : V) (n : Nat)
noncomputable def AVr.get (r : AVr) (G : Roms) (H : Heap) : Option V := AVr.rec (fun v => some v) (fun v => ld1V v G H) (fun v n => ldnV n v G H) r
noncomputable def getVs (l : List AVr) (G : Roms) (H : Heap) : Option LV :=
  List.rec (motive := fun _ => Option LV) (some []) (fun r _ g => gbind (r.get G H) fun v => gbind g fun vs => some (v :: vs)) l

section
variable {E : RS} {G : Roms} {H : Heap} {n : Nat} {x y z w : X} {a b c d : V}
theorem k_pick (hx : x.ev E = a) (hy : y.ev E = b) (hz : z.ev E = c) : (AN.pick x y z).ev G E H = pickV a b c := by subst hx hy hz; rfl
theorem k_ld1 (hx : x.ev E = a) : (AN.ld1 x).ev G E H = ld1V a G H := by subst hx; rfl
theorem k_ldn {m : Nat} (hx : x.ev E = a) : (AN.ldn m x).ev G E H = ldnV m a G H := by subst hx; rfl
theorem k_nilck (hx : x.ev E = a) : (AN.nilck x).ev G E H = nilckV a := by subst hx; rfl
theorem k_bin {o : B2} (hx : x.ev E = a) (hy : y.ev E = b) : (AN.bin o x y).ev G E H = o.ev a b := by subst hx hy; rfl
theorem k_eq {k : EK} {t : Bool} (hx : x.ev E = a) (hy : y.ev E = b) : (AN.eq k t x y).ev G E H = eqV k t a b := by subst hx hy; rfl
theorem k_eqp {k : List CK} {t : Bool} (hx : x.ev E = a) (hy : y.ev E = b) : (AN.eqp k t x y).ev G E H = eqpV k t a b H := by subst hx hy; rfl
theorem k_not (hx : x.ev E = a) : (AN.not x).ev G E H = notV a := by subst hx; rfl
theorem k_neg (hx : x.ev E = a) : (AN.neg x).ev G E H = negV a := by subst hx; rfl
theorem k_cvi {k : IntKind} (hx : x.ev E = a) : (AN.cvi k x).ev G E H = cviV k a := by subst hx; rfl
theorem k_faddr {o : Nat} (hx : x.ev E = a) : (AN.faddr o x).ev G E H = paddV o a := by subst hx; rfl
theorem k_field1 {o : Nat} (hx : x.ev E = a) : (AN.field1 o x).ev G E H = fld1 o a := by subst hx; rfl
theorem k_fieldn {o m : Nat} (hx : x.ev E = a) : (AN.fieldn o m x).ev G E H = fldn o m a := by subst hx; rfl
theorem k_iaddr {e : Nat} (hx : x.ev E = a) (hy : y.ev E = b) : (AN.iaddr e x y).ev G E H = iaddrV e a b := by subst hx hy; rfl
theorem k_iaddrA {m e : Nat} (hx : x.ev E = a) (hy : y.ev E = b) : (AN.iaddrA m e x y).ev G E H = iaddrAV m e a b := by subst hx hy; rfl
theorem k_idxS (hx : x.ev E = a) (hy : y.ev E = b) : (AN.idxS x y).ev G E H = idxSV a b := by subst hx hy; rfl
theorem k_idxA {m : Nat} (hx : x.ev E = a) (hy : y.ev E = b) : (AN.idxA m x y).ev G E H = idxAV m a b := by subst hx hy; rfl
theorem k_ext {i : Nat} (hx : x.ev E = a) : (AN.ext x i).ev G E H = extV a i := by subst hx; rfl
theorem k_lenS (hx : x.ev E = a) : (AN.lenS x).ev G E H = lenSV a := by subst hx; rfl
theorem k_lenL (hx : x.ev E = a) : (AN.lenL x).ev G E H = lenV a := by subst hx; rfl
theorem k_lenM (hx : x.ev E = a) : (AN.lenM x).ev G E H = lenMV a H := by subst hx; rfl
theorem k_look {k : CK} {t : Bool} {z0 : V} (hx : x.ev E = a) (hy : y.ev E = b) : (AN.look k t z0 x y).ev G E H = lookV k t z0 a b H := by subst hx hy; rfl
noncomputable def psC (ps : List (Nat × Nat × X)) (E : RS) : List (Nat × Nat × X) := ps.map fun p => (p.1, p.2.1, .c (p.2.2.ev E))
theorem ps0 : psC [] E = [] := rfl
theorem psS {i m : Nat} {l l' : List (Nat × Nat × X)} (hx : x.ev E = a) (h : psC l E = l') : psC ((i, m, x) :: l) E = (i, m, .c a) :: l' := by subst hx h; rfl
theorem partsC_C (l : List (Nat × Nat × X)) : partsC l E = partsC (psC l E) E0 := by
  induction l with
  | nil => rfl
  | cons p l ih => show band (band (okC (p.2.2.ev E)) (Nat.beq (len (vcells (p.2.2.ev E))) p.2.1)) (partsC l E) = band (band (okC (p.2.2.ev E)) (Nat.beq (len (vcells (p.2.2.ev E))) p.2.1)) (partsC (psC l E) E0); rw [ih]
theorem fillL_C (l : List (Nat × Nat × X)) : ∀ z, fillL l E z = fillL (psC l E) E0 z := by
  induction l with
  | nil => exact fun _ => rfl
  | cons p l ih => exact fun z => ih (putL (vcells (p.2.2.ev E)) p.1 z)
theorem k_build {z0 : LV} {ps ps' : List (Nat × Nat × X)} (hp : psC ps E = ps') : (AN.build z0 ps).ev G E H = buildV z0 ps' := by
  subst hp
  show guardO (partsC ps E) (some (.agg (fillL ps E z0))) = _
  rw [partsC_C, fillL_C]; rfl
noncomputable def oxC (o : Option X) (E : RS) : Option X := o.map fun x => .c (x.ev E)
theorem ox0 : oxC none E = none := rfl
theorem oxS (hx : x.ev E = a) : oxC (some x) E = some (.c a) := by subst hx; rfl
theorem optN_C (o : Option X) : optN o E = optN (oxC o E) E0 := by cases o <;> rfl
theorem k_slcS {lo hi lo' hi' : Option X} (hx : x.ev E = a) (h1 : oxC lo E = lo') (h2 : oxC hi E = hi') : (AN.slcS x lo hi).ev G E H = slcSV a E0 lo' hi' := by
  subst hx h1 h2
  show slcSV (x.ev E) E lo hi = _
  unfold slcSV; simp only [optN_C lo, optN_C hi]
theorem k_slc {m : Nat} {lo hi mx lo' hi' mx' : Option X} (hx : x.ev E = a) (h1 : oxC lo E = lo') (h2 : oxC hi E = hi') (h3 : oxC mx E = mx') : (AN.slc m x lo hi mx).ev G E H = slcV m a E0 lo' hi' mx' := by
  subst hx h1 h2 h3
  show slcV m (x.ev E) E lo hi mx = _
  unfold slcV slcNil slcSl slcGsl slcRsl slcGsl0 slcGsl1
  simp only [optN_C lo, optN_C hi, optN_C mx]
  cases mx <;> rfl
theorem k_slcA {m e : Nat} {lo hi lo' hi' : Option X} (hx : x.ev E = a) (h1 : oxC lo E = lo') (h2 : oxC hi E = hi') : (AN.slcA m e x lo hi).ev G E H = slcAV m e a lo' hi' := by
  subst hx h1 h2
  show eSlcA m e x lo hi G E H = _
  unfold eSlcA slcAV; simp only [optN_C lo, optN_C hi]
theorem k_maxi (hx : x.ev E = a) (hy : y.ev E = b) : (AN.maxi x y).ev G E H = maxV a b := by subst hx hy; rfl
theorem k_mini (hx : x.ev E = a) (hy : y.ev E = b) : (AN.mini x y).ev G E H = minV a b := by subst hx hy; rfl
theorem k_cvS (hx : x.ev E = a) : (AN.cvS x).ev G E H = cvSV a G H := by subst hx; rfl
theorem k_cmpS (hx : x.ev E = a) (hy : y.ev E = b) : (AN.cmpS x y).ev G E H = cmpSV a b := by subst hx hy; rfl
theorem k_idxByte (hx : x.ev E = a) (hy : y.ev E = b) : (AN.idxByte x y).ev G E H = idxByV a b := by subst hx hy; rfl
theorem xs0 : mapX [] E = [] := rfl
theorem xsS {l : List X} {l' : List V} (hx : x.ev E = a) (h : mapX l E = l') : mapX (x :: l) E = a :: l' := by subst hx h; rfl
theorem k_mkfn {f : Nat} {l m : List X} {l' m' : List V} (h : mapX l E = l') (h' : mapX m E = m') : (AN.mkfn f l m).ev G E H = some (.fn f l' m') := by subst h h'; rfl
theorem k_mv (hx : x.ev E = a) : (AN.mv x).ev G E H = some a := by subst hx; rfl
theorem k_lenC {m : Nat} : (AN.lenC m).ev G E H = some (.int .i64 (.ofNat m) 0) := rfl
theorem k_alloc {e : Nat} {es : LLV} : (AA.alloc e es).al E = aAlloc e es E0 := rfl
theorem k_box (hx : x.ev E = a) : (AA.box x).al E = aBoxV a := by subst hx; rfl
noncomputable def pbC (ps : List (Nat × X)) (E : RS) : List (Nat × X) := ps.map fun p => (p.1, .c (p.2.ev E))
theorem pb0 : pbC [] E = [] := rfl
theorem pbS {i : Nat} {l l' : List (Nat × X)} (hx : x.ev E = a) (h : pbC l E = l') : pbC ((i, x) :: l) E = (i, .c a) :: l' := by subst hx h; rfl
theorem partsOk_C (l : List (Nat × X)) (e m : Nat) : partsOk l E e m = partsOk (pbC l E) E0 e m := by
  induction l with
  | nil => rfl
  | cons p l ih => show band (band (okC (p.2.ev E)) (band (Nat.blt p.1 m) (Nat.beq (len (vcells (p.2.ev E))) e))) (partsOk l E e m) = band (band (okC (p.2.ev E)) (band (Nat.blt p.1 m) (Nat.beq (len (vcells (p.2.ev E))) e))) (partsOk (pbC l E) E0 e m); rw [ih]
theorem partsT_C (l : List (Nat × X)) : ∀ t, partsT l E t = partsT (pbC l E) E0 t := by
  induction l with
  | nil => exact fun _ => rfl
  | cons p l ih => exact fun t => ih (T.set t p.1 (vcells (p.2.ev E)))
theorem k_bslice {e m : Nat} {z0 : LV} {ps ps' : List (Nat × X)} (hp : pbC ps E = ps') : (AA.bslice e m z0 ps).al E = aBslice e m z0 ps' E0 := by
  subst hp
  show aBslice e m z0 ps E = _
  funext k
  unfold aBslice; rw [partsOk_C, partsT_C]
theorem k_mkslice {e m : Nat} {z0 : LV} (hx : x.ev E = a) (hy : y.ev E = b) : (AA.mkslice e m z0 x y).al E = aMkslice e m z0 (.c a) (.c b) E0 := by subst hx hy; rfl
theorem k_mkmap : AA.mkmap.al E = aMkmap E0 := rfl
theorem k_bld {t e : Nat} : (AA.bld t e).al E = aBld t e E0 := rfl
variable {call : CallT}
theorem k_st {m : Nat} (hx : x.ev E = a) (hy : y.ev E = b) : (AE.st m x y).ex G call E H n = stV m a b H n := by subst hx hy; rfl
theorem k_app {e m : Nat} (hx : x.ev E = a) (hy : y.ev E = b) : (AE.app e m x y).ex G call E H n = appV e m a b G H n := by subst hx hy; rfl
theorem k_copy {e : Nat} (hx : x.ev E = a) (hy : y.ev E = b) : (AE.copy e x y).ex G call E H n = copyV e a b G H n := by subst hx hy; rfl
theorem k_mapupd {k : CK} (hx : x.ev E = a) (hy : y.ev E = b) (hz : z.ev E = c) : (AE.mapupd k x y z).ex G call E H n = updV k a b c H n := by subst hx hy hz; rfl
theorem k_del {k : CK} (hx : x.ev E = a) (hy : y.ev E = b) : (AE.del k x y).ex G call E H n = delV k a b H n := by subst hx hy; rfl
theorem k_clrM (hx : x.ev E = a) : (AE.clrM x).ex G call E H n = clrV a H n := by subst hx; rfl
theorem k_call {f : Nat} {l : List X} {l' : List V} (h : mapX l E = l') : (AE.call f l).ex G call E H n = call f l' H n := by subst h; rfl
theorem k_callv {l : List X} {l' : List V} (hx : x.ev E = a) (h : mapX l E = l') : (AE.callv x l).ex G call E H n = callvV a l' call H n := by subst hx h; rfl
theorem k_cvB (hx : x.ev E = a) : (AE.cvB x).ex G call E H n = cvBV a H n := by subst hx; rfl
end
section
variable {L : List V} {R : Regs} {G : Roms} {call : CallT} {H : Heap} {n : Nat} {a b : V}
theorem k_defer {x : X} {l : List X} {l' : List V} {dp : P2} (hd : rg R dp = b) (hx : x.ev (.mk L R) = a) (h : mapX l (.mk L R) = l') : (AE.defer dp x l).ex G call (.mk L R) H n = deferV b a l' H n := by subst hd hx h; rfl
end
end Go.Eng

/- The engine, part 46: steps from plain functions of values to code. -/
namespace Go.Eng
noncomputable def onRe (c : V) (b : Bool) (e : Option V) (a : V) (P : Prop) : Prop := gTst c b (onV e fun v => onB (vsame v a) P) P
theorem xr {L : List V} {R : Regs} {p : P2} {a : V} (h : rg R p = a) : (X.r p).ev (.mk L R) = a := h
def kR (k : K) : KE := fun E H n => k E.rg H n
theorem onV_mono {e : Option V} {P Q : V → Prop} (h : onV e P) (hk : ∀ v, P v → Q v) : onV e Q := by
  cases e with
  | none => exact h
  | some v => exact hk v h
theorem gTst_mono {v : V} {b : Bool} {P Q P' Q' : Prop} (h : gTst v b P Q) (hp : P → P') (hq : Q → Q') : gTst v b P' Q' := by
  rw [gTst_iff] at h ⊢
  obtain ⟨t, ht, h⟩ := h
  refine ⟨t, ht, ?_⟩
  split
  · rename_i e; rw [if_pos e] at h; exact hp h
  · rename_i e; rw [if_neg e] at h; exact hq h
theorem onTst_mono {v : V} {b : Bool} {P Q P' Q' : Prop} (h : onTst v b P Q) (hp : P → P') (hq : Q → Q') : onTst v b P' Q' := by
  rw [onTst_iff] at h ⊢
  obtain ⟨t, ht, h⟩ := h
  refine ⟨t, ht, ?_⟩
  split
  · rename_i e; rw [if_pos e] at h; exact hp h
  · rename_i e; rw [if_neg e] at h; exact hq h
theorem onA_mono {o : AA} {E : RS} {H : Heap} {n : Nat} {P Q : KV} (h : onA (o.al E) H n P) (hk : ∀ v H n, P v H n → Q v H n) : onA (o.al E) H n Q :=
  Det.mono (aa_det o E) (k := fun s => forceP n fun n => P (s.2 n) (T.set H n s.1) (Nat.succ n)) (k' := fun s => forceP n fun n => Q (s.2 n) (T.set H n s.1) (Nat.succ n))
    (fun s hs => by rw [forceP_eq] at hs ⊢; exact hk _ _ _ hs) h
section
variable {G : Roms} {call callE : CallT}
theorem ae_mono (hle : CallLe call callE) (hd : CallDet callE) {o : AE} {E : RS} {H : Heap} {n : Nat} {P Q : KV} (h : o.ex G call E H n P) (hk : ∀ v H n, P v H n → Q v H n) : o.ex G callE E H n Q :=
  Det.mono (ae_det hd o G E H n) (k := fun s => P s.1 s.2.1 s.2.2) (k' := fun s => Q s.1 s.2.1 s.2.2) (fun s hs => hk _ _ _ hs) (ae_le hle o G E H n _ h)
section
variable {L : List V} {R : Regs} {H : Heap} {n : Nat} {l : List AOp} {k : KE} {p : P2} {x : X} {b : Bool} {c a : V}
theorem on_s {o : AN} {e : Option V} {P : V → Prop} (h : onV e P) (he : o.ev G (.mk L R) H = e) (hk : ∀ v, P v → exOps l G callE (.mk (v :: L) R) H n k) : exOps (.mk .ps .no (.n o) :: l) G callE (.mk L R) H n k := by
  subst he; exact onV_mono h hk
theorem ov_s {o : AN} (he : o.ev G (.mk L R) H = some a) (hk : exOps l G callE (.mk ((a) :: L) R) H n k) : exOps (.mk .ps .no (.n o) :: l) G callE (.mk L R) H n k := by
  show onV (o.ev G (.mk L R) H) _; rw [he]; exact hk
theorem ogn_s {o : AN} {e : Option V} {P : V → Prop} (h : onG c b e P) (hc : x.ev (.mk L R) = c) (he : o.ev G (.mk L R) H = e) (hk : ∀ v, P v → exOps l G callE (.mk (v :: L) R) H n k) : exOps (.mk .ps (.on x b) (.n o) :: l) G callE (.mk L R) H n k := by
  subst hc he; exact gTst_mono h (fun h => onV_mono h hk) (hk _)
theorem oa_s {o : AA} {al : KA → Prop} {P : KV} (h : onA al H n P) (he : o.al (.mk L R) = al) (hk : ∀ v H n, P v H n → exOps l G callE (.mk (v :: L) R) H n k) : exOps (.mk .ps .no (.a o) :: l) G callE (.mk L R) H n k := by
  subst he; exact onA_mono (Q := fun v H n => exOps l G callE (.mk (v :: L) R) H n k) h hk
theorem oga_s {o : AA} {al : KA → Prop} {P : KV} (h : onGT c b (onA al H n) H n P) (hc : x.ev (.mk L R) = c) (he : o.al (.mk L R) = al) (hk : ∀ v H n, P v H n → exOps l G callE (.mk (v :: L) R) H n k) : exOps (.mk .ps (.on x b) (.a o) :: l) G callE (.mk L R) H n k := by
  subst hc he; exact gTst_mono h (fun h => onA_mono (Q := fun v H n => exOps l G callE (.mk (v :: L) R) H n k) h hk) (hk _ _ _)
theorem oe_s (hle : CallLe call callE) (hd : CallDet callE) {o : AE} {t : KV → Prop} {P : KV} (h : t P) (he : o.ex G call (.mk L R) H n = t) (hk : ∀ v H n, P v H n → exOps l G callE (.mk (v :: L) R) H n k) : exOps (.mk .ps .no (.e o) :: l) G callE (.mk L R) H n k := by
  subst he; exact ae_mono hle hd (Q := fun v H n => exOps l G callE (.mk (v :: L) R) H n k) h hk
theorem oge_s (hle : CallLe call callE) (hd : CallDet callE) {o : AE} {t : KV → Prop} {P : KV} (h : onGT c b t H n P) (hc : x.ev (.mk L R) = c) (he : o.ex G call (.mk L R) H n = t) (hk : ∀ v H n, P v H n → exOps l G callE (.mk (v :: L) R) H n k) : exOps (.mk .ps (.on x b) (.e o) :: l) G callE (.mk L R) H n k := by
  subst hc he; exact gTst_mono h (fun h => ae_mono hle hd (Q := fun v H n => exOps l G callE (.mk (v :: L) R) H n k) h hk) (hk _ _ _)
theorem ow_s {x : X} (hx : x.ev (.mk L R) = a) (hk : exOps l G callE (.mk ((a) :: L) R) H n k) : exOps (.mk .ps .no (.e (.asg x)) :: l) G callE (.mk L R) H n k := by
  subst hx; exact hk
theorem on_t {o : AN} {e : Option V} {P : V → Prop} (h : onV e P) (he : o.ev G (.mk L R) H = e) (hk : ∀ v, P v → exOps l G callE (.mk L (T.setp v p R)) H n k) : exOps (.mk (.to p) .no (.n o) :: l) G callE (.mk L R) H n k := by
  subst he; exact onV_mono h hk
theorem ov_t {o : AN} (he : o.ev G (.mk L R) H = some a) (hk : exOps l G callE (.mk L (T.setp a p R)) H n k) : exOps (.mk (.to p) .no (.n o) :: l) G callE (.mk L R) H n k := by
  show onV (o.ev G (.mk L R) H) _; rw [he]; exact hk
theorem ogn_t {o : AN} {e : Option V} {P : V → Prop} (h : onG c b e P) (hc : x.ev (.mk L R) = c) (he : o.ev G (.mk L R) H = e) (hk : ∀ v, P v → exOps l G callE (.mk L (T.setp v p R)) H n k) : exOps (.mk (.to p) (.on x b) (.n o) :: l) G callE (.mk L R) H n k := by
  subst hc he; exact gTst_mono h (fun h => onV_mono h hk) (hk _)
theorem oa_t {o : AA} {al : KA → Prop} {P : KV} (h : onA al H n P) (he : o.al (.mk L R) = al) (hk : ∀ v H n, P v H n → exOps l G callE (.mk L (T.setp v p R)) H n k) : exOps (.mk (.to p) .no (.a o) :: l) G callE (.mk L R) H n k := by
  subst he; exact onA_mono (Q := fun v H n => exOps l G callE (.mk L (T.setp v p R)) H n k) h hk
theorem oga_t {o : AA} {al : KA → Prop} {P : KV} (h : onGT c b (onA al H n) H n P) (hc : x.ev (.mk L R) = c) (he : o.al (.mk L R) = al) (hk : ∀ v H n, P v H n → exOps l G callE (.mk L (T.setp v p R)) H n k) : exOps (.mk (.to p) (.on x b) (.a o) :: l) G callE (.mk L R) H n k := by
  subst hc he; exact gTst_mono h (fun h => onA_mono (Q := fun v H n => exOps l G callE (.mk L (T.setp v p R)) H n k) h hk) (hk _ _ _)
theorem oe_t (hle : CallLe call callE) (hd : CallDet callE) {o : AE} {t : KV → Prop} {P : KV} (h : t P) (he : o.ex G call (.mk L R) H n = t) (hk : ∀ v H n, P v H n → exOps l G callE (.mk L (T.setp v p R)) H n k) : exOps (.mk (.to p) .no (.e o) :: l) G callE (.mk L R) H n k := by
  subst he; exact ae_mono hle hd (Q := fun v H n => exOps l G callE (.mk L (T.setp v p R)) H n k) h hk
theorem oge_t (hle : CallLe call callE) (hd : CallDet callE) {o : AE} {t : KV → Prop} {P : KV} (h : onGT c b t H n P) (hc : x.ev (.mk L R) = c) (he : o.ex G call (.mk L R) H n = t) (hk : ∀ v H n, P v H n → exOps l G callE (.mk L (T.setp v p R)) H n k) : exOps (.mk (.to p) (.on x b) (.e o) :: l) G callE (.mk L R) H n k := by
  subst hc he; exact gTst_mono h (fun h => ae_mono hle hd (Q := fun v H n => exOps l G callE (.mk L (T.setp v p R)) H n k) h hk) (hk _ _ _)
theorem ow_t {x : X} (hx : x.ev (.mk L R) = a) (hk : exOps l G callE (.mk L (T.setp a p R)) H n k) : exOps (.mk (.to p) .no (.e (.asg x)) :: l) G callE (.mk L R) H n k := by
  subst hx; exact hk
theorem on_x {o : AN} {e : Option V} {P : V → Prop} (h : onV e P) (he : o.ev G (.mk L R) H = e) (hk : ∀ v, P v → exOps l G callE (.mk L R) H n k) : exOps (.mk .no .no (.n o) :: l) G callE (.mk L R) H n k := by
  subst he; exact onV_mono h hk
theorem ov_x {o : AN} (he : o.ev G (.mk L R) H = some a) (hk : exOps l G callE (.mk L R) H n k) : exOps (.mk .no .no (.n o) :: l) G callE (.mk L R) H n k := by
  show onV (o.ev G (.mk L R) H) _; rw [he]; exact hk
theorem ogn_x {o : AN} {e : Option V} {P : V → Prop} (h : onG c b e P) (hc : x.ev (.mk L R) = c) (he : o.ev G (.mk L R) H = e) (hk : ∀ v, P v → exOps l G callE (.mk L R) H n k) : exOps (.mk .no (.on x b) (.n o) :: l) G callE (.mk L R) H n k := by
  subst hc he; exact gTst_mono h (fun h => onV_mono h hk) (hk _)
theorem oa_x {o : AA} {al : KA → Prop} {P : KV} (h : onA al H n P) (he : o.al (.mk L R) = al) (hk : ∀ v H n, P v H n → exOps l G callE (.mk L R) H n k) : exOps (.mk .no .no (.a o) :: l) G callE (.mk L R) H n k := by
  subst he; exact onA_mono (Q := fun v H n => exOps l G callE (.mk L R) H n k) h hk
theorem oga_x {o : AA} {al : KA → Prop} {P : KV} (h : onGT c b (onA al H n) H n P) (hc : x.ev (.mk L R) = c) (he : o.al (.mk L R) = al) (hk : ∀ v H n, P v H n → exOps l G callE (.mk L R) H n k) : exOps (.mk .no (.on x b) (.a o) :: l) G callE (.mk L R) H n k := by
  subst hc he; exact gTst_mono h (fun h => onA_mono (Q := fun v H n => exOps l G callE (.mk L R) H n k) h hk) (hk _ _ _)
theorem oe_x (hle : CallLe call callE) (hd : CallDet callE) {o : AE} {t : KV → Prop} {P : KV} (h : t P) (he : o.ex G call (.mk L R) H n = t) (hk : ∀ v H n, P v H n → exOps l G callE (.mk L R) H n k) : exOps (.mk .no .no (.e o) :: l) G callE (.mk L R) H n k := by
  subst he; exact ae_mono hle hd (Q := fun v H n => exOps l G callE (.mk L R) H n k) h hk
theorem oge_x (hle : CallLe call callE) (hd : CallDet callE) {o : AE} {t : KV → Prop} {P : KV} (h : onGT c b t H n P) (hc : x.ev (.mk L R) = c) (he : o.ex G call (.mk L R) H n = t) (hk : ∀ v H n, P v H n → exOps l G callE (.mk L R) H n k) : exOps (.mk .no (.on x b) (.e o) :: l) G callE (.mk L R) H n k := by
  subst hc he; exact gTst_mono h (fun h => ae_mono hle hd (Q := fun v H n => exOps l G callE (.mk L R) H n k) h hk) (hk _ _ _)
theorem ow_x {x : X} (hx : x.ev (.mk L R) = a) (hk : exOps l G callE (.mk L R) H n k) : exOps (.mk .no .no (.e (.asg x)) :: l) G callE (.mk L R) H n k := by
  subst hx; exact hk
theorem o0 {K : K} (h : K R H n) : exOps [] G callE (.mk L R) H n (kR K) := h
end
section
variable {L : List V} {R : Regs} {H : Heap} {n : Nat} {l : List AI} {k : KE} {p : P2} {x : X} {b : Bool} {c a : V}
theorem in_s {o : AN} {e : Option V} {P : V → Prop} (h : onV e P) (he : o.ev G (.mk L R) H = e) (hk : ∀ v, P v → exItems l G callE (.mk (v :: L) R) H n k) : exItems (.op (.mk .ps .no (.n o)) :: l) G callE (.mk L R) H n k := by
  subst he; exact onV_mono h hk
theorem iv_s {o : AN} (he : o.ev G (.mk L R) H = some a) (hk : exItems l G callE (.mk ((a) :: L) R) H n k) : exItems (.op (.mk .ps .no (.n o)) :: l) G callE (.mk L R) H n k := by
  show onV (o.ev G (.mk L R) H) _; rw [he]; exact hk
theorem ign_s {o : AN} {e : Option V} {P : V → Prop} (h : onG c b e P) (hc : x.ev (.mk L R) = c) (he : o.ev G (.mk L R) H = e) (hk : ∀ v, P v → exItems l G callE (.mk (v :: L) R) H n k) : exItems (.op (.mk .ps (.on x b) (.n o)) :: l) G callE (.mk L R) H n k := by
  subst hc he; exact gTst_mono h (fun h => onV_mono h hk) (hk _)
theorem ia_s {o : AA} {al : KA → Prop} {P : KV} (h : onA al H n P) (he : o.al (.mk L R) = al) (hk : ∀ v H n, P v H n → exItems l G callE (.mk (v :: L) R) H n k) : exItems (.op (.mk .ps .no (.a o)) :: l) G callE (.mk L R) H n k := by
  subst he; exact onA_mono (Q := fun v H n => exItems l G callE (.mk (v :: L) R) H n k) h hk
theorem iga_s {o : AA} {al : KA → Prop} {P : KV} (h : onGT c b (onA al H n) H n P) (hc : x.ev (.mk L R) = c) (he : o.al (.mk L R) = al) (hk : ∀ v H n, P v H n → exItems l G callE (.mk (v :: L) R) H n k) : exItems (.op (.mk .ps (.on x b) (.a o)) :: l) G callE (.mk L R) H n k := by
  subst hc he; exact gTst_mono h (fun h => onA_mono (Q := fun v H n => exItems l G callE (.mk (v :: L) R) H n k) h hk) (hk _ _ _)
theorem ie_s (hle : CallLe call callE) (hd : CallDet callE) {o : AE} {t : KV → Prop} {P : KV} (h : t P) (he : o.ex G call (.mk L R) H n = t) (hk : ∀ v H n, P v H n → exItems l G callE (.mk (v :: L) R) H n k) : exItems (.op (.mk .ps .no (.e o)) :: l) G callE (.mk L R) H n k := by
  subst he; exact ae_mono hle hd (Q := fun v H n => exItems l G callE (.mk (v :: L) R) H n k) h hk
theorem ige_s (hle : CallLe call callE) (hd : CallDet callE) {o : AE} {t : KV → Prop} {P : KV} (h : onGT c b t H n P) (hc : x.ev (.mk L R) = c) (he : o.ex G call (.mk L R) H n = t) (hk : ∀ v H n, P v H n → exItems l G callE (.mk (v :: L) R) H n k) : exItems (.op (.mk .ps (.on x b) (.e o)) :: l) G callE (.mk L R) H n k := by
  subst hc he; exact gTst_mono h (fun h => ae_mono hle hd (Q := fun v H n => exItems l G callE (.mk (v :: L) R) H n k) h hk) (hk _ _ _)
theorem iw_s {x : X} (hx : x.ev (.mk L R) = a) (hk : exItems l G callE (.mk ((a) :: L) R) H n k) : exItems (.op (.mk .ps .no (.e (.asg x))) :: l) G callE (.mk L R) H n k := by
  subst hx; exact hk
theorem in_t {o : AN} {e : Option V} {P : V → Prop} (h : onV e P) (he : o.ev G (.mk L R) H = e) (hk : ∀ v, P v → exItems l G callE (.mk L (T.setp v p R)) H n k) : exItems (.op (.mk (.to p) .no (.n o)) :: l) G callE (.mk L R) H n k := by
  subst he; exact onV_mono h hk
theorem iv_t {o : AN} (he : o.ev G (.mk L R) H = some a) (hk : exItems l G callE (.mk L (T.setp a p R)) H n k) : exItems (.op (.mk (.to p) .no (.n o)) :: l) G callE (.mk L R) H n k := by
  show onV (o.ev G (.mk L R) H) _; rw [he]; exact hk
theorem ign_t {o : AN} {e : Option V} {P : V → Prop} (h : onG c b e P) (hc : x.ev (.mk L R) = c) (he : o.ev G (.mk L R) H = e) (hk : ∀ v, P v → exItems l G callE (.mk L (T.setp v p R)) H n k) : exItems (.op (.mk (.to p) (.on x b) (.n o)) :: l) G callE (.mk L R) H n k := by
  subst hc he; exact gTst_mono h (fun h => onV_mono h hk) (hk _)
theorem ia_t {o : AA} {al : KA → Prop} {P : KV} (h : onA al H n P) (he : o.al (.mk L R) = al) (hk : ∀ v H n, P v H n → exItems l G callE (.mk L (T.setp v p R)) H n k) : exItems (.op (.mk (.to p) .no (.a o)) :: l) G callE (.mk L R) H n k := by
  subst he; exact onA_mono (Q := fun v H n => exItems l G callE (.mk L (T.setp v p R)) H n k) h hk
theorem iga_t {o : AA} {al : KA → Prop} {P : KV} (h : onGT c b (onA al H n) H n P) (hc : x.ev (.mk L R) = c) (he : o.al (.mk L R) = al) (hk : ∀ v H n, P v H n → exItems l G callE (.mk L (T.setp v p R)) H n k) : exItems (.op (.mk (.to p) (.on x b) (.a o)) :: l) G callE (.mk L R) H n k := by
  subst hc he; exact gTst_mono h (fun h => onA_mono (Q := fun v H n => exItems l G callE (.mk L (T.setp v p R)) H n k) h hk) (hk _ _ _)
theorem ie_t (hle : CallLe call callE) (hd : CallDet callE) {o : AE} {t : KV → Prop} {P : KV} (h : t P) (he : o.ex G call (.mk L R) H n = t) (hk : ∀ v H n, P v H n → exItems l G callE (.mk L (T.setp v p R)) H n k) : exItems (.op (.mk (.to p) .no (.e o)) :: l) G callE (.mk L R) H n k := by
  subst he; exact ae_mono hle hd (Q := fun v H n => exItems l G callE (.mk L (T.setp v p R)) H n k) h hk
theorem ige_t (hle : CallLe call callE) (hd : CallDet callE) {o : AE} {t : KV → Prop} {P : KV} (h : onGT c b t H n P) (hc : x.ev (.mk L R) = c) (he : o.ex G call (.mk L R) H n = t) (hk : ∀ v H n, P v H n → exItems l G callE (.mk L (T.setp v p R)) H n k) : exItems (.op (.mk (.to p) (.on x b) (.e o)) :: l) G callE (.mk L R) H n k := by
  subst hc he; exact gTst_mono h (fun h => ae_mono hle hd (Q := fun v H n => exItems l G callE (.mk L (T.setp v p R)) H n k) h hk) (hk _ _ _)
theorem iw_t {x : X} (hx : x.ev (.mk L R) = a) (hk : exItems l G callE (.mk L (T.setp a p R)) H n k) : exItems (.op (.mk (.to p) .no (.e (.asg x))) :: l) G callE (.mk L R) H n k := by
  subst hx; exact hk
theorem in_x {o : AN} {e : Option V} {P : V → Prop} (h : onV e P) (he : o.ev G (.mk L R) H = e) (hk : ∀ v, P v → exItems l G callE (.mk L R) H n k) : exItems (.op (.mk .no .no (.n o)) :: l) G callE (.mk L R) H n k := by
  subst he; exact onV_mono h hk
theorem iv_x {o : AN} (he : o.ev G (.mk L R) H = some a) (hk : exItems l G callE (.mk L R) H n k) : exItems (.op (.mk .no .no (.n o)) :: l) G callE (.mk L R) H n k := by
  show onV (o.ev G (.mk L R) H) _; rw [he]; exact hk
theorem ign_x {o : AN} {e : Option V} {P : V → Prop} (h : onG c b e P) (hc : x.ev (.mk L R) = c) (he : o.ev G (.mk L R) H = e) (hk : ∀ v, P v → exItems l G callE (.mk L R) H n k) : exItems (.op (.mk .no (.on x b) (.n o)) :: l) G callE (.mk L R) H n k := by
  subst hc he; exact gTst_mono h (fun h => onV_mono h hk) (hk _)
theorem ia_x {o : AA} {al : KA → Prop} {P : KV} (h : onA al H n P) (he : o.al (.mk L R) = al) (hk : ∀ v H n, P v H n → exItems l G callE (.mk L R) H n k) : exItems (.op (.mk .no .no (.a o)) :: l) G callE (.mk L R) H n k := by
  subst he; exact onA_mono (Q := fun v H n => exItems l G callE (.mk L R) H n k) h hk
theorem iga_x {o : AA} {al : KA → Prop} {P : KV} (h : onGT c b (onA al H n) H n P) (hc : x.ev (.mk L R) = c) (he : o.al (.mk L R) = al) (hk : ∀ v H n, P v H n → exItems l G callE (.mk L R) H n k) : exItems (.op (.mk .no (.on x b) (.a o)) :: l) G callE (.mk L R) H n k := by
  subst hc he; exact gTst_mono h (fun h => onA_mono (Q := fun v H n => exItems l G callE (.mk L R) H n k) h hk) (hk _ _ _)
theorem ie_x (hle : CallLe call callE) (hd : CallDet callE) {o : AE} {t : KV → Prop} {P : KV} (h : t P) (he : o.ex G call (.mk L R) H n = t) (hk : ∀ v H n, P v H n → exItems l G callE (.mk L R) H n k) : exItems (.op (.mk .no .no (.e o)) :: l) G callE (.mk L R) H n k := by
  subst he; exact ae_mono hle hd (Q := fun v H n => exItems l G callE (.mk L R) H n k) h hk
theorem ige_x (hle : CallLe call callE) (hd : CallDet callE) {o : AE} {t : KV → Prop} {P : KV} (h : onGT c b t H n P) (hc : x.ev (.mk L R) = c) (he : o.ex G call (.mk L R) H n = t) (hk : ∀ v H n, P v H n → exItems l G callE (.mk L R) H n k) : exItems (.op (.mk .no (.on x b) (.e o)) :: l) G callE (.mk L R) H n k := by
  subst hc he; exact gTst_mono h (fun h => ae_mono hle hd (Q := fun v H n => exItems l G callE (.mk L R) H n k) h hk) (hk _ _ _)
theorem iw_x {x : X} (hx : x.ev (.mk L R) = a) (hk : exItems l G callE (.mk L R) H n k) : exItems (.op (.mk .no .no (.e (.asg x))) :: l) G callE (.mk L R) H n k := by
  subst hx; exact hk
theorem i0 {K : K} (h : K R H n) : exItems [] G callE (.mk L R) H n (kR K) := h
theorem ire {o : AN} {e : Option V} {P0 : Prop} (h : onV e fun v => onB (vsame v a) P0) (hr : rg R p = a) (he : o.ev G (.mk L R) H = e) (hk : P0 → exItems l G callE (.mk L R) H n k) : exItems (.re p .no o :: l) G callE (.mk L R) H n k := by
  subst hr he; exact onV_mono h fun v h => by rw [onB_eq] at h ⊢; exact ⟨h.1, hk h.2⟩
theorem igre {o : AN} {e : Option V} {P0 : Prop} (h : onRe c b e a P0) (hc : x.ev (.mk L R) = c) (hr : rg R p = a) (he : o.ev G (.mk L R) H = e) (hk : P0 → exItems l G callE (.mk L R) H n k) : exItems (.re p (.on x b) o :: l) G callE (.mk L R) H n k := by
  subst hc hr he; exact gTst_mono h (fun h => onV_mono h fun v h => by rw [onB_eq] at h ⊢; exact ⟨h.1, hk h.2⟩) hk
end
section
variable {R : Regs} {H : Heap} {n : Nat} {k : K} {x : KX} {r : K} {a b : AC}
theorem c_skip (h : k R H n) : AC.skip.exL G callE 0 R H n k x r := h
theorem c_ops {l : List AOp} (h : exOps l G callE (.mk [] R) H n (kR k)) : (AC.ops l).exL G callE 0 R H n k x r := h
theorem c_reg {l : List AI} (h : exItems l G callE (.mk [] R) H n (kR k)) : (AC.reg l).exL G callE 0 R H n k x r := h
theorem c_seq (h : a.exL G callE 0 R H n (fun R H n => b.exL G callE 0 R H n k x r) x r) : (AC.seq a b).exL G callE 0 R H n k x r := h
theorem c_seqj (S : Regs → Heap → Nat → Prop) (hb : ∀ R H n, S R H n → b.exL G callE 0 R H n k x r)
    (ha : (∀ R H n, S R H n → b.exL G callE 0 R H n k x r) → a.exL G callE 0 R H n (fun R H n => b.exL G callE 0 R H n k x r) x r) : (AC.seq a b).exL G callE 0 R H n k x r := ha hb
theorem c_cond {c : X} {v : V} {P Q : Prop} (h : onTst v true P Q) (hc : c.ev (.mk [] R) = v) (ha : P → a.exL G callE 0 R H n k x r) (hb : Q → b.exL G callE 0 R H n k x r) : (AC.cond c a b).exL G callE 0 R H n k x r := by
  subst hc; exact onTst_mono h ha hb
theorem c_block {i : Nat} (h : a.exL G callE 0 R H n k (blockX i k x) r) : (AC.block i a).exL G callE 0 R H n k x r := h
theorem c_exit {i : Nat} (h : x i R H n) : (AC.exit i).exL G callE 0 R H n k x r := h
theorem c_ret (h : r R H n) : AC.ret.exL G callE 0 R H n k x r := h
theorem bx_same {i : Nat} (h : k R H n) : blockX i k x i R H n := by
  unfold blockX
  have : Nat.beq i i = true := by simp
  rw [this]; exact h
theorem bx_up {i j : Nat} (hb : Nat.beq j i = false) (h : x j R H n) : blockX i k x j R H n := by
  unfold blockX; rw [hb]; exact h
theorem c_loop {σ : Type} {lp : LpT} (hL : LpOk lp) {bd : (σ → Prop) → σ → Prop} {s0 : σ} (S : σ → Regs → Heap → Nat → Prop) (h : lp σ bd s0) (h0 : S s0 R H n)
    (hb : ∀ (ih : σ → Prop) (I : K), (∀ s R H n, S s R H n → ih s → I R H n) → ∀ s R H n, S s R H n → bd ih s → a.exL G callE 0 R H n I x r) : (AC.loop a).exL G callE 0 R H n k x r := by
  show loopL a.exL G callE R H n x r
  intro I hI
  exact hL σ bd (fun s => ∀ R H n, S s R H n → I R H n) (fun ih hih s hs R H n hS => hI R H n (hb ih I (fun s R H n hS hi => hih s hi R H n hS) s R H n hS hs)) s0 h R H n h0
end
section
variable {res rs : List AR} {dg : Nat} {R : Regs} {H : Heap} {n : Nat} {k : KV} {l : LV} {p : P2} {a : V} {vs : List AVr}
noncomputable def resC (l : List AR) (R : Regs) : List AVr := l.map fun
  | .tmp p => .t (rg R p) | .cell1 p => .c1 (rg R p) | .celln p n => .cn (rg R p) n
theorem rs0 : resC [] R = [] := rfl
theorem rsT (hx : rg R p = a) (h : resC rs R = vs) : resC (.tmp p :: rs) R = .t a :: vs := by subst hx h; rfl
theorem rsC (hx : rg R p = a) (h : resC rs R = vs) : resC (.cell1 p :: rs) R = .c1 a :: vs := by subst hx h; rfl
theorem rsN {m : Nat} (hx : rg R p = a) (h : resC rs R = vs) : resC (.celln p m :: rs) R = .cn a m :: vs := by subst hx h; rfl
theorem getRs_C : ∀ (res : List AR), getRs res G R H = getVs (resC res R) G H
  | [] => rfl
  | r :: res => by
    show gbind (r.get G R H) (fun v => gbind (getRs res G R H) fun vs => some (v :: vs)) = _
    rw [getRs_C res]
    cases r <;> rfl
theorem finR_C (h : onO (getVs vs G H) fun l => k (oneV l) H n) (he : resC res R = vs) : finR res G k R H n := by
  subst he; show onO (getRs res G R H) _; rw [getRs_C]; exact h
theorem fin_no (he : resC res R = vs) (h : onO (getVs vs G H) fun l => k (oneV l) H n) : exFin res dg .no G callE k R H n := finR_C h he
theorem exDef_mono (hle : CallLe call callE) (hd : CallDet callE) {l : List V} {P Q : Heap → Nat → Prop} (h : exDef dg l call H n P) (hk : ∀ H n, P H n → Q H n) : exDef dg l callE H n Q :=
  Det.mono (exDef_det hd dg l H n) (k := fun s => P s.1 s.2) (k' := fun s => Q s.1 s.2) (fun s hs => hk _ _ hs) (exDef_le hd hle dg l H n _ h)
theorem fin_to {dv : V} {dp : P2} (hle : CallLe call callE) (hd : CallDet callE) (hr : rg R dp = dv) (he : resC res R = vs) (h : exDef dg (tupL dv) call H n fun H n => onO (getVs vs G H) fun l => k (oneV l) H n) : exFin res dg (.to dp) G callE k R H n := by
  subst hr
  exact exDef_mono hle hd (Q := fun H n => finR res G k R H n) h fun H n h => finR_C h he
theorem f_intro {np : Nat} {code : AC} {d : Dst} {args : List V} (hl : Nat.beq (len args) np = true) (h : code.exL G callE 0 (initR args 0 .e) H n (exFin res dg d G callE k) noX (exFin res dg d G callE k)) :
    exFunL (.mk np code res d dg) G callE args H n k := by
  show onB (Nat.beq (len args) np) _
  rw [hl]; exact h
end
end
/- many functions -/
abbrev SF := CallT → List V → Heap → Nat → KV → Prop
noncomputable def ar0 (s : CallT → Heap → Nat → KV → Prop) : SF := fun call l H n k => List.rec (motive := fun _ => Prop) (s call H n k) (fun _ _ _ => False) l
noncomputable def ar1 (s : CallT → V → Heap → Nat → KV → Prop) : SF := fun call l H n k => List.rec (motive := fun _ => Prop) False (fun a l _ => ar0 (fun call => s call a) call l H n k) l
noncomputable def ar2 (s : CallT → V → V → Heap → Nat → KV → Prop) : SF := fun call l H n k => List.rec (motive := fun _ => Prop) False (fun a l _ => ar1 (fun call => s call a) call l H n k) l
noncomputable def ar3 (s : CallT → V → V → V → Heap → Nat → KV → Prop) : SF := fun call l H n k => List.rec (motive := fun _ => Prop) False (fun a l _ => ar2 (fun call => s call a) call l H n k) l
noncomputable def ar4 (s : CallT → V → V → V → V → Heap → Nat → KV → Prop) : SF := fun call l H n k => List.rec (motive := fun _ => Prop) False (fun a l _ => ar3 (fun call => s call a) call l H n k) l
noncomputable def ar5 (s : CallT → V → V → V → V → V → Heap → Nat → KV → Prop) : SF := fun call l H n k => List.rec (motive := fun _ => Prop) False (fun a l _ => ar4 (fun call => s call a) call l H n k) l
noncomputable def ar6 (s : CallT → V → V → V → V → V → V → Heap → Nat → KV → Prop) : SF := fun call l H n k => List.rec (motive := fun _ => Prop) False (fun a l _ => ar5 (fun call => s call a) call l H n k) l
noncomputable def ar7 (s : CallT → V → V → V → V → V → V → V → Heap → Nat → KV → Prop) : SF := fun call l H n k => List.rec (motive := fun _ => Prop) False (fun a l _ => ar6 (fun call => s call a) call l H n k) l
noncomputable def ar8 (s : CallT → V → V → V → V → V → V → V → V → Heap → Nat → KV → Prop) : SF := fun call l H n k => List.rec (motive := fun _ => Prop) False (fun a l _ => ar7 (fun call => s call a) call l H n k) l
noncomputable def ar9 (s : CallT → V → V → V → V → V → V → V → V → V → Heap → Nat → KV → Prop) : SF := fun call l H n k => List.rec (motive := fun _ => Prop) False (fun a l _ => ar8 (fun call => s call a) call l H n k) l
noncomputable def ar10 (s : CallT → V → V → V → V → V → V → V → V → V → V → Heap → Nat → KV → Prop) : SF := fun call l H n k => List.rec (motive := fun _ => Prop) False (fun a l _ => ar9 (fun call => s call a) call l H n k) l
noncomputable def ar11 (s : CallT → V → V → V → V → V → V → V → V → V → V → V → Heap → Nat → KV → Prop) : SF := fun call l H n k => List.rec (motive := fun _ => Prop) False (fun a l _ => ar10 (fun call => s call a) call l H n k) l
noncomputable def ar12 (s : CallT → V → V → V → V → V → V → V → V → V → V → V → V → Heap → Nat → KV → Prop) : SF := fun call l H n k => List.rec (motive := fun _ => Prop) False (fun a l _ => ar11 (fun call => s call a) call l H n k) l
theorem ar0_inv {s : CallT → Heap → Nat → KV → Prop} {call : CallT} {l : List V} {H : Heap} {n : Nat} {k : KV} (h : ar0 s call l H n k) : l = [] ∧ s call H n k := by
  cases l with
  | nil => exact ⟨rfl, h⟩
  | cons => exact (show False from h).elim
theorem ar1_inv {s : CallT → V → Heap → Nat → KV → Prop} {call : CallT} {l : List V} {H : Heap} {n : Nat} {k : KV} (h : ar1 s call l H n k) : ∃ a0, l = [a0] ∧ s call a0 H n k := by
  cases l with
  | nil => exact (show False from h).elim
  | cons a l =>
    obtain ⟨rfl, h⟩ := ar0_inv (show ar0 (fun call => s call a) call l H n k from h)
    exact ⟨a, rfl, h⟩
theorem ar2_inv {s : CallT → V → V → Heap → Nat → KV → Prop} {call : CallT} {l : List V} {H : Heap} {n : Nat} {k : KV} (h : ar2 s call l H n k) : ∃ a0 a1, l = [a0, a1] ∧ s call a0 a1 H n k := by
  cases l with
  | nil => exact (show False from h).elim
  | cons a l =>
    obtain ⟨b0, rfl, h⟩ := ar1_inv (show ar1 (fun call => s call a) call l H n k from h)
    exact ⟨a, b0, rfl, h⟩
theorem ar3_inv {s : CallT → V → V → V → Heap → Nat → KV → Prop} {call : CallT} {l : List V} {H : Heap} {n : Nat} {k : KV} (h : ar3 s call l H n k) : ∃ a0 a1 a2, l = [a0, a1, a2] ∧ s call a0 a1 a2 H n k := by
  cases l with
  | nil => exact (show False from h).elim
  | cons a l =>
    obtain ⟨b0, b1, rfl, h⟩ := ar2_inv (show ar2 (fun call => s call a) call l H n k from h)
    exact ⟨a, b0, b1, rfl, h⟩
theorem ar4_inv {s : CallT → V → V → V → V → Heap → Nat → KV → Prop} {call : CallT} {l : List V} {H : Heap} {n : Nat} {k : KV} (h : ar4 s call l H n k) : ∃ a0 a1 a2 a3, l = [a0, a1, a2, a3] ∧ s call a0 a1 a2 a3 H n k := by
  cases l with
  | nil => exact (show False from h).elim
  | cons a l =>
    obtain ⟨b0, b1, b2, rfl, h⟩ := ar3_inv (show ar3 (fun call => s call a) call l H n k from h)
    exact ⟨a, b0, b1, b2, rfl, h⟩
theorem ar5_inv {s : CallT → V → V → V → V → V → Heap → Nat → KV → Prop} {call : CallT} {l : List V} {H : Heap} {n : Nat} {k : KV} (h : ar5 s call l H n k) : ∃ a0 a1 a2 a3 a4, l = [a0, a1, a2, a3, a4] ∧ s call a0 a1 a2 a3 a4 H n k := by
  cases l with
  | nil => exact (show False from h).elim
  | cons a l =>
    obtain ⟨b0, b1, b2, b3, rfl, h⟩ := ar4_inv (show ar4 (fun call => s call a) call l H n k from h)
    exact ⟨a, b0, b1, b2, b3, rfl, h⟩
theorem ar6_inv {s : CallT → V → V → V → V → V → V → Heap → Nat → KV → Prop} {call : CallT} {l : List V} {H : Heap} {n : Nat} {k : KV} (h : ar6 s call l H n k) : ∃ a0 a1 a2 a3 a4 a5, l = [a0, a1, a2, a3, a4, a5] ∧ s call a0 a1 a2 a3 a4 a5 H n k := by
  cases l with
  | nil => exact (show False from h).elim
  | cons a l =>
    obtain ⟨b0, b1, b2, b3, b4, rfl, h⟩ := ar5_inv (show ar5 (fun call => s call a) call l H n k from h)
    exact ⟨a, b0, b1, b2, b3, b4, rfl, h⟩
theorem ar7_inv {s : CallT → V → V → V → V → V → V → V → Heap → Nat → KV → Prop} {call : CallT} {l : List V} {H : Heap} {n : Nat} {k : KV} (h : ar7 s call l H n k) : ∃ a0 a1 a2 a3 a4 a5 a6, l = [a0, a1, a2, a3, a4, a5, a6] ∧ s call a0 a1 a2 a3 a4 a5 a6 H n k := by
  cases l with
  | nil => exact (show False from h).elim
  | cons a l =>
    obtain ⟨b0, b1, b2, b3, b4, b5, rfl, h⟩ := ar6_inv (show ar6 (fun call => s call a) call l H n k from h)
    exact ⟨a, b0, b1, b2, b3, b4, b5, rfl, h⟩
theorem ar8_inv {s : CallT → V → V → V → V → V → V → V → V → Heap → Nat → KV → Prop} {call : CallT} {l : List V} {H : Heap} {n : Nat} {k : KV} (h : ar8 s call l H n k) : ∃ a0 a1 a2 a3 a4 a5 a6 a7, l = [a0, a1, a2, a3, a4, a5, a6, a7] ∧ s call a0 a1 a2 a3 a4 a5 a6 a7 H n k := by
  cases l with
  | nil => exact (show False from h).elim
  | cons a l =>
    obtain ⟨b0, b1, b2, b3, b4, b5, b6, rfl, h⟩ := ar7_inv (show ar7 (fun call => s call a) call l H n k from h)
    exact ⟨a, b0, b1, b2, b3, b4, b5, b6, rfl, h⟩
theorem ar9_inv {s : CallT → V → V → V → V → V → V → V → V → V → Heap → Nat → KV → Prop} {call : CallT} {l : List V} {H : Heap} {n : Nat} {k : KV} (h : ar9 s call l H n k) : ∃ a0 a1 a2 a3 a4 a5 a6 a7 a8, l = [a0, a1, a2, a3, a4, a5, a6, a7, a8] ∧ s call a0 a1 a2 a3 a4 a5 a6 a7 a8 H n k := by
  cases l with
  | nil => exact (show False from h).elim
  | cons a l =>
    obtain ⟨b0, b1, b2, b3, b4, b5, b6, b7, rfl, h⟩ := ar8_inv (show ar8 (fun call => s call a) call l H n k from h)
    exact ⟨a, b0, b1, b2, b3, b4, b5, b6, b7, rfl, h⟩
theorem ar10_inv {s : CallT → V → V → V → V → V → V → V → V → V → V → Heap → Nat → KV → Prop} {call : CallT} {l : List V} {H : Heap} {n : Nat} {k : KV} (h : ar10 s call l H n k) : ∃ a0 a1 a2 a3 a4 a5 a6 a7 a8 a9, l = [a0, a1, a2, a3, a4, a5, a6, a7, a8, a9] ∧ s call a0 a1 a2 a3 a4 a5 a6 a7 a8 a9 H n k := by
  cases l with
  | nil => exact (show False from h).elim
  | cons a l =>
    obtain ⟨b0, b1, b2, b3, b4, b5, b6, b7, b8, rfl, h⟩ := ar9_inv (show ar9 (fun call => s call a) call l H n k from h)
    exact ⟨a, b0, b1, b2, b3, b4, b5, b6, b7, b8, rfl, h⟩
theorem ar11_inv {s : CallT → V → V → V → V → V → V → V → V → V → V → V → Heap → Nat → KV → Prop} {call : CallT} {l : List V} {H : Heap} {n : Nat} {k : KV} (h : ar11 s call l H n k) : ∃ a0 a1 a2 a3 a4 a5 a6 a7 a8 a9 a10, l = [a0, a1, a2, a3, a4, a5, a6, a7, a8, a9, a10] ∧ s call a0 a1 a2 a3 a4 a5 a6 a7 a8 a9 a10 H n k := by
  cases l with
  | nil => exact (show False from h).elim
  | cons a l =>
    obtain ⟨b0, b1, b2, b3, b4, b5, b6, b7, b8, b9, rfl, h⟩ := ar10_inv (show ar10 (fun call => s call a) call l H n k from h)
    exact ⟨a, b0, b1, b2, b3, b4, b5, b6, b7, b8, b9, rfl, h⟩
theorem ar12_inv {s : CallT → V → V → V → V → V → V → V → V → V → V → V → V → Heap → Nat → KV → Prop} {call : CallT} {l : List V} {H : Heap} {n : Nat} {k : KV} (h : ar12 s call l H n k) : ∃ a0 a1 a2 a3 a4 a5 a6 a7 a8 a9 a10 a11, l = [a0, a1, a2, a3, a4, a5, a6, a7, a8, a9, a10, a11] ∧ s call a0 a1 a2 a3 a4 a5 a6 a7 a8 a9 a10 a11 H n k := by
  cases l with
  | nil => exact (show False from h).elim
  | cons a l =>
    obtain ⟨b0, b1, b2, b3, b4, b5, b6, b7, b8, b9, b10, rfl, h⟩ := ar11_inv (show ar11 (fun call => s call a) call l H n k from h)
    exact ⟨a, b0, b1, b2, b3, b4, b5, b6, b7, b8, b9, b10, rfl, h⟩
noncomputable def runS (FS : T SF) (fuel : Nat) : CallT :=
  Nat.rec (motive := fun _ => CallT) (fun _ _ _ _ _ => False) (fun _ call f args H n k => onO (T.get FS f) fun s => s call args H n k) fuel
def SfOk (G : Roms) (af : AF) (s : SF) : Prop := ∀ call callE, CallLe call callE → CallDet callE → ∀ args H n k, s call args H n k → exFunL af G callE args H n k
def FsOk (F : T AF) (G : Roms) (FS : T SF) : Prop := ∀ f s, T.get FS f = some s → ∃ af, T.get F f = some af ∧ SfOk G af s
theorem runS_le {F : T AF} {G : Roms} {FS : T SF} (h : FsOk F G FS) : ∀ m, CallLe (runS FS m) (Runs F G)
  | 0 => fun _ _ _ _ _ h => (show False from h).elim
  | m + 1 => fun f a H n k hr => by
    have hr' : onO (T.get FS f) fun s => s (runS FS m) a H n k := hr
    rw [onO_iff] at hr'
    obtain ⟨s, hs, hr'⟩ := hr'
    obtain ⟨af, haf, hok⟩ := h f s hs
    exact runs_intro haf (hok _ _ (runS_le h m) (runs_det F G) _ _ _ _ hr')
theorem runs_sh {F : T AF} {G : Roms} {FS : T SF} (h : FsOk F G FS) {f : Nat} {a : List V} {m : Nat} (hr : runS FS m f a .e 0 isT = True) : Runs F G f a .e 0 fun v _ _ => v = .bool true :=
  runs_mono (k := isT) (fun _ _ _ hv => isT_iff hv) (runS_le h m _ _ _ _ _ (of_eq_true hr))
end Go.Eng

/- The engine, part 47: whole numbers that are read to a remainder, or to a mask; runs of laws. -/
namespace Go.Eng
section
variable {E : RS} {G : Roms} {H : Heap} {x : X} {a : Int}
theorem km1 (hx : x.ev E = .int .i64 a 0) : (AN.cvi .u64 x).ev G E H = some (.int .u64 (IntKind.wrap .u64 a) 0) := by
  show (x.ev E).onInt _ = _
  rw [hx]; exact mkI_zero _ _
theorem km2 {m t : Nat} (hm : 0 < m) (e : umod a m = t) (hx : x.ev E = .int .u64 (IntKind.wrap .u64 a) 0) : (AN.bin .rem x (.c (.int .u64 (.ofNat m) 0))).ev G E H = some (.int .u64 (.ofNat t) 0) := by
  subst e
  show B2.ev .rem (x.ev E) (.int .u64 (.ofNat m) 0) = _
  rw [hx]
  show guardO (band true (band true (bnot (ieq (.ofNat m) 0)))) (mkN .u64 (Int.tmod (IntKind.wrap .u64 a) (.ofNat m)) 0) = _
  have : ieq (.ofNat m) 0 = false := by rw [ieq_eq]; simp; omega
  rw [this]
  show forceIV (Int.tmod (IntKind.wrap .u64 a) (.ofNat m)) (fun m => some (.int .u64 m 0)) = _
  rw [forceIV_eq]
  exact congrArg (fun z => some (V.int .u64 z 0)) (umod_eq a m)
theorem km3 {m t : Nat} (hm : m < 9223372036854775808) (e : uand a m = t) (hx : x.ev E = .int .i64 a 0) : (AN.bin .and x (.c (.int .i64 (.ofNat m) 0))).ev G E H = some (.int .i64 (.ofNat t) 0) := by
  subst e
  show andV (x.ev E) (.int .i64 (.ofNat m) 0) = _
  rw [hx]
  show guardO true (forceIV (iand .i64 a (.ofNat m)) fun m => some (.int .i64 m 0)) = _
  rw [iand_spec a hm]; rfl
end
theorem runs_law {F : T AF} {G : Roms} {FS : T SF} (h : FsOk F G FS) {f : Nat} {af : AF} (hf : T.get F f = some af) {a : List V} (m : Nat) {t : KV → Prop} (hs : ∀ callE, CallLe (runS FS m) callE → CallDet callE → t isT → exFunL af G callE a .e 0 isT) (hr : t isT = True) :
    Runs F G f a .e 0 fun v _ _ => v = .bool true :=
  runs_mono (k := isT) (fun _ _ _ hv => isT_iff hv) (runs_intro hf (hs _ (runS_le h m) (runs_det F G) (of_eq_true hr)))
theorem below2 {p : Nat → Prop} (h0 : p 0) (h1 : p 1) (x : Nat) (hx : x < 2) : p x := by
  have : x = 0 ∨ x = 1 := by omega
  rcases this with rfl | rfl <;> assumption
theorem below3 {p : Nat → Prop} (h0 : p 0) (h1 : p 1) (h2 : p 2) (x : Nat) (hx : x < 3) : p x := by
  have : x = 0 ∨ x = 1 ∨ x = 2 := by omega
  rcases this with rfl | rfl | rfl <;> assumption
theorem below4 {p : Nat → Prop} (h0 : p 0) (h1 : p 1) (h2 : p 2) (h3 : p 3) (x : Nat) (hx : x < 4) : p x := by
  have : x = 0 ∨ x = 1 ∨ x = 2 ∨ x = 3 := by omega
  rcases this with rfl | rfl | rfl | rfl <;> assumption
theorem below5 {p : Nat → Prop} (h0 : p 0) (h1 : p 1) (h2 : p 2) (h3 : p 3) (h4 : p 4) (x : Nat) (hx : x < 5) : p x := by
  have : x = 0 ∨ x = 1 ∨ x = 2 ∨ x = 3 ∨ x = 4 := by omega
  rcases this with rfl | rfl | rfl | rfl | rfl <;> assumption
theorem below6 {p : Nat → Prop} (h0 : p 0) (h1 : p 1) (h2 : p 2) (h3 : p 3) (h4 : p 4) (h5 : p 5) (x : Nat) (hx : x < 6) : p x := by
  have : x = 0 ∨ x = 1 ∨ x = 2 ∨ x = 3 ∨ x = 4 ∨ x = 5 := by omega
  rcases this with rfl | rfl | rfl | rfl | rfl | rfl <;> assumption
theorem below7 {p : Nat → Prop} (h0 : p 0) (h1 : p 1) (h2 : p 2) (h3 : p 3) (h4 : p 4) (h5 : p 5) (h6 : p 6) (x : Nat) (hx : x < 7) : p x := by
  have : x = 0 ∨ x = 1 ∨ x = 2 ∨ x = 3 ∨ x = 4 ∨ x = 5 ∨ x = 6 := by omega
  rcases this with rfl | rfl | rfl | rfl | rfl | rfl | rfl <;> assumption
theorem below8 {p : Nat → Prop} (h0 : p 0) (h1 : p 1) (h2 : p 2) (h3 : p 3) (h4 : p 4) (h5 : p 5) (h6 : p 6) (h7 : p 7) (x : Nat) (hx : x < 8) : p x := by
  have : x = 0 ∨ x = 1 ∨ x = 2 ∨ x = 3 ∨ x = 4 ∨ x = 5 ∨ x = 6 ∨ x = 7 := by omega
  rcases this with rfl | rfl | rfl | rfl | rfl | rfl | rfl | rfl <;> assumption
theorem below9 {p : Nat → Prop} (h0 : p 0) (h1 : p 1) (h2 : p 2) (h3 : p 3) (h4 : p 4) (h5 : p 5) (h6 : p 6) (h7 : p 7) (h8 : p 8) (x : Nat) (hx : x < 9) : p x := by
  have : x = 0 ∨ x = 1 ∨ x = 2 ∨ x = 3 ∨ x = 4 ∨ x = 5 ∨ x = 6 ∨ x = 7 ∨ x = 8 := by omega
  rcases this with rfl | rfl | rfl | rfl | rfl | rfl | rfl | rfl | rfl <;> assumption
theorem below10 {p : Nat → Prop} (h0 : p 0) (h1 : p 1) (h2 : p 2) (h3 : p 3) (h4 : p 4) (h5 : p 5) (h6 : p 6) (h7 : p 7) (h8 : p 8) (h9 : p 9) (x : Nat) (hx : x < 10) : p x := by
  have : x = 0 ∨ x = 1 ∨ x = 2 ∨ x = 3 ∨ x = 4 ∨ x = 5 ∨ x = 6 ∨ x = 7 ∨ x = 8 ∨ x = 9 := by omega
  rcases this with rfl | rfl | rfl | rfl | rfl | rfl | rfl | rfl | rfl | rfl <;> assumption
theorem below12 {p : Nat → Prop} (h0 : p 0) (h1 : p 1) (h2 : p 2) (h3 : p 3) (h4 : p 4) (h5 : p 5) (h6 : p 6) (h7 : p 7) (h8 : p 8) (h9 : p 9) (h10 : p 10) (h11 : p 11) (x : Nat) (hx : x < 12) : p x := by
  have : x = 0 ∨ x = 1 ∨ x = 2 ∨ x = 3 ∨ x = 4 ∨ x = 5 ∨ x = 6 ∨ x = 7 ∨ x = 8 ∨ x = 9 ∨ x = 10 ∨ x = 11 := by omega
  rcases this with rfl | rfl | rfl | rfl | rfl | rfl | rfl | rfl | rfl | rfl | rfl | rfl <;> assumption
theorem below16 {p : Nat → Prop} (h0 : p 0) (h1 : p 1) (h2 : p 2) (h3 : p 3) (h4 : p 4) (h5 : p 5) (h6 : p 6) (h7 : p 7) (h8 : p 8) (h9 : p 9) (h10 : p 10) (h11 : p 11) (h12 : p 12) (h13 : p 13) (h14 : p 14) (h15 : p 15) (x : Nat) (hx : x < 16) : p x := by
  have : x = 0 ∨ x = 1 ∨ x = 2 ∨ x = 3 ∨ x = 4 ∨ x = 5 ∨ x = 6 ∨ x = 7 ∨ x = 8 ∨ x = 9 ∨ x = 10 ∨ x = 11 ∨ x = 12 ∨ x = 13 ∨ x = 14 ∨ x = 15 := by omega
  rcases this with rfl | rfl | rfl | rfl | rfl | rfl | rfl | rfl | rfl | rfl | rfl | rfl | rfl | rfl | rfl | rfl <;> assumption
theorem below20 {p : Nat → Prop} (h0 : p 0) (h1 : p 1) (h2 : p 2) (h3 : p 3) (h4 : p 4) (h5 : p 5) (h6 : p 6) (h7 : p 7) (h8 : p 8) (h9 : p 9) (h10 : p 10) (h11 : p 11) (h12 : p 12) (h13 : p 13) (h14 : p 14) (h15 : p 15) (h16 : p 16) (h17 : p 17) (h18 : p 18) (h19 : p 19) (x : Nat) (hx : x < 20) : p x := by
  have : x = 0 ∨ x = 1 ∨ x = 2 ∨ x = 3 ∨ x = 4 ∨ x = 5 ∨ x = 6 ∨ x = 7 ∨ x = 8 ∨ x = 9 ∨ x = 10 ∨ x = 11 ∨ x = 12 ∨ x = 13 ∨ x = 14 ∨ x = 15 ∨ x = 16 ∨ x = 17 ∨ x = 18 ∨ x = 19 := by omega
  rcases this with rfl | rfl | rfl | rfl | rfl | rfl | rfl | rfl | rfl | rfl | rfl | rfl | rfl | rfl | rfl | rfl | rfl | rfl | rfl | rfl <;> assumption
theorem below30 {p : Nat → Prop} (h0 : p 0) (h1 : p 1) (h2 : p 2) (h3 : p 3) (h4 : p 4) (h5 : p 5) (h6 : p 6) (h7 : p 7) (h8 : p 8) (h9 : p 9) (h10 : p 10) (h11 : p 11) (h12 : p 12) (h13 : p 13) (h14 : p 14) (h15 : p 15) (h16 : p 16) (h17 : p 17) (h18 : p 18) (h19 : p 19) (h20 : p 20) (h21 : p 21) (h22 : p 22) (h23 : p 23) (h24 : p 24) (h25 : p 25) (h26 : p 26) (h27 : p 27) (h28 : p 28) (h29 : p 29) (x : Nat) (hx : x < 30) : p x := by
  match x, hx with
  | 0, _ => exact h0
  | 1, _ => exact h1
  | 2, _ => exact h2
  | 3, _ => exact h3
  | 4, _ => exact h4
  | 5, _ => exact h5
  | 6, _ => exact h6
  | 7, _ => exact h7
  | 8, _ => exact h8
  | 9, _ => exact h9
  | 10, _ => exact h10
  | 11, _ => exact h11
  | 12, _ => exact h12
  | 13, _ => exact h13
  | 14, _ => exact h14
  | 15, _ => exact h15
  | 16, _ => exact h16
  | 17, _ => exact h17
  | 18, _ => exact h18
  | 19, _ => exact h19
  | 20, _ => exact h20
  | 21, _ => exact h21
  | 22, _ => exact h22
  | 23, _ => exact h23
  | 24, _ => exact h24
  | 25, _ => exact h25
  | 26, _ => exact h26
  | 27, _ => exact h27
  | 28, _ => exact h28
  | 29, _ => exact h29
  | x + 30, hx => exact absurd hx (by omega)
theorem below32 {p : Nat → Prop} (h0 : p 0) (h1 : p 1) (h2 : p 2) (h3 : p 3) (h4 : p 4) (h5 : p 5) (h6 : p 6) (h7 : p 7) (h8 : p 8) (h9 : p 9) (h10 : p 10) (h11 : p 11) (h12 : p 12) (h13 : p 13) (h14 : p 14) (h15 : p 15) (h16 : p 16) (h17 : p 17) (h18 : p 18) (h19 : p 19) (h20 : p 20) (h21 : p 21) (h22 : p 22) (h23 : p 23) (h24 : p 24) (h25 : p 25) (h26 : p 26) (h27 : p 27) (h28 : p 28) (h29 : p 29) (h30 : p 30) (h31 : p 31) (x : Nat) (hx : x < 32) : p x := by
  match x, hx with
  | 0, _ => exact h0
  | 1, _ => exact h1
  | 2, _ => exact h2
  | 3, _ => exact h3
  | 4, _ => exact h4
  | 5, _ => exact h5
  | 6, _ => exact h6
  | 7, _ => exact h7
  | 8, _ => exact h8
  | 9, _ => exact h9
  | 10, _ => exact h10
  | 11, _ => exact h11
  | 12, _ => exact h12
  | 13, _ => exact h13
  | 14, _ => exact h14
  | 15, _ => exact h15
  | 16, _ => exact h16
  | 17, _ => exact h17
  | 18, _ => exact h18
  | 19, _ => exact h19
  | 20, _ => exact h20
  | 21, _ => exact h21
  | 22, _ => exact h22
  | 23, _ => exact h23
  | 24, _ => exact h24
  | 25, _ => exact h25
  | 26, _ => exact h26
  | 27, _ => exact h27
  | 28, _ => exact h28
  | 29, _ => exact h29
  | 30, _ => exact h30
  | 31, _ => exact h31
  | x + 32, hx => exact absurd hx (by omega)
theorem below42 {p : Nat → Prop} (h0 : p 0) (h1 : p 1) (h2 : p 2) (h3 : p 3) (h4 : p 4) (h5 : p 5) (h6 : p 6) (h7 : p 7) (h8 : p 8) (h9 : p 9) (h10 : p 10) (h11 : p 11) (h12 : p 12) (h13 : p 13) (h14 : p 14) (h15 : p 15) (h16 : p 16) (h17 : p 17) (h18 : p 18) (h19 : p 19) (h20 : p 20) (h21 : p 21) (h22 : p 22) (h23 : p 23) (h24 : p 24) (h25 : p 25) (h26 : p 26) (h27 : p 27) (h28 : p 28) (h29 : p 29) (h30 : p 30) (h31 : p 31) (h32 : p 32) (h33 : p 33) (h34 : p 34) (h35 : p 35) (h36 : p 36) (h37 : p 37) (h38 : p 38) (h39 : p 39) (h40 : p 40) (h41 : p 41) (x : Nat) (hx : x < 42) : p x := by
  match x, hx with
  | 0, _ => exact h0
  | 1, _ => exact h1
  | 2, _ => exact h2
  | 3, _ => exact h3
  | 4, _ => exact h4
  | 5, _ => exact h5
  | 6, _ => exact h6
  | 7, _ => exact h7
  | 8, _ => exact h8
  | 9, _ => exact h9
  | 10, _ => exact h10
  | 11, _ => exact h11
  | 12, _ => exact h12
  | 13, _ => exact h13
  | 14, _ => exact h14
  | 15, _ => exact h15
  | 16, _ => exact h16
  | 17, _ => exact h17
  | 18, _ => exact h18
  | 19, _ => exact h19
  | 20, _ => exact h20
  | 21, _ => exact h21
  | 22, _ => exact h22
  | 23, _ => exact h23
  | 24, _ => exact h24
  | 25, _ => exact h25
  | 26, _ => exact h26
  | 27, _ => exact h27
  | 28, _ => exact h28
  | 29, _ => exact h29
  | 30, _ => exact h30
  | 31, _ => exact h31
  | 32, _ => exact h32
  | 33, _ => exact h33
  | 34, _ => exact h34
  | 35, _ => exact h35
  | 36, _ => exact h36
  | 37, _ => exact h37
  | 38, _ => exact h38
  | 39, _ => exact h39
  | 40, _ => exact h40
  | 41, _ => exact h41
  | x + 42, hx => exact absurd hx (by omega)
theorem below64 {p : Nat → Prop} (h0 : p 0) (h1 : p 1) (h2 : p 2) (h3 : p 3) (h4 : p 4) (h5 : p 5) (h6 : p 6) (h7 : p 7) (h8 : p 8) (h9 : p 9) (h10 : p 10) (h11 : p 11) (h12 : p 12) (h13 : p 13) (h14 : p 14) (h15 : p 15) (h16 : p 16) (h17 : p 17) (h18 : p 18) (h19 : p 19) (h20 : p 20) (h21 : p 21) (h22 : p 22) (h23 : p 23) (h24 : p 24) (h25 : p 25) (h26 : p 26) (h27 : p 27) (h28 : p 28) (h29 : p 29) (h30 : p 30) (h31 : p 31) (h32 : p 32) (h33 : p 33) (h34 : p 34) (h35 : p 35) (h36 : p 36) (h37 : p 37) (h38 : p 38) (h39 : p 39) (h40 : p 40) (h41 : p 41) (h42 : p 42) (h43 : p 43) (h44 : p 44) (h45 : p 45) (h46 : p 46) (h47 : p 47) (h48 : p 48) (h49 : p 49) (h50 : p 50) (h51 : p 51) (h52 : p 52) (h53 : p 53) (h54 : p 54) (h55 : p 55) (h56 : p 56) (h57 : p 57) (h58 : p 58) (h59 : p 59) (h60 : p 60) (h61 : p 61) (h62 : p 62) (h63 : p 63) (x : Nat) (hx : x < 64) : p x := by
  match x, hx with
  | 0, _ => exact h0
  | 1, _ => exact h1
  | 2, _ => exact h2
  | 3, _ => exact h3
  | 4, _ => exact h4
  | 5, _ => exact h5
  | 6, _ => exact h6
  | 7, _ => exact h7
  | 8, _ => exact h8
  | 9, _ => exact h9
  | 10, _ => exact h10
  | 11, _ => exact h11
  | 12, _ => exact h12
  | 13, _ => exact h13
  | 14, _ => exact h14
  | 15, _ => exact h15
  | 16, _ => exact h16
  | 17, _ => exact h17
  | 18, _ => exact h18
  | 19, _ => exact h19
  | 20, _ => exact h20
  | 21, _ => exact h21
  | 22, _ => exact h22
  | 23, _ => exact h23
  | 24, _ => exact h24
  | 25, _ => exact h25
  | 26, _ => exact h26
  | 27, _ => exact h27
  | 28, _ => exact h28
  | 29, _ => exact h29
  | 30, _ => exact h30
  | 31, _ => exact h31
  | 32, _ => exact h32
  | 33, _ => exact h33
  | 34, _ => exact h34
  | 35, _ => exact h35
  | 36, _ => exact h36
  | 37, _ => exact h37
  | 38, _ => exact h38
  | 39, _ => exact h39
  | 40, _ => exact h40
  | 41, _ => exact h41
  | 42, _ => exact h42
  | 43, _ => exact h43
  | 44, _ => exact h44
  | 45, _ => exact h45
  | 46, _ => exact h46
  | 47, _ => exact h47
  | 48, _ => exact h48
  | 49, _ => exact h49
  | 50, _ => exact h50
  | 51, _ => exact h51
  | 52, _ => exact h52
  | 53, _ => exact h53
  | 54, _ => exact h54
  | 55, _ => exact h55
  | 56, _ => exact h56
  | 57, _ => exact h57
  | 58, _ => exact h58
  | 59, _ => exact h59
  | 60, _ => exact h60
  | 61, _ => exact h61
  | 62, _ => exact h62
  | 63, _ => exact h63
  | x + 64, hx => exact absurd hx (by omega)
theorem below82 {p : Nat → Prop} (h0 : p 0) (h1 : p 1) (h2 : p 2) (h3 : p 3) (h4 : p 4) (h5 : p 5) (h6 : p 6) (h7 : p 7) (h8 : p 8) (h9 : p 9) (h10 : p 10) (h11 : p 11) (h12 : p 12) (h13 : p 13) (h14 : p 14) (h15 : p 15) (h16 : p 16) (h17 : p 17) (h18 : p 18) (h19 : p 19) (h20 : p 20) (h21 : p 21) (h22 : p 22) (h23 : p 23) (h24 : p 24) (h25 : p 25) (h26 : p 26) (h27 : p 27) (h28 : p 28) (h29 : p 29) (h30 : p 30) (h31 : p 31) (h32 : p 32) (h33 : p 33) (h34 : p 34) (h35 : p 35) (h36 : p 36) (h37 : p 37) (h38 : p 38) (h39 : p 39) (h40 : p 40) (h41 : p 41) (h42 : p 42) (h43 : p 43) (h44 : p 44) (h45 : p 45) (h46 : p 46) (h47 : p 47) (h48 : p 48) (h49 : p 49) (h50 : p 50) (h51 : p 51) (h52 : p 52) (h53 : p 53) (h54 : p 54) (h55 : p 55) (h56 : p 56) (h57 : p 57) (h58 : p 58) (h59 : p 59) (h60 : p 60) (h61 : p 61) (h62 : p 62) (h63 : p 63) (h64 : p 64) (h65 : p 65) (h66 : p 66) (h67 : p 67) (h68 : p 68) (h69 : p 69) (h70 : p 70) (h71 : p 71) (h72 : p 72) (h73 : p 73) (h74 : p 74) (h75 : p 75) (h76 : p 76) (h77 : p 77) (h78 : p 78) (h79 : p 79) (h80 : p 80) (h81 : p 81) (x : Nat) (hx : x < 82) : p x := by
  match x, hx with
  | 0, _ => exact h0
  | 1, _ => exact h1
  | 2, _ => exact h2
  | 3, _ => exact h3
  | 4, _ => exact h4
  | 5, _ => exact h5
  | 6, _ => exact h6
  | 7, _ => exact h7
  | 8, _ => exact h8
  | 9, _ => exact h9
  | 10, _ => exact h10
  | 11, _ => exact h11
  | 12, _ => exact h12
  | 13, _ => exact h13
  | 14, _ => exact h14
  | 15, _ => exact h15
  | 16, _ => exact h16
  | 17, _ => exact h17
  | 18, _ => exact h18
  | 19, _ => exact h19
  | 20, _ => exact h20
  | 21, _ => exact h21
  | 22, _ => exact h22
  | 23, _ => exact h23
  | 24, _ => exact h24
  | 25, _ => exact h25
  | 26, _ => exact h26
  | 27, _ => exact h27
  | 28, _ => exact h28
  | 29, _ => exact h29
  | 30, _ => exact h30
  | 31, _ => exact h31
  | 32, _ => exact h32
  | 33, _ => exact h33
  | 34, _ => exact h34
  | 35, _ => exact h35
  | 36, _ => exact h36
  | 37, _ => exact h37
  | 38, _ => exact h38
  | 39, _ => exact h39
  | 40, _ => exact h40
  | 41, _ => exact h41
  | 42, _ => exact h42
  | 43, _ => exact h43
  | 44, _ => exact h44
  | 45, _ => exact h45
  | 46, _ => exact h46
  | 47, _ => exact h47
  | 48, _ => exact h48
  | 49, _ => exact h49
  | 50, _ => exact h50
  | 51, _ => exact h51
  | 52, _ => exact h52
  | 53, _ => exact h53
  | 54, _ => exact h54
  | 55, _ => exact h55
  | 56, _ => exact h56
  | 57, _ => exact h57
  | 58, _ => exact h58
  | 59, _ => exact h59
  | 60, _ => exact h60
  | 61, _ => exact h61
  | 62, _ => exact h62
  | 63, _ => exact h63
  | 64, _ => exact h64
  | 65, _ => exact h65
  | 66, _ => exact h66
  | 67, _ => exact h67
  | 68, _ => exact h68
  | 69, _ => exact h69
  | 70, _ => exact h70
  | 71, _ => exact h71
  | 72, _ => exact h72
  | 73, _ => exact h73
  | 74, _ => exact h74
  | 75, _ => exact h75
  | 76, _ => exact h76
  | 77, _ => exact h77
  | 78, _ => exact h78
  | 79, _ => exact h79
  | 80, _ => exact h80
  | 81, _ => exact h81
  | x + 82, hx => exact absurd hx (by omega)
end Go.Eng

/- The engine, part 49: plain functions of values are right by the kernel's own reckoning. -/
namespace Go.Eng
/- code's steps, so that what comes behind stands once -/
noncomputable def goN (x : X) (b : Bool) (d : Dst) (o : AN) : XpT := fun G _ R H n k => onG (x.ev R) b (o.ev G R H) fun v => k (setD d v R) H n
noncomputable def goA (x : X) (b : Bool) (d : Dst) (o : AA) : XpT := fun _ _ R H n k => onGT (x.ev R) b (onA (o.al R) H n) H n fun v H n => k (setD d v R) H n
noncomputable def goE (x : X) (b : Bool) (d : Dst) (o : AE) : XpT := fun G call R H n k => onGT (x.ev R) b (o.ex G call R H n) H n fun v H n => k (setD d v R) H n
noncomputable def gOnG (x : X) (b : Bool) (d : Dst) (o : AO) : XpT := AO.rec (motive := fun _ => XpT) (goN x b d) (goA x b d) (goE x b d) o
noncomputable def oAG (o : AA) : XoT := fun _ _ d R H n k => onA (o.al R) H n fun v H n => k (setD d v R) H n
noncomputable def AO.exG (o : AO) : XoT := AO.rec (motive := fun _ => XoT) oN oAG oE o
noncomputable def gNoG (d : Dst) (o : AO) : XpT := fun G call R H n k => o.exG G call d R H n k
noncomputable def AOp.exG (o : AOp) : XpT := AOp.rec (motive := fun _ => XpT) (fun d g o => Gd.rec (motive := fun _ => Dst → AO → XpT) gNoG gOnG g d o) o
theorem aop_exG (o : AOp) : o.exG = o.ex := by
  obtain ⟨d, g, o⟩ := o
  cases g <;> cases o <;> rfl
noncomputable def exOpsG (l : List AOp) : XpT :=
  List.rec (motive := fun _ => XpT) (fun _ _ R H n k => k R H n) (fun o _ g G call R H n k => o.exG G call R H n fun R H n => g G call R H n k) l
theorem exOps_G : ∀ l : List AOp, exOpsG l = exOps l
  | [] => rfl
  | o :: l => by
    show (fun G call R H n k => o.exG G call R H n fun R H n => exOpsG l G call R H n k) = fun G call R H n k => o.ex G call R H n fun R H n => exOps l G call R H n k
    rw [exOps_G l, aop_exG]
noncomputable def reOnG (x : X) (b : Bool) : ReT := fun G R H d o k => onRe (x.ev R) b (o.ev G R H) (odef (T.getp d R.rg)) k
noncomputable def exReG (g : Gd) : ReT := Gd.rec (motive := fun _ => ReT) reNo reOnG g
noncomputable def AI.exG (i : AI) : XpT := AI.rec (motive := fun _ => XpT) (fun o => o.exG) (fun d g o G _ R H n k => exReG g G R H d o (k R H n)) i
theorem ai_exG (i : AI) : i.exG = i.ex := by
  cases i with
  | op o => exact aop_exG o
  | re d g o => cases g <;> rfl
noncomputable def exItemsG (l : List AI) : XpT :=
  List.rec (motive := fun _ => XpT) (fun _ _ R H n k => k R H n) (fun i _ g G call R H n k => i.exG G call R H n fun R H n => g G call R H n k) l
theorem exItems_G : ∀ l : List AI, exItemsG l = exItems l
  | [] => rfl
  | o :: l => by
    show (fun G call R H n k => o.exG G call R H n fun R H n => exItemsG l G call R H n k) = fun G call R H n k => o.ex G call R H n fun R H n => exItems l G call R H n k
    rw [exItems_G l, ai_exG]
noncomputable def opsMG (l : List AOp) : M := fun G call _ R H n k _ _ => exOpsG l G call (.mk [] R) H n fun E H n => k E.rg H n
noncomputable def regMG (l : List AI) : M := fun G call _ R H n k _ _ => exItemsG l G call (.mk [] R) H n fun E H n => k E.rg H n
noncomputable def AC.exG (c : AC) : M := AC.rec (motive := fun _ => M) skipM opsMG regMG seqM condM blockM loopLM exitM retM c
theorem ac_exG : ∀ c : AC, c.exG = c.exL
  | .skip => rfl
  | .ops l => by show opsMG l = opsM l; unfold opsMG opsM; rw [exOps_G]
  | .reg l => by show regMG l = regM l; unfold regMG regM; rw [exItems_G]
  | .seq a b => by show seqM a b a.exG b.exG = seqM a b a.exL b.exL; rw [ac_exG a, ac_exG b]
  | .cond x a b => by show condM x a b a.exG b.exG = condM x a b a.exL b.exL; rw [ac_exG a, ac_exG b]
  | .block i a => by show blockM i a a.exG = blockM i a a.exL; rw [ac_exG a]
  | .loop a => by show loopLM a a.exG = loopLM a a.exL; rw [ac_exG a]
  | .exit i => rfl
  | .ret => rfl
/- where code is cut: s a sequence as it is, j one whose second part has a name, l a loop whose state has a name -/
inductive An : Type 1 where
  | n
  | s (a b : An)
  | j (S : K) (a b : An)
  | c (a b : An)
  | b (a : An)
  | l (σ : Type) (bd : (σ → Prop) → σ → Prop) (st : Regs → Heap → Nat → σ) (a : (σ → Prop) → An)
abbrev M2 := AC → Roms → CallT → Regs → Heap → Nat → K → KX → K → Prop
noncomputable def AC.onSeq (c : AC) (f : AC → AC → Prop) : Prop := AC.rec (motive := fun _ => Prop) False (fun _ => False) (fun _ => False) (fun a b _ _ => f a b) (fun _ _ _ _ _ => False) (fun _ _ _ => False) (fun _ _ => False) (fun _ => False) False c
noncomputable def AC.onCond (c : AC) (f : X → AC → AC → Prop) : Prop := AC.rec (motive := fun _ => Prop) False (fun _ => False) (fun _ => False) (fun _ _ _ _ => False) (fun x a b _ _ => f x a b) (fun _ _ _ => False) (fun _ _ => False) (fun _ => False) False c
noncomputable def AC.onBlock (c : AC) (f : Nat → AC → Prop) : Prop := AC.rec (motive := fun _ => Prop) False (fun _ => False) (fun _ => False) (fun _ _ _ _ => False) (fun _ _ _ _ _ => False) (fun i a _ => f i a) (fun _ _ => False) (fun _ => False) False c
noncomputable def AC.onLoop (c : AC) (f : AC → Prop) : Prop := AC.rec (motive := fun _ => Prop) False (fun _ => False) (fun _ => False) (fun _ _ _ _ => False) (fun _ _ _ _ _ => False) (fun _ _ _ => False) (fun a _ => f a) (fun _ => False) False c
noncomputable def An.ex (L : LpT) (an : An) : M2 :=
  An.rec (motive := fun _ => M2)
    (fun c G call R H n k x r => c.exG G call 0 R H n k x r)
    (fun _ _ ga gb c G call R H n k x r => c.onSeq fun a b => ga a G call R H n (fun R H n => gb b G call R H n k x r) x r)
    (fun S _ _ ga _ c G call R H n _ x r => c.onSeq fun a _ => ga a G call R H n S x r)
    (fun _ _ ga gb c G call R H n k x r => c.onCond fun y a b => onTst (y.ev (.mk [] R)) true (ga a G call R H n k x r) (gb b G call R H n k x r))
    (fun _ ga c G call R H n k x r => c.onBlock fun i a => ga a G call R H n k (blockX i k x) r)
    (fun σ bd st _ _ c _ _ R H n _ _ _ => c.onLoop fun _ => L σ bd (st R H n)) an
abbrev M3 := AC → Roms → CallT → K → KX → K → Prop
noncomputable def An.ob (L : LpT) (an : An) : M3 :=
  An.rec (motive := fun _ => M3)
    (fun _ _ _ _ _ _ => True)
    (fun _ b ga gb c G call k x r => c.onSeq fun a d => ga a G call (fun R H n => b.ex L d G call R H n k x r) x r ∧ gb d G call k x r)
    (fun S _ b ga gb c G call k x r => c.onSeq fun a d => ga a G call S x r ∧ (∀ R H n, S R H n = b.ex L d G call R H n k x r) ∧ gb d G call k x r)
    (fun _ _ ga gb c G call k x r => c.onCond fun _ a b => ga a G call k x r ∧ gb b G call k x r)
    (fun _ ga c G call k x r => c.onBlock fun i a => ga a G call k (blockX i k x) r)
    (fun σ bd st a ga c G call _ x r => c.onLoop fun d => ∀ ih : σ → Prop, (∀ R H n, bd ih (st R H n) = (a ih).ex L d G call R H n (fun R H n => ih (st R H n)) x r) ∧ ga ih d G call (fun R H n => ih (st R H n)) x r) an
noncomputable def AC.onSeqT (c : AC) (f : AC → AC → Prop) : Prop := AC.rec (motive := fun _ => Prop) True (fun _ => True) (fun _ => True) (fun a b _ _ => f a b) (fun _ _ _ _ _ => True) (fun _ _ _ => True) (fun _ _ => True) (fun _ => True) True c
noncomputable def AC.onCondT (c : AC) (f : X → AC → AC → Prop) : Prop := AC.rec (motive := fun _ => Prop) True (fun _ => True) (fun _ => True) (fun _ _ _ _ => True) (fun x a b _ _ => f x a b) (fun _ _ _ => True) (fun _ _ => True) (fun _ => True) True c
noncomputable def AC.onBlockT (c : AC) (f : Nat → AC → Prop) : Prop := AC.rec (motive := fun _ => Prop) True (fun _ => True) (fun _ => True) (fun _ _ _ _ => True) (fun _ _ _ _ _ => True) (fun i a _ => f i a) (fun _ _ => True) (fun _ => True) True c
noncomputable def AC.onLoopT (c : AC) (f : AC → Prop) : Prop := AC.rec (motive := fun _ => Prop) True (fun _ => True) (fun _ => True) (fun _ _ _ _ => True) (fun _ _ _ _ _ => True) (fun _ _ _ => True) (fun a _ => f a) (fun _ => True) True c
noncomputable def An.obR (L : LpT) (an : An) : M3 :=
  An.rec (motive := fun _ => M3)
    (fun _ _ _ _ _ _ => True)
    (fun _ b ga gb c G call k x r => c.onSeqT fun a d => ga a G call (fun R H n => b.ex L d G call R H n k x r) x r ∧ gb d G call k x r)
    (fun S _ b ga gb c G call k x r => c.onSeqT fun a d => ga a G call S x r ∧ (∀ R H n, S R H n = S R H n) ∧ gb d G call k x r)
    (fun _ _ ga gb c G call k x r => c.onCondT fun _ a b => ga a G call k x r ∧ gb b G call k x r)
    (fun _ ga c G call k x r => c.onBlockT fun i a => ga a G call k (blockX i k x) r)
    (fun σ bd st a ga c G call _ x r => c.onLoopT fun d => ∀ ih : σ → Prop, (∀ R H n, bd ih (st R H n) = bd ih (st R H n)) ∧ ga ih d G call (fun R H n => ih (st R H n)) x r) an
theorem An.obR_ok (L : LpT) (an : An) : ∀ c G call k x r, an.obR L c G call k x r := by
  induction an with
  | n => exact fun _ _ _ _ _ _ => trivial
  | s a b iha ihb => intro c; cases c <;> first | exact fun _ _ _ _ _ => trivial | exact fun G call k x r => ⟨iha _ _ _ _ _ _, ihb _ _ _ _ _ _⟩
  | j S a b iha ihb => intro c; cases c <;> first | exact fun _ _ _ _ _ => trivial | exact fun G call k x r => ⟨iha _ _ _ _ _ _, fun _ _ _ => rfl, ihb _ _ _ _ _ _⟩
  | c a b iha ihb => intro c; cases c <;> first | exact fun _ _ _ _ _ => trivial | exact fun G call k x r => ⟨iha _ _ _ _ _ _, ihb _ _ _ _ _ _⟩
  | b a iha => intro c; cases c <;> first | exact fun _ _ _ _ _ => trivial | exact fun G call k x r => iha _ _ _ _ _ _
  | l σ bd st a iha => intro c; cases c <;> first | exact fun _ _ _ _ _ => trivial | exact fun G call k x r ih => ⟨fun _ _ _ => rfl, iha ih _ _ _ _ _ _⟩
theorem onSeq_inv {c : AC} {f : AC → AC → Prop} (h : c.onSeq f) : ∃ a b, c = .seq a b ∧ f a b := by
  cases c <;> first | exact ⟨_, _, rfl, h⟩ | exact (show False from h).elim
theorem onCond_inv {c : AC} {f : X → AC → AC → Prop} (h : c.onCond f) : ∃ x a b, c = .cond x a b ∧ f x a b := by
  cases c <;> first | exact ⟨_, _, _, rfl, h⟩ | exact (show False from h).elim
theorem onBlock_inv {c : AC} {f : Nat → AC → Prop} (h : c.onBlock f) : ∃ i a, c = .block i a ∧ f i a := by
  cases c <;> first | exact ⟨_, _, rfl, h⟩ | exact (show False from h).elim
theorem onLoop_inv {c : AC} {f : AC → Prop} (h : c.onLoop f) : ∃ a, c = .loop a ∧ f a := by
  cases c <;> first | exact ⟨_, rfl, h⟩ | exact (show False from h).elim
section
variable {G : Roms} {call callE : CallT}
theorem exG_inv {c : AC} {R : Regs} {H : Heap} {n : Nat} {k : K} {x : KX} {r : K} (h : c.exG G call 0 R H n k x r) : c.exL G call 0 R H n k x r := by rwa [ac_exG] at h
theorem exL_le (hle : CallLe call callE) (hd : CallDet callE) : ∀ (c : AC) (R : Regs) (H : Heap) (n : Nat) (k k' : K) (x x' : KX) (r r' : K), (∀ R H n, k R H n → k' R H n) → (∀ i R H n, x i R H n → x' i R H n) → (∀ R H n, r R H n → r' R H n) →
    c.exL G call 0 R H n k x r → c.exL G callE 0 R H n k' x' r'
  | .skip, R, H, n, k, k', x, x', r, r', hk, hx, hr, h => hk _ _ _ h
  | .ops l, R, H, n, k, k', x, x', r, r', hk, hx, hr, h => ops_mono hd l _ H n (fun E H n h => hk _ _ _ h) (ops_le hd hle G l _ H n _ h)
  | .reg l, R, H, n, k, k', x, x', r, r', hk, hx, hr, h => items_mono hd l _ H n (fun E H n h => hk _ _ _ h) (items_le hd hle G l _ H n _ h)
  | .seq a b, R, H, n, k, k', x, x', r, r', hk, hx, hr, h => exL_le hle hd a R H n _ _ x x' r r' (fun R H n h => exL_le hle hd b R H n k k' x x' r r' hk hx hr h) hx hr h
  | .cond c a b, R, H, n, k, k', x, x', r, r', hk, hx, hr, h => by
    have h' : onTst (c.ev (.mk [] R)) true (a.exL G call 0 R H n k x r) (b.exL G call 0 R H n k x r) := h
    show onTst (c.ev (.mk [] R)) true (a.exL G callE 0 R H n k' x' r') (b.exL G callE 0 R H n k' x' r')
    exact onTst_mono h' (exL_le hle hd a R H n k k' x x' r r' hk hx hr) (exL_le hle hd b R H n k k' x x' r r' hk hx hr)
  | .block id a, R, H, n, k, k', x, x', r, r', hk, hx, hr, h => by
    refine exL_le hle hd a R H n k k' (blockX id k x) (blockX id k' x') r r' hk (fun i R H n h => ?_) hr h
    unfold blockX at h ⊢
    cases hb : Nat.beq i id with
    | true => rw [hb] at h; exact hk _ _ _ h
    | false => rw [hb] at h; exact hx _ _ _ _ h
  | .loop a, R, H, n, k, k', x, x', r, r', hk, hx, hr, h => by
    intro I hI
    exact h I fun R H n hb => hI R H n (exL_le hle hd a R H n I I x x' r r' (fun _ _ _ h => h) hx hr hb)
  | .exit i, R, H, n, k, k', x, x', r, r', hk, hx, hr, h => hx _ _ _ _ h
  | .ret, R, H, n, k, k', x, x', r, r', hk, hx, hr, h => hr _ _ _ h
theorem An.ok {L : LpT} (hL : LpOk L) (hle : CallLe call callE) (hd : CallDet callE) (an : An) : ∀ (c : AC) (k k' : K) (x x' : KX) (r r' : K), (∀ R H n, k R H n → k' R H n) → (∀ i R H n, x i R H n → x' i R H n) → (∀ R H n, r R H n → r' R H n) →
    an.ob L c G call k x r → ∀ R H n, an.ex L c G call R H n k x r → c.exL G callE 0 R H n k' x' r' := by
  induction an with
  | n => exact fun c k k' x x' r r' hk hx hr _ R H n h => exL_le hle hd c R H n k k' x x' r r' hk hx hr (exG_inv h)
  | s a b iha ihb =>
    intro c k k' x x' r r' hk hx hr ho R H n h
    obtain ⟨c1, c2, rfl, ho⟩ := onSeq_inv ho
    exact iha c1 _ _ x x' r r' (fun R H n h => ihb c2 k k' x x' r r' hk hx hr ho.2 R H n h) hx hr ho.1 R H n h
  | j S a b iha ihb =>
    intro c k k' x x' r r' hk hx hr ho R H n h
    obtain ⟨c1, c2, rfl, ho⟩ := onSeq_inv ho
    exact iha c1 S (fun R H n => c2.exL G callE 0 R H n k' x' r') x x' r r' (fun R H n h => ihb c2 k k' x x' r r' hk hx hr ho.2.2 R H n (ho.2.1 R H n ▸ h)) hx hr ho.1 R H n h
  | c a b iha ihb =>
    intro c k k' x x' r r' hk hx hr ho R H n h
    obtain ⟨y, c1, c2, rfl, ho⟩ := onCond_inv ho
    exact onTst_mono (P' := c1.exL G callE 0 R H n k' x' r') (Q' := c2.exL G callE 0 R H n k' x' r') h (fun h => iha c1 k k' x x' r r' hk hx hr ho.1 R H n h) (fun h => ihb c2 k k' x x' r r' hk hx hr ho.2 R H n h)
  | b a iha =>
    intro c k k' x x' r r' hk hx hr ho R H n h
    obtain ⟨i, c1, rfl, ho⟩ := onBlock_inv ho
    refine iha c1 k k' (blockX i k x) (blockX i k' x') r r' hk (fun j R H n h => ?_) hr ho R H n h
    unfold blockX at h ⊢
    cases hb : Nat.beq j i with
    | true => rw [hb] at h; exact hk _ _ _ h
    | false => rw [hb] at h; exact hx _ _ _ _ h
  | l σ bd st a iha =>
    intro c k k' x x' r r' hk hx hr ho R H n h
    obtain ⟨c1, rfl, ho⟩ := onLoop_inv ho
    intro I hI
    have h' : L σ bd (st R H n) := h
    refine hL σ bd (fun s => ∀ R H n, st R H n = s → I R H n) (fun ih hih s hs R H n e => ?_) _ h' R H n rfl
    subst e
    rw [(ho ih).1] at hs
    exact hI R H n (iha ih c1 (fun R H n => ih (st R H n)) I x x' r r' (fun R H n h => hih _ h R H n rfl) hx hr (ho ih).2 R H n hs)
end
/- functions -/
noncomputable def fEx (L : LpT) (an : An) (af : AF) (G : Roms) (call : CallT) (args : List V) (H : Heap) (n : Nat) (k : KV) : Prop :=
  AF.rec (motive := fun _ => Prop) (fun np code res d dg => onB (Nat.beq (len args) np) (an.ex L code G call (initR args 0 .e) H n (exFin res dg d G call k) noX (exFin res dg d G call k))) (fun f => natSem f G args H n k) af
noncomputable def fOb (L : LpT) (an : An) (af : AF) (G : Roms) (call : CallT) (k : KV) : Prop :=
  AF.rec (motive := fun _ => Prop) (fun _ code res d dg => an.ob L code G call (exFin res dg d G call k) noX (exFin res dg d G call k)) (fun _ => True) af
noncomputable def fObR (L : LpT) (an : An) (af : AF) (G : Roms) (call : CallT) (k : KV) : Prop :=
  AF.rec (motive := fun _ => Prop) (fun _ code res d dg => an.obR L code G call (exFin res dg d G call k) noX (exFin res dg d G call k)) (fun _ => True) af
theorem obs {L : LpT} {an : An} {af : AF} {G : Roms} {call : CallT} {k : KV} (h : fObR L an af G call k = fOb L an af G call k) : fOb L an af G call k := by
  rw [← h]; cases af with
  | mk => exact An.obR_ok ..
  | nat => exact trivial
theorem fEx_ok {L : LpT} (hL : LpOk L) {G : Roms} {call callE : CallT} (hle : CallLe call callE) (hd : CallDet callE) {an : An} {af : AF} {args : List V} {H : Heap} {n : Nat} {k : KV} (ho : fOb L an af G call k) (h : fEx L an af G call args H n k) : exFunL af G callE args H n k := by
  cases af with
  | nat => exact h
  | mk np code res d dg =>
  have h' : onB (Nat.beq (len args) np) (an.ex L code G call (initR args 0 .e) H n (exFin res dg d G call k) noX (exFin res dg d G call k)) := h
  show onB (Nat.beq (len args) np) (code.exL G callE 0 (initR args 0 .e) H n (exFin res dg d G callE k) noX (exFin res dg d G callE k))
  rw [onB_eq] at h' ⊢
  exact ⟨h'.1, An.ok hL hle hd an code _ _ _ _ _ _ (fun R H n h => exFin_le hd hle res dg d G k R H n h) (fun _ _ _ _ h => h) (fun R H n h => exFin_le hd hle res dg d G k R H n h) ho _ _ _ h'.2⟩
section
variable {L : LpT} (hL : LpOk L) {G : Roms} {af : AF} {an : CallT → KV → An} (ho : ∀ call k, fOb L (an call k) af G call k)
include hL ho
theorem sf0 {s : CallT → Heap → Nat → KV → Prop} (h : ∀ call H n k, s call H n k = fEx L (an call k) af G call [] H n k) : SfOk G af (ar0 s) := fun call callE hle hd l H n k hs => by
  obtain ⟨rfl, hs⟩ := ar0_inv hs; exact fEx_ok hL hle hd (ho call k) (h .. ▸ hs)
theorem sf1 {s : CallT → V → Heap → Nat → KV → Prop} (h : ∀ call a0 H n k, s call a0 H n k = fEx L (an call k) af G call [a0] H n k) : SfOk G af (ar1 s) := fun call callE hle hd l H n k hs => by
  obtain ⟨a0, rfl, hs⟩ := ar1_inv hs; exact fEx_ok hL hle hd (ho call k) (h .. ▸ hs)
theorem sf2 {s : CallT → V → V → Heap → Nat → KV → Prop} (h : ∀ call a0 a1 H n k, s call a0 a1 H n k = fEx L (an call k) af G call [a0, a1] H n k) : SfOk G af (ar2 s) := fun call callE hle hd l H n k hs => by
  obtain ⟨a0, a1, rfl, hs⟩ := ar2_inv hs; exact fEx_ok hL hle hd (ho call k) (h .. ▸ hs)
theorem sf3 {s : CallT → V → V → V → Heap → Nat → KV → Prop} (h : ∀ call a0 a1 a2 H n k, s call a0 a1 a2 H n k = fEx L (an call k) af G call [a0, a1, a2] H n k) : SfOk G af (ar3 s) := fun call callE hle hd l H n k hs => by
  obtain ⟨a0, a1, a2, rfl, hs⟩ := ar3_inv hs; exact fEx_ok hL hle hd (ho call k) (h .. ▸ hs)
theorem sf4 {s : CallT → V → V → V → V → Heap → Nat → KV → Prop} (h : ∀ call a0 a1 a2 a3 H n k, s call a0 a1 a2 a3 H n k = fEx L (an call k) af G call [a0, a1, a2, a3] H n k) : SfOk G af (ar4 s) := fun call callE hle hd l H n k hs => by
  obtain ⟨a0, a1, a2, a3, rfl, hs⟩ := ar4_inv hs; exact fEx_ok hL hle hd (ho call k) (h .. ▸ hs)
theorem sf5 {s : CallT → V → V → V → V → V → Heap → Nat → KV → Prop} (h : ∀ call a0 a1 a2 a3 a4 H n k, s call a0 a1 a2 a3 a4 H n k = fEx L (an call k) af G call [a0, a1, a2, a3, a4] H n k) : SfOk G af (ar5 s) := fun call callE hle hd l H n k hs => by
  obtain ⟨a0, a1, a2, a3, a4, rfl, hs⟩ := ar5_inv hs; exact fEx_ok hL hle hd (ho call k) (h .. ▸ hs)
theorem sf6 {s : CallT → V → V → V → V → V → V → Heap → Nat → KV → Prop} (h : ∀ call a0 a1 a2 a3 a4 a5 H n k, s call a0 a1 a2 a3 a4 a5 H n k = fEx L (an call k) af G call [a0, a1, a2, a3, a4, a5] H n k) : SfOk G af (ar6 s) := fun call callE hle hd l H n k hs => by
  obtain ⟨a0, a1, a2, a3, a4, a5, rfl, hs⟩ := ar6_inv hs; exact fEx_ok hL hle hd (ho call k) (h .. ▸ hs)
theorem sf7 {s : CallT → V → V → V → V → V → V → V → Heap → Nat → KV → Prop} (h : ∀ call a0 a1 a2 a3 a4 a5 a6 H n k, s call a0 a1 a2 a3 a4 a5 a6 H n k = fEx L (an call k) af G call [a0, a1, a2, a3, a4, a5, a6] H n k) : SfOk G af (ar7 s) := fun call callE hle hd l H n k hs => by
  obtain ⟨a0, a1, a2, a3, a4, a5, a6, rfl, hs⟩ := ar7_inv hs; exact fEx_ok hL hle hd (ho call k) (h .. ▸ hs)
theorem sf8 {s : CallT → V → V → V → V → V → V → V → V → Heap → Nat → KV → Prop} (h : ∀ call a0 a1 a2 a3 a4 a5 a6 a7 H n k, s call a0 a1 a2 a3 a4 a5 a6 a7 H n k = fEx L (an call k) af G call [a0, a1, a2, a3, a4, a5, a6, a7] H n k) : SfOk G af (ar8 s) := fun call callE hle hd l H n k hs => by
  obtain ⟨a0, a1, a2, a3, a4, a5, a6, a7, rfl, hs⟩ := ar8_inv hs; exact fEx_ok hL hle hd (ho call k) (h .. ▸ hs)
end
end Go.Eng

/- The engine, part 50: code that is taken as the translation gives it. -/
namespace Go.Eng
def inR (l : List (Nat × Nat)) (t : Nat) : Bool := l.any fun p => Nat.ble p.1 t && Nat.ble t p.2
def opp (l : List Nat) : List (Nat × Wk) := l.map fun j => (j, .plain)
def opl (n : Nat) : List (Nat × Wk) := opp (List.range n)
def theAF (o : Option AF) : AF := o.getD (.mk 0 .skip [] .no 0)
theorem theAF_ok {o : Option AF} (h : o.isSome = true) : o = some (theAF o) := by
  cases o with
  | none => cases h
  | some a => rfl
end Go.Eng

/- The engine, part 51: functions that are right, one by one. -/
namespace Go.Eng
theorem FnGood.one {P : Program} {F : T AF} {f : Nat} {af : AF} {fn : Func} {loc : Nat → Bool} {df : Bool} {ords : Ords} {dg : Nat} (hf : P.funcs[f]? = some fn) (hn : (fn.name == "runtime.NumGoroutine") = false)
    (ht : trF P loc df ords dg fn = some af) (hd : af.dg = dg) (hi : isNo af.dp = true) : FnGood P F f af := .code ⟨⟨fn, loc, df, ords, hf, hn, hd ▸ ht⟩, .inl hi⟩
theorem FnGood.two {P : Program} {F : T AF} {f : Nat} {af af' : AF} {fn : Func} {loc : Nat → Bool} {df : Bool} {ords : Ords} {dg : Nat} (hf : P.funcs[f]? = some fn) (hn : (fn.name == "runtime.NumGoroutine") = false)
    (ht : trF P loc df ords dg fn = some af) (hd : af.dg = dg) (ha : T.get F dg = some af') (hi : isNo af'.dp = true) : FnGood P F f af := .code ⟨⟨fn, loc, df, ords, hf, hn, hd ▸ ht⟩, .inr ⟨af', hd ▸ ha, hi⟩⟩
end Go.Eng

/- The engine, part 52: values that aren't known: tests are asked, and must be answered outside. -/
namespace Go.Eng
/- a test whose answer is given ahead -/
noncomputable def askT (b : Bool) (v : V) (p q : Prop) : Prop := v = .bool b ∧ Bool.rec (motive := fun _ => Prop) q p b
theorem askT_ok {b : Bool} {v : V} {p q : Prop} (h : askT b v p q) : onTst v true p q := by
  obtain ⟨rfl, h⟩ := h
  cases b <;> exact h
/- an operation that asks -/
noncomputable def askV (b : Bool) (e : Option V) (P : V → Prop) : Prop := e = some (.bool b) ∧ P (.bool b)
theorem askV_ok {b : Bool} {e : Option V} {P : V → Prop} (h : askV b e P) : onV e P := by
  obtain ⟨rfl, h⟩ := h; exact h
noncomputable def askG (c : V) (g b : Bool) (e : Option V) (P : V → Prop) : Prop := gTst c g (askV b e P) (P (.tup []))
theorem askG_ok {c : V} {g b : Bool} {e : Option V} {P : V → Prop} (h : askG c g b e P) : onG c g e P := gTst_mono h askV_ok (fun h => h)
/- a whole number that is given ahead -/
noncomputable def askI (i : Nat) (e : Option V) (P : Prop) : Prop := e = some (.int .i64 (.ofNat i) 0) ∧ P
theorem askI_ok {i : Nat} {e : Option V} {P : Prop} (h : askI i e P) : onV e fun v => v = .int .i64 (.ofNat i) 0 ∧ P := by
  obtain ⟨rfl, h⟩ := h; exact ⟨rfl, h⟩
/- a function whose first argument is such an answer -/
noncomputable def askA (b : Bool) (s : SF) : SF := fun call args H n k =>
  List.rec (motive := fun _ => Prop) False (fun v l _ => v = .bool b ∧ s call (.bool b :: l) H n k) args
theorem askA_ok {G : Roms} {af : AF} {b : Bool} {s : SF} (h : SfOk G af s) : SfOk G af (askA b s) := fun call callE hle hd args H n k hs => by
  cases args with
  | nil => exact (show False from hs).elim
  | cons v l =>
    obtain ⟨rfl, hq⟩ := (show v = .bool b ∧ s call (.bool b :: l) H n k from hs)
    exact h _ _ hle hd _ _ _ _ hq
theorem FsOk.set {F : T AF} {G : Roms} {FS : T SF} (h : FsOk F G FS) {f : Nat} {af : AF} (hf : T.get F f = some af) {s : SF} (hs : SfOk G af s) : FsOk F G (T.set FS f s) := fun g s' hg => by
  rw [T.get_set_if] at hg
  split at hg
  · rename_i e; subst e; cases hg; exact ⟨af, hf, hs⟩
  · exact h g s' hg
end Go.Eng

/- The engine, part 53: what is asked of whole numbers; runs of laws with questions. -/
namespace Go.Eng
theorem lss_i (x y : Int) : B2.ev .lss (.int .i64 x 0) (.int .i64 y 0) = some (.bool (decide (x < y))) := by
  show mkB (ilt x y) = _
  rw [mkB_eq, ilt_eq]
theorem leq_i (x y : Int) : B2.ev .leq (.int .i64 x 0) (.int .i64 y 0) = some (.bool (decide (x ≤ y))) := by
  show mkB (ile x y) = _
  rw [mkB_eq, ile_eq]
theorem eq_i (x y : Int) : eqV (.one .int) false (.int .i64 x 0) (.int .i64 y 0) = some (.bool (x == y)) := by
  show ofB (bbind (some (ieq x y)) fun b => some b) = _
  rw [ieq_eq]; cases x == y <;> rfl
theorem neq_i (x y : Int) : eqV (.one .int) true (.int .i64 x 0) (.int .i64 y 0) = some (.bool (!(x == y))) := by
  show ofB (bbind (some (ieq x y)) fun b => some (bnot b)) = _
  rw [ieq_eq]; cases x == y <;> rfl
theorem eq_self (x : Int) : eqV (.one .int) false (.int .i64 x 0) (.int .i64 x 0) = some (.bool true) := by rw [eq_i]; simp
theorem neq_self (x : Int) : eqV (.one .int) true (.int .i64 x 0) (.int .i64 x 0) = some (.bool false) := by rw [neq_i]; simp
theorem wrap64 (a : Int) : IntKind.wrap .i64 a = if 9223372036854775808 ≤ a % 18446744073709551616 then a % 18446744073709551616 - 18446744073709551616 else a % 18446744073709551616 := by
  show (if (true && decide (a % 18446744073709551616 ≥ 9223372036854775808)) = true then a % 18446744073709551616 - 18446744073709551616 else a % 18446744073709551616) = _
  by_cases h : 9223372036854775808 ≤ a % 18446744073709551616
  · rw [if_pos h, if_pos (by simpa using h)]
  · rw [if_neg h, if_neg (by simpa using h)]
theorem wrap64_mod (a : Int) : (IntKind.wrap .i64 a) % 18446744073709551616 = a % 18446744073709551616 := by
  rw [wrap64]; split <;> omega
theorem wrap64_id {x : Int} (h1 : -9223372036854775808 ≤ x) (h2 : x < 9223372036854775808) : IntKind.wrap .i64 x = x := by
  rw [wrap64]; split <;> omega
theorem wrap64_congr {a b : Int} (h : a % 18446744073709551616 = b % 18446744073709551616) : IntKind.wrap .i64 a = IntKind.wrap .i64 b := by
  rw [wrap64, wrap64, h]
theorem wf_le {x : Int} (h : (Lit.int .i64 x).wf = true) : -9223372036854775808 ≤ x ∧ x < 9223372036854775808 := by
  have h' : (decide (-9223372036854775808 ≤ x) && decide (x ≤ 9223372036854775807)) = true := h
  simp at h'
  omega
theorem runs_lawP {F : T AF} {G : Roms} {FS : T SF} (h : FsOk F G FS) {f : Nat} {af : AF} (hf : T.get F f = some af) {a : List V} (m : Nat) {t : KV → Prop} (hs : ∀ callE, CallLe (runS FS m) callE → CallDet callE → t isT → exFunL af G callE a .e 0 isT) (hr : t isT) :
    Runs F G f a .e 0 fun v _ _ => v = .bool true :=
  runs_mono (k := isT) (fun _ _ _ hv => isT_iff hv) (runs_intro hf (hs _ (runS_le h m) (runs_det F G) hr))
end Go.Eng

/- The engine, part 54: two tables. -/
namespace Go.Eng
theorem runs_lawP2 {F : T AF} {G : Roms} {FS FT : T SF} (h : FsOk F G FS) (h2 : FsOk F G FT) {f : Nat} {af : AF} (hf : T.get F f = some af) {a : List V} (m : Nat) {t : KV → Prop}
    (hs : ∀ callE, CallLe (runS FS m) callE → CallLe (runS FT m) callE → CallDet callE → t isT → exFunL af G callE a .e 0 isT) (hr : t isT) : Runs F G f a .e 0 fun v _ _ => v = .bool true :=
  runs_mono (k := isT) (fun _ _ _ hv => isT_iff hv) (runs_intro hf (hs _ (runS_le h m) (runS_le h2 m) (runs_det F G) hr))
end Go.Eng

