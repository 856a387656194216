/- Part of a proof: texts En45 En46 En47 En48 En49 En50 En51 En52 En53 of the engine and what is proved with it; nothing is assumed. -/
import Derived.Test.YtcjkfmaoahojeaaDoorEngE
set_option linter.unusedVariables false
set_option linter.unusedSimpArgs false
namespace Go.Eng
noncomputable def P2.beq (p : P2) : P2 -> Bool :=
 P2.rec (motive := fun _ => P2 -> Bool) (fun q => P2.rec (motive := fun _ => Bool) true (fun _ _ => false) (fun _ _ => false) q)
  (fun _ g q => P2.rec (motive := fun _ => Bool) false (fun q _ => g q) (fun _ _ => false) q)
  (fun _ g q => P2.rec (motive := fun _ => Bool) false (fun _ _ => false) (fun q _ => g q) q) p
theorem P2.uZ : ∀ p : P2, P2.beq p p = true
 | .h => rfl
 | .z p => P2.uZ p
 | .o p => P2.uZ p
noncomputable abbrev rg (R : FM) (p : P2) : V := Jw (T.DI p R)
theorem sm {R : FM} {p : P2} {v : V} : rg (T.Ia v p R) p = v := by show Jw (T.DI p (T.Ia v p R)) = v; rw [T.PZ]; rfl
theorem ne {R : FM} {p q : P2} {v a : V} (hb : P2.beq q p = false) (h : rg R p = a) : rg (T.Ia v q R) p = a := by
 show Jw (T.DI p (T.Ia v q R)) = a
 rw [T.FB _ _ _ _ (fun e => by subst e; rw [P2.uZ] at hb; cases hb)]
 exact h
abbrev Aw := (σ : Type) -> ((σ -> Prop) -> σ -> Prop) -> σ -> Prop
def DU (L : Aw) : Prop := ∀ (σ : Type) (b : (σ -> Prop) -> σ -> Prop) (P : σ -> Prop), (∀ ih, (∀ s, ih s -> P s) -> ∀ s, b ih s -> P s) -> ∀ s, L σ b s -> P s
def lfp : Aw := fun σ b s => ∀ I : σ -> Prop, (∀ s, b I s -> I s) -> I s
theorem BP : DU lfp := fun _ _ P h _ hL => hL P (h P fun _ h => h)
noncomputable def lpF (m : Nat) : Aw := fun σ b s => Nat.rec (motive := fun _ => σ -> Prop) (fun _ => False) (fun _ g => b g) m s
theorem ASx (m : Nat) : DU (lpF m) := fun σ b P h => by
 induction m with
 | zero => exact fun s hs => (show False from hs).elim
 | succ m ih => exact fun s hs => h _ ih s hs
noncomputable def E0 : RS := .mk [] .e
noncomputable def Dc (c a b : V) : Option V := c.aB fun t => mg t (some a) (some b)
noncomputable def Aa (a : V) (G : AP) (H : Heap) : Option V := Ku (lH a G H 1) fun L => nth L 0
noncomputable def Az (n : Nat) (a : V) (G : AP) (H : Heap) : Option V := Ku (lH a G H n) fun L => some (.agg L)
noncomputable def XI (a : V) : Option V := a.aB fun b => mkB (UL b)
noncomputable def AFb (a : V) : Option V := a.Em fun k n s => mkI k (Int.neg n) s
noncomputable def V6 (k : IntKind) (a : V) : Option V := a.Em fun _ n s => mkI k n s
noncomputable def AGY (off : Nat) (a : V) : Option V := a.au fun l => nth l off
noncomputable def ANR (off n : Nat) (a : V) : Option V := a.au fun l => some (.agg (TT n (YA off l)))
noncomputable def Qa (n esz : Nat) (a i : V) : Option V := Qr i fun i => Aq (Nat.blt i n) (AX (Nat.mul i esz) a)
noncomputable def F8 (a i : V) : Option V := a.OO fun ln c => Qr i fun i => Aq (Nat.blt i ln) (CQ (AEu c i) fun b => some (.int .u8 (.ofNat b) 0))
noncomputable def AFi (n : Nat) (a i : V) : Option V := a.au fun l => Qr i fun i => Aq (Nat.blt i n) (nth l i)
noncomputable def Zd (a : V) (i : Nat) : Option V := a.AAn fun l => nth l i
noncomputable def V9 (a : V) : Option V := a.OO fun n _ => some (.int .i64 (.ofNat n) 0)
noncomputable def AO6 (a : V) (H : Heap) : Option V := NR H a fun es _ => CQ (len es) fun n => some (.int .i64 (.ofNat n) 0)
noncomputable def AGo (c : CK) (ok : Bool) (z m k : V) (H : Heap) : Option V := NR H m fun es _ => BG (bQ c k es 0) (ADg ok z)
noncomputable def BZ (z : LV) (ps : List (Nat × Nat × X)) : Option V := Aq (QS ps E0) (some (.agg (aT ps E0 z)))
noncomputable def oV (n esz : Nat) (a : V) (lo hi : Option X) : Option V := a.xq (fun id o => Uc hi E0 n fun h => Uc lo E0 0 fun l =>
 Aq (band (Nat.beq (Nat.mod o esz) 0) (band (Nat.ble l h) (Nat.ble h n))) (f3 (Nat.add (Nat.div o esz) l) (Nat.sub h l) (Nat.sub n l) fun a b c => .sl id a b c esz)) (fun _ _ => none)
noncomputable def ARc (x y : V) : Option V := x.Em fun k a s => y.Em fun k' b t => Aq (band (keq k k') (Nat.beq (Nat.add s t) 0)) (some (.int k (Bool.rec a b (ilt a b)) 0))
noncomputable def AR3 (x y : V) : Option V := x.Em fun k a s => y.Em fun k' b t => Aq (band (keq k k') (Nat.beq (Nat.add s t) 0)) (some (.int k (Bool.rec a b (ilt b a)) 0))
noncomputable def ACe (a : V) (G : AP) (H : Heap) : Option V := Aq (UL (isStr a)) (BG (elems a G H 1) fun l => BG (jY l) fun c => f3 (len l) c 0 fun n c _ => .str n c)
noncomputable def AC8 (s c : V) : Option V := s.OO fun n cd => c.Em fun k b _ => Aq (Nat.beq (kno k) 4) (AG5 b fun b => Aq (Nat.blt b 256) (Iy (Wu b n cd 0) fun i => some (.int .i64 i 0)))
noncomputable def JC (v : V) (k : KA) : Prop := Fa (XF v) (Cj (len (BK v)) fun e => k (.arr e 1 (T.set .e 0 (BK v))) fun id => .ptr id 0)
noncomputable def Bd (sz : Nat) (a b : V) (H : Heap) (n : Nat) (k : KV) : Prop := Fa (band (XF b) (Nat.beq (len (BK b)) sz)) (Es (stP a H sz (BK b)) fun H => k .undef H n)
noncomputable def Yq (esz bs : Nat) (a b : V) (G : AP) (H : Heap) (n : Nat) (k : KV) : Prop := Es (elems b G H esz) fun LS => ABr a G esz bs LS H n k
noncomputable def copyV (esz : Nat) (a b : V) (G : AP) (H : Heap) (n : Nat) (k : KV) : Prop := Es (elems b G H esz) fun LS => xR a esz LS H n k
noncomputable def AOs (c : CK) (m key v : V) (H : Heap) (n : Nat) (k : KV) : Prop := qK m H (ACg c key v) fun H => k .undef H n
noncomputable def ATN (c : CK) (m key : V) (H : Heap) (n : Nat) (k : KV) : Prop := qK m H (AJW c key) fun H => k (.GK []) H n
noncomputable def ARq (m : V) (H : Heap) (n : Nat) (k : KV) : Prop := qK m H (fun _ c => some (.map [] c)) fun H => k (.GK []) H n
noncomputable def Vl (x : V) (args : List V) (call : AQ) (H : Heap) (n : Nat) (k : KV) : Prop := V.Qo x fun f a c => call f (cat a (cat args c)) H n k
noncomputable def lN (d x : V) (args : List V) (H : Heap) (n : Nat) (k : KV) : Prop := V.Qo x fun f a c => k (.GK (.fn f (cat a args) c :: cZ d)) H n
noncomputable def AMY (a : V) (H : Heap) (n : Nat) (k : KV) : Prop := Es (a.OO fun l c => some (.ptr l c)) fun v => V.kS v fun l c =>
 Cj n fun n => k (.NW n 0 l 1) (T.set H n (.arr 1 l (ED (PW l c) 0 .e))) (Nat.succ n)
noncomputable def Bq (c : V) (b : Bool) (e : Option V) (P : V -> Prop) : Prop := Wq c b (AU e P) (P (.GK []))
noncomputable def CX (al : KA -> Prop) (H : Heap) (n : Nat) (P : KV) : Prop := al fun b f => Cj n fun n => P (f n) (T.set H n b) (Nat.succ n)
noncomputable def Og (c : V) (b : Bool) (t : KV -> Prop) (H : Heap) (n : Nat) (P : KV) : Prop := Wq c b (t P) (P (.GK []) H n)
inductive vF where
 | t (v : V) | c1 (v : V) | cn (v : V) (n : Nat)
noncomputable def vF.get (r : vF) (G : AP) (H : Heap) : Option V := vF.rec (fun v => some v) (fun v => Aa v G H) (fun v n => Az n v G H) r
noncomputable def BN (l : List vF) (G : AP) (H : Heap) : Option LV :=
 List.rec (motive := fun _ => Option LV) (some []) (fun r _ g => BG (r.get G H) fun v => BG g fun vs => some (v :: vs)) l
section
variable {E : RS} {G : AP} {H : Heap} {n : Nat} {x y z w : X} {a b c d : V}
theorem ARf (hx : x.ev E = a) (hy : y.ev E = b) (hz : z.ev E = c) : (AN.pick x y z).ev G E H = Dc a b c := by subst hx hy hz; rfl
theorem ATe (hx : x.ev E = a) : (AN.ld1 x).ev G E H = Aa a G H := by subst hx; rfl
theorem AUn {m : Nat} (hx : x.ev E = a) : (AN.ldn m x).ev G E H = Az m a G H := by subst hx; rfl
theorem ARH (hx : x.ev E = a) : (AN.AEK x).ev G E H = A8 a := by subst hx; rfl
theorem ATk {o : B2} (hx : x.ev E = a) (hy : y.ev E = b) : (AN.bin o x y).ev G E H = o.ev a b := by subst hx hy; rfl
theorem k_eq {k : EK} {t : Bool} (hx : x.ev E = a) (hy : y.ev E = b) : (AN.eq k t x y).ev G E H = Ig k t a b := by subst hx hy; rfl
theorem AU2 (hx : x.ev E = a) : (AN.not x).ev G E H = XI a := by subst hx; rfl
theorem ATv (hx : x.ev E = a) : (AN.neg x).ev G E H = AFb a := by subst hx; rfl
theorem AUS {k : IntKind} (hx : x.ev E = a) : (AN.cvi k x).ev G E H = V6 k a := by subst hx; rfl
theorem AQ7 {o : Nat} (hx : x.ev E = a) : (AN.AKO o x).ev G E H = AX o a := by subst hx; rfl
theorem APi {o : Nat} (hx : x.ev E = a) : (AN.field1 o x).ev G E H = AGY o a := by subst hx; rfl
theorem AOv {o m : Nat} (hx : x.ev E = a) : (AN.AHI o m x).ev G E H = ANR o m a := by subst hx; rfl
theorem AQo {e : Nat} (hx : x.ev E = a) (hy : y.ev E = b) : (AN.AKW e x y).ev G E H = BU e a b := by subst hx hy; rfl
theorem AQU {m e : Nat} (hx : x.ev E = a) (hy : y.ev E = b) : (AN.AHM m e x y).ev G E H = Qa m e a b := by subst hx hy; rfl
theorem ASQ (hx : x.ev E = a) (hy : y.ev E = b) : (AN.AN8 x y).ev G E H = F8 a b := by subst hx hy; rfl
theorem ASi {m : Nat} (hx : x.ev E = a) (hy : y.ev E = b) : (AN.AP8 m x y).ev G E H = AFi m a b := by subst hx hy; rfl
theorem AU5 {i : Nat} (hx : x.ev E = a) : (AN.ext x i).ev G E H = Zd a i := by subst hx; rfl
theorem AR8 (hx : x.ev E = a) : (AN.APj x).ev G E H = V9 a := by subst hx; rfl
theorem ARj (hx : x.ev E = a) : (AN.APG x).ev G E H = lenV a := by subst hx; rfl
theorem ARS (hx : x.ev E = a) : (AN.ANH x).ev G E H = AO6 a H := by subst hx; rfl
theorem ASu {k : CK} {t : Bool} {z0 : V} (hx : x.ev E = a) (hy : y.ev E = b) : (AN.look k t z0 x y).ev G E H = AGo k t z0 a b H := by subst hx hy; rfl
noncomputable def psC (ps : List (Nat × Nat × X)) (E : RS) : List (Nat × Nat × X) := ps.map fun p => (p.1, p.2.1, .c (p.2.2.ev E))
theorem ps0 : psC [] E = [] := rfl
theorem psS {i m : Nat} {l l' : List (Nat × Nat × X)} (hx : x.ev E = a) (h : psC l E = l') : psC ((i, m, x) :: l) E = (i, m, .c a) :: l' := by subst hx h; rfl
theorem AGW (l : List (Nat × Nat × X)) : QS l E = QS (psC l E) E0 := by
 induction l with
 | nil => rfl
 | cons p l ih => show band (band (XF (p.2.2.ev E)) (Nat.beq (len (BK (p.2.2.ev E))) p.2.1)) (QS l E) = band (band (XF (p.2.2.ev E)) (Nat.beq (len (BK (p.2.2.ev E))) p.2.1)) (QS (psC l E) E0); rw [ih]
theorem AJQ (l : List (Nat × Nat × X)) : ∀ z, aT l E z = aT (psC l E) E0 z := by
 induction l with
 | nil => exact fun _ => rfl
 | cons p l ih => exact fun z => ih (ABX (BK (p.2.2.ev E)) p.1 z)
theorem AQ5 {z0 : LV} {ps ps' : List (Nat × Nat × X)} (hp : psC ps E = ps') : (AN.build z0 ps).ev G E H = BZ z0 ps' := by
 subst hp
 show Aq (QS ps E) (some (.agg (aT ps E z0))) = _
 rw [AGW, AJQ]; rfl
noncomputable def oxC (o : Option X) (E : RS) : Option X := o.map fun x => .c (x.ev E)
theorem ox0 : oxC none E = none := rfl
theorem oxS (hx : x.ev E = a) : oxC (some x) E = some (.c a) := by subst hx; rfl
theorem gU (o : Option X) : Uc o E = Uc (oxC o E) E0 := by cases o <;> rfl
theorem ASJ {lo hi lo' hi' : Option X} (hx : x.ev E = a) (h1 : oxC lo E = lo') (h2 : oxC hi E = hi') : (AN.ANX x lo hi).ev G E H = RF a E0 lo' hi' := by
 subst hx h1 h2
 show RF (x.ev E) E lo hi = _
 unfold RF; simp only [gU lo, gU hi]
theorem AUD {m : Nat} {lo hi mx lo' hi' mx' : Option X} (hx : x.ev E = a) (h1 : oxC lo E = lo') (h2 : oxC hi E = hi') (h3 : oxC mx E = mx') : (AN.slc m x lo hi mx).ev G E H = zU m a E0 lo' hi' mx' := by
 subst hx h1 h2 h3
 show zU m (x.ev E) E lo hi mx = _
 unfold zU nV xU gB lY jE kF
 simp only [gU lo, gU hi, gU mx]
 cases mx <;> rfl
theorem ASV {m e : Nat} {lo hi lo' hi' : Option X} (hx : x.ev E = a) (h1 : oxC lo E = lo') (h2 : oxC hi E = hi') : (AN.AP2 m e x lo hi).ev G E H = oV m e a lo' hi' := by
 subst hx h1 h2
 show xW m e x lo hi G E H = _
 unfold xW oV; simp only [gU lo, gU hi]
theorem ARp (hx : x.ev E = a) (hy : y.ev E = b) : (AN.AOm x y).ev G E H = ARc a b := by subst hx hy; rfl
theorem ARX (hx : x.ev E = a) (hy : y.ev E = b) : (AN.AOH x y).ev G E H = AR3 a b := by subst hx hy; rfl
theorem AUx (hx : x.ev E = a) : (AN.cvS x).ev G E H = ACe a G H := by subst hx; rfl
theorem ATS (hx : x.ev E = a) (hy : y.ev E = b) : (AN.AAO x y).ev G E H = ADU a b := by subst hx hy; rfl
theorem ANt (hx : x.ev E = a) (hy : y.ev E = b) : (AN.AEL x y).ev G E H = AC8 a b := by subst hx hy; rfl
theorem xs0 : Qm [] E = [] := rfl
theorem xsS {l : List X} {l' : List V} (hx : x.ev E = a) (h : Qm l E = l') : Qm (x :: l) E = a :: l' := by subst hx h; rfl
theorem ATQ {f : Nat} {l m : List X} {l' m' : List V} (h : Qm l E = l') (h' : Qm m E = m') : (AN.AOS f l m).ev G E H = some (.fn f l' m') := by subst h h'; rfl
theorem AWo (hx : x.ev E = a) : (AN.mv x).ev G E H = some a := by subst hx; rfl
theorem ARh {m : Nat} : (AN.AO1 m).ev G E H = some (.int .i64 (.ofNat m) 0) := rfl
theorem AQv {e : Nat} {es : Dk} : (AA.alloc e es).al E = Ai e es E0 := rfl
theorem ATa (hx : x.ev E = a) : (AA.box x).al E = JC a := by subst hx; rfl
noncomputable def pbC (ps : List (Nat × X)) (E : RS) : List (Nat × X) := ps.map fun p => (p.1, .c (p.2.ev E))
theorem pb0 : pbC [] E = [] := rfl
theorem pbS {i : Nat} {l l' : List (Nat × X)} (hx : x.ev E = a) (h : pbC l E = l') : pbC ((i, x) :: l) E = (i, .c a) :: l' := by subst hx h; rfl
theorem AFI (l : List (Nat × X)) (e m : Nat) : OD l E e m = OD (pbC l E) E0 e m := by
 induction l with
 | nil => rfl
 | cons p l ih => show band (band (XF (p.2.ev E)) (band (Nat.blt p.1 m) (Nat.beq (len (BK (p.2.ev E))) e))) (OD l E e m) = band (band (XF (p.2.ev E)) (band (Nat.blt p.1 m) (Nat.beq (len (BK (p.2.ev E))) e))) (OD (pbC l E) E0 e m); rw [ih]
theorem AGU (l : List (Nat × X)) : ∀ t, Vh l E t = Vh (pbC l E) E0 t := by
 induction l with
 | nil => exact fun _ => rfl
 | cons p l ih => exact fun t => ih (T.set t p.1 (BK (p.2.ev E)))
theorem APp {e m : Nat} {z0 : LV} {ps ps' : List (Nat × X)} (hp : pbC ps E = ps') : (AA.sN e m z0 ps).al E = Ah e m z0 ps' E0 := by
 subst hp
 show Ah e m z0 ps E = _
 funext k
 unfold Ah; rw [AFI, AGU]
theorem ANr {e m : Nat} {z0 : LV} (hx : x.ev E = a) (hy : y.ev E = b) : (AA.jv e m z0 x y).al E = Nh e m z0 (.c a) (.c b) E0 := by subst hx hy; rfl
theorem ARI : AA.ADv.al E = ACW E0 := rfl
variable {call : AQ}
theorem AWI {m : Nat} (hx : x.ev E = a) (hy : y.ev E = b) : (AE.st m x y).ex G call E H n = Bd m a b H n := by subst hx hy; rfl
theorem AUq {e m : Nat} (hx : x.ev E = a) (hy : y.ev E = b) : (AE.app e m x y).ex G call E H n = Yq e m a b G H n := by subst hx hy; rfl
theorem ASp {e : Nat} (hx : x.ev E = a) (hy : y.ev E = b) : (AE.copy e x y).ex G call E H n = copyV e a b G H n := by subst hx hy; rfl
theorem AO2 {k : CK} (hx : x.ev E = a) (hy : y.ev E = b) (hz : z.ev E = c) : (AE.yF k x y z).ex G call E H n = AOs k a b c H n := by subst hx hy hz; rfl
theorem ATp {k : CK} (hx : x.ev E = a) (hy : y.ev E = b) : (AE.del k x y).ex G call E H n = ATN k a b H n := by subst hx hy; rfl
theorem ASf (hx : x.ev E = a) : (AE.AK8 x).ex G call E H n = ARq a H n := by subst hx; rfl
theorem ARz {f : Nat} {l : List X} {l' : List V} (h : Qm l E = l') : (AE.call f l).ex G call E H n = call f l' H n := by subst h; rfl
theorem AQd {l : List X} {l' : List V} (hx : x.ev E = a) (h : Qm l E = l') : (AE.ABT x l).ex G call E H n = Vl a l' call H n := by subst hx h; rfl
theorem ATd (hx : x.ev E = a) : (AE.cvB x).ex G call E H n = AMY a H n := by subst hx; rfl
end
section
variable {L : List V} {R : FM} {G : AP} {call : AQ} {H : Heap} {n : Nat} {a b : V}
theorem AQz {x : X} {l : List X} {l' : List V} {dp : P2} (hd : rg R dp = b) (hx : x.ev (.mk L R) = a) (h : Qm l (.mk L R) = l') : (AE.defer dp x l).ex G call (.mk L R) H n = lN b a l' H n := by subst hd hx h; rfl
end
end Go.Eng
namespace Go.Eng
noncomputable def AJr (c : V) (b : Bool) (e : Option V) (a : V) (P : Prop) : Prop := Wq c b (AU e fun v => Fa (Bz v a) P) P
theorem xr {L : List V} {R : FM} {p : P2} {a : V} (h : rg R p = a) : (X.r p).ev (.mk L R) = a := h
def kR (k : K) : KE := fun E H n => k E.rg H n
theorem JO {e : Option V} {P Q : V -> Prop} (h : AU e P) (hk : ∀ v, P v -> Q v) : AU e Q := by
 cases e with
 | none => exact h
 | some v => exact hk v h
theorem Dw {v : V} {b : Bool} {P Q P' Q' : Prop} (h : Wq v b P Q) (hp : P -> P') (hq : Q -> Q') : Wq v b P' Q' := by
 rw [Qd] at h ⊢
 obtain ⟨t, ht, h⟩ := h
 refine ⟨t, ht, ?_⟩
 split
 ·rename_i e; rw [if_pos e] at h; exact hp h
 ·rename_i e; rw [if_neg e] at h; exact hq h
theorem iP {v : V} {b : Bool} {P Q P' Q' : Prop} (h : Ac v b P Q) (hp : P -> P') (hq : Q -> Q') : Ac v b P' Q' := by
 rw [Rl] at h ⊢
 obtain ⟨t, ht, h⟩ := h
 refine ⟨t, ht, ?_⟩
 split
 ·rename_i e; rw [if_pos e] at h; exact hp h
 ·rename_i e; rw [if_neg e] at h; exact hq h
theorem L9 {o : AA} {E : RS} {H : Heap} {n : Nat} {P Q : KV} (h : CX (o.al E) H n P) (hk : ∀ v H n, P v H n -> Q v H n) : CX (o.al E) H n Q :=
 Sz.mono (AHA o E) (k := fun s => Cj n fun n => P (s.2 n) (T.set H n s.1) (Nat.succ n)) (k' := fun s => Cj n fun n => Q (s.2 n) (T.set H n s.1) (Nat.succ n))
  (fun s hs => by rw [BL] at hs ⊢; exact hk _ _ _ hs) h
section
variable {G : AP} {call callE : AQ}
theorem O9 (hle : EH call callE) (hd : Bo callE) {o : AE} {E : RS} {H : Heap} {n : Nat} {P Q : KV} (h : o.ex G call E H n P) (hk : ∀ v H n, P v H n -> Q v H n) : o.ex G callE E H n Q :=
 Sz.mono (AB5 hd o G E H n) (k := fun s => P s.1 s.2.1 s.2.2) (k' := fun s => Q s.1 s.2.1 s.2.2) (fun s hs => hk _ _ _ hs) (AKV hle o G E H n _ h)
section
variable {L : List V} {R : FM} {H : Heap} {n : Nat} {l : List iZ} {k : KE} {p : P2} {x : X} {b : Bool} {c a : V}
theorem AWu {o : AN} {e : Option V} {P : V -> Prop} (h : AU e P) (he : o.ev G (.mk L R) H = e) (hk : ∀ v, P v -> BX l G callE (.mk (v :: L) R) H n k) : BX (.mk .ps .no (.n o) :: l) G callE (.mk L R) H n k := by
 subst he; exact JO h hk
theorem AV1 {o : AN} (he : o.ev G (.mk L R) H = some a) (hk : BX l G callE (.mk ((a) :: L) R) H n k) : BX (.mk .ps .no (.n o) :: l) G callE (.mk L R) H n k := by
 show AU (o.ev G (.mk L R) H) _; rw [he]; exact hk
theorem AUL {o : AN} {e : Option V} {P : V -> Prop} (h : Bq c b e P) (hc : x.ev (.mk L R) = c) (he : o.ev G (.mk L R) H = e) (hk : ∀ v, P v -> BX l G callE (.mk (v :: L) R) H n k) : BX (.mk .ps (.on x b) (.n o) :: l) G callE (.mk L R) H n k := by
 subst hc he; exact Dw h (fun h => JO h hk) (hk _)
theorem AWF {o : AA} {al : KA -> Prop} {P : KV} (h : CX al H n P) (he : o.al (.mk L R) = al) (hk : ∀ v H n, P v H n -> BX l G callE (.mk (v :: L) R) H n k) : BX (.mk .ps .no (.a o) :: l) G callE (.mk L R) H n k := by
 subst he; exact L9 (Q := fun v H n => BX l G callE (.mk (v :: L) R) H n k) h hk
theorem AVW {o : AA} {al : KA -> Prop} {P : KV} (h : Og c b (CX al H n) H n P) (hc : x.ev (.mk L R) = c) (he : o.al (.mk L R) = al) (hk : ∀ v H n, P v H n -> BX l G callE (.mk (v :: L) R) H n k) : BX (.mk .ps (.on x b) (.a o) :: l) G callE (.mk L R) H n k := by
 subst hc he; exact Dw h (fun h => L9 (Q := fun v H n => BX l G callE (.mk (v :: L) R) H n k) h hk) (hk _ _ _)
theorem AV9 (hle : EH call callE) (hd : Bo callE) {o : AE} {t : KV -> Prop} {P : KV} (h : t P) (he : o.ex G call (.mk L R) H n = t) (hk : ∀ v H n, P v H n -> BX l G callE (.mk (v :: L) R) H n k) : BX (.mk .ps .no (.e o) :: l) G callE (.mk L R) H n k := by
 subst he; exact O9 hle hd (Q := fun v H n => BX l G callE (.mk (v :: L) R) H n k) h hk
theorem ATc (hle : EH call callE) (hd : Bo callE) {o : AE} {t : KV -> Prop} {P : KV} (h : Og c b t H n P) (hc : x.ev (.mk L R) = c) (he : o.ex G call (.mk L R) H n = t) (hk : ∀ v H n, P v H n -> BX l G callE (.mk (v :: L) R) H n k) : BX (.mk .ps (.on x b) (.e o) :: l) G callE (.mk L R) H n k := by
 subst hc he; exact Dw h (fun h => O9 hle hd (Q := fun v H n => BX l G callE (.mk (v :: L) R) H n k) h hk) (hk _ _ _)
theorem AXs {x : X} (hx : x.ev (.mk L R) = a) (hk : BX l G callE (.mk ((a) :: L) R) H n k) : BX (.mk .ps .no (.e (.asg x)) :: l) G callE (.mk L R) H n k := by
 subst hx; exact hk
theorem AVo {o : AN} {e : Option V} {P : V -> Prop} (h : AU e P) (he : o.ev G (.mk L R) H = e) (hk : ∀ v, P v -> BX l G callE (.mk L (T.Ia v p R)) H n k) : BX (.mk (.to p) .no (.n o) :: l) G callE (.mk L R) H n k := by
 subst he; exact JO h hk
theorem AWX {o : AN} (he : o.ev G (.mk L R) H = some a) (hk : BX l G callE (.mk L (T.Ia a p R)) H n k) : BX (.mk (.to p) .no (.n o) :: l) G callE (.mk L R) H n k := by
 show AU (o.ev G (.mk L R) H) _; rw [he]; exact hk
theorem AVe {o : AN} {e : Option V} {P : V -> Prop} (h : Bq c b e P) (hc : x.ev (.mk L R) = c) (he : o.ev G (.mk L R) H = e) (hk : ∀ v, P v -> BX l G callE (.mk L (T.Ia v p R)) H n k) : BX (.mk (.to p) (.on x b) (.n o) :: l) G callE (.mk L R) H n k := by
 subst hc he; exact Dw h (fun h => JO h hk) (hk _)
theorem AWa {o : AA} {al : KA -> Prop} {P : KV} (h : CX al H n P) (he : o.al (.mk L R) = al) (hk : ∀ v H n, P v H n -> BX l G callE (.mk L (T.Ia v p R)) H n k) : BX (.mk (.to p) .no (.a o) :: l) G callE (.mk L R) H n k := by
 subst he; exact L9 (Q := fun v H n => BX l G callE (.mk L (T.Ia v p R)) H n k) h hk
theorem AUF {o : AA} {al : KA -> Prop} {P : KV} (h : Og c b (CX al H n) H n P) (hc : x.ev (.mk L R) = c) (he : o.al (.mk L R) = al) (hk : ∀ v H n, P v H n -> BX l G callE (.mk L (T.Ia v p R)) H n k) : BX (.mk (.to p) (.on x b) (.a o) :: l) G callE (.mk L R) H n k := by
 subst hc he; exact Dw h (fun h => L9 (Q := fun v H n => BX l G callE (.mk L (T.Ia v p R)) H n k) h hk) (hk _ _ _)
theorem AWr (hle : EH call callE) (hd : Bo callE) {o : AE} {t : KV -> Prop} {P : KV} (h : t P) (he : o.ex G call (.mk L R) H n = t) (hk : ∀ v H n, P v H n -> BX l G callE (.mk L (T.Ia v p R)) H n k) : BX (.mk (.to p) .no (.e o) :: l) G callE (.mk L R) H n k := by
 subst he; exact O9 hle hd (Q := fun v H n => BX l G callE (.mk L (T.Ia v p R)) H n k) h hk
theorem AVg (hle : EH call callE) (hd : Bo callE) {o : AE} {t : KV -> Prop} {P : KV} (h : Og c b t H n P) (hc : x.ev (.mk L R) = c) (he : o.ex G call (.mk L R) H n = t) (hk : ∀ v H n, P v H n -> BX l G callE (.mk L (T.Ia v p R)) H n k) : BX (.mk (.to p) (.on x b) (.e o) :: l) G callE (.mk L R) H n k := by
 subst hc he; exact Dw h (fun h => O9 hle hd (Q := fun v H n => BX l G callE (.mk L (T.Ia v p R)) H n k) h hk) (hk _ _ _)
theorem AV7 {x : X} (hx : x.ev (.mk L R) = a) (hk : BX l G callE (.mk L (T.Ia a p R)) H n k) : BX (.mk (.to p) .no (.e (.asg x)) :: l) G callE (.mk L R) H n k := by
 subst hx; exact hk
theorem AXA {o : AN} {e : Option V} {P : V -> Prop} (h : AU e P) (he : o.ev G (.mk L R) H = e) (hk : ∀ v, P v -> BX l G callE (.mk L R) H n k) : BX (.mk .no .no (.n o) :: l) G callE (.mk L R) H n k := by
 subst he; exact JO h hk
theorem AXk {o : AN} (he : o.ev G (.mk L R) H = some a) (hk : BX l G callE (.mk L R) H n k) : BX (.mk .no .no (.n o) :: l) G callE (.mk L R) H n k := by
 show AU (o.ev G (.mk L R) H) _; rw [he]; exact hk
theorem AUs {o : AN} {e : Option V} {P : V -> Prop} (h : Bq c b e P) (hc : x.ev (.mk L R) = c) (he : o.ev G (.mk L R) H = e) (hk : ∀ v, P v -> BX l G callE (.mk L R) H n k) : BX (.mk .no (.on x b) (.n o) :: l) G callE (.mk L R) H n k := by
 subst hc he; exact Dw h (fun h => JO h hk) (hk _)
theorem AXJ {o : AA} {al : KA -> Prop} {P : KV} (h : CX al H n P) (he : o.al (.mk L R) = al) (hk : ∀ v H n, P v H n -> BX l G callE (.mk L R) H n k) : BX (.mk .no .no (.a o) :: l) G callE (.mk L R) H n k := by
 subst he; exact L9 (Q := fun v H n => BX l G callE (.mk L R) H n k) h hk
theorem AUg {o : AA} {al : KA -> Prop} {P : KV} (h : Og c b (CX al H n) H n P) (hc : x.ev (.mk L R) = c) (he : o.al (.mk L R) = al) (hk : ∀ v H n, P v H n -> BX l G callE (.mk L R) H n k) : BX (.mk .no (.on x b) (.a o) :: l) G callE (.mk L R) H n k := by
 subst hc he; exact Dw h (fun h => L9 (Q := fun v H n => BX l G callE (.mk L R) H n k) h hk) (hk _ _ _)
theorem AWT (hle : EH call callE) (hd : Bo callE) {o : AE} {t : KV -> Prop} {P : KV} (h : t P) (he : o.ex G call (.mk L R) H n = t) (hk : ∀ v H n, P v H n -> BX l G callE (.mk L R) H n k) : BX (.mk .no .no (.e o) :: l) G callE (.mk L R) H n k := by
 subst he; exact O9 hle hd (Q := fun v H n => BX l G callE (.mk L R) H n k) h hk
theorem AUH (hle : EH call callE) (hd : Bo callE) {o : AE} {t : KV -> Prop} {P : KV} (h : Og c b t H n P) (hc : x.ev (.mk L R) = c) (he : o.ex G call (.mk L R) H n = t) (hk : ∀ v H n, P v H n -> BX l G callE (.mk L R) H n k) : BX (.mk .no (.on x b) (.e o) :: l) G callE (.mk L R) H n k := by
 subst hc he; exact Dw h (fun h => O9 hle hd (Q := fun v H n => BX l G callE (.mk L R) H n k) h hk) (hk _ _ _)
theorem AXd {x : X} (hx : x.ev (.mk L R) = a) (hk : BX l G callE (.mk L R) H n k) : BX (.mk .no .no (.e (.asg x)) :: l) G callE (.mk L R) H n k := by
 subst hx; exact hk
theorem o0 {K : K} (h : K R H n) : BX [] G callE (.mk L R) H n (kR K) := h
end
section
variable {L : List V} {R : FM} {H : Heap} {n : Nat} {l : List AI} {k : KE} {p : P2} {x : X} {b : Bool} {c a : V}
theorem AWU {o : AN} {e : Option V} {P : V -> Prop} (h : AU e P) (he : o.ev G (.mk L R) H = e) (hk : ∀ v, P v -> AY l G callE (.mk (v :: L) R) H n k) : AY (.op (.mk .ps .no (.n o)) :: l) G callE (.mk L R) H n k := by
 subst he; exact JO h hk
theorem AWm {o : AN} (he : o.ev G (.mk L R) H = some a) (hk : AY l G callE (.mk ((a) :: L) R) H n k) : AY (.op (.mk .ps .no (.n o)) :: l) G callE (.mk L R) H n k := by
 show AU (o.ev G (.mk L R) H) _; rw [he]; exact hk
theorem AT6 {o : AN} {e : Option V} {P : V -> Prop} (h : Bq c b e P) (hc : x.ev (.mk L R) = c) (he : o.ev G (.mk L R) H = e) (hk : ∀ v, P v -> AY l G callE (.mk (v :: L) R) H n k) : AY (.op (.mk .ps (.on x b) (.n o)) :: l) G callE (.mk L R) H n k := by
 subst hc he; exact Dw h (fun h => JO h hk) (hk _)
theorem AWY {o : AA} {al : KA -> Prop} {P : KV} (h : CX al H n P) (he : o.al (.mk L R) = al) (hk : ∀ v H n, P v H n -> AY l G callE (.mk (v :: L) R) H n k) : AY (.op (.mk .ps .no (.a o)) :: l) G callE (.mk L R) H n k := by
 subst he; exact L9 (Q := fun v H n => AY l G callE (.mk (v :: L) R) H n k) h hk
theorem AUr {o : AA} {al : KA -> Prop} {P : KV} (h : Og c b (CX al H n) H n P) (hc : x.ev (.mk L R) = c) (he : o.al (.mk L R) = al) (hk : ∀ v H n, P v H n -> AY l G callE (.mk (v :: L) R) H n k) : AY (.op (.mk .ps (.on x b) (.a o)) :: l) G callE (.mk L R) H n k := by
 subst hc he; exact Dw h (fun h => L9 (Q := fun v H n => AY l G callE (.mk (v :: L) R) H n k) h hk) (hk _ _ _)
theorem AXB (hle : EH call callE) (hd : Bo callE) {o : AE} {t : KV -> Prop} {P : KV} (h : t P) (he : o.ex G call (.mk L R) H n = t) (hk : ∀ v H n, P v H n -> AY l G callE (.mk (v :: L) R) H n k) : AY (.op (.mk .ps .no (.e o)) :: l) G callE (.mk L R) H n k := by
 subst he; exact O9 hle hd (Q := fun v H n => AY l G callE (.mk (v :: L) R) H n k) h hk
theorem AVJ (hle : EH call callE) (hd : Bo callE) {o : AE} {t : KV -> Prop} {P : KV} (h : Og c b t H n P) (hc : x.ev (.mk L R) = c) (he : o.ex G call (.mk L R) H n = t) (hk : ∀ v H n, P v H n -> AY l G callE (.mk (v :: L) R) H n k) : AY (.op (.mk .ps (.on x b) (.e o)) :: l) G callE (.mk L R) H n k := by
 subst hc he; exact Dw h (fun h => O9 hle hd (Q := fun v H n => AY l G callE (.mk (v :: L) R) H n k) h hk) (hk _ _ _)
theorem AXD {x : X} (hx : x.ev (.mk L R) = a) (hk : AY l G callE (.mk ((a) :: L) R) H n k) : AY (.op (.mk .ps .no (.e (.asg x))) :: l) G callE (.mk L R) H n k := by
 subst hx; exact hk
theorem AXX {o : AN} {e : Option V} {P : V -> Prop} (h : AU e P) (he : o.ev G (.mk L R) H = e) (hk : ∀ v, P v -> AY l G callE (.mk L (T.Ia v p R)) H n k) : AY (.op (.mk (.to p) .no (.n o)) :: l) G callE (.mk L R) H n k := by
 subst he; exact JO h hk
theorem AW4 {o : AN} (he : o.ev G (.mk L R) H = some a) (hk : AY l G callE (.mk L (T.Ia a p R)) H n k) : AY (.op (.mk (.to p) .no (.n o)) :: l) G callE (.mk L R) H n k := by
 show AU (o.ev G (.mk L R) H) _; rw [he]; exact hk
theorem AUi {o : AN} {e : Option V} {P : V -> Prop} (h : Bq c b e P) (hc : x.ev (.mk L R) = c) (he : o.ev G (.mk L R) H = e) (hk : ∀ v, P v -> AY l G callE (.mk L (T.Ia v p R)) H n k) : AY (.op (.mk (.to p) (.on x b) (.n o)) :: l) G callE (.mk L R) H n k := by
 subst hc he; exact Dw h (fun h => JO h hk) (hk _)
theorem AXc {o : AA} {al : KA -> Prop} {P : KV} (h : CX al H n P) (he : o.al (.mk L R) = al) (hk : ∀ v H n, P v H n -> AY l G callE (.mk L (T.Ia v p R)) H n k) : AY (.op (.mk (.to p) .no (.a o)) :: l) G callE (.mk L R) H n k := by
 subst he; exact L9 (Q := fun v H n => AY l G callE (.mk L (T.Ia v p R)) H n k) h hk
theorem AUI {o : AA} {al : KA -> Prop} {P : KV} (h : Og c b (CX al H n) H n P) (hc : x.ev (.mk L R) = c) (he : o.al (.mk L R) = al) (hk : ∀ v H n, P v H n -> AY l G callE (.mk L (T.Ia v p R)) H n k) : AY (.op (.mk (.to p) (.on x b) (.a o)) :: l) G callE (.mk L R) H n k := by
 subst hc he; exact Dw h (fun h => L9 (Q := fun v H n => AY l G callE (.mk L (T.Ia v p R)) H n k) h hk) (hk _ _ _)
theorem AXN (hle : EH call callE) (hd : Bo callE) {o : AE} {t : KV -> Prop} {P : KV} (h : t P) (he : o.ex G call (.mk L R) H n = t) (hk : ∀ v H n, P v H n -> AY l G callE (.mk L (T.Ia v p R)) H n k) : AY (.op (.mk (.to p) .no (.e o)) :: l) G callE (.mk L R) H n k := by
 subst he; exact O9 hle hd (Q := fun v H n => AY l G callE (.mk L (T.Ia v p R)) H n k) h hk
theorem AUe (hle : EH call callE) (hd : Bo callE) {o : AE} {t : KV -> Prop} {P : KV} (h : Og c b t H n P) (hc : x.ev (.mk L R) = c) (he : o.ex G call (.mk L R) H n = t) (hk : ∀ v H n, P v H n -> AY l G callE (.mk L (T.Ia v p R)) H n k) : AY (.op (.mk (.to p) (.on x b) (.e o)) :: l) G callE (.mk L R) H n k := by
 subst hc he; exact Dw h (fun h => O9 hle hd (Q := fun v H n => AY l G callE (.mk L (T.Ia v p R)) H n k) h hk) (hk _ _ _)
theorem AXi {x : X} (hx : x.ev (.mk L R) = a) (hk : AY l G callE (.mk L (T.Ia a p R)) H n k) : AY (.op (.mk (.to p) .no (.e (.asg x))) :: l) G callE (.mk L R) H n k := by
 subst hx; exact hk
theorem AXZ {o : AN} {e : Option V} {P : V -> Prop} (h : AU e P) (he : o.ev G (.mk L R) H = e) (hk : ∀ v, P v -> AY l G callE (.mk L R) H n k) : AY (.op (.mk .no .no (.n o)) :: l) G callE (.mk L R) H n k := by
 subst he; exact JO h hk
theorem AWZ {o : AN} (he : o.ev G (.mk L R) H = some a) (hk : AY l G callE (.mk L R) H n k) : AY (.op (.mk .no .no (.n o)) :: l) G callE (.mk L R) H n k := by
 show AU (o.ev G (.mk L R) H) _; rw [he]; exact hk
theorem AVb {o : AN} {e : Option V} {P : V -> Prop} (h : Bq c b e P) (hc : x.ev (.mk L R) = c) (he : o.ev G (.mk L R) H = e) (hk : ∀ v, P v -> AY l G callE (.mk L R) H n k) : AY (.op (.mk .no (.on x b) (.n o)) :: l) G callE (.mk L R) H n k := by
 subst hc he; exact Dw h (fun h => JO h hk) (hk _)
theorem AWL {o : AA} {al : KA -> Prop} {P : KV} (h : CX al H n P) (he : o.al (.mk L R) = al) (hk : ∀ v H n, P v H n -> AY l G callE (.mk L R) H n k) : AY (.op (.mk .no .no (.a o)) :: l) G callE (.mk L R) H n k := by
 subst he; exact L9 (Q := fun v H n => AY l G callE (.mk L R) H n k) h hk
theorem ATg {o : AA} {al : KA -> Prop} {P : KV} (h : Og c b (CX al H n) H n P) (hc : x.ev (.mk L R) = c) (he : o.al (.mk L R) = al) (hk : ∀ v H n, P v H n -> AY l G callE (.mk L R) H n k) : AY (.op (.mk .no (.on x b) (.a o)) :: l) G callE (.mk L R) H n k := by
 subst hc he; exact Dw h (fun h => L9 (Q := fun v H n => AY l G callE (.mk L R) H n k) h hk) (hk _ _ _)
theorem AWN (hle : EH call callE) (hd : Bo callE) {o : AE} {t : KV -> Prop} {P : KV} (h : t P) (he : o.ex G call (.mk L R) H n = t) (hk : ∀ v H n, P v H n -> AY l G callE (.mk L R) H n k) : AY (.op (.mk .no .no (.e o)) :: l) G callE (.mk L R) H n k := by
 subst he; exact O9 hle hd (Q := fun v H n => AY l G callE (.mk L R) H n k) h hk
theorem AUE (hle : EH call callE) (hd : Bo callE) {o : AE} {t : KV -> Prop} {P : KV} (h : Og c b t H n P) (hc : x.ev (.mk L R) = c) (he : o.ex G call (.mk L R) H n = t) (hk : ∀ v H n, P v H n -> AY l G callE (.mk L R) H n k) : AY (.op (.mk .no (.on x b) (.e o)) :: l) G callE (.mk L R) H n k := by
 subst hc he; exact Dw h (fun h => O9 hle hd (Q := fun v H n => AY l G callE (.mk L R) H n k) h hk) (hk _ _ _)
theorem AXM {x : X} (hx : x.ev (.mk L R) = a) (hk : AY l G callE (.mk L R) H n k) : AY (.op (.mk .no .no (.e (.asg x))) :: l) G callE (.mk L R) H n k := by
 subst hx; exact hk
theorem i0 {K : K} (h : K R H n) : AY [] G callE (.mk L R) H n (kR K) := h
theorem ire {o : AN} {e : Option V} {P0 : Prop} (h : AU e fun v => Fa (Bz v a) P0) (hr : rg R p = a) (he : o.ev G (.mk L R) H = e) (hk : P0 -> AY l G callE (.mk L R) H n k) : AY (.re p .no o :: l) G callE (.mk L R) H n k := by
 subst hr he; exact JO h fun v h => by rw [EC] at h ⊢; exact ⟨h.1, hk h.2⟩
theorem AXO {o : AN} {e : Option V} {P0 : Prop} (h : AJr c b e a P0) (hc : x.ev (.mk L R) = c) (hr : rg R p = a) (he : o.ev G (.mk L R) H = e) (hk : P0 -> AY l G callE (.mk L R) H n k) : AY (.re p (.on x b) o :: l) G callE (.mk L R) H n k := by
 subst hc hr he; exact Dw h (fun h => JO h fun v h => by rw [EC] at h ⊢; exact ⟨h.1, hk h.2⟩) hk
end
section
variable {R : FM} {H : Heap} {n : Nat} {k : K} {x : KX} {r : K} {a b : AC}
theorem ASB (h : k R H n) : AC.skip.Rx G callE 0 R H n k x r := h
theorem AVd {l : List iZ} (h : BX l G callE (.mk [] R) H n (kR k)) : (AC.ops l).Rx G callE 0 R H n k x r := h
theorem AVY {l : List AI} (h : AY l G callE (.mk [] R) H n (kR k)) : (AC.reg l).Rx G callE 0 R H n k x r := h
theorem AUW (h : a.Rx G callE 0 R H n (fun R H n => b.Rx G callE 0 R H n k x r) x r) : (AC.seq a b).Rx G callE 0 R H n k x r := h
theorem ARo (S : FM -> Heap -> Nat -> Prop) (hb : ∀ R H n, S R H n -> b.Rx G callE 0 R H n k x r)
    (ha : (∀ R H n, S R H n -> b.Rx G callE 0 R H n k x r) -> a.Rx G callE 0 R H n (fun R H n => b.Rx G callE 0 R H n k x r) x r) : (AC.seq a b).Rx G callE 0 R H n k x r := ha hb
theorem ARa {c : X} {v : V} {P Q : Prop} (h : Ac v true P Q) (hc : c.ev (.mk [] R) = v) (ha : P -> a.Rx G callE 0 R H n k x r) (hb : Q -> b.Rx G callE 0 R H n k x r) : (AC.cond c a b).Rx G callE 0 R H n k x r := by
 subst hc; exact iP h ha hb
theorem AQb {i : Nat} (h : a.Rx G callE 0 R H n k (Du i k x) r) : (AC.block i a).Rx G callE 0 R H n k x r := h
theorem ARl {i : Nat} (h : x i R H n) : (AC.exit i).Rx G callE 0 R H n k x r := h
theorem AUo (h : r R H n) : AC.ret.Rx G callE 0 R H n k x r := h
theorem AQ3 {i : Nat} (h : k R H n) : Du i k x i R H n := by
 unfold Du
 have : Nat.beq i i = true := by simp
 rw [this]; exact h
theorem ATb {i j : Nat} (hb : Nat.beq j i = false) (h : x j R H n) : Du i k x j R H n := by
 unfold Du; rw [hb]; exact h
theorem ASm {σ : Type} {lp : Aw} (hL : DU lp) {bd : (σ -> Prop) -> σ -> Prop} {s0 : σ} (S : σ -> FM -> Heap -> Nat -> Prop) (h : lp σ bd s0) (h0 : S s0 R H n)
    (hb : ∀ (ih : σ -> Prop) (I : K), (∀ s R H n, S s R H n -> ih s -> I R H n) -> ∀ s R H n, S s R H n -> bd ih s -> a.Rx G callE 0 R H n I x r) : (AC.loop a).Rx G callE 0 R H n k x r := by
  show AEM a.Rx G callE R H n x r
  intro I hI
  exact hL σ bd (fun s => ∀ R H n, S s R H n -> I R H n) (fun ih hih s hs R H n hS => hI R H n (hb ih I (fun s R H n hS hi => hih s hi R H n hS) s R H n hS hs)) s0 h R H n h0
end
section
variable {res rs : List AR} {dg : Nat} {R : FM} {H : Heap} {n : Nat} {k : KV} {l : LV} {p : P2} {a : V} {vs : List vF}
noncomputable def tK (l : List AR) (R : FM) : List vF := l.map fun
 | .tmp p => .t (rg R p) | .cell1 p => .c1 (rg R p) | .celln p n => .cn (rg R p) n
theorem rs0 : tK [] R = [] := rfl
theorem rsT (hx : rg R p = a) (h : tK rs R = vs) : tK (.tmp p :: rs) R = .t a :: vs := by subst hx h; rfl
theorem rsC (hx : rg R p = a) (h : tK rs R = vs) : tK (.cell1 p :: rs) R = .c1 a :: vs := by subst hx h; rfl
theorem rsN {m : Nat} (hx : rg R p = a) (h : tK rs R = vs) : tK (.celln p m :: rs) R = .cn a m :: vs := by subst hx h; rfl
theorem ADd : ∀ (res : List AR), bK res G R H = BN (tK res R) G H
 | [] => rfl
 | r :: res => by
  show BG (r.get G R H) (fun v => BG (bK res G R H) fun vs => some (v :: vs)) = _
  rw [ADd res]
  cases r <;> rfl
theorem AGr (h : Es (BN vs G H) fun l => k (Eh l) H n) (he : tK res R = vs) : qJ res G k R H n := by
 subst he; show Es (bK res G R H) _; rw [ADd]; exact h
theorem ASD (he : tK res R = vs) (h : Es (BN vs G H) fun l => k (Eh l) H n) : Fh res dg .no G callE k R H n := AGr h he
theorem ACv (hle : EH call callE) (hd : Bo callE) {l : List V} {P Q : Heap -> Nat -> Prop} (h : JR dg l call H n P) (hk : ∀ H n, P H n -> Q H n) : JR dg l callE H n Q :=
 Sz.mono (nG hd dg l H n) (k := fun s => P s.1 s.2) (k' := fun s => Q s.1 s.2) (fun s hs => hk _ _ hs) (sU hd hle dg l H n _ h)
theorem ASO {dv : V} {dp : P2} (hle : EH call callE) (hd : Bo callE) (hr : rg R dp = dv) (he : tK res R = vs) (h : JR dg (cZ dv) call H n fun H n => Es (BN vs G H) fun l => k (Eh l) H n) : Fh res dg (.to dp) G callE k R H n := by
 subst hr
 exact ACv hle hd (Q := fun H n => qJ res G k R H n) h fun H n h => AGr h he
theorem AQX {np : Nat} {code : AC} {d : Zf} {args : List V} (hl : Nat.beq (len args) np = true) (h : code.Rx G callE 0 (WQ args 0 .e) H n (Fh res dg d G callE k) noX (Fh res dg d G callE k)) :
    mO (.mk np code res d dg) G callE args H n k := by
  show Fa (Nat.beq (len args) np) _
  rw [hl]; exact h
end
end
abbrev SF := AQ -> List V -> Heap -> Nat -> KV -> Prop
noncomputable def ar0 (s : AQ -> Heap -> Nat -> KV -> Prop) : SF := fun call l H n k => List.rec (motive := fun _ => Prop) (s call H n k) (fun _ _ _ => False) l
noncomputable def Dz (s : AQ -> V -> Heap -> Nat -> KV -> Prop) : SF := fun call l H n k => List.rec (motive := fun _ => Prop) False (fun a l _ => ar0 (fun call => s call a) call l H n k) l
noncomputable def UA (s : AQ -> V -> V -> Heap -> Nat -> KV -> Prop) : SF := fun call l H n k => List.rec (motive := fun _ => Prop) False (fun a l _ => Dz (fun call => s call a) call l H n k) l
noncomputable def ar3 (s : AQ -> V -> V -> V -> Heap -> Nat -> KV -> Prop) : SF := fun call l H n k => List.rec (motive := fun _ => Prop) False (fun a l _ => UA (fun call => s call a) call l H n k) l
noncomputable def ar4 (s : AQ -> V -> V -> V -> V -> Heap -> Nat -> KV -> Prop) : SF := fun call l H n k => List.rec (motive := fun _ => Prop) False (fun a l _ => ar3 (fun call => s call a) call l H n k) l
noncomputable def ar5 (s : AQ -> V -> V -> V -> V -> V -> Heap -> Nat -> KV -> Prop) : SF := fun call l H n k => List.rec (motive := fun _ => Prop) False (fun a l _ => ar4 (fun call => s call a) call l H n k) l
noncomputable def ar6 (s : AQ -> V -> V -> V -> V -> V -> V -> Heap -> Nat -> KV -> Prop) : SF := fun call l H n k => List.rec (motive := fun _ => Prop) False (fun a l _ => ar5 (fun call => s call a) call l H n k) l
noncomputable def ar7 (s : AQ -> V -> V -> V -> V -> V -> V -> V -> Heap -> Nat -> KV -> Prop) : SF := fun call l H n k => List.rec (motive := fun _ => Prop) False (fun a l _ => ar6 (fun call => s call a) call l H n k) l
noncomputable def ar8 (s : AQ -> V -> V -> V -> V -> V -> V -> V -> V -> Heap -> Nat -> KV -> Prop) : SF := fun call l H n k => List.rec (motive := fun _ => Prop) False (fun a l _ => ar7 (fun call => s call a) call l H n k) l
noncomputable def ar9 (s : AQ -> V -> V -> V -> V -> V -> V -> V -> V -> V -> Heap -> Nat -> KV -> Prop) : SF := fun call l H n k => List.rec (motive := fun _ => Prop) False (fun a l _ => ar8 (fun call => s call a) call l H n k) l
noncomputable def ANb (s : AQ -> V -> V -> V -> V -> V -> V -> V -> V -> V -> V -> Heap -> Nat -> KV -> Prop) : SF := fun call l H n k => List.rec (motive := fun _ => Prop) False (fun a l _ => ar9 (fun call => s call a) call l H n k) l
noncomputable def ANM (s : AQ -> V -> V -> V -> V -> V -> V -> V -> V -> V -> V -> V -> Heap -> Nat -> KV -> Prop) : SF := fun call l H n k => List.rec (motive := fun _ => Prop) False (fun a l _ => ANb (fun call => s call a) call l H n k) l
noncomputable def AS7 (s : AQ -> V -> V -> V -> V -> V -> V -> V -> V -> V -> V -> V -> V -> Heap -> Nat -> KV -> Prop) : SF := fun call l H n k => List.rec (motive := fun _ => Prop) False (fun a l _ => ANM (fun call => s call a) call l H n k) l
theorem ADO {s : AQ -> Heap -> Nat -> KV -> Prop} {call : AQ} {l : List V} {H : Heap} {n : Nat} {k : KV} (h : ar0 s call l H n k) : l = [] /\ s call H n k := by
 cases l with
 | nil => exact ⟨rfl, h⟩
 | cons => exact (show False from h).elim
theorem AEF {s : AQ -> V -> Heap -> Nat -> KV -> Prop} {call : AQ} {l : List V} {H : Heap} {n : Nat} {k : KV} (h : Dz s call l H n k) : ∃ a0, l = [a0] /\ s call a0 H n k := by
 cases l with
 | nil => exact (show False from h).elim
 | cons a l =>
  obtain ⟨rfl, h⟩ := ADO (show ar0 (fun call => s call a) call l H n k from h)
  exact ⟨a, rfl, h⟩
theorem ADN {s : AQ -> V -> V -> Heap -> Nat -> KV -> Prop} {call : AQ} {l : List V} {H : Heap} {n : Nat} {k : KV} (h : UA s call l H n k) : ∃ a0 a1, l = [a0, a1] /\ s call a0 a1 H n k := by
 cases l with
 | nil => exact (show False from h).elim
 | cons a l =>
  obtain ⟨b0, rfl, h⟩ := AEF (show Dz (fun call => s call a) call l H n k from h)
  exact ⟨a, b0, rfl, h⟩
theorem ADk {s : AQ -> V -> V -> V -> Heap -> Nat -> KV -> Prop} {call : AQ} {l : List V} {H : Heap} {n : Nat} {k : KV} (h : ar3 s call l H n k) : ∃ a0 a1 a2, l = [a0, a1, a2] /\ s call a0 a1 a2 H n k := by
 cases l with
 | nil => exact (show False from h).elim
 | cons a l =>
  obtain ⟨b0, b1, rfl, h⟩ := ADN (show UA (fun call => s call a) call l H n k from h)
  exact ⟨a, b0, b1, rfl, h⟩
theorem AD8 {s : AQ -> V -> V -> V -> V -> Heap -> Nat -> KV -> Prop} {call : AQ} {l : List V} {H : Heap} {n : Nat} {k : KV} (h : ar4 s call l H n k) : ∃ a0 a1 a2 a3, l = [a0, a1, a2, a3] /\ s call a0 a1 a2 a3 H n k := by
 cases l with
 | nil => exact (show False from h).elim
 | cons a l =>
  obtain ⟨b0, b1, b2, rfl, h⟩ := ADk (show ar3 (fun call => s call a) call l H n k from h)
  exact ⟨a, b0, b1, b2, rfl, h⟩
theorem AEC {s : AQ -> V -> V -> V -> V -> V -> Heap -> Nat -> KV -> Prop} {call : AQ} {l : List V} {H : Heap} {n : Nat} {k : KV} (h : ar5 s call l H n k) : ∃ a0 a1 a2 a3 a4, l = [a0, a1, a2, a3, a4] /\ s call a0 a1 a2 a3 a4 H n k := by
 cases l with
 | nil => exact (show False from h).elim
 | cons a l =>
  obtain ⟨b0, b1, b2, b3, rfl, h⟩ := AD8 (show ar4 (fun call => s call a) call l H n k from h)
  exact ⟨a, b0, b1, b2, b3, rfl, h⟩
theorem ADS {s : AQ -> V -> V -> V -> V -> V -> V -> Heap -> Nat -> KV -> Prop} {call : AQ} {l : List V} {H : Heap} {n : Nat} {k : KV} (h : ar6 s call l H n k) : ∃ a0 a1 a2 a3 a4 a5, l = [a0, a1, a2, a3, a4, a5] /\ s call a0 a1 a2 a3 a4 a5 H n k := by
 cases l with
 | nil => exact (show False from h).elim
 | cons a l =>
  obtain ⟨b0, b1, b2, b3, b4, rfl, h⟩ := AEC (show ar5 (fun call => s call a) call l H n k from h)
  exact ⟨a, b0, b1, b2, b3, b4, rfl, h⟩
theorem ADj {s : AQ -> V -> V -> V -> V -> V -> V -> V -> Heap -> Nat -> KV -> Prop} {call : AQ} {l : List V} {H : Heap} {n : Nat} {k : KV} (h : ar7 s call l H n k) : ∃ a0 a1 a2 a3 a4 a5 a6, l = [a0, a1, a2, a3, a4, a5, a6] /\ s call a0 a1 a2 a3 a4 a5 a6 H n k := by
 cases l with
 | nil => exact (show False from h).elim
 | cons a l =>
  obtain ⟨b0, b1, b2, b3, b4, b5, rfl, h⟩ := ADS (show ar6 (fun call => s call a) call l H n k from h)
  exact ⟨a, b0, b1, b2, b3, b4, b5, rfl, h⟩
theorem AEA {s : AQ -> V -> V -> V -> V -> V -> V -> V -> V -> Heap -> Nat -> KV -> Prop} {call : AQ} {l : List V} {H : Heap} {n : Nat} {k : KV} (h : ar8 s call l H n k) : ∃ a0 a1 a2 a3 a4 a5 a6 a7, l = [a0, a1, a2, a3, a4, a5, a6, a7] /\ s call a0 a1 a2 a3 a4 a5 a6 a7 H n k := by
 cases l with
 | nil => exact (show False from h).elim
 | cons a l =>
  obtain ⟨b0, b1, b2, b3, b4, b5, b6, rfl, h⟩ := ADj (show ar7 (fun call => s call a) call l H n k from h)
  exact ⟨a, b0, b1, b2, b3, b4, b5, b6, rfl, h⟩
theorem AIA {s : AQ -> V -> V -> V -> V -> V -> V -> V -> V -> V -> Heap -> Nat -> KV -> Prop} {call : AQ} {l : List V} {H : Heap} {n : Nat} {k : KV} (h : ar9 s call l H n k) : ∃ a0 a1 a2 a3 a4 a5 a6 a7 a8, l = [a0, a1, a2, a3, a4, a5, a6, a7, a8] /\ s call a0 a1 a2 a3 a4 a5 a6 a7 a8 H n k := by
 cases l with
 | nil => exact (show False from h).elim
 | cons a l =>
  obtain ⟨b0, b1, b2, b3, b4, b5, b6, b7, rfl, h⟩ := AEA (show ar8 (fun call => s call a) call l H n k from h)
  exact ⟨a, b0, b1, b2, b3, b4, b5, b6, b7, rfl, h⟩
theorem AFn {s : AQ -> V -> V -> V -> V -> V -> V -> V -> V -> V -> V -> Heap -> Nat -> KV -> Prop} {call : AQ} {l : List V} {H : Heap} {n : Nat} {k : KV} (h : ANb s call l H n k) : ∃ a0 a1 a2 a3 a4 a5 a6 a7 a8 a9, l = [a0, a1, a2, a3, a4, a5, a6, a7, a8, a9] /\ s call a0 a1 a2 a3 a4 a5 a6 a7 a8 a9 H n k := by
 cases l with
 | nil => exact (show False from h).elim
 | cons a l =>
  obtain ⟨b0, b1, b2, b3, b4, b5, b6, b7, b8, rfl, h⟩ := AIA (show ar9 (fun call => s call a) call l H n k from h)
  exact ⟨a, b0, b1, b2, b3, b4, b5, b6, b7, b8, rfl, h⟩
theorem AHC {s : AQ -> V -> V -> V -> V -> V -> V -> V -> V -> V -> V -> V -> Heap -> Nat -> KV -> Prop} {call : AQ} {l : List V} {H : Heap} {n : Nat} {k : KV} (h : ANM s call l H n k) : ∃ a0 a1 a2 a3 a4 a5 a6 a7 a8 a9 a10, l = [a0, a1, a2, a3, a4, a5, a6, a7, a8, a9, a10] /\ s call a0 a1 a2 a3 a4 a5 a6 a7 a8 a9 a10 H n k := by
 cases l with
 | nil => exact (show False from h).elim
 | cons a l =>
  obtain ⟨b0, b1, b2, b3, b4, b5, b6, b7, b8, b9, rfl, h⟩ := AFn (show ANb (fun call => s call a) call l H n k from h)
  exact ⟨a, b0, b1, b2, b3, b4, b5, b6, b7, b8, b9, rfl, h⟩
theorem APY {s : AQ -> V -> V -> V -> V -> V -> V -> V -> V -> V -> V -> V -> V -> Heap -> Nat -> KV -> Prop} {call : AQ} {l : List V} {H : Heap} {n : Nat} {k : KV} (h : AS7 s call l H n k) : ∃ a0 a1 a2 a3 a4 a5 a6 a7 a8 a9 a10 a11, l = [a0, a1, a2, a3, a4, a5, a6, a7, a8, a9, a10, a11] /\ s call a0 a1 a2 a3 a4 a5 a6 a7 a8 a9 a10 a11 H n k := by
 cases l with
 | nil => exact (show False from h).elim
 | cons a l =>
  obtain ⟨b0, b1, b2, b3, b4, b5, b6, b7, b8, b9, b10, rfl, h⟩ := AHC (show ANM (fun call => s call a) call l H n k from h)
  exact ⟨a, b0, b1, b2, b3, b4, b5, b6, b7, b8, b9, b10, rfl, h⟩
noncomputable def AHK (FS : T SF) (fuel : Nat) : AQ :=
 Nat.rec (motive := fun _ => AQ) (fun _ _ _ _ _ => False) (fun _ call f args H n k => Es (T.get FS f) fun s => s call args H n k) fuel
def fV (G : AP) (af : AF) (s : SF) : Prop := ∀ call callE, EH call callE -> Bo callE -> ∀ args H n k, s call args H n k -> mO af G callE args H n k
def AAl (F : T AF) (G : AP) (FS : T SF) : Prop := ∀ f s, T.get FS f = some s -> ∃ af, T.get F f = some af /\ fV G af s
theorem qW {F : T AF} {G : AP} {FS : T SF} (h : AAl F G FS) : ∀ m, EH (AHK FS m) (Runs F G)
 | 0 => fun _ _ _ _ _ h => (show False from h).elim
 | m + 1 => fun f a H n k hr => by
  have hr' : Es (T.get FS f) fun s => s (AHK FS m) a H n k := hr
  rw [Gv] at hr'
  obtain ⟨s, hs, hr'⟩ := hr'
  obtain ⟨af, haf, hok⟩ := h f s hs
  exact YK haf (hok _ _ (qW h m) (VU F G) _ _ _ _ hr')
theorem AQr {F : T AF} {G : AP} {FS : T SF} (h : AAl F G FS) {f : Nat} {a : List V} {m : Nat} (hr : AHK FS m f a .e 0 Oj = True) : Runs F G f a .e 0 fun v _ _ => v = .bool true :=
 dV (k := Oj) (fun _ _ _ hv => qo hv) (qW h m _ _ _ _ _ (of_eq_true hr))
end Go.Eng
namespace Go.Eng
section
variable {E : RS} {G : AP} {H : Heap} {x : X} {a : Int}
theorem km1 (hx : x.ev E = .int .i64 a 0) : (AN.cvi .u64 x).ev G E H = some (.int .u64 (IntKind.wrap .u64 a) 0) := by
 show (x.ev E).Em _ = _
 rw [hx]; exact vK _ _
theorem km2 {m t : Nat} (hm : 0 < m) (e : umod a m = t) (hx : x.ev E = .int .u64 (IntKind.wrap .u64 a) 0) : (AN.bin .rem x (.c (.int .u64 (.ofNat m) 0))).ev G E H = some (.int .u64 (.ofNat t) 0) := by
 subst e
 show B2.ev .rem (x.ev E) (.int .u64 (.ofNat m) 0) = _
 rw [hx]
 show Aq (band true (band true (UL (ieq (.ofNat m) 0)))) (mkN .u64 (Int.tmod (IntKind.wrap .u64 a) (.ofNat m)) 0) = _
 have : ieq (.ofNat m) 0 = false := by rw [Qg]; simp; omega
 rw [this]
 show Iy (Int.tmod (IntKind.wrap .u64 a) (.ofNat m)) (fun m => some (.int .u64 m 0)) = _
 rw [Jo]
 exact congrArg (fun z => some (V.int .u64 z 0)) (umod_eq a m)
theorem km3 {m t : Nat} (hm : m < 9223372036854775808) (e : qH a m = t) (hx : x.ev E = .int .i64 a 0) : (AN.bin .and x (.c (.int .i64 (.ofNat m) 0))).ev G E H = some (.int .i64 (.ofNat t) 0) := by
 subst e
 show AJe (x.ev E) (.int .i64 (.ofNat m) 0) = _
 rw [hx]
 show Aq true (Iy (AFT .i64 a (.ofNat m)) fun m => some (.int .i64 m 0)) = _
 rw [wK a hm]; rfl
end
theorem APH {F : T AF} {G : AP} {FS : T SF} (h : AAl F G FS) {f : Nat} {af : AF} (hf : T.get F f = some af) {a : List V} (m : Nat) {t : KV -> Prop} (hs : ∀ callE, EH (AHK FS m) callE -> Bo callE -> t Oj -> mO af G callE a .e 0 Oj) (hr : t Oj = True) :
    Runs F G f a .e 0 fun v _ _ => v = .bool true :=
  dV (k := Oj) (fun _ _ _ hv => qo hv) (YK hf (hs _ (qW h m) (VU F G) (of_eq_true hr)))
theorem below2 {p : Nat -> Prop} (h0 : p 0) (h1 : p 1) (x : Nat) (hx : x < 2) : p x := by
 have : x = 0 ∨ x = 1 := by omega
 rcases this with rfl | rfl <;> assumption
theorem below3 {p : Nat -> Prop} (h0 : p 0) (h1 : p 1) (h2 : p 2) (x : Nat) (hx : x < 3) : p x := by
 have : x = 0 ∨ x = 1 ∨ x = 2 := by omega
 rcases this with rfl | rfl | rfl <;> assumption
theorem ARi {p : Nat -> Prop} (h0 : p 0) (h1 : p 1) (h2 : p 2) (h3 : p 3) (x : Nat) (hx : x < 4) : p x := by
 have : x = 0 ∨ x = 1 ∨ x = 2 ∨ x = 3 := by omega
 rcases this with rfl | rfl | rfl | rfl <;> assumption
theorem ASU {p : Nat -> Prop} (h0 : p 0) (h1 : p 1) (h2 : p 2) (h3 : p 3) (h4 : p 4) (x : Nat) (hx : x < 5) : p x := by
 have : x = 0 ∨ x = 1 ∨ x = 2 ∨ x = 3 ∨ x = 4 := by omega
 rcases this with rfl | rfl | rfl | rfl | rfl <;> assumption
theorem AR6 {p : Nat -> Prop} (h0 : p 0) (h1 : p 1) (h2 : p 2) (h3 : p 3) (h4 : p 4) (h5 : p 5) (x : Nat) (hx : x < 6) : p x := by
 have : x = 0 ∨ x = 1 ∨ x = 2 ∨ x = 3 ∨ x = 4 ∨ x = 5 := by omega
 rcases this with rfl | rfl | rfl | rfl | rfl | rfl <;> assumption
theorem ARn {p : Nat -> Prop} (h0 : p 0) (h1 : p 1) (h2 : p 2) (h3 : p 3) (h4 : p 4) (h5 : p 5) (h6 : p 6) (x : Nat) (hx : x < 7) : p x := by
 have : x = 0 ∨ x = 1 ∨ x = 2 ∨ x = 3 ∨ x = 4 ∨ x = 5 ∨ x = 6 := by omega
 rcases this with rfl | rfl | rfl | rfl | rfl | rfl | rfl <;> assumption
theorem ASX {p : Nat -> Prop} (h0 : p 0) (h1 : p 1) (h2 : p 2) (h3 : p 3) (h4 : p 4) (h5 : p 5) (h6 : p 6) (h7 : p 7) (x : Nat) (hx : x < 8) : p x := by
 have : x = 0 ∨ x = 1 ∨ x = 2 ∨ x = 3 ∨ x = 4 ∨ x = 5 ∨ x = 6 ∨ x = 7 := by omega
 rcases this with rfl | rfl | rfl | rfl | rfl | rfl | rfl | rfl <;> assumption
theorem AR7 {p : Nat -> Prop} (h0 : p 0) (h1 : p 1) (h2 : p 2) (h3 : p 3) (h4 : p 4) (h5 : p 5) (h6 : p 6) (h7 : p 7) (h8 : p 8) (x : Nat) (hx : x < 9) : p x := by
 have : x = 0 ∨ x = 1 ∨ x = 2 ∨ x = 3 ∨ x = 4 ∨ x = 5 ∨ x = 6 ∨ x = 7 ∨ x = 8 := by omega
 rcases this with rfl | rfl | rfl | rfl | rfl | rfl | rfl | rfl | rfl <;> assumption
theorem AQt {p : Nat -> Prop} (h0 : p 0) (h1 : p 1) (h2 : p 2) (h3 : p 3) (h4 : p 4) (h5 : p 5) (h6 : p 6) (h7 : p 7) (h8 : p 8) (h9 : p 9) (x : Nat) (hx : x < 10) : p x := by
 have : x = 0 ∨ x = 1 ∨ x = 2 ∨ x = 3 ∨ x = 4 ∨ x = 5 ∨ x = 6 ∨ x = 7 ∨ x = 8 ∨ x = 9 := by omega
 rcases this with rfl | rfl | rfl | rfl | rfl | rfl | rfl | rfl | rfl | rfl <;> assumption
theorem AQ0 {p : Nat -> Prop} (h0 : p 0) (h1 : p 1) (h2 : p 2) (h3 : p 3) (h4 : p 4) (h5 : p 5) (h6 : p 6) (h7 : p 7) (h8 : p 8) (h9 : p 9) (h10 : p 10) (h11 : p 11) (x : Nat) (hx : x < 12) : p x := by
 have : x = 0 ∨ x = 1 ∨ x = 2 ∨ x = 3 ∨ x = 4 ∨ x = 5 ∨ x = 6 ∨ x = 7 ∨ x = 8 ∨ x = 9 ∨ x = 10 ∨ x = 11 := by omega
 rcases this with rfl | rfl | rfl | rfl | rfl | rfl | rfl | rfl | rfl | rfl | rfl | rfl <;> assumption
theorem AQ6 {p : Nat -> Prop} (h0 : p 0) (h1 : p 1) (h2 : p 2) (h3 : p 3) (h4 : p 4) (h5 : p 5) (h6 : p 6) (h7 : p 7) (h8 : p 8) (h9 : p 9) (h10 : p 10) (h11 : p 11) (h12 : p 12) (h13 : p 13) (h14 : p 14) (h15 : p 15) (x : Nat) (hx : x < 16) : p x := by
 have : x = 0 ∨ x = 1 ∨ x = 2 ∨ x = 3 ∨ x = 4 ∨ x = 5 ∨ x = 6 ∨ x = 7 ∨ x = 8 ∨ x = 9 ∨ x = 10 ∨ x = 11 ∨ x = 12 ∨ x = 13 ∨ x = 14 ∨ x = 15 := by omega
 rcases this with rfl | rfl | rfl | rfl | rfl | rfl | rfl | rfl | rfl | rfl | rfl | rfl | rfl | rfl | rfl | rfl <;> assumption
theorem ARF {p : Nat -> Prop} (h0 : p 0) (h1 : p 1) (h2 : p 2) (h3 : p 3) (h4 : p 4) (h5 : p 5) (h6 : p 6) (h7 : p 7) (h8 : p 8) (h9 : p 9) (h10 : p 10) (h11 : p 11) (h12 : p 12) (h13 : p 13) (h14 : p 14) (h15 : p 15) (h16 : p 16) (h17 : p 17) (h18 : p 18) (h19 : p 19) (x : Nat) (hx : x < 20) : p x := by
 have : x = 0 ∨ x = 1 ∨ x = 2 ∨ x = 3 ∨ x = 4 ∨ x = 5 ∨ x = 6 ∨ x = 7 ∨ x = 8 ∨ x = 9 ∨ x = 10 ∨ x = 11 ∨ x = 12 ∨ x = 13 ∨ x = 14 ∨ x = 15 ∨ x = 16 ∨ x = 17 ∨ x = 18 ∨ x = 19 := by omega
 rcases this with rfl | rfl | rfl | rfl | rfl | rfl | rfl | rfl | rfl | rfl | rfl | rfl | rfl | rfl | rfl | rfl | rfl | rfl | rfl | rfl <;> assumption
theorem AQ2 {p : Nat -> Prop} (h0 : p 0) (h1 : p 1) (h2 : p 2) (h3 : p 3) (h4 : p 4) (h5 : p 5) (h6 : p 6) (h7 : p 7) (h8 : p 8) (h9 : p 9) (h10 : p 10) (h11 : p 11) (h12 : p 12) (h13 : p 13) (h14 : p 14) (h15 : p 15) (h16 : p 16) (h17 : p 17) (h18 : p 18) (h19 : p 19) (h20 : p 20) (h21 : p 21) (h22 : p 22) (h23 : p 23) (h24 : p 24) (h25 : p 25) (h26 : p 26) (h27 : p 27) (h28 : p 28) (h29 : p 29) (x : Nat) (hx : x < 30) : p x := by
 match x, hx with
 | 0, _ => exact h0
 | 1, _ => exact h1
 | 2, _ => exact h2
 | 3, _ => exact h3
 | 4, _ => exact h4
 | 5, _ => exact h5
 | 6, _ => exact h6
 | 7, _ => exact h7
 | 8, _ => exact h8
 | 9, _ => exact h9
 | 10, _ => exact h10
 | 11, _ => exact h11
 | 12, _ => exact h12
 | 13, _ => exact h13
 | 14, _ => exact h14
 | 15, _ => exact h15
 | 16, _ => exact h16
 | 17, _ => exact h17
 | 18, _ => exact h18
 | 19, _ => exact h19
 | 20, _ => exact h20
 | 21, _ => exact h21
 | 22, _ => exact h22
 | 23, _ => exact h23
 | 24, _ => exact h24
 | 25, _ => exact h25
 | 26, _ => exact h26
 | 27, _ => exact h27
 | 28, _ => exact h28
 | 29, _ => exact h29
 | x + 30, hx => exact absurd hx (by omega)
theorem AQp {p : Nat -> Prop} (h0 : p 0) (h1 : p 1) (h2 : p 2) (h3 : p 3) (h4 : p 4) (h5 : p 5) (h6 : p 6) (h7 : p 7) (h8 : p 8) (h9 : p 9) (h10 : p 10) (h11 : p 11) (h12 : p 12) (h13 : p 13) (h14 : p 14) (h15 : p 15) (h16 : p 16) (h17 : p 17) (h18 : p 18) (h19 : p 19) (h20 : p 20) (h21 : p 21) (h22 : p 22) (h23 : p 23) (h24 : p 24) (h25 : p 25) (h26 : p 26) (h27 : p 27) (h28 : p 28) (h29 : p 29) (h30 : p 30) (h31 : p 31) (x : Nat) (hx : x < 32) : p x := by
 match x, hx with
 | 0, _ => exact h0
 | 1, _ => exact h1
 | 2, _ => exact h2
 | 3, _ => exact h3
 | 4, _ => exact h4
 | 5, _ => exact h5
 | 6, _ => exact h6
 | 7, _ => exact h7
 | 8, _ => exact h8
 | 9, _ => exact h9
 | 10, _ => exact h10
 | 11, _ => exact h11
 | 12, _ => exact h12
 | 13, _ => exact h13
 | 14, _ => exact h14
 | 15, _ => exact h15
 | 16, _ => exact h16
 | 17, _ => exact h17
 | 18, _ => exact h18
 | 19, _ => exact h19
 | 20, _ => exact h20
 | 21, _ => exact h21
 | 22, _ => exact h22
 | 23, _ => exact h23
 | 24, _ => exact h24
 | 25, _ => exact h25
 | 26, _ => exact h26
 | 27, _ => exact h27
 | 28, _ => exact h28
 | 29, _ => exact h29
 | 30, _ => exact h30
 | 31, _ => exact h31
 | x + 32, hx => exact absurd hx (by omega)
theorem ARN {p : Nat -> Prop} (h0 : p 0) (h1 : p 1) (h2 : p 2) (h3 : p 3) (h4 : p 4) (h5 : p 5) (h6 : p 6) (h7 : p 7) (h8 : p 8) (h9 : p 9) (h10 : p 10) (h11 : p 11) (h12 : p 12) (h13 : p 13) (h14 : p 14) (h15 : p 15) (h16 : p 16) (h17 : p 17) (h18 : p 18) (h19 : p 19) (h20 : p 20) (h21 : p 21) (h22 : p 22) (h23 : p 23) (h24 : p 24) (h25 : p 25) (h26 : p 26) (h27 : p 27) (h28 : p 28) (h29 : p 29) (h30 : p 30) (h31 : p 31) (h32 : p 32) (h33 : p 33) (h34 : p 34) (h35 : p 35) (h36 : p 36) (h37 : p 37) (h38 : p 38) (h39 : p 39) (h40 : p 40) (h41 : p 41) (x : Nat) (hx : x < 42) : p x := by
 match x, hx with
 | 0, _ => exact h0
 | 1, _ => exact h1
 | 2, _ => exact h2
 | 3, _ => exact h3
 | 4, _ => exact h4
 | 5, _ => exact h5
 | 6, _ => exact h6
 | 7, _ => exact h7
 | 8, _ => exact h8
 | 9, _ => exact h9
 | 10, _ => exact h10
 | 11, _ => exact h11
 | 12, _ => exact h12
 | 13, _ => exact h13
 | 14, _ => exact h14
 | 15, _ => exact h15
 | 16, _ => exact h16
 | 17, _ => exact h17
 | 18, _ => exact h18
 | 19, _ => exact h19
 | 20, _ => exact h20
 | 21, _ => exact h21
 | 22, _ => exact h22
 | 23, _ => exact h23
 | 24, _ => exact h24
 | 25, _ => exact h25
 | 26, _ => exact h26
 | 27, _ => exact h27
 | 28, _ => exact h28
 | 29, _ => exact h29
 | 30, _ => exact h30
 | 31, _ => exact h31
 | 32, _ => exact h32
 | 33, _ => exact h33
 | 34, _ => exact h34
 | 35, _ => exact h35
 | 36, _ => exact h36
 | 37, _ => exact h37
 | 38, _ => exact h38
 | 39, _ => exact h39
 | 40, _ => exact h40
 | 41, _ => exact h41
 | x + 42, hx => exact absurd hx (by omega)
theorem AQn {p : Nat -> Prop} (h0 : p 0) (h1 : p 1) (h2 : p 2) (h3 : p 3) (h4 : p 4) (h5 : p 5) (h6 : p 6) (h7 : p 7) (h8 : p 8) (h9 : p 9) (h10 : p 10) (h11 : p 11) (h12 : p 12) (h13 : p 13) (h14 : p 14) (h15 : p 15) (h16 : p 16) (h17 : p 17) (h18 : p 18) (h19 : p 19) (h20 : p 20) (h21 : p 21) (h22 : p 22) (h23 : p 23) (h24 : p 24) (h25 : p 25) (h26 : p 26) (h27 : p 27) (h28 : p 28) (h29 : p 29) (h30 : p 30) (h31 : p 31) (h32 : p 32) (h33 : p 33) (h34 : p 34) (h35 : p 35) (h36 : p 36) (h37 : p 37) (h38 : p 38) (h39 : p 39) (h40 : p 40) (h41 : p 41) (h42 : p 42) (h43 : p 43) (h44 : p 44) (h45 : p 45) (h46 : p 46) (h47 : p 47) (h48 : p 48) (h49 : p 49) (h50 : p 50) (h51 : p 51) (h52 : p 52) (h53 : p 53) (h54 : p 54) (h55 : p 55) (h56 : p 56) (h57 : p 57) (h58 : p 58) (h59 : p 59) (h60 : p 60) (h61 : p 61) (h62 : p 62) (h63 : p 63) (x : Nat) (hx : x < 64) : p x := by
 match x, hx with
 | 0, _ => exact h0
 | 1, _ => exact h1
 | 2, _ => exact h2
 | 3, _ => exact h3
 | 4, _ => exact h4
 | 5, _ => exact h5
 | 6, _ => exact h6
 | 7, _ => exact h7
 | 8, _ => exact h8
 | 9, _ => exact h9
 | 10, _ => exact h10
 | 11, _ => exact h11
 | 12, _ => exact h12
 | 13, _ => exact h13
 | 14, _ => exact h14
 | 15, _ => exact h15
 | 16, _ => exact h16
 | 17, _ => exact h17
 | 18, _ => exact h18
 | 19, _ => exact h19
 | 20, _ => exact h20
 | 21, _ => exact h21
 | 22, _ => exact h22
 | 23, _ => exact h23
 | 24, _ => exact h24
 | 25, _ => exact h25
 | 26, _ => exact h26
 | 27, _ => exact h27
 | 28, _ => exact h28
 | 29, _ => exact h29
 | 30, _ => exact h30
 | 31, _ => exact h31
 | 32, _ => exact h32
 | 33, _ => exact h33
 | 34, _ => exact h34
 | 35, _ => exact h35
 | 36, _ => exact h36
 | 37, _ => exact h37
 | 38, _ => exact h38
 | 39, _ => exact h39
 | 40, _ => exact h40
 | 41, _ => exact h41
 | 42, _ => exact h42
 | 43, _ => exact h43
 | 44, _ => exact h44
 | 45, _ => exact h45
 | 46, _ => exact h46
 | 47, _ => exact h47
 | 48, _ => exact h48
 | 49, _ => exact h49
 | 50, _ => exact h50
 | 51, _ => exact h51
 | 52, _ => exact h52
 | 53, _ => exact h53
 | 54, _ => exact h54
 | 55, _ => exact h55
 | 56, _ => exact h56
 | 57, _ => exact h57
 | 58, _ => exact h58
 | 59, _ => exact h59
 | 60, _ => exact h60
 | 61, _ => exact h61
 | 62, _ => exact h62
 | 63, _ => exact h63
 | x + 64, hx => exact absurd hx (by omega)
theorem ARK {p : Nat -> Prop} (h0 : p 0) (h1 : p 1) (h2 : p 2) (h3 : p 3) (h4 : p 4) (h5 : p 5) (h6 : p 6) (h7 : p 7) (h8 : p 8) (h9 : p 9) (h10 : p 10) (h11 : p 11) (h12 : p 12) (h13 : p 13) (h14 : p 14) (h15 : p 15) (h16 : p 16) (h17 : p 17) (h18 : p 18) (h19 : p 19) (h20 : p 20) (h21 : p 21) (h22 : p 22) (h23 : p 23) (h24 : p 24) (h25 : p 25) (h26 : p 26) (h27 : p 27) (h28 : p 28) (h29 : p 29) (h30 : p 30) (h31 : p 31) (h32 : p 32) (h33 : p 33) (h34 : p 34) (h35 : p 35) (h36 : p 36) (h37 : p 37) (h38 : p 38) (h39 : p 39) (h40 : p 40) (h41 : p 41) (h42 : p 42) (h43 : p 43) (h44 : p 44) (h45 : p 45) (h46 : p 46) (h47 : p 47) (h48 : p 48) (h49 : p 49) (h50 : p 50) (h51 : p 51) (h52 : p 52) (h53 : p 53) (h54 : p 54) (h55 : p 55) (h56 : p 56) (h57 : p 57) (h58 : p 58) (h59 : p 59) (h60 : p 60) (h61 : p 61) (h62 : p 62) (h63 : p 63) (h64 : p 64) (h65 : p 65) (h66 : p 66) (h67 : p 67) (h68 : p 68) (h69 : p 69) (h70 : p 70) (h71 : p 71) (h72 : p 72) (h73 : p 73) (h74 : p 74) (h75 : p 75) (h76 : p 76) (h77 : p 77) (h78 : p 78) (h79 : p 79) (h80 : p 80) (h81 : p 81) (x : Nat) (hx : x < 82) : p x := by
 match x, hx with
 | 0, _ => exact h0
 | 1, _ => exact h1
 | 2, _ => exact h2
 | 3, _ => exact h3
 | 4, _ => exact h4
 | 5, _ => exact h5
 | 6, _ => exact h6
 | 7, _ => exact h7
 | 8, _ => exact h8
 | 9, _ => exact h9
 | 10, _ => exact h10
 | 11, _ => exact h11
 | 12, _ => exact h12
 | 13, _ => exact h13
 | 14, _ => exact h14
 | 15, _ => exact h15
 | 16, _ => exact h16
 | 17, _ => exact h17
 | 18, _ => exact h18
 | 19, _ => exact h19
 | 20, _ => exact h20
 | 21, _ => exact h21
 | 22, _ => exact h22
 | 23, _ => exact h23
 | 24, _ => exact h24
 | 25, _ => exact h25
 | 26, _ => exact h26
 | 27, _ => exact h27
 | 28, _ => exact h28
 | 29, _ => exact h29
 | 30, _ => exact h30
 | 31, _ => exact h31
 | 32, _ => exact h32
 | 33, _ => exact h33
 | 34, _ => exact h34
 | 35, _ => exact h35
 | 36, _ => exact h36
 | 37, _ => exact h37
 | 38, _ => exact h38
 | 39, _ => exact h39
 | 40, _ => exact h40
 | 41, _ => exact h41
 | 42, _ => exact h42
 | 43, _ => exact h43
 | 44, _ => exact h44
 | 45, _ => exact h45
 | 46, _ => exact h46
 | 47, _ => exact h47
 | 48, _ => exact h48
 | 49, _ => exact h49
 | 50, _ => exact h50
 | 51, _ => exact h51
 | 52, _ => exact h52
 | 53, _ => exact h53
 | 54, _ => exact h54
 | 55, _ => exact h55
 | 56, _ => exact h56
 | 57, _ => exact h57
 | 58, _ => exact h58
 | 59, _ => exact h59
 | 60, _ => exact h60
 | 61, _ => exact h61
 | 62, _ => exact h62
 | 63, _ => exact h63
 | 64, _ => exact h64
 | 65, _ => exact h65
 | 66, _ => exact h66
 | 67, _ => exact h67
 | 68, _ => exact h68
 | 69, _ => exact h69
 | 70, _ => exact h70
 | 71, _ => exact h71
 | 72, _ => exact h72
 | 73, _ => exact h73
 | 74, _ => exact h74
 | 75, _ => exact h75
 | 76, _ => exact h76
 | 77, _ => exact h77
 | 78, _ => exact h78
 | 79, _ => exact h79
 | 80, _ => exact h80
 | 81, _ => exact h81
 | x + 82, hx => exact absurd hx (by omega)
end Go.Eng
namespace Go.Eng
@[congr] theorem ANw {o o' : Option V} (f : V -> Prop) (h : o = o') : AU o f = AU o' f := by rw [h]
@[congr] theorem ANz {α : Type} {o o' : Option α} (f : α -> Prop) (h : o = o') : Es o f = Es o' f := by rw [h]
@[congr] theorem ANu {b b' : Bool} (p : Prop) (h : b = b') : Fa b p = Fa b' p := by rw [h]
@[congr] theorem AKq {v v' : V} (b : Bool) (p q : Prop) (h : v = v') : Ac v b p q = Ac v' b p q := by rw [h]
@[congr] theorem AN0 {c c' : V} {b : Bool} {e : Option V} (f : V -> Prop) (h : c = c') : Bq c b e f = Bq c' b e f := by rw [h]
@[congr] theorem AM7 {c c' : V} {b : Bool} {t : KV -> Prop} {H : Heap} {n : Nat} (f : KV) (h : c = c') : Og c b t H n f = Og c' b t H n f := by rw [h]
@[congr] theorem ALf (F : T AF) (G : AP) (f : Nat) {a a' : List V} {H H' : Heap} {n n' : Nat} (k : KV) (h0 : a = a') (h1 : H = H') (h2 : n = n') : Runs F G f a H n k = Runs F G f a' H' n' k := by rw [h0, h1, h2]
theorem BH (v : V) (f : V -> Prop) : AU (some v) f = f v := rfl
theorem WW {α : Type} (v : α) (f : α -> Prop) : Es (some v) f = f v := rfl
theorem aK (p : Prop) : Fa true p = p := rfl
theorem CS (p q : Prop) : Ac (.bool true) true p q = p := rfl
theorem CG (p q : Prop) : Ac (.bool false) true p q = q := rfl
theorem AVE (b : Bool) (p q : Prop) : Ac (.bool b) true p q = if b = true then p else q := by cases b <;> rfl
theorem AKL (e : Option V) (f : V -> Prop) : Bq (.bool true) true e f = AU e f := rfl
theorem APr (e : Option V) (f : V -> Prop) : Bq (.bool false) false e f = AU e f := rfl
theorem AOq (e : Option V) (f : V -> Prop) : Bq (.bool true) false e f = f (.GK []) := rfl
theorem AOr (e : Option V) (f : V -> Prop) : Bq (.bool false) true e f = f (.GK []) := rfl
theorem AR1 (b : Bool) (e : Option V) (f : V -> Prop) : Bq (.GK []) b e f = f (.GK []) := rfl
theorem AQD (t : KV -> Prop) (H : Heap) (n : Nat) (f : KV) : Og (.bool true) true t H n f = t f := rfl
theorem AOk (t : KV -> Prop) (H : Heap) (n : Nat) (f : KV) : Og (.bool false) false t H n f = t f := rfl
theorem AOZ (t : KV -> Prop) (H : Heap) (n : Nat) (f : KV) : Og (.bool true) false t H n f = f (.GK []) H n := rfl
theorem AQQ (t : KV -> Prop) (H : Heap) (n : Nat) (f : KV) : Og (.bool false) true t H n f = f (.GK []) H n := rfl
theorem ASg (b : Bool) (t : KV -> Prop) (H : Heap) (n : Nat) (f : KV) : Og (.GK []) b t H n f = f (.GK []) H n := rfl
theorem APd (b : Bool) : XI (.bool b) = some (.bool (!b)) := by cases b <;> rfl
theorem Y6 (a b : V) : Dc (.bool true) a b = some a := rfl
theorem AJP (a b : V) : Dc (.bool false) a b = some b := rfl
theorem Aj (off id o : Nat) : AX off (.ptr id o) = some (.ptr id (o + off)) := by show CQ (Nat.add o off) _ = _; rw [BJ]; rfl
theorem yO (off id o : Nat) : AX off (.gptr id o) = some (.gptr id (o + off)) := by show CQ (Nat.add o off) _ = _; rw [BJ]; rfl
theorem AJN (id o : Nat) : A8 (.ptr id o) = some (.ptr id o) := rfl
theorem mZ (a : V) (l : List V) : Zd (.GK (a :: l)) 0 = some a := rfl
theorem lK (a b : V) (l : List V) : Zd (.GK (a :: b :: l)) 1 = some b := rfl
theorem AK9 (a b c : V) (l : List V) : Zd (.GK (a :: b :: c :: l)) 2 = some c := rfl
theorem oM (a : V) (G : AP) (H : Heap) : Aa a G H = Ku (lH a G H 1) fun L => nth L 0 := rfl
theorem wS (m : Nat) (a : V) (G : AP) (H : Heap) : Az m a G H = Ku (lH a G H m) fun L => some (.agg L) := rfl
theorem dU (id off : Nat) (G : AP) (H : Heap) (n : Nat) : lH (.ptr id off) G H n = ZI H id off n := rfl
theorem zf (L : LV) (f : LV -> Option V) : Ku (some L) f = f L := rfl
theorem AXg {α : Type} (x : α) (l : List α) : nth (x :: l) 0 = some x := rfl
theorem AVk {α : Type} (x : α) (l : List α) (i : Nat) : nth (x :: l) (i + 1) = nth l i := rfl
noncomputable def one (L : LV) : Np := .arr L.length 1 (T.set .e 0 L)
theorem VP {v : V} {H : Heap} {n : Nat} {P : KV} (h : XF v = true) : CX (JC v) H n P = P (.ptr n 0) (T.set H n (one (BK v))) (n + 1) := by
 show Fa (XF v) (Cj (len (BK v)) fun e => Cj n fun n => P (.ptr n 0) (T.set H n (.arr e 1 (T.set .e 0 (BK v)))) (Nat.succ n)) = _
 rw [BL, BL, len_eq, h]
 rfl
theorem JW {z : Nat} {L : LV} {H : Heap} {n : Nat} {P : KV} (h : L.length = z) : CX (Ai z [L] E0) H n P = P (.ptr n 0) (T.set H n (one L)) (n + 1) := by
 show Cj (len [L]) (fun m => Cj n fun n => P (.ptr n 0) (T.set H n (.arr z m (ED [L] 0 .e))) (Nat.succ n)) = _
 rw [BL, BL, len_eq]
 subst h
 rfl
theorem AGd {H : Heap} {id : Nat} {L : LV} (h : T.get H id = some (one L)) {off m : Nat} (hm : 0 < m) (hl : off + m <= L.length) : ZI H id off m = some ((L.drop off).take m) := by
 unfold ZI
 rw [h]
 show ldB L.length 1 (T.set .e 0 L) off m = _
 unfold ldB
 have hdiv : off / L.length = 0 := Nat.div_eq_of_lt (by omega)
 have hmod : off % L.length = off := Nat.mod_eq_of_lt (by omega)
 have hb : Nat.blt (Nat.div off L.length) 1 = true := by rw [Nat.blt_eq]; show off / L.length < 1; omega
 rw [hb]
 show BG (T.get (T.set T.e 0 L) (Nat.div off L.length)) (ldC L.length off m) = _
 have hg2 : T.get (T.set T.e 0 L) (Nat.div off L.length) = some L := by
  show T.get (T.set T.e 0 L) (off / L.length) = some L
  rw [hdiv]; simp
 rw [hg2]
 show ldC L.length off m L = _
 unfold ldC
 cases hc : band (Nat.beq m L.length) (Nat.beq (Nat.mod off L.length) 0) with
 | true =>
  simp only [BR, Bool.and_eq_true, beq_iff] at hc
  obtain ⟨h1, h2⟩ := hc
  have h2' : off = 0 := by have : off % L.length = 0 := h2; omega
  subst h2'
  simp [h1]
 | false =>
  have hf : Nat.ble (Nat.add (Nat.mod off L.length) m) L.length = true := by
   rw [Nat.ble_eq]; show off % L.length + m <= L.length; omega
  rw [hf]
  show some (TT m (YA (Nat.mod off L.length) L)) = _
  rw [Vr, XZ]
  show some (List.take m (List.drop (off % L.length) L)) = _
  rw [hmod]
theorem AMr {H : Heap} {id : Nat} {L : LV} (h : T.get H id = some (one L)) {off m : Nat} {new : LV} (hm : 0 < m) (hn : new.length = m) (hl : off + m <= L.length) : stH H id off m new = some (T.set H id (one (L.take off ++ (new ++ L.drop (off + m))))) := by
 unfold stH
 rw [h]
 show BG (stB L.length 1 (T.set .e 0 L) off m new) (fun b => some (T.set H id b)) = _
 have hdiv : Nat.div off L.length = 0 := Nat.div_eq_of_lt (by omega)
 have hmod : Nat.mod off L.length = off := Nat.mod_eq_of_lt (by omega)
 have hs : stB L.length 1 (T.set .e 0 L) off m new = some (one (L.take off ++ (new ++ L.drop (off + m)))) := by
  unfold stB
  rw [hdiv]
  show BG (T.get (T.set T.e 0 L) 0) (vO new L.length 1 (T.set .e 0 L) off m) = _
  rw [T.Ap]
  show vO new L.length 1 (T.set .e 0 L) off m L = _
  unfold vO
  rw [hmod, hdiv]
  have hlen : (L.take off ++ (new ++ L.drop (off + m))).length = L.length := by simp; omega
  cases hc : band (Nat.beq m L.length) (Nat.beq off 0) with
  | true =>
   simp only [BR, Bool.and_eq_true, beq_iff] at hc
   obtain ⟨h1, h2⟩ := hc
   subst h2
   show some (Np.arr L.length 1 (T.set (T.set T.e 0 L) 0 new)) = _
   unfold one
   rw [hlen]
   have : List.take 0 L ++ (new ++ List.drop (0 + m) L) = new := by simp [h1]
   rw [this]; rfl
  | false =>
   have hf : Nat.ble (Nat.add off m) L.length = true := by rw [Nat.ble_eq]; exact hl
   rw [hf]
   show some (Np.arr L.length 1 (T.set (T.set T.e 0 L) 0 (ABX new off L))) = _
   unfold one
   rw [hlen, AAV, hn]; rfl
 rw [hs]
 rfl
theorem BO {F : T AF} {G : AP} {f : Nat} {af : AF} {s : SF} (hf : T.get F f = some af) (hs : fV G af s) {args : List V} {H : Heap} {n : Nat} {k : KV} (h : s (Runs F G) args H n k) : Runs F G f args H n k :=
 YK hf (hs _ _ (fun _ _ _ _ _ h => h) (VU F G) _ _ _ _ h)
end Go.Eng
namespace Go.Eng
noncomputable def goN (x : X) (b : Bool) (d : Zf) (o : AN) : pR := fun G _ R H n k => Bq (x.ev R) b (o.ev G R H) fun v => k (ER d v R) H n
noncomputable def goA (x : X) (b : Bool) (d : Zf) (o : AA) : pR := fun _ _ R H n k => Og (x.ev R) b (CX (o.al R) H n) H n fun v H n => k (ER d v R) H n
noncomputable def goE (x : X) (b : Bool) (d : Zf) (o : AE) : pR := fun G call R H n k => Og (x.ev R) b (o.ex G call R H n) H n fun v H n => k (ER d v R) H n
noncomputable def AS8 (x : X) (b : Bool) (d : Zf) (o : AO) : pR := AO.rec (motive := fun _ => pR) (goN x b d) (goA x b d) (goE x b d) o
noncomputable def oAG (o : AA) : XoT := fun _ _ d R H n k => CX (o.al R) H n fun v H n => k (ER d v R) H n
noncomputable def AO.yA (o : AO) : XoT := AO.rec (motive := fun _ => XoT) oN oAG oE o
noncomputable def ASy (d : Zf) (o : AO) : pR := fun G call R H n k => o.yA G call d R H n k
noncomputable def iZ.yA (o : iZ) : pR := iZ.rec (motive := fun _ => pR) (fun d g o => Gd.rec (motive := fun _ => Zf -> AO -> pR) ASy AS8 g d o) o
theorem ADQ (o : iZ) : o.yA = o.ex := by
 obtain ⟨d, g, o⟩ := o
 cases g <;> cases o <;> rfl
noncomputable def ADG (l : List iZ) : pR :=
 List.rec (motive := fun _ => pR) (fun _ _ R H n k => k R H n) (fun o _ g G call R H n k => o.yA G call R H n fun R H n => g G call R H n k) l
theorem AD9 : ∀ l : List iZ, ADG l = BX l
 | [] => rfl
 | o :: l => by
  show (fun G call R H n k => o.yA G call R H n fun R H n => ADG l G call R H n k) = fun G call R H n k => o.ex G call R H n fun R H n => BX l G call R H n k
  rw [AD9 l, ADQ]
noncomputable def AP3 (x : X) (b : Bool) : ReT := fun G R H d o k => AJr (x.ev R) b (o.ev G R H) (Jw (T.DI d R.rg)) k
noncomputable def AN5 (g : Gd) : ReT := Gd.rec (motive := fun _ => ReT) AOy AP3 g
noncomputable def AI.yA (i : AI) : pR := AI.rec (motive := fun _ => pR) (fun o => o.yA) (fun d g o G _ R H n k => AN5 g G R H d o (k R H n)) i
theorem AM8 (i : AI) : i.yA = i.ex := by
 cases i with
 | op o => exact ADQ o
 | re d g o => cases g <;> rfl
noncomputable def rU (l : List AI) : pR :=
 List.rec (motive := fun _ => pR) (fun _ _ R H n k => k R H n) (fun i _ g G call R H n k => i.yA G call R H n fun R H n => g G call R H n k) l
theorem wW : ∀ l : List AI, rU l = AY l
 | [] => rfl
 | o :: l => by
  show (fun G call R H n k => o.yA G call R H n fun R H n => rU l G call R H n k) = fun G call R H n k => o.ex G call R H n fun R H n => AY l G call R H n k
  rw [wW l, AM8]
noncomputable def AF6 (l : List iZ) : M := fun G call _ R H n k _ _ => ADG l G call (.mk [] R) H n fun E H n => k E.rg H n
noncomputable def AHk (l : List AI) : M := fun G call _ R H n k _ _ => rU l G call (.mk [] R) H n fun E H n => k E.rg H n
noncomputable def AC.yA (c : AC) : M := AC.rec (motive := fun _ => M) Bg AF6 AHk AFo ABk uf zH AFa AMo c
theorem gX : ∀ c : AC, c.yA = c.Rx
 | .skip => rfl
 | .ops l => by show AF6 l = AIT l; unfold AF6 AIT; rw [AD9]
 | .reg l => by show AHk l = AIa l; unfold AHk AIa; rw [wW]
 | .seq a b => by show AFo a b a.yA b.yA = AFo a b a.Rx b.Rx; rw [gX a, gX b]
 | .cond x a b => by show ABk x a b a.yA b.yA = ABk x a b a.Rx b.Rx; rw [gX a, gX b]
 | .block i a => by show uf i a a.yA = uf i a a.Rx; rw [gX a]
 | .loop a => by show zH a a.yA = zH a a.Rx; rw [gX a]
 | .exit i => rfl
 | .ret => rfl
inductive An : Type 1 where
 | n
 | s (a b : An)
 | j (S : K) (a b : An)
 | c (a b : An)
 | b (a : An)
 | l (σ : Type) (bd : (σ -> Prop) -> σ -> Prop) (st : FM -> Heap -> Nat -> σ) (a : (σ -> Prop) -> An)
abbrev M2 := AC -> AP -> AQ -> FM -> Heap -> Nat -> K -> KX -> K -> Prop
noncomputable def AC.ABo (c : AC) (f : AC -> AC -> Prop) : Prop := AC.rec (motive := fun _ => Prop) False (fun _ => False) (fun _ => False) (fun a b _ _ => f a b) (fun _ _ _ _ _ => False) (fun _ _ _ => False) (fun _ _ => False) (fun _ => False) False c
noncomputable def AC.ACp (c : AC) (f : X -> AC -> AC -> Prop) : Prop := AC.rec (motive := fun _ => Prop) False (fun _ => False) (fun _ => False) (fun _ _ _ _ => False) (fun x a b _ _ => f x a b) (fun _ _ _ => False) (fun _ _ => False) (fun _ => False) False c
noncomputable def AC.zu (c : AC) (f : Nat -> AC -> Prop) : Prop := AC.rec (motive := fun _ => Prop) False (fun _ => False) (fun _ => False) (fun _ _ _ _ => False) (fun _ _ _ _ _ => False) (fun i a _ => f i a) (fun _ _ => False) (fun _ => False) False c
noncomputable def AC.ACQ (c : AC) (f : AC -> Prop) : Prop := AC.rec (motive := fun _ => Prop) False (fun _ => False) (fun _ => False) (fun _ _ _ _ => False) (fun _ _ _ _ _ => False) (fun _ _ _ => False) (fun a _ => f a) (fun _ => False) False c
noncomputable def An.ex (L : Aw) (an : An) : M2 :=
 An.rec (motive := fun _ => M2)
  (fun c G call R H n k x r => c.yA G call 0 R H n k x r)
  (fun _ _ ga gb c G call R H n k x r => c.ABo fun a b => ga a G call R H n (fun R H n => gb b G call R H n k x r) x r)
  (fun S _ _ ga _ c G call R H n _ x r => c.ABo fun a _ => ga a G call R H n S x r)
  (fun _ _ ga gb c G call R H n k x r => c.ACp fun y a b => Ac (y.ev (.mk [] R)) true (ga a G call R H n k x r) (gb b G call R H n k x r))
  (fun _ ga c G call R H n k x r => c.zu fun i a => ga a G call R H n k (Du i k x) r)
  (fun σ bd st _ _ c _ _ R H n _ _ _ => c.ACQ fun _ => L σ bd (st R H n)) an
abbrev M3 := AC -> AP -> AQ -> K -> KX -> K -> Prop
noncomputable def An.ob (L : Aw) (an : An) : M3 :=
 An.rec (motive := fun _ => M3)
  (fun _ _ _ _ _ _ => True)
  (fun _ b ga gb c G call k x r => c.ABo fun a d => ga a G call (fun R H n => b.ex L d G call R H n k x r) x r /\ gb d G call k x r)
  (fun S _ b ga gb c G call k x r => c.ABo fun a d => ga a G call S x r /\ (∀ R H n, S R H n = b.ex L d G call R H n k x r) /\ gb d G call k x r)
  (fun _ _ ga gb c G call k x r => c.ACp fun _ a b => ga a G call k x r /\ gb b G call k x r)
  (fun _ ga c G call k x r => c.zu fun i a => ga a G call k (Du i k x) r)
  (fun σ bd st a ga c G call _ x r => c.ACQ fun d => ∀ ih : σ -> Prop, (∀ R H n, bd ih (st R H n) = (a ih).ex L d G call R H n (fun R H n => ih (st R H n)) x r) /\ ga ih d G call (fun R H n => ih (st R H n)) x r) an
noncomputable def AC.AHo (c : AC) (f : AC -> AC -> Prop) : Prop := AC.rec (motive := fun _ => Prop) True (fun _ => True) (fun _ => True) (fun a b _ _ => f a b) (fun _ _ _ _ _ => True) (fun _ _ _ => True) (fun _ _ => True) (fun _ => True) True c
noncomputable def AC.AIZ (c : AC) (f : X -> AC -> AC -> Prop) : Prop := AC.rec (motive := fun _ => Prop) True (fun _ => True) (fun _ => True) (fun _ _ _ _ => True) (fun x a b _ _ => f x a b) (fun _ _ _ => True) (fun _ _ => True) (fun _ => True) True c
noncomputable def AC.AGe (c : AC) (f : Nat -> AC -> Prop) : Prop := AC.rec (motive := fun _ => Prop) True (fun _ => True) (fun _ => True) (fun _ _ _ _ => True) (fun _ _ _ _ _ => True) (fun i a _ => f i a) (fun _ _ => True) (fun _ => True) True c
noncomputable def AC.AIW (c : AC) (f : AC -> Prop) : Prop := AC.rec (motive := fun _ => Prop) True (fun _ => True) (fun _ => True) (fun _ _ _ _ => True) (fun _ _ _ _ _ => True) (fun _ _ _ => True) (fun a _ => f a) (fun _ => True) True c
noncomputable def An.obR (L : Aw) (an : An) : M3 :=
 An.rec (motive := fun _ => M3)
  (fun _ _ _ _ _ _ => True)
  (fun _ b ga gb c G call k x r => c.AHo fun a d => ga a G call (fun R H n => b.ex L d G call R H n k x r) x r /\ gb d G call k x r)
  (fun S _ b ga gb c G call k x r => c.AHo fun a d => ga a G call S x r /\ (∀ R H n, S R H n = S R H n) /\ gb d G call k x r)
  (fun _ _ ga gb c G call k x r => c.AIZ fun _ a b => ga a G call k x r /\ gb b G call k x r)
  (fun _ ga c G call k x r => c.AGe fun i a => ga a G call k (Du i k x) r)
  (fun σ bd st a ga c G call _ x r => c.AIW fun d => ∀ ih : σ -> Prop, (∀ R H n, bd ih (st R H n) = bd ih (st R H n)) /\ ga ih d G call (fun R H n => ih (st R H n)) x r) an
theorem An.AMg (L : Aw) (an : An) : ∀ c G call k x r, an.obR L c G call k x r := by
 induction an with
 | n => exact fun _ _ _ _ _ _ => trivial
 | s a b iha ihb => intro c; cases c <;> first | exact fun _ _ _ _ _ => trivial | exact fun G call k x r => ⟨iha _ _ _ _ _ _, ihb _ _ _ _ _ _⟩
 | j S a b iha ihb => intro c; cases c <;> first | exact fun _ _ _ _ _ => trivial | exact fun G call k x r => ⟨iha _ _ _ _ _ _, fun _ _ _ => rfl, ihb _ _ _ _ _ _⟩
 | c a b iha ihb => intro c; cases c <;> first | exact fun _ _ _ _ _ => trivial | exact fun G call k x r => ⟨iha _ _ _ _ _ _, ihb _ _ _ _ _ _⟩
 | b a iha => intro c; cases c <;> first | exact fun _ _ _ _ _ => trivial | exact fun G call k x r => iha _ _ _ _ _ _
 | l σ bd st a iha => intro c; cases c <;> first | exact fun _ _ _ _ _ => trivial | exact fun G call k x r ih => ⟨fun _ _ _ => rfl, iha ih _ _ _ _ _ _⟩
theorem wP {c : AC} {f : AC -> AC -> Prop} (h : c.ABo f) : ∃ a b, c = .seq a b /\ f a b := by
 cases c <;> first | exact ⟨_, _, rfl, h⟩ | exact (show False from h).elim
theorem ACt {c : AC} {f : X -> AC -> AC -> Prop} (h : c.ACp f) : ∃ x a b, c = .cond x a b /\ f x a b := by
 cases c <;> first | exact ⟨_, _, _, rfl, h⟩ | exact (show False from h).elim
theorem ABc {c : AC} {f : Nat -> AC -> Prop} (h : c.zu f) : ∃ i a, c = .block i a /\ f i a := by
 cases c <;> first | exact ⟨_, _, rfl, h⟩ | exact (show False from h).elim
theorem ACX {c : AC} {f : AC -> Prop} (h : c.ACQ f) : ∃ a, c = .loop a /\ f a := by
 cases c <;> first | exact ⟨_, rfl, h⟩ | exact (show False from h).elim
section
variable {G : AP} {call callE : AQ}
theorem AIs {c : AC} {R : FM} {H : Heap} {n : Nat} {k : K} {x : KX} {r : K} (h : c.yA G call 0 R H n k x r) : c.Rx G call 0 R H n k x r := by rwa [gX] at h
theorem gJ (hle : EH call callE) (hd : Bo callE) : ∀ (c : AC) (R : FM) (H : Heap) (n : Nat) (k k' : K) (x x' : KX) (r r' : K), (∀ R H n, k R H n -> k' R H n) -> (∀ i R H n, x i R H n -> x' i R H n) -> (∀ R H n, r R H n -> r' R H n) ->
    c.Rx G call 0 R H n k x r -> c.Rx G callE 0 R H n k' x' r'
  | .skip, R, H, n, k, k', x, x', r, r', hk, hx, hr, h => hk _ _ _ h
  | .ops l, R, H, n, k, k', x, x', r, r', hk, hx, hr, h => AAo hd l _ H n (fun E H n h => hk _ _ _ h) (ACi hd hle G l _ H n _ h)
  | .reg l, R, H, n, k, k', x, x', r, r', hk, hx, hr, h => uT hd l _ H n (fun E H n h => hk _ _ _ h) (rC hd hle G l _ H n _ h)
  | .seq a b, R, H, n, k, k', x, x', r, r', hk, hx, hr, h => gJ hle hd a R H n _ _ x x' r r' (fun R H n h => gJ hle hd b R H n k k' x x' r r' hk hx hr h) hx hr h
  | .cond c a b, R, H, n, k, k', x, x', r, r', hk, hx, hr, h => by
    have h' : Ac (c.ev (.mk [] R)) true (a.Rx G call 0 R H n k x r) (b.Rx G call 0 R H n k x r) := h
    show Ac (c.ev (.mk [] R)) true (a.Rx G callE 0 R H n k' x' r') (b.Rx G callE 0 R H n k' x' r')
    exact iP h' (gJ hle hd a R H n k k' x x' r r' hk hx hr) (gJ hle hd b R H n k k' x x' r r' hk hx hr)
  | .block id a, R, H, n, k, k', x, x', r, r', hk, hx, hr, h => by
    refine gJ hle hd a R H n k k' (Du id k x) (Du id k' x') r r' hk (fun i R H n h => ?_) hr h
    unfold Du at h ⊢
    cases hb : Nat.beq i id with
    | true => rw [hb] at h; exact hk _ _ _ h
    | false => rw [hb] at h; exact hx _ _ _ _ h
  | .loop a, R, H, n, k, k', x, x', r, r', hk, hx, hr, h => by
    intro I hI
    exact h I fun R H n hb => hI R H n (gJ hle hd a R H n I I x x' r r' (fun _ _ _ h => h) hx hr hb)
  | .exit i, R, H, n, k, k', x, x', r, r', hk, hx, hr, h => hx _ _ _ _ h
  | .ret, R, H, n, k, k', x, x', r, r', hk, hx, hr, h => hr _ _ _ h
theorem An.ok {L : Aw} (hL : DU L) (hle : EH call callE) (hd : Bo callE) (an : An) : ∀ (c : AC) (k k' : K) (x x' : KX) (r r' : K), (∀ R H n, k R H n -> k' R H n) -> (∀ i R H n, x i R H n -> x' i R H n) -> (∀ R H n, r R H n -> r' R H n) ->
    an.ob L c G call k x r -> ∀ R H n, an.ex L c G call R H n k x r -> c.Rx G callE 0 R H n k' x' r' := by
  induction an with
  | n => exact fun c k k' x x' r r' hk hx hr _ R H n h => gJ hle hd c R H n k k' x x' r r' hk hx hr (AIs h)
  | s a b iha ihb =>
    intro c k k' x x' r r' hk hx hr ho R H n h
    obtain ⟨c1, c2, rfl, ho⟩ := wP ho
    exact iha c1 _ _ x x' r r' (fun R H n h => ihb c2 k k' x x' r r' hk hx hr ho.2 R H n h) hx hr ho.1 R H n h
  | j S a b iha ihb =>
    intro c k k' x x' r r' hk hx hr ho R H n h
    obtain ⟨c1, c2, rfl, ho⟩ := wP ho
    exact iha c1 S (fun R H n => c2.Rx G callE 0 R H n k' x' r') x x' r r' (fun R H n h => ihb c2 k k' x x' r r' hk hx hr ho.2.2 R H n (ho.2.1 R H n ▸ h)) hx hr ho.1 R H n h
  | c a b iha ihb =>
    intro c k k' x x' r r' hk hx hr ho R H n h
    obtain ⟨y, c1, c2, rfl, ho⟩ := ACt ho
    exact iP (P' := c1.Rx G callE 0 R H n k' x' r') (Q' := c2.Rx G callE 0 R H n k' x' r') h (fun h => iha c1 k k' x x' r r' hk hx hr ho.1 R H n h) (fun h => ihb c2 k k' x x' r r' hk hx hr ho.2 R H n h)
  | b a iha =>
    intro c k k' x x' r r' hk hx hr ho R H n h
    obtain ⟨i, c1, rfl, ho⟩ := ABc ho
    refine iha c1 k k' (Du i k x) (Du i k' x') r r' hk (fun j R H n h => ?_) hr ho R H n h
    unfold Du at h ⊢
    cases hb : Nat.beq j i with
    | true => rw [hb] at h; exact hk _ _ _ h
    | false => rw [hb] at h; exact hx _ _ _ _ h
  | l σ bd st a iha =>
    intro c k k' x x' r r' hk hx hr ho R H n h
    obtain ⟨c1, rfl, ho⟩ := ACX ho
    intro I hI
    have h' : L σ bd (st R H n) := h
    refine hL σ bd (fun s => ∀ R H n, st R H n = s -> I R H n) (fun ih hih s hs R H n e => ?_) _ h' R H n rfl
    subst e
    rw [(ho ih).1] at hs
    exact hI R H n (iha ih c1 (fun R H n => ih (st R H n)) I x x' r r' (fun R H n h => hih _ h R H n rfl) hx hr (ho ih).2 R H n hs)
end
noncomputable def fEx (L : Aw) (an : An) (af : AF) (G : AP) (call : AQ) (args : List V) (H : Heap) (n : Nat) (k : KV) : Prop :=
 AF.rec (motive := fun _ => Prop) (fun np code res d dg => Fa (Nat.beq (len args) np) (an.ex L code G call (WQ args 0 .e) H n (Fh res dg d G call k) noX (Fh res dg d G call k))) af
noncomputable def fOb (L : Aw) (an : An) (af : AF) (G : AP) (call : AQ) (k : KV) : Prop :=
 AF.rec (motive := fun _ => Prop) (fun _ code res d dg => an.ob L code G call (Fh res dg d G call k) noX (Fh res dg d G call k)) af
noncomputable def ARU (L : Aw) (an : An) (af : AF) (G : AP) (call : AQ) (k : KV) : Prop :=
 AF.rec (motive := fun _ => Prop) (fun _ code res d dg => an.obR L code G call (Fh res dg d G call k) noX (Fh res dg d G call k)) af
theorem obs {L : Aw} {an : An} {af : AF} {G : AP} {call : AQ} {k : KV} (h : ARU L an af G call k = fOb L an af G call k) : fOb L an af G call k := by
 rw [<- h]; cases af; exact An.AMg ..
theorem Ya {L : Aw} (hL : DU L) {G : AP} {call callE : AQ} (hle : EH call callE) (hd : Bo callE) {an : An} {af : AF} {args : List V} {H : Heap} {n : Nat} {k : KV} (ho : fOb L an af G call k) (h : fEx L an af G call args H n k) : mO af G callE args H n k := by
 obtain ⟨np, code, res, d, dg⟩ := af
 have h' : Fa (Nat.beq (len args) np) (an.ex L code G call (WQ args 0 .e) H n (Fh res dg d G call k) noX (Fh res dg d G call k)) := h
 show Fa (Nat.beq (len args) np) (code.Rx G callE 0 (WQ args 0 .e) H n (Fh res dg d G callE k) noX (Fh res dg d G callE k))
 rw [EC] at h' ⊢
 exact ⟨h'.1, An.ok hL hle hd an code _ _ _ _ _ _ (fun R H n h => X7 hd hle res dg d G k R H n h) (fun _ _ _ _ h => h) (fun R H n h => X7 hd hle res dg d G k R H n h) ho _ _ _ h'.2⟩
section
variable {L : Aw} (hL : DU L) {G : AP} {af : AF} {an : AQ -> KV -> An} (ho : ∀ call k, fOb L (an call k) af G call k)
include hL ho
theorem sf0 {s : AQ -> Heap -> Nat -> KV -> Prop} (h : ∀ call H n k, s call H n k = fEx L (an call k) af G call [] H n k) : fV G af (ar0 s) := fun call callE hle hd l H n k hs => by
 obtain ⟨rfl, hs⟩ := ADO hs; exact Ya hL hle hd (ho call k) (h .. ▸ hs)
theorem VE {s : AQ -> V -> Heap -> Nat -> KV -> Prop} (h : ∀ call a0 H n k, s call a0 H n k = fEx L (an call k) af G call [a0] H n k) : fV G af (Dz s) := fun call callE hle hd l H n k hs => by
 obtain ⟨a0, rfl, hs⟩ := AEF hs; exact Ya hL hle hd (ho call k) (h .. ▸ hs)
theorem sf2 {s : AQ -> V -> V -> Heap -> Nat -> KV -> Prop} (h : ∀ call a0 a1 H n k, s call a0 a1 H n k = fEx L (an call k) af G call [a0, a1] H n k) : fV G af (UA s) := fun call callE hle hd l H n k hs => by
 obtain ⟨a0, a1, rfl, hs⟩ := ADN hs; exact Ya hL hle hd (ho call k) (h .. ▸ hs)
theorem sf3 {s : AQ -> V -> V -> V -> Heap -> Nat -> KV -> Prop} (h : ∀ call a0 a1 a2 H n k, s call a0 a1 a2 H n k = fEx L (an call k) af G call [a0, a1, a2] H n k) : fV G af (ar3 s) := fun call callE hle hd l H n k hs => by
 obtain ⟨a0, a1, a2, rfl, hs⟩ := ADk hs; exact Ya hL hle hd (ho call k) (h .. ▸ hs)
theorem sf4 {s : AQ -> V -> V -> V -> V -> Heap -> Nat -> KV -> Prop} (h : ∀ call a0 a1 a2 a3 H n k, s call a0 a1 a2 a3 H n k = fEx L (an call k) af G call [a0, a1, a2, a3] H n k) : fV G af (ar4 s) := fun call callE hle hd l H n k hs => by
 obtain ⟨a0, a1, a2, a3, rfl, hs⟩ := AD8 hs; exact Ya hL hle hd (ho call k) (h .. ▸ hs)
theorem sf5 {s : AQ -> V -> V -> V -> V -> V -> Heap -> Nat -> KV -> Prop} (h : ∀ call a0 a1 a2 a3 a4 H n k, s call a0 a1 a2 a3 a4 H n k = fEx L (an call k) af G call [a0, a1, a2, a3, a4] H n k) : fV G af (ar5 s) := fun call callE hle hd l H n k hs => by
 obtain ⟨a0, a1, a2, a3, a4, rfl, hs⟩ := AEC hs; exact Ya hL hle hd (ho call k) (h .. ▸ hs)
theorem sf6 {s : AQ -> V -> V -> V -> V -> V -> V -> Heap -> Nat -> KV -> Prop} (h : ∀ call a0 a1 a2 a3 a4 a5 H n k, s call a0 a1 a2 a3 a4 a5 H n k = fEx L (an call k) af G call [a0, a1, a2, a3, a4, a5] H n k) : fV G af (ar6 s) := fun call callE hle hd l H n k hs => by
 obtain ⟨a0, a1, a2, a3, a4, a5, rfl, hs⟩ := ADS hs; exact Ya hL hle hd (ho call k) (h .. ▸ hs)
theorem sf7 {s : AQ -> V -> V -> V -> V -> V -> V -> V -> Heap -> Nat -> KV -> Prop} (h : ∀ call a0 a1 a2 a3 a4 a5 a6 H n k, s call a0 a1 a2 a3 a4 a5 a6 H n k = fEx L (an call k) af G call [a0, a1, a2, a3, a4, a5, a6] H n k) : fV G af (ar7 s) := fun call callE hle hd l H n k hs => by
 obtain ⟨a0, a1, a2, a3, a4, a5, a6, rfl, hs⟩ := ADj hs; exact Ya hL hle hd (ho call k) (h .. ▸ hs)
theorem sf8 {s : AQ -> V -> V -> V -> V -> V -> V -> V -> V -> Heap -> Nat -> KV -> Prop} (h : ∀ call a0 a1 a2 a3 a4 a5 a6 a7 H n k, s call a0 a1 a2 a3 a4 a5 a6 a7 H n k = fEx L (an call k) af G call [a0, a1, a2, a3, a4, a5, a6, a7] H n k) : fV G af (ar8 s) := fun call callE hle hd l H n k hs => by
 obtain ⟨a0, a1, a2, a3, a4, a5, a6, a7, rfl, hs⟩ := AEA hs; exact Ya hL hle hd (ho call k) (h .. ▸ hs)
end
end Go.Eng
namespace Go.Eng
def inR (l : List (Nat × Nat)) (t : Nat) : Bool := l.any fun p => Nat.ble p.1 t && Nat.ble t p.2
def opp (l : List Nat) : List (Nat × Wk) := l.map fun j => (j, .plain)
def Zg (n : Nat) : List (Nat × Wk) := opp (List.range n)
def Bj (o : Option AF) : AF := o.getD (.mk 0 .skip [] .no 0)
theorem Af {o : Option AF} (h : o.isSome = true) : o = some (Bj o) := by
 cases o with
 | none => cases h
 | some a => rfl
end Go.Eng
namespace Go.Eng
theorem iG.one {P : Program} {F : T AF} {f : Nat} {af : AF} {fn : Func} {loc : Nat -> Bool} {df : Bool} {ords : ACs} {dg : Nat} (hf : P.funcs[f]? = some fn) (hn : (fn.name == "runtime.NumGoroutine") = false)
    (ht : trF P loc df ords dg fn = some af) (hd : af.dg = dg) (hi : AEw af.dp = true) : iG P F f af := ⟨⟨fn, loc, df, ords, hf, hn, hd ▸ ht⟩, .inl hi⟩
theorem iG.two {P : Program} {F : T AF} {f : Nat} {af af' : AF} {fn : Func} {loc : Nat -> Bool} {df : Bool} {ords : ACs} {dg : Nat} (hf : P.funcs[f]? = some fn) (hn : (fn.name == "runtime.NumGoroutine") = false)
    (ht : trF P loc df ords dg fn = some af) (hd : af.dg = dg) (ha : T.get F dg = some af') (hi : AEw af'.dp = true) : iG P F f af := ⟨⟨fn, loc, df, ords, hf, hn, hd ▸ ht⟩, .inr ⟨af', hd ▸ ha, hi⟩⟩
end Go.Eng
namespace Go.Eng
noncomputable def ASa (b : Bool) (v : V) (p q : Prop) : Prop := v = .bool b /\ Bool.rec (motive := fun _ => Prop) q p b
theorem AQh {b : Bool} {v : V} {p q : Prop} (h : ASa b v p q) : Ac v true p q := by
 obtain ⟨rfl, h⟩ := h
 cases b <;> exact h
noncomputable def APc (b : Bool) (e : Option V) (P : V -> Prop) : Prop := e = some (.bool b) /\ P (.bool b)
theorem AI6 {b : Bool} {e : Option V} {P : V -> Prop} (h : APc b e P) : AU e P := by
 obtain ⟨rfl, h⟩ := h; exact h
noncomputable def ATH (c : V) (g b : Bool) (e : Option V) (P : V -> Prop) : Prop := Wq c g (APc b e P) (P (.GK []))
theorem AQg {c : V} {g b : Bool} {e : Option V} {P : V -> Prop} (h : ATH c g b e P) : Bq c g e P := Dw h AI6 (fun h => h)
noncomputable def ASd (i : Nat) (e : Option V) (P : Prop) : Prop := e = some (.int .i64 (.ofNat i) 0) /\ P
theorem AQx {i : Nat} {e : Option V} {P : Prop} (h : ASd i e P) : AU e fun v => v = .int .i64 (.ofNat i) 0 /\ P := by
 obtain ⟨rfl, h⟩ := h; exact ⟨rfl, h⟩
noncomputable def ATA (b : Bool) (s : SF) : SF := fun call args H n k =>
 List.rec (motive := fun _ => Prop) False (fun v l _ => v = .bool b /\ s call (.bool b :: l) H n k) args
theorem AQe {G : AP} {af : AF} {b : Bool} {s : SF} (h : fV G af s) : fV G af (ATA b s) := fun call callE hle hd args H n k hs => by
 cases args with
 | nil => exact (show False from hs).elim
 | cons v l =>
  obtain ⟨rfl, hq⟩ := (show v = .bool b /\ s call (.bool b :: l) H n k from hs)
  exact h _ _ hle hd _ _ _ _ hq
theorem AAl.set {F : T AF} {G : AP} {FS : T SF} (h : AAl F G FS) {f : Nat} {af : AF} (hf : T.get F f = some af) {s : SF} (hs : fV G af s) : AAl F G (T.set FS f s) := fun g s' hg => by
 rw [T.LJ] at hg
 split at hg
 ·rename_i e; subst e; cases hg; exact ⟨af, hf, hs⟩
 ·exact h g s' hg
end Go.Eng
namespace Go.Eng
theorem ATi (x y : Int) : B2.ev .lss (.int .i64 x 0) (.int .i64 y 0) = some (.bool (decide (x < y))) := by
 show mkB (ilt x y) = _
 rw [Z8, Yg]
theorem ATZ (x y : Int) : B2.ev .leq (.int .i64 x 0) (.int .i64 y 0) = some (.bool (decide (x <= y))) := by
 show mkB (ile x y) = _
 rw [Z8, ACD]
theorem eq_i (x y : Int) : Ig (.one .int) false (.int .i64 x 0) (.int .i64 y 0) = some (.bool (x == y)) := by
 show ofB (WL (some (ieq x y)) fun b => some b) = _
 rw [Qg]; cases x == y <;> rfl
theorem APE (x y : Int) : Ig (.one .int) true (.int .i64 x 0) (.int .i64 y 0) = some (.bool (!(x == y))) := by
 show ofB (WL (some (ieq x y)) fun b => some (UL b)) = _
 rw [Qg]; cases x == y <;> rfl
theorem eq_self (x : Int) : Ig (.one .int) false (.int .i64 x 0) (.int .i64 x 0) = some (.bool true) := by rw [eq_i]; simp
theorem AO3 (x : Int) : Ig (.one .int) true (.int .i64 x 0) (.int .i64 x 0) = some (.bool false) := by rw [APE]; simp
theorem wrap64 (a : Int) : IntKind.wrap .i64 a = if 9223372036854775808 <= a % 18446744073709551616 then a % 18446744073709551616 - 18446744073709551616 else a % 18446744073709551616 := by
 show (if (true && decide (a % 18446744073709551616 ≥ 9223372036854775808)) = true then a % 18446744073709551616 - 18446744073709551616 else a % 18446744073709551616) = _
 by_cases h : 9223372036854775808 <= a % 18446744073709551616
 ·rw [if_pos h, if_pos (by simpa using h)]
 ·rw [if_neg h, if_neg (by simpa using h)]
theorem ANc (a : Int) : (IntKind.wrap .i64 a) % 18446744073709551616 = a % 18446744073709551616 := by
 rw [wrap64]; split <;> omega
theorem VG {x : Int} (h1 : -9223372036854775808 <= x) (h2 : x < 9223372036854775808) : IntKind.wrap .i64 x = x := by
 rw [wrap64]; split <;> omega
theorem AH7 {a b : Int} (h : a % 18446744073709551616 = b % 18446744073709551616) : IntKind.wrap .i64 a = IntKind.wrap .i64 b := by
 rw [wrap64, wrap64, h]
theorem ATn {x : Int} (h : (Lit.int .i64 x).wf = true) : -9223372036854775808 <= x /\ x < 9223372036854775808 := by
 have h' : (decide (-9223372036854775808 <= x) && decide (x <= 9223372036854775807)) = true := h
 simp at h'
 omega
theorem ANn {F : T AF} {G : AP} {FS : T SF} (h : AAl F G FS) {f : Nat} {af : AF} (hf : T.get F f = some af) {a : List V} (m : Nat) {t : KV -> Prop} (hs : ∀ callE, EH (AHK FS m) callE -> Bo callE -> t Oj -> mO af G callE a .e 0 Oj) (hr : t Oj) :
    Runs F G f a .e 0 fun v _ _ => v = .bool true :=
  dV (k := Oj) (fun _ _ _ hv => qo hv) (YK hf (hs _ (qW h m) (VU F G) hr))
end Go.Eng
