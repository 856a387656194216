/- Part of a proof: texts En45 En46 En47 En48 En49 En50 En51 En52 En53 of the engine and what is proved with it; nothing is assumed. -/
import Derived.Test.YtcjkfmaoahojeaaDoorEngE
set_option linter.unusedVariables false
set_option linter.unusedSimpArgs false
namespace Go.Eng
noncomputable def P2.beq (p : P2) : P2 -> Bool :=
 P2.rec (motive := fun _ => P2 -> Bool) (fun q => P2.rec (motive := fun _ => Bool) true (fun _ _ => false) (fun _ _ => false) q)
  (fun _ g q => P2.rec (motive := fun _ => Bool) false (fun q _ => g q) (fun _ _ => false) q)
  (fun _ g q => P2.rec (motive := fun _ => Bool) false (fun _ _ => false) (fun q _ => g q) q) p
theorem P2.uP : ∀ p : P2, P2.beq p p = true
 | .h => rfl
 | .z p => P2.uP p
 | .o p => P2.uP p
noncomputable abbrev rg (R : FT) (p : P2) : V := KD (T.DU p R)
theorem sm {R : FT} {p : P2} {v : V} : rg (T.Ik v p R) p = v := by show KD (T.DU p (T.Ik v p R)) = v; rw [T.P8]; rfl
theorem ne {R : FT} {p q : P2} {v a : V} (hb : P2.beq q p = false) (h : rg R p = a) : rg (T.Ik v q R) p = a := by
 show KD (T.DU p (T.Ik v q R)) = a
 rw [T.FZ _ _ _ _ (fun e => by subst e; rw [P2.uP] at hb; cases hb)]
 exact h
abbrev BA := (σ : Type) -> ((σ -> Prop) -> σ -> Prop) -> σ -> Prop
def Dk (L : BA) : Prop := ∀ (σ : Type) (b : (σ -> Prop) -> σ -> Prop) (P : σ -> Prop), (∀ ih, (∀ s, ih s -> P s) -> ∀ s, b ih s -> P s) -> ∀ s, L σ b s -> P s
def lfp : BA := fun σ b s => ∀ I : σ -> Prop, (∀ s, b I s -> I s) -> I s
theorem BX : Dk lfp := fun _ _ P h _ hL => hL P (h P fun _ h => h)
noncomputable def lpF (m : Nat) : BA := fun σ b s => Nat.rec (motive := fun _ => σ -> Prop) (fun _ => False) (fun _ g => b g) m s
theorem AR8 (m : Nat) : Dk (lpF m) := fun σ b P h => by
 induction m with
 | zero => exact fun s hs => (show False from hs).elim
 | succ m ih => exact fun s hs => h _ ih s hs
noncomputable def E0 : RS := .mk [] .e
noncomputable def Dc (c a b : V) : Option V := c.bT fun t => mF t (some a) (some b)
noncomputable def AZ (a : V) (G : AP) (H : Heap) : Option V := Ll (lY a G H 1) fun L => nth L 0
noncomputable def BH (n : Nat) (a : V) (G : AP) (H : Heap) : Option V := Ll (lY a G H n) fun L => some (.agg L)
noncomputable def WR (a : V) : Option V := a.bT fun b => mkB (Ue b)
noncomputable def AF9 (a : V) : Option V := a.FH fun k n s => mkI k (Int.neg n) s
noncomputable def VU (k : IntKind) (a : V) : Option V := a.FH fun _ n s => mkI k n s
noncomputable def AF6 (off : Nat) (a : V) : Option V := a.aQ fun l => nth l off
noncomputable def ANr (off n : Nat) (a : V) : Option V := a.aQ fun l => some (.agg (TG n (YC off l)))
noncomputable def Q7 (n esz : Nat) (a i : V) : Option V := Ro i fun i => Aq (Nat.blt i n) (AX (Nat.mul i esz) a)
noncomputable def G7 (a i : V) : Option V := a.Oq fun ln c => Ro i fun i => Aq (Nat.blt i ln) (CW (AFT c i) fun b => some (.int .u8 (.ofNat b) 0))
noncomputable def AGf (n : Nat) (a i : V) : Option V := a.aQ fun l => Ro i fun i => Aq (Nat.blt i n) (nth l i)
noncomputable def Zj (a : V) (i : Nat) : Option V := a.ABy fun l => nth l i
noncomputable def YT (a : V) : Option V := a.Oq fun n _ => some (.int .i64 (.ofNat n) 0)
noncomputable def APO (a : V) (H : Heap) : Option V := NR H a fun es _ => CW (len es) fun n => some (.int .i64 (.ofNat n) 0)
noncomputable def AHt (c : CK) (ok : Bool) (z m k : V) (H : Heap) : Option V := NR H m fun es _ => BK (dD c k es 0) (AEb ok z)
noncomputable def BR (z : LV) (ps : List (Nat × Nat × X)) : Option V := Aq (Qc ps E0) (some (.agg (Zw ps E0 z)))
noncomputable def o7 (n esz : Nat) (a : V) (lo hi : Option X) : Option V := a.xq (fun id o => Uo hi E0 n fun h => Uo lo E0 0 fun l =>
 Aq (band (Nat.beq (Nat.mod o esz) 0) (band (Nat.ble l h) (Nat.ble h n))) (f3 (Nat.add (Nat.div o esz) l) (Nat.sub h l) (Nat.sub n l) fun a b c => .sl id a b c esz)) (fun _ _ => none)
noncomputable def ASe (x y : V) : Option V := x.FH fun k a s => y.FH fun k' b t => Aq (band (keq k k') (Nat.beq (Nat.add s t) 0)) (some (.int k (Bool.rec a b (ilt a b)) 0))
noncomputable def ATL (x y : V) : Option V := x.FH fun k a s => y.FH fun k' b t => Aq (band (keq k k') (Nat.beq (Nat.add s t) 0)) (some (.int k (Bool.rec a b (ilt b a)) 0))
noncomputable def AFX (a : V) (G : AP) (H : Heap) : Option V := Aq (Ue (isStr a)) (BK (elems a G H 1) fun l => BK (jT l) fun c => f3 (len l) c 0 fun n c _ => .str n c)
noncomputable def ADH (s c : V) : Option V := s.Oq fun n cd => c.FH fun k b _ => Aq (Nat.beq (kno k) 4) (AGP b fun b => Aq (Nat.blt b 256) (JF (Xc b n cd 0) fun i => some (.int .i64 i 0)))
noncomputable def JL (v : V) (k : KA) : Prop := Gn (Xm v) (DK (len (BP v)) fun e => k (.arr e 1 (T.set .e 0 (BP v))) fun id => .ptr id 0)
noncomputable def Bj (sz : Nat) (a b : V) (H : Heap) (n : Nat) (k : KV) : Prop := Gn (band (Xm b) (Nat.beq (len (BP b)) sz)) (FM (stP a H sz (BP b)) fun H => k .undef H n)
noncomputable def Y7 (esz bs : Nat) (a b : V) (G : AP) (H : Heap) (n : Nat) (k : KV) : Prop := FM (elems b G H esz) fun LS => AAr a G esz bs LS H n k
noncomputable def copyV (esz : Nat) (a b : V) (G : AP) (H : Heap) (n : Nat) (k : KV) : Prop := FM (elems b G H esz) fun LS => wO a esz LS H n k
noncomputable def AQT (c : CK) (m key v : V) (H : Heap) (n : Nat) (k : KV) : Prop := qL m H (ACO c key v) fun H => k .undef H n
noncomputable def ATl (c : CK) (m key : V) (H : Heap) (n : Nat) (k : KV) : Prop := qL m H (AIW c key) fun H => k (.Gh []) H n
noncomputable def ATa (m : V) (H : Heap) (n : Nat) (k : KV) : Prop := qL m H (fun _ c => some (.map [] c)) fun H => k (.Gh []) H n
noncomputable def JV (x : V) (args : List V) (call : AQ) (H : Heap) (n : Nat) (k : KV) : Prop := V.Ru x fun f a c => call f (cat a (cat args c)) H n k
noncomputable def mG (d x : V) (args : List V) (H : Heap) (n : Nat) (k : KV) : Prop := V.Ru x fun f a c => k (.Gh (.fn f (cat a args) c :: bW d)) H n
noncomputable def AMu (a : V) (H : Heap) (n : Nat) (k : KV) : Prop := FM (a.Oq fun l c => some (.ptr l c)) fun v => V.kC v fun l c =>
 DK n fun n => k (.Nr n 0 l 1) (T.set H n (.arr 1 l (EP (Pm l c) 0 .e))) (Nat.succ n)
noncomputable def Bg (c : V) (b : Bool) (e : Option V) (P : V -> Prop) : Prop := Xn c b (AU e P) (P (.Gh []))
noncomputable def Cb (al : KA -> Prop) (H : Heap) (n : Nat) (P : KV) : Prop := al fun b f => DK n fun n => P (f n) (T.set H n b) (Nat.succ n)
noncomputable def KO (c : V) (b : Bool) (t : KV -> Prop) (H : Heap) (n : Nat) (P : KV) : Prop := Xn c b (t P) (P (.Gh []) H n)
inductive uF where
 | t (v : V) | c1 (v : V) | cn (v : V) (n : Nat)
noncomputable def uF.get (r : uF) (G : AP) (H : Heap) : Option V := uF.rec (fun v => some v) (fun v => AZ v G H) (fun v n => BH n v G H) r
noncomputable def BQ (l : List uF) (G : AP) (H : Heap) : Option LV :=
 List.rec (motive := fun _ => Option LV) (some []) (fun r _ g => BK (r.get G H) fun v => BK g fun vs => some (v :: vs)) l
section
variable {E : RS} {G : AP} {H : Heap} {n : Nat} {x y z w : X} {a b c d : V}
theorem ATJ (hx : x.ev E = a) (hy : y.ev E = b) (hz : z.ev E = c) : (AN.pick x y z).ev G E H = Dc a b c := by subst hx hy hz; rfl
theorem ATu (hx : x.ev E = a) : (AN.ld1 x).ev G E H = AZ a G H := by subst hx; rfl
theorem AUJ {m : Nat} (hx : x.ev E = a) : (AN.ldn m x).ev G E H = BH m a G H := by subst hx; rfl
theorem ARY (hx : x.ev E = a) : (AN.ADj x).ev G E H = BF a := by subst hx; rfl
theorem AT6 {o : B2} (hx : x.ev E = a) (hy : y.ev E = b) : (AN.bin o x y).ev G E H = o.ev a b := by subst hx hy; rfl
theorem k_eq {k : EK} {t : Bool} (hx : x.ev E = a) (hy : y.ev E = b) : (AN.eq k t x y).ev G E H = Hz k t a b := by subst hx hy; rfl
theorem AUP (hx : x.ev E = a) : (AN.not x).ev G E H = WR a := by subst hx; rfl
theorem AVK (hx : x.ev E = a) : (AN.neg x).ev G E H = AF9 a := by subst hx; rfl
theorem ATr {k : IntKind} (hx : x.ev E = a) : (AN.cvi k x).ev G E H = VU k a := by subst hx; rfl
theorem ARZ {o : Nat} (hx : x.ev E = a) : (AN.AK2 o x).ev G E H = AX o a := by subst hx; rfl
theorem AQM {o : Nat} (hx : x.ev E = a) : (AN.field1 o x).ev G E H = AF6 o a := by subst hx; rfl
theorem AOq {o m : Nat} (hx : x.ev E = a) : (AN.AHx o m x).ev G E H = ANr o m a := by subst hx; rfl
theorem ARS {e : Nat} (hx : x.ev E = a) (hy : y.ev E = b) : (AN.AKz e x y).ev G E H = BI e a b := by subst hx hy; rfl
theorem AOP {m e : Nat} (hx : x.ev E = a) (hy : y.ev E = b) : (AN.AGV m e x y).ev G E H = Q7 m e a b := by subst hx hy; rfl
theorem ASE (hx : x.ev E = a) (hy : y.ev E = b) : (AN.APg x y).ev G E H = G7 a b := by subst hx hy; rfl
theorem ASF {m : Nat} (hx : x.ev E = a) (hy : y.ev E = b) : (AN.AQa m x y).ev G E H = AGf m a b := by subst hx hy; rfl
theorem AVS {i : Nat} (hx : x.ev E = a) : (AN.ext x i).ev G E H = Zj a i := by subst hx; rfl
theorem ASG (hx : x.ev E = a) : (AN.APQ x).ev G E H = YT a := by subst hx; rfl
theorem ASI (hx : x.ev E = a) : (AN.AQG x).ev G E H = lenV a := by subst hx; rfl
theorem AS1 (hx : x.ev E = a) : (AN.ALd x).ev G E H = APO a H := by subst hx; rfl
theorem ASV {k : CK} {t : Bool} {z0 : V} (hx : x.ev E = a) (hy : y.ev E = b) : (AN.look k t z0 x y).ev G E H = AHt k t z0 a b H := by subst hx hy; rfl
noncomputable def psC (ps : List (Nat × Nat × X)) (E : RS) : List (Nat × Nat × X) := ps.map fun p => (p.1, p.2.1, .c (p.2.2.ev E))
theorem ps0 : psC [] E = [] := rfl
theorem psS {i m : Nat} {l l' : List (Nat × Nat × X)} (hx : x.ev E = a) (h : psC l E = l') : psC ((i, m, x) :: l) E = (i, m, .c a) :: l' := by subst hx h; rfl
theorem AFu (l : List (Nat × Nat × X)) : Qc l E = Qc (psC l E) E0 := by
 induction l with
 | nil => rfl
 | cons p l ih => show band (band (Xm (p.2.2.ev E)) (Nat.beq (len (BP (p.2.2.ev E))) p.2.1)) (Qc l E) = band (band (Xm (p.2.2.ev E)) (Nat.beq (len (BP (p.2.2.ev E))) p.2.1)) (Qc (psC l E) E0); rw [ih]
theorem AIl (l : List (Nat × Nat × X)) : ∀ z, Zw l E z = Zw (psC l E) E0 z := by
 induction l with
 | nil => exact fun _ => rfl
 | cons p l ih => exact fun z => ih (ABh (BP (p.2.2.ev E)) p.1 z)
theorem AQ2 {z0 : LV} {ps ps' : List (Nat × Nat × X)} (hp : psC ps E = ps') : (AN.build z0 ps).ev G E H = BR z0 ps' := by
 subst hp
 show Aq (Qc ps E) (some (.agg (Zw ps E z0))) = _
 rw [AFu, AIl]; rfl
noncomputable def oxC (o : Option X) (E : RS) : Option X := o.map fun x => .c (x.ev E)
theorem ox0 : oxC none E = none := rfl
theorem oxS (hx : x.ev E = a) : oxC (some x) E = some (.c a) := by subst hx; rfl
theorem iG (o : Option X) : Uo o E = Uo (oxC o E) E0 := by cases o <;> rfl
theorem ASw {lo hi lo' hi' : Option X} (hx : x.ev E = a) (h1 : oxC lo E = lo') (h2 : oxC hi E = hi') : (AN.ALv x lo hi).ev G E H = Rf a E0 lo' hi' := by
 subst hx h1 h2
 show Rf (x.ev E) E lo hi = _
 unfold Rf; simp only [iG lo, iG hi]
theorem AVh {m : Nat} {lo hi mx lo' hi' mx' : Option X} (hx : x.ev E = a) (h1 : oxC lo E = lo') (h2 : oxC hi E = hi') (h3 : oxC mx E = mx') : (AN.slc m x lo hi mx).ev G E H = zM m a E0 lo' hi' mx' := by
 subst hx h1 h2 h3
 show zM m (x.ev E) E lo hi mx = _
 unfold zM mg xY iU nC jf lN
 simp only [iG lo, iG hi, iG mx]
 cases mx <;> rfl
theorem ASW {m e : Nat} {lo hi lo' hi' : Option X} (hx : x.ev E = a) (h1 : oxC lo E = lo') (h2 : oxC hi E = hi') : (AN.AOh m e x lo hi).ev G E H = o7 m e a lo' hi' := by
 subst hx h1 h2
 show xK m e x lo hi G E H = _
 unfold xK o7; simp only [iG lo, iG hi]
theorem ASp (hx : x.ev E = a) (hy : y.ev E = b) : (AN.AQE x y).ev G E H = ASe a b := by subst hx hy; rfl
theorem ATR (hx : x.ev E = a) (hy : y.ev E = b) : (AN.AOc x y).ev G E H = ATL a b := by subst hx hy; rfl
theorem AVW (hx : x.ev E = a) : (AN.cvS x).ev G E H = AFX a G H := by subst hx; rfl
theorem ATg (hx : x.ev E = a) (hy : y.ev E = b) : (AN.zD x y).ev G E H = AEX a b := by subst hx hy; rfl
theorem AOH (hx : x.ev E = a) (hy : y.ev E = b) : (AN.ADd x y).ev G E H = ADH a b := by subst hx hy; rfl
theorem xs0 : Q8 [] E = [] := rfl
theorem xsS {l : List X} {l' : List V} (hx : x.ev E = a) (h : Q8 l E = l') : Q8 (x :: l) E = a :: l' := by subst hx h; rfl
theorem AS9 {f : Nat} {l m : List X} {l' m' : List V} (h : Q8 l E = l') (h' : Q8 m E = m') : (AN.APf f l m).ev G E H = some (.fn f l' m') := by subst h h'; rfl
theorem AXw (hx : x.ev E = a) : (AN.mv x).ev G E H = some a := by subst hx; rfl
theorem ASk {m : Nat} : (AN.AQL m).ev G E H = some (.int .i64 (.ofNat m) 0) := rfl
theorem ARN {e : Nat} {es : D5} : (AA.alloc e es).al E = Ai e es E0 := rfl
theorem AVi (hx : x.ev E = a) : (AA.box x).al E = JL a := by subst hx; rfl
noncomputable def pbC (ps : List (Nat × X)) (E : RS) : List (Nat × X) := ps.map fun p => (p.1, .c (p.2.ev E))
theorem pb0 : pbC [] E = [] := rfl
theorem pbS {i : Nat} {l l' : List (Nat × X)} (hx : x.ev E = a) (h : pbC l E = l') : pbC ((i, x) :: l) E = (i, .c a) :: l' := by subst hx h; rfl
theorem AFV (l : List (Nat × X)) (e m : Nat) : Oc l E e m = Oc (pbC l E) E0 e m := by
 induction l with
 | nil => rfl
 | cons p l ih => show band (band (Xm (p.2.ev E)) (band (Nat.blt p.1 m) (Nat.beq (len (BP (p.2.ev E))) e))) (Oc l E e m) = band (band (Xm (p.2.ev E)) (band (Nat.blt p.1 m) (Nat.beq (len (BP (p.2.ev E))) e))) (Oc (pbC l E) E0 e m); rw [ih]
theorem AHb (l : List (Nat × X)) : ∀ t, WG l E t = WG (pbC l E) E0 t := by
 induction l with
 | nil => exact fun _ => rfl
 | cons p l ih => exact fun t => ih (T.set t p.1 (BP (p.2.ev E)))
theorem AP5 {e m : Nat} {z0 : LV} {ps ps' : List (Nat × X)} (hp : pbC ps E = ps') : (AA.sJ e m z0 ps).al E = Ah e m z0 ps' E0 := by
 subst hp
 show Ah e m z0 ps E = _
 funext k
 unfold Ah; rw [AFV, AHb]
theorem AN1 {e m : Nat} {z0 : LV} (hx : x.ev E = a) (hy : y.ev E = b) : (AA.jU e m z0 x y).al E = OA e m z0 (.c a) (.c b) E0 := by subst hx hy; rfl
theorem ARU : AA.AEB.al E = ACq E0 := rfl
variable {call : AQ}
theorem AWE {m : Nat} (hx : x.ev E = a) (hy : y.ev E = b) : (AE.st m x y).ex G call E H n = Bj m a b H n := by subst hx hy; rfl
theorem AVn {e m : Nat} (hx : x.ev E = a) (hy : y.ev E = b) : (AE.app e m x y).ex G call E H n = Y7 e m a b G H n := by subst hx hy; rfl
theorem AS0 {e : Nat} (hx : x.ev E = a) (hy : y.ev E = b) : (AE.copy e x y).ex G call E H n = copyV e a b G H n := by subst hx hy; rfl
theorem AQR {k : CK} (hx : x.ev E = a) (hy : y.ev E = b) (hz : z.ev E = c) : (AE.zA k x y z).ex G call E H n = AQT k a b c H n := by subst hx hy hz; rfl
theorem AT0 {k : CK} (hx : x.ev E = a) (hy : y.ev E = b) : (AE.del k x y).ex G call E H n = ATl k a b H n := by subst hx hy; rfl
theorem ASC (hx : x.ev E = a) : (AE.AMO x).ex G call E H n = ATa a H n := by subst hx; rfl
theorem ARz {f : Nat} {l : List X} {l' : List V} (h : Q8 l E = l') : (AE.call f l).ex G call E H n = call f l' H n := by subst h; rfl
theorem AQ8 {l : List X} {l' : List V} (hx : x.ev E = a) (h : Q8 l E = l') : (AE.ABL x l).ex G call E H n = JV a l' call H n := by subst hx h; rfl
theorem AUc (hx : x.ev E = a) : (AE.cvB x).ex G call E H n = AMu a H n := by subst hx; rfl
end
section
variable {L : List V} {R : FT} {G : AP} {call : AQ} {H : Heap} {n : Nat} {a b : V}
theorem AQu {x : X} {l : List X} {l' : List V} {dp : P2} (hd : rg R dp = b) (hx : x.ev (.mk L R) = a) (h : Q8 l (.mk L R) = l') : (AE.defer dp x l).ex G call (.mk L R) H n = mG b a l' H n := by subst hd hx h; rfl
end
end Go.Eng
namespace Go.Eng
noncomputable def Vd (c : V) (b : Bool) (e : Option V) (a : V) (P : Prop) : Prop := Xn c b (AU e fun v => Gn (Ci v a) P) P
theorem xr {L : List V} {R : FT} {p : P2} {a : V} (h : rg R p = a) : (X.r p).ev (.mk L R) = a := h
def kR (k : K) : KE := fun E H n => k E.rg H n
theorem Jz {e : Option V} {P Q : V -> Prop} (h : AU e P) (hk : ∀ v, P v -> Q v) : AU e Q := by
 cases e with
 | none => exact h
 | some v => exact hk v h
theorem EF {v : V} {b : Bool} {P Q P' Q' : Prop} (h : Xn v b P Q) (hp : P -> P') (hq : Q -> Q') : Xn v b P' Q' := by
 rw [QY] at h ⊢
 obtain ⟨t, ht, h⟩ := h
 refine ⟨t, ht, ?_⟩
 split
 ·rename_i e; rw [if_pos e] at h; exact hp h
 ·rename_i e; rw [if_neg e] at h; exact hq h
theorem jH {v : V} {b : Bool} {P Q P' Q' : Prop} (h : Ac v b P Q) (hp : P -> P') (hq : Q -> Q') : Ac v b P' Q' := by
 rw [SE] at h ⊢
 obtain ⟨t, ht, h⟩ := h
 refine ⟨t, ht, ?_⟩
 split
 ·rename_i e; rw [if_pos e] at h; exact hp h
 ·rename_i e; rw [if_neg e] at h; exact hq h
theorem MP {o : AA} {E : RS} {H : Heap} {n : Nat} {P Q : KV} (h : Cb (o.al E) H n P) (hk : ∀ v H n, P v H n -> Q v H n) : Cb (o.al E) H n Q :=
 TY.mono (AGF o E) (k := fun s => DK n fun n => P (s.2 n) (T.set H n s.1) (Nat.succ n)) (k' := fun s => DK n fun n => Q (s.2 n) (T.set H n s.1) (Nat.succ n))
  (fun s hs => by rw [BO] at hs ⊢; exact hk _ _ _ hs) h
section
variable {G : AP} {call callE : AQ}
theorem PW (hle : ET call callE) (hd : CQ callE) {o : AE} {E : RS} {H : Heap} {n : Nat} {P Q : KV} (h : o.ex G call E H n P) (hk : ∀ v H n, P v H n -> Q v H n) : o.ex G callE E H n Q :=
 TY.mono (ACr hd o G E H n) (k := fun s => P s.1 s.2.1 s.2.2) (k' := fun s => Q s.1 s.2.1 s.2.2) (fun s hs => hk _ _ _ hs) (AKx hle o G E H n _ h)
section
variable {L : List V} {R : FT} {H : Heap} {n : Nat} {l : List iY} {k : KE} {p : P2} {x : X} {b : Bool} {c a : V}
theorem AWo {o : AN} {e : Option V} {P : V -> Prop} (h : AU e P) (he : o.ev G (.mk L R) H = e) (hk : ∀ v, P v -> Bd l G callE (.mk (v :: L) R) H n k) : Bd (.mk .ps .no (.n o) :: l) G callE (.mk L R) H n k := by
 subst he; exact Jz h hk
theorem AXB {o : AN} (he : o.ev G (.mk L R) H = some a) (hk : Bd l G callE (.mk ((a) :: L) R) H n k) : Bd (.mk .ps .no (.n o) :: l) G callE (.mk L R) H n k := by
 show AU (o.ev G (.mk L R) H) _; rw [he]; exact hk
theorem AT5 {o : AN} {e : Option V} {P : V -> Prop} (h : Bg c b e P) (hc : x.ev (.mk L R) = c) (he : o.ev G (.mk L R) H = e) (hk : ∀ v, P v -> Bd l G callE (.mk (v :: L) R) H n k) : Bd (.mk .ps (.on x b) (.n o) :: l) G callE (.mk L R) H n k := by
 subst hc he; exact EF h (fun h => Jz h hk) (hk _)
theorem AYC {o : AA} {al : KA -> Prop} {P : KV} (h : Cb al H n P) (he : o.al (.mk L R) = al) (hk : ∀ v H n, P v H n -> Bd l G callE (.mk (v :: L) R) H n k) : Bd (.mk .ps .no (.a o) :: l) G callE (.mk L R) H n k := by
 subst he; exact MP (Q := fun v H n => Bd l G callE (.mk (v :: L) R) H n k) h hk
theorem AVu {o : AA} {al : KA -> Prop} {P : KV} (h : KO c b (Cb al H n) H n P) (hc : x.ev (.mk L R) = c) (he : o.al (.mk L R) = al) (hk : ∀ v H n, P v H n -> Bd l G callE (.mk (v :: L) R) H n k) : Bd (.mk .ps (.on x b) (.a o) :: l) G callE (.mk L R) H n k := by
 subst hc he; exact EF h (fun h => MP (Q := fun v H n => Bd l G callE (.mk (v :: L) R) H n k) h hk) (hk _ _ _)
theorem AXm (hle : ET call callE) (hd : CQ callE) {o : AE} {t : KV -> Prop} {P : KV} (h : t P) (he : o.ex G call (.mk L R) H n = t) (hk : ∀ v H n, P v H n -> Bd l G callE (.mk (v :: L) R) H n k) : Bd (.mk .ps .no (.e o) :: l) G callE (.mk L R) H n k := by
 subst he; exact PW hle hd (Q := fun v H n => Bd l G callE (.mk (v :: L) R) H n k) h hk
theorem AUu (hle : ET call callE) (hd : CQ callE) {o : AE} {t : KV -> Prop} {P : KV} (h : KO c b t H n P) (hc : x.ev (.mk L R) = c) (he : o.ex G call (.mk L R) H n = t) (hk : ∀ v H n, P v H n -> Bd l G callE (.mk (v :: L) R) H n k) : Bd (.mk .ps (.on x b) (.e o) :: l) G callE (.mk L R) H n k := by
 subst hc he; exact EF h (fun h => PW hle hd (Q := fun v H n => Bd l G callE (.mk (v :: L) R) H n k) h hk) (hk _ _ _)
theorem AXW {x : X} (hx : x.ev (.mk L R) = a) (hk : Bd l G callE (.mk ((a) :: L) R) H n k) : Bd (.mk .ps .no (.e (.asg x)) :: l) G callE (.mk L R) H n k := by
 subst hx; exact hk
theorem AWF {o : AN} {e : Option V} {P : V -> Prop} (h : AU e P) (he : o.ev G (.mk L R) H = e) (hk : ∀ v, P v -> Bd l G callE (.mk L (T.Ik v p R)) H n k) : Bd (.mk (.to p) .no (.n o) :: l) G callE (.mk L R) H n k := by
 subst he; exact Jz h hk
theorem AWr {o : AN} (he : o.ev G (.mk L R) H = some a) (hk : Bd l G callE (.mk L (T.Ik a p R)) H n k) : Bd (.mk (.to p) .no (.n o) :: l) G callE (.mk L R) H n k := by
 show AU (o.ev G (.mk L R) H) _; rw [he]; exact hk
theorem AVX {o : AN} {e : Option V} {P : V -> Prop} (h : Bg c b e P) (hc : x.ev (.mk L R) = c) (he : o.ev G (.mk L R) H = e) (hk : ∀ v, P v -> Bd l G callE (.mk L (T.Ik v p R)) H n k) : Bd (.mk (.to p) (.on x b) (.n o) :: l) G callE (.mk L R) H n k := by
 subst hc he; exact EF h (fun h => Jz h hk) (hk _)
theorem AWU {o : AA} {al : KA -> Prop} {P : KV} (h : Cb al H n P) (he : o.al (.mk L R) = al) (hk : ∀ v H n, P v H n -> Bd l G callE (.mk L (T.Ik v p R)) H n k) : Bd (.mk (.to p) .no (.a o) :: l) G callE (.mk L R) H n k := by
 subst he; exact MP (Q := fun v H n => Bd l G callE (.mk L (T.Ik v p R)) H n k) h hk
theorem AVw {o : AA} {al : KA -> Prop} {P : KV} (h : KO c b (Cb al H n) H n P) (hc : x.ev (.mk L R) = c) (he : o.al (.mk L R) = al) (hk : ∀ v H n, P v H n -> Bd l G callE (.mk L (T.Ik v p R)) H n k) : Bd (.mk (.to p) (.on x b) (.a o) :: l) G callE (.mk L R) H n k := by
 subst hc he; exact EF h (fun h => MP (Q := fun v H n => Bd l G callE (.mk L (T.Ik v p R)) H n k) h hk) (hk _ _ _)
theorem AXi (hle : ET call callE) (hd : CQ callE) {o : AE} {t : KV -> Prop} {P : KV} (h : t P) (he : o.ex G call (.mk L R) H n = t) (hk : ∀ v H n, P v H n -> Bd l G callE (.mk L (T.Ik v p R)) H n k) : Bd (.mk (.to p) .no (.e o) :: l) G callE (.mk L R) H n k := by
 subst he; exact PW hle hd (Q := fun v H n => Bd l G callE (.mk L (T.Ik v p R)) H n k) h hk
theorem AVx (hle : ET call callE) (hd : CQ callE) {o : AE} {t : KV -> Prop} {P : KV} (h : KO c b t H n P) (hc : x.ev (.mk L R) = c) (he : o.ex G call (.mk L R) H n = t) (hk : ∀ v H n, P v H n -> Bd l G callE (.mk L (T.Ik v p R)) H n k) : Bd (.mk (.to p) (.on x b) (.e o) :: l) G callE (.mk L R) H n k := by
 subst hc he; exact EF h (fun h => PW hle hd (Q := fun v H n => Bd l G callE (.mk L (T.Ik v p R)) H n k) h hk) (hk _ _ _)
theorem AV6 {x : X} (hx : x.ev (.mk L R) = a) (hk : Bd l G callE (.mk L (T.Ik a p R)) H n k) : Bd (.mk (.to p) .no (.e (.asg x)) :: l) G callE (.mk L R) H n k := by
 subst hx; exact hk
theorem AXn {o : AN} {e : Option V} {P : V -> Prop} (h : AU e P) (he : o.ev G (.mk L R) H = e) (hk : ∀ v, P v -> Bd l G callE (.mk L R) H n k) : Bd (.mk .no .no (.n o) :: l) G callE (.mk L R) H n k := by
 subst he; exact Jz h hk
theorem AXN {o : AN} (he : o.ev G (.mk L R) H = some a) (hk : Bd l G callE (.mk L R) H n k) : Bd (.mk .no .no (.n o) :: l) G callE (.mk L R) H n k := by
 show AU (o.ev G (.mk L R) H) _; rw [he]; exact hk
theorem AUq {o : AN} {e : Option V} {P : V -> Prop} (h : Bg c b e P) (hc : x.ev (.mk L R) = c) (he : o.ev G (.mk L R) H = e) (hk : ∀ v, P v -> Bd l G callE (.mk L R) H n k) : Bd (.mk .no (.on x b) (.n o) :: l) G callE (.mk L R) H n k := by
 subst hc he; exact EF h (fun h => Jz h hk) (hk _)
theorem AWH {o : AA} {al : KA -> Prop} {P : KV} (h : Cb al H n P) (he : o.al (.mk L R) = al) (hk : ∀ v H n, P v H n -> Bd l G callE (.mk L R) H n k) : Bd (.mk .no .no (.a o) :: l) G callE (.mk L R) H n k := by
 subst he; exact MP (Q := fun v H n => Bd l G callE (.mk L R) H n k) h hk
theorem AUW {o : AA} {al : KA -> Prop} {P : KV} (h : KO c b (Cb al H n) H n P) (hc : x.ev (.mk L R) = c) (he : o.al (.mk L R) = al) (hk : ∀ v H n, P v H n -> Bd l G callE (.mk L R) H n k) : Bd (.mk .no (.on x b) (.a o) :: l) G callE (.mk L R) H n k := by
 subst hc he; exact EF h (fun h => MP (Q := fun v H n => Bd l G callE (.mk L R) H n k) h hk) (hk _ _ _)
theorem AWX (hle : ET call callE) (hd : CQ callE) {o : AE} {t : KV -> Prop} {P : KV} (h : t P) (he : o.ex G call (.mk L R) H n = t) (hk : ∀ v H n, P v H n -> Bd l G callE (.mk L R) H n k) : Bd (.mk .no .no (.e o) :: l) G callE (.mk L R) H n k := by
 subst he; exact PW hle hd (Q := fun v H n => Bd l G callE (.mk L R) H n k) h hk
theorem AVZ (hle : ET call callE) (hd : CQ callE) {o : AE} {t : KV -> Prop} {P : KV} (h : KO c b t H n P) (hc : x.ev (.mk L R) = c) (he : o.ex G call (.mk L R) H n = t) (hk : ∀ v H n, P v H n -> Bd l G callE (.mk L R) H n k) : Bd (.mk .no (.on x b) (.e o) :: l) G callE (.mk L R) H n k := by
 subst hc he; exact EF h (fun h => PW hle hd (Q := fun v H n => Bd l G callE (.mk L R) H n k) h hk) (hk _ _ _)
theorem AWe {x : X} (hx : x.ev (.mk L R) = a) (hk : Bd l G callE (.mk L R) H n k) : Bd (.mk .no .no (.e (.asg x)) :: l) G callE (.mk L R) H n k := by
 subst hx; exact hk
theorem o0 {K : K} (h : K R H n) : Bd [] G callE (.mk L R) H n (kR K) := h
end
section
variable {L : List V} {R : FT} {H : Heap} {n : Nat} {l : List AI} {k : KE} {p : P2} {x : X} {b : Bool} {c a : V}
theorem AXZ {o : AN} {e : Option V} {P : V -> Prop} (h : AU e P) (he : o.ev G (.mk L R) H = e) (hk : ∀ v, P v -> AY l G callE (.mk (v :: L) R) H n k) : AY (.op (.mk .ps .no (.n o)) :: l) G callE (.mk L R) H n k := by
 subst he; exact Jz h hk
theorem AV8 {o : AN} (he : o.ev G (.mk L R) H = some a) (hk : AY l G callE (.mk ((a) :: L) R) H n k) : AY (.op (.mk .ps .no (.n o)) :: l) G callE (.mk L R) H n k := by
 show AU (o.ev G (.mk L R) H) _; rw [he]; exact hk
theorem AU6 {o : AN} {e : Option V} {P : V -> Prop} (h : Bg c b e P) (hc : x.ev (.mk L R) = c) (he : o.ev G (.mk L R) H = e) (hk : ∀ v, P v -> AY l G callE (.mk (v :: L) R) H n k) : AY (.op (.mk .ps (.on x b) (.n o)) :: l) G callE (.mk L R) H n k := by
 subst hc he; exact EF h (fun h => Jz h hk) (hk _)
theorem AWd {o : AA} {al : KA -> Prop} {P : KV} (h : Cb al H n P) (he : o.al (.mk L R) = al) (hk : ∀ v H n, P v H n -> AY l G callE (.mk (v :: L) R) H n k) : AY (.op (.mk .ps .no (.a o)) :: l) G callE (.mk L R) H n k := by
 subst he; exact MP (Q := fun v H n => AY l G callE (.mk (v :: L) R) H n k) h hk
theorem AVH {o : AA} {al : KA -> Prop} {P : KV} (h : KO c b (Cb al H n) H n P) (hc : x.ev (.mk L R) = c) (he : o.al (.mk L R) = al) (hk : ∀ v H n, P v H n -> AY l G callE (.mk (v :: L) R) H n k) : AY (.op (.mk .ps (.on x b) (.a o)) :: l) G callE (.mk L R) H n k := by
 subst hc he; exact EF h (fun h => MP (Q := fun v H n => AY l G callE (.mk (v :: L) R) H n k) h hk) (hk _ _ _)
theorem AWW (hle : ET call callE) (hd : CQ callE) {o : AE} {t : KV -> Prop} {P : KV} (h : t P) (he : o.ex G call (.mk L R) H n = t) (hk : ∀ v H n, P v H n -> AY l G callE (.mk (v :: L) R) H n k) : AY (.op (.mk .ps .no (.e o)) :: l) G callE (.mk L R) H n k := by
 subst he; exact PW hle hd (Q := fun v H n => AY l G callE (.mk (v :: L) R) H n k) h hk
theorem AUR (hle : ET call callE) (hd : CQ callE) {o : AE} {t : KV -> Prop} {P : KV} (h : KO c b t H n P) (hc : x.ev (.mk L R) = c) (he : o.ex G call (.mk L R) H n = t) (hk : ∀ v H n, P v H n -> AY l G callE (.mk (v :: L) R) H n k) : AY (.op (.mk .ps (.on x b) (.e o)) :: l) G callE (.mk L R) H n k := by
 subst hc he; exact EF h (fun h => PW hle hd (Q := fun v H n => AY l G callE (.mk (v :: L) R) H n k) h hk) (hk _ _ _)
theorem AWw {x : X} (hx : x.ev (.mk L R) = a) (hk : AY l G callE (.mk ((a) :: L) R) H n k) : AY (.op (.mk .ps .no (.e (.asg x))) :: l) G callE (.mk L R) H n k := by
 subst hx; exact hk
theorem AWz {o : AN} {e : Option V} {P : V -> Prop} (h : AU e P) (he : o.ev G (.mk L R) H = e) (hk : ∀ v, P v -> AY l G callE (.mk L (T.Ik v p R)) H n k) : AY (.op (.mk (.to p) .no (.n o)) :: l) G callE (.mk L R) H n k := by
 subst he; exact Jz h hk
theorem AWy {o : AN} (he : o.ev G (.mk L R) H = some a) (hk : AY l G callE (.mk L (T.Ik a p R)) H n k) : AY (.op (.mk (.to p) .no (.n o)) :: l) G callE (.mk L R) H n k := by
 show AU (o.ev G (.mk L R) H) _; rw [he]; exact hk
theorem AVQ {o : AN} {e : Option V} {P : V -> Prop} (h : Bg c b e P) (hc : x.ev (.mk L R) = c) (he : o.ev G (.mk L R) H = e) (hk : ∀ v, P v -> AY l G callE (.mk L (T.Ik v p R)) H n k) : AY (.op (.mk (.to p) (.on x b) (.n o)) :: l) G callE (.mk L R) H n k := by
 subst hc he; exact EF h (fun h => Jz h hk) (hk _)
theorem AXu {o : AA} {al : KA -> Prop} {P : KV} (h : Cb al H n P) (he : o.al (.mk L R) = al) (hk : ∀ v H n, P v H n -> AY l G callE (.mk L (T.Ik v p R)) H n k) : AY (.op (.mk (.to p) .no (.a o)) :: l) G callE (.mk L R) H n k := by
 subst he; exact MP (Q := fun v H n => AY l G callE (.mk L (T.Ik v p R)) H n k) h hk
theorem AVE {o : AA} {al : KA -> Prop} {P : KV} (h : KO c b (Cb al H n) H n P) (hc : x.ev (.mk L R) = c) (he : o.al (.mk L R) = al) (hk : ∀ v H n, P v H n -> AY l G callE (.mk L (T.Ik v p R)) H n k) : AY (.op (.mk (.to p) (.on x b) (.a o)) :: l) G callE (.mk L R) H n k := by
 subst hc he; exact EF h (fun h => MP (Q := fun v H n => AY l G callE (.mk L (T.Ik v p R)) H n k) h hk) (hk _ _ _)
theorem AWq (hle : ET call callE) (hd : CQ callE) {o : AE} {t : KV -> Prop} {P : KV} (h : t P) (he : o.ex G call (.mk L R) H n = t) (hk : ∀ v H n, P v H n -> AY l G callE (.mk L (T.Ik v p R)) H n k) : AY (.op (.mk (.to p) .no (.e o)) :: l) G callE (.mk L R) H n k := by
 subst he; exact PW hle hd (Q := fun v H n => AY l G callE (.mk L (T.Ik v p R)) H n k) h hk
theorem AVq (hle : ET call callE) (hd : CQ callE) {o : AE} {t : KV -> Prop} {P : KV} (h : KO c b t H n P) (hc : x.ev (.mk L R) = c) (he : o.ex G call (.mk L R) H n = t) (hk : ∀ v H n, P v H n -> AY l G callE (.mk L (T.Ik v p R)) H n k) : AY (.op (.mk (.to p) (.on x b) (.e o)) :: l) G callE (.mk L R) H n k := by
 subst hc he; exact EF h (fun h => PW hle hd (Q := fun v H n => AY l G callE (.mk L (T.Ik v p R)) H n k) h hk) (hk _ _ _)
theorem AX6 {x : X} (hx : x.ev (.mk L R) = a) (hk : AY l G callE (.mk L (T.Ik a p R)) H n k) : AY (.op (.mk (.to p) .no (.e (.asg x))) :: l) G callE (.mk L R) H n k := by
 subst hx; exact hk
theorem AV7 {o : AN} {e : Option V} {P : V -> Prop} (h : AU e P) (he : o.ev G (.mk L R) H = e) (hk : ∀ v, P v -> AY l G callE (.mk L R) H n k) : AY (.op (.mk .no .no (.n o)) :: l) G callE (.mk L R) H n k := by
 subst he; exact Jz h hk
theorem AWa {o : AN} (he : o.ev G (.mk L R) H = some a) (hk : AY l G callE (.mk L R) H n k) : AY (.op (.mk .no .no (.n o)) :: l) G callE (.mk L R) H n k := by
 show AU (o.ev G (.mk L R) H) _; rw [he]; exact hk
theorem AVo {o : AN} {e : Option V} {P : V -> Prop} (h : Bg c b e P) (hc : x.ev (.mk L R) = c) (he : o.ev G (.mk L R) H = e) (hk : ∀ v, P v -> AY l G callE (.mk L R) H n k) : AY (.op (.mk .no (.on x b) (.n o)) :: l) G callE (.mk L R) H n k := by
 subst hc he; exact EF h (fun h => Jz h hk) (hk _)
theorem AXl {o : AA} {al : KA -> Prop} {P : KV} (h : Cb al H n P) (he : o.al (.mk L R) = al) (hk : ∀ v H n, P v H n -> AY l G callE (.mk L R) H n k) : AY (.op (.mk .no .no (.a o)) :: l) G callE (.mk L R) H n k := by
 subst he; exact MP (Q := fun v H n => AY l G callE (.mk L R) H n k) h hk
theorem AUy {o : AA} {al : KA -> Prop} {P : KV} (h : KO c b (Cb al H n) H n P) (hc : x.ev (.mk L R) = c) (he : o.al (.mk L R) = al) (hk : ∀ v H n, P v H n -> AY l G callE (.mk L R) H n k) : AY (.op (.mk .no (.on x b) (.a o)) :: l) G callE (.mk L R) H n k := by
 subst hc he; exact EF h (fun h => MP (Q := fun v H n => AY l G callE (.mk L R) H n k) h hk) (hk _ _ _)
theorem AXK (hle : ET call callE) (hd : CQ callE) {o : AE} {t : KV -> Prop} {P : KV} (h : t P) (he : o.ex G call (.mk L R) H n = t) (hk : ∀ v H n, P v H n -> AY l G callE (.mk L R) H n k) : AY (.op (.mk .no .no (.e o)) :: l) G callE (.mk L R) H n k := by
 subst he; exact PW hle hd (Q := fun v H n => AY l G callE (.mk L R) H n k) h hk
theorem AUz (hle : ET call callE) (hd : CQ callE) {o : AE} {t : KV -> Prop} {P : KV} (h : KO c b t H n P) (hc : x.ev (.mk L R) = c) (he : o.ex G call (.mk L R) H n = t) (hk : ∀ v H n, P v H n -> AY l G callE (.mk L R) H n k) : AY (.op (.mk .no (.on x b) (.e o)) :: l) G callE (.mk L R) H n k := by
 subst hc he; exact EF h (fun h => PW hle hd (Q := fun v H n => AY l G callE (.mk L R) H n k) h hk) (hk _ _ _)
theorem AWZ {x : X} (hx : x.ev (.mk L R) = a) (hk : AY l G callE (.mk L R) H n k) : AY (.op (.mk .no .no (.e (.asg x))) :: l) G callE (.mk L R) H n k := by
 subst hx; exact hk
theorem i0 {K : K} (h : K R H n) : AY [] G callE (.mk L R) H n (kR K) := h
theorem ire {o : AN} {e : Option V} {P0 : Prop} (h : AU e fun v => Gn (Ci v a) P0) (hr : rg R p = a) (he : o.ev G (.mk L R) H = e) (hk : P0 -> AY l G callE (.mk L R) H n k) : AY (.re p .no o :: l) G callE (.mk L R) H n k := by
 subst hr he; exact Jz h fun v h => by rw [EN] at h ⊢; exact ⟨h.1, hk h.2⟩
theorem AWn {o : AN} {e : Option V} {P0 : Prop} (h : Vd c b e a P0) (hc : x.ev (.mk L R) = c) (hr : rg R p = a) (he : o.ev G (.mk L R) H = e) (hk : P0 -> AY l G callE (.mk L R) H n k) : AY (.re p (.on x b) o :: l) G callE (.mk L R) H n k := by
 subst hc hr he; exact EF h (fun h => Jz h fun v h => by rw [EN] at h ⊢; exact ⟨h.1, hk h.2⟩) hk
end
section
variable {R : FT} {H : Heap} {n : Nat} {k : K} {x : KX} {r : K} {a b : AC}
theorem ASM (h : k R H n) : AC.skip.Sr G callE 0 R H n k x r := h
theorem ATq {l : List iY} (h : Bd l G callE (.mk [] R) H n (kR k)) : (AC.ops l).Sr G callE 0 R H n k x r := h
theorem AUf {l : List AI} (h : AY l G callE (.mk [] R) H n (kR k)) : (AC.reg l).Sr G callE 0 R H n k x r := h
theorem AU5 (h : a.Sr G callE 0 R H n (fun R H n => b.Sr G callE 0 R H n k x r) x r) : (AC.seq a b).Sr G callE 0 R H n k x r := h
theorem ASf (S : FT -> Heap -> Nat -> Prop) (hb : ∀ R H n, S R H n -> b.Sr G callE 0 R H n k x r)
    (ha : (∀ R H n, S R H n -> b.Sr G callE 0 R H n k x r) -> a.Sr G callE 0 R H n (fun R H n => b.Sr G callE 0 R H n k x r) x r) : (AC.seq a b).Sr G callE 0 R H n k x r := ha hb
theorem ARt {c : X} {v : V} {P Q : Prop} (h : Ac v true P Q) (hc : c.ev (.mk [] R) = v) (ha : P -> a.Sr G callE 0 R H n k x r) (hb : Q -> b.Sr G callE 0 R H n k x r) : (AC.cond c a b).Sr G callE 0 R H n k x r := by
 subst hc; exact jH h ha hb
theorem ARa {i : Nat} (h : a.Sr G callE 0 R H n k (EC i k x) r) : (AC.block i a).Sr G callE 0 R H n k x r := h
theorem AS7 {i : Nat} (h : x i R H n) : (AC.exit i).Sr G callE 0 R H n k x r := h
theorem AVU (h : r R H n) : AC.ret.Sr G callE 0 R H n k x r := h
theorem AQz {i : Nat} (h : k R H n) : EC i k x i R H n := by
 unfold EC
 have : Nat.beq i i = true := by simp
 rw [this]; exact h
theorem ATp {i j : Nat} (hb : Nat.beq j i = false) (h : x j R H n) : EC i k x j R H n := by
 unfold EC; rw [hb]; exact h
theorem ASj {σ : Type} {lp : BA} (hL : Dk lp) {bd : (σ -> Prop) -> σ -> Prop} {s0 : σ} (S : σ -> FT -> Heap -> Nat -> Prop) (h : lp σ bd s0) (h0 : S s0 R H n)
    (hb : ∀ (ih : σ -> Prop) (I : K), (∀ s R H n, S s R H n -> ih s -> I R H n) -> ∀ s R H n, S s R H n -> bd ih s -> a.Sr G callE 0 R H n I x r) : (AC.loop a).Sr G callE 0 R H n k x r := by
  show AEa a.Sr G callE R H n x r
  intro I hI
  exact hL σ bd (fun s => ∀ R H n, S s R H n -> I R H n) (fun ih hih s hs R H n hS => hI R H n (hb ih I (fun s R H n hS hi => hih s hi R H n hS) s R H n hS hs)) s0 h R H n h0
end
section
variable {res rs : List AR} {dg : Nat} {R : FT} {H : Heap} {n : Nat} {k : KV} {l : LV} {p : P2} {a : V} {vs : List uF}
noncomputable def sN (l : List AR) (R : FT) : List uF := l.map fun
 | .tmp p => .t (rg R p) | .cell1 p => .c1 (rg R p) | .celln p n => .cn (rg R p) n
theorem rs0 : sN [] R = [] := rfl
theorem rsT (hx : rg R p = a) (h : sN rs R = vs) : sN (.tmp p :: rs) R = .t a :: vs := by subst hx h; rfl
theorem rsC (hx : rg R p = a) (h : sN rs R = vs) : sN (.cell1 p :: rs) R = .c1 a :: vs := by subst hx h; rfl
theorem rsN {m : Nat} (hx : rg R p = a) (h : sN rs R = vs) : sN (.celln p m :: rs) R = .cn a m :: vs := by subst hx h; rfl
theorem AEI : ∀ (res : List AR), dA res G R H = BQ (sN res R) G H
 | [] => rfl
 | r :: res => by
  show BK (r.get G R H) (fun v => BK (dA res G R H) fun vs => some (v :: vs)) = _
  rw [AEI res]
  cases r <;> rfl
theorem AGq (h : FM (BQ vs G H) fun l => k (E8 l) H n) (he : sN res R = vs) : qM res G k R H n := by
 subst he; show FM (dA res G R H) _; rw [AEI]; exact h
theorem ASg (he : sN res R = vs) (h : FM (BQ vs G H) fun l => k (E8 l) H n) : GK res dg .no G callE k R H n := AGq h he
theorem AC0 (hle : ET call callE) (hd : CQ callE) {l : List V} {P Q : Heap -> Nat -> Prop} (h : Jf dg l call H n P) (hk : ∀ H n, P H n -> Q H n) : Jf dg l callE H n Q :=
 TY.mono (lu hd dg l H n) (k := fun s => P s.1 s.2) (k' := fun s => Q s.1 s.2) (fun s hs => hk _ _ hs) (vI hd hle dg l H n _ h)
theorem ATc {dv : V} {dp : P2} (hle : ET call callE) (hd : CQ callE) (hr : rg R dp = dv) (he : sN res R = vs) (h : Jf dg (bW dv) call H n fun H n => FM (BQ vs G H) fun l => k (E8 l) H n) : GK res dg (.to dp) G callE k R H n := by
 subst hr
 exact AC0 hle hd (Q := fun H n => qM res G k R H n) h fun H n h => AGq h he
theorem ARe {np : Nat} {code : AC} {d : Zn} {args : List V} (hl : Nat.beq (len args) np = true) (h : code.Sr G callE 0 (XA args 0 .e) H n (GK res dg d G callE k) noX (GK res dg d G callE k)) :
    nG (.mk np code res d dg) G callE args H n k := by
  show Gn (Nat.beq (len args) np) _
  rw [hl]; exact h
end
end
abbrev SF := AQ -> List V -> Heap -> Nat -> KV -> Prop
noncomputable def ar0 (s : AQ -> Heap -> Nat -> KV -> Prop) : SF := fun call l H n k => List.rec (motive := fun _ => Prop) (s call H n k) (fun _ _ _ => False) l
noncomputable def Eu (s : AQ -> V -> Heap -> Nat -> KV -> Prop) : SF := fun call l H n k => List.rec (motive := fun _ => Prop) False (fun a l _ => ar0 (fun call => s call a) call l H n k) l
noncomputable def QM (s : AQ -> V -> V -> Heap -> Nat -> KV -> Prop) : SF := fun call l H n k => List.rec (motive := fun _ => Prop) False (fun a l _ => Eu (fun call => s call a) call l H n k) l
noncomputable def ar3 (s : AQ -> V -> V -> V -> Heap -> Nat -> KV -> Prop) : SF := fun call l H n k => List.rec (motive := fun _ => Prop) False (fun a l _ => QM (fun call => s call a) call l H n k) l
noncomputable def ar4 (s : AQ -> V -> V -> V -> V -> Heap -> Nat -> KV -> Prop) : SF := fun call l H n k => List.rec (motive := fun _ => Prop) False (fun a l _ => ar3 (fun call => s call a) call l H n k) l
noncomputable def ar5 (s : AQ -> V -> V -> V -> V -> V -> Heap -> Nat -> KV -> Prop) : SF := fun call l H n k => List.rec (motive := fun _ => Prop) False (fun a l _ => ar4 (fun call => s call a) call l H n k) l
noncomputable def ar6 (s : AQ -> V -> V -> V -> V -> V -> V -> Heap -> Nat -> KV -> Prop) : SF := fun call l H n k => List.rec (motive := fun _ => Prop) False (fun a l _ => ar5 (fun call => s call a) call l H n k) l
noncomputable def ar7 (s : AQ -> V -> V -> V -> V -> V -> V -> V -> Heap -> Nat -> KV -> Prop) : SF := fun call l H n k => List.rec (motive := fun _ => Prop) False (fun a l _ => ar6 (fun call => s call a) call l H n k) l
noncomputable def ar8 (s : AQ -> V -> V -> V -> V -> V -> V -> V -> V -> Heap -> Nat -> KV -> Prop) : SF := fun call l H n k => List.rec (motive := fun _ => Prop) False (fun a l _ => ar7 (fun call => s call a) call l H n k) l
noncomputable def ar9 (s : AQ -> V -> V -> V -> V -> V -> V -> V -> V -> V -> Heap -> Nat -> KV -> Prop) : SF := fun call l H n k => List.rec (motive := fun _ => Prop) False (fun a l _ => ar8 (fun call => s call a) call l H n k) l
noncomputable def AL8 (s : AQ -> V -> V -> V -> V -> V -> V -> V -> V -> V -> V -> Heap -> Nat -> KV -> Prop) : SF := fun call l H n k => List.rec (motive := fun _ => Prop) False (fun a l _ => ar9 (fun call => s call a) call l H n k) l
noncomputable def AM2 (s : AQ -> V -> V -> V -> V -> V -> V -> V -> V -> V -> V -> V -> Heap -> Nat -> KV -> Prop) : SF := fun call l H n k => List.rec (motive := fun _ => Prop) False (fun a l _ => AL8 (fun call => s call a) call l H n k) l
noncomputable def AS4 (s : AQ -> V -> V -> V -> V -> V -> V -> V -> V -> V -> V -> V -> V -> Heap -> Nat -> KV -> Prop) : SF := fun call l H n k => List.rec (motive := fun _ => Prop) False (fun a l _ => AM2 (fun call => s call a) call l H n k) l
theorem AEh {s : AQ -> Heap -> Nat -> KV -> Prop} {call : AQ} {l : List V} {H : Heap} {n : Nat} {k : KV} (h : ar0 s call l H n k) : l = [] /\ s call H n k := by
 cases l with
 | nil => exact ⟨rfl, h⟩
 | cons => exact (show False from h).elim
theorem AD1 {s : AQ -> V -> Heap -> Nat -> KV -> Prop} {call : AQ} {l : List V} {H : Heap} {n : Nat} {k : KV} (h : Eu s call l H n k) : ∃ a0, l = [a0] /\ s call a0 H n k := by
 cases l with
 | nil => exact (show False from h).elim
 | cons a l =>
  obtain ⟨rfl, h⟩ := AEh (show ar0 (fun call => s call a) call l H n k from h)
  exact ⟨a, rfl, h⟩
theorem AD9 {s : AQ -> V -> V -> Heap -> Nat -> KV -> Prop} {call : AQ} {l : List V} {H : Heap} {n : Nat} {k : KV} (h : QM s call l H n k) : ∃ a0 a1, l = [a0, a1] /\ s call a0 a1 H n k := by
 cases l with
 | nil => exact (show False from h).elim
 | cons a l =>
  obtain ⟨b0, rfl, h⟩ := AD1 (show Eu (fun call => s call a) call l H n k from h)
  exact ⟨a, b0, rfl, h⟩
theorem AEi {s : AQ -> V -> V -> V -> Heap -> Nat -> KV -> Prop} {call : AQ} {l : List V} {H : Heap} {n : Nat} {k : KV} (h : ar3 s call l H n k) : ∃ a0 a1 a2, l = [a0, a1, a2] /\ s call a0 a1 a2 H n k := by
 cases l with
 | nil => exact (show False from h).elim
 | cons a l =>
  obtain ⟨b0, b1, rfl, h⟩ := AD9 (show QM (fun call => s call a) call l H n k from h)
  exact ⟨a, b0, b1, rfl, h⟩
theorem ADr {s : AQ -> V -> V -> V -> V -> Heap -> Nat -> KV -> Prop} {call : AQ} {l : List V} {H : Heap} {n : Nat} {k : KV} (h : ar4 s call l H n k) : ∃ a0 a1 a2 a3, l = [a0, a1, a2, a3] /\ s call a0 a1 a2 a3 H n k := by
 cases l with
 | nil => exact (show False from h).elim
 | cons a l =>
  obtain ⟨b0, b1, b2, rfl, h⟩ := AEi (show ar3 (fun call => s call a) call l H n k from h)
  exact ⟨a, b0, b1, b2, rfl, h⟩
theorem ADy {s : AQ -> V -> V -> V -> V -> V -> Heap -> Nat -> KV -> Prop} {call : AQ} {l : List V} {H : Heap} {n : Nat} {k : KV} (h : ar5 s call l H n k) : ∃ a0 a1 a2 a3 a4, l = [a0, a1, a2, a3, a4] /\ s call a0 a1 a2 a3 a4 H n k := by
 cases l with
 | nil => exact (show False from h).elim
 | cons a l =>
  obtain ⟨b0, b1, b2, b3, rfl, h⟩ := ADr (show ar4 (fun call => s call a) call l H n k from h)
  exact ⟨a, b0, b1, b2, b3, rfl, h⟩
theorem AEk {s : AQ -> V -> V -> V -> V -> V -> V -> Heap -> Nat -> KV -> Prop} {call : AQ} {l : List V} {H : Heap} {n : Nat} {k : KV} (h : ar6 s call l H n k) : ∃ a0 a1 a2 a3 a4 a5, l = [a0, a1, a2, a3, a4, a5] /\ s call a0 a1 a2 a3 a4 a5 H n k := by
 cases l with
 | nil => exact (show False from h).elim
 | cons a l =>
  obtain ⟨b0, b1, b2, b3, b4, rfl, h⟩ := ADy (show ar5 (fun call => s call a) call l H n k from h)
  exact ⟨a, b0, b1, b2, b3, b4, rfl, h⟩
theorem AED {s : AQ -> V -> V -> V -> V -> V -> V -> V -> Heap -> Nat -> KV -> Prop} {call : AQ} {l : List V} {H : Heap} {n : Nat} {k : KV} (h : ar7 s call l H n k) : ∃ a0 a1 a2 a3 a4 a5 a6, l = [a0, a1, a2, a3, a4, a5, a6] /\ s call a0 a1 a2 a3 a4 a5 a6 H n k := by
 cases l with
 | nil => exact (show False from h).elim
 | cons a l =>
  obtain ⟨b0, b1, b2, b3, b4, b5, rfl, h⟩ := AEk (show ar6 (fun call => s call a) call l H n k from h)
  exact ⟨a, b0, b1, b2, b3, b4, b5, rfl, h⟩
theorem ADn {s : AQ -> V -> V -> V -> V -> V -> V -> V -> V -> Heap -> Nat -> KV -> Prop} {call : AQ} {l : List V} {H : Heap} {n : Nat} {k : KV} (h : ar8 s call l H n k) : ∃ a0 a1 a2 a3 a4 a5 a6 a7, l = [a0, a1, a2, a3, a4, a5, a6, a7] /\ s call a0 a1 a2 a3 a4 a5 a6 a7 H n k := by
 cases l with
 | nil => exact (show False from h).elim
 | cons a l =>
  obtain ⟨b0, b1, b2, b3, b4, b5, b6, rfl, h⟩ := AED (show ar7 (fun call => s call a) call l H n k from h)
  exact ⟨a, b0, b1, b2, b3, b4, b5, b6, rfl, h⟩
theorem AJC {s : AQ -> V -> V -> V -> V -> V -> V -> V -> V -> V -> Heap -> Nat -> KV -> Prop} {call : AQ} {l : List V} {H : Heap} {n : Nat} {k : KV} (h : ar9 s call l H n k) : ∃ a0 a1 a2 a3 a4 a5 a6 a7 a8, l = [a0, a1, a2, a3, a4, a5, a6, a7, a8] /\ s call a0 a1 a2 a3 a4 a5 a6 a7 a8 H n k := by
 cases l with
 | nil => exact (show False from h).elim
 | cons a l =>
  obtain ⟨b0, b1, b2, b3, b4, b5, b6, b7, rfl, h⟩ := ADn (show ar8 (fun call => s call a) call l H n k from h)
  exact ⟨a, b0, b1, b2, b3, b4, b5, b6, b7, rfl, h⟩
theorem AG5 {s : AQ -> V -> V -> V -> V -> V -> V -> V -> V -> V -> V -> Heap -> Nat -> KV -> Prop} {call : AQ} {l : List V} {H : Heap} {n : Nat} {k : KV} (h : AL8 s call l H n k) : ∃ a0 a1 a2 a3 a4 a5 a6 a7 a8 a9, l = [a0, a1, a2, a3, a4, a5, a6, a7, a8, a9] /\ s call a0 a1 a2 a3 a4 a5 a6 a7 a8 a9 H n k := by
 cases l with
 | nil => exact (show False from h).elim
 | cons a l =>
  obtain ⟨b0, b1, b2, b3, b4, b5, b6, b7, b8, rfl, h⟩ := AJC (show ar9 (fun call => s call a) call l H n k from h)
  exact ⟨a, b0, b1, b2, b3, b4, b5, b6, b7, b8, rfl, h⟩
theorem AGm {s : AQ -> V -> V -> V -> V -> V -> V -> V -> V -> V -> V -> V -> Heap -> Nat -> KV -> Prop} {call : AQ} {l : List V} {H : Heap} {n : Nat} {k : KV} (h : AM2 s call l H n k) : ∃ a0 a1 a2 a3 a4 a5 a6 a7 a8 a9 a10, l = [a0, a1, a2, a3, a4, a5, a6, a7, a8, a9, a10] /\ s call a0 a1 a2 a3 a4 a5 a6 a7 a8 a9 a10 H n k := by
 cases l with
 | nil => exact (show False from h).elim
 | cons a l =>
  obtain ⟨b0, b1, b2, b3, b4, b5, b6, b7, b8, b9, rfl, h⟩ := AG5 (show AL8 (fun call => s call a) call l H n k from h)
  exact ⟨a, b0, b1, b2, b3, b4, b5, b6, b7, b8, b9, rfl, h⟩
theorem APW {s : AQ -> V -> V -> V -> V -> V -> V -> V -> V -> V -> V -> V -> V -> Heap -> Nat -> KV -> Prop} {call : AQ} {l : List V} {H : Heap} {n : Nat} {k : KV} (h : AS4 s call l H n k) : ∃ a0 a1 a2 a3 a4 a5 a6 a7 a8 a9 a10 a11, l = [a0, a1, a2, a3, a4, a5, a6, a7, a8, a9, a10, a11] /\ s call a0 a1 a2 a3 a4 a5 a6 a7 a8 a9 a10 a11 H n k := by
 cases l with
 | nil => exact (show False from h).elim
 | cons a l =>
  obtain ⟨b0, b1, b2, b3, b4, b5, b6, b7, b8, b9, b10, rfl, h⟩ := AGm (show AM2 (fun call => s call a) call l H n k from h)
  exact ⟨a, b0, b1, b2, b3, b4, b5, b6, b7, b8, b9, b10, rfl, h⟩
noncomputable def AGp (FS : T SF) (fuel : Nat) : AQ :=
 Nat.rec (motive := fun _ => AQ) (fun _ _ _ _ _ => False) (fun _ call f args H n k => FM (T.get FS f) fun s => s call args H n k) fuel
def iV (G : AP) (af : AF) (s : SF) : Prop := ∀ call callE, ET call callE -> CQ callE -> ∀ args H n k, s call args H n k -> nG af G callE args H n k
def ABZ (F : T AF) (G : AP) (FS : T SF) : Prop := ∀ f s, T.get FS f = some s -> ∃ af, T.get F f = some af /\ iV G af s
theorem qX {F : T AF} {G : AP} {FS : T SF} (h : ABZ F G FS) : ∀ m, ET (AGp FS m) (Runs F G)
 | 0 => fun _ _ _ _ _ h => (show False from h).elim
 | m + 1 => fun f a H n k hr => by
  have hr' : FM (T.get FS f) fun s => s (AGp FS m) a H n k := hr
  rw [Hu] at hr'
  obtain ⟨s, hs, hr'⟩ := hr'
  obtain ⟨af, haf, hok⟩ := h f s hs
  exact Yr haf (hok _ _ (qX h m) (V8 F G) _ _ _ _ hr')
theorem ARh {F : T AF} {G : AP} {FS : T SF} (h : ABZ F G FS) {f : Nat} {a : List V} {m : Nat} (hr : AGp FS m f a .e 0 O5 = True) : Runs F G f a .e 0 fun v _ _ => v = .bool true :=
 eG (k := O5) (fun _ _ _ hv => rD hv) (qX h m _ _ _ _ _ (of_eq_true hr))
end Go.Eng
namespace Go.Eng
section
variable {E : RS} {G : AP} {H : Heap} {x : X} {a : Int}
theorem km1 (hx : x.ev E = .int .i64 a 0) : (AN.cvi .u64 x).ev G E H = some (.int .u64 (IntKind.wrap .u64 a) 0) := by
 show (x.ev E).FH _ = _
 rw [hx]; exact uT _ _
theorem km2 {m t : Nat} (hm : 0 < m) (e : umod a m = t) (hx : x.ev E = .int .u64 (IntKind.wrap .u64 a) 0) : (AN.bin .rem x (.c (.int .u64 (.ofNat m) 0))).ev G E H = some (.int .u64 (.ofNat t) 0) := by
 subst e
 show B2.ev .rem (x.ev E) (.int .u64 (.ofNat m) 0) = _
 rw [hx]
 show Aq (band true (band true (Ue (ieq (.ofNat m) 0)))) (mkN .u64 (Int.tmod (IntKind.wrap .u64 a) (.ofNat m)) 0) = _
 have : ieq (.ofNat m) 0 = false := by rw [Qo]; simp; omega
 rw [this]
 show JF (Int.tmod (IntKind.wrap .u64 a) (.ofNat m)) (fun m => some (.int .u64 m 0)) = _
 rw [KL]
 exact congrArg (fun z => some (V.int .u64 z 0)) (umod_eq a m)
theorem km3 {m t : Nat} (hm : m < 9223372036854775808) (e : lU a m = t) (hx : x.ev E = .int .i64 a 0) : (AN.bin .and x (.c (.int .i64 (.ofNat m) 0))).ev G E H = some (.int .i64 (.ofNat t) 0) := by
 subst e
 show AIR (x.ev E) (.int .i64 (.ofNat m) 0) = _
 rw [hx]
 show Aq true (JF (AHG .i64 a (.ofNat m)) fun m => some (.int .i64 m 0)) = _
 rw [xk a hm]; rfl
end
theorem APX {F : T AF} {G : AP} {FS : T SF} (h : ABZ F G FS) {f : Nat} {af : AF} (hf : T.get F f = some af) {a : List V} (m : Nat) {t : KV -> Prop} (hs : ∀ callE, ET (AGp FS m) callE -> CQ callE -> t O5 -> nG af G callE a .e 0 O5) (hr : t O5 = True) :
    Runs F G f a .e 0 fun v _ _ => v = .bool true :=
  eG (k := O5) (fun _ _ _ hv => rD hv) (Yr hf (hs _ (qX h m) (V8 F G) (of_eq_true hr)))
theorem below2 {p : Nat -> Prop} (h0 : p 0) (h1 : p 1) (x : Nat) (hx : x < 2) : p x := by
 have : x = 0 ∨ x = 1 := by omega
 rcases this with rfl | rfl <;> assumption
theorem below3 {p : Nat -> Prop} (h0 : p 0) (h1 : p 1) (h2 : p 2) (x : Nat) (hx : x < 3) : p x := by
 have : x = 0 ∨ x = 1 ∨ x = 2 := by omega
 rcases this with rfl | rfl | rfl <;> assumption
theorem ATY {p : Nat -> Prop} (h0 : p 0) (h1 : p 1) (h2 : p 2) (h3 : p 3) (x : Nat) (hx : x < 4) : p x := by
 have : x = 0 ∨ x = 1 ∨ x = 2 ∨ x = 3 := by omega
 rcases this with rfl | rfl | rfl | rfl <;> assumption
theorem ASJ {p : Nat -> Prop} (h0 : p 0) (h1 : p 1) (h2 : p 2) (h3 : p 3) (h4 : p 4) (x : Nat) (hx : x < 5) : p x := by
 have : x = 0 ∨ x = 1 ∨ x = 2 ∨ x = 3 ∨ x = 4 := by omega
 rcases this with rfl | rfl | rfl | rfl | rfl <;> assumption
theorem ATG {p : Nat -> Prop} (h0 : p 0) (h1 : p 1) (h2 : p 2) (h3 : p 3) (h4 : p 4) (h5 : p 5) (x : Nat) (hx : x < 6) : p x := by
 have : x = 0 ∨ x = 1 ∨ x = 2 ∨ x = 3 ∨ x = 4 ∨ x = 5 := by omega
 rcases this with rfl | rfl | rfl | rfl | rfl | rfl <;> assumption
theorem AS5 {p : Nat -> Prop} (h0 : p 0) (h1 : p 1) (h2 : p 2) (h3 : p 3) (h4 : p 4) (h5 : p 5) (h6 : p 6) (x : Nat) (hx : x < 7) : p x := by
 have : x = 0 ∨ x = 1 ∨ x = 2 ∨ x = 3 ∨ x = 4 ∨ x = 5 ∨ x = 6 := by omega
 rcases this with rfl | rfl | rfl | rfl | rfl | rfl | rfl <;> assumption
theorem ASn {p : Nat -> Prop} (h0 : p 0) (h1 : p 1) (h2 : p 2) (h3 : p 3) (h4 : p 4) (h5 : p 5) (h6 : p 6) (h7 : p 7) (x : Nat) (hx : x < 8) : p x := by
 have : x = 0 ∨ x = 1 ∨ x = 2 ∨ x = 3 ∨ x = 4 ∨ x = 5 ∨ x = 6 ∨ x = 7 := by omega
 rcases this with rfl | rfl | rfl | rfl | rfl | rfl | rfl | rfl <;> assumption
theorem AR5 {p : Nat -> Prop} (h0 : p 0) (h1 : p 1) (h2 : p 2) (h3 : p 3) (h4 : p 4) (h5 : p 5) (h6 : p 6) (h7 : p 7) (h8 : p 8) (x : Nat) (hx : x < 9) : p x := by
 have : x = 0 ∨ x = 1 ∨ x = 2 ∨ x = 3 ∨ x = 4 ∨ x = 5 ∨ x = 6 ∨ x = 7 ∨ x = 8 := by omega
 rcases this with rfl | rfl | rfl | rfl | rfl | rfl | rfl | rfl | rfl <;> assumption
theorem AQv {p : Nat -> Prop} (h0 : p 0) (h1 : p 1) (h2 : p 2) (h3 : p 3) (h4 : p 4) (h5 : p 5) (h6 : p 6) (h7 : p 7) (h8 : p 8) (h9 : p 9) (x : Nat) (hx : x < 10) : p x := by
 have : x = 0 ∨ x = 1 ∨ x = 2 ∨ x = 3 ∨ x = 4 ∨ x = 5 ∨ x = 6 ∨ x = 7 ∨ x = 8 ∨ x = 9 := by omega
 rcases this with rfl | rfl | rfl | rfl | rfl | rfl | rfl | rfl | rfl | rfl <;> assumption
theorem ARV {p : Nat -> Prop} (h0 : p 0) (h1 : p 1) (h2 : p 2) (h3 : p 3) (h4 : p 4) (h5 : p 5) (h6 : p 6) (h7 : p 7) (h8 : p 8) (h9 : p 9) (h10 : p 10) (h11 : p 11) (x : Nat) (hx : x < 12) : p x := by
 have : x = 0 ∨ x = 1 ∨ x = 2 ∨ x = 3 ∨ x = 4 ∨ x = 5 ∨ x = 6 ∨ x = 7 ∨ x = 8 ∨ x = 9 ∨ x = 10 ∨ x = 11 := by omega
 rcases this with rfl | rfl | rfl | rfl | rfl | rfl | rfl | rfl | rfl | rfl | rfl | rfl <;> assumption
theorem ARc {p : Nat -> Prop} (h0 : p 0) (h1 : p 1) (h2 : p 2) (h3 : p 3) (h4 : p 4) (h5 : p 5) (h6 : p 6) (h7 : p 7) (h8 : p 8) (h9 : p 9) (h10 : p 10) (h11 : p 11) (h12 : p 12) (h13 : p 13) (h14 : p 14) (h15 : p 15) (x : Nat) (hx : x < 16) : p x := by
 have : x = 0 ∨ x = 1 ∨ x = 2 ∨ x = 3 ∨ x = 4 ∨ x = 5 ∨ x = 6 ∨ x = 7 ∨ x = 8 ∨ x = 9 ∨ x = 10 ∨ x = 11 ∨ x = 12 ∨ x = 13 ∨ x = 14 ∨ x = 15 := by omega
 rcases this with rfl | rfl | rfl | rfl | rfl | rfl | rfl | rfl | rfl | rfl | rfl | rfl | rfl | rfl | rfl | rfl <;> assumption
theorem AQ9 {p : Nat -> Prop} (h0 : p 0) (h1 : p 1) (h2 : p 2) (h3 : p 3) (h4 : p 4) (h5 : p 5) (h6 : p 6) (h7 : p 7) (h8 : p 8) (h9 : p 9) (h10 : p 10) (h11 : p 11) (h12 : p 12) (h13 : p 13) (h14 : p 14) (h15 : p 15) (h16 : p 16) (h17 : p 17) (h18 : p 18) (h19 : p 19) (x : Nat) (hx : x < 20) : p x := by
 have : x = 0 ∨ x = 1 ∨ x = 2 ∨ x = 3 ∨ x = 4 ∨ x = 5 ∨ x = 6 ∨ x = 7 ∨ x = 8 ∨ x = 9 ∨ x = 10 ∨ x = 11 ∨ x = 12 ∨ x = 13 ∨ x = 14 ∨ x = 15 ∨ x = 16 ∨ x = 17 ∨ x = 18 ∨ x = 19 := by omega
 rcases this with rfl | rfl | rfl | rfl | rfl | rfl | rfl | rfl | rfl | rfl | rfl | rfl | rfl | rfl | rfl | rfl | rfl | rfl | rfl | rfl <;> assumption
theorem ARQ {p : Nat -> Prop} (h0 : p 0) (h1 : p 1) (h2 : p 2) (h3 : p 3) (h4 : p 4) (h5 : p 5) (h6 : p 6) (h7 : p 7) (h8 : p 8) (h9 : p 9) (h10 : p 10) (h11 : p 11) (h12 : p 12) (h13 : p 13) (h14 : p 14) (h15 : p 15) (h16 : p 16) (h17 : p 17) (h18 : p 18) (h19 : p 19) (h20 : p 20) (h21 : p 21) (h22 : p 22) (h23 : p 23) (h24 : p 24) (h25 : p 25) (h26 : p 26) (h27 : p 27) (h28 : p 28) (h29 : p 29) (x : Nat) (hx : x < 30) : p x := by
 match x, hx with
 | 0, _ => exact h0
 | 1, _ => exact h1
 | 2, _ => exact h2
 | 3, _ => exact h3
 | 4, _ => exact h4
 | 5, _ => exact h5
 | 6, _ => exact h6
 | 7, _ => exact h7
 | 8, _ => exact h8
 | 9, _ => exact h9
 | 10, _ => exact h10
 | 11, _ => exact h11
 | 12, _ => exact h12
 | 13, _ => exact h13
 | 14, _ => exact h14
 | 15, _ => exact h15
 | 16, _ => exact h16
 | 17, _ => exact h17
 | 18, _ => exact h18
 | 19, _ => exact h19
 | 20, _ => exact h20
 | 21, _ => exact h21
 | 22, _ => exact h22
 | 23, _ => exact h23
 | 24, _ => exact h24
 | 25, _ => exact h25
 | 26, _ => exact h26
 | 27, _ => exact h27
 | 28, _ => exact h28
 | 29, _ => exact h29
 | x + 30, hx => exact absurd hx (by omega)
theorem ARX {p : Nat -> Prop} (h0 : p 0) (h1 : p 1) (h2 : p 2) (h3 : p 3) (h4 : p 4) (h5 : p 5) (h6 : p 6) (h7 : p 7) (h8 : p 8) (h9 : p 9) (h10 : p 10) (h11 : p 11) (h12 : p 12) (h13 : p 13) (h14 : p 14) (h15 : p 15) (h16 : p 16) (h17 : p 17) (h18 : p 18) (h19 : p 19) (h20 : p 20) (h21 : p 21) (h22 : p 22) (h23 : p 23) (h24 : p 24) (h25 : p 25) (h26 : p 26) (h27 : p 27) (h28 : p 28) (h29 : p 29) (h30 : p 30) (h31 : p 31) (x : Nat) (hx : x < 32) : p x := by
 match x, hx with
 | 0, _ => exact h0
 | 1, _ => exact h1
 | 2, _ => exact h2
 | 3, _ => exact h3
 | 4, _ => exact h4
 | 5, _ => exact h5
 | 6, _ => exact h6
 | 7, _ => exact h7
 | 8, _ => exact h8
 | 9, _ => exact h9
 | 10, _ => exact h10
 | 11, _ => exact h11
 | 12, _ => exact h12
 | 13, _ => exact h13
 | 14, _ => exact h14
 | 15, _ => exact h15
 | 16, _ => exact h16
 | 17, _ => exact h17
 | 18, _ => exact h18
 | 19, _ => exact h19
 | 20, _ => exact h20
 | 21, _ => exact h21
 | 22, _ => exact h22
 | 23, _ => exact h23
 | 24, _ => exact h24
 | 25, _ => exact h25
 | 26, _ => exact h26
 | 27, _ => exact h27
 | 28, _ => exact h28
 | 29, _ => exact h29
 | 30, _ => exact h30
 | 31, _ => exact h31
 | x + 32, hx => exact absurd hx (by omega)
theorem ART {p : Nat -> Prop} (h0 : p 0) (h1 : p 1) (h2 : p 2) (h3 : p 3) (h4 : p 4) (h5 : p 5) (h6 : p 6) (h7 : p 7) (h8 : p 8) (h9 : p 9) (h10 : p 10) (h11 : p 11) (h12 : p 12) (h13 : p 13) (h14 : p 14) (h15 : p 15) (h16 : p 16) (h17 : p 17) (h18 : p 18) (h19 : p 19) (h20 : p 20) (h21 : p 21) (h22 : p 22) (h23 : p 23) (h24 : p 24) (h25 : p 25) (h26 : p 26) (h27 : p 27) (h28 : p 28) (h29 : p 29) (h30 : p 30) (h31 : p 31) (h32 : p 32) (h33 : p 33) (h34 : p 34) (h35 : p 35) (h36 : p 36) (h37 : p 37) (h38 : p 38) (h39 : p 39) (h40 : p 40) (h41 : p 41) (x : Nat) (hx : x < 42) : p x := by
 match x, hx with
 | 0, _ => exact h0
 | 1, _ => exact h1
 | 2, _ => exact h2
 | 3, _ => exact h3
 | 4, _ => exact h4
 | 5, _ => exact h5
 | 6, _ => exact h6
 | 7, _ => exact h7
 | 8, _ => exact h8
 | 9, _ => exact h9
 | 10, _ => exact h10
 | 11, _ => exact h11
 | 12, _ => exact h12
 | 13, _ => exact h13
 | 14, _ => exact h14
 | 15, _ => exact h15
 | 16, _ => exact h16
 | 17, _ => exact h17
 | 18, _ => exact h18
 | 19, _ => exact h19
 | 20, _ => exact h20
 | 21, _ => exact h21
 | 22, _ => exact h22
 | 23, _ => exact h23
 | 24, _ => exact h24
 | 25, _ => exact h25
 | 26, _ => exact h26
 | 27, _ => exact h27
 | 28, _ => exact h28
 | 29, _ => exact h29
 | 30, _ => exact h30
 | 31, _ => exact h31
 | 32, _ => exact h32
 | 33, _ => exact h33
 | 34, _ => exact h34
 | 35, _ => exact h35
 | 36, _ => exact h36
 | 37, _ => exact h37
 | 38, _ => exact h38
 | 39, _ => exact h39
 | 40, _ => exact h40
 | 41, _ => exact h41
 | x + 42, hx => exact absurd hx (by omega)
theorem ARL {p : Nat -> Prop} (h0 : p 0) (h1 : p 1) (h2 : p 2) (h3 : p 3) (h4 : p 4) (h5 : p 5) (h6 : p 6) (h7 : p 7) (h8 : p 8) (h9 : p 9) (h10 : p 10) (h11 : p 11) (h12 : p 12) (h13 : p 13) (h14 : p 14) (h15 : p 15) (h16 : p 16) (h17 : p 17) (h18 : p 18) (h19 : p 19) (h20 : p 20) (h21 : p 21) (h22 : p 22) (h23 : p 23) (h24 : p 24) (h25 : p 25) (h26 : p 26) (h27 : p 27) (h28 : p 28) (h29 : p 29) (h30 : p 30) (h31 : p 31) (h32 : p 32) (h33 : p 33) (h34 : p 34) (h35 : p 35) (h36 : p 36) (h37 : p 37) (h38 : p 38) (h39 : p 39) (h40 : p 40) (h41 : p 41) (h42 : p 42) (h43 : p 43) (h44 : p 44) (h45 : p 45) (h46 : p 46) (h47 : p 47) (h48 : p 48) (h49 : p 49) (h50 : p 50) (h51 : p 51) (h52 : p 52) (h53 : p 53) (h54 : p 54) (h55 : p 55) (h56 : p 56) (h57 : p 57) (h58 : p 58) (h59 : p 59) (h60 : p 60) (h61 : p 61) (h62 : p 62) (h63 : p 63) (x : Nat) (hx : x < 64) : p x := by
 match x, hx with
 | 0, _ => exact h0
 | 1, _ => exact h1
 | 2, _ => exact h2
 | 3, _ => exact h3
 | 4, _ => exact h4
 | 5, _ => exact h5
 | 6, _ => exact h6
 | 7, _ => exact h7
 | 8, _ => exact h8
 | 9, _ => exact h9
 | 10, _ => exact h10
 | 11, _ => exact h11
 | 12, _ => exact h12
 | 13, _ => exact h13
 | 14, _ => exact h14
 | 15, _ => exact h15
 | 16, _ => exact h16
 | 17, _ => exact h17
 | 18, _ => exact h18
 | 19, _ => exact h19
 | 20, _ => exact h20
 | 21, _ => exact h21
 | 22, _ => exact h22
 | 23, _ => exact h23
 | 24, _ => exact h24
 | 25, _ => exact h25
 | 26, _ => exact h26
 | 27, _ => exact h27
 | 28, _ => exact h28
 | 29, _ => exact h29
 | 30, _ => exact h30
 | 31, _ => exact h31
 | 32, _ => exact h32
 | 33, _ => exact h33
 | 34, _ => exact h34
 | 35, _ => exact h35
 | 36, _ => exact h36
 | 37, _ => exact h37
 | 38, _ => exact h38
 | 39, _ => exact h39
 | 40, _ => exact h40
 | 41, _ => exact h41
 | 42, _ => exact h42
 | 43, _ => exact h43
 | 44, _ => exact h44
 | 45, _ => exact h45
 | 46, _ => exact h46
 | 47, _ => exact h47
 | 48, _ => exact h48
 | 49, _ => exact h49
 | 50, _ => exact h50
 | 51, _ => exact h51
 | 52, _ => exact h52
 | 53, _ => exact h53
 | 54, _ => exact h54
 | 55, _ => exact h55
 | 56, _ => exact h56
 | 57, _ => exact h57
 | 58, _ => exact h58
 | 59, _ => exact h59
 | 60, _ => exact h60
 | 61, _ => exact h61
 | 62, _ => exact h62
 | 63, _ => exact h63
 | x + 64, hx => exact absurd hx (by omega)
theorem AQ4 {p : Nat -> Prop} (h0 : p 0) (h1 : p 1) (h2 : p 2) (h3 : p 3) (h4 : p 4) (h5 : p 5) (h6 : p 6) (h7 : p 7) (h8 : p 8) (h9 : p 9) (h10 : p 10) (h11 : p 11) (h12 : p 12) (h13 : p 13) (h14 : p 14) (h15 : p 15) (h16 : p 16) (h17 : p 17) (h18 : p 18) (h19 : p 19) (h20 : p 20) (h21 : p 21) (h22 : p 22) (h23 : p 23) (h24 : p 24) (h25 : p 25) (h26 : p 26) (h27 : p 27) (h28 : p 28) (h29 : p 29) (h30 : p 30) (h31 : p 31) (h32 : p 32) (h33 : p 33) (h34 : p 34) (h35 : p 35) (h36 : p 36) (h37 : p 37) (h38 : p 38) (h39 : p 39) (h40 : p 40) (h41 : p 41) (h42 : p 42) (h43 : p 43) (h44 : p 44) (h45 : p 45) (h46 : p 46) (h47 : p 47) (h48 : p 48) (h49 : p 49) (h50 : p 50) (h51 : p 51) (h52 : p 52) (h53 : p 53) (h54 : p 54) (h55 : p 55) (h56 : p 56) (h57 : p 57) (h58 : p 58) (h59 : p 59) (h60 : p 60) (h61 : p 61) (h62 : p 62) (h63 : p 63) (h64 : p 64) (h65 : p 65) (h66 : p 66) (h67 : p 67) (h68 : p 68) (h69 : p 69) (h70 : p 70) (h71 : p 71) (h72 : p 72) (h73 : p 73) (h74 : p 74) (h75 : p 75) (h76 : p 76) (h77 : p 77) (h78 : p 78) (h79 : p 79) (h80 : p 80) (h81 : p 81) (x : Nat) (hx : x < 82) : p x := by
 match x, hx with
 | 0, _ => exact h0
 | 1, _ => exact h1
 | 2, _ => exact h2
 | 3, _ => exact h3
 | 4, _ => exact h4
 | 5, _ => exact h5
 | 6, _ => exact h6
 | 7, _ => exact h7
 | 8, _ => exact h8
 | 9, _ => exact h9
 | 10, _ => exact h10
 | 11, _ => exact h11
 | 12, _ => exact h12
 | 13, _ => exact h13
 | 14, _ => exact h14
 | 15, _ => exact h15
 | 16, _ => exact h16
 | 17, _ => exact h17
 | 18, _ => exact h18
 | 19, _ => exact h19
 | 20, _ => exact h20
 | 21, _ => exact h21
 | 22, _ => exact h22
 | 23, _ => exact h23
 | 24, _ => exact h24
 | 25, _ => exact h25
 | 26, _ => exact h26
 | 27, _ => exact h27
 | 28, _ => exact h28
 | 29, _ => exact h29
 | 30, _ => exact h30
 | 31, _ => exact h31
 | 32, _ => exact h32
 | 33, _ => exact h33
 | 34, _ => exact h34
 | 35, _ => exact h35
 | 36, _ => exact h36
 | 37, _ => exact h37
 | 38, _ => exact h38
 | 39, _ => exact h39
 | 40, _ => exact h40
 | 41, _ => exact h41
 | 42, _ => exact h42
 | 43, _ => exact h43
 | 44, _ => exact h44
 | 45, _ => exact h45
 | 46, _ => exact h46
 | 47, _ => exact h47
 | 48, _ => exact h48
 | 49, _ => exact h49
 | 50, _ => exact h50
 | 51, _ => exact h51
 | 52, _ => exact h52
 | 53, _ => exact h53
 | 54, _ => exact h54
 | 55, _ => exact h55
 | 56, _ => exact h56
 | 57, _ => exact h57
 | 58, _ => exact h58
 | 59, _ => exact h59
 | 60, _ => exact h60
 | 61, _ => exact h61
 | 62, _ => exact h62
 | 63, _ => exact h63
 | 64, _ => exact h64
 | 65, _ => exact h65
 | 66, _ => exact h66
 | 67, _ => exact h67
 | 68, _ => exact h68
 | 69, _ => exact h69
 | 70, _ => exact h70
 | 71, _ => exact h71
 | 72, _ => exact h72
 | 73, _ => exact h73
 | 74, _ => exact h74
 | 75, _ => exact h75
 | 76, _ => exact h76
 | 77, _ => exact h77
 | 78, _ => exact h78
 | 79, _ => exact h79
 | 80, _ => exact h80
 | 81, _ => exact h81
 | x + 82, hx => exact absurd hx (by omega)
end Go.Eng
namespace Go.Eng
@[congr] theorem AN9 {o o' : Option V} (f : V -> Prop) (h : o = o') : AU o f = AU o' f := by rw [h]
@[congr] theorem AOB {α : Type} {o o' : Option α} (f : α -> Prop) (h : o = o') : FM o f = FM o' f := by rw [h]
@[congr] theorem AOG {b b' : Bool} (p : Prop) (h : b = b') : Gn b p = Gn b' p := by rw [h]
@[congr] theorem AK8 {v v' : V} (b : Bool) (p q : Prop) (h : v = v') : Ac v b p q = Ac v' b p q := by rw [h]
@[congr] theorem AOA {c c' : V} {b : Bool} {e : Option V} (f : V -> Prop) (h : c = c') : Bg c b e f = Bg c' b e f := by rw [h]
@[congr] theorem ALq {c c' : V} {b : Bool} {t : KV -> Prop} {H : Heap} {n : Nat} (f : KV) (h : c = c') : KO c b t H n f = KO c' b t H n f := by rw [h]
@[congr] theorem AMB (F : T AF) (G : AP) (f : Nat) {a a' : List V} {H H' : Heap} {n n' : Nat} (k : KV) (h0 : a = a') (h1 : H = H') (h2 : n = n') : Runs F G f a H n k = Runs F G f a' H' n' k := by rw [h0, h1, h2]
theorem Au (v : V) (f : V -> Prop) : AU (some v) f = f v := rfl
theorem Wn {α : Type} (v : α) (f : α -> Prop) : FM (some v) f = f v := rfl
theorem ah (p : Prop) : Gn true p = p := rfl
theorem Bv (p q : Prop) : Ac (.bool true) true p q = p := rfl
theorem Bl (p q : Prop) : Ac (.bool false) true p q = q := rfl
theorem AUK (b : Bool) (p q : Prop) : Ac (.bool b) true p q = if b = true then p else q := by cases b <;> rfl
theorem AKr (e : Option V) (f : V -> Prop) : Bg (.bool true) true e f = AU e f := rfl
theorem AO6 (e : Option V) (f : V -> Prop) : Bg (.bool false) false e f = AU e f := rfl
theorem AQZ (e : Option V) (f : V -> Prop) : Bg (.bool true) false e f = f (.Gh []) := rfl
theorem AOf (e : Option V) (f : V -> Prop) : Bg (.bool false) true e f = f (.Gh []) := rfl
theorem AR7 (b : Bool) (e : Option V) (f : V -> Prop) : Bg (.Gh []) b e f = f (.Gh []) := rfl
theorem AOv (t : KV -> Prop) (H : Heap) (n : Nat) (f : KV) : KO (.bool true) true t H n f = t f := rfl
theorem AQA (t : KV -> Prop) (H : Heap) (n : Nat) (f : KV) : KO (.bool false) false t H n f = t f := rfl
theorem AQJ (t : KV -> Prop) (H : Heap) (n : Nat) (f : KV) : KO (.bool true) false t H n f = f (.Gh []) H n := rfl
theorem AO2 (t : KV -> Prop) (H : Heap) (n : Nat) (f : KV) : KO (.bool false) true t H n f = f (.Gh []) H n := rfl
theorem AR9 (b : Bool) (t : KV -> Prop) (H : Heap) (n : Nat) (f : KV) : KO (.Gh []) b t H n f = f (.Gh []) H n := rfl
theorem APB (b : Bool) : WR (.bool b) = some (.bool (!b)) := by cases b <;> rfl
theorem jr (a b : V) : Dc (.bool true) a b = some a := rfl
theorem AKU (a b : V) : Dc (.bool false) a b = some b := rfl
theorem Aw (off id o : Nat) : AX off (.ptr id o) = some (.ptr id (o + off)) := by show CW (Nat.add o off) _ = _; rw [BM]; rfl
theorem zW (off id o : Nat) : AX off (.gptr id o) = some (.gptr id (o + off)) := by show CW (Nat.add o off) _ = _; rw [BM]; rfl
theorem AKV (id o : Nat) : BF (.ptr id o) = some (.ptr id o) := rfl
theorem Z5 (a : V) (l : List V) : Zj (.Gh (a :: l)) 0 = some a := rfl
theorem Zo (a b : V) (l : List V) : Zj (.Gh (a :: b :: l)) 1 = some b := rfl
theorem ANe (a b c : V) (l : List V) : Zj (.Gh (a :: b :: c :: l)) 2 = some c := rfl
theorem pR (a : V) (G : AP) (H : Heap) : AZ a G H = Ll (lY a G H 1) fun L => nth L 0 := rfl
theorem wW (m : Nat) (a : V) (G : AP) (H : Heap) : BH m a G H = Ll (lY a G H m) fun L => some (.agg L) := rfl
theorem dY (id off : Nat) (G : AP) (H : Heap) (n : Nat) : lY (.ptr id off) G H n = ZU H id off n := rfl
theorem yw (L : LV) (f : LV -> Option V) : Ll (some L) f = f L := rfl
theorem AV5 {α : Type} (x : α) (l : List α) : nth (x :: l) 0 = some x := rfl
theorem AXs {α : Type} (x : α) (l : List α) (i : Nat) : nth (x :: l) (i + 1) = nth l i := rfl
noncomputable def one (L : LV) : OL := .arr L.length 1 (T.set .e 0 L)
theorem V6 {v : V} {H : Heap} {n : Nat} {P : KV} (h : Xm v = true) : Cb (JL v) H n P = P (.ptr n 0) (T.set H n (one (BP v))) (n + 1) := by
 show Gn (Xm v) (DK (len (BP v)) fun e => DK n fun n => P (.ptr n 0) (T.set H n (.arr e 1 (T.set .e 0 (BP v)))) (Nat.succ n)) = _
 rw [BO, BO, len_eq, h]
 rfl
theorem Jt {z : Nat} {L : LV} {H : Heap} {n : Nat} {P : KV} (h : L.length = z) : Cb (Ai z [L] E0) H n P = P (.ptr n 0) (T.set H n (one L)) (n + 1) := by
 show DK (len [L]) (fun m => DK n fun n => P (.ptr n 0) (T.set H n (.arr z m (EP [L] 0 .e))) (Nat.succ n)) = _
 rw [BO, BO, len_eq]
 subst h
 rfl
theorem AHc {H : Heap} {id : Nat} {L : LV} (h : T.get H id = some (one L)) {off m : Nat} (hm : 0 < m) (hl : off + m <= L.length) : ZU H id off m = some ((L.drop off).take m) := by
 unfold ZU
 rw [h]
 show ldB L.length 1 (T.set .e 0 L) off m = _
 unfold ldB
 have hdiv : off / L.length = 0 := Nat.div_eq_of_lt (by omega)
 have hmod : off % L.length = off := Nat.mod_eq_of_lt (by omega)
 have hb : Nat.blt (Nat.div off L.length) 1 = true := by rw [Nat.blt_eq]; show off / L.length < 1; omega
 rw [hb]
 show BK (T.get (T.set T.e 0 L) (Nat.div off L.length)) (ldC L.length off m) = _
 have hg2 : T.get (T.set T.e 0 L) (Nat.div off L.length) = some L := by
  show T.get (T.set T.e 0 L) (off / L.length) = some L
  rw [hdiv]; simp
 rw [hg2]
 show ldC L.length off m L = _
 unfold ldC
 cases hc : band (Nat.beq m L.length) (Nat.beq (Nat.mod off L.length) 0) with
 | true =>
  simp only [BU, Bool.and_eq_true, beq_iff] at hc
  obtain ⟨h1, h2⟩ := hc
  have h2' : off = 0 := by have : off % L.length = 0 := h2; omega
  subst h2'
  simp [h1]
 | false =>
  have hf : Nat.ble (Nat.add (Nat.mod off L.length) m) L.length = true := by
   rw [Nat.ble_eq]; show off % L.length + m <= L.length; omega
  rw [hf]
  show some (TG m (YC (Nat.mod off L.length) L)) = _
  rw [Vl, YJ]
  show some (List.take m (List.drop (off % L.length) L)) = _
  rw [hmod]
theorem ALc {H : Heap} {id : Nat} {L : LV} (h : T.get H id = some (one L)) {off m : Nat} {new : LV} (hm : 0 < m) (hn : new.length = m) (hl : off + m <= L.length) : stH H id off m new = some (T.set H id (one (L.take off ++ (new ++ L.drop (off + m))))) := by
 unfold stH
 rw [h]
 show BK (stB L.length 1 (T.set .e 0 L) off m new) (fun b => some (T.set H id b)) = _
 have hdiv : Nat.div off L.length = 0 := Nat.div_eq_of_lt (by omega)
 have hmod : Nat.mod off L.length = off := Nat.mod_eq_of_lt (by omega)
 have hs : stB L.length 1 (T.set .e 0 L) off m new = some (one (L.take off ++ (new ++ L.drop (off + m)))) := by
  unfold stB
  rw [hdiv]
  show BK (T.get (T.set T.e 0 L) 0) (vY new L.length 1 (T.set .e 0 L) off m) = _
  rw [T.Ap]
  show vY new L.length 1 (T.set .e 0 L) off m L = _
  unfold vY
  rw [hmod, hdiv]
  have hlen : (L.take off ++ (new ++ L.drop (off + m))).length = L.length := by simp; omega
  cases hc : band (Nat.beq m L.length) (Nat.beq off 0) with
  | true =>
   simp only [BU, Bool.and_eq_true, beq_iff] at hc
   obtain ⟨h1, h2⟩ := hc
   subst h2
   show some (OL.arr L.length 1 (T.set (T.set T.e 0 L) 0 new)) = _
   unfold one
   rw [hlen]
   have : List.take 0 L ++ (new ++ List.drop (0 + m) L) = new := by simp [h1]
   rw [this]; rfl
  | false =>
   have hf : Nat.ble (Nat.add off m) L.length = true := by rw [Nat.ble_eq]; exact hl
   rw [hf]
   show some (OL.arr L.length 1 (T.set (T.set T.e 0 L) 0 (ABh new off L))) = _
   unfold one
   rw [hlen, AAg, hn]; rfl
 rw [hs]
 rfl
theorem BZ {F : T AF} {G : AP} {f : Nat} {af : AF} {s : SF} (hf : T.get F f = some af) (hs : iV G af s) {args : List V} {H : Heap} {n : Nat} {k : KV} (h : s (Runs F G) args H n k) : Runs F G f args H n k :=
 Yr hf (hs _ _ (fun _ _ _ _ _ h => h) (V8 F G) _ _ _ _ h)
end Go.Eng
namespace Go.Eng
noncomputable def goN (x : X) (b : Bool) (d : Zn) (o : AN) : oL := fun G _ R H n k => Bg (x.ev R) b (o.ev G R H) fun v => k (Eb d v R) H n
noncomputable def goA (x : X) (b : Bool) (d : Zn) (o : AA) : oL := fun _ _ R H n k => KO (x.ev R) b (Cb (o.al R) H n) H n fun v H n => k (Eb d v R) H n
noncomputable def goE (x : X) (b : Bool) (d : Zn) (o : AE) : oL := fun G call R H n k => KO (x.ev R) b (o.ex G call R H n) H n fun v H n => k (Eb d v R) H n
noncomputable def ASl (x : X) (b : Bool) (d : Zn) (o : AO) : oL := AO.rec (motive := fun _ => oL) (goN x b d) (goA x b d) (goE x b d) o
noncomputable def oAG (o : AA) : XoT := fun _ _ d R H n k => Cb (o.al R) H n fun v H n => k (Eb d v R) H n
noncomputable def AO.yO (o : AO) : XoT := AO.rec (motive := fun _ => XoT) oN oAG oE o
noncomputable def AS3 (d : Zn) (o : AO) : oL := fun G call R H n k => o.yO G call d R H n k
noncomputable def iY.yO (o : iY) : oL := iY.rec (motive := fun _ => oL) (fun d g o => Gd.rec (motive := fun _ => Zn -> AO -> oL) AS3 ASl g d o) o
theorem AD5 (o : iY) : o.yO = o.ex := by
 obtain ⟨d, g, o⟩ := o
 cases g <;> cases o <;> rfl
noncomputable def ADE (l : List iY) : oL :=
 List.rec (motive := fun _ => oL) (fun _ _ R H n k => k R H n) (fun o _ g G call R H n k => o.yO G call R H n fun R H n => g G call R H n k) l
theorem ADt : ∀ l : List iY, ADE l = Bd l
 | [] => rfl
 | o :: l => by
  show (fun G call R H n k => o.yO G call R H n fun R H n => ADE l G call R H n k) = fun G call R H n k => o.ex G call R H n fun R H n => Bd l G call R H n k
  rw [ADt l, AD5]
noncomputable def AOk (x : X) (b : Bool) : ReT := fun G R H d o k => Vd (x.ev R) b (o.ev G R H) (KD (T.DU d R.rg)) k
noncomputable def AOx (g : Gd) : ReT := Gd.rec (motive := fun _ => ReT) AQm AOk g
noncomputable def AI.yO (i : AI) : oL := AI.rec (motive := fun _ => oL) (fun o => o.yO) (fun d g o G _ R H n k => AOx g G R H d o (k R H n)) i
theorem AL3 (i : AI) : i.yO = i.ex := by
 cases i with
 | op o => exact AD5 o
 | re d g o => cases g <;> rfl
noncomputable def tC (l : List AI) : oL :=
 List.rec (motive := fun _ => oL) (fun _ _ R H n k => k R H n) (fun i _ g G call R H n k => i.yO G call R H n fun R H n => g G call R H n k) l
theorem xP : ∀ l : List AI, tC l = AY l
 | [] => rfl
 | o :: l => by
  show (fun G call R H n k => o.yO G call R H n fun R H n => tC l G call R H n k) = fun G call R H n k => o.ex G call R H n fun R H n => AY l G call R H n k
  rw [xP l, AL3]
noncomputable def AHI (l : List iY) : M := fun G call _ R H n k _ _ => ADE l G call (.mk [] R) H n fun E H n => k E.rg H n
noncomputable def AGn (l : List AI) : M := fun G call _ R H n k _ _ => tC l G call (.mk [] R) H n fun E H n => k E.rg H n
noncomputable def AC.yO (c : AC) : M := AC.rec (motive := fun _ => M) Bz AHI AGn AGc AAw sV AAL AIA ANQ c
theorem gW : ∀ c : AC, c.yO = c.Sr
 | .skip => rfl
 | .ops l => by show AHI l = AJn l; unfold AHI AJn; rw [ADt]
 | .reg l => by show AGn l = AKN l; unfold AGn AKN; rw [xP]
 | .seq a b => by show AGc a b a.yO b.yO = AGc a b a.Sr b.Sr; rw [gW a, gW b]
 | .cond x a b => by show AAw x a b a.yO b.yO = AAw x a b a.Sr b.Sr; rw [gW a, gW b]
 | .block i a => by show sV i a a.yO = sV i a a.Sr; rw [gW a]
 | .loop a => by show AAL a a.yO = AAL a a.Sr; rw [gW a]
 | .exit i => rfl
 | .ret => rfl
inductive An : Type 1 where
 | n
 | s (a b : An)
 | j (S : K) (a b : An)
 | c (a b : An)
 | b (a : An)
 | l (σ : Type) (bd : (σ -> Prop) -> σ -> Prop) (st : FT -> Heap -> Nat -> σ) (a : (σ -> Prop) -> An)
abbrev M2 := AC -> AP -> AQ -> FT -> Heap -> Nat -> K -> KX -> K -> Prop
noncomputable def AC.ABa (c : AC) (f : AC -> AC -> Prop) : Prop := AC.rec (motive := fun _ => Prop) False (fun _ => False) (fun _ => False) (fun a b _ _ => f a b) (fun _ _ _ _ _ => False) (fun _ _ _ => False) (fun _ _ => False) (fun _ => False) False c
noncomputable def AC.ACa (c : AC) (f : X -> AC -> AC -> Prop) : Prop := AC.rec (motive := fun _ => Prop) False (fun _ => False) (fun _ => False) (fun _ _ _ _ => False) (fun x a b _ _ => f x a b) (fun _ _ _ => False) (fun _ _ => False) (fun _ => False) False c
noncomputable def AC.zN (c : AC) (f : Nat -> AC -> Prop) : Prop := AC.rec (motive := fun _ => Prop) False (fun _ => False) (fun _ => False) (fun _ _ _ _ => False) (fun _ _ _ _ _ => False) (fun i a _ => f i a) (fun _ _ => False) (fun _ => False) False c
noncomputable def AC.ADB (c : AC) (f : AC -> Prop) : Prop := AC.rec (motive := fun _ => Prop) False (fun _ => False) (fun _ => False) (fun _ _ _ _ => False) (fun _ _ _ _ _ => False) (fun _ _ _ => False) (fun a _ => f a) (fun _ => False) False c
noncomputable def An.ex (L : BA) (an : An) : M2 :=
 An.rec (motive := fun _ => M2)
  (fun c G call R H n k x r => c.yO G call 0 R H n k x r)
  (fun _ _ ga gb c G call R H n k x r => c.ABa fun a b => ga a G call R H n (fun R H n => gb b G call R H n k x r) x r)
  (fun S _ _ ga _ c G call R H n _ x r => c.ABa fun a _ => ga a G call R H n S x r)
  (fun _ _ ga gb c G call R H n k x r => c.ACa fun y a b => Ac (y.ev (.mk [] R)) true (ga a G call R H n k x r) (gb b G call R H n k x r))
  (fun _ ga c G call R H n k x r => c.zN fun i a => ga a G call R H n k (EC i k x) r)
  (fun σ bd st _ _ c _ _ R H n _ _ _ => c.ADB fun _ => L σ bd (st R H n)) an
abbrev M3 := AC -> AP -> AQ -> K -> KX -> K -> Prop
noncomputable def An.ob (L : BA) (an : An) : M3 :=
 An.rec (motive := fun _ => M3)
  (fun _ _ _ _ _ _ => True)
  (fun _ b ga gb c G call k x r => c.ABa fun a d => ga a G call (fun R H n => b.ex L d G call R H n k x r) x r /\ gb d G call k x r)
  (fun S _ b ga gb c G call k x r => c.ABa fun a d => ga a G call S x r /\ (∀ R H n, S R H n = b.ex L d G call R H n k x r) /\ gb d G call k x r)
  (fun _ _ ga gb c G call k x r => c.ACa fun _ a b => ga a G call k x r /\ gb b G call k x r)
  (fun _ ga c G call k x r => c.zN fun i a => ga a G call k (EC i k x) r)
  (fun σ bd st a ga c G call _ x r => c.ADB fun d => ∀ ih : σ -> Prop, (∀ R H n, bd ih (st R H n) = (a ih).ex L d G call R H n (fun R H n => ih (st R H n)) x r) /\ ga ih d G call (fun R H n => ih (st R H n)) x r) an
noncomputable def AC.AGZ (c : AC) (f : AC -> AC -> Prop) : Prop := AC.rec (motive := fun _ => Prop) True (fun _ => True) (fun _ => True) (fun a b _ _ => f a b) (fun _ _ _ _ _ => True) (fun _ _ _ => True) (fun _ _ => True) (fun _ => True) True c
noncomputable def AC.AIV (c : AC) (f : X -> AC -> AC -> Prop) : Prop := AC.rec (motive := fun _ => Prop) True (fun _ => True) (fun _ => True) (fun _ _ _ _ => True) (fun x a b _ _ => f x a b) (fun _ _ _ => True) (fun _ _ => True) (fun _ => True) True c
noncomputable def AC.AG4 (c : AC) (f : Nat -> AC -> Prop) : Prop := AC.rec (motive := fun _ => Prop) True (fun _ => True) (fun _ => True) (fun _ _ _ _ => True) (fun _ _ _ _ _ => True) (fun i a _ => f i a) (fun _ _ => True) (fun _ => True) True c
noncomputable def AC.AIu (c : AC) (f : AC -> Prop) : Prop := AC.rec (motive := fun _ => Prop) True (fun _ => True) (fun _ => True) (fun _ _ _ _ => True) (fun _ _ _ _ _ => True) (fun _ _ _ => True) (fun a _ => f a) (fun _ => True) True c
noncomputable def An.obR (L : BA) (an : An) : M3 :=
 An.rec (motive := fun _ => M3)
  (fun _ _ _ _ _ _ => True)
  (fun _ b ga gb c G call k x r => c.AGZ fun a d => ga a G call (fun R H n => b.ex L d G call R H n k x r) x r /\ gb d G call k x r)
  (fun S _ b ga gb c G call k x r => c.AGZ fun a d => ga a G call S x r /\ (∀ R H n, S R H n = S R H n) /\ gb d G call k x r)
  (fun _ _ ga gb c G call k x r => c.AIV fun _ a b => ga a G call k x r /\ gb b G call k x r)
  (fun _ ga c G call k x r => c.AG4 fun i a => ga a G call k (EC i k x) r)
  (fun σ bd st a ga c G call _ x r => c.AIu fun d => ∀ ih : σ -> Prop, (∀ R H n, bd ih (st R H n) = bd ih (st R H n)) /\ ga ih d G call (fun R H n => ih (st R H n)) x r) an
theorem An.ANG (L : BA) (an : An) : ∀ c G call k x r, an.obR L c G call k x r := by
 induction an with
 | n => exact fun _ _ _ _ _ _ => trivial
 | s a b iha ihb => intro c; cases c <;> first | exact fun _ _ _ _ _ => trivial | exact fun G call k x r => ⟨iha _ _ _ _ _ _, ihb _ _ _ _ _ _⟩
 | j S a b iha ihb => intro c; cases c <;> first | exact fun _ _ _ _ _ => trivial | exact fun G call k x r => ⟨iha _ _ _ _ _ _, fun _ _ _ => rfl, ihb _ _ _ _ _ _⟩
 | c a b iha ihb => intro c; cases c <;> first | exact fun _ _ _ _ _ => trivial | exact fun G call k x r => ⟨iha _ _ _ _ _ _, ihb _ _ _ _ _ _⟩
 | b a iha => intro c; cases c <;> first | exact fun _ _ _ _ _ => trivial | exact fun G call k x r => iha _ _ _ _ _ _
 | l σ bd st a iha => intro c; cases c <;> first | exact fun _ _ _ _ _ => trivial | exact fun G call k x r ih => ⟨fun _ _ _ => rfl, iha ih _ _ _ _ _ _⟩
theorem xU {c : AC} {f : AC -> AC -> Prop} (h : c.ABa f) : ∃ a b, c = .seq a b /\ f a b := by
 cases c <;> first | exact ⟨_, _, rfl, h⟩ | exact (show False from h).elim
theorem ACj {c : AC} {f : X -> AC -> AC -> Prop} (h : c.ACa f) : ∃ x a b, c = .cond x a b /\ f x a b := by
 cases c <;> first | exact ⟨_, _, _, rfl, h⟩ | exact (show False from h).elim
theorem ABs {c : AC} {f : Nat -> AC -> Prop} (h : c.zN f) : ∃ i a, c = .block i a /\ f i a := by
 cases c <;> first | exact ⟨_, _, rfl, h⟩ | exact (show False from h).elim
theorem AC1 {c : AC} {f : AC -> Prop} (h : c.ADB f) : ∃ a, c = .loop a /\ f a := by
 cases c <;> first | exact ⟨_, rfl, h⟩ | exact (show False from h).elim
section
variable {G : AP} {call callE : AQ}
theorem AJF {c : AC} {R : FT} {H : Heap} {n : Nat} {k : K} {x : KX} {r : K} (h : c.yO G call 0 R H n k x r) : c.Sr G call 0 R H n k x r := by rwa [gW] at h
theorem iW (hle : ET call callE) (hd : CQ callE) : ∀ (c : AC) (R : FT) (H : Heap) (n : Nat) (k k' : K) (x x' : KX) (r r' : K), (∀ R H n, k R H n -> k' R H n) -> (∀ i R H n, x i R H n -> x' i R H n) -> (∀ R H n, r R H n -> r' R H n) ->
    c.Sr G call 0 R H n k x r -> c.Sr G callE 0 R H n k' x' r'
  | .skip, R, H, n, k, k', x, x', r, r', hk, hx, hr, h => hk _ _ _ h
  | .ops l, R, H, n, k, k', x, x', r, r', hk, hx, hr, h => ABf hd l _ H n (fun E H n h => hk _ _ _ h) (ACn hd hle G l _ H n _ h)
  | .reg l, R, H, n, k, k', x, x', r, r', hk, hx, hr, h => rW hd l _ H n (fun E H n h => hk _ _ _ h) (sQ hd hle G l _ H n _ h)
  | .seq a b, R, H, n, k, k', x, x', r, r', hk, hx, hr, h => iW hle hd a R H n _ _ x x' r r' (fun R H n h => iW hle hd b R H n k k' x x' r r' hk hx hr h) hx hr h
  | .cond c a b, R, H, n, k, k', x, x', r, r', hk, hx, hr, h => by
    have h' : Ac (c.ev (.mk [] R)) true (a.Sr G call 0 R H n k x r) (b.Sr G call 0 R H n k x r) := h
    show Ac (c.ev (.mk [] R)) true (a.Sr G callE 0 R H n k' x' r') (b.Sr G callE 0 R H n k' x' r')
    exact jH h' (iW hle hd a R H n k k' x x' r r' hk hx hr) (iW hle hd b R H n k k' x x' r r' hk hx hr)
  | .block id a, R, H, n, k, k', x, x', r, r', hk, hx, hr, h => by
    refine iW hle hd a R H n k k' (EC id k x) (EC id k' x') r r' hk (fun i R H n h => ?_) hr h
    unfold EC at h ⊢
    cases hb : Nat.beq i id with
    | true => rw [hb] at h; exact hk _ _ _ h
    | false => rw [hb] at h; exact hx _ _ _ _ h
  | .loop a, R, H, n, k, k', x, x', r, r', hk, hx, hr, h => by
    intro I hI
    exact h I fun R H n hb => hI R H n (iW hle hd a R H n I I x x' r r' (fun _ _ _ h => h) hx hr hb)
  | .exit i, R, H, n, k, k', x, x', r, r', hk, hx, hr, h => hx _ _ _ _ h
  | .ret, R, H, n, k, k', x, x', r, r', hk, hx, hr, h => hr _ _ _ h
theorem An.ok {L : BA} (hL : Dk L) (hle : ET call callE) (hd : CQ callE) (an : An) : ∀ (c : AC) (k k' : K) (x x' : KX) (r r' : K), (∀ R H n, k R H n -> k' R H n) -> (∀ i R H n, x i R H n -> x' i R H n) -> (∀ R H n, r R H n -> r' R H n) ->
    an.ob L c G call k x r -> ∀ R H n, an.ex L c G call R H n k x r -> c.Sr G callE 0 R H n k' x' r' := by
  induction an with
  | n => exact fun c k k' x x' r r' hk hx hr _ R H n h => iW hle hd c R H n k k' x x' r r' hk hx hr (AJF h)
  | s a b iha ihb =>
    intro c k k' x x' r r' hk hx hr ho R H n h
    obtain ⟨c1, c2, rfl, ho⟩ := xU ho
    exact iha c1 _ _ x x' r r' (fun R H n h => ihb c2 k k' x x' r r' hk hx hr ho.2 R H n h) hx hr ho.1 R H n h
  | j S a b iha ihb =>
    intro c k k' x x' r r' hk hx hr ho R H n h
    obtain ⟨c1, c2, rfl, ho⟩ := xU ho
    exact iha c1 S (fun R H n => c2.Sr G callE 0 R H n k' x' r') x x' r r' (fun R H n h => ihb c2 k k' x x' r r' hk hx hr ho.2.2 R H n (ho.2.1 R H n ▸ h)) hx hr ho.1 R H n h
  | c a b iha ihb =>
    intro c k k' x x' r r' hk hx hr ho R H n h
    obtain ⟨y, c1, c2, rfl, ho⟩ := ACj ho
    exact jH (P' := c1.Sr G callE 0 R H n k' x' r') (Q' := c2.Sr G callE 0 R H n k' x' r') h (fun h => iha c1 k k' x x' r r' hk hx hr ho.1 R H n h) (fun h => ihb c2 k k' x x' r r' hk hx hr ho.2 R H n h)
  | b a iha =>
    intro c k k' x x' r r' hk hx hr ho R H n h
    obtain ⟨i, c1, rfl, ho⟩ := ABs ho
    refine iha c1 k k' (EC i k x) (EC i k' x') r r' hk (fun j R H n h => ?_) hr ho R H n h
    unfold EC at h ⊢
    cases hb : Nat.beq j i with
    | true => rw [hb] at h; exact hk _ _ _ h
    | false => rw [hb] at h; exact hx _ _ _ _ h
  | l σ bd st a iha =>
    intro c k k' x x' r r' hk hx hr ho R H n h
    obtain ⟨c1, rfl, ho⟩ := AC1 ho
    intro I hI
    have h' : L σ bd (st R H n) := h
    refine hL σ bd (fun s => ∀ R H n, st R H n = s -> I R H n) (fun ih hih s hs R H n e => ?_) _ h' R H n rfl
    subst e
    rw [(ho ih).1] at hs
    exact hI R H n (iha ih c1 (fun R H n => ih (st R H n)) I x x' r r' (fun R H n h => hih _ h R H n rfl) hx hr (ho ih).2 R H n hs)
end
noncomputable def fEx (L : BA) (an : An) (af : AF) (G : AP) (call : AQ) (args : List V) (H : Heap) (n : Nat) (k : KV) : Prop :=
 AF.rec (motive := fun _ => Prop) (fun np code res d dg => Gn (Nat.beq (len args) np) (an.ex L code G call (XA args 0 .e) H n (GK res dg d G call k) noX (GK res dg d G call k))) af
noncomputable def fOb (L : BA) (an : An) (af : AF) (G : AP) (call : AQ) (k : KV) : Prop :=
 AF.rec (motive := fun _ => Prop) (fun _ code res d dg => an.ob L code G call (GK res dg d G call k) noX (GK res dg d G call k)) af
noncomputable def ATF (L : BA) (an : An) (af : AF) (G : AP) (call : AQ) (k : KV) : Prop :=
 AF.rec (motive := fun _ => Prop) (fun _ code res d dg => an.obR L code G call (GK res dg d G call k) noX (GK res dg d G call k)) af
theorem obs {L : BA} {an : An} {af : AF} {G : AP} {call : AQ} {k : KV} (h : ATF L an af G call k = fOb L an af G call k) : fOb L an af G call k := by
 rw [<- h]; cases af; exact An.ANG ..
theorem Yx {L : BA} (hL : Dk L) {G : AP} {call callE : AQ} (hle : ET call callE) (hd : CQ callE) {an : An} {af : AF} {args : List V} {H : Heap} {n : Nat} {k : KV} (ho : fOb L an af G call k) (h : fEx L an af G call args H n k) : nG af G callE args H n k := by
 obtain ⟨np, code, res, d, dg⟩ := af
 have h' : Gn (Nat.beq (len args) np) (an.ex L code G call (XA args 0 .e) H n (GK res dg d G call k) noX (GK res dg d G call k)) := h
 show Gn (Nat.beq (len args) np) (code.Sr G callE 0 (XA args 0 .e) H n (GK res dg d G callE k) noX (GK res dg d G callE k))
 rw [EN] at h' ⊢
 exact ⟨h'.1, An.ok hL hle hd an code _ _ _ _ _ _ (fun R H n h => YF hd hle res dg d G k R H n h) (fun _ _ _ _ h => h) (fun R H n h => YF hd hle res dg d G k R H n h) ho _ _ _ h'.2⟩
section
variable {L : BA} (hL : Dk L) {G : AP} {af : AF} {an : AQ -> KV -> An} (ho : ∀ call k, fOb L (an call k) af G call k)
include hL ho
theorem sf0 {s : AQ -> Heap -> Nat -> KV -> Prop} (h : ∀ call H n k, s call H n k = fEx L (an call k) af G call [] H n k) : iV G af (ar0 s) := fun call callE hle hd l H n k hs => by
 obtain ⟨rfl, hs⟩ := AEh hs; exact Yx hL hle hd (ho call k) (h .. ▸ hs)
theorem Xi {s : AQ -> V -> Heap -> Nat -> KV -> Prop} (h : ∀ call a0 H n k, s call a0 H n k = fEx L (an call k) af G call [a0] H n k) : iV G af (Eu s) := fun call callE hle hd l H n k hs => by
 obtain ⟨a0, rfl, hs⟩ := AD1 hs; exact Yx hL hle hd (ho call k) (h .. ▸ hs)
theorem sf2 {s : AQ -> V -> V -> Heap -> Nat -> KV -> Prop} (h : ∀ call a0 a1 H n k, s call a0 a1 H n k = fEx L (an call k) af G call [a0, a1] H n k) : iV G af (QM s) := fun call callE hle hd l H n k hs => by
 obtain ⟨a0, a1, rfl, hs⟩ := AD9 hs; exact Yx hL hle hd (ho call k) (h .. ▸ hs)
theorem sf3 {s : AQ -> V -> V -> V -> Heap -> Nat -> KV -> Prop} (h : ∀ call a0 a1 a2 H n k, s call a0 a1 a2 H n k = fEx L (an call k) af G call [a0, a1, a2] H n k) : iV G af (ar3 s) := fun call callE hle hd l H n k hs => by
 obtain ⟨a0, a1, a2, rfl, hs⟩ := AEi hs; exact Yx hL hle hd (ho call k) (h .. ▸ hs)
theorem sf4 {s : AQ -> V -> V -> V -> V -> Heap -> Nat -> KV -> Prop} (h : ∀ call a0 a1 a2 a3 H n k, s call a0 a1 a2 a3 H n k = fEx L (an call k) af G call [a0, a1, a2, a3] H n k) : iV G af (ar4 s) := fun call callE hle hd l H n k hs => by
 obtain ⟨a0, a1, a2, a3, rfl, hs⟩ := ADr hs; exact Yx hL hle hd (ho call k) (h .. ▸ hs)
theorem sf5 {s : AQ -> V -> V -> V -> V -> V -> Heap -> Nat -> KV -> Prop} (h : ∀ call a0 a1 a2 a3 a4 H n k, s call a0 a1 a2 a3 a4 H n k = fEx L (an call k) af G call [a0, a1, a2, a3, a4] H n k) : iV G af (ar5 s) := fun call callE hle hd l H n k hs => by
 obtain ⟨a0, a1, a2, a3, a4, rfl, hs⟩ := ADy hs; exact Yx hL hle hd (ho call k) (h .. ▸ hs)
theorem sf6 {s : AQ -> V -> V -> V -> V -> V -> V -> Heap -> Nat -> KV -> Prop} (h : ∀ call a0 a1 a2 a3 a4 a5 H n k, s call a0 a1 a2 a3 a4 a5 H n k = fEx L (an call k) af G call [a0, a1, a2, a3, a4, a5] H n k) : iV G af (ar6 s) := fun call callE hle hd l H n k hs => by
 obtain ⟨a0, a1, a2, a3, a4, a5, rfl, hs⟩ := AEk hs; exact Yx hL hle hd (ho call k) (h .. ▸ hs)
theorem sf7 {s : AQ -> V -> V -> V -> V -> V -> V -> V -> Heap -> Nat -> KV -> Prop} (h : ∀ call a0 a1 a2 a3 a4 a5 a6 H n k, s call a0 a1 a2 a3 a4 a5 a6 H n k = fEx L (an call k) af G call [a0, a1, a2, a3, a4, a5, a6] H n k) : iV G af (ar7 s) := fun call callE hle hd l H n k hs => by
 obtain ⟨a0, a1, a2, a3, a4, a5, a6, rfl, hs⟩ := AED hs; exact Yx hL hle hd (ho call k) (h .. ▸ hs)
theorem sf8 {s : AQ -> V -> V -> V -> V -> V -> V -> V -> V -> Heap -> Nat -> KV -> Prop} (h : ∀ call a0 a1 a2 a3 a4 a5 a6 a7 H n k, s call a0 a1 a2 a3 a4 a5 a6 a7 H n k = fEx L (an call k) af G call [a0, a1, a2, a3, a4, a5, a6, a7] H n k) : iV G af (ar8 s) := fun call callE hle hd l H n k hs => by
 obtain ⟨a0, a1, a2, a3, a4, a5, a6, a7, rfl, hs⟩ := ADn hs; exact Yx hL hle hd (ho call k) (h .. ▸ hs)
end
end Go.Eng
namespace Go.Eng
def inR (l : List (Nat × Nat)) (t : Nat) : Bool := l.any fun p => Nat.ble p.1 t && Nat.ble t p.2
def opp (l : List Nat) : List (Nat × Wk) := l.map fun j => (j, .plain)
def Zm (n : Nat) : List (Nat × Wk) := opp (List.range n)
def CO (o : Option AF) : AF := o.getD (.mk 0 .skip [] .no 0)
theorem Af {o : Option AF} (h : o.isSome = true) : o = some (CO o) := by
 cases o with
 | none => cases h
 | some a => rfl
end Go.Eng
namespace Go.Eng
theorem iT.one {P : Program} {F : T AF} {f : Nat} {af : AF} {fn : Func} {loc : Nat -> Bool} {df : Bool} {ords : ACy} {dg : Nat} (hf : P.funcs[f]? = some fn) (hn : (fn.name == "runtime.NumGoroutine") = false)
    (ht : trF P loc df ords dg fn = some af) (hd : af.dg = dg) (hi : AFO af.dp = true) : iT P F f af := ⟨⟨fn, loc, df, ords, hf, hn, hd ▸ ht⟩, .inl hi⟩
theorem iT.two {P : Program} {F : T AF} {f : Nat} {af af' : AF} {fn : Func} {loc : Nat -> Bool} {df : Bool} {ords : ACy} {dg : Nat} (hf : P.funcs[f]? = some fn) (hn : (fn.name == "runtime.NumGoroutine") = false)
    (ht : trF P loc df ords dg fn = some af) (hd : af.dg = dg) (ha : T.get F dg = some af') (hi : AFO af'.dp = true) : iT P F f af := ⟨⟨fn, loc, df, ords, hf, hn, hd ▸ ht⟩, .inr ⟨af', hd ▸ ha, hi⟩⟩
end Go.Eng
namespace Go.Eng
noncomputable def ATZ (b : Bool) (v : V) (p q : Prop) : Prop := v = .bool b /\ Bool.rec (motive := fun _ => Prop) q p b
theorem AQ6 {b : Bool} {v : V} {p q : Prop} (h : ATZ b v p q) : Ac v true p q := by
 obtain ⟨rfl, h⟩ := h
 cases b <;> exact h
noncomputable def APv (b : Bool) (e : Option V) (P : V -> Prop) : Prop := e = some (.bool b) /\ P (.bool b)
theorem AKe {b : Bool} {e : Option V} {P : V -> Prop} (h : APv b e P) : AU e P := by
 obtain ⟨rfl, h⟩ := h; exact h
noncomputable def ARs (c : V) (g b : Bool) (e : Option V) (P : V -> Prop) : Prop := Xn c g (APv b e P) (P (.Gh []))
theorem ARk {c : V} {g b : Bool} {e : Option V} {P : V -> Prop} (h : ARs c g b e P) : Bg c g e P := EF h AKe (fun h => h)
noncomputable def ATS (i : Nat) (e : Option V) (P : Prop) : Prop := e = some (.int .i64 (.ofNat i) 0) /\ P
theorem ARD {i : Nat} {e : Option V} {P : Prop} (h : ATS i e P) : AU e fun v => v = .int .i64 (.ofNat i) 0 /\ P := by
 obtain ⟨rfl, h⟩ := h; exact ⟨rfl, h⟩
noncomputable def AR3 (b : Bool) (s : SF) : SF := fun call args H n k =>
 List.rec (motive := fun _ => Prop) False (fun v l _ => v = .bool b /\ s call (.bool b :: l) H n k) args
theorem ARO {G : AP} {af : AF} {b : Bool} {s : SF} (h : iV G af s) : iV G af (AR3 b s) := fun call callE hle hd args H n k hs => by
 cases args with
 | nil => exact (show False from hs).elim
 | cons v l =>
  obtain ⟨rfl, hq⟩ := (show v = .bool b /\ s call (.bool b :: l) H n k from hs)
  exact h _ _ hle hd _ _ _ _ hq
theorem ABZ.set {F : T AF} {G : AP} {FS : T SF} (h : ABZ F G FS) {f : Nat} {af : AF} (hf : T.get F f = some af) {s : SF} (hs : iV G af s) : ABZ F G (T.set FS f s) := fun g s' hg => by
 rw [T.Lp] at hg
 split at hg
 ·rename_i e; subst e; cases hg; exact ⟨af, hf, hs⟩
 ·exact h g s' hg
end Go.Eng
namespace Go.Eng
theorem AVL (x y : Int) : B2.ev .lss (.int .i64 x 0) (.int .i64 y 0) = some (.bool (decide (x < y))) := by
 show mkB (ilt x y) = _
 rw [bH, Yk]
theorem AUp (x y : Int) : B2.ev .leq (.int .i64 x 0) (.int .i64 y 0) = some (.bool (decide (x <= y))) := by
 show mkB (ile x y) = _
 rw [bH, ACI]
theorem eq_i (x y : Int) : Hz (.one .int) false (.int .i64 x 0) (.int .i64 y 0) = some (.bool (x == y)) := by
 show ofB (Wj (some (ieq x y)) fun b => some b) = _
 rw [Qo]; cases x == y <;> rfl
theorem AQe (x y : Int) : Hz (.one .int) true (.int .i64 x 0) (.int .i64 y 0) = some (.bool (!(x == y))) := by
 show ofB (Wj (some (ieq x y)) fun b => some (Ue b)) = _
 rw [Qo]; cases x == y <;> rfl
theorem eq_self (x : Int) : Hz (.one .int) false (.int .i64 x 0) (.int .i64 x 0) = some (.bool true) := by rw [eq_i]; simp
theorem AOw (x : Int) : Hz (.one .int) true (.int .i64 x 0) (.int .i64 x 0) = some (.bool false) := by rw [AQe]; simp
theorem wrap64 (a : Int) : IntKind.wrap .i64 a = if 9223372036854775808 <= a % 18446744073709551616 then a % 18446744073709551616 - 18446744073709551616 else a % 18446744073709551616 := by
 show (if (true && decide (a % 18446744073709551616 ≥ 9223372036854775808)) = true then a % 18446744073709551616 - 18446744073709551616 else a % 18446744073709551616) = _
 by_cases h : 9223372036854775808 <= a % 18446744073709551616
 ·rw [if_pos h, if_pos (by simpa using h)]
 ·rw [if_neg h, if_neg (by simpa using h)]
theorem AMn (a : Int) : (IntKind.wrap .i64 a) % 18446744073709551616 = a % 18446744073709551616 := by
 rw [wrap64]; split <;> omega
theorem Vf {x : Int} (h1 : -9223372036854775808 <= x) (h2 : x < 9223372036854775808) : IntKind.wrap .i64 x = x := by
 rw [wrap64]; split <;> omega
theorem AJw {a b : Int} (h : a % 18446744073709551616 = b % 18446744073709551616) : IntKind.wrap .i64 a = IntKind.wrap .i64 b := by
 rw [wrap64, wrap64, h]
theorem ATw {x : Int} (h : (Lit.int .i64 x).wf = true) : -9223372036854775808 <= x /\ x < 9223372036854775808 := by
 have h' : (decide (-9223372036854775808 <= x) && decide (x <= 9223372036854775807)) = true := h
 simp at h'
 omega
theorem AN0 {F : T AF} {G : AP} {FS : T SF} (h : ABZ F G FS) {f : Nat} {af : AF} (hf : T.get F f = some af) {a : List V} (m : Nat) {t : KV -> Prop} (hs : ∀ callE, ET (AGp FS m) callE -> CQ callE -> t O5 -> nG af G callE a .e 0 O5) (hr : t O5) :
    Runs F G f a .e 0 fun v _ _ => v = .bool true :=
  eG (k := O5) (fun _ _ _ hv => rD hv) (Yr hf (hs _ (qX h m) (V8 F G) hr))
end Go.Eng
