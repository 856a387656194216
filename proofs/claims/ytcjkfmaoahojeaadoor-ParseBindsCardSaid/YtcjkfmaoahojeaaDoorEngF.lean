/- Part of a proof: texts En45 En46 En47 En48 En49 En50 En51 En52 En53 of the engine and what is proved with it; nothing is assumed. -/
import Derived.Test.YtcjkfmaoahojeaaDoorEngE
set_option linter.unusedVariables false
set_option linter.unusedSimpArgs false
namespace Go.Eng
noncomputable def P2.beq (p : P2) : P2 -> Bool :=
 P2.rec (motive := fun _ => P2 -> Bool) (fun q => P2.rec (motive := fun _ => Bool) true (fun _ _ => false) (fun _ _ => false) q)
  (fun _ g q => P2.rec (motive := fun _ => Bool) false (fun q _ => g q) (fun _ _ => false) q)
  (fun _ g q => P2.rec (motive := fun _ => Bool) false (fun _ _ => false) (fun q _ => g q) q) p
theorem P2.vU : ∀ p : P2, P2.beq p p = true
 | .h => rfl
 | .z p => P2.vU p
 | .o p => P2.vU p
noncomputable abbrev rg (R : FY) (p : P2) : V := KJ (T.DU p R)
theorem sm {R : FY} {p : P2} {v : V} : rg (T.Iu v p R) p = v := by show KJ (T.DU p (T.Iu v p R)) = v; rw [T.QA]; rfl
theorem ne {R : FY} {p q : P2} {v a : V} (hb : P2.beq q p = false) (h : rg R p = a) : rg (T.Iu v q R) p = a := by
 show KJ (T.DU p (T.Iu v q R)) = a
 rw [T.Fe _ _ _ _ (fun e => by subst e; rw [P2.vU] at hb; cases hb)]
 exact h
abbrev BA := (σ : Type) -> ((σ -> Prop) -> σ -> Prop) -> σ -> Prop
def Dk (L : BA) : Prop := ∀ (σ : Type) (b : (σ -> Prop) -> σ -> Prop) (P : σ -> Prop), (∀ ih, (∀ s, ih s -> P s) -> ∀ s, b ih s -> P s) -> ∀ s, L σ b s -> P s
def lfp : BA := fun σ b s => ∀ I : σ -> Prop, (∀ s, b I s -> I s) -> I s
theorem BX : Dk lfp := fun _ _ P h _ hL => hL P (h P fun _ h => h)
noncomputable def lpF (m : Nat) : BA := fun σ b s => Nat.rec (motive := fun _ => σ -> Prop) (fun _ => False) (fun _ g => b g) m s
theorem ARt (m : Nat) : Dk (lpF m) := fun σ b P h => by
 induction m with
 | zero => exact fun s hs => (show False from hs).elim
 | succ m ih => exact fun s hs => h _ ih s hs
noncomputable def E0 : RS := .mk [] .e
noncomputable def Dc (c a b : V) : Option V := c.aP fun t => nH t (some a) (some b)
noncomputable def AZ (a : V) (G : AP) (H : Heap) : Option V := LX (lY a G H 1) fun L => nth L 0
noncomputable def BH (n : Nat) (a : V) (G : AP) (H : Heap) : Option V := LX (lY a G H n) fun L => some (.agg L)
noncomputable def WJ (a : V) : Option V := a.aP fun b => mkB (Ub b)
noncomputable def AGV (a : V) : Option V := a.FH fun k n s => mkI k (Int.neg n) s
noncomputable def VL (k : IntKind) (a : V) : Option V := a.FH fun _ n s => mkI k n s
noncomputable def AFz (off : Nat) (a : V) : Option V := a.aX fun l => nth l off
noncomputable def AMo (off n : Nat) (a : V) : Option V := a.aX fun l => some (.agg (Tj n (Xp off l)))
noncomputable def Qr (n esz : Nat) (a i : V) : Option V := Rn i fun i => Aq (Nat.blt i n) (AX (Nat.mul i esz) a)
noncomputable def He (a i : V) : Option V := a.Ou fun ln c => Rn i fun i => Aq (Nat.blt i ln) (CX (AEs c i) fun b => some (.int .u8 (.ofNat b) 0))
noncomputable def AFs (n : Nat) (a i : V) : Option V := a.aX fun l => Rn i fun i => Aq (Nat.blt i n) (nth l i)
noncomputable def Zb (a : V) (i : Nat) : Option V := a.ABl fun l => nth l i
noncomputable def YJ (a : V) : Option V := a.Ou fun n _ => some (.int .i64 (.ofNat n) 0)
noncomputable def APA (a : V) (H : Heap) : Option V := NY H a fun es _ => CX (len es) fun n => some (.int .i64 (.ofNat n) 0)
noncomputable def AHz (c : CK) (ok : Bool) (z m k : V) (H : Heap) : Option V := NY H m fun es _ => BK (bD c k es 0) (ADm ok z)
noncomputable def BR (z : LV) (ps : List (Nat × Nat × X)) : Option V := Aq (Qg ps E0) (some (.agg (aI ps E0 z)))
noncomputable def pY (n esz : Nat) (a : V) (lo hi : Option X) : Option V := a.xB (fun id o => Uj hi E0 n fun h => Uj lo E0 0 fun l =>
 Aq (band (Nat.beq (Nat.mod o esz) 0) (band (Nat.ble l h) (Nat.ble h n))) (f3 (Nat.add (Nat.div o esz) l) (Nat.sub h l) (Nat.sub n l) fun a b c => .sl id a b c esz)) (fun _ _ => none)
noncomputable def AR9 (x y : V) : Option V := x.FH fun k a s => y.FH fun k' b t => Aq (band (keq k k') (Nat.beq (Nat.add s t) 0)) (some (.int k (Bool.rec a b (ilt a b)) 0))
noncomputable def ASo (x y : V) : Option V := x.FH fun k a s => y.FH fun k' b t => Aq (band (keq k k') (Nat.beq (Nat.add s t) 0)) (some (.int k (Bool.rec a b (ilt b a)) 0))
noncomputable def AEk (a : V) (G : AP) (H : Heap) : Option V := Aq (Ub (isStr a)) (BK (elems a G H 1) fun l => BK (jS l) fun c => f3 (len l) c 0 fun n c _ => .str n c)
noncomputable def AC6 (s c : V) : Option V := s.Ou fun n cd => c.FH fun k b _ => Aq (Nat.beq (kno k) 4) (AGy b fun b => Aq (Nat.blt b 256) (JG (Xg b n cd 0) fun i => some (.int .i64 i 0)))
noncomputable def JR (v : V) (k : KA) : Prop := Gn (Xc v) (DN (len (BO v)) fun e => k (.arr e 1 (T.set .e 0 (BO v))) fun id => .ptr id 0)
noncomputable def Bj (sz : Nat) (a b : V) (H : Heap) (n : Nat) (k : KV) : Prop := Gn (band (Xc b) (Nat.beq (len (BO b)) sz)) (FN (stP a H sz (BO b)) fun H => k .undef H n)
noncomputable def Yi (esz bs : Nat) (a b : V) (G : AP) (H : Heap) (n : Nat) (k : KV) : Prop := FN (elems b G H esz) fun LS => ABm a G esz bs LS H n k
noncomputable def copyV (esz : Nat) (a b : V) (G : AP) (H : Heap) (n : Nat) (k : KV) : Prop := FN (elems b G H esz) fun LS => xZ a esz LS H n k
noncomputable def AOR (c : CK) (m key v : V) (H : Heap) (n : Nat) (k : KV) : Prop := qN m H (ACY c key v) fun H => k .undef H n
noncomputable def ARq (c : CK) (m key : V) (H : Heap) (n : Nat) (k : KV) : Prop := qN m H (AKD c key) fun H => k (.Gh []) H n
noncomputable def ATM (m : V) (H : Heap) (n : Nat) (k : KV) : Prop := qN m H (fun _ c => some (.map [] c)) fun H => k (.Gh []) H n
noncomputable def JV (x : V) (args : List V) (call : AQ) (H : Heap) (n : Nat) (k : KV) : Prop := V.Ri x fun f a c => call f (cat a (cat args c)) H n k
noncomputable def nU (d x : V) (args : List V) (H : Heap) (n : Nat) (k : KV) : Prop := V.Ri x fun f a c => k (.Gh (.fn f (cat a args) c :: cZ d)) H n
noncomputable def AMJ (a : V) (H : Heap) (n : Nat) (k : KV) : Prop := FN (a.Ou fun l c => some (.ptr l c)) fun v => V.lI v fun l c =>
 DN n fun n => k (.Nr n 0 l 1) (T.set H n (.arr 1 l (ER (Pn l c) 0 .e))) (Nat.succ n)
noncomputable def Bg (c : V) (b : Bool) (e : Option V) (P : V -> Prop) : Prop := XV c b (AU e P) (P (.Gh []))
noncomputable def CY (al : KA -> Prop) (H : Heap) (n : Nat) (P : KV) : Prop := al fun b f => DN n fun n => P (f n) (T.set H n b) (Nat.succ n)
noncomputable def KG (c : V) (b : Bool) (t : KV -> Prop) (H : Heap) (n : Nat) (P : KV) : Prop := XV c b (t P) (P (.Gh []) H n)
inductive uh where
 | t (v : V) | c1 (v : V) | cn (v : V) (n : Nat)
noncomputable def uh.get (r : uh) (G : AP) (H : Heap) : Option V := uh.rec (fun v => some v) (fun v => AZ v G H) (fun v n => BH n v G H) r
noncomputable def BQ (l : List uh) (G : AP) (H : Heap) : Option LV :=
 List.rec (motive := fun _ => Option LV) (some []) (fun r _ g => BK (r.get G H) fun v => BK g fun vs => some (v :: vs)) l
section
variable {E : RS} {G : AP} {H : Heap} {n : Nat} {x y z w : X} {a b c d : V}
theorem ATU (hx : x.ev E = a) (hy : y.ev E = b) (hz : z.ev E = c) : (AN.pick x y z).ev G E H = Dc a b c := by subst hx hy hz; rfl
theorem AUB (hx : x.ev E = a) : (AN.ld1 x).ev G E H = AZ a G H := by subst hx; rfl
theorem AVA {m : Nat} (hx : x.ev E = a) : (AN.ldn m x).ev G E H = BH m a G H := by subst hx; rfl
theorem AQ1 (hx : x.ev E = a) : (AN.AEV x).ev G E H = BF a := by subst hx; rfl
theorem AVw {o : B2} (hx : x.ev E = a) (hy : y.ev E = b) : (AN.bin o x y).ev G E H = o.ev a b := by subst hx hy; rfl
theorem k_eq {k : EK} {t : Bool} (hx : x.ev E = a) (hy : y.ev E = b) : (AN.eq k t x y).ev G E H = Ib k t a b := by subst hx hy; rfl
theorem AVF (hx : x.ev E = a) : (AN.not x).ev G E H = WJ a := by subst hx; rfl
theorem AVB (hx : x.ev E = a) : (AN.neg x).ev G E H = AGV a := by subst hx; rfl
theorem AUr {k : IntKind} (hx : x.ev E = a) : (AN.cvi k x).ev G E H = VL k a := by subst hx; rfl
theorem ARf {o : Nat} (hx : x.ev E = a) : (AN.AK6 o x).ev G E H = AX o a := by subst hx; rfl
theorem AP9 {o : Nat} (hx : x.ev E = a) : (AN.field1 o x).ev G E H = AFz o a := by subst hx; rfl
theorem AOo {o m : Nat} (hx : x.ev E = a) : (AN.AFw o m x).ev G E H = AMo o m a := by subst hx; rfl
theorem ARg {e : Nat} (hx : x.ev E = a) (hy : y.ev E = b) : (AN.AK1 e x y).ev G E H = BJ e a b := by subst hx hy; rfl
theorem AOe {m e : Nat} (hx : x.ev E = a) (hy : y.ev E = b) : (AN.AFq m e x y).ev G E H = Qr m e a b := by subst hx hy; rfl
theorem AR7 (hx : x.ev E = a) (hy : y.ev E = b) : (AN.AQl x y).ev G E H = He a b := by subst hx hy; rfl
theorem ATH {m : Nat} (hx : x.ev E = a) (hy : y.ev E = b) : (AN.APp m x y).ev G E H = AFs m a b := by subst hx hy; rfl
theorem AUv {i : Nat} (hx : x.ev E = a) : (AN.ext x i).ev G E H = Zb a i := by subst hx; rfl
theorem AS2 (hx : x.ev E = a) : (AN.AP3 x).ev G E H = YJ a := by subst hx; rfl
theorem AS4 (hx : x.ev E = a) : (AN.AO9 x).ev G E H = lenV a := by subst hx; rfl
theorem AS5 (hx : x.ev E = a) : (AN.AMD x).ev G E H = APA a H := by subst hx; rfl
theorem AR6 {k : CK} {t : Bool} {z0 : V} (hx : x.ev E = a) (hy : y.ev E = b) : (AN.look k t z0 x y).ev G E H = AHz k t z0 a b H := by subst hx hy; rfl
noncomputable def psC (ps : List (Nat × Nat × X)) (E : RS) : List (Nat × Nat × X) := ps.map fun p => (p.1, p.2.1, .c (p.2.2.ev E))
theorem ps0 : psC [] E = [] := rfl
theorem psS {i m : Nat} {l l' : List (Nat × Nat × X)} (hx : x.ev E = a) (h : psC l E = l') : psC ((i, m, x) :: l) E = (i, m, .c a) :: l' := by subst hx h; rfl
theorem AF7 (l : List (Nat × Nat × X)) : Qg l E = Qg (psC l E) E0 := by
 induction l with
 | nil => rfl
 | cons p l ih => show band (band (Xc (p.2.2.ev E)) (Nat.beq (len (BO (p.2.2.ev E))) p.2.1)) (Qg l E) = band (band (Xc (p.2.2.ev E)) (Nat.beq (len (BO (p.2.2.ev E))) p.2.1)) (Qg (psC l E) E0); rw [ih]
theorem AJc (l : List (Nat × Nat × X)) : ∀ z, aI l E z = aI (psC l E) E0 z := by
 induction l with
 | nil => exact fun _ => rfl
 | cons p l ih => exact fun z => ih (ABf (BO (p.2.2.ev E)) p.1 z)
theorem AQv {z0 : LV} {ps ps' : List (Nat × Nat × X)} (hp : psC ps E = ps') : (AN.build z0 ps).ev G E H = BR z0 ps' := by
 subst hp
 show Aq (Qg ps E) (some (.agg (aI ps E z0))) = _
 rw [AF7, AJc]; rfl
noncomputable def oxC (o : Option X) (E : RS) : Option X := o.map fun x => .c (x.ev E)
theorem ox0 : oxC none E = none := rfl
theorem oxS (hx : x.ev E = a) : oxC (some x) E = some (.c a) := by subst hx; rfl
theorem iD (o : Option X) : Uj o E = Uj (oxC o E) E0 := by cases o <;> rfl
theorem ARk {lo hi lo' hi' : Option X} (hx : x.ev E = a) (h1 : oxC lo E = lo') (h2 : oxC hi E = hi') : (AN.ALX x lo hi).ev G E H = Rw a E0 lo' hi' := by
 subst hx h1 h2
 show Rw (x.ev E) E lo hi = _
 unfold Rw; simp only [iD lo, iD hi]
theorem AVN {m : Nat} {lo hi mx lo' hi' mx' : Option X} (hx : x.ev E = a) (h1 : oxC lo E = lo') (h2 : oxC hi E = hi') (h3 : oxC mx E = mx') : (AN.slc m x lo hi mx).ev G E H = zx m a E0 lo' hi' mx' := by
 subst hx h1 h2 h3
 show zx m (x.ev E) E lo hi mx = _
 unfold zx nI xP iL mW lN jd
 simp only [iD lo, iD hi, iD mx]
 cases mx <;> rfl
theorem AS8 {m e : Nat} {lo hi lo' hi' : Option X} (hx : x.ev E = a) (h1 : oxC lo E = lo') (h2 : oxC hi E = hi') : (AN.APf m e x lo hi).ev G E H = pY m e a lo' hi' := by
 subst hx h1 h2
 show wP m e x lo hi G E H = _
 unfold wP pY; simp only [iD lo, iD hi]
theorem ASS (hx : x.ev E = a) (hy : y.ev E = b) : (AN.AP2 x y).ev G E H = AR9 a b := by subst hx hy; rfl
theorem ARo (hx : x.ev E = a) (hy : y.ev E = b) : (AN.AOT x y).ev G E H = ASo a b := by subst hx hy; rfl
theorem AUk (hx : x.ev E = a) : (AN.cvS x).ev G E H = AEk a G H := by subst hx; rfl
theorem ATY (hx : x.ev E = a) (hy : y.ev E = b) : (AN.zH x y).ev G E H = AEC a b := by subst hx hy; rfl
theorem AN6 (hx : x.ev E = a) (hy : y.ev E = b) : (AN.ADb x y).ev G E H = AC6 a b := by subst hx hy; rfl
theorem xs0 : RD [] E = [] := rfl
theorem xsS {l : List X} {l' : List V} (hx : x.ev E = a) (h : RD l E = l') : RD (x :: l) E = a :: l' := by subst hx h; rfl
theorem AR2 {f : Nat} {l m : List X} {l' m' : List V} (h : RD l E = l') (h' : RD m E = m') : (AN.AO1 f l m).ev G E H = some (.fn f l' m') := by subst h h'; rfl
theorem AWG (hx : x.ev E = a) : (AN.mv x).ev G E H = some a := by subst hx; rfl
theorem ARm {m : Nat} : (AN.AOX m).ev G E H = some (.int .i64 (.ofNat m) 0) := rfl
theorem AQt {e : Nat} {es : D5} : (AA.alloc e es).al E = Ai e es E0 := rfl
theorem AT3 (hx : x.ev E = a) : (AA.box x).al E = JR a := by subst hx; rfl
noncomputable def pbC (ps : List (Nat × X)) (E : RS) : List (Nat × X) := ps.map fun p => (p.1, .c (p.2.ev E))
theorem pb0 : pbC [] E = [] := rfl
theorem pbS {i : Nat} {l l' : List (Nat × X)} (hx : x.ev E = a) (h : pbC l E = l') : pbC ((i, x) :: l) E = (i, .c a) :: l' := by subst hx h; rfl
theorem AE5 (l : List (Nat × X)) (e m : Nat) : OY l E e m = OY (pbC l E) E0 e m := by
 induction l with
 | nil => rfl
 | cons p l ih => show band (band (Xc (p.2.ev E)) (band (Nat.blt p.1 m) (Nat.beq (len (BO (p.2.ev E))) e))) (OY l E e m) = band (band (Xc (p.2.ev E)) (band (Nat.blt p.1 m) (Nat.beq (len (BO (p.2.ev E))) e))) (OY (pbC l E) E0 e m); rw [ih]
theorem AFl (l : List (Nat × X)) : ∀ t, V8 l E t = V8 (pbC l E) E0 t := by
 induction l with
 | nil => exact fun _ => rfl
 | cons p l ih => exact fun t => ih (T.set t p.1 (BO (p.2.ev E)))
theorem APM {e m : Nat} {z0 : LV} {ps ps' : List (Nat × X)} (hp : pbC ps E = ps') : (AA.sG e m z0 ps).al E = Ag e m z0 ps' E0 := by
 subst hp
 show Ag e m z0 ps E = _
 funext k
 unfold Ag; rw [AE5, AFl]
theorem ANz {e m : Nat} {z0 : LV} (hx : x.ev E = a) (hy : y.ev E = b) : (AA.lF e m z0 x y).al E = OL e m z0 (.c a) (.c b) E0 := by subst hx hy; rfl
theorem AQ3 : AA.AES.al E = AC2 E0 := rfl
variable {call : AQ}
theorem AXm {m : Nat} (hx : x.ev E = a) (hy : y.ev E = b) : (AE.st m x y).ex G call E H n = Bj m a b H n := by subst hx hy; rfl
theorem ATt {e m : Nat} (hx : x.ev E = a) (hy : y.ev E = b) : (AE.app e m x y).ex G call E H n = Yi e m a b G H n := by subst hx hy; rfl
theorem ATN {e : Nat} (hx : x.ev E = a) (hy : y.ev E = b) : (AE.copy e x y).ex G call E H n = copyV e a b G H n := by subst hx hy; rfl
theorem APT {k : CK} (hx : x.ev E = a) (hy : y.ev E = b) (hz : z.ev E = c) : (AE.zo k x y z).ex G call E H n = AOR k a b c H n := by subst hx hy hz; rfl
theorem AVL {k : CK} (hx : x.ev E = a) (hy : y.ev E = b) : (AE.del k x y).ex G call E H n = ARq k a b H n := by subst hx hy; rfl
theorem ATd (hx : x.ev E = a) : (AE.ALj x).ex G call E H n = ATM a H n := by subst hx; rfl
theorem AR0 {f : Nat} {l : List X} {l' : List V} (h : RD l E = l') : (AE.call f l).ex G call E H n = call f l' H n := by subst h; rfl
theorem AQ5 {l : List X} {l' : List V} (hx : x.ev E = a) (h : RD l E = l') : (AE.ABD x l).ex G call E H n = JV a l' call H n := by subst hx h; rfl
theorem AVM (hx : x.ev E = a) : (AE.cvB x).ex G call E H n = AMJ a H n := by subst hx; rfl
end
section
variable {L : List V} {R : FY} {G : AP} {call : AQ} {H : Heap} {n : Nat} {a b : V}
theorem ARR {x : X} {l : List X} {l' : List V} {dp : P2} (hd : rg R dp = b) (hx : x.ev (.mk L R) = a) (h : RD l (.mk L R) = l') : (AE.defer dp x l).ex G call (.mk L R) H n = nU b a l' H n := by subst hd hx h; rfl
end
end Go.Eng
namespace Go.Eng
noncomputable def VQ (c : V) (b : Bool) (e : Option V) (a : V) (P : Prop) : Prop := XV c b (AU e fun v => Gn (Cj v a) P) P
theorem xr {L : List V} {R : FY} {p : P2} {a : V} (h : rg R p = a) : (X.r p).ev (.mk L R) = a := h
def kR (k : K) : KE := fun E H n => k E.rg H n
theorem Jg {e : Option V} {P Q : V -> Prop} (h : AU e P) (hk : ∀ v, P v -> Q v) : AU e Q := by
 cases e with
 | none => exact h
 | some v => exact hk v h
theorem EF {v : V} {b : Bool} {P Q P' Q' : Prop} (h : XV v b P Q) (hp : P -> P') (hq : Q -> Q') : XV v b P' Q' := by
 rw [QO] at h ⊢
 obtain ⟨t, ht, h⟩ := h
 refine ⟨t, ht, ?_⟩
 split
 ·rename_i e; rw [if_pos e] at h; exact hp h
 ·rename_i e; rw [if_neg e] at h; exact hq h
theorem iT {v : V} {b : Bool} {P Q P' Q' : Prop} (h : Ac v b P Q) (hp : P -> P') (hq : Q -> Q') : Ac v b P' Q' := by
 rw [Ry] at h ⊢
 obtain ⟨t, ht, h⟩ := h
 refine ⟨t, ht, ?_⟩
 split
 ·rename_i e; rw [if_pos e] at h; exact hp h
 ·rename_i e; rw [if_neg e] at h; exact hq h
theorem MO {o : AA} {E : RS} {H : Heap} {n : Nat} {P Q : KV} (h : CY (o.al E) H n P) (hk : ∀ v H n, P v H n -> Q v H n) : CY (o.al E) H n Q :=
 Tz.mono (AFu o E) (k := fun s => DN n fun n => P (s.2 n) (T.set H n s.1) (Nat.succ n)) (k' := fun s => DN n fun n => Q (s.2 n) (T.set H n s.1) (Nat.succ n))
  (fun s hs => by rw [BP] at hs ⊢; exact hk _ _ _ hs) h
section
variable {G : AP} {call callE : AQ}
theorem PW (hle : EW call callE) (hd : CQ callE) {o : AE} {E : RS} {H : Heap} {n : Nat} {P Q : KV} (h : o.ex G call E H n P) (hk : ∀ v H n, P v H n -> Q v H n) : o.ex G callE E H n Q :=
 Tz.mono (ACZ hd o G E H n) (k := fun s => P s.1 s.2.1 s.2.2) (k' := fun s => Q s.1 s.2.1 s.2.2) (fun s hs => hk _ _ _ hs) (AKw hle o G E H n _ h)
section
variable {L : List V} {R : FY} {H : Heap} {n : Nat} {l : List gK} {k : KE} {p : P2} {x : X} {b : Bool} {c a : V}
theorem AXu {o : AN} {e : Option V} {P : V -> Prop} (h : AU e P) (he : o.ev G (.mk L R) H = e) (hk : ∀ v, P v -> Bd l G callE (.mk (v :: L) R) H n k) : Bd (.mk .ps .no (.n o) :: l) G callE (.mk L R) H n k := by
 subst he; exact Jg h hk
theorem AXL {o : AN} (he : o.ev G (.mk L R) H = some a) (hk : Bd l G callE (.mk ((a) :: L) R) H n k) : Bd (.mk .ps .no (.n o) :: l) G callE (.mk L R) H n k := by
 show AU (o.ev G (.mk L R) H) _; rw [he]; exact hk
theorem AVo {o : AN} {e : Option V} {P : V -> Prop} (h : Bg c b e P) (hc : x.ev (.mk L R) = c) (he : o.ev G (.mk L R) H = e) (hk : ∀ v, P v -> Bd l G callE (.mk (v :: L) R) H n k) : Bd (.mk .ps (.on x b) (.n o) :: l) G callE (.mk L R) H n k := by
 subst hc he; exact EF h (fun h => Jg h hk) (hk _)
theorem AWF {o : AA} {al : KA -> Prop} {P : KV} (h : CY al H n P) (he : o.al (.mk L R) = al) (hk : ∀ v H n, P v H n -> Bd l G callE (.mk (v :: L) R) H n k) : Bd (.mk .ps .no (.a o) :: l) G callE (.mk L R) H n k := by
 subst he; exact MO (Q := fun v H n => Bd l G callE (.mk (v :: L) R) H n k) h hk
theorem AUb {o : AA} {al : KA -> Prop} {P : KV} (h : KG c b (CY al H n) H n P) (hc : x.ev (.mk L R) = c) (he : o.al (.mk L R) = al) (hk : ∀ v H n, P v H n -> Bd l G callE (.mk (v :: L) R) H n k) : Bd (.mk .ps (.on x b) (.a o) :: l) G callE (.mk L R) H n k := by
 subst hc he; exact EF h (fun h => MO (Q := fun v H n => Bd l G callE (.mk (v :: L) R) H n k) h hk) (hk _ _ _)
theorem AWA (hle : EW call callE) (hd : CQ callE) {o : AE} {t : KV -> Prop} {P : KV} (h : t P) (he : o.ex G call (.mk L R) H n = t) (hk : ∀ v H n, P v H n -> Bd l G callE (.mk (v :: L) R) H n k) : Bd (.mk .ps .no (.e o) :: l) G callE (.mk L R) H n k := by
 subst he; exact PW hle hd (Q := fun v H n => Bd l G callE (.mk (v :: L) R) H n k) h hk
theorem AVJ (hle : EW call callE) (hd : CQ callE) {o : AE} {t : KV -> Prop} {P : KV} (h : KG c b t H n P) (hc : x.ev (.mk L R) = c) (he : o.ex G call (.mk L R) H n = t) (hk : ∀ v H n, P v H n -> Bd l G callE (.mk (v :: L) R) H n k) : Bd (.mk .ps (.on x b) (.e o) :: l) G callE (.mk L R) H n k := by
 subst hc he; exact EF h (fun h => PW hle hd (Q := fun v H n => Bd l G callE (.mk (v :: L) R) H n k) h hk) (hk _ _ _)
theorem AXE {x : X} (hx : x.ev (.mk L R) = a) (hk : Bd l G callE (.mk ((a) :: L) R) H n k) : Bd (.mk .ps .no (.e (.asg x)) :: l) G callE (.mk L R) H n k := by
 subst hx; exact hk
theorem AXi {o : AN} {e : Option V} {P : V -> Prop} (h : AU e P) (he : o.ev G (.mk L R) H = e) (hk : ∀ v, P v -> Bd l G callE (.mk L (T.Iu v p R)) H n k) : Bd (.mk (.to p) .no (.n o) :: l) G callE (.mk L R) H n k := by
 subst he; exact Jg h hk
theorem AXb {o : AN} (he : o.ev G (.mk L R) H = some a) (hk : Bd l G callE (.mk L (T.Iu a p R)) H n k) : Bd (.mk (.to p) .no (.n o) :: l) G callE (.mk L R) H n k := by
 show AU (o.ev G (.mk L R) H) _; rw [he]; exact hk
theorem AUd {o : AN} {e : Option V} {P : V -> Prop} (h : Bg c b e P) (hc : x.ev (.mk L R) = c) (he : o.ev G (.mk L R) H = e) (hk : ∀ v, P v -> Bd l G callE (.mk L (T.Iu v p R)) H n k) : Bd (.mk (.to p) (.on x b) (.n o) :: l) G callE (.mk L R) H n k := by
 subst hc he; exact EF h (fun h => Jg h hk) (hk _)
theorem AYA {o : AA} {al : KA -> Prop} {P : KV} (h : CY al H n P) (he : o.al (.mk L R) = al) (hk : ∀ v H n, P v H n -> Bd l G callE (.mk L (T.Iu v p R)) H n k) : Bd (.mk (.to p) .no (.a o) :: l) G callE (.mk L R) H n k := by
 subst he; exact MO (Q := fun v H n => Bd l G callE (.mk L (T.Iu v p R)) H n k) h hk
theorem AVm {o : AA} {al : KA -> Prop} {P : KV} (h : KG c b (CY al H n) H n P) (hc : x.ev (.mk L R) = c) (he : o.al (.mk L R) = al) (hk : ∀ v H n, P v H n -> Bd l G callE (.mk L (T.Iu v p R)) H n k) : Bd (.mk (.to p) (.on x b) (.a o) :: l) G callE (.mk L R) H n k := by
 subst hc he; exact EF h (fun h => MO (Q := fun v H n => Bd l G callE (.mk L (T.Iu v p R)) H n k) h hk) (hk _ _ _)
theorem AWJ (hle : EW call callE) (hd : CQ callE) {o : AE} {t : KV -> Prop} {P : KV} (h : t P) (he : o.ex G call (.mk L R) H n = t) (hk : ∀ v H n, P v H n -> Bd l G callE (.mk L (T.Iu v p R)) H n k) : Bd (.mk (.to p) .no (.e o) :: l) G callE (.mk L R) H n k := by
 subst he; exact PW hle hd (Q := fun v H n => Bd l G callE (.mk L (T.Iu v p R)) H n k) h hk
theorem AUY (hle : EW call callE) (hd : CQ callE) {o : AE} {t : KV -> Prop} {P : KV} (h : KG c b t H n P) (hc : x.ev (.mk L R) = c) (he : o.ex G call (.mk L R) H n = t) (hk : ∀ v H n, P v H n -> Bd l G callE (.mk L (T.Iu v p R)) H n k) : Bd (.mk (.to p) (.on x b) (.e o) :: l) G callE (.mk L R) H n k := by
 subst hc he; exact EF h (fun h => PW hle hd (Q := fun v H n => Bd l G callE (.mk L (T.Iu v p R)) H n k) h hk) (hk _ _ _)
theorem AV1 {x : X} (hx : x.ev (.mk L R) = a) (hk : Bd l G callE (.mk L (T.Iu a p R)) H n k) : Bd (.mk (.to p) .no (.e (.asg x)) :: l) G callE (.mk L R) H n k := by
 subst hx; exact hk
theorem AV9 {o : AN} {e : Option V} {P : V -> Prop} (h : AU e P) (he : o.ev G (.mk L R) H = e) (hk : ∀ v, P v -> Bd l G callE (.mk L R) H n k) : Bd (.mk .no .no (.n o) :: l) G callE (.mk L R) H n k := by
 subst he; exact Jg h hk
theorem AXB {o : AN} (he : o.ev G (.mk L R) H = some a) (hk : Bd l G callE (.mk L R) H n k) : Bd (.mk .no .no (.n o) :: l) G callE (.mk L R) H n k := by
 show AU (o.ev G (.mk L R) H) _; rw [he]; exact hk
theorem AVH {o : AN} {e : Option V} {P : V -> Prop} (h : Bg c b e P) (hc : x.ev (.mk L R) = c) (he : o.ev G (.mk L R) H = e) (hk : ∀ v, P v -> Bd l G callE (.mk L R) H n k) : Bd (.mk .no (.on x b) (.n o) :: l) G callE (.mk L R) H n k := by
 subst hc he; exact EF h (fun h => Jg h hk) (hk _)
theorem AVy {o : AA} {al : KA -> Prop} {P : KV} (h : CY al H n P) (he : o.al (.mk L R) = al) (hk : ∀ v H n, P v H n -> Bd l G callE (.mk L R) H n k) : Bd (.mk .no .no (.a o) :: l) G callE (.mk L R) H n k := by
 subst he; exact MO (Q := fun v H n => Bd l G callE (.mk L R) H n k) h hk
theorem AU4 {o : AA} {al : KA -> Prop} {P : KV} (h : KG c b (CY al H n) H n P) (hc : x.ev (.mk L R) = c) (he : o.al (.mk L R) = al) (hk : ∀ v H n, P v H n -> Bd l G callE (.mk L R) H n k) : Bd (.mk .no (.on x b) (.a o) :: l) G callE (.mk L R) H n k := by
 subst hc he; exact EF h (fun h => MO (Q := fun v H n => Bd l G callE (.mk L R) H n k) h hk) (hk _ _ _)
theorem AWt (hle : EW call callE) (hd : CQ callE) {o : AE} {t : KV -> Prop} {P : KV} (h : t P) (he : o.ex G call (.mk L R) H n = t) (hk : ∀ v H n, P v H n -> Bd l G callE (.mk L R) H n k) : Bd (.mk .no .no (.e o) :: l) G callE (.mk L R) H n k := by
 subst he; exact PW hle hd (Q := fun v H n => Bd l G callE (.mk L R) H n k) h hk
theorem AUU (hle : EW call callE) (hd : CQ callE) {o : AE} {t : KV -> Prop} {P : KV} (h : KG c b t H n P) (hc : x.ev (.mk L R) = c) (he : o.ex G call (.mk L R) H n = t) (hk : ∀ v H n, P v H n -> Bd l G callE (.mk L R) H n k) : Bd (.mk .no (.on x b) (.e o) :: l) G callE (.mk L R) H n k := by
 subst hc he; exact EF h (fun h => PW hle hd (Q := fun v H n => Bd l G callE (.mk L R) H n k) h hk) (hk _ _ _)
theorem AVz {x : X} (hx : x.ev (.mk L R) = a) (hk : Bd l G callE (.mk L R) H n k) : Bd (.mk .no .no (.e (.asg x)) :: l) G callE (.mk L R) H n k := by
 subst hx; exact hk
theorem o0 {K : K} (h : K R H n) : Bd [] G callE (.mk L R) H n (kR K) := h
end
section
variable {L : List V} {R : FY} {H : Heap} {n : Nat} {l : List AI} {k : KE} {p : P2} {x : X} {b : Bool} {c a : V}
theorem AXI {o : AN} {e : Option V} {P : V -> Prop} (h : AU e P) (he : o.ev G (.mk L R) H = e) (hk : ∀ v, P v -> AY l G callE (.mk (v :: L) R) H n k) : AY (.op (.mk .ps .no (.n o)) :: l) G callE (.mk L R) H n k := by
 subst he; exact Jg h hk
theorem AXt {o : AN} (he : o.ev G (.mk L R) H = some a) (hk : AY l G callE (.mk ((a) :: L) R) H n k) : AY (.op (.mk .ps .no (.n o)) :: l) G callE (.mk L R) H n k := by
 show AU (o.ev G (.mk L R) H) _; rw [he]; exact hk
theorem ATr {o : AN} {e : Option V} {P : V -> Prop} (h : Bg c b e P) (hc : x.ev (.mk L R) = c) (he : o.ev G (.mk L R) H = e) (hk : ∀ v, P v -> AY l G callE (.mk (v :: L) R) H n k) : AY (.op (.mk .ps (.on x b) (.n o)) :: l) G callE (.mk L R) H n k := by
 subst hc he; exact EF h (fun h => Jg h hk) (hk _)
theorem AXA {o : AA} {al : KA -> Prop} {P : KV} (h : CY al H n P) (he : o.al (.mk L R) = al) (hk : ∀ v H n, P v H n -> AY l G callE (.mk (v :: L) R) H n k) : AY (.op (.mk .ps .no (.a o)) :: l) G callE (.mk L R) H n k := by
 subst he; exact MO (Q := fun v H n => AY l G callE (.mk (v :: L) R) H n k) h hk
theorem AUz {o : AA} {al : KA -> Prop} {P : KV} (h : KG c b (CY al H n) H n P) (hc : x.ev (.mk L R) = c) (he : o.al (.mk L R) = al) (hk : ∀ v H n, P v H n -> AY l G callE (.mk (v :: L) R) H n k) : AY (.op (.mk .ps (.on x b) (.a o)) :: l) G callE (.mk L R) H n k := by
 subst hc he; exact EF h (fun h => MO (Q := fun v H n => AY l G callE (.mk (v :: L) R) H n k) h hk) (hk _ _ _)
theorem AXf (hle : EW call callE) (hd : CQ callE) {o : AE} {t : KV -> Prop} {P : KV} (h : t P) (he : o.ex G call (.mk L R) H n = t) (hk : ∀ v H n, P v H n -> AY l G callE (.mk (v :: L) R) H n k) : AY (.op (.mk .ps .no (.e o)) :: l) G callE (.mk L R) H n k := by
 subst he; exact PW hle hd (Q := fun v H n => AY l G callE (.mk (v :: L) R) H n k) h hk
theorem AUL (hle : EW call callE) (hd : CQ callE) {o : AE} {t : KV -> Prop} {P : KV} (h : KG c b t H n P) (hc : x.ev (.mk L R) = c) (he : o.ex G call (.mk L R) H n = t) (hk : ∀ v H n, P v H n -> AY l G callE (.mk (v :: L) R) H n k) : AY (.op (.mk .ps (.on x b) (.e o)) :: l) G callE (.mk L R) H n k := by
 subst hc he; exact EF h (fun h => PW hle hd (Q := fun v H n => AY l G callE (.mk (v :: L) R) H n k) h hk) (hk _ _ _)
theorem AXx {x : X} (hx : x.ev (.mk L R) = a) (hk : AY l G callE (.mk ((a) :: L) R) H n k) : AY (.op (.mk .ps .no (.e (.asg x))) :: l) G callE (.mk L R) H n k := by
 subst hx; exact hk
theorem AWM {o : AN} {e : Option V} {P : V -> Prop} (h : AU e P) (he : o.ev G (.mk L R) H = e) (hk : ∀ v, P v -> AY l G callE (.mk L (T.Iu v p R)) H n k) : AY (.op (.mk (.to p) .no (.n o)) :: l) G callE (.mk L R) H n k := by
 subst he; exact Jg h hk
theorem AV6 {o : AN} (he : o.ev G (.mk L R) H = some a) (hk : AY l G callE (.mk L (T.Iu a p R)) H n k) : AY (.op (.mk (.to p) .no (.n o)) :: l) G callE (.mk L R) H n k := by
 show AU (o.ev G (.mk L R) H) _; rw [he]; exact hk
theorem AU7 {o : AN} {e : Option V} {P : V -> Prop} (h : Bg c b e P) (hc : x.ev (.mk L R) = c) (he : o.ev G (.mk L R) H = e) (hk : ∀ v, P v -> AY l G callE (.mk L (T.Iu v p R)) H n k) : AY (.op (.mk (.to p) (.on x b) (.n o)) :: l) G callE (.mk L R) H n k := by
 subst hc he; exact EF h (fun h => Jg h hk) (hk _)
theorem AX9 {o : AA} {al : KA -> Prop} {P : KV} (h : CY al H n P) (he : o.al (.mk L R) = al) (hk : ∀ v H n, P v H n -> AY l G callE (.mk L (T.Iu v p R)) H n k) : AY (.op (.mk (.to p) .no (.a o)) :: l) G callE (.mk L R) H n k := by
 subst he; exact MO (Q := fun v H n => AY l G callE (.mk L (T.Iu v p R)) H n k) h hk
theorem AUS {o : AA} {al : KA -> Prop} {P : KV} (h : KG c b (CY al H n) H n P) (hc : x.ev (.mk L R) = c) (he : o.al (.mk L R) = al) (hk : ∀ v H n, P v H n -> AY l G callE (.mk L (T.Iu v p R)) H n k) : AY (.op (.mk (.to p) (.on x b) (.a o)) :: l) G callE (.mk L R) H n k := by
 subst hc he; exact EF h (fun h => MO (Q := fun v H n => AY l G callE (.mk L (T.Iu v p R)) H n k) h hk) (hk _ _ _)
theorem AWQ (hle : EW call callE) (hd : CQ callE) {o : AE} {t : KV -> Prop} {P : KV} (h : t P) (he : o.ex G call (.mk L R) H n = t) (hk : ∀ v H n, P v H n -> AY l G callE (.mk L (T.Iu v p R)) H n k) : AY (.op (.mk (.to p) .no (.e o)) :: l) G callE (.mk L R) H n k := by
 subst he; exact PW hle hd (Q := fun v H n => AY l G callE (.mk L (T.Iu v p R)) H n k) h hk
theorem AUO (hle : EW call callE) (hd : CQ callE) {o : AE} {t : KV -> Prop} {P : KV} (h : KG c b t H n P) (hc : x.ev (.mk L R) = c) (he : o.ex G call (.mk L R) H n = t) (hk : ∀ v H n, P v H n -> AY l G callE (.mk L (T.Iu v p R)) H n k) : AY (.op (.mk (.to p) (.on x b) (.e o)) :: l) G callE (.mk L R) H n k := by
 subst hc he; exact EF h (fun h => PW hle hd (Q := fun v H n => AY l G callE (.mk L (T.Iu v p R)) H n k) h hk) (hk _ _ _)
theorem AXh {x : X} (hx : x.ev (.mk L R) = a) (hk : AY l G callE (.mk L (T.Iu a p R)) H n k) : AY (.op (.mk (.to p) .no (.e (.asg x))) :: l) G callE (.mk L R) H n k := by
 subst hx; exact hk
theorem AXw {o : AN} {e : Option V} {P : V -> Prop} (h : AU e P) (he : o.ev G (.mk L R) H = e) (hk : ∀ v, P v -> AY l G callE (.mk L R) H n k) : AY (.op (.mk .no .no (.n o)) :: l) G callE (.mk L R) H n k := by
 subst he; exact Jg h hk
theorem AXr {o : AN} (he : o.ev G (.mk L R) H = some a) (hk : AY l G callE (.mk L R) H n k) : AY (.op (.mk .no .no (.n o)) :: l) G callE (.mk L R) H n k := by
 show AU (o.ev G (.mk L R) H) _; rw [he]; exact hk
theorem AUF {o : AN} {e : Option V} {P : V -> Prop} (h : Bg c b e P) (hc : x.ev (.mk L R) = c) (he : o.ev G (.mk L R) H = e) (hk : ∀ v, P v -> AY l G callE (.mk L R) H n k) : AY (.op (.mk .no (.on x b) (.n o)) :: l) G callE (.mk L R) H n k := by
 subst hc he; exact EF h (fun h => Jg h hk) (hk _)
theorem AX1 {o : AA} {al : KA -> Prop} {P : KV} (h : CY al H n P) (he : o.al (.mk L R) = al) (hk : ∀ v H n, P v H n -> AY l G callE (.mk L R) H n k) : AY (.op (.mk .no .no (.a o)) :: l) G callE (.mk L R) H n k := by
 subst he; exact MO (Q := fun v H n => AY l G callE (.mk L R) H n k) h hk
theorem AUt {o : AA} {al : KA -> Prop} {P : KV} (h : KG c b (CY al H n) H n P) (hc : x.ev (.mk L R) = c) (he : o.al (.mk L R) = al) (hk : ∀ v H n, P v H n -> AY l G callE (.mk L R) H n k) : AY (.op (.mk .no (.on x b) (.a o)) :: l) G callE (.mk L R) H n k := by
 subst hc he; exact EF h (fun h => MO (Q := fun v H n => AY l G callE (.mk L R) H n k) h hk) (hk _ _ _)
theorem AWw (hle : EW call callE) (hd : CQ callE) {o : AE} {t : KV -> Prop} {P : KV} (h : t P) (he : o.ex G call (.mk L R) H n = t) (hk : ∀ v H n, P v H n -> AY l G callE (.mk L R) H n k) : AY (.op (.mk .no .no (.e o)) :: l) G callE (.mk L R) H n k := by
 subst he; exact PW hle hd (Q := fun v H n => AY l G callE (.mk L R) H n k) h hk
theorem AVd (hle : EW call callE) (hd : CQ callE) {o : AE} {t : KV -> Prop} {P : KV} (h : KG c b t H n P) (hc : x.ev (.mk L R) = c) (he : o.ex G call (.mk L R) H n = t) (hk : ∀ v H n, P v H n -> AY l G callE (.mk L R) H n k) : AY (.op (.mk .no (.on x b) (.e o)) :: l) G callE (.mk L R) H n k := by
 subst hc he; exact EF h (fun h => PW hle hd (Q := fun v H n => AY l G callE (.mk L R) H n k) h hk) (hk _ _ _)
theorem AWd {x : X} (hx : x.ev (.mk L R) = a) (hk : AY l G callE (.mk L R) H n k) : AY (.op (.mk .no .no (.e (.asg x))) :: l) G callE (.mk L R) H n k := by
 subst hx; exact hk
theorem i0 {K : K} (h : K R H n) : AY [] G callE (.mk L R) H n (kR K) := h
theorem ire {o : AN} {e : Option V} {P0 : Prop} (h : AU e fun v => Gn (Cj v a) P0) (hr : rg R p = a) (he : o.ev G (.mk L R) H = e) (hk : P0 -> AY l G callE (.mk L R) H n k) : AY (.re p .no o :: l) G callE (.mk L R) H n k := by
 subst hr he; exact Jg h fun v h => by rw [EN] at h ⊢; exact ⟨h.1, hk h.2⟩
theorem AX2 {o : AN} {e : Option V} {P0 : Prop} (h : VQ c b e a P0) (hc : x.ev (.mk L R) = c) (hr : rg R p = a) (he : o.ev G (.mk L R) H = e) (hk : P0 -> AY l G callE (.mk L R) H n k) : AY (.re p (.on x b) o :: l) G callE (.mk L R) H n k := by
 subst hc hr he; exact EF h (fun h => Jg h fun v h => by rw [EN] at h ⊢; exact ⟨h.1, hk h.2⟩) hk
end
section
variable {R : FY} {H : Heap} {n : Nat} {k : K} {x : KX} {r : K} {a b : AC}
theorem ATc (h : k R H n) : AC.skip.SY G callE 0 R H n k x r := h
theorem AVi {l : List gK} (h : Bd l G callE (.mk [] R) H n (kR k)) : (AC.ops l).SY G callE 0 R H n k x r := h
theorem AVX {l : List AI} (h : AY l G callE (.mk [] R) H n (kR k)) : (AC.reg l).SY G callE 0 R H n k x r := h
theorem AVn (h : a.SY G callE 0 R H n (fun R H n => b.SY G callE 0 R H n k x r) x r) : (AC.seq a b).SY G callE 0 R H n k x r := h
theorem ASZ (S : FY -> Heap -> Nat -> Prop) (hb : ∀ R H n, S R H n -> b.SY G callE 0 R H n k x r)
    (ha : (∀ R H n, S R H n -> b.SY G callE 0 R H n k x r) -> a.SY G callE 0 R H n (fun R H n => b.SY G callE 0 R H n k x r) x r) : (AC.seq a b).SY G callE 0 R H n k x r := ha hb
theorem ATn {c : X} {v : V} {P Q : Prop} (h : Ac v true P Q) (hc : c.ev (.mk [] R) = v) (ha : P -> a.SY G callE 0 R H n k x r) (hb : Q -> b.SY G callE 0 R H n k x r) : (AC.cond c a b).SY G callE 0 R H n k x r := by
 subst hc; exact iT h ha hb
theorem AQw {i : Nat} (h : a.SY G callE 0 R H n k (EC i k x) r) : (AC.block i a).SY G callE 0 R H n k x r := h
theorem ATS {i : Nat} (h : x i R H n) : (AC.exit i).SY G callE 0 R H n k x r := h
theorem AUf (h : r R H n) : AC.ret.SY G callE 0 R H n k x r := h
theorem ARY {i : Nat} (h : k R H n) : EC i k x i R H n := by
 unfold EC
 have : Nat.beq i i = true := by simp
 rw [this]; exact h
theorem AU0 {i j : Nat} (hb : Nat.beq j i = false) (h : x j R H n) : EC i k x j R H n := by
 unfold EC; rw [hb]; exact h
theorem AS9 {σ : Type} {lp : BA} (hL : Dk lp) {bd : (σ -> Prop) -> σ -> Prop} {s0 : σ} (S : σ -> FY -> Heap -> Nat -> Prop) (h : lp σ bd s0) (h0 : S s0 R H n)
    (hb : ∀ (ih : σ -> Prop) (I : K), (∀ s R H n, S s R H n -> ih s -> I R H n) -> ∀ s R H n, S s R H n -> bd ih s -> a.SY G callE 0 R H n I x r) : (AC.loop a).SY G callE 0 R H n k x r := by
  show AEX a.SY G callE R H n x r
  intro I hI
  exact hL σ bd (fun s => ∀ R H n, S s R H n -> I R H n) (fun ih hih s hs R H n hS => hI R H n (hb ih I (fun s R H n hS hi => hih s hi R H n hS) s R H n hS hs)) s0 h R H n h0
end
section
variable {res rs : List AR} {dg : Nat} {R : FY} {H : Heap} {n : Nat} {k : KV} {l : LV} {p : P2} {a : V} {vs : List uh}
noncomputable def rX (l : List AR) (R : FY) : List uh := l.map fun
 | .tmp p => .t (rg R p) | .cell1 p => .c1 (rg R p) | .celln p n => .cn (rg R p) n
theorem rs0 : rX [] R = [] := rfl
theorem rsT (hx : rg R p = a) (h : rX rs R = vs) : rX (.tmp p :: rs) R = .t a :: vs := by subst hx h; rfl
theorem rsC (hx : rg R p = a) (h : rX rs R = vs) : rX (.cell1 p :: rs) R = .c1 a :: vs := by subst hx h; rfl
theorem rsN {m : Nat} (hx : rg R p = a) (h : rX rs R = vs) : rX (.celln p m :: rs) R = .cn a m :: vs := by subst hx h; rfl
theorem AEG : ∀ (res : List AR), aT res G R H = BQ (rX res R) G H
 | [] => rfl
 | r :: res => by
  show BK (r.get G R H) (fun v => BK (aT res G R H) fun vs => some (v :: vs)) = _
  rw [AEG res]
  cases r <;> rfl
theorem AF5 (h : FN (BQ vs G H) fun l => k (FB l) H n) (he : rX res R = vs) : qH res G k R H n := by
 subst he; show FN (aT res G R H) _; rw [AEG]; exact h
theorem ARx (he : rX res R = vs) (h : FN (BQ vs G H) fun l => k (FB l) H n) : GR res dg .no G callE k R H n := AF5 h he
theorem ACf (hle : EW call callE) (hd : CQ callE) {l : List V} {P Q : Heap -> Nat -> Prop} (h : Js dg l call H n P) (hk : ∀ H n, P H n -> Q H n) : Js dg l callE H n Q :=
 Tz.mono (mJ hd dg l H n) (k := fun s => P s.1 s.2) (k' := fun s => Q s.1 s.2) (fun s hs => hk _ _ hs) (rF hd hle dg l H n _ h)
theorem ATg {dv : V} {dp : P2} (hle : EW call callE) (hd : CQ callE) (hr : rg R dp = dv) (he : rX res R = vs) (h : Js dg (cZ dv) call H n fun H n => FN (BQ vs G H) fun l => k (FB l) H n) : GR res dg (.to dp) G callE k R H n := by
 subst hr
 exact ACf hle hd (Q := fun H n => qH res G k R H n) h fun H n h => AF5 h he
theorem AQu {np : Nat} {code : AC} {d : Zn} {args : List V} (hl : Nat.beq (len args) np = true) (h : code.SY G callE 0 (XG args 0 .e) H n (GR res dg d G callE k) noX (GR res dg d G callE k)) :
    mX (.mk np code res d dg) G callE args H n k := by
  show Gn (Nat.beq (len args) np) _
  rw [hl]; exact h
end
end
abbrev SF := AQ -> List V -> Heap -> Nat -> KV -> Prop
noncomputable def ar0 (s : AQ -> Heap -> Nat -> KV -> Prop) : SF := fun call l H n k => List.rec (motive := fun _ => Prop) (s call H n k) (fun _ _ _ => False) l
noncomputable def Eu (s : AQ -> V -> Heap -> Nat -> KV -> Prop) : SF := fun call l H n k => List.rec (motive := fun _ => Prop) False (fun a l _ => ar0 (fun call => s call a) call l H n k) l
noncomputable def Qd (s : AQ -> V -> V -> Heap -> Nat -> KV -> Prop) : SF := fun call l H n k => List.rec (motive := fun _ => Prop) False (fun a l _ => Eu (fun call => s call a) call l H n k) l
noncomputable def ar3 (s : AQ -> V -> V -> V -> Heap -> Nat -> KV -> Prop) : SF := fun call l H n k => List.rec (motive := fun _ => Prop) False (fun a l _ => Qd (fun call => s call a) call l H n k) l
noncomputable def ar4 (s : AQ -> V -> V -> V -> V -> Heap -> Nat -> KV -> Prop) : SF := fun call l H n k => List.rec (motive := fun _ => Prop) False (fun a l _ => ar3 (fun call => s call a) call l H n k) l
noncomputable def ar5 (s : AQ -> V -> V -> V -> V -> V -> Heap -> Nat -> KV -> Prop) : SF := fun call l H n k => List.rec (motive := fun _ => Prop) False (fun a l _ => ar4 (fun call => s call a) call l H n k) l
noncomputable def ar6 (s : AQ -> V -> V -> V -> V -> V -> V -> Heap -> Nat -> KV -> Prop) : SF := fun call l H n k => List.rec (motive := fun _ => Prop) False (fun a l _ => ar5 (fun call => s call a) call l H n k) l
noncomputable def ar7 (s : AQ -> V -> V -> V -> V -> V -> V -> V -> Heap -> Nat -> KV -> Prop) : SF := fun call l H n k => List.rec (motive := fun _ => Prop) False (fun a l _ => ar6 (fun call => s call a) call l H n k) l
noncomputable def ar8 (s : AQ -> V -> V -> V -> V -> V -> V -> V -> V -> Heap -> Nat -> KV -> Prop) : SF := fun call l H n k => List.rec (motive := fun _ => Prop) False (fun a l _ => ar7 (fun call => s call a) call l H n k) l
noncomputable def ar9 (s : AQ -> V -> V -> V -> V -> V -> V -> V -> V -> V -> Heap -> Nat -> KV -> Prop) : SF := fun call l H n k => List.rec (motive := fun _ => Prop) False (fun a l _ => ar8 (fun call => s call a) call l H n k) l
noncomputable def ALP (s : AQ -> V -> V -> V -> V -> V -> V -> V -> V -> V -> V -> Heap -> Nat -> KV -> Prop) : SF := fun call l H n k => List.rec (motive := fun _ => Prop) False (fun a l _ => ar9 (fun call => s call a) call l H n k) l
noncomputable def AMM (s : AQ -> V -> V -> V -> V -> V -> V -> V -> V -> V -> V -> V -> Heap -> Nat -> KV -> Prop) : SF := fun call l H n k => List.rec (motive := fun _ => Prop) False (fun a l _ => ALP (fun call => s call a) call l H n k) l
noncomputable def ASb (s : AQ -> V -> V -> V -> V -> V -> V -> V -> V -> V -> V -> V -> V -> Heap -> Nat -> KV -> Prop) : SF := fun call l H n k => List.rec (motive := fun _ => Prop) False (fun a l _ => AMM (fun call => s call a) call l H n k) l
theorem AEW {s : AQ -> Heap -> Nat -> KV -> Prop} {call : AQ} {l : List V} {H : Heap} {n : Nat} {k : KV} (h : ar0 s call l H n k) : l = [] /\ s call H n k := by
 cases l with
 | nil => exact ⟨rfl, h⟩
 | cons => exact (show False from h).elim
theorem ADk {s : AQ -> V -> Heap -> Nat -> KV -> Prop} {call : AQ} {l : List V} {H : Heap} {n : Nat} {k : KV} (h : Eu s call l H n k) : ∃ a0, l = [a0] /\ s call a0 H n k := by
 cases l with
 | nil => exact (show False from h).elim
 | cons a l =>
  obtain ⟨rfl, h⟩ := AEW (show ar0 (fun call => s call a) call l H n k from h)
  exact ⟨a, rfl, h⟩
theorem ADt {s : AQ -> V -> V -> Heap -> Nat -> KV -> Prop} {call : AQ} {l : List V} {H : Heap} {n : Nat} {k : KV} (h : Qd s call l H n k) : ∃ a0 a1, l = [a0, a1] /\ s call a0 a1 H n k := by
 cases l with
 | nil => exact (show False from h).elim
 | cons a l =>
  obtain ⟨b0, rfl, h⟩ := ADk (show Eu (fun call => s call a) call l H n k from h)
  exact ⟨a, b0, rfl, h⟩
theorem AEL {s : AQ -> V -> V -> V -> Heap -> Nat -> KV -> Prop} {call : AQ} {l : List V} {H : Heap} {n : Nat} {k : KV} (h : ar3 s call l H n k) : ∃ a0 a1 a2, l = [a0, a1, a2] /\ s call a0 a1 a2 H n k := by
 cases l with
 | nil => exact (show False from h).elim
 | cons a l =>
  obtain ⟨b0, b1, rfl, h⟩ := ADt (show Qd (fun call => s call a) call l H n k from h)
  exact ⟨a, b0, b1, rfl, h⟩
theorem ADs {s : AQ -> V -> V -> V -> V -> Heap -> Nat -> KV -> Prop} {call : AQ} {l : List V} {H : Heap} {n : Nat} {k : KV} (h : ar4 s call l H n k) : ∃ a0 a1 a2 a3, l = [a0, a1, a2, a3] /\ s call a0 a1 a2 a3 H n k := by
 cases l with
 | nil => exact (show False from h).elim
 | cons a l =>
  obtain ⟨b0, b1, b2, rfl, h⟩ := AEL (show ar3 (fun call => s call a) call l H n k from h)
  exact ⟨a, b0, b1, b2, rfl, h⟩
theorem ADf {s : AQ -> V -> V -> V -> V -> V -> Heap -> Nat -> KV -> Prop} {call : AQ} {l : List V} {H : Heap} {n : Nat} {k : KV} (h : ar5 s call l H n k) : ∃ a0 a1 a2 a3 a4, l = [a0, a1, a2, a3, a4] /\ s call a0 a1 a2 a3 a4 H n k := by
 cases l with
 | nil => exact (show False from h).elim
 | cons a l =>
  obtain ⟨b0, b1, b2, b3, rfl, h⟩ := ADs (show ar4 (fun call => s call a) call l H n k from h)
  exact ⟨a, b0, b1, b2, b3, rfl, h⟩
theorem ADl {s : AQ -> V -> V -> V -> V -> V -> V -> Heap -> Nat -> KV -> Prop} {call : AQ} {l : List V} {H : Heap} {n : Nat} {k : KV} (h : ar6 s call l H n k) : ∃ a0 a1 a2 a3 a4 a5, l = [a0, a1, a2, a3, a4, a5] /\ s call a0 a1 a2 a3 a4 a5 H n k := by
 cases l with
 | nil => exact (show False from h).elim
 | cons a l =>
  obtain ⟨b0, b1, b2, b3, b4, rfl, h⟩ := ADf (show ar5 (fun call => s call a) call l H n k from h)
  exact ⟨a, b0, b1, b2, b3, b4, rfl, h⟩
theorem AEN {s : AQ -> V -> V -> V -> V -> V -> V -> V -> Heap -> Nat -> KV -> Prop} {call : AQ} {l : List V} {H : Heap} {n : Nat} {k : KV} (h : ar7 s call l H n k) : ∃ a0 a1 a2 a3 a4 a5 a6, l = [a0, a1, a2, a3, a4, a5, a6] /\ s call a0 a1 a2 a3 a4 a5 a6 H n k := by
 cases l with
 | nil => exact (show False from h).elim
 | cons a l =>
  obtain ⟨b0, b1, b2, b3, b4, b5, rfl, h⟩ := ADl (show ar6 (fun call => s call a) call l H n k from h)
  exact ⟨a, b0, b1, b2, b3, b4, b5, rfl, h⟩
theorem ADp {s : AQ -> V -> V -> V -> V -> V -> V -> V -> V -> Heap -> Nat -> KV -> Prop} {call : AQ} {l : List V} {H : Heap} {n : Nat} {k : KV} (h : ar8 s call l H n k) : ∃ a0 a1 a2 a3 a4 a5 a6 a7, l = [a0, a1, a2, a3, a4, a5, a6, a7] /\ s call a0 a1 a2 a3 a4 a5 a6 a7 H n k := by
 cases l with
 | nil => exact (show False from h).elim
 | cons a l =>
  obtain ⟨b0, b1, b2, b3, b4, b5, b6, rfl, h⟩ := AEN (show ar7 (fun call => s call a) call l H n k from h)
  exact ⟨a, b0, b1, b2, b3, b4, b5, b6, rfl, h⟩
theorem AKf {s : AQ -> V -> V -> V -> V -> V -> V -> V -> V -> V -> Heap -> Nat -> KV -> Prop} {call : AQ} {l : List V} {H : Heap} {n : Nat} {k : KV} (h : ar9 s call l H n k) : ∃ a0 a1 a2 a3 a4 a5 a6 a7 a8, l = [a0, a1, a2, a3, a4, a5, a6, a7, a8] /\ s call a0 a1 a2 a3 a4 a5 a6 a7 a8 H n k := by
 cases l with
 | nil => exact (show False from h).elim
 | cons a l =>
  obtain ⟨b0, b1, b2, b3, b4, b5, b6, b7, rfl, h⟩ := ADp (show ar8 (fun call => s call a) call l H n k from h)
  exact ⟨a, b0, b1, b2, b3, b4, b5, b6, b7, rfl, h⟩
theorem AGx {s : AQ -> V -> V -> V -> V -> V -> V -> V -> V -> V -> V -> Heap -> Nat -> KV -> Prop} {call : AQ} {l : List V} {H : Heap} {n : Nat} {k : KV} (h : ALP s call l H n k) : ∃ a0 a1 a2 a3 a4 a5 a6 a7 a8 a9, l = [a0, a1, a2, a3, a4, a5, a6, a7, a8, a9] /\ s call a0 a1 a2 a3 a4 a5 a6 a7 a8 a9 H n k := by
 cases l with
 | nil => exact (show False from h).elim
 | cons a l =>
  obtain ⟨b0, b1, b2, b3, b4, b5, b6, b7, b8, rfl, h⟩ := AKf (show ar9 (fun call => s call a) call l H n k from h)
  exact ⟨a, b0, b1, b2, b3, b4, b5, b6, b7, b8, rfl, h⟩
theorem AGe {s : AQ -> V -> V -> V -> V -> V -> V -> V -> V -> V -> V -> V -> Heap -> Nat -> KV -> Prop} {call : AQ} {l : List V} {H : Heap} {n : Nat} {k : KV} (h : AMM s call l H n k) : ∃ a0 a1 a2 a3 a4 a5 a6 a7 a8 a9 a10, l = [a0, a1, a2, a3, a4, a5, a6, a7, a8, a9, a10] /\ s call a0 a1 a2 a3 a4 a5 a6 a7 a8 a9 a10 H n k := by
 cases l with
 | nil => exact (show False from h).elim
 | cons a l =>
  obtain ⟨b0, b1, b2, b3, b4, b5, b6, b7, b8, b9, rfl, h⟩ := AGx (show ALP (fun call => s call a) call l H n k from h)
  exact ⟨a, b0, b1, b2, b3, b4, b5, b6, b7, b8, b9, rfl, h⟩
theorem AOq {s : AQ -> V -> V -> V -> V -> V -> V -> V -> V -> V -> V -> V -> V -> Heap -> Nat -> KV -> Prop} {call : AQ} {l : List V} {H : Heap} {n : Nat} {k : KV} (h : ASb s call l H n k) : ∃ a0 a1 a2 a3 a4 a5 a6 a7 a8 a9 a10 a11, l = [a0, a1, a2, a3, a4, a5, a6, a7, a8, a9, a10, a11] /\ s call a0 a1 a2 a3 a4 a5 a6 a7 a8 a9 a10 a11 H n k := by
 cases l with
 | nil => exact (show False from h).elim
 | cons a l =>
  obtain ⟨b0, b1, b2, b3, b4, b5, b6, b7, b8, b9, b10, rfl, h⟩ := AGe (show AMM (fun call => s call a) call l H n k from h)
  exact ⟨a, b0, b1, b2, b3, b4, b5, b6, b7, b8, b9, b10, rfl, h⟩
noncomputable def AHK (FS : T SF) (fuel : Nat) : AQ :=
 Nat.rec (motive := fun _ => AQ) (fun _ _ _ _ _ => False) (fun _ call f args H n k => FN (T.get FS f) fun s => s call args H n k) fuel
def gZ (G : AP) (af : AF) (s : SF) : Prop := ∀ call callE, EW call callE -> CQ callE -> ∀ args H n k, s call args H n k -> mX af G callE args H n k
def ABq (F : T AF) (G : AP) (FS : T SF) : Prop := ∀ f s, T.get FS f = some s -> ∃ af, T.get F f = some af /\ gZ G af s
theorem qV {F : T AF} {G : AP} {FS : T SF} (h : ABq F G FS) : ∀ m, EW (AHK FS m) (Runs F G)
 | 0 => fun _ _ _ _ _ h => (show False from h).elim
 | m + 1 => fun f a H n k hr => by
  have hr' : FN (T.get FS f) fun s => s (AHK FS m) a H n k := hr
  rw [Ho] at hr'
  obtain ⟨s, hs, hr'⟩ := hr'
  obtain ⟨af, haf, hok⟩ := h f s hs
  exact ZC haf (hok _ _ (qV h m) (Vt F G) _ _ _ _ hr')
theorem ARL {F : T AF} {G : AP} {FS : T SF} (h : ABq F G FS) {f : Nat} {a : List V} {m : Nat} (hr : AHK FS m f a .e 0 Ov = True) : Runs F G f a .e 0 fun v _ _ => v = .bool true :=
 eF (k := Ov) (fun _ _ _ hv => qo hv) (qV h m _ _ _ _ _ (of_eq_true hr))
end Go.Eng
namespace Go.Eng
section
variable {E : RS} {G : AP} {H : Heap} {x : X} {a : Int}
theorem km1 (hx : x.ev E = .int .i64 a 0) : (AN.cvi .u64 x).ev G E H = some (.int .u64 (IntKind.wrap .u64 a) 0) := by
 show (x.ev E).FH _ = _
 rw [hx]; exact vC _ _
theorem km2 {m t : Nat} (hm : 0 < m) (e : umod a m = t) (hx : x.ev E = .int .u64 (IntKind.wrap .u64 a) 0) : (AN.bin .rem x (.c (.int .u64 (.ofNat m) 0))).ev G E H = some (.int .u64 (.ofNat t) 0) := by
 subst e
 show B2.ev .rem (x.ev E) (.int .u64 (.ofNat m) 0) = _
 rw [hx]
 show Aq (band true (band true (Ub (ieq (.ofNat m) 0)))) (mkN .u64 (Int.tmod (IntKind.wrap .u64 a) (.ofNat m)) 0) = _
 have : ieq (.ofNat m) 0 = false := by rw [Qb]; simp; omega
 rw [this]
 show JG (Int.tmod (IntKind.wrap .u64 a) (.ofNat m)) (fun m => some (.int .u64 m 0)) = _
 rw [KN]
 exact congrArg (fun z => some (V.int .u64 z 0)) (umod_eq a m)
theorem km3 {m t : Nat} (hm : m < 9223372036854775808) (e : jT a m = t) (hx : x.ev E = .int .i64 a 0) : (AN.bin .and x (.c (.int .i64 (.ofNat m) 0))).ev G E H = some (.int .i64 (.ofNat t) 0) := by
 subst e
 show AJ1 (x.ev E) (.int .i64 (.ofNat m) 0) = _
 rw [hx]
 show Aq true (JG (AGh .i64 a (.ofNat m)) fun m => some (.int .i64 m 0)) = _
 rw [yJ a hm]; rfl
end
theorem APK {F : T AF} {G : AP} {FS : T SF} (h : ABq F G FS) {f : Nat} {af : AF} (hf : T.get F f = some af) {a : List V} (m : Nat) {t : KV -> Prop} (hs : ∀ callE, EW (AHK FS m) callE -> CQ callE -> t Ov -> mX af G callE a .e 0 Ov) (hr : t Ov = True) :
    Runs F G f a .e 0 fun v _ _ => v = .bool true :=
  eF (k := Ov) (fun _ _ _ hv => qo hv) (ZC hf (hs _ (qV h m) (Vt F G) (of_eq_true hr)))
theorem below2 {p : Nat -> Prop} (h0 : p 0) (h1 : p 1) (x : Nat) (hx : x < 2) : p x := by
 have : x = 0 ∨ x = 1 := by omega
 rcases this with rfl | rfl <;> assumption
theorem below3 {p : Nat -> Prop} (h0 : p 0) (h1 : p 1) (h2 : p 2) (x : Nat) (hx : x < 3) : p x := by
 have : x = 0 ∨ x = 1 ∨ x = 2 := by omega
 rcases this with rfl | rfl | rfl <;> assumption
theorem ATE {p : Nat -> Prop} (h0 : p 0) (h1 : p 1) (h2 : p 2) (h3 : p 3) (x : Nat) (hx : x < 4) : p x := by
 have : x = 0 ∨ x = 1 ∨ x = 2 ∨ x = 3 := by omega
 rcases this with rfl | rfl | rfl | rfl <;> assumption
theorem ASu {p : Nat -> Prop} (h0 : p 0) (h1 : p 1) (h2 : p 2) (h3 : p 3) (h4 : p 4) (x : Nat) (hx : x < 5) : p x := by
 have : x = 0 ∨ x = 1 ∨ x = 2 ∨ x = 3 ∨ x = 4 := by omega
 rcases this with rfl | rfl | rfl | rfl | rfl <;> assumption
theorem ARl {p : Nat -> Prop} (h0 : p 0) (h1 : p 1) (h2 : p 2) (h3 : p 3) (h4 : p 4) (h5 : p 5) (x : Nat) (hx : x < 6) : p x := by
 have : x = 0 ∨ x = 1 ∨ x = 2 ∨ x = 3 ∨ x = 4 ∨ x = 5 := by omega
 rcases this with rfl | rfl | rfl | rfl | rfl | rfl <;> assumption
theorem ATP {p : Nat -> Prop} (h0 : p 0) (h1 : p 1) (h2 : p 2) (h3 : p 3) (h4 : p 4) (h5 : p 5) (h6 : p 6) (x : Nat) (hx : x < 7) : p x := by
 have : x = 0 ∨ x = 1 ∨ x = 2 ∨ x = 3 ∨ x = 4 ∨ x = 5 ∨ x = 6 := by omega
 rcases this with rfl | rfl | rfl | rfl | rfl | rfl | rfl <;> assumption
theorem ATJ {p : Nat -> Prop} (h0 : p 0) (h1 : p 1) (h2 : p 2) (h3 : p 3) (h4 : p 4) (h5 : p 5) (h6 : p 6) (h7 : p 7) (x : Nat) (hx : x < 8) : p x := by
 have : x = 0 ∨ x = 1 ∨ x = 2 ∨ x = 3 ∨ x = 4 ∨ x = 5 ∨ x = 6 ∨ x = 7 := by omega
 rcases this with rfl | rfl | rfl | rfl | rfl | rfl | rfl | rfl <;> assumption
theorem ASO {p : Nat -> Prop} (h0 : p 0) (h1 : p 1) (h2 : p 2) (h3 : p 3) (h4 : p 4) (h5 : p 5) (h6 : p 6) (h7 : p 7) (h8 : p 8) (x : Nat) (hx : x < 9) : p x := by
 have : x = 0 ∨ x = 1 ∨ x = 2 ∨ x = 3 ∨ x = 4 ∨ x = 5 ∨ x = 6 ∨ x = 7 ∨ x = 8 := by omega
 rcases this with rfl | rfl | rfl | rfl | rfl | rfl | rfl | rfl | rfl <;> assumption
theorem ARc {p : Nat -> Prop} (h0 : p 0) (h1 : p 1) (h2 : p 2) (h3 : p 3) (h4 : p 4) (h5 : p 5) (h6 : p 6) (h7 : p 7) (h8 : p 8) (h9 : p 9) (x : Nat) (hx : x < 10) : p x := by
 have : x = 0 ∨ x = 1 ∨ x = 2 ∨ x = 3 ∨ x = 4 ∨ x = 5 ∨ x = 6 ∨ x = 7 ∨ x = 8 ∨ x = 9 := by omega
 rcases this with rfl | rfl | rfl | rfl | rfl | rfl | rfl | rfl | rfl | rfl <;> assumption
theorem ARS {p : Nat -> Prop} (h0 : p 0) (h1 : p 1) (h2 : p 2) (h3 : p 3) (h4 : p 4) (h5 : p 5) (h6 : p 6) (h7 : p 7) (h8 : p 8) (h9 : p 9) (h10 : p 10) (h11 : p 11) (x : Nat) (hx : x < 12) : p x := by
 have : x = 0 ∨ x = 1 ∨ x = 2 ∨ x = 3 ∨ x = 4 ∨ x = 5 ∨ x = 6 ∨ x = 7 ∨ x = 8 ∨ x = 9 ∨ x = 10 ∨ x = 11 := by omega
 rcases this with rfl | rfl | rfl | rfl | rfl | rfl | rfl | rfl | rfl | rfl | rfl | rfl <;> assumption
theorem ARj {p : Nat -> Prop} (h0 : p 0) (h1 : p 1) (h2 : p 2) (h3 : p 3) (h4 : p 4) (h5 : p 5) (h6 : p 6) (h7 : p 7) (h8 : p 8) (h9 : p 9) (h10 : p 10) (h11 : p 11) (h12 : p 12) (h13 : p 13) (h14 : p 14) (h15 : p 15) (x : Nat) (hx : x < 16) : p x := by
 have : x = 0 ∨ x = 1 ∨ x = 2 ∨ x = 3 ∨ x = 4 ∨ x = 5 ∨ x = 6 ∨ x = 7 ∨ x = 8 ∨ x = 9 ∨ x = 10 ∨ x = 11 ∨ x = 12 ∨ x = 13 ∨ x = 14 ∨ x = 15 := by omega
 rcases this with rfl | rfl | rfl | rfl | rfl | rfl | rfl | rfl | rfl | rfl | rfl | rfl | rfl | rfl | rfl | rfl <;> assumption
theorem AQy {p : Nat -> Prop} (h0 : p 0) (h1 : p 1) (h2 : p 2) (h3 : p 3) (h4 : p 4) (h5 : p 5) (h6 : p 6) (h7 : p 7) (h8 : p 8) (h9 : p 9) (h10 : p 10) (h11 : p 11) (h12 : p 12) (h13 : p 13) (h14 : p 14) (h15 : p 15) (h16 : p 16) (h17 : p 17) (h18 : p 18) (h19 : p 19) (x : Nat) (hx : x < 20) : p x := by
 have : x = 0 ∨ x = 1 ∨ x = 2 ∨ x = 3 ∨ x = 4 ∨ x = 5 ∨ x = 6 ∨ x = 7 ∨ x = 8 ∨ x = 9 ∨ x = 10 ∨ x = 11 ∨ x = 12 ∨ x = 13 ∨ x = 14 ∨ x = 15 ∨ x = 16 ∨ x = 17 ∨ x = 18 ∨ x = 19 := by omega
 rcases this with rfl | rfl | rfl | rfl | rfl | rfl | rfl | rfl | rfl | rfl | rfl | rfl | rfl | rfl | rfl | rfl | rfl | rfl | rfl | rfl <;> assumption
theorem ARe {p : Nat -> Prop} (h0 : p 0) (h1 : p 1) (h2 : p 2) (h3 : p 3) (h4 : p 4) (h5 : p 5) (h6 : p 6) (h7 : p 7) (h8 : p 8) (h9 : p 9) (h10 : p 10) (h11 : p 11) (h12 : p 12) (h13 : p 13) (h14 : p 14) (h15 : p 15) (h16 : p 16) (h17 : p 17) (h18 : p 18) (h19 : p 19) (h20 : p 20) (h21 : p 21) (h22 : p 22) (h23 : p 23) (h24 : p 24) (h25 : p 25) (h26 : p 26) (h27 : p 27) (h28 : p 28) (h29 : p 29) (x : Nat) (hx : x < 30) : p x := by
 match x, hx with
 | 0, _ => exact h0
 | 1, _ => exact h1
 | 2, _ => exact h2
 | 3, _ => exact h3
 | 4, _ => exact h4
 | 5, _ => exact h5
 | 6, _ => exact h6
 | 7, _ => exact h7
 | 8, _ => exact h8
 | 9, _ => exact h9
 | 10, _ => exact h10
 | 11, _ => exact h11
 | 12, _ => exact h12
 | 13, _ => exact h13
 | 14, _ => exact h14
 | 15, _ => exact h15
 | 16, _ => exact h16
 | 17, _ => exact h17
 | 18, _ => exact h18
 | 19, _ => exact h19
 | 20, _ => exact h20
 | 21, _ => exact h21
 | 22, _ => exact h22
 | 23, _ => exact h23
 | 24, _ => exact h24
 | 25, _ => exact h25
 | 26, _ => exact h26
 | 27, _ => exact h27
 | 28, _ => exact h28
 | 29, _ => exact h29
 | x + 30, hx => exact absurd hx (by omega)
theorem ARF {p : Nat -> Prop} (h0 : p 0) (h1 : p 1) (h2 : p 2) (h3 : p 3) (h4 : p 4) (h5 : p 5) (h6 : p 6) (h7 : p 7) (h8 : p 8) (h9 : p 9) (h10 : p 10) (h11 : p 11) (h12 : p 12) (h13 : p 13) (h14 : p 14) (h15 : p 15) (h16 : p 16) (h17 : p 17) (h18 : p 18) (h19 : p 19) (h20 : p 20) (h21 : p 21) (h22 : p 22) (h23 : p 23) (h24 : p 24) (h25 : p 25) (h26 : p 26) (h27 : p 27) (h28 : p 28) (h29 : p 29) (h30 : p 30) (h31 : p 31) (x : Nat) (hx : x < 32) : p x := by
 match x, hx with
 | 0, _ => exact h0
 | 1, _ => exact h1
 | 2, _ => exact h2
 | 3, _ => exact h3
 | 4, _ => exact h4
 | 5, _ => exact h5
 | 6, _ => exact h6
 | 7, _ => exact h7
 | 8, _ => exact h8
 | 9, _ => exact h9
 | 10, _ => exact h10
 | 11, _ => exact h11
 | 12, _ => exact h12
 | 13, _ => exact h13
 | 14, _ => exact h14
 | 15, _ => exact h15
 | 16, _ => exact h16
 | 17, _ => exact h17
 | 18, _ => exact h18
 | 19, _ => exact h19
 | 20, _ => exact h20
 | 21, _ => exact h21
 | 22, _ => exact h22
 | 23, _ => exact h23
 | 24, _ => exact h24
 | 25, _ => exact h25
 | 26, _ => exact h26
 | 27, _ => exact h27
 | 28, _ => exact h28
 | 29, _ => exact h29
 | 30, _ => exact h30
 | 31, _ => exact h31
 | x + 32, hx => exact absurd hx (by omega)
theorem ARC {p : Nat -> Prop} (h0 : p 0) (h1 : p 1) (h2 : p 2) (h3 : p 3) (h4 : p 4) (h5 : p 5) (h6 : p 6) (h7 : p 7) (h8 : p 8) (h9 : p 9) (h10 : p 10) (h11 : p 11) (h12 : p 12) (h13 : p 13) (h14 : p 14) (h15 : p 15) (h16 : p 16) (h17 : p 17) (h18 : p 18) (h19 : p 19) (h20 : p 20) (h21 : p 21) (h22 : p 22) (h23 : p 23) (h24 : p 24) (h25 : p 25) (h26 : p 26) (h27 : p 27) (h28 : p 28) (h29 : p 29) (h30 : p 30) (h31 : p 31) (h32 : p 32) (h33 : p 33) (h34 : p 34) (h35 : p 35) (h36 : p 36) (h37 : p 37) (h38 : p 38) (h39 : p 39) (h40 : p 40) (h41 : p 41) (x : Nat) (hx : x < 42) : p x := by
 match x, hx with
 | 0, _ => exact h0
 | 1, _ => exact h1
 | 2, _ => exact h2
 | 3, _ => exact h3
 | 4, _ => exact h4
 | 5, _ => exact h5
 | 6, _ => exact h6
 | 7, _ => exact h7
 | 8, _ => exact h8
 | 9, _ => exact h9
 | 10, _ => exact h10
 | 11, _ => exact h11
 | 12, _ => exact h12
 | 13, _ => exact h13
 | 14, _ => exact h14
 | 15, _ => exact h15
 | 16, _ => exact h16
 | 17, _ => exact h17
 | 18, _ => exact h18
 | 19, _ => exact h19
 | 20, _ => exact h20
 | 21, _ => exact h21
 | 22, _ => exact h22
 | 23, _ => exact h23
 | 24, _ => exact h24
 | 25, _ => exact h25
 | 26, _ => exact h26
 | 27, _ => exact h27
 | 28, _ => exact h28
 | 29, _ => exact h29
 | 30, _ => exact h30
 | 31, _ => exact h31
 | 32, _ => exact h32
 | 33, _ => exact h33
 | 34, _ => exact h34
 | 35, _ => exact h35
 | 36, _ => exact h36
 | 37, _ => exact h37
 | 38, _ => exact h38
 | 39, _ => exact h39
 | 40, _ => exact h40
 | 41, _ => exact h41
 | x + 42, hx => exact absurd hx (by omega)
theorem ARK {p : Nat -> Prop} (h0 : p 0) (h1 : p 1) (h2 : p 2) (h3 : p 3) (h4 : p 4) (h5 : p 5) (h6 : p 6) (h7 : p 7) (h8 : p 8) (h9 : p 9) (h10 : p 10) (h11 : p 11) (h12 : p 12) (h13 : p 13) (h14 : p 14) (h15 : p 15) (h16 : p 16) (h17 : p 17) (h18 : p 18) (h19 : p 19) (h20 : p 20) (h21 : p 21) (h22 : p 22) (h23 : p 23) (h24 : p 24) (h25 : p 25) (h26 : p 26) (h27 : p 27) (h28 : p 28) (h29 : p 29) (h30 : p 30) (h31 : p 31) (h32 : p 32) (h33 : p 33) (h34 : p 34) (h35 : p 35) (h36 : p 36) (h37 : p 37) (h38 : p 38) (h39 : p 39) (h40 : p 40) (h41 : p 41) (h42 : p 42) (h43 : p 43) (h44 : p 44) (h45 : p 45) (h46 : p 46) (h47 : p 47) (h48 : p 48) (h49 : p 49) (h50 : p 50) (h51 : p 51) (h52 : p 52) (h53 : p 53) (h54 : p 54) (h55 : p 55) (h56 : p 56) (h57 : p 57) (h58 : p 58) (h59 : p 59) (h60 : p 60) (h61 : p 61) (h62 : p 62) (h63 : p 63) (x : Nat) (hx : x < 64) : p x := by
 match x, hx with
 | 0, _ => exact h0
 | 1, _ => exact h1
 | 2, _ => exact h2
 | 3, _ => exact h3
 | 4, _ => exact h4
 | 5, _ => exact h5
 | 6, _ => exact h6
 | 7, _ => exact h7
 | 8, _ => exact h8
 | 9, _ => exact h9
 | 10, _ => exact h10
 | 11, _ => exact h11
 | 12, _ => exact h12
 | 13, _ => exact h13
 | 14, _ => exact h14
 | 15, _ => exact h15
 | 16, _ => exact h16
 | 17, _ => exact h17
 | 18, _ => exact h18
 | 19, _ => exact h19
 | 20, _ => exact h20
 | 21, _ => exact h21
 | 22, _ => exact h22
 | 23, _ => exact h23
 | 24, _ => exact h24
 | 25, _ => exact h25
 | 26, _ => exact h26
 | 27, _ => exact h27
 | 28, _ => exact h28
 | 29, _ => exact h29
 | 30, _ => exact h30
 | 31, _ => exact h31
 | 32, _ => exact h32
 | 33, _ => exact h33
 | 34, _ => exact h34
 | 35, _ => exact h35
 | 36, _ => exact h36
 | 37, _ => exact h37
 | 38, _ => exact h38
 | 39, _ => exact h39
 | 40, _ => exact h40
 | 41, _ => exact h41
 | 42, _ => exact h42
 | 43, _ => exact h43
 | 44, _ => exact h44
 | 45, _ => exact h45
 | 46, _ => exact h46
 | 47, _ => exact h47
 | 48, _ => exact h48
 | 49, _ => exact h49
 | 50, _ => exact h50
 | 51, _ => exact h51
 | 52, _ => exact h52
 | 53, _ => exact h53
 | 54, _ => exact h54
 | 55, _ => exact h55
 | 56, _ => exact h56
 | 57, _ => exact h57
 | 58, _ => exact h58
 | 59, _ => exact h59
 | 60, _ => exact h60
 | 61, _ => exact h61
 | 62, _ => exact h62
 | 63, _ => exact h63
 | x + 64, hx => exact absurd hx (by omega)
theorem ARA {p : Nat -> Prop} (h0 : p 0) (h1 : p 1) (h2 : p 2) (h3 : p 3) (h4 : p 4) (h5 : p 5) (h6 : p 6) (h7 : p 7) (h8 : p 8) (h9 : p 9) (h10 : p 10) (h11 : p 11) (h12 : p 12) (h13 : p 13) (h14 : p 14) (h15 : p 15) (h16 : p 16) (h17 : p 17) (h18 : p 18) (h19 : p 19) (h20 : p 20) (h21 : p 21) (h22 : p 22) (h23 : p 23) (h24 : p 24) (h25 : p 25) (h26 : p 26) (h27 : p 27) (h28 : p 28) (h29 : p 29) (h30 : p 30) (h31 : p 31) (h32 : p 32) (h33 : p 33) (h34 : p 34) (h35 : p 35) (h36 : p 36) (h37 : p 37) (h38 : p 38) (h39 : p 39) (h40 : p 40) (h41 : p 41) (h42 : p 42) (h43 : p 43) (h44 : p 44) (h45 : p 45) (h46 : p 46) (h47 : p 47) (h48 : p 48) (h49 : p 49) (h50 : p 50) (h51 : p 51) (h52 : p 52) (h53 : p 53) (h54 : p 54) (h55 : p 55) (h56 : p 56) (h57 : p 57) (h58 : p 58) (h59 : p 59) (h60 : p 60) (h61 : p 61) (h62 : p 62) (h63 : p 63) (h64 : p 64) (h65 : p 65) (h66 : p 66) (h67 : p 67) (h68 : p 68) (h69 : p 69) (h70 : p 70) (h71 : p 71) (h72 : p 72) (h73 : p 73) (h74 : p 74) (h75 : p 75) (h76 : p 76) (h77 : p 77) (h78 : p 78) (h79 : p 79) (h80 : p 80) (h81 : p 81) (x : Nat) (hx : x < 82) : p x := by
 match x, hx with
 | 0, _ => exact h0
 | 1, _ => exact h1
 | 2, _ => exact h2
 | 3, _ => exact h3
 | 4, _ => exact h4
 | 5, _ => exact h5
 | 6, _ => exact h6
 | 7, _ => exact h7
 | 8, _ => exact h8
 | 9, _ => exact h9
 | 10, _ => exact h10
 | 11, _ => exact h11
 | 12, _ => exact h12
 | 13, _ => exact h13
 | 14, _ => exact h14
 | 15, _ => exact h15
 | 16, _ => exact h16
 | 17, _ => exact h17
 | 18, _ => exact h18
 | 19, _ => exact h19
 | 20, _ => exact h20
 | 21, _ => exact h21
 | 22, _ => exact h22
 | 23, _ => exact h23
 | 24, _ => exact h24
 | 25, _ => exact h25
 | 26, _ => exact h26
 | 27, _ => exact h27
 | 28, _ => exact h28
 | 29, _ => exact h29
 | 30, _ => exact h30
 | 31, _ => exact h31
 | 32, _ => exact h32
 | 33, _ => exact h33
 | 34, _ => exact h34
 | 35, _ => exact h35
 | 36, _ => exact h36
 | 37, _ => exact h37
 | 38, _ => exact h38
 | 39, _ => exact h39
 | 40, _ => exact h40
 | 41, _ => exact h41
 | 42, _ => exact h42
 | 43, _ => exact h43
 | 44, _ => exact h44
 | 45, _ => exact h45
 | 46, _ => exact h46
 | 47, _ => exact h47
 | 48, _ => exact h48
 | 49, _ => exact h49
 | 50, _ => exact h50
 | 51, _ => exact h51
 | 52, _ => exact h52
 | 53, _ => exact h53
 | 54, _ => exact h54
 | 55, _ => exact h55
 | 56, _ => exact h56
 | 57, _ => exact h57
 | 58, _ => exact h58
 | 59, _ => exact h59
 | 60, _ => exact h60
 | 61, _ => exact h61
 | 62, _ => exact h62
 | 63, _ => exact h63
 | 64, _ => exact h64
 | 65, _ => exact h65
 | 66, _ => exact h66
 | 67, _ => exact h67
 | 68, _ => exact h68
 | 69, _ => exact h69
 | 70, _ => exact h70
 | 71, _ => exact h71
 | 72, _ => exact h72
 | 73, _ => exact h73
 | 74, _ => exact h74
 | 75, _ => exact h75
 | 76, _ => exact h76
 | 77, _ => exact h77
 | 78, _ => exact h78
 | 79, _ => exact h79
 | 80, _ => exact h80
 | 81, _ => exact h81
 | x + 82, hx => exact absurd hx (by omega)
end Go.Eng
namespace Go.Eng
@[congr] theorem AOG {o o' : Option V} (f : V -> Prop) (h : o = o') : AU o f = AU o' f := by rw [h]
@[congr] theorem AN5 {α : Type} {o o' : Option α} (f : α -> Prop) (h : o = o') : FN o f = FN o' f := by rw [h]
@[congr] theorem AN7 {b b' : Bool} (p : Prop) (h : b = b') : Gn b p = Gn b' p := by rw [h]
@[congr] theorem AKh {v v' : V} (b : Bool) (p q : Prop) (h : v = v') : Ac v b p q = Ac v' b p q := by rw [h]
@[congr] theorem AOF {c c' : V} {b : Bool} {e : Option V} (f : V -> Prop) (h : c = c') : Bg c b e f = Bg c' b e f := by rw [h]
@[congr] theorem ALJ {c c' : V} {b : Bool} {t : KV -> Prop} {H : Heap} {n : Nat} (f : KV) (h : c = c') : KG c b t H n f = KG c' b t H n f := by rw [h]
@[congr] theorem AL8 (F : T AF) (G : AP) (f : Nat) {a a' : List V} {H H' : Heap} {n n' : Nat} (k : KV) (h0 : a = a') (h1 : H = H') (h2 : n = n') : Runs F G f a H n k = Runs F G f a' H' n' k := by rw [h0, h1, h2]
theorem Au (v : V) (f : V -> Prop) : AU (some v) f = f v := rfl
theorem Wn {α : Type} (v : α) (f : α -> Prop) : FN (some v) f = f v := rfl
theorem aB (p : Prop) : Gn true p = p := rfl
theorem Bv (p q : Prop) : Ac (.bool true) true p q = p := rfl
theorem Bl (p q : Prop) : Ac (.bool false) true p q = q := rfl
theorem AUu (b : Bool) (p q : Prop) : Ac (.bool b) true p q = if b = true then p else q := by cases b <;> rfl
theorem AK3 (e : Option V) (f : V -> Prop) : Bg (.bool true) true e f = AU e f := rfl
theorem AQq (e : Option V) (f : V -> Prop) : Bg (.bool false) false e f = AU e f := rfl
theorem APw (e : Option V) (f : V -> Prop) : Bg (.bool true) false e f = f (.Gh []) := rfl
theorem APG (e : Option V) (f : V -> Prop) : Bg (.bool false) true e f = f (.Gh []) := rfl
theorem ASk (b : Bool) (e : Option V) (f : V -> Prop) : Bg (.Gh []) b e f = f (.Gh []) := rfl
theorem AOV (t : KV -> Prop) (H : Heap) (n : Nat) (f : KV) : KG (.bool true) true t H n f = t f := rfl
theorem AO8 (t : KV -> Prop) (H : Heap) (n : Nat) (f : KV) : KG (.bool false) false t H n f = t f := rfl
theorem AOw (t : KV -> Prop) (H : Heap) (n : Nat) (f : KV) : KG (.bool true) false t H n f = f (.Gh []) H n := rfl
theorem APv (t : KV -> Prop) (H : Heap) (n : Nat) (f : KV) : KG (.bool false) true t H n f = f (.Gh []) H n := rfl
theorem ASf (b : Bool) (t : KV -> Prop) (H : Heap) (n : Nat) (f : KV) : KG (.Gh []) b t H n f = f (.Gh []) H n := rfl
theorem AP7 (b : Bool) : WJ (.bool b) = some (.bool (!b)) := by cases b <;> rfl
theorem lC (a b : V) : Dc (.bool true) a b = some a := rfl
theorem AJ5 (a b : V) : Dc (.bool false) a b = some b := rfl
theorem Aw (off id o : Nat) : AX off (.ptr id o) = some (.ptr id (o + off)) := by show CX (Nat.add o off) _ = _; rw [BM]; rfl
theorem AAO (off id o : Nat) : AX off (.gptr id o) = some (.gptr id (o + off)) := by show CX (Nat.add o off) _ = _; rw [BM]; rfl
theorem AKZ (id o : Nat) : BF (.ptr id o) = some (.ptr id o) := rfl
theorem bK (a : V) (l : List V) : Zb (.Gh (a :: l)) 0 = some a := rfl
theorem aj (a b : V) (l : List V) : Zb (.Gh (a :: b :: l)) 1 = some b := rfl
theorem AMm (a b c : V) (l : List V) : Zb (.Gh (a :: b :: c :: l)) 2 = some c := rfl
theorem oU (a : V) (G : AP) (H : Heap) : AZ a G H = LX (lY a G H 1) fun L => nth L 0 := rfl
theorem yH (m : Nat) (a : V) (G : AP) (H : Heap) : BH m a G H = LX (lY a G H m) fun L => some (.agg L) := rfl
theorem eP (id off : Nat) (G : AP) (H : Heap) (n : Nat) : lY (.ptr id off) G H n = ZU H id off n := rfl
theorem zl (L : LV) (f : LV -> Option V) : LX (some L) f = f L := rfl
theorem AV5 {α : Type} (x : α) (l : List α) : nth (x :: l) 0 = some x := rfl
theorem AWk {α : Type} (x : α) (l : List α) (i : Nat) : nth (x :: l) (i + 1) = nth l i := rfl
noncomputable def one (L : LV) : OD := .arr L.length 1 (T.set .e 0 L)
theorem Vy {v : V} {H : Heap} {n : Nat} {P : KV} (h : Xc v = true) : CY (JR v) H n P = P (.ptr n 0) (T.set H n (one (BO v))) (n + 1) := by
 show Gn (Xc v) (DN (len (BO v)) fun e => DN n fun n => P (.ptr n 0) (T.set H n (.arr e 1 (T.set .e 0 (BO v)))) (Nat.succ n)) = _
 rw [BP, BP, len_eq, h]
 rfl
theorem Jk {z : Nat} {L : LV} {H : Heap} {n : Nat} {P : KV} (h : L.length = z) : CY (Ai z [L] E0) H n P = P (.ptr n 0) (T.set H n (one L)) (n + 1) := by
 show DN (len [L]) (fun m => DN n fun n => P (.ptr n 0) (T.set H n (.arr z m (ER [L] 0 .e))) (Nat.succ n)) = _
 rw [BP, BP, len_eq]
 subst h
 rfl
theorem AH3 {H : Heap} {id : Nat} {L : LV} (h : T.get H id = some (one L)) {off m : Nat} (hm : 0 < m) (hl : off + m <= L.length) : ZU H id off m = some ((L.drop off).take m) := by
 unfold ZU
 rw [h]
 show ldB L.length 1 (T.set .e 0 L) off m = _
 unfold ldB
 have hdiv : off / L.length = 0 := Nat.div_eq_of_lt (by omega)
 have hmod : off % L.length = off := Nat.mod_eq_of_lt (by omega)
 have hb : Nat.blt (Nat.div off L.length) 1 = true := by rw [Nat.blt_eq]; show off / L.length < 1; omega
 rw [hb]
 show BK (T.get (T.set T.e 0 L) (Nat.div off L.length)) (ldC L.length off m) = _
 have hg2 : T.get (T.set T.e 0 L) (Nat.div off L.length) = some L := by
  show T.get (T.set T.e 0 L) (off / L.length) = some L
  rw [hdiv]; simp
 rw [hg2]
 show ldC L.length off m L = _
 unfold ldC
 cases hc : band (Nat.beq m L.length) (Nat.beq (Nat.mod off L.length) 0) with
 | true =>
  simp only [BU, Bool.and_eq_true, beq_iff] at hc
  obtain ⟨h1, h2⟩ := hc
  have h2' : off = 0 := by have : off % L.length = 0 := h2; omega
  subst h2'
  simp [h1]
 | false =>
  have hf : Nat.ble (Nat.add (Nat.mod off L.length) m) L.length = true := by
   rw [Nat.ble_eq]; show off % L.length + m <= L.length; omega
  rw [hf]
  show some (Tj m (Xp (Nat.mod off L.length) L)) = _
  rw [Vs, YC]
  show some (List.take m (List.drop (off % L.length) L)) = _
  rw [hmod]
theorem ANQ {H : Heap} {id : Nat} {L : LV} (h : T.get H id = some (one L)) {off m : Nat} {new : LV} (hm : 0 < m) (hn : new.length = m) (hl : off + m <= L.length) : stH H id off m new = some (T.set H id (one (L.take off ++ (new ++ L.drop (off + m))))) := by
 unfold stH
 rw [h]
 show BK (stB L.length 1 (T.set .e 0 L) off m new) (fun b => some (T.set H id b)) = _
 have hdiv : Nat.div off L.length = 0 := Nat.div_eq_of_lt (by omega)
 have hmod : Nat.mod off L.length = off := Nat.mod_eq_of_lt (by omega)
 have hs : stB L.length 1 (T.set .e 0 L) off m new = some (one (L.take off ++ (new ++ L.drop (off + m)))) := by
  unfold stB
  rw [hdiv]
  show BK (T.get (T.set T.e 0 L) 0) (vX new L.length 1 (T.set .e 0 L) off m) = _
  rw [T.Ap]
  show vX new L.length 1 (T.set .e 0 L) off m L = _
  unfold vX
  rw [hmod, hdiv]
  have hlen : (L.take off ++ (new ++ L.drop (off + m))).length = L.length := by simp; omega
  cases hc : band (Nat.beq m L.length) (Nat.beq off 0) with
  | true =>
   simp only [BU, Bool.and_eq_true, beq_iff] at hc
   obtain ⟨h1, h2⟩ := hc
   subst h2
   show some (OD.arr L.length 1 (T.set (T.set T.e 0 L) 0 new)) = _
   unfold one
   rw [hlen]
   have : List.take 0 L ++ (new ++ List.drop (0 + m) L) = new := by simp [h1]
   rw [this]; rfl
  | false =>
   have hf : Nat.ble (Nat.add off m) L.length = true := by rw [Nat.ble_eq]; exact hl
   rw [hf]
   show some (OD.arr L.length 1 (T.set (T.set T.e 0 L) 0 (ABf new off L))) = _
   unfold one
   rw [hlen, yw, hn]; rfl
 rw [hs]
 rfl
theorem BZ {F : T AF} {G : AP} {f : Nat} {af : AF} {s : SF} (hf : T.get F f = some af) (hs : gZ G af s) {args : List V} {H : Heap} {n : Nat} {k : KV} (h : s (Runs F G) args H n k) : Runs F G f args H n k :=
 ZC hf (hs _ _ (fun _ _ _ _ _ h => h) (Vt F G) _ _ _ _ h)
end Go.Eng
namespace Go.Eng
noncomputable def goN (x : X) (b : Bool) (d : Zn) (o : AN) : oO := fun G _ R H n k => Bg (x.ev R) b (o.ev G R H) fun v => k (Eb d v R) H n
noncomputable def goA (x : X) (b : Bool) (d : Zn) (o : AA) : oO := fun _ _ R H n k => KG (x.ev R) b (CY (o.al R) H n) H n fun v H n => k (Eb d v R) H n
noncomputable def goE (x : X) (b : Bool) (d : Zn) (o : AE) : oO := fun G call R H n k => KG (x.ev R) b (o.ex G call R H n) H n fun v H n => k (Eb d v R) H n
noncomputable def ASX (x : X) (b : Bool) (d : Zn) (o : AO) : oO := AO.rec (motive := fun _ => oO) (goN x b d) (goA x b d) (goE x b d) o
noncomputable def oAG (o : AA) : XoT := fun _ _ d R H n k => CY (o.al R) H n fun v H n => k (Eb d v R) H n
noncomputable def AO.xQ (o : AO) : XoT := AO.rec (motive := fun _ => XoT) oN oAG oE o
noncomputable def ARw (d : Zn) (o : AO) : oO := fun G call R H n k => o.xQ G call d R H n k
noncomputable def gK.xQ (o : gK) : oO := gK.rec (motive := fun _ => oO) (fun d g o => Gd.rec (motive := fun _ => Zn -> AO -> oO) ARw ASX g d o) o
theorem AD7 (o : gK) : o.xQ = o.ex := by
 obtain ⟨d, g, o⟩ := o
 cases g <;> cases o <;> rfl
noncomputable def ACd (l : List gK) : oO :=
 List.rec (motive := fun _ => oO) (fun _ _ R H n k => k R H n) (fun o _ g G call R H n k => o.xQ G call R H n fun R H n => g G call R H n k) l
theorem AD5 : ∀ l : List gK, ACd l = Bd l
 | [] => rfl
 | o :: l => by
  show (fun G call R H n k => o.xQ G call R H n fun R H n => ACd l G call R H n k) = fun G call R H n k => o.ex G call R H n fun R H n => Bd l G call R H n k
  rw [AD5 l, AD7]
noncomputable def AQJ (x : X) (b : Bool) : ReT := fun G R H d o k => VQ (x.ev R) b (o.ev G R H) (KJ (T.DU d R.rg)) k
noncomputable def AQU (g : Gd) : ReT := Gd.rec (motive := fun _ => ReT) APs AQJ g
noncomputable def AI.xQ (i : AI) : oO := AI.rec (motive := fun _ => oO) (fun o => o.xQ) (fun d g o G _ R H n k => AQU g G R H d o (k R H n)) i
theorem AMa (i : AI) : i.xQ = i.ex := by
 cases i with
 | op o => exact AD7 o
 | re d g o => cases g <;> rfl
noncomputable def tq (l : List AI) : oO :=
 List.rec (motive := fun _ => oO) (fun _ _ R H n k => k R H n) (fun i _ g G call R H n k => i.xQ G call R H n fun R H n => g G call R H n k) l
theorem xJ : ∀ l : List AI, tq l = AY l
 | [] => rfl
 | o :: l => by
  show (fun G call R H n k => o.xQ G call R H n fun R H n => tq l G call R H n k) = fun G call R H n k => o.ex G call R H n fun R H n => AY l G call R H n k
  rw [xJ l, AMa]
noncomputable def AHV (l : List gK) : M := fun G call _ R H n k _ _ => ACd l G call (.mk [] R) H n fun E H n => k E.rg H n
noncomputable def AH4 (l : List AI) : M := fun G call _ R H n k _ _ => tq l G call (.mk [] R) H n fun E H n => k E.rg H n
noncomputable def AC.xQ (c : AC) : M := AC.rec (motive := fun _ => M) Bz AHV AH4 AH2 ABT tX AAY AF4 AMZ c
theorem iH : ∀ c : AC, c.xQ = c.SY
 | .skip => rfl
 | .ops l => by show AHV l = AJo l; unfold AHV AJo; rw [AD5]
 | .reg l => by show AH4 l = AJf l; unfold AH4 AJf; rw [xJ]
 | .seq a b => by show AH2 a b a.xQ b.xQ = AH2 a b a.SY b.SY; rw [iH a, iH b]
 | .cond x a b => by show ABT x a b a.xQ b.xQ = ABT x a b a.SY b.SY; rw [iH a, iH b]
 | .block i a => by show tX i a a.xQ = tX i a a.SY; rw [iH a]
 | .loop a => by show AAY a a.xQ = AAY a a.SY; rw [iH a]
 | .exit i => rfl
 | .ret => rfl
inductive An : Type 1 where
 | n
 | s (a b : An)
 | j (S : K) (a b : An)
 | c (a b : An)
 | b (a : An)
 | l (σ : Type) (bd : (σ -> Prop) -> σ -> Prop) (st : FY -> Heap -> Nat -> σ) (a : (σ -> Prop) -> An)
abbrev M2 := AC -> AP -> AQ -> FY -> Heap -> Nat -> K -> KX -> K -> Prop
noncomputable def AC.AA6 (c : AC) (f : AC -> AC -> Prop) : Prop := AC.rec (motive := fun _ => Prop) False (fun _ => False) (fun _ => False) (fun a b _ _ => f a b) (fun _ _ _ _ _ => False) (fun _ _ _ => False) (fun _ _ => False) (fun _ => False) False c
noncomputable def AC.ACy (c : AC) (f : X -> AC -> AC -> Prop) : Prop := AC.rec (motive := fun _ => Prop) False (fun _ => False) (fun _ => False) (fun _ _ _ _ => False) (fun x a b _ _ => f x a b) (fun _ _ _ => False) (fun _ _ => False) (fun _ => False) False c
noncomputable def AC.AAg (c : AC) (f : Nat -> AC -> Prop) : Prop := AC.rec (motive := fun _ => Prop) False (fun _ => False) (fun _ => False) (fun _ _ _ _ => False) (fun _ _ _ _ _ => False) (fun i a _ => f i a) (fun _ _ => False) (fun _ => False) False c
noncomputable def AC.ADE (c : AC) (f : AC -> Prop) : Prop := AC.rec (motive := fun _ => Prop) False (fun _ => False) (fun _ => False) (fun _ _ _ _ => False) (fun _ _ _ _ _ => False) (fun _ _ _ => False) (fun a _ => f a) (fun _ => False) False c
noncomputable def An.ex (L : BA) (an : An) : M2 :=
 An.rec (motive := fun _ => M2)
  (fun c G call R H n k x r => c.xQ G call 0 R H n k x r)
  (fun _ _ ga gb c G call R H n k x r => c.AA6 fun a b => ga a G call R H n (fun R H n => gb b G call R H n k x r) x r)
  (fun S _ _ ga _ c G call R H n _ x r => c.AA6 fun a _ => ga a G call R H n S x r)
  (fun _ _ ga gb c G call R H n k x r => c.ACy fun y a b => Ac (y.ev (.mk [] R)) true (ga a G call R H n k x r) (gb b G call R H n k x r))
  (fun _ ga c G call R H n k x r => c.AAg fun i a => ga a G call R H n k (EC i k x) r)
  (fun σ bd st _ _ c _ _ R H n _ _ _ => c.ADE fun _ => L σ bd (st R H n)) an
abbrev M3 := AC -> AP -> AQ -> K -> KX -> K -> Prop
noncomputable def An.ob (L : BA) (an : An) : M3 :=
 An.rec (motive := fun _ => M3)
  (fun _ _ _ _ _ _ => True)
  (fun _ b ga gb c G call k x r => c.AA6 fun a d => ga a G call (fun R H n => b.ex L d G call R H n k x r) x r /\ gb d G call k x r)
  (fun S _ b ga gb c G call k x r => c.AA6 fun a d => ga a G call S x r /\ (∀ R H n, S R H n = b.ex L d G call R H n k x r) /\ gb d G call k x r)
  (fun _ _ ga gb c G call k x r => c.ACy fun _ a b => ga a G call k x r /\ gb b G call k x r)
  (fun _ ga c G call k x r => c.AAg fun i a => ga a G call k (EC i k x) r)
  (fun σ bd st a ga c G call _ x r => c.ADE fun d => ∀ ih : σ -> Prop, (∀ R H n, bd ih (st R H n) = (a ih).ex L d G call R H n (fun R H n => ih (st R H n)) x r) /\ ga ih d G call (fun R H n => ih (st R H n)) x r) an
noncomputable def AC.AHc (c : AC) (f : AC -> AC -> Prop) : Prop := AC.rec (motive := fun _ => Prop) True (fun _ => True) (fun _ => True) (fun a b _ _ => f a b) (fun _ _ _ _ _ => True) (fun _ _ _ => True) (fun _ _ => True) (fun _ => True) True c
noncomputable def AC.AI5 (c : AC) (f : X -> AC -> AC -> Prop) : Prop := AC.rec (motive := fun _ => Prop) True (fun _ => True) (fun _ => True) (fun _ _ _ _ => True) (fun x a b _ _ => f x a b) (fun _ _ _ => True) (fun _ _ => True) (fun _ => True) True c
noncomputable def AC.AGz (c : AC) (f : Nat -> AC -> Prop) : Prop := AC.rec (motive := fun _ => Prop) True (fun _ => True) (fun _ => True) (fun _ _ _ _ => True) (fun _ _ _ _ _ => True) (fun i a _ => f i a) (fun _ _ => True) (fun _ => True) True c
noncomputable def AC.AI0 (c : AC) (f : AC -> Prop) : Prop := AC.rec (motive := fun _ => Prop) True (fun _ => True) (fun _ => True) (fun _ _ _ _ => True) (fun _ _ _ _ _ => True) (fun _ _ _ => True) (fun a _ => f a) (fun _ => True) True c
noncomputable def An.obR (L : BA) (an : An) : M3 :=
 An.rec (motive := fun _ => M3)
  (fun _ _ _ _ _ _ => True)
  (fun _ b ga gb c G call k x r => c.AHc fun a d => ga a G call (fun R H n => b.ex L d G call R H n k x r) x r /\ gb d G call k x r)
  (fun S _ b ga gb c G call k x r => c.AHc fun a d => ga a G call S x r /\ (∀ R H n, S R H n = S R H n) /\ gb d G call k x r)
  (fun _ _ ga gb c G call k x r => c.AI5 fun _ a b => ga a G call k x r /\ gb b G call k x r)
  (fun _ ga c G call k x r => c.AGz fun i a => ga a G call k (EC i k x) r)
  (fun σ bd st a ga c G call _ x r => c.AI0 fun d => ∀ ih : σ -> Prop, (∀ R H n, bd ih (st R H n) = bd ih (st R H n)) /\ ga ih d G call (fun R H n => ih (st R H n)) x r) an
theorem An.AMj (L : BA) (an : An) : ∀ c G call k x r, an.obR L c G call k x r := by
 induction an with
 | n => exact fun _ _ _ _ _ _ => trivial
 | s a b iha ihb => intro c; cases c <;> first | exact fun _ _ _ _ _ => trivial | exact fun G call k x r => ⟨iha _ _ _ _ _ _, ihb _ _ _ _ _ _⟩
 | j S a b iha ihb => intro c; cases c <;> first | exact fun _ _ _ _ _ => trivial | exact fun G call k x r => ⟨iha _ _ _ _ _ _, fun _ _ _ => rfl, ihb _ _ _ _ _ _⟩
 | c a b iha ihb => intro c; cases c <;> first | exact fun _ _ _ _ _ => trivial | exact fun G call k x r => ⟨iha _ _ _ _ _ _, ihb _ _ _ _ _ _⟩
 | b a iha => intro c; cases c <;> first | exact fun _ _ _ _ _ => trivial | exact fun G call k x r => iha _ _ _ _ _ _
 | l σ bd st a iha => intro c; cases c <;> first | exact fun _ _ _ _ _ => trivial | exact fun G call k x r ih => ⟨fun _ _ _ => rfl, iha ih _ _ _ _ _ _⟩
theorem wW {c : AC} {f : AC -> AC -> Prop} (h : c.AA6 f) : ∃ a b, c = .seq a b /\ f a b := by
 cases c <;> first | exact ⟨_, _, rfl, h⟩ | exact (show False from h).elim
theorem ACq {c : AC} {f : X -> AC -> AC -> Prop} (h : c.ACy f) : ∃ x a b, c = .cond x a b /\ f x a b := by
 cases c <;> first | exact ⟨_, _, _, rfl, h⟩ | exact (show False from h).elim
theorem AA0 {c : AC} {f : Nat -> AC -> Prop} (h : c.AAg f) : ∃ i a, c = .block i a /\ f i a := by
 cases c <;> first | exact ⟨_, _, rfl, h⟩ | exact (show False from h).elim
theorem ACp {c : AC} {f : AC -> Prop} (h : c.ADE f) : ∃ a, c = .loop a /\ f a := by
 cases c <;> first | exact ⟨_, rfl, h⟩ | exact (show False from h).elim
section
variable {G : AP} {call callE : AQ}
theorem AIz {c : AC} {R : FY} {H : Heap} {n : Nat} {k : K} {x : KX} {r : K} (h : c.xQ G call 0 R H n k x r) : c.SY G call 0 R H n k x r := by rwa [iH] at h
theorem iE (hle : EW call callE) (hd : CQ callE) : ∀ (c : AC) (R : FY) (H : Heap) (n : Nat) (k k' : K) (x x' : KX) (r r' : K), (∀ R H n, k R H n -> k' R H n) -> (∀ i R H n, x i R H n -> x' i R H n) -> (∀ R H n, r R H n -> r' R H n) ->
    c.SY G call 0 R H n k x r -> c.SY G callE 0 R H n k' x' r'
  | .skip, R, H, n, k, k', x, x', r, r', hk, hx, hr, h => hk _ _ _ h
  | .ops l, R, H, n, k, k', x, x', r, r', hk, hx, hr, h => AB8 hd l _ H n (fun E H n h => hk _ _ _ h) (ACg hd hle G l _ H n _ h)
  | .reg l, R, H, n, k, k', x, x', r, r', hk, hx, hr, h => vT hd l _ H n (fun E H n h => hk _ _ _ h) (uQ hd hle G l _ H n _ h)
  | .seq a b, R, H, n, k, k', x, x', r, r', hk, hx, hr, h => iE hle hd a R H n _ _ x x' r r' (fun R H n h => iE hle hd b R H n k k' x x' r r' hk hx hr h) hx hr h
  | .cond c a b, R, H, n, k, k', x, x', r, r', hk, hx, hr, h => by
    have h' : Ac (c.ev (.mk [] R)) true (a.SY G call 0 R H n k x r) (b.SY G call 0 R H n k x r) := h
    show Ac (c.ev (.mk [] R)) true (a.SY G callE 0 R H n k' x' r') (b.SY G callE 0 R H n k' x' r')
    exact iT h' (iE hle hd a R H n k k' x x' r r' hk hx hr) (iE hle hd b R H n k k' x x' r r' hk hx hr)
  | .block id a, R, H, n, k, k', x, x', r, r', hk, hx, hr, h => by
    refine iE hle hd a R H n k k' (EC id k x) (EC id k' x') r r' hk (fun i R H n h => ?_) hr h
    unfold EC at h ⊢
    cases hb : Nat.beq i id with
    | true => rw [hb] at h; exact hk _ _ _ h
    | false => rw [hb] at h; exact hx _ _ _ _ h
  | .loop a, R, H, n, k, k', x, x', r, r', hk, hx, hr, h => by
    intro I hI
    exact h I fun R H n hb => hI R H n (iE hle hd a R H n I I x x' r r' (fun _ _ _ h => h) hx hr hb)
  | .exit i, R, H, n, k, k', x, x', r, r', hk, hx, hr, h => hx _ _ _ _ h
  | .ret, R, H, n, k, k', x, x', r, r', hk, hx, hr, h => hr _ _ _ h
theorem An.ok {L : BA} (hL : Dk L) (hle : EW call callE) (hd : CQ callE) (an : An) : ∀ (c : AC) (k k' : K) (x x' : KX) (r r' : K), (∀ R H n, k R H n -> k' R H n) -> (∀ i R H n, x i R H n -> x' i R H n) -> (∀ R H n, r R H n -> r' R H n) ->
    an.ob L c G call k x r -> ∀ R H n, an.ex L c G call R H n k x r -> c.SY G callE 0 R H n k' x' r' := by
  induction an with
  | n => exact fun c k k' x x' r r' hk hx hr _ R H n h => iE hle hd c R H n k k' x x' r r' hk hx hr (AIz h)
  | s a b iha ihb =>
    intro c k k' x x' r r' hk hx hr ho R H n h
    obtain ⟨c1, c2, rfl, ho⟩ := wW ho
    exact iha c1 _ _ x x' r r' (fun R H n h => ihb c2 k k' x x' r r' hk hx hr ho.2 R H n h) hx hr ho.1 R H n h
  | j S a b iha ihb =>
    intro c k k' x x' r r' hk hx hr ho R H n h
    obtain ⟨c1, c2, rfl, ho⟩ := wW ho
    exact iha c1 S (fun R H n => c2.SY G callE 0 R H n k' x' r') x x' r r' (fun R H n h => ihb c2 k k' x x' r r' hk hx hr ho.2.2 R H n (ho.2.1 R H n ▸ h)) hx hr ho.1 R H n h
  | c a b iha ihb =>
    intro c k k' x x' r r' hk hx hr ho R H n h
    obtain ⟨y, c1, c2, rfl, ho⟩ := ACq ho
    exact iT (P' := c1.SY G callE 0 R H n k' x' r') (Q' := c2.SY G callE 0 R H n k' x' r') h (fun h => iha c1 k k' x x' r r' hk hx hr ho.1 R H n h) (fun h => ihb c2 k k' x x' r r' hk hx hr ho.2 R H n h)
  | b a iha =>
    intro c k k' x x' r r' hk hx hr ho R H n h
    obtain ⟨i, c1, rfl, ho⟩ := AA0 ho
    refine iha c1 k k' (EC i k x) (EC i k' x') r r' hk (fun j R H n h => ?_) hr ho R H n h
    unfold EC at h ⊢
    cases hb : Nat.beq j i with
    | true => rw [hb] at h; exact hk _ _ _ h
    | false => rw [hb] at h; exact hx _ _ _ _ h
  | l σ bd st a iha =>
    intro c k k' x x' r r' hk hx hr ho R H n h
    obtain ⟨c1, rfl, ho⟩ := ACp ho
    intro I hI
    have h' : L σ bd (st R H n) := h
    refine hL σ bd (fun s => ∀ R H n, st R H n = s -> I R H n) (fun ih hih s hs R H n e => ?_) _ h' R H n rfl
    subst e
    rw [(ho ih).1] at hs
    exact hI R H n (iha ih c1 (fun R H n => ih (st R H n)) I x x' r r' (fun R H n h => hih _ h R H n rfl) hx hr (ho ih).2 R H n hs)
end
noncomputable def fEx (L : BA) (an : An) (af : AF) (G : AP) (call : AQ) (args : List V) (H : Heap) (n : Nat) (k : KV) : Prop :=
 AF.rec (motive := fun _ => Prop) (fun np code res d dg => Gn (Nat.beq (len args) np) (an.ex L code G call (XG args 0 .e) H n (GR res dg d G call k) noX (GR res dg d G call k))) af
noncomputable def fOb (L : BA) (an : An) (af : AF) (G : AP) (call : AQ) (k : KV) : Prop :=
 AF.rec (motive := fun _ => Prop) (fun _ code res d dg => an.ob L code G call (GR res dg d G call k) noX (GR res dg d G call k)) af
noncomputable def ASr (L : BA) (an : An) (af : AF) (G : AP) (call : AQ) (k : KV) : Prop :=
 AF.rec (motive := fun _ => Prop) (fun _ code res d dg => an.obR L code G call (GR res dg d G call k) noX (GR res dg d G call k)) af
theorem obs {L : BA} {an : An} {af : AF} {G : AP} {call : AQ} {k : KV} (h : ASr L an af G call k = fOb L an af G call k) : fOb L an af G call k := by
 rw [<- h]; cases af; exact An.AMj ..
theorem ZE {L : BA} (hL : Dk L) {G : AP} {call callE : AQ} (hle : EW call callE) (hd : CQ callE) {an : An} {af : AF} {args : List V} {H : Heap} {n : Nat} {k : KV} (ho : fOb L an af G call k) (h : fEx L an af G call args H n k) : mX af G callE args H n k := by
 obtain ⟨np, code, res, d, dg⟩ := af
 have h' : Gn (Nat.beq (len args) np) (an.ex L code G call (XG args 0 .e) H n (GR res dg d G call k) noX (GR res dg d G call k)) := h
 show Gn (Nat.beq (len args) np) (code.SY G callE 0 (XG args 0 .e) H n (GR res dg d G callE k) noX (GR res dg d G callE k))
 rw [EN] at h' ⊢
 exact ⟨h'.1, An.ok hL hle hd an code _ _ _ _ _ _ (fun R H n h => YO hd hle res dg d G k R H n h) (fun _ _ _ _ h => h) (fun R H n h => YO hd hle res dg d G k R H n h) ho _ _ _ h'.2⟩
section
variable {L : BA} (hL : Dk L) {G : AP} {af : AF} {an : AQ -> KV -> An} (ho : ∀ call k, fOb L (an call k) af G call k)
include hL ho
theorem sf0 {s : AQ -> Heap -> Nat -> KV -> Prop} (h : ∀ call H n k, s call H n k = fEx L (an call k) af G call [] H n k) : gZ G af (ar0 s) := fun call callE hle hd l H n k hs => by
 obtain ⟨rfl, hs⟩ := AEW hs; exact ZE hL hle hd (ho call k) (h .. ▸ hs)
theorem Xi {s : AQ -> V -> Heap -> Nat -> KV -> Prop} (h : ∀ call a0 H n k, s call a0 H n k = fEx L (an call k) af G call [a0] H n k) : gZ G af (Eu s) := fun call callE hle hd l H n k hs => by
 obtain ⟨a0, rfl, hs⟩ := ADk hs; exact ZE hL hle hd (ho call k) (h .. ▸ hs)
theorem sf2 {s : AQ -> V -> V -> Heap -> Nat -> KV -> Prop} (h : ∀ call a0 a1 H n k, s call a0 a1 H n k = fEx L (an call k) af G call [a0, a1] H n k) : gZ G af (Qd s) := fun call callE hle hd l H n k hs => by
 obtain ⟨a0, a1, rfl, hs⟩ := ADt hs; exact ZE hL hle hd (ho call k) (h .. ▸ hs)
theorem sf3 {s : AQ -> V -> V -> V -> Heap -> Nat -> KV -> Prop} (h : ∀ call a0 a1 a2 H n k, s call a0 a1 a2 H n k = fEx L (an call k) af G call [a0, a1, a2] H n k) : gZ G af (ar3 s) := fun call callE hle hd l H n k hs => by
 obtain ⟨a0, a1, a2, rfl, hs⟩ := AEL hs; exact ZE hL hle hd (ho call k) (h .. ▸ hs)
theorem sf4 {s : AQ -> V -> V -> V -> V -> Heap -> Nat -> KV -> Prop} (h : ∀ call a0 a1 a2 a3 H n k, s call a0 a1 a2 a3 H n k = fEx L (an call k) af G call [a0, a1, a2, a3] H n k) : gZ G af (ar4 s) := fun call callE hle hd l H n k hs => by
 obtain ⟨a0, a1, a2, a3, rfl, hs⟩ := ADs hs; exact ZE hL hle hd (ho call k) (h .. ▸ hs)
theorem sf5 {s : AQ -> V -> V -> V -> V -> V -> Heap -> Nat -> KV -> Prop} (h : ∀ call a0 a1 a2 a3 a4 H n k, s call a0 a1 a2 a3 a4 H n k = fEx L (an call k) af G call [a0, a1, a2, a3, a4] H n k) : gZ G af (ar5 s) := fun call callE hle hd l H n k hs => by
 obtain ⟨a0, a1, a2, a3, a4, rfl, hs⟩ := ADf hs; exact ZE hL hle hd (ho call k) (h .. ▸ hs)
theorem sf6 {s : AQ -> V -> V -> V -> V -> V -> V -> Heap -> Nat -> KV -> Prop} (h : ∀ call a0 a1 a2 a3 a4 a5 H n k, s call a0 a1 a2 a3 a4 a5 H n k = fEx L (an call k) af G call [a0, a1, a2, a3, a4, a5] H n k) : gZ G af (ar6 s) := fun call callE hle hd l H n k hs => by
 obtain ⟨a0, a1, a2, a3, a4, a5, rfl, hs⟩ := ADl hs; exact ZE hL hle hd (ho call k) (h .. ▸ hs)
theorem sf7 {s : AQ -> V -> V -> V -> V -> V -> V -> V -> Heap -> Nat -> KV -> Prop} (h : ∀ call a0 a1 a2 a3 a4 a5 a6 H n k, s call a0 a1 a2 a3 a4 a5 a6 H n k = fEx L (an call k) af G call [a0, a1, a2, a3, a4, a5, a6] H n k) : gZ G af (ar7 s) := fun call callE hle hd l H n k hs => by
 obtain ⟨a0, a1, a2, a3, a4, a5, a6, rfl, hs⟩ := AEN hs; exact ZE hL hle hd (ho call k) (h .. ▸ hs)
theorem sf8 {s : AQ -> V -> V -> V -> V -> V -> V -> V -> V -> Heap -> Nat -> KV -> Prop} (h : ∀ call a0 a1 a2 a3 a4 a5 a6 a7 H n k, s call a0 a1 a2 a3 a4 a5 a6 a7 H n k = fEx L (an call k) af G call [a0, a1, a2, a3, a4, a5, a6, a7] H n k) : gZ G af (ar8 s) := fun call callE hle hd l H n k hs => by
 obtain ⟨a0, a1, a2, a3, a4, a5, a6, a7, rfl, hs⟩ := ADp hs; exact ZE hL hle hd (ho call k) (h .. ▸ hs)
end
end Go.Eng
namespace Go.Eng
def inR (l : List (Nat × Nat)) (t : Nat) : Bool := l.any fun p => Nat.ble p.1 t && Nat.ble t p.2
def opp (l : List Nat) : List (Nat × Wk) := l.map fun j => (j, .plain)
def Zm (n : Nat) : List (Nat × Wk) := opp (List.range n)
def CO (o : Option AF) : AF := o.getD (.mk 0 .skip [] .no 0)
theorem Af {o : Option AF} (h : o.isSome = true) : o = some (CO o) := by
 cases o with
 | none => cases h
 | some a => rfl
end Go.Eng
namespace Go.Eng
theorem iF.one {P : Program} {F : T AF} {f : Nat} {af : AF} {fn : Func} {loc : Nat -> Bool} {df : Bool} {ords : ADQ} {dg : Nat} (hf : P.funcs[f]? = some fn) (hn : (fn.name == "runtime.NumGoroutine") = false)
    (ht : trF P loc df ords dg fn = some af) (hd : af.dg = dg) (hi : AFN af.dp = true) : iF P F f af := ⟨⟨fn, loc, df, ords, hf, hn, hd ▸ ht⟩, .inl hi⟩
theorem iF.two {P : Program} {F : T AF} {f : Nat} {af af' : AF} {fn : Func} {loc : Nat -> Bool} {df : Bool} {ords : ADQ} {dg : Nat} (hf : P.funcs[f]? = some fn) (hn : (fn.name == "runtime.NumGoroutine") = false)
    (ht : trF P loc df ords dg fn = some af) (hd : af.dg = dg) (ha : T.get F dg = some af') (hi : AFN af'.dp = true) : iF P F f af := ⟨⟨fn, loc, df, ords, hf, hn, hd ▸ ht⟩, .inr ⟨af', hd ▸ ha, hi⟩⟩
end Go.Eng
namespace Go.Eng
noncomputable def ATf (b : Bool) (v : V) (p q : Prop) : Prop := v = .bool b /\ Bool.rec (motive := fun _ => Prop) q p b
theorem AQ9 {b : Bool} {v : V} {p q : Prop} (h : ATf b v p q) : Ac v true p q := by
 obtain ⟨rfl, h⟩ := h
 cases b <;> exact h
noncomputable def AQT (b : Bool) (e : Option V) (P : V -> Prop) : Prop := e = some (.bool b) /\ P (.bool b)
theorem AIS {b : Bool} {e : Option V} {P : V -> Prop} (h : AQT b e P) : AU e P := by
 obtain ⟨rfl, h⟩ := h; exact h
noncomputable def ASL (c : V) (g b : Bool) (e : Option V) (P : V -> Prop) : Prop := XV c g (AQT b e P) (P (.Gh []))
theorem ART {c : V} {g b : Bool} {e : Option V} {P : V -> Prop} (h : ASL c g b e P) : Bg c g e P := EF h AIS (fun h => h)
noncomputable def ATV (i : Nat) (e : Option V) (P : Prop) : Prop := e = some (.int .i64 (.ofNat i) 0) /\ P
theorem ARa {i : Nat} {e : Option V} {P : Prop} (h : ATV i e P) : AU e fun v => v = .int .i64 (.ofNat i) 0 /\ P := by
 obtain ⟨rfl, h⟩ := h; exact ⟨rfl, h⟩
noncomputable def ASI (b : Bool) (s : SF) : SF := fun call args H n k =>
 List.rec (motive := fun _ => Prop) False (fun v l _ => v = .bool b /\ s call (.bool b :: l) H n k) args
theorem ARZ {G : AP} {af : AF} {b : Bool} {s : SF} (h : gZ G af s) : gZ G af (ASI b s) := fun call callE hle hd args H n k hs => by
 cases args with
 | nil => exact (show False from hs).elim
 | cons v l =>
  obtain ⟨rfl, hq⟩ := (show v = .bool b /\ s call (.bool b :: l) H n k from hs)
  exact h _ _ hle hd _ _ _ _ hq
theorem ABq.set {F : T AF} {G : AP} {FS : T SF} (h : ABq F G FS) {f : Nat} {af : AF} (hf : T.get F f = some af) {s : SF} (hs : gZ G af s) : ABq F G (T.set FS f s) := fun g s' hg => by
 rw [T.MG] at hg
 split at hg
 ·rename_i e; subst e; cases hg; exact ⟨af, hf, hs⟩
 ·exact h g s' hg
end Go.Eng
namespace Go.Eng
theorem AUl (x y : Int) : B2.ev .lss (.int .i64 x 0) (.int .i64 y 0) = some (.bool (decide (x < y))) := by
 show mkB (ilt x y) = _
 rw [bJ, Yt]
theorem AVa (x y : Int) : B2.ev .leq (.int .i64 x 0) (.int .i64 y 0) = some (.bool (decide (x <= y))) := by
 show mkB (ile x y) = _
 rw [bJ, AC5]
theorem eq_i (x y : Int) : Ib (.one .int) false (.int .i64 x 0) (.int .i64 y 0) = some (.bool (x == y)) := by
 show ofB (XA (some (ieq x y)) fun b => some b) = _
 rw [Qb]; cases x == y <;> rfl
theorem AOz (x y : Int) : Ib (.one .int) true (.int .i64 x 0) (.int .i64 y 0) = some (.bool (!(x == y))) := by
 show ofB (XA (some (ieq x y)) fun b => some (Ub b)) = _
 rw [Qb]; cases x == y <;> rfl
theorem eq_self (x : Int) : Ib (.one .int) false (.int .i64 x 0) (.int .i64 x 0) = some (.bool true) := by rw [eq_i]; simp
theorem AOJ (x : Int) : Ib (.one .int) true (.int .i64 x 0) (.int .i64 x 0) = some (.bool false) := by rw [AOz]; simp
theorem wrap64 (a : Int) : IntKind.wrap .i64 a = if 9223372036854775808 <= a % 18446744073709551616 then a % 18446744073709551616 - 18446744073709551616 else a % 18446744073709551616 := by
 show (if (true && decide (a % 18446744073709551616 ≥ 9223372036854775808)) = true then a % 18446744073709551616 - 18446744073709551616 else a % 18446744073709551616) = _
 by_cases h : 9223372036854775808 <= a % 18446744073709551616
 ·rw [if_pos h, if_pos (by simpa using h)]
 ·rw [if_neg h, if_neg (by simpa using h)]
theorem ANg (a : Int) : (IntKind.wrap .i64 a) % 18446744073709551616 = a % 18446744073709551616 := by
 rw [wrap64]; split <;> omega
theorem Vf {x : Int} (h1 : -9223372036854775808 <= x) (h2 : x < 9223372036854775808) : IntKind.wrap .i64 x = x := by
 rw [wrap64]; split <;> omega
theorem AJT {a b : Int} (h : a % 18446744073709551616 = b % 18446744073709551616) : IntKind.wrap .i64 a = IntKind.wrap .i64 b := by
 rw [wrap64, wrap64, h]
theorem AVI {x : Int} (h : (Lit.int .i64 x).wf = true) : -9223372036854775808 <= x /\ x < 9223372036854775808 := by
 have h' : (decide (-9223372036854775808 <= x) && decide (x <= 9223372036854775807)) = true := h
 simp at h'
 omega
theorem AOA {F : T AF} {G : AP} {FS : T SF} (h : ABq F G FS) {f : Nat} {af : AF} (hf : T.get F f = some af) {a : List V} (m : Nat) {t : KV -> Prop} (hs : ∀ callE, EW (AHK FS m) callE -> CQ callE -> t Ov -> mX af G callE a .e 0 Ov) (hr : t Ov) :
    Runs F G f a .e 0 fun v _ _ => v = .bool true :=
  eF (k := Ov) (fun _ _ _ hv => qo hv) (ZC hf (hs _ (qV h m) (Vt F G) hr))
end Go.Eng
