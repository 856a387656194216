/- Part of a proof: texts En45 En46 En47 En48 En49 En50 En51 En52 En53 of the engine and what is proved with it; nothing is assumed. -/
import Derived.Test.YtibbhhkcjjeclaaDoorEngE
set_option linter.unusedVariables false
set_option linter.unusedSimpArgs false
noncomputable section
namespace Go.Ba
def P2.beq (p : P2) : P2 -> Bool :=
 P2.rec (motive := fun _ => P2 -> Bool) (fun q => P2.rec (motive := fun _ => Bool) true (fun _ _ => false) (fun _ _ => false) q)
  (fun _ g q => P2.rec (motive := fun _ => Bool) false (fun q _ => g q) (fun _ _ => false) q)
  (fun _ g q => P2.rec (motive := fun _ => Bool) false (fun _ _ => false) (fun q _ => g q) q) p
abbrev rg (R : Gv) (p : P2) : V := KI (T.C9 p R)
abbrev Aq := (σ : Type) -> ((σ -> Prop) -> σ -> Prop) -> σ -> Prop
def Dk (L : Aq) : Prop := ∀ (σ : Type) (b : (σ -> Prop) -> σ -> Prop) (P : σ -> Prop), (∀ ih, (∀ s, ih s -> P s) -> ∀ s, b ih s -> P s) -> ∀ s, L σ b s -> P s
def lfp : Aq := fun σ b s => ∀ I : σ -> Prop, (∀ s, b I s -> I s) -> I s
theorem BL : Dk lfp := fun _ _ P h _ hL => hL P (h P fun _ h => h)
def lpF (m : Nat) : Aq := fun σ b s => Nat.rec (motive := fun _ => σ -> Prop) (fun _ => False) (fun _ g => b g) m s
theorem ANI (m : Nat) : Dk (lpF m) := fun σ b P h => by
 induction m with
 | zero => exact fun s hs => (show False from hs).elim
 | succ m ih => exact fun s hs => h _ ih s hs
def E0 : RS := .mk [] .e
def Ar (c a b : V) : Option V := c.ZY fun t => nI t (some a) (some b)
def AZ (a : V) (G : AL) (H : Heap) : Option V := QG (fF a G H 1) fun L => nth L 0
def Ae (n : Nat) (a : V) (G : AL) (H : Heap) : Option V := QG (fF a G H n) fun L => some (.agg L)
def FB (a : V) : Option V := a.ZY fun b => wQ (Vd b)
def AEq (n esz : Nat) (a i : V) : Option V := TN i fun i => BD (Nat.blt i n) (AQ (Nat.mul i esz) a)
def AG7 (a i : V) : Option V := a.QS fun ln c => TN i fun i => BD (Nat.blt i ln) (ES (AGN c i) fun b => some (.int .u8 (.ofNat b) 0))
def DY (a : V) (i : Nat) : Option V := a.ACD fun l => nth l i
def Nu (a : V) : Option V := a.QS fun n _ => some (.int .i64 (.ofNat n) 0)
def tZ (c : CK) (ok : Bool) (z m k : V) (H : Heap) : Option V := OO H m fun es _ => A8 (Zl c k es 0) (AEi ok z)
def BO (z : LV) (ps : List (Nat × Nat × X)) : Option V := BD (YT ps E0) (some (.agg (nY ps E0 z)))
def AI1 (x y : V) : Option V := x.F8 fun k a s => y.F8 fun k' b t => BD (band (keq k k') (Nat.beq (Nat.add s t) 0)) (some (.int k (Bool.rec a b (zZ b a)) 0))
def DU (v : V) (k : KA) : Prop := Ko (U3 v) (CV (len (Am v)) fun e => k (.arr e 1 (T.set .e 0 (Am v))) fun id => .ptr id 0)
def CQ (sz : Nat) (a b : V) (H : Heap) (n : Nat) (k : KV) : Prop := Ko (band (U3 b) (Nat.beq (len (Am b)) sz)) (Gp (stP a H sz (Am b)) fun H => k .undef H n)
def TU (esz bs : Nat) (a b : V) (G : AL) (H : Heap) (n : Nat) (k : KV) : Prop := Gp (elems b G H esz) fun LS => zh a G esz bs LS H n k
def copyV (esz : Nat) (a b : V) (G : AL) (H : Heap) (n : Nat) (k : KV) : Prop := Gp (elems b G H esz) fun LS => yG a esz LS H n k
def AKh (c : CK) (m key v : V) (H : Heap) (n : Nat) (k : KV) : Prop := wL m H (ADh c key v) fun H => k .undef H n
def AGg (x : V) (args : List V) (call : AV) (H : Heap) (n : Nat) (k : KV) : Prop := V.Tz x fun f a c => call f (cat a (cat args c)) H n k
def Af (c : V) (b : Bool) (e : Option V) (P : V -> Prop) : Prop := ZV c b (AP e P) (P (.II []))
def BX (al : KA -> Prop) (H : Heap) (n : Nat) (P : KV) : Prop := al fun b f => CV n fun n => P (f n) (T.set H n b) (Nat.succ n)
def DJ (c : V) (b : Bool) (t : KV -> Prop) (H : Heap) (n : Nat) (P : KV) : Prop := ZV c b (t P) (P (.II []) H n)
inductive wJ where
 | t (v : V) | c1 (v : V) | cn (v : V) (n : Nat)
def wJ.get (r : wJ) (G : AL) (H : Heap) : Option V := wJ.rec (fun v => some v) (fun v => AZ v G H) (fun v n => Ae n v G H) r
def Bj (l : List wJ) (G : AL) (H : Heap) : Option LV :=
 List.rec (motive := fun _ => Option LV) (some []) (fun r _ g => A8 (r.get G H) fun v => A8 g fun vs => some (v :: vs)) l
section
variable {E : RS} {G : AL} {H : Heap} {n : Nat} {x y z w : X} {a b c d : V}
variable {call : AV}
end
section
variable {L : List V} {R : Gv} {G : AL} {call : AV} {H : Heap} {n : Nat} {a b : V}
end
def lI (c : V) (b : Bool) (e : Option V) (a : V) (P : Prop) : Prop := ZV c b (AP e fun v => Ko (GX v a) P) P
def kR (k : K) : KE := fun E H n => k E.rg H n
theorem rE {v : V} {b : Bool} {P Q P' Q' : Prop} (h : Ad v b P Q) (hp : P -> P') (hq : Q -> Q') : Ad v b P' Q' := by
 rw [VF] at h ⊢
 obtain ⟨t, ht, h⟩ := h
 refine ⟨t, ht, ?_⟩
 split
 ·rename_i e; rw [if_pos e] at h; exact hp h
 ·rename_i e; rw [if_neg e] at h; exact hq h
section
variable {G : AL} {call callE : AV}
section
variable {L : List V} {R : Gv} {H : Heap} {n : Nat} {l : List jJ} {k : KE} {p : P2} {x : X} {b : Bool} {c a : V}
theorem o0 {K : K} (h : K R H n) : Np [] G callE (.mk L R) H n (kR K) := h
end
section
variable {L : List V} {R : Gv} {H : Heap} {n : Nat} {l : List AI} {k : KE} {p : P2} {x : X} {b : Bool} {c a : V}
theorem i0 {K : K} (h : K R H n) : BQ [] G callE (.mk L R) H n (kR K) := h
end
section
variable {R : Gv} {H : Heap} {n : Nat} {k : K} {x : KX} {r : K} {a b : AC}
end
section
variable {res rs : List AR} {dg : Nat} {R : Gv} {H : Heap} {n : Nat} {k : KV} {l : LV} {p : P2} {a : V} {vs : List wJ}
end
end
abbrev SF := AV -> List V -> Heap -> Nat -> KV -> Prop
def ar0 (s : AV -> Heap -> Nat -> KV -> Prop) : SF := fun call l H n k => List.rec (motive := fun _ => Prop) (s call H n k) (fun _ _ _ => False) l
def Jf (s : AV -> V -> Heap -> Nat -> KV -> Prop) : SF := fun call l H n k => List.rec (motive := fun _ => Prop) False (fun a l _ => ar0 (fun call => s call a) call l H n k) l
def Rf (s : AV -> V -> V -> Heap -> Nat -> KV -> Prop) : SF := fun call l H n k => List.rec (motive := fun _ => Prop) False (fun a l _ => Jf (fun call => s call a) call l H n k) l
def ar3 (s : AV -> V -> V -> V -> Heap -> Nat -> KV -> Prop) : SF := fun call l H n k => List.rec (motive := fun _ => Prop) False (fun a l _ => Rf (fun call => s call a) call l H n k) l
def ar4 (s : AV -> V -> V -> V -> V -> Heap -> Nat -> KV -> Prop) : SF := fun call l H n k => List.rec (motive := fun _ => Prop) False (fun a l _ => ar3 (fun call => s call a) call l H n k) l
def ar5 (s : AV -> V -> V -> V -> V -> V -> Heap -> Nat -> KV -> Prop) : SF := fun call l H n k => List.rec (motive := fun _ => Prop) False (fun a l _ => ar4 (fun call => s call a) call l H n k) l
theorem AEk {s : AV -> Heap -> Nat -> KV -> Prop} {call : AV} {l : List V} {H : Heap} {n : Nat} {k : KV} (h : ar0 s call l H n k) : l = [] /\ s call H n k := by
 cases l with
 | nil => exact ⟨rfl, h⟩
 | cons => exact (show False from h).elim
theorem AEM {s : AV -> V -> Heap -> Nat -> KV -> Prop} {call : AV} {l : List V} {H : Heap} {n : Nat} {k : KV} (h : Jf s call l H n k) : ∃ a0, l = [a0] /\ s call a0 H n k := by
 cases l with
 | nil => exact (show False from h).elim
 | cons a l =>
  obtain ⟨rfl, h⟩ := AEk (show ar0 (fun call => s call a) call l H n k from h)
  exact ⟨a, rfl, h⟩
theorem AET {s : AV -> V -> V -> Heap -> Nat -> KV -> Prop} {call : AV} {l : List V} {H : Heap} {n : Nat} {k : KV} (h : Rf s call l H n k) : ∃ a0 a1, l = [a0, a1] /\ s call a0 a1 H n k := by
 cases l with
 | nil => exact (show False from h).elim
 | cons a l =>
  obtain ⟨b0, rfl, h⟩ := AEM (show Jf (fun call => s call a) call l H n k from h)
  exact ⟨a, b0, rfl, h⟩
theorem AFE {s : AV -> V -> V -> V -> Heap -> Nat -> KV -> Prop} {call : AV} {l : List V} {H : Heap} {n : Nat} {k : KV} (h : ar3 s call l H n k) : ∃ a0 a1 a2, l = [a0, a1, a2] /\ s call a0 a1 a2 H n k := by
 cases l with
 | nil => exact (show False from h).elim
 | cons a l =>
  obtain ⟨b0, b1, rfl, h⟩ := AET (show Rf (fun call => s call a) call l H n k from h)
  exact ⟨a, b0, b1, rfl, h⟩
theorem AE0 {s : AV -> V -> V -> V -> V -> Heap -> Nat -> KV -> Prop} {call : AV} {l : List V} {H : Heap} {n : Nat} {k : KV} (h : ar4 s call l H n k) : ∃ a0 a1 a2 a3, l = [a0, a1, a2, a3] /\ s call a0 a1 a2 a3 H n k := by
 cases l with
 | nil => exact (show False from h).elim
 | cons a l =>
  obtain ⟨b0, b1, b2, rfl, h⟩ := AFE (show ar3 (fun call => s call a) call l H n k from h)
  exact ⟨a, b0, b1, b2, rfl, h⟩
theorem AKE {s : AV -> V -> V -> V -> V -> V -> Heap -> Nat -> KV -> Prop} {call : AV} {l : List V} {H : Heap} {n : Nat} {k : KV} (h : ar5 s call l H n k) : ∃ a0 a1 a2 a3 a4, l = [a0, a1, a2, a3, a4] /\ s call a0 a1 a2 a3 a4 H n k := by
 cases l with
 | nil => exact (show False from h).elim
 | cons a l =>
  obtain ⟨b0, b1, b2, b3, rfl, h⟩ := AE0 (show ar4 (fun call => s call a) call l H n k from h)
  exact ⟨a, b0, b1, b2, b3, rfl, h⟩
def ANA (FS : T SF) (fuel : Nat) : AV :=
 Nat.rec (motive := fun _ => AV) (fun _ _ _ _ _ => False) (fun _ call f args H n k => Gp (T.get FS f) fun s => s call args H n k) fuel
def wW (G : AL) (af : AF) (s : SF) : Prop := ∀ call callE, Oq call callE -> Ed callE -> ∀ args H n k, s call args H n k -> ADP af G callE args H n k
def AHo (F : T AF) (G : AL) (FS : T SF) : Prop := ∀ f s, T.get FS f = some s -> ∃ af, T.get F f = some af /\ wW G af s
theorem AFC {F : T AF} {G : AL} {FS : T SF} (h : AHo F G FS) : ∀ m, Oq (ANA FS m) (Runs F G)
 | 0 => fun _ _ _ _ _ h => (show False from h).elim
 | m + 1 => fun f a H n k hr => by
  have hr' : Gp (T.get FS f) fun s => s (ANA FS m) a H n k := hr
  rw [Gg] at hr'
  obtain ⟨s, hs, hr'⟩ := hr'
  obtain ⟨af, haf, hok⟩ := h f s hs
  exact vC haf (hok _ _ (AFC h m) (aJ F G) _ _ _ _ hr')
section
variable {E : RS} {G : AL} {H : Heap} {x : X} {a : Int}
end
@[congr] theorem ANi {o o' : Option V} (f : V -> Prop) (h : o = o') : AP o f = AP o' f := by rw [h]
@[congr] theorem ANZ {α : Type} {o o' : Option α} (f : α -> Prop) (h : o = o') : Gp o f = Gp o' f := by rw [h]
@[congr] theorem ANg {b b' : Bool} (p : Prop) (h : b = b') : Ko b p = Ko b' p := by rw [h]
@[congr] theorem AK9 {v v' : V} (b : Bool) (p q : Prop) (h : v = v') : Ad v b p q = Ad v' b p q := by rw [h]
@[congr] theorem ANc {c c' : V} {b : Bool} {e : Option V} (f : V -> Prop) (h : c = c') : Af c b e f = Af c' b e f := by rw [h]
@[congr] theorem AL9 {c c' : V} {b : Bool} {t : KV -> Prop} {H : Heap} {n : Nat} (f : KV) (h : c = c') : DJ c b t H n f = DJ c' b t H n f := by rw [h]
@[congr] theorem AMY (F : T AF) (G : AL) (f : Nat) {a a' : List V} {H H' : Heap} {n n' : Nat} (k : KV) (h0 : a = a') (h1 : H = H') (h2 : n = n') : Runs F G f a H n k = Runs F G f a' H' n' k := by rw [h0, h1, h2]
theorem BA (v : V) (f : V -> Prop) : AP (some v) f = f v := rfl
theorem UA {α : Type} (v : α) (f : α -> Prop) : Gp (some v) f = f v := rfl
theorem Rt (p : Prop) : Ko true p = p := rfl
theorem zx (p q : Prop) : Ad (.bool true) true p q = p := rfl
theorem AD7 (p q : Prop) : Ad (.bool false) true p q = q := rfl
theorem AO2 (e : Option V) (f : V -> Prop) : Af (.bool true) true e f = AP e f := rfl
theorem ANu (e : Option V) (f : V -> Prop) : Af (.bool false) false e f = AP e f := rfl
theorem AOt (e : Option V) (f : V -> Prop) : Af (.bool true) false e f = f (.II []) := rfl
theorem APq (e : Option V) (f : V -> Prop) : Af (.bool false) true e f = f (.II []) := rfl
theorem AP8 (b : Bool) (e : Option V) (f : V -> Prop) : Af (.II []) b e f = f (.II []) := rfl
theorem AN1 (t : KV -> Prop) (H : Heap) (n : Nat) (f : KV) : DJ (.bool true) true t H n f = t f := rfl
theorem AOX (t : KV -> Prop) (H : Heap) (n : Nat) (f : KV) : DJ (.bool false) false t H n f = t f := rfl
theorem APD (t : KV -> Prop) (H : Heap) (n : Nat) (f : KV) : DJ (.bool true) false t H n f = f (.II []) H n := rfl
theorem AOy (t : KV -> Prop) (H : Heap) (n : Nat) (f : KV) : DJ (.bool false) true t H n f = f (.II []) H n := rfl
theorem AQO (b : Bool) (t : KV -> Prop) (H : Heap) (n : Nat) (f : KV) : DJ (.II []) b t H n f = f (.II []) H n := rfl
theorem APP (b : Bool) : FB (.bool b) = some (.bool (!b)) := by cases b <;> rfl
theorem AIp (a b : V) : Ar (.bool true) a b = some a := rfl
theorem AIr (a b : V) : Ar (.bool false) a b = some b := rfl
theorem Zj (off id o : Nat) : AQ off (.ptr id o) = some (.ptr id (o + off)) := by show ES (Nat.add o off) _ = _; rw [Cm]; rfl
theorem AAH (off id o : Nat) : AQ off (.gptr id o) = some (.gptr id (o + off)) := by show ES (Nat.add o off) _ = _; rw [Cm]; rfl
theorem AKg (id o : Nat) : Az (.ptr id o) = some (.ptr id o) := rfl
theorem AMM (a : V) (l : List V) : DY (.II (a :: l)) 0 = some a := rfl
theorem AMC (a b : V) (l : List V) : DY (.II (a :: b :: l)) 1 = some b := rfl
theorem AL5 (a b c : V) (l : List V) : DY (.II (a :: b :: c :: l)) 2 = some c := rfl
theorem ABG (a : V) (G : AL) (H : Heap) : AZ a G H = QG (fF a G H 1) fun L => nth L 0 := rfl
theorem AEy (m : Nat) (a : V) (G : AL) (H : Heap) : Ae m a G H = QG (fF a G H m) fun L => some (.agg L) := rfl
theorem bZ (id off : Nat) (G : AL) (H : Heap) (n : Nat) : fF (.ptr id off) G H n = YF H id off n := rfl
theorem AAA (L : LV) (f : LV -> Option V) : QG (some L) f = f L := rfl
def one (L : LV) : NR := .arr L.length 1 (T.set .e 0 L)
theorem Xw {v : V} {H : Heap} {n : Nat} {P : KV} (h : U3 v = true) : BX (DU v) H n P = P (.ptr n 0) (T.set H n (one (Am v))) (n + 1) := by
 show Ko (U3 v) (CV (len (Am v)) fun e => CV n fun n => P (.ptr n 0) (T.set H n (.arr e 1 (T.set .e 0 (Am v)))) (Nat.succ n)) = _
 rw [BG, BG, len_eq, h]
 rfl
theorem JQ {z : Nat} {L : LV} {H : Heap} {n : Nat} {P : KV} (h : L.length = z) : BX (Ag z [L] E0) H n P = P (.ptr n 0) (T.set H n (one L)) (n + 1) := by
 show CV (len [L]) (fun m => CV n fun n => P (.ptr n 0) (T.set H n (.arr z m (EL [L] 0 .e))) (Nat.succ n)) = _
 rw [BG, BG, len_eq]
 subst h
 rfl
theorem ACr {H : Heap} {id : Nat} {L : LV} (h : T.get H id = some (one L)) {off m : Nat} (hm : 0 < m) (hl : off + m <= L.length) : YF H id off m = some ((L.drop off).take m) := by
 unfold YF
 rw [h]
 show ldB L.length 1 (T.set .e 0 L) off m = _
 unfold ldB
 have hdiv : off / L.length = 0 := Nat.div_eq_of_lt (by omega)
 have hmod : off % L.length = off := Nat.mod_eq_of_lt (by omega)
 have hb : Nat.blt (Nat.div off L.length) 1 = true := by rw [Nat.blt_eq]; show off / L.length < 1; omega
 rw [hb]
 show A8 (T.get (T.set T.e 0 L) (Nat.div off L.length)) (ldC L.length off m) = _
 have hg2 : T.get (T.set T.e 0 L) (Nat.div off L.length) = some L := by
  show T.get (T.set T.e 0 L) (off / L.length) = some L
  rw [hdiv]; simp
 rw [hg2]
 show ldC L.length off m L = _
 unfold ldC
 cases hc : band (Nat.beq m L.length) (Nat.beq (Nat.mod off L.length) 0) with
 | true =>
  simp only [BH, Bool.and_eq_true, beq_iff] at hc
  obtain ⟨h1, h2⟩ := hc
  have h2' : off = 0 := by have : off % L.length = 0 := h2; omega
  subst h2'
  simp [h1]
 | false =>
  have hf : Nat.ble (Nat.add (Nat.mod off L.length) m) L.length = true := by
   rw [Nat.ble_eq]; show off % L.length + m <= L.length; omega
  rw [hf]
  show some (Uf m (aS (Nat.mod off L.length) L)) = _
  rw [Vs, Zz]
  show some (List.take m (List.drop (off % L.length) L)) = _
  rw [hmod]
theorem AMJ {H : Heap} {id : Nat} {L : LV} (h : T.get H id = some (one L)) {off m : Nat} {new : LV} (hm : 0 < m) (hn : new.length = m) (hl : off + m <= L.length) : stH H id off m new = some (T.set H id (one (L.take off ++ (new ++ L.drop (off + m))))) := by
 unfold stH
 rw [h]
 show A8 (stB L.length 1 (T.set .e 0 L) off m new) (fun b => some (T.set H id b)) = _
 have hdiv : Nat.div off L.length = 0 := Nat.div_eq_of_lt (by omega)
 have hmod : Nat.mod off L.length = off := Nat.mod_eq_of_lt (by omega)
 have hs : stB L.length 1 (T.set .e 0 L) off m new = some (one (L.take off ++ (new ++ L.drop (off + m)))) := by
  unfold stB
  rw [hdiv]
  show A8 (T.get (T.set T.e 0 L) 0) (stC new L.length 1 (T.set .e 0 L) off m) = _
  rw [T.Ac]
  show stC new L.length 1 (T.set .e 0 L) off m L = _
  unfold stC
  rw [hmod, hdiv]
  have hlen : (L.take off ++ (new ++ L.drop (off + m))).length = L.length := by simp; omega
  cases hc : band (Nat.beq m L.length) (Nat.beq off 0) with
  | true =>
   simp only [BH, Bool.and_eq_true, beq_iff] at hc
   obtain ⟨h1, h2⟩ := hc
   subst h2
   show some (NR.arr L.length 1 (T.set (T.set T.e 0 L) 0 new)) = _
   unfold one
   rw [hlen]
   have : List.take 0 L ++ (new ++ List.drop (0 + m) L) = new := by simp [h1]
   rw [this]; rfl
  | false =>
   have hf : Nat.ble (Nat.add off m) L.length = true := by rw [Nat.ble_eq]; exact hl
   rw [hf]
   show some (NR.arr L.length 1 (T.set (T.set T.e 0 L) 0 (AC4 new off L))) = _
   unfold one
   rw [hlen, AAX, hn]; rfl
 rw [hs]
 rfl
theorem BM {F : T AF} {G : AL} {f : Nat} {af : AF} {s : SF} (hf : T.get F f = some af) (hs : wW G af s) {args : List V} {H : Heap} {n : Nat} {k : KV} (h : s (Runs F G) args H n k) : Runs F G f args H n k :=
 vC hf (hs _ _ (fun _ _ _ _ _ h => h) (aJ F G) _ _ _ _ h)
def goN (x : X) (b : Bool) (d : aW) (o : AN) : o9 := fun G _ R H n k => Af (x.ev R) b (o.ev G R H) fun v => k (ET d v R) H n
def goA (x : X) (b : Bool) (d : aW) (o : AA) : o9 := fun _ _ R H n k => DJ (x.ev R) b (BX (o.al R) H n) H n fun v H n => k (ET d v R) H n
def goE (x : X) (b : Bool) (d : aW) (o : AE) : o9 := fun G call R H n k => DJ (x.ev R) b (o.ex G call R H n) H n fun v H n => k (ET d v R) H n
def AQt (x : X) (b : Bool) (d : aW) (o : AO) : o9 := AO.rec (motive := fun _ => o9) (goN x b d) (goA x b d) (goE x b d) o
def oAG (o : AA) : XoT := fun _ _ d R H n k => BX (o.al R) H n fun v H n => k (ET d v R) H n
def AO.yC (o : AO) : XoT := AO.rec (motive := fun _ => XoT) oN oAG oE o
def AQp (d : aW) (o : AO) : o9 := fun G call R H n k => o.yC G call d R H n k
def jJ.yC (o : jJ) : o9 := jJ.rec (motive := fun _ => o9) (fun d g o => Gd.rec (motive := fun _ => aW -> AO -> o9) AQp AQt g d o) o
theorem AEZ (o : jJ) : o.yC = o.ex := by
 obtain ⟨d, g, o⟩ := o
 cases g <;> cases o <;> rfl
def ADZ (l : List jJ) : o9 :=
 List.rec (motive := fun _ => o9) (fun _ _ R H n k => k R H n) (fun o _ g G call R H n k => o.yC G call R H n fun R H n => g G call R H n k) l
theorem AEK : ∀ l : List jJ, ADZ l = Np l
 | [] => rfl
 | o :: l => by
  show (fun G call R H n k => o.yC G call R H n fun R H n => ADZ l G call R H n k) = fun G call R H n k => o.ex G call R H n fun R H n => Np l G call R H n k
  rw [AEK l, AEZ]
def AOL (x : X) (b : Bool) : ReT := fun G R H d o k => lI (x.ev R) b (o.ev G R H) (KI (T.C9 d R.rg)) k
def AOZ (g : Gd) : ReT := Gd.rec (motive := fun _ => ReT) AOz AOL g
def AI.yC (i : AI) : o9 := AI.rec (motive := fun _ => o9) (fun o => o.yC) (fun d g o G _ R H n k => AOZ g G R H d o (k R H n)) i
theorem AL8 (i : AI) : i.yC = i.ex := by
 cases i with
 | op o => exact AEZ o
 | re d g o => cases g <;> rfl
def vH (l : List AI) : o9 :=
 List.rec (motive := fun _ => o9) (fun _ _ R H n k => k R H n) (fun i _ g G call R H n k => i.yC G call R H n fun R H n => g G call R H n k) l
theorem yZ : ∀ l : List AI, vH l = BQ l
 | [] => rfl
 | o :: l => by
  show (fun G call R H n k => o.yC G call R H n fun R H n => vH l G call R H n k) = fun G call R H n k => o.ex G call R H n fun R H n => BQ l G call R H n k
  rw [yZ l, AL8]
def AGF (l : List jJ) : M := fun G call _ R H n k _ _ => ADZ l G call (.mk [] R) H n fun E H n => k E.rg H n
def AHG (l : List AI) : M := fun G call _ R H n k _ _ => vH l G call (.mk [] R) H n fun E H n => k E.rg H n
def AC.yC (c : AC) : M := AC.rec (motive := fun _ => M) AHe AGF AHG AIR ACf wG AAW AHT ALJ c
theorem iw : ∀ c : AC, c.yC = c.oP
 | .skip => rfl
 | .ops l => by show AGF l = AJJ l; unfold AGF AJJ; rw [AEK]
 | .reg l => by show AHG l = AKD l; unfold AHG AKD; rw [yZ]
 | .seq a b => by show AIR a b a.yC b.yC = AIR a b a.oP b.oP; rw [iw a, iw b]
 | .cond x a b => by show ACf x a b a.yC b.yC = ACf x a b a.oP b.oP; rw [iw a, iw b]
 | .block i a => by show wG i a a.yC = wG i a a.oP; rw [iw a]
 | .loop a => by show AAW a a.yC = AAW a a.oP; rw [iw a]
 | .exit i => rfl
 | .ret => rfl
inductive An : Type 1 where
 | n
 | s (a b : An)
 | j (S : K) (a b : An)
 | c (a b : An)
 | b (a : An)
 | l (σ : Type) (bd : (σ -> Prop) -> σ -> Prop) (st : Gv -> Heap -> Nat -> σ) (a : (σ -> Prop) -> An)
abbrev M2 := AC -> AL -> AV -> Gv -> Heap -> Nat -> K -> KX -> K -> Prop
def AC.ACQ (c : AC) (f : AC -> AC -> Prop) : Prop := AC.rec (motive := fun _ => Prop) False (fun _ => False) (fun _ => False) (fun a b _ _ => f a b) (fun _ _ _ _ _ => False) (fun _ _ _ => False) (fun _ _ => False) (fun _ => False) False c
def AC.AD0 (c : AC) (f : X -> AC -> AC -> Prop) : Prop := AC.rec (motive := fun _ => Prop) False (fun _ => False) (fun _ => False) (fun _ _ _ _ => False) (fun x a b _ _ => f x a b) (fun _ _ _ => False) (fun _ _ => False) (fun _ => False) False c
def AC.AAU (c : AC) (f : Nat -> AC -> Prop) : Prop := AC.rec (motive := fun _ => Prop) False (fun _ => False) (fun _ => False) (fun _ _ _ _ => False) (fun _ _ _ _ _ => False) (fun i a _ => f i a) (fun _ _ => False) (fun _ => False) False c
def AC.AC9 (c : AC) (f : AC -> Prop) : Prop := AC.rec (motive := fun _ => Prop) False (fun _ => False) (fun _ => False) (fun _ _ _ _ => False) (fun _ _ _ _ _ => False) (fun _ _ _ => False) (fun a _ => f a) (fun _ => False) False c
def An.ex (L : Aq) (an : An) : M2 :=
 An.rec (motive := fun _ => M2)
  (fun c G call R H n k x r => c.yC G call 0 R H n k x r)
  (fun _ _ ga gb c G call R H n k x r => c.ACQ fun a b => ga a G call R H n (fun R H n => gb b G call R H n k x r) x r)
  (fun S _ _ ga _ c G call R H n _ x r => c.ACQ fun a _ => ga a G call R H n S x r)
  (fun _ _ ga gb c G call R H n k x r => c.AD0 fun y a b => Ad (y.ev (.mk [] R)) true (ga a G call R H n k x r) (gb b G call R H n k x r))
  (fun _ ga c G call R H n k x r => c.AAU fun i a => ga a G call R H n k (FH i k x) r)
  (fun σ bd st _ _ c _ _ R H n _ _ _ => c.AC9 fun _ => L σ bd (st R H n)) an
abbrev M3 := AC -> AL -> AV -> K -> KX -> K -> Prop
def An.ob (L : Aq) (an : An) : M3 :=
 An.rec (motive := fun _ => M3)
  (fun _ _ _ _ _ _ => True)
  (fun _ b ga gb c G call k x r => c.ACQ fun a d => ga a G call (fun R H n => b.ex L d G call R H n k x r) x r /\ gb d G call k x r)
  (fun S _ b ga gb c G call k x r => c.ACQ fun a d => ga a G call S x r /\ (∀ R H n, S R H n = b.ex L d G call R H n k x r) /\ gb d G call k x r)
  (fun _ _ ga gb c G call k x r => c.AD0 fun _ a b => ga a G call k x r /\ gb b G call k x r)
  (fun _ ga c G call k x r => c.AAU fun i a => ga a G call k (FH i k x) r)
  (fun σ bd st a ga c G call _ x r => c.AC9 fun d => ∀ ih : σ -> Prop, (∀ R H n, bd ih (st R H n) = (a ih).ex L d G call R H n (fun R H n => ih (st R H n)) x r) /\ ga ih d G call (fun R H n => ih (st R H n)) x r) an
def AC.AIJ (c : AC) (f : AC -> AC -> Prop) : Prop := AC.rec (motive := fun _ => Prop) True (fun _ => True) (fun _ => True) (fun a b _ _ => f a b) (fun _ _ _ _ _ => True) (fun _ _ _ => True) (fun _ _ => True) (fun _ => True) True c
def AC.AKf (c : AC) (f : X -> AC -> AC -> Prop) : Prop := AC.rec (motive := fun _ => Prop) True (fun _ => True) (fun _ => True) (fun _ _ _ _ => True) (fun x a b _ _ => f x a b) (fun _ _ _ => True) (fun _ _ => True) (fun _ => True) True c
def AC.AHP (c : AC) (f : Nat -> AC -> Prop) : Prop := AC.rec (motive := fun _ => Prop) True (fun _ => True) (fun _ => True) (fun _ _ _ _ => True) (fun _ _ _ _ _ => True) (fun i a _ => f i a) (fun _ _ => True) (fun _ => True) True c
def AC.AJW (c : AC) (f : AC -> Prop) : Prop := AC.rec (motive := fun _ => Prop) True (fun _ => True) (fun _ => True) (fun _ _ _ _ => True) (fun _ _ _ _ _ => True) (fun _ _ _ => True) (fun a _ => f a) (fun _ => True) True c
def An.obR (L : Aq) (an : An) : M3 :=
 An.rec (motive := fun _ => M3)
  (fun _ _ _ _ _ _ => True)
  (fun _ b ga gb c G call k x r => c.AIJ fun a d => ga a G call (fun R H n => b.ex L d G call R H n k x r) x r /\ gb d G call k x r)
  (fun S _ b ga gb c G call k x r => c.AIJ fun a d => ga a G call S x r /\ (∀ R H n, S R H n = S R H n) /\ gb d G call k x r)
  (fun _ _ ga gb c G call k x r => c.AKf fun _ a b => ga a G call k x r /\ gb b G call k x r)
  (fun _ ga c G call k x r => c.AHP fun i a => ga a G call k (FH i k x) r)
  (fun σ bd st a ga c G call _ x r => c.AJW fun d => ∀ ih : σ -> Prop, (∀ R H n, bd ih (st R H n) = bd ih (st R H n)) /\ ga ih d G call (fun R H n => ih (st R H n)) x r) an
theorem An.AMs (L : Aq) (an : An) : ∀ c G call k x r, an.obR L c G call k x r := by
 induction an with
 | n => exact fun _ _ _ _ _ _ => trivial
 | s a b iha ihb => intro c; cases c <;> first | exact fun _ _ _ _ _ => trivial | exact fun G call k x r => ⟨iha _ _ _ _ _ _, ihb _ _ _ _ _ _⟩
 | j S a b iha ihb => intro c; cases c <;> first | exact fun _ _ _ _ _ => trivial | exact fun G call k x r => ⟨iha _ _ _ _ _ _, fun _ _ _ => rfl, ihb _ _ _ _ _ _⟩
 | c a b iha ihb => intro c; cases c <;> first | exact fun _ _ _ _ _ => trivial | exact fun G call k x r => ⟨iha _ _ _ _ _ _, ihb _ _ _ _ _ _⟩
 | b a iha => intro c; cases c <;> first | exact fun _ _ _ _ _ => trivial | exact fun G call k x r => iha _ _ _ _ _ _
 | l σ bd st a iha => intro c; cases c <;> first | exact fun _ _ _ _ _ => trivial | exact fun G call k x r ih => ⟨fun _ _ _ => rfl, iha ih _ _ _ _ _ _⟩
theorem xY {c : AC} {f : AC -> AC -> Prop} (h : c.ACQ f) : ∃ a b, c = .seq a b /\ f a b := by
 cases c <;> first | exact ⟨_, _, rfl, h⟩ | exact (show False from h).elim
theorem ADk {c : AC} {f : X -> AC -> AC -> Prop} (h : c.AD0 f) : ∃ x a b, c = .cond x a b /\ f x a b := by
 cases c <;> first | exact ⟨_, _, _, rfl, h⟩ | exact (show False from h).elim
theorem ABy {c : AC} {f : Nat -> AC -> Prop} (h : c.AAU f) : ∃ i a, c = .block i a /\ f i a := by
 cases c <;> first | exact ⟨_, _, rfl, h⟩ | exact (show False from h).elim
theorem ADQ {c : AC} {f : AC -> Prop} (h : c.AC9 f) : ∃ a, c = .loop a /\ f a := by
 cases c <;> first | exact ⟨_, rfl, h⟩ | exact (show False from h).elim
section
variable {G : AL} {call callE : AV}
theorem AIv {c : AC} {R : Gv} {H : Heap} {n : Nat} {k : K} {x : KX} {r : K} (h : c.yC G call 0 R H n k x r) : c.oP G call 0 R H n k x r := by rwa [iw] at h
theorem jI (hle : Oq call callE) (hd : Ed callE) : ∀ (c : AC) (R : Gv) (H : Heap) (n : Nat) (k k' : K) (x x' : KX) (r r' : K), (∀ R H n, k R H n -> k' R H n) -> (∀ i R H n, x i R H n -> x' i R H n) -> (∀ R H n, r R H n -> r' R H n) ->
    c.oP G call 0 R H n k x r -> c.oP G callE 0 R H n k' x' r'
  | .skip, R, H, n, k, k', x, x', r, r', hk, hx, hr, h => hk _ _ _ h
  | .ops l, R, H, n, k, k', x, x', r, r', hk, hx, hr, h => AHh hd l _ H n (fun E H n h => hk _ _ _ h) (ADN hd hle G l _ H n _ h)
  | .reg l, R, H, n, k, k', x, x', r, r', hk, hx, hr, h => AC3 hd l _ H n (fun E H n h => hk _ _ _ h) (vF hd hle G l _ H n _ h)
  | .seq a b, R, H, n, k, k', x, x', r, r', hk, hx, hr, h => jI hle hd a R H n _ _ x x' r r' (fun R H n h => jI hle hd b R H n k k' x x' r r' hk hx hr h) hx hr h
  | .cond c a b, R, H, n, k, k', x, x', r, r', hk, hx, hr, h => by
    have h' : Ad (c.ev (.mk [] R)) true (a.oP G call 0 R H n k x r) (b.oP G call 0 R H n k x r) := h
    show Ad (c.ev (.mk [] R)) true (a.oP G callE 0 R H n k' x' r') (b.oP G callE 0 R H n k' x' r')
    exact rE h' (jI hle hd a R H n k k' x x' r r' hk hx hr) (jI hle hd b R H n k k' x x' r r' hk hx hr)
  | .block id a, R, H, n, k, k', x, x', r, r', hk, hx, hr, h => by
    refine jI hle hd a R H n k k' (FH id k x) (FH id k' x') r r' hk (fun i R H n h => ?_) hr h
    unfold FH at h ⊢
    cases hb : Nat.beq i id with
    | true => rw [hb] at h; exact hk _ _ _ h
    | false => rw [hb] at h; exact hx _ _ _ _ h
  | .loop a, R, H, n, k, k', x, x', r, r', hk, hx, hr, h => by
    intro I hI
    exact h I fun R H n hb => hI R H n (jI hle hd a R H n I I x x' r r' (fun _ _ _ h => h) hx hr hb)
  | .exit i, R, H, n, k, k', x, x', r, r', hk, hx, hr, h => hx _ _ _ _ h
  | .ret, R, H, n, k, k', x, x', r, r', hk, hx, hr, h => hr _ _ _ h
theorem An.ok {L : Aq} (hL : Dk L) (hle : Oq call callE) (hd : Ed callE) (an : An) : ∀ (c : AC) (k k' : K) (x x' : KX) (r r' : K), (∀ R H n, k R H n -> k' R H n) -> (∀ i R H n, x i R H n -> x' i R H n) -> (∀ R H n, r R H n -> r' R H n) ->
    an.ob L c G call k x r -> ∀ R H n, an.ex L c G call R H n k x r -> c.oP G callE 0 R H n k' x' r' := by
  induction an with
  | n => exact fun c k k' x x' r r' hk hx hr _ R H n h => jI hle hd c R H n k k' x x' r r' hk hx hr (AIv h)
  | s a b iha ihb =>
    intro c k k' x x' r r' hk hx hr ho R H n h
    obtain ⟨c1, c2, rfl, ho⟩ := xY ho
    exact iha c1 _ _ x x' r r' (fun R H n h => ihb c2 k k' x x' r r' hk hx hr ho.2 R H n h) hx hr ho.1 R H n h
  | j S a b iha ihb =>
    intro c k k' x x' r r' hk hx hr ho R H n h
    obtain ⟨c1, c2, rfl, ho⟩ := xY ho
    exact iha c1 S (fun R H n => c2.oP G callE 0 R H n k' x' r') x x' r r' (fun R H n h => ihb c2 k k' x x' r r' hk hx hr ho.2.2 R H n (ho.2.1 R H n ▸ h)) hx hr ho.1 R H n h
  | c a b iha ihb =>
    intro c k k' x x' r r' hk hx hr ho R H n h
    obtain ⟨y, c1, c2, rfl, ho⟩ := ADk ho
    exact rE (P' := c1.oP G callE 0 R H n k' x' r') (Q' := c2.oP G callE 0 R H n k' x' r') h (fun h => iha c1 k k' x x' r r' hk hx hr ho.1 R H n h) (fun h => ihb c2 k k' x x' r r' hk hx hr ho.2 R H n h)
  | b a iha =>
    intro c k k' x x' r r' hk hx hr ho R H n h
    obtain ⟨i, c1, rfl, ho⟩ := ABy ho
    refine iha c1 k k' (FH i k x) (FH i k' x') r r' hk (fun j R H n h => ?_) hr ho R H n h
    unfold FH at h ⊢
    cases hb : Nat.beq j i with
    | true => rw [hb] at h; exact hk _ _ _ h
    | false => rw [hb] at h; exact hx _ _ _ _ h
  | l σ bd st a iha =>
    intro c k k' x x' r r' hk hx hr ho R H n h
    obtain ⟨c1, rfl, ho⟩ := ADQ ho
    intro I hI
    have h' : L σ bd (st R H n) := h
    refine hL σ bd (fun s => ∀ R H n, st R H n = s -> I R H n) (fun ih hih s hs R H n e => ?_) _ h' R H n rfl
    subst e
    rw [(ho ih).1] at hs
    exact hI R H n (iha ih c1 (fun R H n => ih (st R H n)) I x x' r r' (fun R H n h => hih _ h R H n rfl) hx hr (ho ih).2 R H n hs)
end
def fEx (L : Aq) (an : An) (af : AF) (G : AL) (call : AV) (args : List V) (H : Heap) (n : Nat) (k : KV) : Prop :=
 AF.rec (motive := fun _ => Prop) (fun np code res d dg => Ko (Nat.beq (len args) np) (an.ex L code G call (Xq args 0 .e) H n (Gz res dg d G call k) noX (Gz res dg d G call k))) af
def fOb (L : Aq) (an : An) (af : AF) (G : AL) (call : AV) (k : KV) : Prop :=
 AF.rec (motive := fun _ => Prop) (fun _ code res d dg => an.ob L code G call (Gz res dg d G call k) noX (Gz res dg d G call k)) af
def AQa (L : Aq) (an : An) (af : AF) (G : AL) (call : AV) (k : KV) : Prop :=
 AF.rec (motive := fun _ => Prop) (fun _ code res d dg => an.obR L code G call (Gz res dg d G call k) noX (Gz res dg d G call k)) af
theorem obs {L : Aq} {an : An} {af : AF} {G : AL} {call : AV} {k : KV} (h : AQa L an af G call k = fOb L an af G call k) : fOb L an af G call k := by
 rw [<- h]; cases af; exact An.AMs ..
theorem lW {L : Aq} (hL : Dk L) {G : AL} {call callE : AV} (hle : Oq call callE) (hd : Ed callE) {an : An} {af : AF} {args : List V} {H : Heap} {n : Nat} {k : KV} (ho : fOb L an af G call k) (h : fEx L an af G call args H n k) : ADP af G callE args H n k := by
 obtain ⟨np, code, res, d, dg⟩ := af
 have h' : Ko (Nat.beq (len args) np) (an.ex L code G call (Xq args 0 .e) H n (Gz res dg d G call k) noX (Gz res dg d G call k)) := h
 show Ko (Nat.beq (len args) np) (code.oP G callE 0 (Xq args 0 .e) H n (Gz res dg d G callE k) noX (Gz res dg d G callE k))
 rw [ER] at h' ⊢
 exact ⟨h'.1, An.ok hL hle hd an code _ _ _ _ _ _ (fun R H n h => Xr hd hle res dg d G k R H n h) (fun _ _ _ _ h => h) (fun R H n h => Xr hd hle res dg d G k R H n h) ho _ _ _ h'.2⟩
section
variable {L : Aq} (hL : Dk L) {G : AL} {af : AF} {an : AV -> KV -> An} (ho : ∀ call k, fOb L (an call k) af G call k)
include hL ho
theorem sf0 {s : AV -> Heap -> Nat -> KV -> Prop} (h : ∀ call H n k, s call H n k = fEx L (an call k) af G call [] H n k) : wW G af (ar0 s) := fun call callE hle hd l H n k hs => by
 obtain ⟨rfl, hs⟩ := AEk hs; exact lW hL hle hd (ho call k) (h .. ▸ hs)
theorem lU {s : AV -> V -> Heap -> Nat -> KV -> Prop} (h : ∀ call a0 H n k, s call a0 H n k = fEx L (an call k) af G call [a0] H n k) : wW G af (Jf s) := fun call callE hle hd l H n k hs => by
 obtain ⟨a0, rfl, hs⟩ := AEM hs; exact lW hL hle hd (ho call k) (h .. ▸ hs)
theorem sf2 {s : AV -> V -> V -> Heap -> Nat -> KV -> Prop} (h : ∀ call a0 a1 H n k, s call a0 a1 H n k = fEx L (an call k) af G call [a0, a1] H n k) : wW G af (Rf s) := fun call callE hle hd l H n k hs => by
 obtain ⟨a0, a1, rfl, hs⟩ := AET hs; exact lW hL hle hd (ho call k) (h .. ▸ hs)
theorem sf3 {s : AV -> V -> V -> V -> Heap -> Nat -> KV -> Prop} (h : ∀ call a0 a1 a2 H n k, s call a0 a1 a2 H n k = fEx L (an call k) af G call [a0, a1, a2] H n k) : wW G af (ar3 s) := fun call callE hle hd l H n k hs => by
 obtain ⟨a0, a1, a2, rfl, hs⟩ := AFE hs; exact lW hL hle hd (ho call k) (h .. ▸ hs)
theorem sf4 {s : AV -> V -> V -> V -> V -> Heap -> Nat -> KV -> Prop} (h : ∀ call a0 a1 a2 a3 H n k, s call a0 a1 a2 a3 H n k = fEx L (an call k) af G call [a0, a1, a2, a3] H n k) : wW G af (ar4 s) := fun call callE hle hd l H n k hs => by
 obtain ⟨a0, a1, a2, a3, rfl, hs⟩ := AE0 hs; exact lW hL hle hd (ho call k) (h .. ▸ hs)
theorem sf5 {s : AV -> V -> V -> V -> V -> V -> Heap -> Nat -> KV -> Prop} (h : ∀ call a0 a1 a2 a3 a4 H n k, s call a0 a1 a2 a3 a4 H n k = fEx L (an call k) af G call [a0, a1, a2, a3, a4] H n k) : wW G af (ar5 s) := fun call callE hle hd l H n k hs => by
 obtain ⟨a0, a1, a2, a3, a4, rfl, hs⟩ := AKE hs; exact lW hL hle hd (ho call k) (h .. ▸ hs)
end
def inR (l : List (Nat × Nat)) (t : Nat) : Bool := l.any fun p => Nat.ble p.1 t && Nat.ble t p.2
def opp (l : List Nat) : List (Nat × Wk) := l.map fun j => (j, .plain)
def Wp (n : Nat) : List (Nat × Wk) := opp (List.range n)
def Bo (o : Option AF) : AF := o.getD (.mk 0 .skip [] .no 0)
theorem Ak {o : Option AF} (h : o.isSome = true) : o = some (Bo o) := by
 cases o with
 | none => cases h
 | some a => rfl
theorem sD.one {P : Program} {F : T AF} {f : Nat} {af : AF} {fn : Func} {loc : Nat -> Bool} {df : Bool} {ords : AFw} {dg : Nat} (hf : P.funcs[f]? = some fn) (hn : (fn.name == "runtime.NumGoroutine") = false)
    (ht : trF P loc df ords dg fn = some af) (hd : af.dg = dg) (hi : AH0 af.dp = true) : sD P F f af := ⟨⟨fn, loc, df, ords, hf, hn, hd ▸ ht⟩, .inl hi⟩
theorem AHo.set {F : T AF} {G : AL} {FS : T SF} (h : AHo F G FS) {f : Nat} {af : AF} (hf : T.get F f = some af) {s : SF} (hs : wW G af s) : AHo F G (T.set FS f s) := fun g s' hg => by
 rw [T.MB] at hg
 split at hg
 ·rename_i e; subst e; cases hg; exact ⟨af, hf, hs⟩
 ·exact h g s' hg
theorem AKs (x y : Int) : B2.ev .lss (.int .i64 x 0) (.int .i64 y 0) = some (.bool (decide (x < y))) := by
 show wQ (zZ x y) = _
 rw [Oh, SE]
theorem ABt (x y : Int) : B2.ev .leq (.int .i64 x 0) (.int .i64 y 0) = some (.bool (decide (x <= y))) := by
 show wQ (ile x y) = _
 rw [Oh, gV]
theorem eq_i (x y : Int) : Dx (.one .int) false (.int .i64 x 0) (.int .i64 y 0) = some (.bool (x == y)) := by
 show ofB (Rx (some (ieq x y)) fun b => some b) = _
 rw [QX]; cases x == y <;> rfl
theorem AIZ (x y : Int) : Dx (.one .int) true (.int .i64 x 0) (.int .i64 y 0) = some (.bool (!(x == y))) := by
 show ofB (Rx (some (ieq x y)) fun b => some (Vd b)) = _
 rw [QX]; cases x == y <;> rfl
theorem wrap64 (a : Int) : IntKind.wrap .i64 a = if 9223372036854775808 <= a % 18446744073709551616 then a % 18446744073709551616 - 18446744073709551616 else a % 18446744073709551616 := by
 show (if (true && decide (a % 18446744073709551616 ≥ 9223372036854775808)) = true then a % 18446744073709551616 - 18446744073709551616 else a % 18446744073709551616) = _
 by_cases h : 9223372036854775808 <= a % 18446744073709551616
 ·rw [if_pos h, if_pos (by simpa using h)]
 ·rw [if_neg h, if_neg (by simpa using h)]
theorem U9 {x : Int} (h1 : -9223372036854775808 <= x) (h2 : x < 9223372036854775808) : IntKind.wrap .i64 x = x := by
 rw [wrap64]; split <;> omega
end Go.Ba
