/- Part of a proof: texts En45 En46 En47 En48 En49 En50 En51 En52 En53 of the engine and what is proved with it; nothing is assumed. -/
import Derived.Test.YtibbhhkcjjeclaaDoorEngE
set_option linter.unusedVariables false
set_option linter.unusedSimpArgs false
noncomputable section
namespace Go.Ba
def P2.beq (p : P2) : P2 -> Bool :=
 P2.rec (motive := fun _ => P2 -> Bool) (fun q => P2.rec (motive := fun _ => Bool) true (fun _ _ => false) (fun _ _ => false) q)
  (fun _ g q => P2.rec (motive := fun _ => Bool) false (fun q _ => g q) (fun _ _ => false) q)
  (fun _ g q => P2.rec (motive := fun _ => Bool) false (fun _ _ => false) (fun q _ => g q) q) p
abbrev rg (R : G6) (p : P2) : V := KJ (T.C9 p R)
abbrev Aq := (σ : Type) -> ((σ -> Prop) -> σ -> Prop) -> σ -> Prop
def Dk (L : Aq) : Prop := ∀ (σ : Type) (b : (σ -> Prop) -> σ -> Prop) (P : σ -> Prop), (∀ ih, (∀ s, ih s -> P s) -> ∀ s, b ih s -> P s) -> ∀ s, L σ b s -> P s
def lfp : Aq := fun σ b s => ∀ I : σ -> Prop, (∀ s, b I s -> I s) -> I s
theorem BM : Dk lfp := fun _ _ P h _ hL => hL P (h P fun _ h => h)
def lpF (m : Nat) : Aq := fun σ b s => Nat.rec (motive := fun _ => σ -> Prop) (fun _ => False) (fun _ g => b g) m s
theorem AL0 (m : Nat) : Dk (lpF m) := fun σ b P h => by
 induction m with
 | zero => exact fun s hs => (show False from hs).elim
 | succ m ih => exact fun s hs => h _ ih s hs
def E0 : RS := .mk [] .e
def Ar (c a b : V) : Option V := c.bF fun t => mG t (some a) (some b)
def AZ (a : V) (G : AL) (H : Heap) : Option V := QF (dw a G H 1) fun L => nth L 0
def Ae (n : Nat) (a : V) (G : AL) (H : Heap) : Option V := QF (dw a G H n) fun L => some (.agg L)
def FB (a : V) : Option V := a.bF fun b => xE (Vh b)
def AEd (n esz : Nat) (a i : V) : Option V := TM i fun i => BD (Nat.blt i n) (AQ (Nat.mul i esz) a)
def AGM (a i : V) : Option V := a.QN fun ln c => TM i fun i => BD (Nat.blt i ln) (EP (AGf c i) fun b => some (.int .u8 (.ofNat b) 0))
def Dc (a : V) (i : Nat) : Option V := a.ACF fun l => nth l i
def Np (a : V) : Option V := a.QN fun n _ => some (.int .i64 (.ofNat n) 0)
def rQ (c : CK) (ok : Bool) (z m k : V) (H : Heap) : Option V := OY H m fun es _ => A8 (Zo c k es 0) (AEn ok z)
def BO (z : LV) (ps : List (Nat × Nat × X)) : Option V := BD (Yf ps E0) (some (.agg (pG ps E0 z)))
def AJY (x y : V) : Option V := x.GU fun k a s => y.GU fun k' b t => BD (band (keq k k') (Nat.beq (Nat.add s t) 0)) (some (.int k (Bool.rec a b (ilt b a)) 0))
def DV (v : V) (k : KA) : Prop := Ko (U2 v) (CU (len (Am v)) fun e => k (.arr e 1 (T.set .e 0 (Am v))) fun id => .ptr id 0)
def CQ (sz : Nat) (a b : V) (H : Heap) (n : Nat) (k : KV) : Prop := Ko (band (U2 b) (Nat.beq (len (Am b)) sz)) (He (stP a H sz (Am b)) fun H => k .undef H n)
def TY (esz bs : Nat) (a b : V) (G : AL) (H : Heap) (n : Nat) (k : KV) : Prop := He (elems b G H esz) fun LS => zZ a G esz bs LS H n k
def copyV (esz : Nat) (a b : V) (G : AL) (H : Heap) (n : Nat) (k : KV) : Prop := He (elems b G H esz) fun LS => xQ a esz LS H n k
def AKM (c : CK) (m key v : V) (H : Heap) (n : Nat) (k : KV) : Prop := wS m H (AD7 c key v) fun H => k .undef H n
def AHG (x : V) (args : List V) (call : AV) (H : Heap) (n : Nat) (k : KV) : Prop := V.UC x fun f a c => call f (cat a (cat args c)) H n k
def Af (c : V) (b : Bool) (e : Option V) (P : V -> Prop) : Prop := ZJ c b (AP e P) (P (.II []))
def BX (al : KA -> Prop) (H : Heap) (n : Nat) (P : KV) : Prop := al fun b f => CU n fun n => P (f n) (T.set H n b) (Nat.succ n)
def DI (c : V) (b : Bool) (t : KV -> Prop) (H : Heap) (n : Nat) (P : KV) : Prop := ZJ c b (t P) (P (.II []) H n)
inductive wJ where
 | t (v : V) | c1 (v : V) | cn (v : V) (n : Nat)
def wJ.get (r : wJ) (G : AL) (H : Heap) : Option V := wJ.rec (fun v => some v) (fun v => AZ v G H) (fun v n => Ae n v G H) r
def Bj (l : List wJ) (G : AL) (H : Heap) : Option LV :=
 List.rec (motive := fun _ => Option LV) (some []) (fun r _ g => A8 (r.get G H) fun v => A8 g fun vs => some (v :: vs)) l
section
variable {E : RS} {G : AL} {H : Heap} {n : Nat} {x y z w : X} {a b c d : V}
variable {call : AV}
end
section
variable {L : List V} {R : G6} {G : AL} {call : AV} {H : Heap} {n : Nat} {a b : V}
end
def lF (c : V) (b : Bool) (e : Option V) (a : V) (P : Prop) : Prop := ZJ c b (AP e fun v => Ko (GN v a) P) P
def kR (k : K) : KE := fun E H n => k E.rg H n
theorem vV {v : V} {b : Bool} {P Q P' Q' : Prop} (h : Ad v b P Q) (hp : P -> P') (hq : Q -> Q') : Ad v b P' Q' := by
 rw [VA] at h ⊢
 obtain ⟨t, ht, h⟩ := h
 refine ⟨t, ht, ?_⟩
 split
 ·rename_i e; rw [if_pos e] at h; exact hp h
 ·rename_i e; rw [if_neg e] at h; exact hq h
section
variable {G : AL} {call callE : AV}
section
variable {L : List V} {R : G6} {H : Heap} {n : Nat} {l : List jJ} {k : KE} {p : P2} {x : X} {b : Bool} {c a : V}
theorem o0 {K : K} (h : K R H n) : Nk [] G callE (.mk L R) H n (kR K) := h
end
section
variable {L : List V} {R : G6} {H : Heap} {n : Nat} {l : List AI} {k : KE} {p : P2} {x : X} {b : Bool} {c a : V}
theorem i0 {K : K} (h : K R H n) : BQ [] G callE (.mk L R) H n (kR K) := h
end
section
variable {R : G6} {H : Heap} {n : Nat} {k : K} {x : KX} {r : K} {a b : AC}
end
section
variable {res rs : List AR} {dg : Nat} {R : G6} {H : Heap} {n : Nat} {k : KV} {l : LV} {p : P2} {a : V} {vs : List wJ}
end
end
abbrev SF := AV -> List V -> Heap -> Nat -> KV -> Prop
def ar0 (s : AV -> Heap -> Nat -> KV -> Prop) : SF := fun call l H n k => List.rec (motive := fun _ => Prop) (s call H n k) (fun _ _ _ => False) l
def Jg (s : AV -> V -> Heap -> Nat -> KV -> Prop) : SF := fun call l H n k => List.rec (motive := fun _ => Prop) False (fun a l _ => ar0 (fun call => s call a) call l H n k) l
def Rf (s : AV -> V -> V -> Heap -> Nat -> KV -> Prop) : SF := fun call l H n k => List.rec (motive := fun _ => Prop) False (fun a l _ => Jg (fun call => s call a) call l H n k) l
def ar3 (s : AV -> V -> V -> V -> Heap -> Nat -> KV -> Prop) : SF := fun call l H n k => List.rec (motive := fun _ => Prop) False (fun a l _ => Rf (fun call => s call a) call l H n k) l
def ar4 (s : AV -> V -> V -> V -> V -> Heap -> Nat -> KV -> Prop) : SF := fun call l H n k => List.rec (motive := fun _ => Prop) False (fun a l _ => ar3 (fun call => s call a) call l H n k) l
def ar5 (s : AV -> V -> V -> V -> V -> V -> Heap -> Nat -> KV -> Prop) : SF := fun call l H n k => List.rec (motive := fun _ => Prop) False (fun a l _ => ar4 (fun call => s call a) call l H n k) l
theorem AEX {s : AV -> Heap -> Nat -> KV -> Prop} {call : AV} {l : List V} {H : Heap} {n : Nat} {k : KV} (h : ar0 s call l H n k) : l = [] /\ s call H n k := by
 cases l with
 | nil => exact ⟨rfl, h⟩
 | cons => exact (show False from h).elim
theorem AES {s : AV -> V -> Heap -> Nat -> KV -> Prop} {call : AV} {l : List V} {H : Heap} {n : Nat} {k : KV} (h : Jg s call l H n k) : ∃ a0, l = [a0] /\ s call a0 H n k := by
 cases l with
 | nil => exact (show False from h).elim
 | cons a l =>
  obtain ⟨rfl, h⟩ := AEX (show ar0 (fun call => s call a) call l H n k from h)
  exact ⟨a, rfl, h⟩
theorem AE3 {s : AV -> V -> V -> Heap -> Nat -> KV -> Prop} {call : AV} {l : List V} {H : Heap} {n : Nat} {k : KV} (h : Rf s call l H n k) : ∃ a0 a1, l = [a0, a1] /\ s call a0 a1 H n k := by
 cases l with
 | nil => exact (show False from h).elim
 | cons a l =>
  obtain ⟨b0, rfl, h⟩ := AES (show Jg (fun call => s call a) call l H n k from h)
  exact ⟨a, b0, rfl, h⟩
theorem AEN {s : AV -> V -> V -> V -> Heap -> Nat -> KV -> Prop} {call : AV} {l : List V} {H : Heap} {n : Nat} {k : KV} (h : ar3 s call l H n k) : ∃ a0 a1 a2, l = [a0, a1, a2] /\ s call a0 a1 a2 H n k := by
 cases l with
 | nil => exact (show False from h).elim
 | cons a l =>
  obtain ⟨b0, b1, rfl, h⟩ := AE3 (show Rf (fun call => s call a) call l H n k from h)
  exact ⟨a, b0, b1, rfl, h⟩
theorem AFC {s : AV -> V -> V -> V -> V -> Heap -> Nat -> KV -> Prop} {call : AV} {l : List V} {H : Heap} {n : Nat} {k : KV} (h : ar4 s call l H n k) : ∃ a0 a1 a2 a3, l = [a0, a1, a2, a3] /\ s call a0 a1 a2 a3 H n k := by
 cases l with
 | nil => exact (show False from h).elim
 | cons a l =>
  obtain ⟨b0, b1, b2, rfl, h⟩ := AEN (show ar3 (fun call => s call a) call l H n k from h)
  exact ⟨a, b0, b1, b2, rfl, h⟩
theorem AJI {s : AV -> V -> V -> V -> V -> V -> Heap -> Nat -> KV -> Prop} {call : AV} {l : List V} {H : Heap} {n : Nat} {k : KV} (h : ar5 s call l H n k) : ∃ a0 a1 a2 a3 a4, l = [a0, a1, a2, a3, a4] /\ s call a0 a1 a2 a3 a4 H n k := by
 cases l with
 | nil => exact (show False from h).elim
 | cons a l =>
  obtain ⟨b0, b1, b2, b3, rfl, h⟩ := AFC (show ar4 (fun call => s call a) call l H n k from h)
  exact ⟨a, b0, b1, b2, b3, rfl, h⟩
def AMZ (FS : T SF) (fuel : Nat) : AV :=
 Nat.rec (motive := fun _ => AV) (fun _ _ _ _ _ => False) (fun _ call f args H n k => He (T.get FS f) fun s => s call args H n k) fuel
def wo (G : AL) (af : AF) (s : SF) : Prop := ∀ call callE, O5 call callE -> Ed callE -> ∀ args H n k, s call args H n k -> AC3 af G callE args H n k
def AHd (F : T AF) (G : AL) (FS : T SF) : Prop := ∀ f s, T.get FS f = some s -> ∃ af, T.get F f = some af /\ wo G af s
theorem AEa {F : T AF} {G : AL} {FS : T SF} (h : AHd F G FS) : ∀ m, O5 (AMZ FS m) (Runs F G)
 | 0 => fun _ _ _ _ _ h => (show False from h).elim
 | m + 1 => fun f a H n k hr => by
  have hr' : He (T.get FS f) fun s => s (AMZ FS m) a H n k := hr
  rw [Gg] at hr'
  obtain ⟨s, hs, hr'⟩ := hr'
  obtain ⟨af, haf, hok⟩ := h f s hs
  exact uQ haf (hok _ _ (AEa h m) (aZ F G) _ _ _ _ hr')
section
variable {E : RS} {G : AL} {H : Heap} {x : X} {a : Int}
end
@[congr] theorem ANc {o o' : Option V} (f : V -> Prop) (h : o = o') : AP o f = AP o' f := by rw [h]
@[congr] theorem ANg {α : Type} {o o' : Option α} (f : α -> Prop) (h : o = o') : He o f = He o' f := by rw [h]
@[congr] theorem ANi {b b' : Bool} (p : Prop) (h : b = b') : Ko b p = Ko b' p := by rw [h]
@[congr] theorem ALG {v v' : V} (b : Bool) (p q : Prop) (h : v = v') : Ad v b p q = Ad v' b p q := by rw [h]
@[congr] theorem ANf {c c' : V} {b : Bool} {e : Option V} (f : V -> Prop) (h : c = c') : Af c b e f = Af c' b e f := by rw [h]
@[congr] theorem ANR {c c' : V} {b : Bool} {t : KV -> Prop} {H : Heap} {n : Nat} (f : KV) (h : c = c') : DI c b t H n f = DI c' b t H n f := by rw [h]
@[congr] theorem ALU (F : T AF) (G : AL) (f : Nat) {a a' : List V} {H H' : Heap} {n n' : Nat} (k : KV) (h0 : a = a') (h1 : H = H') (h2 : n = n') : Runs F G f a H n k = Runs F G f a' H' n' k := by rw [h0, h1, h2]
theorem BA (v : V) (f : V -> Prop) : AP (some v) f = f v := rfl
theorem Tc {α : Type} (v : α) (f : α -> Prop) : He (some v) f = f v := rfl
theorem Rt (p : Prop) : Ko true p = p := rfl
theorem AAV (p q : Prop) : Ad (.bool true) true p q = p := rfl
theorem ADp (p q : Prop) : Ad (.bool false) true p q = q := rfl
theorem APm (e : Option V) (f : V -> Prop) : Af (.bool true) true e f = AP e f := rfl
theorem APO (e : Option V) (f : V -> Prop) : Af (.bool false) false e f = AP e f := rfl
theorem APl (e : Option V) (f : V -> Prop) : Af (.bool true) false e f = f (.II []) := rfl
theorem AOO (e : Option V) (f : V -> Prop) : Af (.bool false) true e f = f (.II []) := rfl
theorem AQo (b : Bool) (e : Option V) (f : V -> Prop) : Af (.II []) b e f = f (.II []) := rfl
theorem ANu (t : KV -> Prop) (H : Heap) (n : Nat) (f : KV) : DI (.bool true) true t H n f = t f := rfl
theorem AN4 (t : KV -> Prop) (H : Heap) (n : Nat) (f : KV) : DI (.bool false) false t H n f = t f := rfl
theorem ANv (t : KV -> Prop) (H : Heap) (n : Nat) (f : KV) : DI (.bool true) false t H n f = f (.II []) H n := rfl
theorem APF (t : KV -> Prop) (H : Heap) (n : Nat) (f : KV) : DI (.bool false) true t H n f = f (.II []) H n := rfl
theorem AQJ (b : Bool) (t : KV -> Prop) (H : Heap) (n : Nat) (f : KV) : DI (.II []) b t H n f = f (.II []) H n := rfl
theorem APn (b : Bool) : FB (.bool b) = some (.bool (!b)) := by cases b <;> rfl
theorem AJN (a b : V) : Ar (.bool true) a b = some a := rfl
theorem AJP (a b : V) : Ar (.bool false) a b = some b := rfl
theorem Zl (off id o : Nat) : AQ off (.ptr id o) = some (.ptr id (o + off)) := by show EP (Nat.add o off) _ = _; rw [Cm]; rfl
theorem AAg (off id o : Nat) : AQ off (.gptr id o) = some (.gptr id (o + off)) := by show EP (Nat.add o off) _ = _; rw [Cm]; rfl
theorem AJ1 (id o : Nat) : Az (.ptr id o) = some (.ptr id o) := rfl
theorem AM9 (a : V) (l : List V) : Dc (.II (a :: l)) 0 = some a := rfl
theorem AMw (a b : V) (l : List V) : Dc (.II (a :: b :: l)) 1 = some b := rfl
theorem AMH (a b c : V) (l : List V) : Dc (.II (a :: b :: c :: l)) 2 = some c := rfl
theorem ABi (a : V) (G : AL) (H : Heap) : AZ a G H = QF (dw a G H 1) fun L => nth L 0 := rfl
theorem AEI (m : Nat) (a : V) (G : AL) (H : Heap) : Ae m a G H = QF (dw a G H m) fun L => some (.agg L) := rfl
theorem bQ (id off : Nat) (G : AL) (H : Heap) (n : Nat) : dw (.ptr id off) G H n = Xl H id off n := rfl
theorem AAj (L : LV) (f : LV -> Option V) : QF (some L) f = f L := rfl
def one (L : LV) : Nh := .arr L.length 1 (T.set .e 0 L)
theorem Xo {v : V} {H : Heap} {n : Nat} {P : KV} (h : U2 v = true) : BX (DV v) H n P = P (.ptr n 0) (T.set H n (one (Am v))) (n + 1) := by
 show Ko (U2 v) (CU (len (Am v)) fun e => CU n fun n => P (.ptr n 0) (T.set H n (.arr e 1 (T.set .e 0 (Am v)))) (Nat.succ n)) = _
 rw [BG, BG, len_eq, h]
 rfl
theorem JE {z : Nat} {L : LV} {H : Heap} {n : Nat} {P : KV} (h : L.length = z) : BX (Ag z [L] E0) H n P = P (.ptr n 0) (T.set H n (one L)) (n + 1) := by
 show CU (len [L]) (fun m => CU n fun n => P (.ptr n 0) (T.set H n (.arr z m (EH [L] 0 .e))) (Nat.succ n)) = _
 rw [BG, BG, len_eq]
 subst h
 rfl
theorem AEF {H : Heap} {id : Nat} {L : LV} (h : T.get H id = some (one L)) {off m : Nat} (hm : 0 < m) (hl : off + m <= L.length) : Xl H id off m = some ((L.drop off).take m) := by
 unfold Xl
 rw [h]
 show ldB L.length 1 (T.set .e 0 L) off m = _
 unfold ldB
 have hdiv : off / L.length = 0 := Nat.div_eq_of_lt (by omega)
 have hmod : off % L.length = off := Nat.mod_eq_of_lt (by omega)
 have hb : Nat.blt (Nat.div off L.length) 1 = true := by rw [Nat.blt_eq]; show off / L.length < 1; omega
 rw [hb]
 show A8 (T.get (T.set T.e 0 L) (Nat.div off L.length)) (ldC L.length off m) = _
 have hg2 : T.get (T.set T.e 0 L) (Nat.div off L.length) = some L := by
  show T.get (T.set T.e 0 L) (off / L.length) = some L
  rw [hdiv]; simp
 rw [hg2]
 show ldC L.length off m L = _
 unfold ldC
 cases hc : band (Nat.beq m L.length) (Nat.beq (Nat.mod off L.length) 0) with
 | true =>
  simp only [BH, Bool.and_eq_true, beq_iff] at hc
  obtain ⟨h1, h2⟩ := hc
  have h2' : off = 0 := by have : off % L.length = 0 := h2; omega
  subst h2'
  simp [h1]
 | false =>
  have hf : Nat.ble (Nat.add (Nat.mod off L.length) m) L.length = true := by
   rw [Nat.ble_eq]; show off % L.length + m <= L.length; omega
  rw [hf]
  show some (Ur m (aT (Nat.mod off L.length) L)) = _
  rw [VO, aI]
  show some (List.take m (List.drop (off % L.length) L)) = _
  rw [hmod]
theorem ANK {H : Heap} {id : Nat} {L : LV} (h : T.get H id = some (one L)) {off m : Nat} {new : LV} (hm : 0 < m) (hn : new.length = m) (hl : off + m <= L.length) : stH H id off m new = some (T.set H id (one (L.take off ++ (new ++ L.drop (off + m))))) := by
 unfold stH
 rw [h]
 show A8 (stB L.length 1 (T.set .e 0 L) off m new) (fun b => some (T.set H id b)) = _
 have hdiv : Nat.div off L.length = 0 := Nat.div_eq_of_lt (by omega)
 have hmod : Nat.mod off L.length = off := Nat.mod_eq_of_lt (by omega)
 have hs : stB L.length 1 (T.set .e 0 L) off m new = some (one (L.take off ++ (new ++ L.drop (off + m)))) := by
  unfold stB
  rw [hdiv]
  show A8 (T.get (T.set T.e 0 L) 0) (stC new L.length 1 (T.set .e 0 L) off m) = _
  rw [T.Ac]
  show stC new L.length 1 (T.set .e 0 L) off m L = _
  unfold stC
  rw [hmod, hdiv]
  have hlen : (L.take off ++ (new ++ L.drop (off + m))).length = L.length := by simp; omega
  cases hc : band (Nat.beq m L.length) (Nat.beq off 0) with
  | true =>
   simp only [BH, Bool.and_eq_true, beq_iff] at hc
   obtain ⟨h1, h2⟩ := hc
   subst h2
   show some (Nh.arr L.length 1 (T.set (T.set T.e 0 L) 0 new)) = _
   unfold one
   rw [hlen]
   have : List.take 0 L ++ (new ++ List.drop (0 + m) L) = new := by simp [h1]
   rw [this]; rfl
  | false =>
   have hf : Nat.ble (Nat.add off m) L.length = true := by rw [Nat.ble_eq]; exact hl
   rw [hf]
   show some (Nh.arr L.length 1 (T.set (T.set T.e 0 L) 0 (ADa new off L))) = _
   unfold one
   rw [hlen, zO, hn]; rfl
 rw [hs]
 rfl
theorem BL {F : T AF} {G : AL} {f : Nat} {af : AF} {s : SF} (hf : T.get F f = some af) (hs : wo G af s) {args : List V} {H : Heap} {n : Nat} {k : KV} (h : s (Runs F G) args H n k) : Runs F G f args H n k :=
 uQ hf (hs _ _ (fun _ _ _ _ _ h => h) (aZ F G) _ _ _ _ h)
def goN (x : X) (b : Bool) (d : Zw) (o : AN) : oh := fun G _ R H n k => Af (x.ev R) b (o.ev G R H) fun v => k (ET d v R) H n
def goA (x : X) (b : Bool) (d : Zw) (o : AA) : oh := fun _ _ R H n k => DI (x.ev R) b (BX (o.al R) H n) H n fun v H n => k (ET d v R) H n
def goE (x : X) (b : Bool) (d : Zw) (o : AE) : oh := fun G call R H n k => DI (x.ev R) b (o.ex G call R H n) H n fun v H n => k (ET d v R) H n
def AQP (x : X) (b : Bool) (d : Zw) (o : AO) : oh := AO.rec (motive := fun _ => oh) (goN x b d) (goA x b d) (goE x b d) o
def oAG (o : AA) : XoT := fun _ _ d R H n k => BX (o.al R) H n fun v H n => k (ET d v R) H n
def AO.yJ (o : AO) : XoT := AO.rec (motive := fun _ => XoT) oN oAG oE o
def AQY (d : Zw) (o : AO) : oh := fun G call R H n k => o.yJ G call d R H n k
def jJ.yJ (o : jJ) : oh := jJ.rec (motive := fun _ => oh) (fun d g o => Gd.rec (motive := fun _ => Zw -> AO -> oh) AQY AQP g d o) o
theorem AEM (o : jJ) : o.yJ = o.ex := by
 obtain ⟨d, g, o⟩ := o
 cases g <;> cases o <;> rfl
def ADc (l : List jJ) : oh :=
 List.rec (motive := fun _ => oh) (fun _ _ R H n k => k R H n) (fun o _ g G call R H n k => o.yJ G call R H n fun R H n => g G call R H n k) l
theorem AEe : ∀ l : List jJ, ADc l = Nk l
 | [] => rfl
 | o :: l => by
  show (fun G call R H n k => o.yJ G call R H n fun R H n => ADc l G call R H n k) = fun G call R H n k => o.ex G call R H n fun R H n => Nk l G call R H n k
  rw [AEe l, AEM]
def AOP (x : X) (b : Bool) : ReT := fun G R H d o k => lF (x.ev R) b (o.ev G R H) (KJ (T.C9 d R.rg)) k
def APs (g : Gd) : ReT := Gd.rec (motive := fun _ => ReT) AO2 AOP g
def AI.yJ (i : AI) : oh := AI.rec (motive := fun _ => oh) (fun o => o.yJ) (fun d g o G _ R H n k => APs g G R H d o (k R H n)) i
theorem ANL (i : AI) : i.yJ = i.ex := by
 cases i with
 | op o => exact AEM o
 | re d g o => cases g <;> rfl
def wF (l : List AI) : oh :=
 List.rec (motive := fun _ => oh) (fun _ _ R H n k => k R H n) (fun i _ g G call R H n k => i.yJ G call R H n fun R H n => g G call R H n k) l
theorem yX : ∀ l : List AI, wF l = BQ l
 | [] => rfl
 | o :: l => by
  show (fun G call R H n k => o.yJ G call R H n fun R H n => wF l G call R H n k) = fun G call R H n k => o.ex G call R H n fun R H n => BQ l G call R H n k
  rw [yX l, ANL]
def AHk (l : List jJ) : M := fun G call _ R H n k _ _ => ADc l G call (.mk [] R) H n fun E H n => k E.rg H n
def AHU (l : List AI) : M := fun G call _ R H n k _ _ => wF l G call (.mk [] R) H n fun E H n => k E.rg H n
def AC.yJ (c : AC) : M := AC.rec (motive := fun _ => M) AIA AHk AHU AHC ACC vP zT AIT ANN c
theorem iL : ∀ c : AC, c.yJ = c.ng
 | .skip => rfl
 | .ops l => by show AHk l = AKe l; unfold AHk AKe; rw [AEe]
 | .reg l => by show AHU l = AJk l; unfold AHU AJk; rw [yX]
 | .seq a b => by show AHC a b a.yJ b.yJ = AHC a b a.ng b.ng; rw [iL a, iL b]
 | .cond x a b => by show ACC x a b a.yJ b.yJ = ACC x a b a.ng b.ng; rw [iL a, iL b]
 | .block i a => by show vP i a a.yJ = vP i a a.ng; rw [iL a]
 | .loop a => by show zT a a.yJ = zT a a.ng; rw [iL a]
 | .exit i => rfl
 | .ret => rfl
inductive An : Type 1 where
 | n
 | s (a b : An)
 | j (S : K) (a b : An)
 | c (a b : An)
 | b (a : An)
 | l (σ : Type) (bd : (σ -> Prop) -> σ -> Prop) (st : G6 -> Heap -> Nat -> σ) (a : (σ -> Prop) -> An)
abbrev M2 := AC -> AL -> AV -> G6 -> Heap -> Nat -> K -> KX -> K -> Prop
def AC.ABq (c : AC) (f : AC -> AC -> Prop) : Prop := AC.rec (motive := fun _ => Prop) False (fun _ => False) (fun _ => False) (fun a b _ _ => f a b) (fun _ _ _ _ _ => False) (fun _ _ _ => False) (fun _ _ => False) (fun _ => False) False c
def AC.ADr (c : AC) (f : X -> AC -> AC -> Prop) : Prop := AC.rec (motive := fun _ => Prop) False (fun _ => False) (fun _ => False) (fun _ _ _ _ => False) (fun x a b _ _ => f x a b) (fun _ _ _ => False) (fun _ _ => False) (fun _ => False) False c
def AC.zX (c : AC) (f : Nat -> AC -> Prop) : Prop := AC.rec (motive := fun _ => Prop) False (fun _ => False) (fun _ => False) (fun _ _ _ _ => False) (fun _ _ _ _ _ => False) (fun i a _ => f i a) (fun _ _ => False) (fun _ => False) False c
def AC.ADT (c : AC) (f : AC -> Prop) : Prop := AC.rec (motive := fun _ => Prop) False (fun _ => False) (fun _ => False) (fun _ _ _ _ => False) (fun _ _ _ _ _ => False) (fun _ _ _ => False) (fun a _ => f a) (fun _ => False) False c
def An.ex (L : Aq) (an : An) : M2 :=
 An.rec (motive := fun _ => M2)
  (fun c G call R H n k x r => c.yJ G call 0 R H n k x r)
  (fun _ _ ga gb c G call R H n k x r => c.ABq fun a b => ga a G call R H n (fun R H n => gb b G call R H n k x r) x r)
  (fun S _ _ ga _ c G call R H n _ x r => c.ABq fun a _ => ga a G call R H n S x r)
  (fun _ _ ga gb c G call R H n k x r => c.ADr fun y a b => Ad (y.ev (.mk [] R)) true (ga a G call R H n k x r) (gb b G call R H n k x r))
  (fun _ ga c G call R H n k x r => c.zX fun i a => ga a G call R H n k (FH i k x) r)
  (fun σ bd st _ _ c _ _ R H n _ _ _ => c.ADT fun _ => L σ bd (st R H n)) an
abbrev M3 := AC -> AL -> AV -> K -> KX -> K -> Prop
def An.ob (L : Aq) (an : An) : M3 :=
 An.rec (motive := fun _ => M3)
  (fun _ _ _ _ _ _ => True)
  (fun _ b ga gb c G call k x r => c.ABq fun a d => ga a G call (fun R H n => b.ex L d G call R H n k x r) x r /\ gb d G call k x r)
  (fun S _ b ga gb c G call k x r => c.ABq fun a d => ga a G call S x r /\ (∀ R H n, S R H n = b.ex L d G call R H n k x r) /\ gb d G call k x r)
  (fun _ _ ga gb c G call k x r => c.ADr fun _ a b => ga a G call k x r /\ gb b G call k x r)
  (fun _ ga c G call k x r => c.zX fun i a => ga a G call k (FH i k x) r)
  (fun σ bd st a ga c G call _ x r => c.ADT fun d => ∀ ih : σ -> Prop, (∀ R H n, bd ih (st R H n) = (a ih).ex L d G call R H n (fun R H n => ih (st R H n)) x r) /\ ga ih d G call (fun R H n => ih (st R H n)) x r) an
def AC.AHD (c : AC) (f : AC -> AC -> Prop) : Prop := AC.rec (motive := fun _ => Prop) True (fun _ => True) (fun _ => True) (fun a b _ _ => f a b) (fun _ _ _ _ _ => True) (fun _ _ _ => True) (fun _ _ => True) (fun _ => True) True c
def AC.AKQ (c : AC) (f : X -> AC -> AC -> Prop) : Prop := AC.rec (motive := fun _ => Prop) True (fun _ => True) (fun _ => True) (fun _ _ _ _ => True) (fun x a b _ _ => f x a b) (fun _ _ _ => True) (fun _ _ => True) (fun _ => True) True c
def AC.AHi (c : AC) (f : Nat -> AC -> Prop) : Prop := AC.rec (motive := fun _ => Prop) True (fun _ => True) (fun _ => True) (fun _ _ _ _ => True) (fun _ _ _ _ _ => True) (fun i a _ => f i a) (fun _ _ => True) (fun _ => True) True c
def AC.AJn (c : AC) (f : AC -> Prop) : Prop := AC.rec (motive := fun _ => Prop) True (fun _ => True) (fun _ => True) (fun _ _ _ _ => True) (fun _ _ _ _ _ => True) (fun _ _ _ => True) (fun a _ => f a) (fun _ => True) True c
def An.obR (L : Aq) (an : An) : M3 :=
 An.rec (motive := fun _ => M3)
  (fun _ _ _ _ _ _ => True)
  (fun _ b ga gb c G call k x r => c.AHD fun a d => ga a G call (fun R H n => b.ex L d G call R H n k x r) x r /\ gb d G call k x r)
  (fun S _ b ga gb c G call k x r => c.AHD fun a d => ga a G call S x r /\ (∀ R H n, S R H n = S R H n) /\ gb d G call k x r)
  (fun _ _ ga gb c G call k x r => c.AKQ fun _ a b => ga a G call k x r /\ gb b G call k x r)
  (fun _ ga c G call k x r => c.AHi fun i a => ga a G call k (FH i k x) r)
  (fun σ bd st a ga c G call _ x r => c.AJn fun d => ∀ ih : σ -> Prop, (∀ R H n, bd ih (st R H n) = bd ih (st R H n)) /\ ga ih d G call (fun R H n => ih (st R H n)) x r) an
theorem An.AMO (L : Aq) (an : An) : ∀ c G call k x r, an.obR L c G call k x r := by
 induction an with
 | n => exact fun _ _ _ _ _ _ => trivial
 | s a b iha ihb => intro c; cases c <;> first | exact fun _ _ _ _ _ => trivial | exact fun G call k x r => ⟨iha _ _ _ _ _ _, ihb _ _ _ _ _ _⟩
 | j S a b iha ihb => intro c; cases c <;> first | exact fun _ _ _ _ _ => trivial | exact fun G call k x r => ⟨iha _ _ _ _ _ _, fun _ _ _ => rfl, ihb _ _ _ _ _ _⟩
 | c a b iha ihb => intro c; cases c <;> first | exact fun _ _ _ _ _ => trivial | exact fun G call k x r => ⟨iha _ _ _ _ _ _, ihb _ _ _ _ _ _⟩
 | b a iha => intro c; cases c <;> first | exact fun _ _ _ _ _ => trivial | exact fun G call k x r => iha _ _ _ _ _ _
 | l σ bd st a iha => intro c; cases c <;> first | exact fun _ _ _ _ _ => trivial | exact fun G call k x r ih => ⟨fun _ _ _ => rfl, iha ih _ _ _ _ _ _⟩
theorem yQ {c : AC} {f : AC -> AC -> Prop} (h : c.ABq f) : ∃ a b, c = .seq a b /\ f a b := by
 cases c <;> first | exact ⟨_, _, rfl, h⟩ | exact (show False from h).elim
theorem ACx {c : AC} {f : X -> AC -> AC -> Prop} (h : c.ADr f) : ∃ x a b, c = .cond x a b /\ f x a b := by
 cases c <;> first | exact ⟨_, _, _, rfl, h⟩ | exact (show False from h).elim
theorem ACT {c : AC} {f : Nat -> AC -> Prop} (h : c.zX f) : ∃ i a, c = .block i a /\ f i a := by
 cases c <;> first | exact ⟨_, _, rfl, h⟩ | exact (show False from h).elim
theorem ADE {c : AC} {f : AC -> Prop} (h : c.ADT f) : ∃ a, c = .loop a /\ f a := by
 cases c <;> first | exact ⟨_, rfl, h⟩ | exact (show False from h).elim
section
variable {G : AL} {call callE : AV}
theorem AIs {c : AC} {R : G6} {H : Heap} {n : Nat} {k : K} {x : KX} {r : K} (h : c.yJ G call 0 R H n k x r) : c.ng G call 0 R H n k x r := by rwa [iL] at h
theorem fV (hle : O5 call callE) (hd : Ed callE) : ∀ (c : AC) (R : G6) (H : Heap) (n : Nat) (k k' : K) (x x' : KX) (r r' : K), (∀ R H n, k R H n -> k' R H n) -> (∀ i R H n, x i R H n -> x' i R H n) -> (∀ R H n, r R H n -> r' R H n) ->
    c.ng G call 0 R H n k x r -> c.ng G callE 0 R H n k' x' r'
  | .skip, R, H, n, k, k', x, x', r, r', hk, hx, hr, h => hk _ _ _ h
  | .ops l, R, H, n, k, k', x, x', r, r', hk, hx, hr, h => AIH hd l _ H n (fun E H n h => hk _ _ _ h) (ADY hd hle G l _ H n _ h)
  | .reg l, R, H, n, k, k', x, x', r, r', hk, hx, hr, h => AEB hd l _ H n (fun E H n h => hk _ _ _ h) (rZ hd hle G l _ H n _ h)
  | .seq a b, R, H, n, k, k', x, x', r, r', hk, hx, hr, h => fV hle hd a R H n _ _ x x' r r' (fun R H n h => fV hle hd b R H n k k' x x' r r' hk hx hr h) hx hr h
  | .cond c a b, R, H, n, k, k', x, x', r, r', hk, hx, hr, h => by
    have h' : Ad (c.ev (.mk [] R)) true (a.ng G call 0 R H n k x r) (b.ng G call 0 R H n k x r) := h
    show Ad (c.ev (.mk [] R)) true (a.ng G callE 0 R H n k' x' r') (b.ng G callE 0 R H n k' x' r')
    exact vV h' (fV hle hd a R H n k k' x x' r r' hk hx hr) (fV hle hd b R H n k k' x x' r r' hk hx hr)
  | .block id a, R, H, n, k, k', x, x', r, r', hk, hx, hr, h => by
    refine fV hle hd a R H n k k' (FH id k x) (FH id k' x') r r' hk (fun i R H n h => ?_) hr h
    unfold FH at h ⊢
    cases hb : Nat.beq i id with
    | true => rw [hb] at h; exact hk _ _ _ h
    | false => rw [hb] at h; exact hx _ _ _ _ h
  | .loop a, R, H, n, k, k', x, x', r, r', hk, hx, hr, h => by
    intro I hI
    exact h I fun R H n hb => hI R H n (fV hle hd a R H n I I x x' r r' (fun _ _ _ h => h) hx hr hb)
  | .exit i, R, H, n, k, k', x, x', r, r', hk, hx, hr, h => hx _ _ _ _ h
  | .ret, R, H, n, k, k', x, x', r, r', hk, hx, hr, h => hr _ _ _ h
theorem An.ok {L : Aq} (hL : Dk L) (hle : O5 call callE) (hd : Ed callE) (an : An) : ∀ (c : AC) (k k' : K) (x x' : KX) (r r' : K), (∀ R H n, k R H n -> k' R H n) -> (∀ i R H n, x i R H n -> x' i R H n) -> (∀ R H n, r R H n -> r' R H n) ->
    an.ob L c G call k x r -> ∀ R H n, an.ex L c G call R H n k x r -> c.ng G callE 0 R H n k' x' r' := by
  induction an with
  | n => exact fun c k k' x x' r r' hk hx hr _ R H n h => fV hle hd c R H n k k' x x' r r' hk hx hr (AIs h)
  | s a b iha ihb =>
    intro c k k' x x' r r' hk hx hr ho R H n h
    obtain ⟨c1, c2, rfl, ho⟩ := yQ ho
    exact iha c1 _ _ x x' r r' (fun R H n h => ihb c2 k k' x x' r r' hk hx hr ho.2 R H n h) hx hr ho.1 R H n h
  | j S a b iha ihb =>
    intro c k k' x x' r r' hk hx hr ho R H n h
    obtain ⟨c1, c2, rfl, ho⟩ := yQ ho
    exact iha c1 S (fun R H n => c2.ng G callE 0 R H n k' x' r') x x' r r' (fun R H n h => ihb c2 k k' x x' r r' hk hx hr ho.2.2 R H n (ho.2.1 R H n ▸ h)) hx hr ho.1 R H n h
  | c a b iha ihb =>
    intro c k k' x x' r r' hk hx hr ho R H n h
    obtain ⟨y, c1, c2, rfl, ho⟩ := ACx ho
    exact vV (P' := c1.ng G callE 0 R H n k' x' r') (Q' := c2.ng G callE 0 R H n k' x' r') h (fun h => iha c1 k k' x x' r r' hk hx hr ho.1 R H n h) (fun h => ihb c2 k k' x x' r r' hk hx hr ho.2 R H n h)
  | b a iha =>
    intro c k k' x x' r r' hk hx hr ho R H n h
    obtain ⟨i, c1, rfl, ho⟩ := ACT ho
    refine iha c1 k k' (FH i k x) (FH i k' x') r r' hk (fun j R H n h => ?_) hr ho R H n h
    unfold FH at h ⊢
    cases hb : Nat.beq j i with
    | true => rw [hb] at h; exact hk _ _ _ h
    | false => rw [hb] at h; exact hx _ _ _ _ h
  | l σ bd st a iha =>
    intro c k k' x x' r r' hk hx hr ho R H n h
    obtain ⟨c1, rfl, ho⟩ := ADE ho
    intro I hI
    have h' : L σ bd (st R H n) := h
    refine hL σ bd (fun s => ∀ R H n, st R H n = s -> I R H n) (fun ih hih s hs R H n e => ?_) _ h' R H n rfl
    subst e
    rw [(ho ih).1] at hs
    exact hI R H n (iha ih c1 (fun R H n => ih (st R H n)) I x x' r r' (fun R H n h => hih _ h R H n rfl) hx hr (ho ih).2 R H n hs)
end
def fEx (L : Aq) (an : An) (af : AF) (G : AL) (call : AV) (args : List V) (H : Heap) (n : Nat) (k : KV) : Prop :=
 AF.rec (motive := fun _ => Prop) (fun np code res d dg => Ko (Nat.beq (len args) np) (an.ex L code G call (Xp args 0 .e) H n (G9 res dg d G call k) noX (G9 res dg d G call k))) af
def fOb (L : Aq) (an : An) (af : AF) (G : AL) (call : AV) (k : KV) : Prop :=
 AF.rec (motive := fun _ => Prop) (fun _ code res d dg => an.ob L code G call (G9 res dg d G call k) noX (G9 res dg d G call k)) af
def AQ4 (L : Aq) (an : An) (af : AF) (G : AL) (call : AV) (k : KV) : Prop :=
 AF.rec (motive := fun _ => Prop) (fun _ code res d dg => an.obR L code G call (G9 res dg d G call k) noX (G9 res dg d G call k)) af
theorem obs {L : Aq} {an : An} {af : AF} {G : AL} {call : AV} {k : KV} (h : AQ4 L an af G call k = fOb L an af G call k) : fOb L an af G call k := by
 rw [<- h]; cases af; exact An.AMO ..
theorem lZ {L : Aq} (hL : Dk L) {G : AL} {call callE : AV} (hle : O5 call callE) (hd : Ed callE) {an : An} {af : AF} {args : List V} {H : Heap} {n : Nat} {k : KV} (ho : fOb L an af G call k) (h : fEx L an af G call args H n k) : AC3 af G callE args H n k := by
 obtain ⟨np, code, res, d, dg⟩ := af
 have h' : Ko (Nat.beq (len args) np) (an.ex L code G call (Xp args 0 .e) H n (G9 res dg d G call k) noX (G9 res dg d G call k)) := h
 show Ko (Nat.beq (len args) np) (code.ng G callE 0 (Xp args 0 .e) H n (G9 res dg d G callE k) noX (G9 res dg d G callE k))
 rw [ES] at h' ⊢
 exact ⟨h'.1, An.ok hL hle hd an code _ _ _ _ _ _ (fun R H n h => YJ hd hle res dg d G k R H n h) (fun _ _ _ _ h => h) (fun R H n h => YJ hd hle res dg d G k R H n h) ho _ _ _ h'.2⟩
section
variable {L : Aq} (hL : Dk L) {G : AL} {af : AF} {an : AV -> KV -> An} (ho : ∀ call k, fOb L (an call k) af G call k)
include hL ho
theorem sf0 {s : AV -> Heap -> Nat -> KV -> Prop} (h : ∀ call H n k, s call H n k = fEx L (an call k) af G call [] H n k) : wo G af (ar0 s) := fun call callE hle hd l H n k hs => by
 obtain ⟨rfl, hs⟩ := AEX hs; exact lZ hL hle hd (ho call k) (h .. ▸ hs)
theorem lU {s : AV -> V -> Heap -> Nat -> KV -> Prop} (h : ∀ call a0 H n k, s call a0 H n k = fEx L (an call k) af G call [a0] H n k) : wo G af (Jg s) := fun call callE hle hd l H n k hs => by
 obtain ⟨a0, rfl, hs⟩ := AES hs; exact lZ hL hle hd (ho call k) (h .. ▸ hs)
theorem sf2 {s : AV -> V -> V -> Heap -> Nat -> KV -> Prop} (h : ∀ call a0 a1 H n k, s call a0 a1 H n k = fEx L (an call k) af G call [a0, a1] H n k) : wo G af (Rf s) := fun call callE hle hd l H n k hs => by
 obtain ⟨a0, a1, rfl, hs⟩ := AE3 hs; exact lZ hL hle hd (ho call k) (h .. ▸ hs)
theorem sf3 {s : AV -> V -> V -> V -> Heap -> Nat -> KV -> Prop} (h : ∀ call a0 a1 a2 H n k, s call a0 a1 a2 H n k = fEx L (an call k) af G call [a0, a1, a2] H n k) : wo G af (ar3 s) := fun call callE hle hd l H n k hs => by
 obtain ⟨a0, a1, a2, rfl, hs⟩ := AEN hs; exact lZ hL hle hd (ho call k) (h .. ▸ hs)
theorem sf4 {s : AV -> V -> V -> V -> V -> Heap -> Nat -> KV -> Prop} (h : ∀ call a0 a1 a2 a3 H n k, s call a0 a1 a2 a3 H n k = fEx L (an call k) af G call [a0, a1, a2, a3] H n k) : wo G af (ar4 s) := fun call callE hle hd l H n k hs => by
 obtain ⟨a0, a1, a2, a3, rfl, hs⟩ := AFC hs; exact lZ hL hle hd (ho call k) (h .. ▸ hs)
theorem sf5 {s : AV -> V -> V -> V -> V -> V -> Heap -> Nat -> KV -> Prop} (h : ∀ call a0 a1 a2 a3 a4 H n k, s call a0 a1 a2 a3 a4 H n k = fEx L (an call k) af G call [a0, a1, a2, a3, a4] H n k) : wo G af (ar5 s) := fun call callE hle hd l H n k hs => by
 obtain ⟨a0, a1, a2, a3, a4, rfl, hs⟩ := AJI hs; exact lZ hL hle hd (ho call k) (h .. ▸ hs)
end
def inR (l : List (Nat × Nat)) (t : Nat) : Bool := l.any fun p => Nat.ble p.1 t && Nat.ble t p.2
def opp (l : List Nat) : List (Nat × Wk) := l.map fun j => (j, .plain)
def WR (n : Nat) : List (Nat × Wk) := opp (List.range n)
def Bo (o : Option AF) : AF := o.getD (.mk 0 .skip [] .no 0)
theorem Ak {o : Option AF} (h : o.isSome = true) : o = some (Bo o) := by
 cases o with
 | none => cases h
 | some a => rfl
theorem rH.one {P : Program} {F : T AF} {f : Nat} {af : AF} {fn : Func} {loc : Nat -> Bool} {df : Bool} {ords : AFs} {dg : Nat} (hf : P.funcs[f]? = some fn) (hn : (fn.name == "runtime.NumGoroutine") = false)
    (ht : trF P loc df ords dg fn = some af) (hd : af.dg = dg) (hi : AGt af.dp = true) : rH P F f af := ⟨⟨fn, loc, df, ords, hf, hn, hd ▸ ht⟩, .inl hi⟩
theorem AHd.set {F : T AF} {G : AL} {FS : T SF} (h : AHd F G FS) {f : Nat} {af : AF} (hf : T.get F f = some af) {s : SF} (hs : wo G af s) : AHd F G (T.set FS f s) := fun g s' hg => by
 rw [T.Ky] at hg
 split at hg
 ·rename_i e; subst e; cases hg; exact ⟨af, hf, hs⟩
 ·exact h g s' hg
theorem AK4 (x y : Int) : B2.ev .lss (.int .i64 x 0) (.int .i64 y 0) = some (.bool (decide (x < y))) := by
 show xE (ilt x y) = _
 rw [Oz, SX]
theorem ABY (x y : Int) : B2.ev .leq (.int .i64 x 0) (.int .i64 y 0) = some (.bool (decide (x <= y))) := by
 show xE (ile x y) = _
 rw [Oz, iG]
theorem eq_i (x y : Int) : Dw (.one .int) false (.int .i64 x 0) (.int .i64 y 0) = some (.bool (x == y)) := by
 show ofB (Ri (some (ieq x y)) fun b => some b) = _
 rw [Qp]; cases x == y <;> rfl
theorem AIW (x y : Int) : Dw (.one .int) true (.int .i64 x 0) (.int .i64 y 0) = some (.bool (!(x == y))) := by
 show ofB (Ri (some (ieq x y)) fun b => some (Vh b)) = _
 rw [Qp]; cases x == y <;> rfl
theorem wrap64 (a : Int) : IntKind.wrap .i64 a = if 9223372036854775808 <= a % 18446744073709551616 then a % 18446744073709551616 - 18446744073709551616 else a % 18446744073709551616 := by
 show (if (true && decide (a % 18446744073709551616 ≥ 9223372036854775808)) = true then a % 18446744073709551616 - 18446744073709551616 else a % 18446744073709551616) = _
 by_cases h : 9223372036854775808 <= a % 18446744073709551616
 ·rw [if_pos h, if_pos (by simpa using h)]
 ·rw [if_neg h, if_neg (by simpa using h)]
theorem U9 {x : Int} (h1 : -9223372036854775808 <= x) (h2 : x < 9223372036854775808) : IntKind.wrap .i64 x = x := by
 rw [wrap64]; split <;> omega
end Go.Ba
