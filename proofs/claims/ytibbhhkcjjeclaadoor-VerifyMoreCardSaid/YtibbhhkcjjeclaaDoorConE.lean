/- Part of a proof: texts VVH VVI VUB VVJ VVK VVL VUF LRF LRG LRH VUD VUE VUC of the engine and what is proved with it; nothing is assumed. -/
import Derived.Test.YtibbhhkcjjeclaaDoorConD
import Derived.Test.YtibbhhkcjjeclaaDoorConB
import Derived.Test.YtibbhhkcjjeclaaDoorWalk
set_option linter.unusedVariables false
set_option linter.unusedSimpArgs false
namespace Go.RL
open Go.Ba
set_option maxRecDepth 100000
theorem AFX {a b : Int} (h : a <= b) {t : Ty} {s r : List Ty} (e : CP a t s = some r) : CP b t s = some r := by
 unfold CP at *
 cases hd : decide (((s.length + 1 : Nat) : Int) <= a) with
 | false => rw [hd] at e; cases e
 | true => rw [hd] at e; have := of_decide_eq_true hd; rw [decide_eq_true (show ((s.length + 1 : Nat) : Int) <= b by omega)]; exact e
theorem step_more {c d : Cx} (hf : d.fs = c.fs) (hp : d.pool = c.pool) (hr : d.ret = c.ret) (hm : c.max <= d.max) {x : Ins} {s t : Bz} {p : List Ty} (hx : (x.code = 3 ∨ x.code = 4) -> x.arg.toNat < s.loc.length) (h : stepT c s x = some t) :
    stepT d ⟨s.loc ++ p, s.stk⟩ x = some ⟨t.loc ++ p, t.stk⟩ := by
  have key : ∀ {u : Ty} {k : List Ty}, (CP c.max u k).map (fun k => (⟨s.loc, k⟩ : Bz)) = some t -> (CP d.max u k).map (fun k => (⟨s.loc ++ p, k⟩ : Bz)) = some ⟨t.loc ++ p, t.stk⟩ := fun h => by
    obtain ⟨k, h1, rfl⟩ := Option.map_eq_some_iff.1 h
    rw [AFX hm h1]; rfl
  have hcl : d.cl = c.cl := by funext i; unfold Cx.cl; rw [hp]
  have heff : AJQ d x = AJQ c x := by unfold AJQ Cx.fl Cx.cl Cx.ty Cx.me; rw [hp, hr]
  unfold stepT at *
  split at h
  · rename_i hc
    have hl := hx (.inl hc)
    have e : (s.loc ++ p).getD x.arg.toNat BP = s.loc.getD x.arg.toNat BP := by
      simp only [List.getD_eq_getElem?_getD, List.getElem?_append_left hl]
    show (bif ((s.loc ++ p).getD x.arg.toNat BP).is BP then none else (CP d.max ((s.loc ++ p).getD x.arg.toNat BP) s.stk).map fun k => (⟨s.loc ++ p, k⟩ : Bz)) = _
    rw [e]
    cases hb : (s.loc.getD x.arg.toNat BP).is BP with
    | true => rw [hb] at h; cases h
    | false => rw [hb] at h; exact key h
  · rename_i hc
    have hl := hx (.inr hc)
    show (match s.stk with | [] => none | t :: k => some (⟨(s.loc ++ p).set x.arg.toNat t, k⟩ : Bz)) = _
    split at h
    · cases h
    · rename_i tt kk e
      cases h; rw [e]
      show some (⟨(s.loc ++ p).set x.arg.toNat tt, kk⟩ : Bz) = _
      rw [List.set_append_left _ _ hl]
  · rename_i hc
    show (match s.stk with | a :: b :: k => bif a.is b && !a.obj then (CP d.max Et k).map fun k => (⟨s.loc ++ p, k⟩ : Bz) else none | _ => none) = _
    split at h
    · rename_i a b k e
      rw [e]
      show (bif a.is b && !a.obj then (CP d.max Et k).map fun k => (⟨s.loc ++ p, k⟩ : Bz) else none) = _
      cases hb : a.is b && !a.obj with
      | true => rw [hb] at h; exact key h
      | false => rw [hb] at h; cases h
    · cases h
  · rename_i hc
    show (match s.stk with | a :: b :: k => bif a.obj && b.obj then (CP d.max Et k).map fun k => (⟨s.loc ++ p, k⟩ : Bz) else none | _ => none) = _
    split at h
    · rename_i a b k e
      rw [e]
      show (bif a.obj && b.obj then (CP d.max Et k).map fun k => (⟨s.loc ++ p, k⟩ : Bz) else none) = _
      cases hb : a.obj && b.obj with
      | true => rw [hb] at h; exact key h
      | false => rw [hb] at h; cases h
    · cases h
  · rename_i hc
    show (match s.stk with | [] => none | _ :: k => some (⟨s.loc ++ p, k⟩ : Bz)) = _
    split at h
    · cases h
    · rename_i e; cases h; rw [e]
  · rename_i hc
    show (match s.stk with | [] => none | t :: k => bif t.cls || t.is Bf then (CP d.max (d.cl x.arg) k).map fun k => (⟨s.loc ++ p, k⟩ : Bz) else none) = _
    split at h
    · cases h
    · rename_i a k e
      rw [e, hcl]
      show (bif a.cls || a.is Bf then (CP d.max (c.cl x.arg) k).map fun k => (⟨s.loc ++ p, k⟩ : Bz) else none) = _
      cases hb : a.cls || a.is Bf with
      | true => rw [hb] at h; exact key h
      | false => rw [hb] at h; cases h
  · rename_i hc
    show (match s.stk with | [] => none | t :: k => bif t.cls || t.is Bf then (CP d.max Et k).map fun k => (⟨s.loc ++ p, k⟩ : Bz) else none) = _
    split at h
    · cases h
    · rename_i a k e
      rw [e]
      show (bif a.cls || a.is Bf then (CP d.max Et k).map fun k => (⟨s.loc ++ p, k⟩ : Bz) else none) = _
      cases hb : a.cls || a.is Bf with
      | true => rw [hb] at h; exact key h
      | false => rw [hb] at h; cases h
  · rename_i hc
    show (match s.stk with | [] => none | t :: k => bif t.arr || t.is Bf then (CP d.max EN k).map fun k => (⟨s.loc ++ p, k⟩ : Bz) else none) = _
    split at h
    · cases h
    · rename_i a k e
      rw [e]
      show (bif a.arr || a.is Bf then (CP d.max EN k).map fun k => (⟨s.loc ++ p, k⟩ : Bz) else none) = _
      cases hb : a.arr || a.is Bf with
      | true => rw [hb] at h; exact key h
      | false => rw [hb] at h; cases h
  · obtain ⟨e, h1, h⟩ := Option.bind_eq_some_iff.1 h
    obtain ⟨k, h2, h⟩ := Option.bind_eq_some_iff.1 h
    rw [heff, h1]
    show ((EY d.fs e.1 s.stk).bind fun k => (ABl d.max e.2 k).map fun k => (⟨s.loc ++ p, k⟩ : Bz)) = _
    rw [hf, h2]
    obtain ⟨ps, o⟩ := e
    cases o with
    | none =>
      have h : some (⟨s.loc, k⟩ : Bz) = some t := h
      cases h; rfl
    | some u => exact key h
theorem zf {R : Ty -> Ty -> Prop} (h0 : ∀ a, R a a) : ∀ {l m : List Ty} (p : List Ty), WG R l m -> WG R (l ++ p) (m ++ p)
 | _, _, p, .nil => WG.refl h0 p
 | _, _, p, .cons h t => .cons h (zf h0 p t)
theorem AFJ {c d : Cx} {init : Bz} {A : Nat -> Option Bz} {dead : List Ins} (p : List Ty) (hf : d.fs = c.fs) (hp : d.pool = c.pool) (hr : d.ret = c.ret) (hm : c.max <= d.max) (hcode : d.code = c.code ++ dead)
    (hn0 : 0 < c.code.length) (hx : ∀ x ∈ c.code, (x.code = 3 ∨ x.code = 4) -> x.arg.toNat < init.loc.length) (h : Post c init A) :
    Post d ⟨init.loc ++ p, init.stk⟩ fun i => if i < c.code.length then (A i).bind fun s => if s.loc.length = init.loc.length then some ⟨s.loc ++ p, s.stk⟩ else none else none := by
  obtain ⟨⟨s0, h0, hl0⟩, hs⟩ := h
  have hn : c.code.length <= d.code.length := by rw [hcode, List.length_append]; omega
  refine ⟨⟨⟨s0.loc ++ p, s0.stk⟩, ?_, ?_⟩, fun i s hi hs' => ?_⟩
  · rw [if_pos hn0, h0]
    show (if s0.loc.length = init.loc.length then some (⟨s0.loc ++ p, s0.stk⟩ : Bz) else none) = _
    rw [if_pos hl0.1.len.symm]
  · rw [hf]; exact ⟨zf (fun a => .inr (Fq _ a)) p hl0.1, hl0.2⟩
  · by_cases hlt : i < c.code.length
    · rw [if_pos hlt] at hs'
      obtain ⟨s1, h1, h2⟩ := Option.bind_eq_some_iff.1 hs'
      by_cases hl1 : s1.loc.length = init.loc.length
      · rw [if_pos hl1] at h2
        cases h2
        obtain ⟨t, ht, hsucc⟩ := hs i s1 hlt h1
        have hat : d.at i = c.at i := by unfold Cx.at; rw [hcode, List.getElem?_append_left hlt]
        have hmem : c.at i ∈ c.code := by
          have e : c.at i = c.code[i] := by unfold Cx.at; rw [List.getElem?_eq_getElem hlt]; rfl
          rw [e]; exact List.getElem_mem hlt
        have htl : t.loc.length = init.loc.length := (qV ht).trans hl1
        refine ⟨⟨t.loc ++ p, t.stk⟩, ?_, fun j hj' => ?_⟩
        · rw [hat]; exact step_more hf hp hr hm (fun h => by rw [hl1]; exact hx _ hmem h) ht
        · rw [hat] at hj'
          obtain ⟨q1, u, q2, q3⟩ := hsucc j hj'
          refine ⟨by omega, ⟨u.loc ++ p, u.stk⟩, ?_, ?_⟩
          · rw [if_pos q1, q2]
            show (if u.loc.length = init.loc.length then some (⟨u.loc ++ p, u.stk⟩ : Bz) else none) = _
            rw [if_pos (q3.1.len.symm.trans htl)]
          · rw [hf]; exact ⟨zf (fun a => .inr (Fq _ a)) p q3.1, q3.2⟩
      · rw [if_neg hl1] at h2; cases h2
    · rw [if_neg hlt] at hs'; cases hs'
theorem vZ : ∀ (cs : List Fc) (fs : Tab) (s : St) (c : Fc), (∀ s c, DT fs s = some c -> c.nm = s) -> DT (WO fs cs) s = some c -> c.nm = s
  | [], _, _, _, h, e => h _ _ e
  | d :: cs, fs, s, c, h, e => vZ cs (Qd d.nm d fs) s c (fun s c e => by
      rw [Qy] at e
      by_cases hd : d.nm = s
      · rw [if_pos hd] at e; cases e; exact hd
      · rw [if_neg hd] at e; exact h s c e) e
theorem AHD {cs : List Fc} {s : St} {c : Fc} (e : DT (G5 cs) s = some c) : c.nm = s := vZ cs [] s c (fun _ _ h => by cases h) e
theorem VJ : ∀ (fls : List Fl) (acc : List (St × Fl)), SA acc fls = 0 -> ∀ f ∈ fls, KP f = true
 | [], _, _, _, h => by cases h
 | g :: fls, acc, e, f, h => by
  unfold SA at e
  cases hg : KP g with
  | false => rw [hg] at e; simp at e
  | true =>
   rw [hg] at e
   cases hl : (DT acc g.face.nm).isSome with
   | true => rw [hl] at e; simp at e
   | false =>
    rw [hl] at e
    rcases List.mem_cons.1 h with rfl | h
    ·exact hg
    ·exact VJ fls _ e f h
theorem ACY (t : Tab) : ∀ (fls : List Fl), link2 t fls = 0 -> ∀ f ∈ fls, UN t f.face.nm = 0
 | [], _, _, h => by cases h
 | g :: fls, e, f, h => by
  unfold link2 at e
  cases hg : UN t g.face.nm == 0 with
  | false =>
   rw [hg] at e
   have e : UN t g.face.nm = 0 := e
   rw [e] at hg; cases hg
  | true =>
   rw [hg] at e
   cases hp : ABq t g.pool with
   | false => rw [hp] at e; simp at e
   | true =>
    rw [hp] at e
    rcases List.mem_cons.1 h with rfl | h
    ·exact eq_of_beq hg
    ·exact ACY t fls e f h
theorem ABE {t : Tab} {s : St} (h : UN t s = 0) : (above t s).2 = true := by
 unfold UN at h
 cases hl : DT t s with
 | none => rw [hl] at h; simp at h
 | some c =>
  rw [hl] at h
  cases ha : (above t s).2 with
  | true => rfl
  | false =>
   simp only [ha] at h
   cases h0 : decide (s.1 = 0 /\ s.2 = 0) <;> rw [h0] at h <;> try (simp at h; done)
   cases h1 : aG ((DT t (lastOf (above t s).1)).getD EW).sup (above t s).1 <;> rw [h1] at h <;> simp at h
theorem Kt {fls : List Fl} (h : Io fls = 0) : fls.length <= 200 /\ SA [] fls = 0 /\ link2 (G5 (CJ fls)) fls = 0 := by
 unfold Io at h
 cases h1 : decide (200 < fls.length) with
 | true => rw [h1] at h; simp at h
 | false =>
  rw [h1] at h
  have h1 := of_decide_eq_false h1
  cases h2 : SA [] fls == 0 with
  | false =>
   rw [h2] at h
   have h : SA [] fls = 0 := h
   rw [h] at h2; cases h2
  | true =>
   rw [h2] at h
   exact ⟨by omega, eq_of_beq h2, h⟩
theorem x9 {fls : List Fl} {s : St} {c : Fc} (e : DT (G5 (CJ fls)) s = some c) : ∃ f ∈ fls, f.face = c /\ c.nm = s := by
 obtain ⟨f, hf, rfl⟩ := List.mem_map.1 (xu e)
 exact ⟨f, hf, rfl, AHD e⟩
theorem tV {fls : List Fl} (h : Io fls = 0) : Whole (G5 (CJ fls)) := fun s c e => by
 obtain ⟨-, -, h2⟩ := Kt h
 obtain ⟨f, hf, rfl, rfl⟩ := x9 e
 exact ABE (ACY _ _ h2 f hf)
theorem tH {fls : List Fl} (h : Io fls = 0) : Upper (G5 (CJ fls)) := fun s c e => by
 obtain ⟨-, h1, -⟩ := Kt h
 obtain ⟨f, hf, rfl, rfl⟩ := x9 e
 have := VJ _ _ h1 f hf
 unfold KP XK at this
 simp only [Bool.and_eq_true] at this
 exact this.1.1
theorem eX : ∀ (cs : List Fl) (fs : List (St × Fl)) (s : St) (c : Fl), DT (QI fs cs) s = some c -> (c ∈ cs /\ c.face.nm = s) ∨ DT fs s = some c
 | [], _, _, _, h => .inr h
 | d :: cs, fs, s, c, h => by
  rcases eX cs _ s c h with h | h
  ·exact .inl ⟨List.mem_cons_of_mem _ h.1, h.2⟩
  ·rw [Qy] at h
   split at h
   ·rename_i e; cases h; exact .inl ⟨List.mem_cons_self .., e⟩
   ·exact .inr h
theorem yA {fls : List Fl} {s : St} {f : Fl} (h : DT (Ns fls) s = some f) : f ∈ fls /\ f.face.nm = s := by
 rcases eX fls [] s f h with h | h
 ·exact h
 ·cases h
theorem ay : ∀ (cs : List Fl) (fs : List (St × Fl)) (s : St), (DT fs s).isSome = true ∨ s ∈ EH cs -> (DT (QI fs cs) s).isSome = true
  | [], _, _, h => h.resolve_right List.not_mem_nil
  | d :: cs, fs, s, h => ay cs _ s (by
      rw [Qy]
      by_cases e : d.face.nm = s
      · rw [if_pos e]; exact .inl rfl
      · rw [if_neg e]
        rcases h with h | h
        · exact .inl h
        · exact .inr ((List.mem_cons.1 h).resolve_left (Ne.symm e)))
theorem AD4 {fls : List Fl} {s : St} (h : s ∈ EH fls) : ∃ f, DT (Ns fls) s = some f := Option.isSome_iff_exists.1 (ay fls [] s (.inr h))
theorem yT {p : Pool} : ∀ {ms : List Dc} {bs : List Bd} (j : Nat) (m : Dc) (b : Bd), O7 p ms bs = true -> ms[j]? = some m -> bs[j]? = some b -> Xa p m b = true
 | [], _, _, _, _, _, h, _ => by simp at h
 | _ :: _, [], _, _, _, _, _, h => by simp at h
 | x :: ms, y :: bs, 0, m, b, h, h1, h2 => by
  simp only [List.getElem?_cons_zero, Option.some.injEq] at h1 h2
  subst h1; subst h2
  unfold O7 at h
  exact (Bool.and_eq_true .. ▸ h).1
 | x :: ms, y :: bs, j + 1, m, b, h, h1, h2 => by
  unfold O7 at h
  exact yT j m b (Bool.and_eq_true .. ▸ h).2 (by simpa using h1) (by simpa using h2)
theorem SX {f : Fl} (h : KP f = true) : f.bodies.length = f.face.ms.length /\ ∀ (j : Nat) (m : Dc) (bd : Bd), f.face.ms[j]? = some m -> f.bodies[j]? = some bd -> MZ f.pool m bd := by
 unfold KP at h
 simp only [Bool.and_eq_true, decide_eq_true_eq] at h
 exact ⟨h.2.2.1, fun j m bd h1 h2 => ADd (yT j m bd h.2.2.2 h1 h2)⟩
theorem AJ0 {fs : Tab} {K : Nat} (a : Po) (h : ∀ o ∈ a, AA9 fs K o <= K) : allH fs K a <= a.length * K := by
 unfold allH
 induction a with
 | nil => simp
 | cons o a ih =>
  have h1 := h o (List.mem_cons_self ..)
  have h2 := ih fun x hx => h x (List.mem_cons_of_mem _ hx)
  simp only [List.map_cons, List.sum_cons, List.length_cons, Nat.add_mul, Nat.one_mul]; omega
theorem ALx {fs : Tab} {f : Fl} {m : Dc} {bd : Bd} {c : St} (hw : Whole fs) (hu : Upper fs) (hfs : fs.length <= 200) (h : MZ f.pool m bd) : ∃ r, eH (cxF fs f m bd) (RD c m bd) r := by
 have hN : 0 < bd.code.length := by have := h.c0; omega
 have hlen : (RD c m bd).loc.length = bd.locals.toNat := by
  have h1 := nN c m
  have h2 := h.lo
  show (AAR c m ++ m.ps ++ List.replicate _ BP).length = _
  simp only [List.length_append, List.length_replicate]; omega
 have inv : Inv2 bd.locals.toNat bd.stack.toNat (at0 bd.code.length (RD c m bd)) := by
  refine ⟨fun i s hs => ?_, fun i s hs => ?_⟩
  ·rw [(jd hN hs).2]; exact hlen
  ·rw [(jd hN hs).2]; exact Nat.zero_le _
 have hl : (at0 bd.code.length (RD c m bd)).length = bd.code.length := AAY
 have AO7 : 2 * allH fs (J6 fs bd.locals.toNat bd.stack.toNat) (at0 bd.code.length (RD c m bd)) + [0].length < 20000000000 := by
  have h1 := AJ0 (fs := fs) (K := J6 fs bd.locals.toNat bd.stack.toNat) (at0 bd.code.length (RD c m bd)) fun o ho => by
   obtain ⟨i, hi⟩ := List.getElem?_of_mem ho
   cases o with
   | none => exact Nat.le_refl _
   | some s => exact Nat.le_of_lt (AEL (inv.loc i s hi) (inv.stk i s hi))
  rw [hl] at h1
  have h2 : J6 fs bd.locals.toNat bd.stack.toNat <= 287206 := by
   unfold J6
   have a1 := h.hi
   have a2 := h.s1
   have : (bd.locals.toNat + bd.stack.toNat) * (fs.length + 5) <= 1401 * 205 := Nat.mul_le_mul (by omega) (by omega)
   omega
  have h3 : bd.code.length * J6 fs bd.locals.toNat bd.stack.toNat <= 16384 * 287206 := Nat.mul_le_mul h.c1 h2
  show 2 * _ + 1 < _
  omega
 obtain ⟨r, hr⟩ := xw (c := cxF fs f m bd) hw hu (L := bd.locals.toNat) 20000000000 (at0 bd.code.length (RD c m bd)) [0] AO7 hl inv (fun i hi => by rw [List.mem_singleton.1 hi]; exact ⟨hN, _, ADm hN⟩)
 exact ⟨r, 20000000000, hr, by omega⟩
theorem AEz {fls : List Fl} (h : Io fls = 0) : (G5 (CJ fls)).length <= 200 := by
 have h1 := Z9 (CJ fls) []
 have h2 := (Kt h).1
 unfold G5
 rw [List.length_map] at h1
 simp only [List.length_nil, Nat.zero_add] at h1
 omega
def YZ (fls : List Fl) (R : Fl -> Nat -> Int) : Prop := ∀ f ∈ fls, ∀ (j : Nat) (m : Dc) (bd : Bd), f.face.ms[j]? = some m -> f.bodies[j]? = some bd -> eH (cxF (G5 (CJ fls)) f m bd) (RD f.face.nm m bd) (R f j)
theorem ABu {fls : List Fl} (h : Io fls = 0) : ∃ R, YZ fls R := by
 classical
 refine ⟨fun f j => if q : ∃ r, ∃ m bd, f.face.ms[j]? = some m /\ f.bodies[j]? = some bd /\ eH (cxF (G5 (CJ fls)) f m bd) (RD f.face.nm m bd) r then q.choose else 0, fun f hf j m bd h1 h2 => ?_⟩
 have hb := (SX (VJ _ _ (Kt h).2.1 f hf)).2 j m bd h1 h2
 obtain ⟨r, hr⟩ := ALx (c := f.face.nm) (tV h) (tH h) (AEz h) hb
 have q : ∃ r, ∃ m bd, f.face.ms[j]? = some m /\ f.bodies[j]? = some bd /\ eH (cxF (G5 (CJ fls)) f m bd) (RD f.face.nm m bd) r := ⟨r, m, bd, h1, h2, hr⟩
 simp only [dif_pos q]
 obtain ⟨m', bd', e1, e2, hr'⟩ := q.choose_spec
 rw [h1] at e1; rw [h2] at e2
 cases e1; cases e2
 exact hr'
theorem AIE {G : AL} (hG : U6 G) {H : Heap} {n m i : Nat} {fls : List Fl} (hl : Io fls = 0) {R : Fl -> Nat -> Int} (hR : YZ fls R) (hi : AJB G H n m i fls) {k : KV}
    (hk : ∀ H' n' b, m <= b -> Kb b H n H' n' -> AJB G H' n' m i fls -> k (.agg (V6 (Jb R (Ns fls) (EH fls)))) H' n') : Runs F G VG [.ptr i 0] H n k := by
  obtain ⟨t, a, b, fm, vn, h1, h2, h3, h4, h5, h6, h7, h8, h9, h10, h11⟩ := hi.is
  have hp := Kt hl
  refine AHg (R := R) hG h1 (by have := AEz hl; omega) h2 h3 h4 h5 h6 (by rw [List.length_map]; omega) (fun s hs => AD4 hs) (fun s f hf => ?_) fun H' n' f => ?_
  · obtain ⟨hm, -⟩ := yA hf
    obtain ⟨e1, e2⟩ := SX (VJ _ _ hp.2.1 f hm)
    exact ⟨e1, fun j m bd q1 q2 => ⟨e2 j m bd q1 q2, hR f hm j m bd q1 q2⟩⟩
  · have e := f.ke (G := G) h1.tab.seen
    refine hk H' n' b h10 f ⟨t, a, b, fm, vn, h1.kb f, h2.ke e (f.same _ h3 h4), Nat.lt_of_lt_of_le h3 f.le, h4, h5.ke h6 e, h6.mono f.le, h7, h8, h9, h10, h11⟩
def Rl (x y : Int) (dead : List Ins) (b : Bd) : Bd := ⟨min 401 (b.locals + y), min 1000 (b.stack + x), b.code ++ dead⟩
theorem AIO {g h : Nat -> Int} (hg : ∀ q, g q <= h q) {x : Ins} (e : Rn g x = true) : Rn h x = true := by
 unfold Rn at *
 rw [Bool.and_eq_true] at *
 refine ⟨e.1, ?_⟩
 cases hp : decide (eG x.code = 0) with
 | true => rw [hp] at e; exact e.2
 | false =>
  rw [hp] at e
  have e2 := e.2
  simp only [cond_false, Bool.and_eq_true, decide_eq_true_eq] at e2 ⊢
  have := hg (eG x.code)
  omega
theorem AGQ {p : Pool} {b d : Bd} (h1 : b.locals <= d.locals) (h2 : b.code.length <= d.code.length) (q : Nat) : mny p b q <= mny p d q := by
 unfold mny
 cases decide (q = 110) <;> cases decide (q = 99) <;> cases decide (q = 116) <;> cases decide (q = 102) <;> cases decide (q = 109) <;> cases decide (q = 108) <;> cases decide (q = 106) <;> simp only [cond_true, cond_false] <;> omega
theorem AF0 {p : Pool} {m : Dc} {b : Bd} {x y : Int} {dead : List Ins} (h : MZ p m b) (hx : 0 <= x) (hy : 0 <= y) (hl : b.code.length + dead.length <= 16384) (hd : ∀ i ∈ dead, ∀ g, Rn g i = true) : Xa p m (Rl x y dead b) = true := by
 have hlo := h.lo
 have hhi := h.hi
 have hs0 := h.s0
 have hs1 := h.s1
 have hc0 := h.c0
 unfold Xa Rl
 simp only [Bool.and_eq_true, Bool.not_eq_true', decide_eq_false_iff_not, List.all_eq_true, List.length_append]
 refine ⟨by omega, by omega, by omega, by omega, by omega, by omega, fun i hi => ?_⟩
 rcases List.mem_append.1 hi with hi | hi
 ·exact AIO (AGQ (show b.locals <= min 401 (b.locals + y) by omega) (show b.code.length <= (b.code ++ dead).length by rw [List.length_append]; omega)) (h.ins i hi)
 ·exact hd i hi _
theorem qZ {c : Cx} {init : Bz} {r : Int} (hw : Whole c.fs) (hu : Upper c.fs) (hn : 0 < c.code.length) (h : eH c init r) : (r < 0 ↔ ∃ A, Post c init A) := by
 obtain ⟨fuel, hr, -⟩ := h
 obtain ⟨h1, h2⟩ := AKK hw hu hn hr
 rw [<- h1]
 constructor
 ·intro hr
  by_cases e : r = -1
  ·exact e
  ·obtain ⟨j, hj, -⟩ := h2 e; omega
 ·intro e; omega
theorem AGw {fs : Tab} {f f' : Fl} {m : Dc} {b : Bd} {c : St} {x y r r' : Int} {dead : List Ins} (hw : Whole fs) (hu : Upper fs) (hp : f'.pool = f.pool) (h : MZ f.pool m b) (hx : 0 <= x) (hy : 0 <= y)
    (h1 : eH (cxF fs f m b) (RD c m b) r) (hr : r < 0) (h2 : eH (cxF fs f' m (Rl x y dead b)) (RD c m (Rl x y dead b)) r') : r' < 0 := by
  have hlo := h.lo
  have hhi := h.hi
  have hs1 := h.s1
  have hc0 := h.c0
  have hn : 0 < b.code.length := by omega
  have hlp := nN c m
  obtain ⟨A, hA⟩ := (qZ (c := cxF fs f m b) hw hu hn h1).1 hr
  have hlen : (RD c m b).loc.length = b.locals.toNat := by
    show (AAR c m ++ m.ps ++ List.replicate _ BP).length = _
    simp only [List.length_append, List.length_replicate]; omega
  refine (qZ (c := cxF fs f' m (Rl x y dead b)) hw hu (by show 0 < (b.code ++ dead).length; rw [List.length_append]; omega) h2).2 ?_
  have key := AFJ (c := cxF fs f m b) (d := cxF fs f' m (Rl x y dead b)) (dead := dead) (List.replicate ((Rl x y dead b).locals.toNat - b.locals.toNat) BP) rfl hp rfl (by show b.stack <= min 1000 (b.stack + x); omega) rfl hn (fun i hi hc => ?_) hA
  · have e : (⟨(RD c m b).loc ++ List.replicate ((Rl x y dead b).locals.toNat - b.locals.toNat) BP, (RD c m b).stk⟩ : Bz) = RD c m (Rl x y dead b) := by
      have hge : b.locals <= (Rl x y dead b).locals := by show b.locals <= min 401 (b.locals + y); omega
      show (⟨AAR c m ++ m.ps ++ List.replicate _ BP ++ List.replicate _ BP, []⟩ : Bz) = ⟨AAR c m ++ m.ps ++ List.replicate _ BP, []⟩
      rw [List.append_assoc, List.replicate_append_replicate]
      congr 3; omega
    rw [e] at key
    exact ⟨_, key⟩
  · obtain ⟨cc, j, hxx, hin⟩ := ACB (h.ins i hi)
    rw [hlen, hxx]
    refine hin.lc ?_
    rw [hxx] at hc
    rcases hc with hc | hc
    · left; have : (cc : Int) = 3 := hc; omega
    · right; have : (cc : Int) = 4 := hc; omega
theorem AFe {α β : Type} (s : St) (v : α) (w : β) : ∀ {ps : List (St × α)} {qs : List (St × β)}, ps.map (·.1) = qs.map (·.1) -> (Qd s v ps).map (·.1) = (Qd s w qs).map (·.1) := fun h => bI s v w h
theorem AIN {α β : Type} {ps : List (St × α)} {qs : List (St × β)} (h : ps.map (·.1) = qs.map (·.1)) (s : St) : (DT ps s).isSome = (DT qs s).isSome := VE h s
theorem sS : ∀ (l l' : List Fl) (a a' : List (St × Fl)), EH l = EH l' -> a.map (·.1) = a'.map (·.1) -> (∀ f ∈ l', KP f = true) -> SA a l = 0 -> SA a' l' = 0
 | [], [], _, _, _, _, _, _ => rfl
 | [], _ :: _, _, _, h, _, _, _ => by cases h
 | _ :: _, [], _, _, h, _, _, _ => by cases h
 | f :: l, g :: l', a, a', hn, hk, ho, h => by
  have hn1 : f.face.nm = g.face.nm := (List.cons.inj hn).1
  have hn2 : EH l = EH l' := (List.cons.inj hn).2
  unfold SA at h ⊢
  rw [ho g (List.mem_cons_self ..)]
  cases hf : KP f with
  | false => rw [hf] at h; simp at h
  | true =>
   rw [hf] at h
   rw [<- hn1, <- AIN hk]
   cases hl : (DT a f.face.nm).isSome with
   | true => rw [hl] at h; simp at h
   | false =>
    rw [hl] at h
    exact sS l l' _ _ hn2 (AFe _ _ _ hk) (fun x hx => ho x (List.mem_cons_of_mem _ hx)) h
theorem uJ (t : Tab) : ∀ (l l' : List Fl), EH l = EH l' -> l.map (·.pool) = l'.map (·.pool) -> link2 t l = link2 t l'
 | [], [], _, _ => rfl
 | [], _ :: _, h, _ => by cases h
 | _ :: _, [], h, _ => by cases h
 | f :: l, g :: l', hn, hp => by
  have hn1 : f.face.nm = g.face.nm := (List.cons.inj hn).1
  have hp1 : f.pool = g.pool := (List.cons.inj hp).1
  unfold link2
  rw [hn1, hp1, uJ t l l' (List.cons.inj hn).2 (List.cons.inj hp).2]
theorem ADL {l l' : List Fl} (hf : CJ l = CJ l') (hp : l.map (·.pool) = l'.map (·.pool)) (ho : ∀ f ∈ l', KP f = true) (h : Io l = 0) : Io l' = 0 := by
 obtain ⟨h1, h2, h3⟩ := Kt h
 have hn : EH l = EH l' := by
  have := congrArg (List.map Fc.nm) hf
  rw [List.map_map, List.map_map] at this; exact this
 have hl : l.length = l'.length := by have := congrArg List.length hf; simpa using this
 unfold Io
 rw [decide_eq_false (by omega), sS l l' [] [] hn rfl ho h2, <- hf, <- uJ _ l l' hn hp, h3]
 rfl
theorem vJ : ∀ (l : List Fl) (a : List (St × Fl)) (s : St) (f : Fl), SA a l = 0 -> DT a s = some f -> DT (QI a l) s = some f
 | [], _, _, _, _, h => h
 | g :: l, a, s, f, e, h => by
  unfold SA at e
  cases hg : KP g with
  | false => rw [hg] at e; simp at e
  | true =>
   rw [hg] at e
   cases hl : (DT a g.face.nm).isSome with
   | true => rw [hl] at e; simp at e
   | false =>
    rw [hl] at e
    refine vJ l _ s f e ?_
    rw [Qy]
    by_cases hs : g.face.nm = s
    ·rw [hs, h] at hl; cases hl
    ·rw [if_neg hs]; exact h
theorem yF : ∀ (l : List Fl) (a : List (St × Fl)) (f : Fl), SA a l = 0 -> f ∈ l -> DT (QI a l) f.face.nm = some f
 | [], _, _, _, h => by cases h
 | g :: l, a, f, e, h => by
  unfold SA at e
  cases hg : KP g with
  | false => rw [hg] at e; simp at e
  | true =>
   rw [hg] at e
   cases hl : (DT a g.face.nm).isSome with
   | true => rw [hl] at e; simp at e
   | false =>
    rw [hl] at e
    rcases List.mem_cons.1 h with rfl | h
    ·exact vJ l _ _ _ e (by rw [Qy, if_pos rfl])
    ·exact yF l _ f e h
theorem aA {R : Nat -> Int} : ∀ {ms : List Dc} {j : Nat}, firstM R ms j = none ↔ ∀ i, i < ms.length -> R (j + i) < 0
 | [], j => by simp [firstM]
 | m :: ms, j => by
  unfold firstM
  cases h : decide (0 <= R j) with
  | true =>
   have h := of_decide_eq_true h
   simp only [cond_true]
   constructor
   ·intro h; cases h
   ·intro h2; have := h2 0 (by simp); simp only [Nat.add_zero] at this; omega
  | false =>
   have h := of_decide_eq_false h
   rw [cond_false, aA]
   constructor
   ·intro h2 i hi
    cases i with
    | zero => simp only [Nat.add_zero]; omega
    | succ i => have := h2 i (by simpa using hi); rw [show j + (i + 1) = j + 1 + i by omega]; exact this
   ·intro h2 i hi
    have := h2 (i + 1) (by simpa using hi)
    rw [show j + 1 + i = j + (i + 1) by omega]; exact this
theorem aU {R : Fl -> Nat -> Int} {ff : List (St × Fl)} : ∀ {ss : List St}, Jb R ff ss = none ↔ ∀ s ∈ ss, ∀ f, DT ff s = some f -> firstM (R f) f.face.ms 0 = none
 | [] => by simp [Jb]
 | s :: ss => by
  unfold Jb
  cases hl : DT ff s with
  | none =>
   simp only
   rw [aU]
   constructor
   ·intro h x hx f hf
    rcases List.mem_cons.1 hx with rfl | hx
    ·rw [hl] at hf; cases hf
    ·exact h x hx f hf
   ·intro h x hx; exact h x (List.mem_cons_of_mem _ hx)
  | some f =>
   simp only
   cases hm : firstM (R f) f.face.ms 0 with
   | some p =>
    simp only
    constructor
    ·intro h; cases h
    ·intro h; have := h s (List.mem_cons_self ..) f hl; rw [hm] at this; cases this
   | none =>
    simp only
    rw [aU]
    constructor
    ·intro h x hx g hg
     rcases List.mem_cons.1 hx with rfl | hx
     ·rw [hl] at hg; cases hg; exact hm
     ·exact h x hx g hg
    ·intro h x hx; exact h x (List.mem_cons_of_mem _ hx)
theorem jc {p : Pool} : ∀ {ms : List Dc} {bs : List Bd}, (∀ (j : Nat) (m : Dc) (b : Bd), ms[j]? = some m -> bs[j]? = some b -> Xa p m b = true) -> O7 p ms bs = true
 | [], _, _ => rfl
 | _ :: _, [], _ => rfl
 | m :: ms, b :: bs, h => by
  unfold O7
  rw [h 0 m b rfl rfl, jc fun j x y h1 h2 => h (j + 1) x y (by simpa using h1) (by simpa using h2)]; rfl
structure More (x y : Int) (dead : List Ins) (f f' : Fl) : Prop where
 face : f'.face = f.face
 pool : f'.pool = f.pool
 bodies : f'.bodies = f.bodies.map (Rl x y dead)
theorem More.ok {x y : Int} {dead : List Ins} {f f' : Fl} (h : More x y dead f f') (hx : 0 <= x) (hy : 0 <= y) (hc : ∀ b ∈ f.bodies, b.code.length <= 60) (hl : dead.length <= 20) (hd : ∀ i ∈ dead, ∀ g, Rn g i = true) (ho : KP f = true) : KP f' = true := by
 have hb := (SX ho).2
 unfold KP at *
 simp only [Bool.and_eq_true, decide_eq_true_eq] at *
 rw [h.face, h.pool, h.bodies]
 refine ⟨ho.1, ho.2.1, by rw [List.length_map]; exact ho.2.2.1, jc fun j m b h1 h2 => ?_⟩
 rw [List.getElem?_map] at h2
 obtain ⟨b0, h3, rfl⟩ := Option.map_eq_some_iff.1 h2
 have := hc b0 (List.mem_of_getElem? h3)
 exact AF0 (hb j m b0 h1 h3) hx hy (by omega) hd
theorem rW {α β : Type} (g : α -> β) : ∀ {l : List α} {i : Nat} {a b : α}, l[i]? = some a -> g b = g a -> (l.set i b).map g = l.map g
 | [], _, _, _, h, _ => by simp at h
 | _ :: _, 0, a, b, h, e => by
  simp only [List.getElem?_cons_zero, Option.some.injEq] at h
  subst h
  simp only [List.set_cons_zero, List.map_cons, e]
 | _ :: l, i + 1, a, b, h, e => by
  simp only [List.set_cons_succ, List.map_cons, rW g (l := l) (by simpa using h) e]
theorem AC2 {l : List Fl} {idx : Nat} {f f' : Fl} {x y : Int} {dead : List Ins} {R : Fl -> Nat -> Int} (hl : Io l = 0) (hR : YZ l R) (hn : Jb R (Ns l) (EH l) = none) (hi : l[idx]? = some f) (h : More x y dead f f') (hx : 0 <= x) (hy : 0 <= y)
    (hc : ∀ b ∈ f.bodies, b.code.length <= 60) (hdl : dead.length <= 20) (hd : ∀ i ∈ dead, ∀ g, Rn g i = true) :
    Io (l.set idx f') = 0 /\ ∀ R', YZ (l.set idx f') R' -> Jb R' (Ns (l.set idx f')) (EH (l.set idx f')) = none := by
  obtain ⟨h1, h2, h3⟩ := Kt hl
  have hok := VJ _ _ h2
  have hf : f ∈ l := List.mem_of_getElem? hi
  have ADp : CJ (l.set idx f') = CJ l := rW (fun f : Fl => f.face) hi h.face
  have AMz : (l.set idx f').map (·.pool) = l.map (·.pool) := rW (fun f : Fl => f.pool) hi h.pool
  have hl' : Io (l.set idx f') = 0 := ADL ADp.symm AMz.symm (fun g hg => by
    rcases List.mem_or_eq_of_mem_set hg with hg | rfl
    · exact hok g hg
    · exact h.ok hx hy hc hdl hd (hok f hf)) hl
  refine ⟨hl', fun R' hR' => ?_⟩
  have hw := tV hl
  have hu := tH hl
  rw [aU] at hn ⊢
  have neg : ∀ g ∈ l, ∀ j, j < g.face.ms.length -> R g j < 0 := fun g hg j hj => by
    have := aA.1 (hn g.face.nm (List.mem_map.2 ⟨g, hg, rfl⟩) g (yF l [] g h2 hg)) j hj
    rwa [Nat.zero_add] at this
  intro s hs g hg
  obtain ⟨hgm, -⟩ := yA hg
  rw [aA]
  intro j hj
  rw [Nat.zero_add]
  rcases List.mem_or_eq_of_mem_set hgm with hgl | rfl
  · obtain ⟨e1, e2⟩ := SX (hok g hgl)
    have hjb : j < g.bodies.length := by omega
    have q1 := List.getElem?_eq_getElem hj
    have q2 := List.getElem?_eq_getElem hjb
    have hb := e2 j _ _ q1 q2
    have r1 := hR g hgl j _ _ q1 q2
    have r2 := hR' g hgm j _ _ q1 q2
    rw [ADp] at r2
    have hpos : 0 < (g.bodies[j]).code.length := by have := hb.c0; omega
    exact (qZ (c := cxF (G5 (CJ l)) g g.face.ms[j] g.bodies[j]) hw hu hpos r2).2 ((qZ (c := cxF (G5 (CJ l)) g g.face.ms[j] g.bodies[j]) hw hu hpos r1).1 (neg g hgl j hj))
  · obtain ⟨e1, e2⟩ := SX (hok f hf)
    have hj' : j < f.face.ms.length := by rw [<- h.face]; exact hj
    have hjb : j < f.bodies.length := by omega
    have q1 := List.getElem?_eq_getElem hj'
    have q2 := List.getElem?_eq_getElem hjb
    have hb := e2 j _ _ q1 q2
    have r1 := hR f hf j _ _ q1 q2
    have r2 := hR' g hgm j (f.face.ms[j]) (Rl x y dead f.bodies[j]) (by rw [h.face]; exact q1) (by rw [h.bodies, List.getElem?_map, q2]; rfl)
    rw [ADp, h.face] at r2
    exact AGw (f := f) (f' := g) hw hu h.pool hb hx hy r1 (neg f hf j hj') r2
def AFD : List Nat := [5, 31, 2, 29, 14, 30]
def xg (i : Nat) : Ins := ⟨.ofNat (AFD.getD i 0), 0⟩
theorem AJj {i : Nat} (h : i < 6) (g : Nat -> Int) : Rn g (xg i) = true := by
 obtain rfl | rfl | rfl | rfl | rfl | rfl : i = 0 ∨ i = 1 ∨ i = 2 ∨ i = 3 ∨ i = 4 ∨ i = 5 := by omega
 all_goals rfl
def qC (x : Int) : Nat := (Int.tmod (Int.tmod x 6 + 6) 6).toNat
theorem AFA (x : Int) : B2.ev .rem (.int .i64 x 0) (.int .i64 (.ofNat 6) 0) = some (.int .i64 (Int.tmod x 6) 0) /\ B2.ev .add (.int .i64 (Int.tmod x 6) 0) (.int .i64 (.ofNat 6) 0) = some (.int .i64 (Int.tmod x 6 + 6) 0) /\ B2.ev .rem (.int .i64 (Int.tmod x 6 + 6) 0) (.int .i64 (.ofNat 6) 0) = some (.int .i64 (.ofNat (qC x)) 0) /\ qC x < 6 := by
 have APp : ∀ y : Int, B2.ev .rem (.int .i64 y 0) (.int .i64 (.ofNat 6) 0) = some (.int .i64 (Int.tmod y 6) 0) := fun y => by
  show BD (band true (band true (Vd (ieq (.ofNat 6) 0)))) (mkN .i64 (Int.tmod y (.ofNat 6)) 0) = _
  have : ieq (.ofNat 6) 0 = false := by rw [QX]; rfl
  rw [this]
  show Oa (Int.tmod y (.ofNat 6)) (fun m => some (.int .i64 m 0)) = _
  rw [PY]; rfl
 have hlt : Int.tmod x 6 < 6 := Int.tmod_lt_of_pos x (by omega)
 have hgt : -6 < Int.tmod x 6 := by
  have := Int.tmod_lt_of_pos (-x) (show (0 : Int) < 6 by omega)
  rw [Int.neg_tmod] at this; omega
 refine ⟨APp x, ?_, ?_, ?_⟩
 ·show some (V.int .i64 (Xo .i64 (uO (Int.tmod x 6) (.ofNat 6))) 0) = _
  rw [Qx, bJ]
  have e : Int.tmod x 6 + Int.ofNat 6 = Int.tmod x 6 + 6 := rfl
  rw [e, U9 (by omega) (by omega)]
 ·have := Int.tmod_nonneg 6 (show (0 : Int) <= Int.tmod x 6 + 6 by omega)
  rw [APp, show Int.tmod (Int.tmod x 6 + 6) 6 = Int.ofNat (qC x) by show _ = ((Int.tmod (Int.tmod x 6 + 6) 6).toNat : Int); omega]
 ·have := Int.tmod_lt_of_pos (Int.tmod x 6 + 6) (show (0 : Int) < 6 by omega)
  unfold qC; omega
theorem AEn {G : AL} {H : Heap} {n : Nat} {v : V} {c : Fc} (h : Qe G H n v c) {k : KV} (hk : ∀ r H' n', Kp H n H' n' -> k (.bool r) H' n') : Runs F G UL [v] H n k := by
 refine BM (s := Jf (MW lfp G)) Si (by obtain ⟨h, o⟩ := X9 BL G; rw [Si] at h; cases h; exact o) ?_
 show MW lfp G (Runs F G) v H n k
 obtain ⟨vf, vm, ws, h, rfl⟩ := h
 delta MW
 refine Iu fun H1 f1 g1 => ?_
 have hf1 := h.fs.kp f1
 have hm1 := h.ms.kp f1
 have hbig := hf1.lt
 have hbig2 := hm1.lt
 simp only [go_sem, Nat.reduceAdd, AU (off := 2) g1 (v := vf) rfl, hf1.len, FY]
 cases h1 : decide (12 < c.fs.length) with
 | true => simp only [go_sem]; exact hk _ _ _ f1
 | false =>
 simp only [go_sem, Nat.reduceAdd, AU (off := 3) g1 (v := vm) rfl, hm1.len', FY]
 cases h2 : decide (12 < c.ms.length) with
 | true => simp only [go_sem]; exact hk _ _ _ f1
 | false =>
 simp only [go_sem, Nat.reduceAdd, AU (off := 0) g1 (v := c.nm.v) rfl, WJ, FY]
 cases h3 : decide (60 < c.nm.1) with
 | true => simp only [go_sem]; exact hk _ _ _ f1
 | false =>
 simp only [go_sem, Nat.reduceAdd, AU (off := 1) g1 (v := c.sup.v) rfl, WJ, FY]
 cases h4 : decide (60 < c.sup.1) with
 | true => simp only [go_sem]; exact hk _ _ _ f1
 | false =>
 simp only [go_sem, Nat.reduceAdd, AU (off := 2) g1 (v := vf) rfl, hf1.len]
 refine BR (N := c.fs.length) (J := fun j q => ∃ H' n', q = (.ptr n 0, vf, .int .i64 (.ofNat c.fs.length) 0, .int .i64 (.ofNat j) 0, H', n') /\ Kp H1 (n + 1) H' n') ?_ ?_ ⟨H1, _, rfl, Kp.refl _ _⟩
 ·rintro I j q hlt ⟨H3, n3, rfl, f3⟩ ih
  show Gu lfp G (Runs F G) k I (.ptr n 0) vf (.int .i64 (.ofNat c.fs.length) 0) (.int .i64 (.ofNat j) 0) H3 n3
  delta Gu
  obtain ⟨q, hp, hld⟩ := (hf1.kp f3).at hlt
  generalize c.fs[j] = m at hld
  unfold wo.cells at hld
  have h3n := f3.le
  simp only [go_sem, BI, hlt, decide_true, hp, CB hld, Nat.reduceAdd, WJ, FY]
  rw [T.set_set]
  have f4 := f3.new (m := n3 + 1) (id := n3) (one [m.nm.v, m.ty.nm.v, .bool m.ty.arr]) f3.le (by omega)
  have g4 := T.Ac H3 n3 (one [m.nm.v, m.ty.nm.v, .bool m.ty.arr])
  generalize T.set H3 n3 (one [m.nm.v, m.ty.nm.v, .bool m.ty.arr]) = H4 at f4 g4
  cases h1 : decide (60 < m.nm.1) with
  | true => simp only [go_sem]; exact hk _ _ _ (f1.trans f4)
  | false =>
  simp only [go_sem, Nat.reduceAdd, AU (off := 1) g4 (v := m.ty.nm.v) rfl, WJ, FY]
  cases h1 : decide (60 < m.ty.nm.1) with
  | true => simp only [go_sem]; exact hk _ _ _ (f1.trans f4)
  | false =>
  simp only [go_sem, DF (show j + 1 < 9223372036854775808 by unfold big at hbig; omega)]
  exact ih _ ⟨_, _, rfl, f4⟩
 rintro I q ⟨H3, n3, rfl, f3⟩
 show Gu lfp G (Runs F G) k I (.ptr n 0) vf (.int .i64 (.ofNat c.fs.length) 0) (.int .i64 (.ofNat c.fs.length) 0) H3 n3
 delta Gu
 have hm3 := hm1.kp f3
 simp only [go_sem, BI, Nat.lt_irrefl, decide_false]
 delta Ox
 simp only [go_sem, Nat.reduceAdd, AU (off := 3) (f3.get g1 (by omega)) (v := vm) rfl, hm3.len']
 refine BR (N := c.ms.length) (J := fun j q => ∃ H' n', q = (vm, .int .i64 (.ofNat c.ms.length) 0, .int .i64 (.ofNat j) 0, H', n') /\ Kp H1 (n + 1) H' n') ?_ ?_ ⟨H3, _, rfl, f3⟩
 ·rintro I j q hlt ⟨H3, n3, rfl, f3⟩ ih
  show HY lfp G (Runs F G) k I vm (.int .i64 (.ofNat c.ms.length) 0) (.int .i64 (.ofNat j) 0) H3 n3
  delta HY
  obtain ⟨q, w, hp, hld, hw⟩ := (hm1.kp f3).at hlt
  generalize c.ms[j] = m at hld hw
  unfold Dc.cells at hld
  have h3n := f3.le
  simp only [go_sem, BI, hlt, decide_true, hp, CB hld, Nat.reduceAdd, WJ, FY]
  rw [T.set_set]
  have f4' : Kp H3 n3 (T.set H3 n3 (one [m.nm.v, .bool m.st, w, m.ret.nm.v, .bool m.ret.arr])) (n3 + 1) := (Kp.refl _ _).new _ (Nat.le_refl _) (by omega)
  have g4 := T.Ac H3 n3 (one [m.nm.v, .bool m.st, w, m.ret.nm.v, .bool m.ret.arr])
  generalize T.set H3 n3 (one [m.nm.v, .bool m.st, w, m.ret.nm.v, .bool m.ret.arr]) = H4 at f4' g4
  have f4 := f3.trans f4'
  have hw4 := hw.kp f4'
  cases h1 : decide (60 < m.nm.1) with
  | true => simp only [go_sem]; exact hk _ _ _ (f1.trans f4)
  | false =>
  simp only [go_sem, Nat.reduceAdd, AU (off := 3) g4 (v := m.ret.nm.v) rfl, WJ, FY]
  cases h1 : decide (60 < m.ret.nm.1) with
  | true => simp only [go_sem]; exact hk _ _ _ (f1.trans f4)
  | false =>
  simp only [go_sem, Nat.reduceAdd, AU (off := 2) g4 (v := w) rfl, hw4.len, FY]
  cases h1 : decide (10 < m.ps.length) with
  | true => simp only [go_sem]; exact hk _ _ _ (f1.trans f4)
  | false =>
  simp only [go_sem, Nat.reduceAdd, AU (off := 2) g4 (v := w) rfl, hw4.len]
  have hbig3 := hw4.lt
  refine BR (N := m.ps.length) (J := fun i q => ∃ H' n', q = (vm, .int .i64 (.ofNat c.ms.length) 0, .int .i64 (.ofNat j) 0, w, .int .i64 (.ofNat m.ps.length) 0, .int .i64 (.ofNat i) 0, H', n') /\ Kp H4 (n3 + 1) H' n') ?_ ?_ ⟨H4, _, rfl, Kp.refl _ _⟩
  ·rintro I2 i q hlt ⟨H5, n5, rfl, f5⟩ ih2
   show Gq lfp G (Runs F G) k I I2 vm (.int .i64 (.ofNat c.ms.length) 0) (.int .i64 (.ofNat j) 0) w (.int .i64 (.ofNat m.ps.length) 0) (.int .i64 (.ofNat i) 0) H5 n5
   delta Gq
   obtain ⟨q, hp, hld⟩ := (hw4.kp f5).el.at (Qp hlt)
   generalize m.ps[i] = t at hld
   unfold Ty.cells at hld
   simp only [go_sem, BI, hlt, decide_true, hp, CB hld, Nat.reduceAdd, WJ, FY]
   rw [T.set_set]
   have f6 := f5.new (m := n5 + 1) (id := n5) (one [t.nm.v, .bool t.arr]) f5.le (by omega)
   cases h1 : decide (60 < t.nm.1) with
   | true => simp only [go_sem]; exact hk _ _ _ (f1.trans (f4.trans f6))
   | false =>
   simp only [go_sem, DF (show i + 1 < 9223372036854775808 by unfold big at hbig3; omega)]
   exact ih2 _ ⟨_, _, rfl, f6⟩
  ·rintro I2 q ⟨H5, n5, rfl, f5⟩
   show Gq lfp G (Runs F G) k I I2 vm (.int .i64 (.ofNat c.ms.length) 0) (.int .i64 (.ofNat j) 0) w (.int .i64 (.ofNat m.ps.length) 0) (.int .i64 (.ofNat m.ps.length) 0) H5 n5
   delta Gq
   simp only [go_sem, BI, Nat.lt_irrefl, decide_false]
   delta O5
   simp only [go_sem, DF (show j + 1 < 9223372036854775808 by unfold big at hbig2; omega)]
   exact ih _ ⟨_, _, rfl, f4.trans f5⟩
 ·rintro I q ⟨H3, n3, rfl, f3⟩
  show HY lfp G (Runs F G) k I vm (.int .i64 (.ofNat c.ms.length) 0) (.int .i64 (.ofNat c.ms.length) 0) H3 n3
  delta HY
  simp only [go_sem, BI, Nat.lt_irrefl, decide_false]
  delta Ov
  exact hk _ _ _ (f1.trans f3)
theorem add_any (a b : Int) : ∃ c, B2.ev .add (.int .i64 a 0) (.int .i64 b 0) = some (.int .i64 c 0) := ⟨Xo .i64 (uO a b), rfl⟩
section
variable {G : AL} {H0 H : Heap} {n0 n e : Nat} {p : Pool} {bs : List Bd} {c0 c1 c2 c3 v0 v1 v2 v3 v4 vb : V} {ws bws : List V} {k : KV}
end
end Go.RL
namespace Go.RL
open Go.Ba
set_option maxRecDepth 100000
section
variable {G : AL} {H0 H : Heap} {n0 n e : Nat} {p : Pool} {bs : List Bd} {c0 c1 c2 c3 v0 v1 v2 v3 v4 vb : V} {ws bws : List V} {k : KV}
theorem su (hb : GV G H n vb bs bws) (ge : T.get H e = some (one [c0, c1, c2, c3, v0, v1, v2, v3, v4, vb])) (hk : ∀ r H' n', Kp H n H' n' -> (r = true -> ∀ b ∈ bs, b.code.length <= 60) -> k (.bool r) H' n') :
    Jw lfp G (Runs F G) k (.ptr e 0) H n := by
  delta Jw
  have hbig := hb.lt
  have l4 : lenV vb = some (.int .i64 (.ofNat bs.length) 0) := by rw [hb.el.len, List.length_zipWith, hb.len, Nat.min_self]
  simp only [go_sem, Nat.reduceAdd, AU (off := 9) ge (v := vb) rfl, l4]
  refine BR (N := bs.length) (J := fun j q => ∃ H' n', q = (vb, .int .i64 (.ofNat bs.length) 0, .int .i64 (.ofNat j) 0, H', n') /\ Kp H n H' n' /\ ∀ (i : Nat) (b : Bd), i < j -> bs[i]? = some b -> b.code.length <= 60) ?_ ?_ ⟨H, _, rfl, Kp.refl _ _, fun _ _ h => absurd h (Nat.not_lt_zero _)⟩
  · rintro I j q hlt ⟨H3, n3, rfl, f3, hall⟩ ih
    show G6 lfp G (Runs F G) k I vb (.int .i64 (.ofNat bs.length) 0) (.int .i64 (.ofNat j) 0) H3 n3
    delta G6
    have hb3 := hb.kp f3
    have hw : j < bws.length := by rw [hb.len]; exact hlt
    obtain ⟨q, hp', hld⟩ := hb3.el.at (i := j) (c := bs[j].cells bws[j]) (by rw [List.getElem?_zipWith]; simp [hlt, hw])
    have hc := hb3.at' j _ _ (List.getElem?_eq_getElem hlt) (List.getElem?_eq_getElem hw)
    have hget := List.getElem?_eq_getElem hlt
    generalize bs[j] = m at hld hc hget
    generalize bws[j] = w at hld hc
    unfold Bd.cells at hld
    have lw : lenV w = some (.int .i64 (.ofNat m.code.length) 0) := by rw [hc.el.len, List.length_map]
    simp only [go_sem, Nat.reduceAdd, BI, hlt, decide_true, hp', CB hld, lw, FY]
    rw [T.set_set]
    have f4 := f3.new (m := n3 + 1) (id := n3) (one [.int .i64 m.locals 0, .int .i64 m.stack 0, w]) f3.le (by omega)
    cases h1 : decide (60 < m.code.length) with
    | true => simp only [go_sem]; exact hk _ _ _ f4 (fun h => by cases h)
    | false =>
    simp only [go_sem, DF (show j + 1 < 9223372036854775808 by unfold big at hbig; omega)]
    refine ih _ ⟨_, _, rfl, f4, fun i b hi hb => ?_⟩
    rcases Nat.lt_or_ge i j with h | h
    · exact hall i b h hb
    · have : i = j := by omega
      subst this
      rw [hget] at hb
      cases hb
      have h1 := of_decide_eq_false h1
      omega
  · rintro I q ⟨H3, n3, rfl, f3, hall⟩
    show G6 lfp G (Runs F G) k I vb (.int .i64 (.ofNat bs.length) 0) (.int .i64 (.ofNat bs.length) 0) H3 n3
    delta G6
    simp only [go_sem, BI, Nat.lt_irrefl, decide_false]
    delta O4
    refine hk _ _ _ f3 fun _ b hb => ?_
    obtain ⟨i, hi⟩ := List.getElem?_of_mem hb
    exact hall i b (List.getElem?_eq_some_iff.1 hi).1 hi
theorem wZ (h : Fz G H n p v0 v1 v2 v3 v4 ws) (hb : GV G H n vb bs bws) (he : e < n) (ge : T.get H e = some (one [c0, c1, c2, c3, v0, v1, v2, v3, v4, vb])) (hk : ∀ r H' n', Kp H n H' n' -> (r = true -> ∀ b ∈ bs, b.code.length <= 60) -> k (.bool r) H' n') :
    Jq lfp G (Runs F G) k (.ptr e 0) H n := by
  delta Jq
  have hbig := h.b4
  have l4 : lenV v4 = some (.int .i64 (.ofNat p.CO.length) 0) := by rw [h.e4.len, List.length_zipWith, h.qF, Nat.min_self]
  simp only [go_sem, Nat.reduceAdd, AU (off := 8) ge (v := v4) rfl, l4]
  refine BR (N := p.CO.length) (J := fun j q => ∃ H' n', q = (.ptr e 0, v4, .int .i64 (.ofNat p.CO.length) 0, .int .i64 (.ofNat j) 0, H', n') /\ Kp H n H' n') ?_ ?_ ⟨H, _, rfl, Kp.refl _ _⟩
  · rintro I j q hlt ⟨H3, n3, rfl, f3⟩ ih
    show Hl lfp G (Runs F G) k I (.ptr e 0) v4 (.int .i64 (.ofNat p.CO.length) 0) (.int .i64 (.ofNat j) 0) H3 n3
    delta Hl
    have h3 := h.kp f3
    have h3n := f3.le
    have hw : j < ws.length := by rw [h.qF]; exact hlt
    obtain ⟨q, hp', hld⟩ := h3.e4.at (i := j) (c := p.CO[j].cells ws[j]) (by rw [List.getElem?_zipWith]; simp [hlt, hw])
    have hty := h3.at4 j _ _ (List.getElem?_eq_getElem hlt) (List.getElem?_eq_getElem hw)
    have hok := h3.o4 _ (List.getElem_mem hlt)
    generalize p.CO[j] = m at hld hty hok
    generalize ws[j] = w at hld hty
    unfold PM.cells at hld
    simp only [go_sem, Nat.reduceAdd, BI, hlt, decide_true, hp', CB hld, WJ, FY]
    rw [T.set_set]
    have f4' : Kp H3 n3 (T.set H3 n3 (one [m.m.nm.v, .bool m.m.st, w, m.m.ret.nm.v, .bool m.m.ret.arr, m.own.v])) (n3 + 1) := (Kp.refl _ _).new _ (Nat.le_refl _) (by omega)
    have g4 := T.Ac H3 n3 (one [m.m.nm.v, .bool m.m.st, w, m.m.ret.nm.v, .bool m.m.ret.arr, m.own.v])
    generalize T.set H3 n3 (one [m.m.nm.v, .bool m.m.st, w, m.m.ret.nm.v, .bool m.m.ret.arr, m.own.v]) = H4 at f4' g4
    have f4 := f3.trans f4'
    cases h1 : decide (60 < m.own.1) with
    | true => simp only [go_sem]; exact hk _ _ _ f4 (fun h => by cases h)
    | false =>
    simp only [go_sem, Nat.reduceAdd, show Ae 5 (.ptr n3 0) G H4 = some (.agg [m.m.nm.v, .bool m.m.st, w, m.m.ret.nm.v, .bool m.m.ret.arr]) from FM g4 (by omega) (by show 5 <= 6; omega)]
    rw [nO (z := 5) (L := [m.m.nm.v, .bool m.m.st, w, m.m.ret.nm.v, .bool m.m.ret.arr]) rfl]
    have hcap := T.Ac H4 (n3 + 1) (.arr 5 1 (T.set (T.set .e 0 [.str 0 0, .bool false, .Aa, .str 0 0, .bool false]) 0 [m.m.nm.v, .bool m.m.st, w, m.m.ret.nm.v, .bool m.m.ret.arr]))
    have f5 : Kp H4 (n3 + 1) (T.set H4 (n3 + 1) (.arr 5 1 (T.set (T.set .e 0 [.str 0 0, .bool false, .Aa, .str 0 0, .bool false]) 0 [m.m.nm.v, .bool m.m.st, w, m.m.ret.nm.v, .bool m.m.ret.arr]))) (n3 + 1 + 1) := (Kp.refl _ _).new _ (Nat.le_refl _) (by omega)
    generalize T.set H4 (n3 + 1) (.arr 5 1 (T.set (T.set .e 0 [.str 0 0, .bool false, .Aa, .str 0 0, .bool false]) 0 [m.m.nm.v, .bool m.m.st, w, m.m.ret.nm.v, .bool m.m.ret.arr])) = H5 at f5 hcap
    rw [show BO [.str 0 0, .str 0 0, .Aa, .Aa] [(3, 1, .c (.sl (n3 + 1) 0 1 1 5))] = some (.agg [.str 0 0, .str 0 0, .Aa, .sl (n3 + 1) 0 1 1 5]) from rfl, BA]
    refine AEn (c := ⟨(0, 0), (0, 0), [], [m.m]⟩) ⟨.Aa, .sl (n3 + 1) 0 1 1 5, [w], ⟨rfl, ⟨⟨rfl, rfl⟩, (fun id h => by cases h), (by show 0 < big; decide), (fun f h => by cases h)⟩, ⟨Yl (by omega) rfl hcap, (fun id h => by cases h; omega), (by show 1 < big; decide), rfl, ?_, ?_⟩, ?_⟩, rfl⟩ fun r H' n' f => ?_
    · intro i m' w' h1 h2
      cases i with
      | zero => simp at h1 h2; subst h1 h2; exact hty.kp (f4'.trans f5)
      | succ i => simp at h1
    · intro m' h; simp at h; subst h; exact ⟨hok.1, hok.2.1⟩
    · exact ⟨fun _ => rfl, fun _ => rfl⟩
    · have f6 := f4.trans (f5.trans f)
      simp only [go_sem, BK]
      cases r with
      | false => simp only [Bool.not_false, go_sem]; exact hk _ _ _ f6 (fun h => by cases h)
      | true =>
        simp only [Bool.not_true, go_sem, DF (show j + 1 < 9223372036854775808 by unfold big at hbig; omega)]
        exact ih _ ⟨_, _, rfl, f6⟩
  · rintro I q ⟨H3, n3, rfl, f3⟩
    show Hl lfp G (Runs F G) k I (.ptr e 0) v4 (.int .i64 (.ofNat p.CO.length) 0) (.int .i64 (.ofNat p.CO.length) 0) H3 n3
    delta Hl
    simp only [go_sem, BI, Nat.lt_irrefl, decide_false]
    exact su (hb.kp f3) (f3.get ge he) fun r H' n' f p => hk _ _ _ (f3.trans f) p
theorem AAb (h : Fz G H n p v0 v1 v2 v3 v4 ws) (hb : GV G H n vb bs bws) (he : e < n) (ge : T.get H e = some (one [c0, c1, c2, c3, v0, v1, v2, v3, v4, vb])) (hk : ∀ r H' n', Kp H n H' n' -> (r = true -> ∀ b ∈ bs, b.code.length <= 60) -> k (.bool r) H' n') :
    Jt lfp G (Runs F G) k (.ptr e 0) H n := by
  delta Jt
  have hbig := h.b3
  have l3 : lenV v3 = some (.int .i64 (.ofNat p.fields.length) 0) := by rw [h.e3.len, List.length_map]
  simp only [go_sem, Nat.reduceAdd, AU (off := 7) ge (v := v3) rfl, l3]
  refine BR (N := p.fields.length) (J := fun j q => ∃ H' n', q = (.ptr e 0, v3, .int .i64 (.ofNat p.fields.length) 0, .int .i64 (.ofNat j) 0, H', n') /\ Kp H n H' n') ?_ ?_ ⟨H, _, rfl, Kp.refl _ _⟩
  · rintro I j q hlt ⟨H3, n3, rfl, f3⟩ ih
    show He lfp G (Runs F G) k I (.ptr e 0) v3 (.int .i64 (.ofNat p.fields.length) 0) (.int .i64 (.ofNat j) 0) H3 n3
    delta He
    have h3 := h.kp f3
    have h3n := f3.le
    obtain ⟨q, hp', hld⟩ := h3.e3.at (i := j) (c := p.fields[j].cells) (by simp [hlt])
    generalize p.fields[j] = m at hld
    unfold PF.cells at hld
    obtain ⟨x, hx⟩ := add_any (.ofNat m.f.nm.1) (.ofNat m.own.1)
    obtain ⟨y, hy⟩ := add_any x (.ofNat m.f.ty.nm.1)
    simp only [go_sem, Nat.reduceAdd, BI, hlt, decide_true, hp', CB hld, WJ, hx, hy, AIC]
    rw [T.set_set]
    have f4 := f3.new (m := n3 + 1) (id := n3) (one [m.f.nm.v, m.f.ty.nm.v, .bool m.f.ty.arr, m.own.v]) f3.le (by omega)
    cases h1 : decide (Int.ofNat 120 < y) with
    | true => simp only [go_sem]; exact hk _ _ _ f4 (fun h => by cases h)
    | false =>
    simp only [go_sem, DF (show j + 1 < 9223372036854775808 by unfold big at hbig; omega)]
    exact ih _ ⟨_, _, rfl, f4⟩
  · rintro I q ⟨H3, n3, rfl, f3⟩
    show He lfp G (Runs F G) k I (.ptr e 0) v3 (.int .i64 (.ofNat p.fields.length) 0) (.int .i64 (.ofNat p.fields.length) 0) H3 n3
    delta He
    have := f3.le
    simp only [go_sem, BI, Nat.lt_irrefl, decide_false]
    exact wZ (h.kp f3) (hb.kp f3) (by omega) (f3.get ge he) fun r H' n' f p => hk _ _ _ (f3.trans f) p
theorem wV (h : Fz G H n p v0 v1 v2 v3 v4 ws) (hb : GV G H n vb bs bws) (he : e < n) (ge : T.get H e = some (one [c0, c1, c2, c3, v0, v1, v2, v3, v4, vb])) (hk : ∀ r H' n', Kp H n H' n' -> (r = true -> ∀ b ∈ bs, b.code.length <= 60) -> k (.bool r) H' n') :
    Jk lfp G (Runs F G) k (.ptr e 0) H n := by
  delta Jk
  have hbig := h.t2.lt
  simp only [go_sem, Nat.reduceAdd, AU (off := 6) ge (v := v2) rfl, h.t2.len]
  refine BR (N := p.types.length) (J := fun j q => ∃ H' n', q = (.ptr e 0, v2, .int .i64 (.ofNat p.types.length) 0, .int .i64 (.ofNat j) 0, H', n') /\ Kp H n H' n') ?_ ?_ ⟨H, _, rfl, Kp.refl _ _⟩
  · rintro I j q hlt ⟨H3, n3, rfl, f3⟩ ih
    show GH lfp G (Runs F G) k I (.ptr e 0) v2 (.int .i64 (.ofNat p.types.length) 0) (.int .i64 (.ofNat j) 0) H3 n3
    delta GH
    have h3 := h.kp f3
    have h3n := f3.le
    obtain ⟨q, hp', hld⟩ := h3.t2.el.at (Qp hlt)
    generalize p.types[j] = m at hld
    unfold Ty.cells at hld
    simp only [go_sem, Nat.reduceAdd, BI, hlt, decide_true, hp', CB hld, WJ, FY]
    rw [T.set_set]
    have f4 := f3.new (m := n3 + 1) (id := n3) (one [m.nm.v, .bool m.arr]) f3.le (by omega)
    cases h1 : decide (60 < m.nm.1) with
    | true => simp only [go_sem]; exact hk _ _ _ f4 (fun h => by cases h)
    | false =>
    simp only [go_sem, DF (show j + 1 < 9223372036854775808 by unfold big at hbig; omega)]
    exact ih _ ⟨_, _, rfl, f4⟩
  · rintro I q ⟨H3, n3, rfl, f3⟩
    show GH lfp G (Runs F G) k I (.ptr e 0) v2 (.int .i64 (.ofNat p.types.length) 0) (.int .i64 (.ofNat p.types.length) 0) H3 n3
    delta GH
    have := f3.le
    simp only [go_sem, BI, Nat.lt_irrefl, decide_false]
    exact AAb (h.kp f3) (hb.kp f3) (by omega) (f3.get ge he) fun r H' n' f p => hk _ _ _ (f3.trans f) p
end
theorem AHK {G : AL} {H : Heap} {n : Nat} {v : V} {f : Fl} (h : Ui G H n v f) {k : KV} (hk : ∀ r H' n', Kp H n H' n' -> (r = true -> ∀ b ∈ f.bodies, b.code.length <= 60) -> k (.bool r) H' n') : Runs F G Y7 [v] H n k := by
 refine BM (s := Jf (MV lfp G)) Sj (by obtain ⟨h, o⟩ := YH BL G; rw [Sj] at h; cases h; exact o) ?_
 show MV lfp G (Runs F G) v H n k
 obtain ⟨L, vf, vm, v0, v1, v2, v3, v4, vb, mws, ws, bws, h, rfl⟩ := h
 obtain ⟨rfl, hf, hp, hb⟩ := h
 delta MV
 refine Iu fun H1 f1 g1 => ?_
 rw [Zj, BA, show Ae 4 (.ptr n (0 + 0)) G H1 = some (.agg [f.face.nm.v, f.face.sup.v, vf, vm]) from FM g1 (by omega) (by show 4 <= 10; omega), BA]
 refine AEn (c := f.face) ⟨vf, vm, mws, hf.kp f1, rfl⟩ fun r H2 n2 f2 => ?_
 have f12 := f1.trans f2
 have h2n := f2.le
 have hp2 := hp.kp f12
 have hb2 := hb.kp f12
 have g2 := f2.get g1 (by omega)
 have l0 : lenV v0 = some (.int .i64 (.ofNat f.pool.nums.length) 0) := by rw [hp2.e0.len, List.length_map]
 have l1 : lenV v1 = some (.int .i64 (.ofNat f.pool.names.length) 0) := by rw [hp2.e1.len, Ie]
 have l3 : lenV v3 = some (.int .i64 (.ofNat f.pool.fields.length) 0) := by rw [hp2.e3.len, List.length_map]
 have l4 : lenV v4 = some (.int .i64 (.ofNat f.pool.CO.length) 0) := by rw [hp2.e4.len, List.length_zipWith, hp2.qF, Nat.min_self]
 have lb : lenV vb = some (.int .i64 (.ofNat f.bodies.length) 0) := by rw [hb2.el.len, List.length_zipWith, hb2.len, Nat.min_self]
 simp only [BK]
 cases r with
 | false =>
  simp only [Bool.not_false]
  rw [BA]
  repeat (first | with_reducible refine vO ?_ | with_reducible refine vG ?_)
  simp only [go_sem]; exact hk _ _ _ f12 (fun h => by cases h)
 | true =>
 simp only [Bool.not_true, go_sem, Nat.reduceAdd, AU (off := 4) g2 (v := v0) rfl, l0, FY]
 cases h1 : decide (20 < f.pool.nums.length) with
 | true =>
  repeat (first | with_reducible refine vO ?_ | with_reducible refine vG ?_)
  simp only [go_sem]; exact hk _ _ _ f12 (fun h => by cases h)
 | false =>
 simp only [go_sem, Nat.reduceAdd, AU (off := 5) g2 (v := v1) rfl, l1, FY]
 cases h1 : decide (20 < f.pool.names.length) with
 | true =>
  repeat (first | with_reducible refine vO ?_ | with_reducible refine vG ?_)
  simp only [go_sem]; exact hk _ _ _ f12 (fun h => by cases h)
 | false =>
 simp only [go_sem, Nat.reduceAdd, AU (off := 6) g2 (v := v2) rfl, hp2.t2.len, FY]
 cases h1 : decide (20 < f.pool.types.length) with
 | true =>
  repeat (first | with_reducible refine vO ?_ | with_reducible refine vG ?_)
  simp only [go_sem]; exact hk _ _ _ f12 (fun h => by cases h)
 | false =>
 simp only [go_sem, Nat.reduceAdd, AU (off := 7) g2 (v := v3) rfl, l3, FY]
 cases h1 : decide (20 < f.pool.fields.length) with
 | true =>
  repeat (first | with_reducible refine vO ?_ | with_reducible refine vG ?_)
  simp only [go_sem]; exact hk _ _ _ f12 (fun h => by cases h)
 | false =>
 simp only [go_sem, Nat.reduceAdd, AU (off := 8) g2 (v := v4) rfl, l4, FY]
 cases h1 : decide (20 < f.pool.CO.length) with
 | true =>
  repeat (first | with_reducible refine vO ?_ | with_reducible refine vG ?_)
  simp only [go_sem]; exact hk _ _ _ f12 (fun h => by cases h)
 | false =>
 simp only [go_sem, Nat.reduceAdd, AU (off := 9) g2 (v := vb) rfl, lb, FY]
 cases h1 : decide (12 < f.bodies.length) with
 | true =>
  repeat (first | with_reducible refine vO ?_ | with_reducible refine vG ?_)
  simp only [go_sem]; exact hk _ _ _ f12 (fun h => by cases h)
 | false =>
 simp only [go_sem, Nat.reduceAdd, AU (off := 5) g2 (v := v1) rfl, l1]
 have hbig := hp2.b1
 refine BR (N := f.pool.names.length) (J := fun j q => ∃ H' n', q = (.ptr n 0, v1, .int .i64 (.ofNat f.pool.names.length) 0, .int .i64 (.ofNat j) 0, H', n') /\ Kp H2 n2 H' n') ?_ ?_ ⟨H2, _, rfl, Kp.refl _ _⟩
 ·rintro I j q hlt ⟨H3, n3, rfl, f3⟩ ih
  show GN lfp G (Runs F G) k I (.ptr n 0) v1 (.int .i64 (.ofNat f.pool.names.length) 0) (.int .i64 (.ofNat j) 0) H3 n3
  delta GN
  have h3 := hp2.kp f3
  obtain ⟨q, hp', hld⟩ := h3.e1.at (RU hlt)
  generalize f.pool.names[j] = m at hld
  simp only [go_sem, Nat.reduceAdd, BI, hlt, decide_true, hp', OG hld, WJ, FY]
  cases h1 : decide (60 < m.1) with
  | true => simp only [go_sem]; exact hk _ _ _ (f12.trans f3) (fun h => by cases h)
  | false =>
  simp only [go_sem, DF (show j + 1 < 9223372036854775808 by unfold big at hbig; omega)]
  exact ih _ ⟨_, _, rfl, f3⟩
 ·rintro I q ⟨H3, n3, rfl, f3⟩
  show GN lfp G (Runs F G) k I (.ptr n 0) v1 (.int .i64 (.ofNat f.pool.names.length) 0) (.int .i64 (.ofNat f.pool.names.length) 0) H3 n3
  delta GN
  have := f3.le
  simp only [go_sem, BI, Nat.lt_irrefl, decide_false]
  exact wV (hp2.kp f3) (hb2.kp f3) (by omega) (f3.get g2 (by omega)) fun r H' n' f p => hk _ _ _ (f12.trans (f3.trans f)) p
theorem AHi {G : AL} {H : Heap} {n : Nat} {v : V} {fls : List Fl} (h : N9 G H n v fls) {k : KV} (hk : ∀ r H' n', Kp H n H' n' -> (r = true -> fls.length <= 8 /\ ∀ f ∈ fls, ∀ b ∈ f.bodies, b.code.length <= 60) -> k (.bool r) H' n') : Runs F G Y6 [v] H n k := by
 refine BM (s := Jf (MP lfp G)) SC (by obtain ⟨h, o⟩ := YL BL G; rw [SC] at h; cases h; exact o) ?_
 show MP lfp G (Runs F G) v H n k
 delta MP
 have hbig := h.lt
 simp only [go_sem, h.len]
 refine BR (N := fls.length) (J := fun j q => ∃ H' n', q = (v, v, .int .i64 (.ofNat fls.length) 0, .int .i64 (.ofNat j) 0, H', n') /\ Kp H n H' n' /\ ∀ (i : Nat) (f : Fl), i < j -> fls[i]? = some f -> ∀ b ∈ f.bodies, b.code.length <= 60) ?_ ?_ ⟨H, _, rfl, Kp.refl _ _, fun _ _ h => absurd h (Nat.not_lt_zero _)⟩
 ·rintro I j q hlt ⟨H3, n3, rfl, f3, hall⟩ ih
  show IW lfp G (Runs F G) k I v v (.int .i64 (.ofNat fls.length) 0) (.int .i64 (.ofNat j) 0) H3 n3
  delta IW
  obtain ⟨q, vf, vm, v0, v1, v2, v3, v4, vb, mws, ws, bws, hp, hld, Y8⟩ := (h.ke f3.ke).at hlt
  have hget := List.getElem?_eq_getElem hlt
  generalize fls[j] = m at hld Y8 hget
  simp only [go_sem, Nat.reduceAdd, BI, hlt, decide_true, hp, CB hld]
  rw [T.set_set]
  have f4' : Kp H3 n3 (T.set H3 n3 (one [m.face.nm.v, m.face.sup.v, vf, vm, v0, v1, v2, v3, v4, vb])) (n3 + 1) := (Kp.refl _ _).new _ (Nat.le_refl _) (by omega)
  have g4 := T.Ac H3 n3 (one [m.face.nm.v, m.face.sup.v, vf, vm, v0, v1, v2, v3, v4, vb])
  generalize T.set H3 n3 (one [m.face.nm.v, m.face.sup.v, vf, vm, v0, v1, v2, v3, v4, vb]) = H4 at f4' g4
  refine AHK (f := m) ⟨_, vf, vm, v0, v1, v2, v3, v4, vb, mws, ws, bws, Y8.ke f4'.ke, rfl⟩ fun r H5 n5 f5 pr => ?_
  have f6 := f3.trans (f4'.trans f5)
  simp only [go_sem, BK]
  cases r with
  | false => simp only [Bool.not_false, go_sem]; exact hk _ _ _ f6 (fun h => by cases h)
  | true =>
   simp only [Bool.not_true, go_sem, DF (show j + 1 < 9223372036854775808 by unfold big at hbig; omega)]
   refine ih _ ⟨_, _, rfl, f6, fun i g hi hg => ?_⟩
   rcases Nat.lt_or_ge i j with h | h
   ·exact hall i g h hg
   ·have : i = j := by omega
    subst this
    rw [hget] at hg
    cases hg
    exact pr rfl
 ·rintro I q ⟨H3, n3, rfl, f3, hall⟩
  show IW lfp G (Runs F G) k I v v (.int .i64 (.ofNat fls.length) 0) (.int .i64 (.ofNat fls.length) 0) H3 n3
  delta IW
  simp only [go_sem, BI, Nat.lt_irrefl, decide_false]
  delta Pz
  simp only [go_sem, h.len, ABt]
  refine hk _ _ _ f3 fun h => ⟨?_, fun g hg => by obtain ⟨i, hi⟩ := List.getElem?_of_mem hg; exact hall i g (List.getElem?_eq_some_iff.1 hi).1 hi⟩
  have := of_decide_eq_true h
  show fls.length <= 8
  have h2 : (fls.length : Int) <= 8 := this
  omega
theorem AAP (o : Option (St × St × Int)) : (V6 o).length = 4 := by
 cases o with
 | none => rfl
 | some p => obtain ⟨s, x, r⟩ := p; rfl
theorem rG {G : AL} (hG : U6 G) (hO : Xt G) {H : Heap} {n : Nat} {v : V} {fls : List Fl} {R : Fl -> Nat -> Int} (hf : N9 G H n v fls) (hR : Io fls = 0 -> YZ fls R) {k : KV}
    (hk0 : Io fls = 0 -> ∀ H' n', Kp H n H' n' -> k (.agg (V6 (Jb R (Ns fls) (EH fls)))) H' n')
    (hk1 : Io fls ≠ 0 -> ∀ H' n', Kp H n H' n' -> k (.agg [.int .i64 (Io fls) 0, .str 0 0, .str 0 0, .int .i64 (.ofNat 0) 0]) H' n') : Runs F G JE [v] H n k := by
  refine BM (s := Jf (JH lfp G)) Py (by obtain ⟨h, o⟩ := V7 BL G; rw [Py] at h; cases h; exact o) ?_
  show JH lfp G (Runs F G) v H n k
  delta JH
  refine Ld rfl fun H1 f1 g1 => ?_
  refine AMj hG hO (hf.ke f1.ke) (fun h0 H2 n2 i f2 hi => ?_) fun h0 H2 n2 f2 => ?_
  · have hn2 := f2.le
    simp only [go_sem, show Dx (.one .int) true (.int .i64 (.ofNat 0) 0) (.int .i64 (.ofNat 0) 0) = some (.bool false) from rfl]
    refine AIE hG h0 (hR h0) hi fun H3 n3 b hb f3 _ => ?_
    have hn3 := f3.le
    have e : ∀ id, id < n + 1 -> T.get H3 id = T.get H1 id := fun id h => by rw [f3.same id (by omega) (by omega), f2.same id h]
    rw [EF (m := 4) ((e n (by omega)).trans g1) (by omega) rfl (AAP _), Bg (m := 4) (T.Ac ..) (by omega) (AAP _)]
    exact hk0 h0 _ _ ⟨by omega, fun id hid => by rw [T.AY _ _ (by omega), e id (by omega), f1.same id hid]⟩
  · have hn2 := f2.le
    have hne : Dx (.one .int) true (.int .i64 (Io fls) 0) (.int .i64 (.ofNat 0) 0) = some (.bool true) := by
      rw [AD8, show decide (Io fls = Int.ofNat 0) = false from decide_eq_false fun h => h0 h]; rfl
    simp only [go_sem, hne]
    rw [show BO [.int .i64 (.ofNat 0) 0, .str 0 0, .str 0 0, .int .i64 (.ofNat 0) 0] [(0, 1, .c (.int .i64 (Io fls) 0))] = some (.agg [.int .i64 (Io fls) 0, .str 0 0, .str 0 0, .int .i64 (.ofNat 0) 0]) from rfl, BA,
      EF (m := 4) (f2.get g1 (by omega)) (by omega) rfl rfl, Bg (m := 4) (T.Ac ..) (by omega) rfl]
    exact hk1 h0 _ _ ⟨by omega, fun id hid => by rw [T.AY _ _ (by omega), f2.same id (by omega), f1.same id hid]⟩
end Go.RL
