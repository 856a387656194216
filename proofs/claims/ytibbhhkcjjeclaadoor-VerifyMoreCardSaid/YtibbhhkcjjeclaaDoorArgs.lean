/- Part of a proof: texts LRM of the engine and what is proved with it; nothing is assumed. -/
import Derived.Test.YtibbhhkcjjeclaaDoorConB
import Derived.Test.YtibbhhkcjjeclaaDoorWalk
set_option linter.unusedVariables false
set_option linter.unusedSimpArgs false
namespace Go.RL
open Go.Ba
set_option maxRecDepth 100000
abbrev xG : Sh := .st [.str, .bool]
abbrev uM : Sh := .st [.str, xG]
abbrev sG : Sh := .st [.str, .bool, .sl 2 xG, xG]
abbrev AC5 : Sh := .st [.str, .str, .sl 3 uM, .sl 5 sG]
abbrev ADo : Sh := .st [.sl 1 (.int .i64), .sl 1 .str, .sl 2 xG, .sl 4 (.st [uM, .str]), .sl 6 (.st [sG, .str])]
abbrev AK6 : Sh := .st [.int .i64, .int .i64]
abbrev ADq : Sh := .st [.int .i64, .int .i64, .sl 2 AK6]
abbrev AEG : Sh := .st [AC5, ADo, .sl 3 ADq]
theorem pick {α : Type} {Q : α -> LV -> Prop} : ∀ {LS : Df}, (∀ L ∈ LS, ∃ x, Q x L) -> ∃ xs : List α, xs.length = LS.length /\ ∀ (i : Nat) (x : α) (L : LV), xs[i]? = some x -> LS[i]? = some L -> Q x L
 | [], _ => ⟨[], rfl, fun i x L h => by simp at h⟩
 | L :: LS, h => by
  obtain ⟨x, hx⟩ := h L (List.mem_cons_self ..)
  obtain ⟨xs, hl, hq⟩ := pick (LS := LS) fun L hL => h L (List.mem_cons_of_mem _ hL)
  refine ⟨x :: xs, by simp [hl], fun i y M h1 h2 => ?_⟩
  cases i with
  | zero => simp at h1 h2; subst h1; subst h2; exact hx
  | succ i => simp at h1 h2; exact hq i y M h1 h2
theorem Vg {α : Type} {g : α -> LV} {R : α -> Prop} {LS : Df} (h : ∀ L ∈ LS, ∃ x, L = g x /\ R x) : ∃ xs : List α, LS = xs.map g /\ ∀ x ∈ xs, R x := by
 obtain ⟨xs, hl, hq⟩ := pick (Q := fun x L => L = g x /\ R x) h
 refine ⟨xs, ?_, fun x hx => ?_⟩
 ·apply List.ext_getElem (by simp [hl])
  intro i h1 h2
  rw [List.getElem_map]
  exact (hq i _ _ (List.getElem?_eq_getElem (by simp at h2; exact h2)) (List.getElem?_eq_getElem h1)).1
 ·obtain ⟨i, hi⟩ := List.mem_iff_getElem?.1 hx
  have hlt := (List.getElem?_eq_some_iff.1 hi).1
  exact (hq i _ _ hi (List.getElem?_eq_getElem (by omega))).2
theorem tJ {α : Type} {g : α -> V -> LV} {R : α -> V -> Prop} {LS : Df} (h : ∀ L ∈ LS, ∃ x w, L = g x w /\ R x w) :
    ∃ (xs : List α) (ws : List V), ws.length = xs.length /\ xs.length = LS.length /\ LS = List.zipWith g xs ws /\ ∀ (i : Nat) (x : α) (w : V), xs[i]? = some x -> ws[i]? = some w -> R x w := by
  obtain ⟨ps, hl, hq⟩ := pick (α := α × V) (Q := fun p L => L = g p.1 p.2 /\ R p.1 p.2) fun L hL => by
    obtain ⟨x, w, h1, h2⟩ := h L hL; exact ⟨(x, w), h1, h2⟩
  refine ⟨ps.map (·.1), ps.map (·.2), by simp, by simp [hl], ?_, fun i x w h1 h2 => ?_⟩
  · apply List.ext_getElem (by simp [hl])
    intro i h1 h2
    simp only [List.getElem_zipWith, List.getElem_map]
    exact (hq i _ _ (List.getElem?_eq_getElem (by simp at h2; exact h2)) (List.getElem?_eq_getElem h1)).1
  · rw [List.getElem?_map] at h1 h2
    cases hp : ps[i]? with
    | none => rw [hp] at h1; cases h1
    | some p =>
      rw [hp] at h1 h2
      cases h1; cases h2
      have hlt := (List.getElem?_eq_some_iff.1 hp).1
      exact (hq i _ _ hp (List.getElem?_eq_getElem (by omega))).2
theorem _root_.Go.Ba.RSl.lo {v : V} {m n : Nat} (h : RSl v m) : Lo v n := by
 rcases h with ⟨rfl, _⟩ | ⟨b, o, c, rfl, _, _⟩ <;> intro id hid <;> cases hid
theorem XY {m : Nat} (h : m <= maxLen) : m < big := by unfold maxLen at h; unfold big; omega
section
variable {G : AL}
theorem Tq {L : LV} (h : Fits G .str L) : ∃ s : St, s.ok /\ L = [s.v] := by
 obtain ⟨s, _, rfl⟩ := h
 refine ⟨(s.length, enc s), fun h => ?_, rfl⟩
 have h : s.length = 0 := h
 have : s = [] := List.length_eq_zero_iff.1 h
 subst this; rfl
theorem AAu {L : LV} (h : Fits G xG L) : ∃ t : Ty, t.nm.ok /\ L = t.cells := by
 obtain ⟨a, r, rfl, ha, b, r2, rfl, hb, rfl⟩ := (show WZ G [.str, .bool] L from h)
 obtain ⟨s, hs, rfl⟩ := Tq ha
 obtain ⟨c, rfl⟩ := hb
 exact ⟨⟨s, c⟩, hs, rfl⟩
theorem ABr {L : LV} (h : Fits G (.sl 2 xG) L) : ∃ v xs, L = [v] /\ ∀ H n, MK G H n v xs := by
 obtain ⟨v, LS, rfl, hr, hel, hle, hall⟩ := h
 obtain ⟨xs, rfl, hok⟩ := Vg (g := Ty.cells) (R := fun t => t.nm.ok) (LS := LS) fun L hL => by
  obtain ⟨t, h1, h2⟩ := AAu (hall L hL).2; exact ⟨t, h2, h1⟩
 exact ⟨v, xs, rfl, fun H n => ⟨hel H, hr.lo, XY (by simpa using hle), hok⟩⟩
theorem ACR {L : LV} (h : Fits G uM L) : ∃ f : wo, (f.nm.ok /\ f.ty.nm.ok) /\ L = f.cells := by
 obtain ⟨a, r, rfl, ha, b, r2, rfl, hb, rfl⟩ := (show WZ G [.str, xG] L from h)
 obtain ⟨s, hs, rfl⟩ := Tq ha
 obtain ⟨t, ht, rfl⟩ := AAu hb
 exact ⟨⟨s, t⟩, ⟨hs, ht⟩, rfl⟩
theorem AFr {L : LV} (h : Fits G (.sl 3 uM) L) : ∃ v xs, L = [v] /\ ∀ H n, RY G H n v xs := by
 obtain ⟨v, LS, rfl, hr, hel, hle, hall⟩ := h
 obtain ⟨xs, rfl, hok⟩ := Vg (g := wo.cells) (R := fun t => t.nm.ok /\ t.ty.nm.ok) (LS := LS) fun L hL => by
  obtain ⟨t, h1, h2⟩ := ACR (hall L hL).2; exact ⟨t, h2, h1⟩
 exact ⟨v, xs, rfl, fun H n => ⟨hel H, hr.lo, XY (by simpa using hle), hok⟩⟩
theorem ACG {L : LV} (h : Fits G sG L) : ∃ (m : Dc) (w : V), L = m.cells w /\ (∀ H n, MK G H n w m.ps) /\ (m.nm.ok /\ m.ret.nm.ok) := by
 obtain ⟨a, r, rfl, ha, b, r2, rfl, hb, c, r3, rfl, hc, d, r4, rfl, hd, rfl⟩ := (show WZ G [.str, .bool, .sl 2 xG, xG] L from h)
 obtain ⟨s, hs, rfl⟩ := Tq ha
 obtain ⟨t, rfl⟩ := hb
 obtain ⟨w, ps, rfl, hw⟩ := ABr hc
 obtain ⟨t2, ht, rfl⟩ := AAu hd
 exact ⟨⟨s, t, ps, t2⟩, w, rfl, hw, hs, ht⟩
theorem AFW {L : LV} (h : Fits G (.sl 5 sG) L) : ∃ v ms ws, L = [v] /\ ∀ H n, Ji G H n v ms ws := by
 obtain ⟨v, LS, rfl, hr, hel, hle, hall⟩ := h
 obtain ⟨ms, ws, h1, h2, rfl, hq⟩ := tJ (g := Dc.cells) (R := fun m w => (∀ H n, MK G H n w m.ps) /\ (m.nm.ok /\ m.ret.nm.ok)) (LS := LS) fun L hL => by
  obtain ⟨t, w, h1, h2⟩ := ACG (hall L hL).2; exact ⟨t, w, h1, h2⟩
 refine ⟨v, ms, ws, rfl, fun H n => ⟨hel H, hr.lo, XY (by omega), h1, fun i m w a b => (hq i m w a b).1 H n, fun m hm => ?_⟩⟩
 obtain ⟨i, hi⟩ := List.mem_iff_getElem?.1 hm
 have hlt := (List.getElem?_eq_some_iff.1 hi).1
 exact (hq i m _ hi (List.getElem?_eq_getElem (by omega))).2
theorem AFG {L : LV} (h : Fits G AC5 L) : ∃ (c : Fc) (vf vm : V) (ws : List V), L = [c.nm.v, c.sup.v, vf, vm] /\ ∀ H n, UK G H n [c.nm.v, c.sup.v, vf, vm] c vf vm ws := by
 obtain ⟨a, r, rfl, ha, b, r2, rfl, hb, c, r3, rfl, hc, d, r4, rfl, hd, rfl⟩ := (show WZ G [.str, .str, .sl 3 uM, .sl 5 sG] L from h)
 obtain ⟨s, hs, rfl⟩ := Tq ha
 obtain ⟨u, hu, rfl⟩ := Tq hb
 obtain ⟨vf, fs, rfl, hf⟩ := AFr hc
 obtain ⟨vm, ms, ws, rfl, hm⟩ := AFW hd
 exact ⟨⟨s, u, fs, ms⟩, vf, vm, ws, rfl, fun H n => ⟨rfl, hf H n, hm H n, hs, hu⟩⟩
theorem AFb {L : LV} (h : Fits G ADo L) : ∃ (p : Pool) (v0 v1 v2 v3 v4 : V) (ws : List V), L = [v0, v1, v2, v3, v4] /\ ∀ H n, Fz G H n p v0 v1 v2 v3 v4 ws := by
 obtain ⟨a, r, rfl, ha, b, r2, rfl, hb, c, r3, rfl, hc, d, r4, rfl, hd, e, r5, rfl, he, rfl⟩ := (show WZ G [.sl 1 (.int .i64), .sl 1 .str, .sl 2 xG, .sl 4 (.st [uM, .str]), .sl 6 (.st [sG, .str])] L from h)
 obtain ⟨v0, L0, rfl, r0, e0, l0, a0⟩ := ha
 obtain ⟨v1, L1, rfl, r1, e1, l1, a1⟩ := hb
 obtain ⟨v2, ts, rfl, h2⟩ := ABr hc
 obtain ⟨v3, L3, rfl, r3, e3, l3, a3⟩ := hd
 obtain ⟨v4, L4, rfl, r4, e4, l4, a4⟩ := he
 obtain ⟨ns, rfl, -⟩ := Vg (g := fun a : Int => [V.int .i64 a 0]) (R := fun _ => True) (LS := L0) fun L hL => by
  obtain ⟨m, rfl⟩ := (a0 L hL).2; exact ⟨m, rfl, trivial⟩
 obtain ⟨ss, rfl, o1⟩ := Vg (g := fun s : St => [s.v]) (R := fun s => s.ok) (LS := L1) fun L hL => by
  obtain ⟨s, hs, rfl⟩ := Tq (a1 L hL).2; exact ⟨s, rfl, hs⟩
 obtain ⟨fs, rfl, o3⟩ := Vg (g := PF.cells) (R := fun f => f.f.nm.ok /\ f.f.ty.nm.ok /\ f.own.ok) (LS := L3) fun L hL => by
  obtain ⟨a, r, rfl, ha, b, r2, rfl, hb, rfl⟩ := (show WZ G [uM, .str] L from (a3 L hL).2)
  obtain ⟨f, hf, rfl⟩ := ACR ha
  obtain ⟨s, hs, rfl⟩ := Tq hb
  exact ⟨⟨f, s⟩, rfl, hf.1, hf.2, hs⟩
 obtain ⟨ms, ws, q1, q2, rfl, hq⟩ := tJ (g := PM.cells) (R := fun m w => (∀ H n, MK G H n w m.m.ps) /\ (m.m.nm.ok /\ m.m.ret.nm.ok /\ m.own.ok)) (LS := L4) fun L hL => by
  obtain ⟨a, r, rfl, ha, b, r2, rfl, hb, rfl⟩ := (show WZ G [sG, .str] L from (a4 L hL).2)
  obtain ⟨m, w, rfl, hw, ho⟩ := ACG ha
  obtain ⟨s, hs, rfl⟩ := Tq hb
  exact ⟨⟨m, s⟩, w, rfl, hw, ho.1, ho.2, hs⟩
 refine ⟨⟨ns, ss, ts, fs, ms⟩, v0, v1, v2, v3, v4, ws, rfl, fun H n => ⟨e0 H, r0.lo, XY (by simpa using l0), e1 H, r1.lo, XY (by simpa using l1), o1, h2 H n, e3 H, r3.lo, XY (by simpa using l3), o3,
  e4 H, r4.lo, XY (by show ms.length <= maxLen; omega), q1, fun i m w a b => (hq i m w a b).1 H n, fun m hm => ?_⟩⟩
 obtain ⟨i, hi⟩ := List.mem_iff_getElem?.1 hm
 have hlt : i < ms.length := (List.getElem?_eq_some_iff.1 hi).1
 exact (hq i m _ hi (List.getElem?_eq_getElem (by omega))).2
theorem ACd {L : LV} (h : Fits G (.sl 3 ADq) L) : ∃ v bs ws, L = [v] /\ ∀ H n, GV G H n v bs ws := by
 obtain ⟨v, LS, rfl, hr, hel, hle, hall⟩ := h
 obtain ⟨bs, ws, h1, h2, rfl, hq⟩ := tJ (g := Bd.cells) (R := fun b w => ∀ H n, LZ G H n w b.code) (LS := LS) fun L hL => by
  obtain ⟨a, r, rfl, ha, b, r2, rfl, hb, c, r3, rfl, hc, rfl⟩ := (show WZ G [.int .i64, .int .i64, .sl 2 AK6] L from (hall L hL).2)
  obtain ⟨x, rfl⟩ := ha
  obtain ⟨y, rfl⟩ := hb
  obtain ⟨w, LC, rfl, hr, hel, hle, hall⟩ := hc
  obtain ⟨is, rfl, -⟩ := Vg (g := Ins.cells) (R := fun _ => True) (LS := LC) fun L hL => by
   obtain ⟨a, r, rfl, ha, b, r2, rfl, hb, rfl⟩ := (show WZ G [.int .i64, .int .i64] L from (hall L hL).2)
   obtain ⟨x, rfl⟩ := ha
   obtain ⟨y, rfl⟩ := hb
   exact ⟨⟨x, y⟩, rfl, trivial⟩
  exact ⟨⟨x, y, is⟩, w, rfl, fun H n => ⟨hel H, hr.lo, XY (by simpa using hle)⟩⟩
 exact ⟨v, bs, ws, rfl, fun H n => ⟨hel H, hr.lo, XY (by omega), h1, fun i b w x y => hq i b w x y H n⟩⟩
theorem AFT {L : LV} (h : Fits G AEG L) : ∃ f : Fl, ∀ H n, Ui G H n (.agg L) f := by
 obtain ⟨a, r, rfl, ha, b, r2, rfl, hb, c, r3, rfl, hc, rfl⟩ := (show WZ G [AC5, ADo, .sl 3 ADq] L from h)
 obtain ⟨c, vf, vm, mws, rfl, hf⟩ := AFG ha
 obtain ⟨p, v0, v1, v2, v3, v4, ws, rfl, hp⟩ := AFb hb
 obtain ⟨vb, bs, bws, rfl, hb⟩ := ACd hc
 exact ⟨⟨c, p, bs⟩, fun H n => ⟨_, vf, vm, v0, v1, v2, v3, v4, vb, mws, ws, bws, ⟨rfl, hf H n, hp H n, hb H n⟩, rfl⟩⟩
theorem ADC {L : LV} (h : Fits G (.sl 10 AEG) L) : ∃ v fls, L = [v] /\ RSl v fls.length /\ ∀ H n, N9 G H n v fls := by
 obtain ⟨v, LS, rfl, hr, hel, hle, hall⟩ := h
 obtain ⟨fls, hl, hq⟩ := pick (α := Fl) (Q := fun f L => ∀ H n, Ui G H n (.agg L) f) (LS := LS) fun L hL => AFT (hall L hL).2
 exact ⟨v, fls, rfl, by rw [hl]; exact hr, fun H n => ⟨⟨LS, hel H, hl.symm, fun i L f a b => hq i f L b a H n⟩, hr.lo, XY (by omega)⟩⟩
end
end Go.RL
