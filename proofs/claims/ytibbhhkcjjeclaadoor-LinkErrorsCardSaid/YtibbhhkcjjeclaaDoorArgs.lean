/- Part of a proof: texts LRM of the engine and what is proved with it; nothing is assumed. -/
import Derived.Test.YtibbhhkcjjeclaaDoorConB
import Derived.Test.YtibbhhkcjjeclaaDoorWalk
set_option linter.unusedVariables false
set_option linter.unusedSimpArgs false
/- Arguments: files, read out of memory that was there. -/
namespace Go.RL
open Go.Eng
set_option maxRecDepth 100000
abbrev tySh : Sh := .st [.str, .bool]
abbrev varSh : Sh := .st [.str, tySh]
abbrev sigSh : Sh := .st [.str, .bool, .sl 2 tySh, tySh]
abbrev faceSh : Sh := .st [.str, .str, .sl 3 varSh, .sl 5 sigSh]
abbrev poolSh : Sh := .st [.sl 1 (.int .i64), .sl 1 .str, .sl 2 tySh, .sl 4 (.st [varSh, .str]), .sl 6 (.st [sigSh, .str])]
abbrev insSh : Sh := .st [.int .i64, .int .i64]
abbrev bodySh : Sh := .st [.int .i64, .int .i64, .sl 2 insSh]
abbrev fileSh : Sh := .st [faceSh, poolSh, .sl 3 bodySh]
theorem pick {α : Type} {Q : α → LV → Prop} : ∀ {LS : LLV}, (∀ L ∈ LS, ∃ x, Q x L) → ∃ xs : List α, xs.length = LS.length ∧ ∀ (i : Nat) (x : α) (L : LV), xs[i]? = some x → LS[i]? = some L → Q x L
  | [], _ => ⟨[], rfl, fun i x L h => by simp at h⟩
  | L :: LS, h => by
    obtain ⟨x, hx⟩ := h L (List.mem_cons_self ..)
    obtain ⟨xs, hl, hq⟩ := pick (LS := LS) fun L hL => h L (List.mem_cons_of_mem _ hL)
    refine ⟨x :: xs, by simp [hl], fun i y M h1 h2 => ?_⟩
    cases i with
    | zero => simp at h1 h2; subst h1; subst h2; exact hx
    | succ i => simp at h1 h2; exact hq i y M h1 h2
theorem pick_map {α : Type} {g : α → LV} {R : α → Prop} {LS : LLV} (h : ∀ L ∈ LS, ∃ x, L = g x ∧ R x) : ∃ xs : List α, LS = xs.map g ∧ ∀ x ∈ xs, R x := by
  obtain ⟨xs, hl, hq⟩ := pick (Q := fun x L => L = g x ∧ R x) h
  refine ⟨xs, ?_, fun x hx => ?_⟩
  · apply List.ext_getElem (by simp [hl])
    intro i h1 h2
    rw [List.getElem_map]
    exact (hq i _ _ (List.getElem?_eq_getElem (by simp at h2; exact h2)) (List.getElem?_eq_getElem h1)).1
  · obtain ⟨i, hi⟩ := List.mem_iff_getElem?.1 hx
    have hlt := (List.getElem?_eq_some_iff.1 hi).1
    exact (hq i _ _ hi (List.getElem?_eq_getElem (by omega))).2
theorem pick_zip {α : Type} {g : α → V → LV} {R : α → V → Prop} {LS : LLV} (h : ∀ L ∈ LS, ∃ x w, L = g x w ∧ R x w) :
    ∃ (xs : List α) (ws : List V), ws.length = xs.length ∧ xs.length = LS.length ∧ LS = List.zipWith g xs ws ∧ ∀ (i : Nat) (x : α) (w : V), xs[i]? = some x → ws[i]? = some w → R x w := by
  obtain ⟨ps, hl, hq⟩ := pick (α := α × V) (Q := fun p L => L = g p.1 p.2 ∧ R p.1 p.2) fun L hL => by
    obtain ⟨x, w, h1, h2⟩ := h L hL; exact ⟨(x, w), h1, h2⟩
  refine ⟨ps.map (·.1), ps.map (·.2), by simp, by simp [hl], ?_, fun i x w h1 h2 => ?_⟩
  · apply List.ext_getElem (by simp [hl])
    intro i h1 h2
    simp only [List.getElem_zipWith, List.getElem_map]
    exact (hq i _ _ (List.getElem?_eq_getElem (by simp at h2; exact h2)) (List.getElem?_eq_getElem h1)).1
  · rw [List.getElem?_map] at h1 h2
    cases hp : ps[i]? with
    | none => rw [hp] at h1; cases h1
    | some p =>
      rw [hp] at h1 h2
      cases h1; cases h2
      have hlt := (List.getElem?_eq_some_iff.1 hp).1
      exact (hq i _ _ hp (List.getElem?_eq_getElem (by omega))).2
theorem _root_.Go.Eng.RSl.lo {v : V} {m n : Nat} (h : RSl v m) : Lo v n := by
  rcases h with ⟨rfl, _⟩ | ⟨b, o, c, rfl, _, _⟩ <;> intro id hid <;> cases hid
theorem big_of {m : Nat} (h : m ≤ maxLen) : m < big := by unfold maxLen at h; unfold big; omega
section
variable {G : Roms}
theorem fits_str {L : LV} (h : Fits G .str L) : ∃ s : St, s.ok ∧ L = [s.v] := by
  obtain ⟨s, _, rfl⟩ := h
  refine ⟨(s.length, enc s), fun h => ?_, rfl⟩
  have h : s.length = 0 := h
  have : s = [] := List.length_eq_zero_iff.1 h
  subst this; rfl
theorem fits_ty {L : LV} (h : Fits G tySh L) : ∃ t : Ty, t.nm.ok ∧ L = t.cells := by
  obtain ⟨a, r, rfl, ha, b, r2, rfl, hb, rfl⟩ := (show FitsL G [.str, .bool] L from h)
  obtain ⟨s, hs, rfl⟩ := fits_str ha
  obtain ⟨c, rfl⟩ := hb
  exact ⟨⟨s, c⟩, hs, rfl⟩
theorem fits_tys {L : LV} (h : Fits G (.sl 2 tySh) L) : ∃ v xs, L = [v] ∧ ∀ H n, TysAt G H n v xs := by
  obtain ⟨v, LS, rfl, hr, hel, hle, hall⟩ := h
  obtain ⟨xs, rfl, hok⟩ := pick_map (g := Ty.cells) (R := fun t => t.nm.ok) (LS := LS) fun L hL => by
    obtain ⟨t, h1, h2⟩ := fits_ty (hall L hL).2; exact ⟨t, h2, h1⟩
  exact ⟨v, xs, rfl, fun H n => ⟨hel H, hr.lo, big_of (by simpa using hle), hok⟩⟩
theorem fits_var {L : LV} (h : Fits G varSh L) : ∃ f : Fld, (f.nm.ok ∧ f.ty.nm.ok) ∧ L = f.cells := by
  obtain ⟨a, r, rfl, ha, b, r2, rfl, hb, rfl⟩ := (show FitsL G [.str, tySh] L from h)
  obtain ⟨s, hs, rfl⟩ := fits_str ha
  obtain ⟨t, ht, rfl⟩ := fits_ty hb
  exact ⟨⟨s, t⟩, ⟨hs, ht⟩, rfl⟩
theorem fits_vars {L : LV} (h : Fits G (.sl 3 varSh) L) : ∃ v xs, L = [v] ∧ ∀ H n, FldsAt G H n v xs := by
  obtain ⟨v, LS, rfl, hr, hel, hle, hall⟩ := h
  obtain ⟨xs, rfl, hok⟩ := pick_map (g := Fld.cells) (R := fun t => t.nm.ok ∧ t.ty.nm.ok) (LS := LS) fun L hL => by
    obtain ⟨t, h1, h2⟩ := fits_var (hall L hL).2; exact ⟨t, h2, h1⟩
  exact ⟨v, xs, rfl, fun H n => ⟨hel H, hr.lo, big_of (by simpa using hle), hok⟩⟩
theorem fits_sig {L : LV} (h : Fits G sigSh L) : ∃ (m : Meth) (w : V), L = m.cells w ∧ (∀ H n, TysAt G H n w m.ps) ∧ (m.nm.ok ∧ m.ret.nm.ok) := by
  obtain ⟨a, r, rfl, ha, b, r2, rfl, hb, c, r3, rfl, hc, d, r4, rfl, hd, rfl⟩ := (show FitsL G [.str, .bool, .sl 2 tySh, tySh] L from h)
  obtain ⟨s, hs, rfl⟩ := fits_str ha
  obtain ⟨t, rfl⟩ := hb
  obtain ⟨w, ps, rfl, hw⟩ := fits_tys hc
  obtain ⟨t2, ht, rfl⟩ := fits_ty hd
  exact ⟨⟨s, t, ps, t2⟩, w, rfl, hw, hs, ht⟩
theorem fits_sigs {L : LV} (h : Fits G (.sl 5 sigSh) L) : ∃ v ms ws, L = [v] ∧ ∀ H n, MethsAt G H n v ms ws := by
  obtain ⟨v, LS, rfl, hr, hel, hle, hall⟩ := h
  obtain ⟨ms, ws, h1, h2, rfl, hq⟩ := pick_zip (g := Meth.cells) (R := fun m w => (∀ H n, TysAt G H n w m.ps) ∧ (m.nm.ok ∧ m.ret.nm.ok)) (LS := LS) fun L hL => by
    obtain ⟨t, w, h1, h2⟩ := fits_sig (hall L hL).2; exact ⟨t, w, h1, h2⟩
  refine ⟨v, ms, ws, rfl, fun H n => ⟨hel H, hr.lo, big_of (by omega), h1, fun i m w a b => (hq i m w a b).1 H n, fun m hm => ?_⟩⟩
  obtain ⟨i, hi⟩ := List.mem_iff_getElem?.1 hm
  have hlt := (List.getElem?_eq_some_iff.1 hi).1
  exact (hq i m _ hi (List.getElem?_eq_getElem (by omega))).2
theorem fits_face {L : LV} (h : Fits G faceSh L) : ∃ (c : Fc) (vf vm : V) (ws : List V), L = [c.nm.v, c.sup.v, vf, vm] ∧ ∀ H n, FaceAt G H n [c.nm.v, c.sup.v, vf, vm] c vf vm ws := by
  obtain ⟨a, r, rfl, ha, b, r2, rfl, hb, c, r3, rfl, hc, d, r4, rfl, hd, rfl⟩ := (show FitsL G [.str, .str, .sl 3 varSh, .sl 5 sigSh] L from h)
  obtain ⟨s, hs, rfl⟩ := fits_str ha
  obtain ⟨u, hu, rfl⟩ := fits_str hb
  obtain ⟨vf, fs, rfl, hf⟩ := fits_vars hc
  obtain ⟨vm, ms, ws, rfl, hm⟩ := fits_sigs hd
  exact ⟨⟨s, u, fs, ms⟩, vf, vm, ws, rfl, fun H n => ⟨rfl, hf H n, hm H n, hs, hu⟩⟩
theorem fits_pool {L : LV} (h : Fits G poolSh L) : ∃ (p : Pool) (v0 v1 v2 v3 v4 : V) (ws : List V), L = [v0, v1, v2, v3, v4] ∧ ∀ H n, PoolAt G H n p v0 v1 v2 v3 v4 ws := by
  obtain ⟨a, r, rfl, ha, b, r2, rfl, hb, c, r3, rfl, hc, d, r4, rfl, hd, e, r5, rfl, he, rfl⟩ := (show FitsL G [.sl 1 (.int .i64), .sl 1 .str, .sl 2 tySh, .sl 4 (.st [varSh, .str]), .sl 6 (.st [sigSh, .str])] L from h)
  obtain ⟨v0, L0, rfl, r0, e0, l0, a0⟩ := ha
  obtain ⟨v1, L1, rfl, r1, e1, l1, a1⟩ := hb
  obtain ⟨v2, ts, rfl, h2⟩ := fits_tys hc
  obtain ⟨v3, L3, rfl, r3, e3, l3, a3⟩ := hd
  obtain ⟨v4, L4, rfl, r4, e4, l4, a4⟩ := he
  obtain ⟨ns, rfl, -⟩ := pick_map (g := fun a : Int => [V.int .i64 a 0]) (R := fun _ => True) (LS := L0) fun L hL => by
    obtain ⟨m, rfl⟩ := (a0 L hL).2; exact ⟨m, rfl, trivial⟩
  obtain ⟨ss, rfl, o1⟩ := pick_map (g := fun s : St => [s.v]) (R := fun s => s.ok) (LS := L1) fun L hL => by
    obtain ⟨s, hs, rfl⟩ := fits_str (a1 L hL).2; exact ⟨s, rfl, hs⟩
  obtain ⟨fs, rfl, o3⟩ := pick_map (g := PF.cells) (R := fun f => f.f.nm.ok ∧ f.f.ty.nm.ok ∧ f.own.ok) (LS := L3) fun L hL => by
    obtain ⟨a, r, rfl, ha, b, r2, rfl, hb, rfl⟩ := (show FitsL G [varSh, .str] L from (a3 L hL).2)
    obtain ⟨f, hf, rfl⟩ := fits_var ha
    obtain ⟨s, hs, rfl⟩ := fits_str hb
    exact ⟨⟨f, s⟩, rfl, hf.1, hf.2, hs⟩
  obtain ⟨ms, ws, q1, q2, rfl, hq⟩ := pick_zip (g := PM.cells) (R := fun m w => (∀ H n, TysAt G H n w m.m.ps) ∧ (m.m.nm.ok ∧ m.m.ret.nm.ok ∧ m.own.ok)) (LS := L4) fun L hL => by
    obtain ⟨a, r, rfl, ha, b, r2, rfl, hb, rfl⟩ := (show FitsL G [sigSh, .str] L from (a4 L hL).2)
    obtain ⟨m, w, rfl, hw, ho⟩ := fits_sig ha
    obtain ⟨s, hs, rfl⟩ := fits_str hb
    exact ⟨⟨m, s⟩, w, rfl, hw, ho.1, ho.2, hs⟩
  refine ⟨⟨ns, ss, ts, fs, ms⟩, v0, v1, v2, v3, v4, ws, rfl, fun H n => ⟨e0 H, r0.lo, big_of (by simpa using l0), e1 H, r1.lo, big_of (by simpa using l1), o1, h2 H n, e3 H, r3.lo, big_of (by simpa using l3), o3,
    e4 H, r4.lo, big_of (by show ms.length ≤ maxLen; omega), q1, fun i m w a b => (hq i m w a b).1 H n, fun m hm => ?_⟩⟩
  obtain ⟨i, hi⟩ := List.mem_iff_getElem?.1 hm
  have hlt : i < ms.length := (List.getElem?_eq_some_iff.1 hi).1
  exact (hq i m _ hi (List.getElem?_eq_getElem (by omega))).2
theorem fits_bodies {L : LV} (h : Fits G (.sl 3 bodySh) L) : ∃ v bs ws, L = [v] ∧ ∀ H n, BodiesAt G H n v bs ws := by
  obtain ⟨v, LS, rfl, hr, hel, hle, hall⟩ := h
  obtain ⟨bs, ws, h1, h2, rfl, hq⟩ := pick_zip (g := Bd.cells) (R := fun b w => ∀ H n, CodeAt G H n w b.code) (LS := LS) fun L hL => by
    obtain ⟨a, r, rfl, ha, b, r2, rfl, hb, c, r3, rfl, hc, rfl⟩ := (show FitsL G [.int .i64, .int .i64, .sl 2 insSh] L from (hall L hL).2)
    obtain ⟨x, rfl⟩ := ha
    obtain ⟨y, rfl⟩ := hb
    obtain ⟨w, LC, rfl, hr, hel, hle, hall⟩ := hc
    obtain ⟨is, rfl, -⟩ := pick_map (g := Ins.cells) (R := fun _ => True) (LS := LC) fun L hL => by
      obtain ⟨a, r, rfl, ha, b, r2, rfl, hb, rfl⟩ := (show FitsL G [.int .i64, .int .i64] L from (hall L hL).2)
      obtain ⟨x, rfl⟩ := ha
      obtain ⟨y, rfl⟩ := hb
      exact ⟨⟨x, y⟩, rfl, trivial⟩
    exact ⟨⟨x, y, is⟩, w, rfl, fun H n => ⟨hel H, hr.lo, big_of (by simpa using hle)⟩⟩
  exact ⟨v, bs, ws, rfl, fun H n => ⟨hel H, hr.lo, big_of (by omega), h1, fun i b w x y => hq i b w x y H n⟩⟩
theorem fits_file {L : LV} (h : Fits G fileSh L) : ∃ f : Fl, ∀ H n, FileV G H n (.agg L) f := by
  obtain ⟨a, r, rfl, ha, b, r2, rfl, hb, c, r3, rfl, hc, rfl⟩ := (show FitsL G [faceSh, poolSh, .sl 3 bodySh] L from h)
  obtain ⟨c, vf, vm, mws, rfl, hf⟩ := fits_face ha
  obtain ⟨p, v0, v1, v2, v3, v4, ws, rfl, hp⟩ := fits_pool hb
  obtain ⟨vb, bs, bws, rfl, hb⟩ := fits_bodies hc
  exact ⟨⟨c, p, bs⟩, fun H n => ⟨_, vf, vm, v0, v1, v2, v3, v4, vb, mws, ws, bws, ⟨rfl, hf H n, hp H n, hb H n⟩, rfl⟩⟩
theorem fits_files {L : LV} (h : Fits G (.sl 10 fileSh) L) : ∃ v fls, L = [v] ∧ RSl v fls.length ∧ ∀ H n, FilesV G H n v fls := by
  obtain ⟨v, LS, rfl, hr, hel, hle, hall⟩ := h
  obtain ⟨fls, hl, hq⟩ := pick (α := Fl) (Q := fun f L => ∀ H n, FileV G H n (.agg L) f) (LS := LS) fun L hL => fits_file (hall L hL).2
  exact ⟨v, fls, rfl, by rw [hl]; exact hr, fun H n => ⟨⟨LS, hel H, hl.symm, fun i L f a b => hq i f L b a H n⟩, hr.lo, big_of (by omega)⟩⟩
end
end Go.RL

