/- Part of a proof: texts PLA PLB PLC of the engine and what is proved with it; nothing is assumed. -/
import Derived.Test.YtcjkfmaoahojeaaDoorConA
set_option linter.unusedVariables false
set_option linter.unusedSimpArgs false
namespace Go.PQ
open Go.Eng
set_option maxRecDepth 100000
def zF : Bs -> Bs -> Bool
 | [], _ => true
 | _ :: _, [] => false
 | a :: p, c :: l => decide (a = c) && zF p l
theorem ADw : ∀ p l : Bs, pre p l = zF p l
 | [], l => by simp [pre, zF]
 | a :: p, [] => by simp [pre, zF]
 | a :: p, c :: l => by
  rw [show zF (a :: p) (c :: l) = (decide (a = c) && zF p l) from rfl, <- ADw p l, Bool.eq_iff_iff]
  simp only [pre, List.length_cons, List.take_succ_cons, Bool.and_eq_true, decide_eq_true_eq, List.cons.injEq]
  constructor
  ·rintro ⟨h, e, h2⟩; exact ⟨e.symm, by omega, h2⟩
  ·rintro ⟨e, h, h2⟩; exact ⟨by omega, e.symm, h2⟩
def XQ (m : Bs) (c : UInt8) : Bool := !((decide (m = TF) || (decide (m = Rx) || decide (m = Ua))) && decide (c = 61)) && !(decide (m = Qk) && decide (c = 47))
def Stop (p : UInt8 -> Bool) (r : Bs) : Prop := ∀ c l, r = c :: l -> p c = false
theorem AQP {p : UInt8 -> Bool} : Stop p [] := fun _ _ h => by cases h
theorem AN4 {p : UInt8 -> Bool} {c : UInt8} {l : Bs} (h : p c = false) : Stop p (c :: l) := fun _ _ e => by cases e; exact h
def AGw (m r : Bs) : Prop := EJ.find? (fun x => pre x (m ++ r)) = some m /\ pre [47, 47] (m ++ r) = false
theorem AED {m r : Bs} (hm : m ∈ EJ) (h : Stop (fun c => !XQ m c) r) : AGw m r := by
 unfold AGw
 simp only [ADw]
 unfold EJ at hm
 cases r with
 | nil =>
  simp only [List.append_nil]
  clear h
  revert m
  decide
 | cons c r =>
  have h : XQ m c = true := by have := h c r rfl; simpa using this
  simp only [List.mem_cons, List.not_mem_nil, or_false] at hm
  rcases hm with rfl|rfl|rfl|rfl|rfl|rfl|rfl|rfl|rfl|rfl|rfl|rfl|rfl|rfl|rfl|rfl|rfl|rfl|rfl|rfl|rfl|rfl <;> simp [EJ, List.find?, zF, XQ, Xb, lK, jQ, Wu, qK, Y0, CG, WG, Qk, jv, Ua, TF, Rx, JY, J8, kJ, lQ, J7, m_rc, Bc, Ob, ZT] at h ⊢ <;> simp [Ne.symm h]
structure zy (p : UInt8 -> Bool) (l : Bs) : Prop where
 hd : ∃ c t, l = c :: t /\ p c = true
 all : ∀ x ∈ l, inner x = true
 len : l.length <= 40
inductive Wf : Tok -> Prop
 | word {l : Bs} (h : l ∈ Ph) : Wf ⟨1, l, 0⟩
 | upper {l : Bs} (h : zy great l) : Wf ⟨2, l, 0⟩
 | lower {l : Bs} (h : zy small l) (hw : l ∉ Ph) : Wf ⟨3, l, 0⟩
 | num {l : Bs} {n : Nat} (h0 : l ≠ []) (h : ∀ x ∈ l, digit x = true) (hn : X4 0 l = some n) : Wf ⟨4, l, n⟩
 | mark {l : Bs} (h : l ∈ EJ) : Wf ⟨5, l, 0⟩
def J4 (t : Tok) (c : UInt8) : Bool := bif decide (t.kind = 5) then XQ t.text c else bif decide (t.kind = 4) then !digit c else !inner c
def Sep (t : Tok) (r : Bs) : Prop := Stop (fun c => !J4 t c) r
theorem PG {p : UInt8 -> Bool} : ∀ {l r : Bs}, (∀ x ∈ l, p x = true) -> Stop p r -> (l ++ r).takeWhile p = l
 | [], r, _, h => by
  cases r with
  | nil => rfl
  | cons c r => have := h c r rfl; simp [this]
 | c :: l, r, ha, h => by
  have hc := ha c (List.mem_cons_self ..)
  rw [List.cons_append, List.takeWhile_cons, hc]
  simp only [if_true]
  rw [PG (fun x hx => ha x (List.mem_cons_of_mem _ hx)) h]
theorem rG : ∀ l ∈ Ph, zy small l := by
 have h : (Ph.all fun l => (match l with | [] => false | c :: _ => small c) && l.all inner && decide (l.length <= 40)) = true := by decide
 intro l hl
 have := List.all_eq_true.1 h l hl
 simp only [Bool.and_eq_true, decide_eq_true_eq] at this
 obtain ⟨⟨h1, h2⟩, h3⟩ := this
 refine ⟨?_, List.all_eq_true.1 h2, h3⟩
 cases l with
 | nil => cases h1
 | cons c t => exact ⟨c, t, rfl, h1⟩
theorem ZQ {c : UInt8} (h : small c = true) : great c = false := by
 simp only [small, great, Bool.and_eq_true, decide_eq_true_eq, Bool.and_eq_false_iff, decide_eq_false_iff_not] at *; omega
theorem wR {c : UInt8} (h : digit c = true) : great c = false /\ small c = false := by
 simp only [small, great, digit, Bool.and_eq_true, decide_eq_true_eq, Bool.and_eq_false_iff, decide_eq_false_iff_not] at *; omega
theorem Uo {c : UInt8} (h : inner c = true) : blank c = false /\ c ≠ 47 := by
 have e : (47 : UInt8).toNat = 47 := rfl
 refine ⟨?_, fun hc => ?_⟩
 ·simp only [inner, small, great, digit, blank, Bool.or_eq_true, Bool.and_eq_true, decide_eq_true_eq, Bool.or_eq_false_iff, decide_eq_false_iff_not] at *; omega
 ·subst hc; simp only [inner, small, great, digit, e, Bool.or_eq_true, Bool.and_eq_true, decide_eq_true_eq] at h; omega
theorem Zr {c : UInt8} (h : digit c = true) : inner c = true := by simp [inner, h]
theorem ABu {c : UInt8} (h : great c = true) : inner c = true := by simp [inner, h]
theorem pR {c : UInt8} (h : small c = true) : inner c = true := by simp [inner, h]
theorem su : ∀ m ∈ EJ, ∃ c t, m = c :: t /\ inner c = false /\ blank c = false := by
 have h : (EJ.all fun l => (match l with | [] => false | c :: _ => !inner c && !blank c)) = true := by decide
 intro l hl
 have := List.all_eq_true.1 h l hl
 cases l with
 | nil => cases this
 | cons c t => exact ⟨c, t, rfl, by simpa using this⟩
theorem jc (c : UInt8) (l : Bs) : Gg (c :: l) = (bif great c then XL ⟨2, (c :: l).takeWhile inner, 0⟩ else
    bif small c then XL ⟨bif decide ((c :: l).takeWhile inner ∈ Ph) then 1 else 3, (c :: l).takeWhile inner, 0⟩ else
    bif digit c then (match X4 0 ((c :: l).takeWhile digit) with | none => (22, FM) | some n => (0, ⟨4, (c :: l).takeWhile digit, n⟩)) else
    match EJ.find? (fun m => pre m (c :: l)) with | none => (20, FM) | some m => (0, ⟨5, m, 0⟩)) := rfl
theorem ADT {t : Tok} (h : t.text.length <= 40) : XL t = (0, t) := by
 unfold XL; rw [decide_eq_false (by omega)]; rfl
theorem AKd {t : Tok} {r : Bs} (hw : Wf t) (hs : Sep t r) : Gg (t.text ++ r) = (0, t) := by
 cases hw with
 | word h =>
  rename_i l
  have hn := rG l h
  obtain ⟨c, q, rfl, hc⟩ := hn.hd
  have hsep : Stop inner r := fun a b e => by have := hs a b e; simpa [J4] using this
  have tw := PG hn.all hsep
  show Gg (c :: (q ++ r)) = _
  rw [jc, ZQ hc, hc, show (c :: (q ++ r)) = (c :: q) ++ r from rfl, tw, decide_eq_true h]
  exact ADT hn.len
 | upper hn =>
  rename_i l
  obtain ⟨c, q, rfl, hc⟩ := hn.hd
  have hsep : Stop inner r := fun a b e => by have := hs a b e; simpa [J4] using this
  have tw := PG hn.all hsep
  show Gg (c :: (q ++ r)) = _
  rw [jc, hc, show (c :: (q ++ r)) = (c :: q) ++ r from rfl, tw]
  exact ADT hn.len
 | lower hn hw =>
  rename_i l
  obtain ⟨c, q, rfl, hc⟩ := hn.hd
  have hsep : Stop inner r := fun a b e => by have := hs a b e; simpa [J4] using this
  have tw := PG hn.all hsep
  show Gg (c :: (q ++ r)) = _
  rw [jc, ZQ hc, hc, show (c :: (q ++ r)) = (c :: q) ++ r from rfl, tw, decide_eq_false hw]
  exact ADT hn.len
 | num h0 h hn =>
  rename_i l n
  cases l with
  | nil => exact absurd rfl h0
  | cons c q =>
   have hc := h c (List.mem_cons_self ..)
   have hsep : Stop digit r := fun a b e => by have := hs a b e; simpa [J4] using this
   have tw := PG h hsep
   show Gg (c :: (q ++ r)) = _
   rw [jc, (wR hc).1, (wR hc).2, hc, show (c :: (q ++ r)) = (c :: q) ++ r from rfl, tw, hn]
   rfl
 | mark h =>
  rename_i l
  have hsep : Stop (fun c => !XQ l c) r := fun a b e => by have := hs a b e; simpa [J4] using this
  have hm := (AED h hsep).1
  obtain ⟨c, q, rfl, hc, _⟩ := su l h
  simp only [inner, Bool.or_eq_false_iff] at hc
  show Gg (c :: (q ++ r)) = _
  rw [jc, hc.1, hc.2.1, hc.2.2.1, show (c :: (q ++ r)) = (c :: q) ++ r from rfl, hm]
  rfl
theorem zq (c : UInt8) (t : Bs) : Bz false (c :: t) = bif blank c then Bz false t else bif pre [47, 47] (c :: t) then Bz true t else c :: t := rfl
theorem AIQ {t : Tok} {r : Bs} (hw : Wf t) (hs : Sep t r) : Bz false (t.text ++ r) = t.text ++ r := by
 have key : ∀ {c : UInt8} {q : Bs}, t.text = c :: q -> inner c = true -> Bz false (t.text ++ r) = t.text ++ r := by
  intro c q e hc
  rw [e, List.cons_append, zq, (Uo hc).1, ADw]
  rw [show zF [47, 47] (c :: (q ++ r)) = (decide (47 = c) && zF [47] (q ++ r)) from rfl, decide_eq_false (fun h => (Uo hc).2 h.symm)]
  rfl
 cases hw with
 | word h => obtain ⟨c, q, e, hc⟩ := (rG _ h).hd; exact key e (pR hc)
 | upper hn => obtain ⟨c, q, e, hc⟩ := hn.hd; exact key e (ABu hc)
 | lower hn hw => obtain ⟨c, q, e, hc⟩ := hn.hd; exact key e (pR hc)
 | num h0 h hn =>
  rename_i l n
  cases l with
  | nil => exact absurd rfl h0
  | cons c q => exact key (c := c) (q := q) rfl (Zr (h c (List.mem_cons_self ..)))
 | mark h =>
  rename_i l
  have hsep : Stop (fun c => !XQ l c) r := fun a b e => by have := hs a b e; simpa [J4] using this
  have hm := (AED h hsep).2
  obtain ⟨c, q, rfl, hc, hb⟩ := su l h
  show Bz false (c :: (q ++ r)) = _
  rw [zq, hb, show (c :: (q ++ r)) = (c :: q) ++ r from rfl, hm]
  rfl
def Gap (g : Bs) : Prop := ∀ r, Bz false (g ++ r) = Bz false r
theorem qX : Gap [] := fun _ => rfl
theorem AKT {a b : Bs} (ha : Gap a) (hb : Gap b) : Gap (a ++ b) := fun r => by rw [List.append_assoc, ha, hb]
theorem yM {c : UInt8} (h : blank c = true) : Gap [c] := fun r => by rw [List.singleton_append, zq, h]; rfl
theorem ADL : ∀ {l : Bs}, (∀ c ∈ l, blank c = true) -> Gap l
 | [], _ => qX
 | c :: _, h => AKT (a := [c]) (yM (h c (List.mem_cons_self ..))) (ADL fun x hx => h x (List.mem_cons_of_mem _ hx))
theorem ABy : ∀ (t r : Bs), (∀ c ∈ t, c ≠ 10) -> Bz true (t ++ 10 :: r) = Bz false r
 | [], r, _ => by show (bif decide ((10 : UInt8).toNat = 10) then Bz false r else Bz true r) = _; rfl
 | c :: t, r, h => by
  have hc : c.toNat ≠ 10 := fun e => h c (List.mem_cons_self ..) (UInt8.toNat_inj.1 e)
  show (bif decide (c.toNat = 10) then Bz false (t ++ 10 :: r) else Bz true (t ++ 10 :: r)) = _
  rw [decide_eq_false hc]
  exact ABy t r fun x hx => h x (List.mem_cons_of_mem _ hx)
theorem ARQ {t : Bs} (h : ∀ c ∈ t, c ≠ 10) : Gap (47 :: 47 :: (t ++ [10])) := fun r => by
 rw [show (47 :: 47 :: (t ++ [10])) ++ r = 47 :: ((47 :: t) ++ 10 :: r) by simp, zq, ADw]
 exact ABy (47 :: t) r fun c hc => by
  cases hc with
  | head => decide
  | tail _ hc => exact h c hc
def IZ (s : Bs) (ts : List Tok) : Prop := ∀ f, s.length < f -> kY f s = (0, ts)
theorem yS (f : Nat) (r : Bs) : kY (f + 1) r = bif decide ((Gg (Bz false r)).1 = 0) then
      bif decide ((Gg (Bz false r)).2.kind = 0) then (0, [(Gg (Bz false r)).2])
      else ((kY f ((Bz false r).drop (Gg (Bz false r)).2.text.length)).1, (Gg (Bz false r)).2 :: (kY f ((Bz false r).drop (Gg (Bz false r)).2.text.length)).2)
    else ((Gg (Bz false r)).1, []) := rfl
theorem zC {g : Bs} (hg : Gap g) : IZ g [FM] := fun f h => by
 cases f with
 | zero => omega
 | succ f =>
  have e : Bz false g = [] := by have := hg []; rw [List.append_nil] at this; exact this
  rw [yS, e]; rfl
theorem Wf.kd {t : Tok} (h : Wf t) : t.kind ≠ 0 := by cases h <;> simp
theorem Wf.ne {t : Tok} (h : Wf t) : 0 < t.text.length := by
 cases h with
 | word h => obtain ⟨c, q, e, hc⟩ := (rG _ h).hd; rw [e]; simp
 | upper hn => obtain ⟨c, q, e, hc⟩ := hn.hd; rw [e]; simp
 | lower hn hw => obtain ⟨c, q, e, hc⟩ := hn.hd; rw [e]; simp
 | num h0 h hn => rename_i l n; cases l with
  | nil => exact absurd rfl h0
  | cons c q => simp
 | mark h => obtain ⟨c, q, e, hc⟩ := su _ h; rw [e]; simp
theorem AD2 {g : Bs} {t : Tok} {r : Bs} {ts : List Tok} (hg : Gap g) (hw : Wf t) (hs : Sep t r) (h : IZ r ts) : IZ (g ++ (t.text ++ r)) (t :: ts) := fun f hf => by
 have hl := hw.ne
 simp only [List.length_append] at hf
 cases f with
 | zero => omega
 | succ f =>
  rw [yS, hg, AIQ hw hs, AKd hw hs]
  show (bif true then bif decide (t.kind = 0) then (0, [t]) else ((kY f ((t.text ++ r).drop t.text.length)).1, t :: (kY f ((t.text ++ r).drop t.text.length)).2) else (0, [])) = _
  rw [decide_eq_false hw.kd, List.drop_left, h f (by omega)]
  rfl
theorem AIs {s : Bs} {ts : List Tok} (h : IZ s ts) (hs : s.length <= 65536) : vw s = (0, ts) := by
 unfold vw; rw [decide_eq_false (by omega)]; exact h _ (by omega)
end Go.PQ
namespace Go.PQ
open Go.Eng
set_option maxRecDepth 100000
def free (c : UInt8) : Bool := !inner c && !decide (c = 61) && !decide (c = 47)
theorem ACv {t : Tok} {c : UInt8} (h : free c = true) : J4 t c = true := by
 simp only [free, Bool.and_eq_true, Bool.not_eq_true', decide_eq_false_iff_not] at h
 have hd : digit c = false := by cases hd : digit c with
  | false => rfl
  | true => rw [Zr hd] at h; simp at h
 unfold J4 XQ
 rw [h.1.1, hd, decide_eq_false h.1.2, decide_eq_false h.2]
 cases decide (t.kind = 5) <;> cases decide (t.kind = 4) <;> simp
theorem AKv {t : Tok} {c : UInt8} (ht : t.kind = 5) (h : inner c = true) : J4 t c = true := by
 have h1 : c ≠ 61 := fun e => by subst e; revert h; decide
 have h2 := (Uo h).2
 unfold J4 XQ
 rw [ht, decide_eq_false h1, decide_eq_false h2]; simp
theorem AK5 {t : Tok} {c : UInt8} (ht : t.kind ≠ 5) (h : inner c = false) : J4 t c = true := by
 have hd : digit c = false := by cases hd : digit c with
  | false => rfl
  | true => rw [Zr hd] at h; cases h
 unfold J4
 rw [decide_eq_false ht, h, hd]; cases decide (t.kind = 4) <;> rfl
def ADH (t : Tok) : Bs -> Bool
 | [] => true
 | c :: _ => J4 t c
theorem AGK {t : Tok} {r : Bs} (h : ADH t r = true) : Sep t r := fun c l e => by subst e; simpa [ADH] using h
theorem AQp {t : Tok} {c : UInt8} {a r : Bs} : ADH t ((c :: a) ++ r) = J4 t c := rfl
def txt : List (Bs × Tok) -> Bs -> Bs
 | [], g => g
 | p :: l, g => p.1 ++ (p.2.text ++ txt l g)
def Good : List (Bs × Tok) -> Bs -> Prop
 | [], g => Gap g
 | p :: l, g => Gap p.1 /\ Wf p.2 /\ ADH p.2 (txt l g) = true /\ Good l g
theorem AIo : ∀ {l : List (Bs × Tok)} {g : Bs}, Good l g -> IZ (txt l g) (l.map Prod.snd ++ [FM])
 | [], _, h => zC h
 | _ :: _, _, h => AD2 h.1 h.2.1 (AGK h.2.2.1) (AIo h.2.2.2)
theorem AKe : ∀ (a b : List (Bs × Tok)) (g : Bs), txt (a ++ b) g = txt a (txt b g)
 | [], _, _ => rfl
 | _ :: a, b, g => by rw [List.cons_append, txt, txt, AKe a b g]
def W (l : Bs) : Tok := ⟨1, l, 0⟩
def U (l : Bs) : Tok := ⟨2, l, 0⟩
def L (l : Bs) : Tok := ⟨3, l, 0⟩
def N (l : Bs) (n : Nat) : Tok := ⟨4, l, n⟩
def M (l : Bs) : Tok := ⟨5, l, 0⟩
end Go.PQ
namespace Go.PQ
open Go.Eng
set_option maxRecDepth 100000
section
variable {t u : Tok} {r : List Tok} {d : Nat}
theorem LU {w : Bs} {l : Bs} : PV w ⟨M l, r, d, 0⟩ = decide (l = w) := rfl
theorem AHt {w : Bs} {l : Bs} : PV w ⟨W l, r, d, 0⟩ = decide (l = w) := rfl
theorem AAd {w : Bs} (h1 : t.kind ≠ 1) (h5 : t.kind ≠ 5) : PV w ⟨t, r, d, 0⟩ = false := by simp [PV, h1, h5]
theorem Hu {w : Bs} {s : S} (h : s.e ≠ 0) : PV w s = false := by simp [PV, S.ok, h]
theorem AEH (h : t.kind ≠ 0) : LY ⟨t, u :: r, d, 0⟩ = some ⟨u, r, d, 0⟩ := by simp [LY, h]
theorem AB6 {w : Bs} (h : PV w ⟨t, u :: r, d, 0⟩ = true) (hk : t.kind ≠ 0) : C9 w ⟨t, u :: r, d, 0⟩ = some (true, ⟨u, r, d, 0⟩) := by unfold C9; rw [h, AEH hk]; rfl
theorem jr {w : Bs} {s : S} (h : PV w s = false) : C9 w s = some (false, s) := by unfold C9; rw [h]; rfl
theorem AEm {l : Bs} : C9 l ⟨M l, u :: r, d, 0⟩ = some (true, ⟨u, r, d, 0⟩) := AB6 (by rw [LU]; simp) (by simp [M])
theorem AE6 {l : Bs} : C9 l ⟨W l, u :: r, d, 0⟩ = some (true, ⟨u, r, d, 0⟩) := AB6 (by rw [AHt]; simp) (by simp [W])
theorem ABQ {w : Bs} {s : S} {s' : S} (h : C9 w s = some (true, s')) : DI [w] s = some s' := by unfold DI; rw [h]; rfl
theorem l7 {l : Bs} : DI [l] ⟨M l, u :: r, d, 0⟩ = some ⟨u, r, d, 0⟩ := ABQ AEm
theorem AOH {l : Bs} : DI [l] ⟨W l, u :: r, d, 0⟩ = some ⟨u, r, d, 0⟩ := ABQ AE6
theorem qm {ws : List Bs} {s : S} (h : ∀ w ∈ ws, PV w s = false) : Ov ws s = false := by
 unfold Ov; rw [Bool.eq_false_iff]; intro hc
 obtain ⟨w, hw, h2⟩ := List.any_eq_true.1 hc
 rw [h w hw] at h2; cases h2
theorem ADv {k : Nat} {l : Bs} {n : Nat} (hk : k ≠ 0) : Ii k ⟨⟨k, l, n⟩, u :: r, d, 0⟩ = some (l, ⟨u, r, d, 0⟩) := by
 unfold Ii; rw [AEH (t := ⟨k, l, n⟩) hk]; simp [S.ok]
theorem ASw {l : Bs} : Ii 3 ⟨L l, u :: r, d, 0⟩ = some (l, ⟨u, r, d, 0⟩) := ADv (by decide)
theorem ATD {l : Bs} : Ii 2 ⟨U l, u :: r, d, 0⟩ = some (l, ⟨u, r, d, 0⟩) := ADv (by decide)
theorem Sv (h : d < 100) : Ro ⟨t, r, d, 0⟩ = some ⟨t, r, d + 1, 0⟩ := by
 unfold Ro; simp only
 rw [decide_eq_true (show d < 1000000 by omega), decide_eq_false (show ¬ 100 < d + 1 by omega)]; rfl
theorem kC (h : d < 1000000) : bM ⟨t, r, d + 1, 0⟩ = some ⟨t, r, d, 0⟩ := by
 unfold bM; simp only [h, decide_true, cond_true]
end
def opsL : List Bs := [qK, Wu, Xb, lK, Ua, jQ, Y0, CG, WG, Qk, jv, ABE, qI]
def AP8 : List Bs := [kJ, ZT]
def fB (s : S) : Prop := ∀ w ∈ opsL, PV w s = false
def nX (s : S) : Prop := ∀ w ∈ AP8, PV w s = false
theorem fB.of {s : S} (h : fB s) (ws : List Bs) (hs : ∀ w ∈ ws, w ∈ opsL) : Ov ws s = false := qm fun w hw => h w (hs w hw)
theorem ANt {f : Nat} {e : Ex} {s : S} (h : fB s) : asL (f + 1) e s = some (e, s) := by
 show (bif Ov [ABE, qI] s then _ else some (e, s)) = _
 rw [h.of _ (by decide)]; rfl
theorem yK {ws : List Bs} {nx : PM Ex} {f : Nat} {e : Ex} {s : S} (h : fB s) (hs : ∀ w ∈ ws, w ∈ opsL) : nN ws nx (f + 1) e s = some (e, s) := by
 show (bif Ov ws s then _ else some (e, s)) = _
 rw [h.of _ hs]; rfl
theorem uG {k : Nat} {w : Bs} {nx : PM Ex} {f : Nat} {e : Ex} {s : S} (h : fB s) (hs : w ∈ opsL) : dU k w nx (f + 1) e s = some (e, s) := by
 show (bif Ov [w] s then _ else some (e, s)) = _
 rw [h.of _ (fun x hx => by rw [List.mem_singleton.1 hx]; exact hs)]; rfl
theorem AFJ {un : PM Ex} {f : Nat} {s s' : S} {e : Ex} (h : un s = some (e, s')) (hn : fB s') : signs [WG, Qk, jv] un (f + 1) s = some (e, s') := by
 unfold signs; rw [h]; exact yK hn (by decide)
theorem AFj {un : PM Ex} {f : Nat} {s s' : S} {e : Ex} (h : un s = some (e, s')) (hn : fB s') : sumP un (f + 1) s = some (e, s') := by
 unfold sumP; rw [signs, AFJ h hn]; exact yK hn (by decide)
theorem AGJ {un : PM Ex} {f : Nat} {s s' : S} {e : Ex} (h : un s = some (e, s')) (hn : fB s') : compared un (f + 1) s = some (e, s') := by
 unfold compared; rw [AFj h hn]
 show (bif Ov [Xb, lK, Ua, jQ] s' then _ else some (e, s')) = _
 rw [hn.of _ (by decide)]; rfl
theorem AHs {un : PM Ex} {f : Nat} {s s' : S} {e : Ex} (h : un s = some (e, s')) (hn : fB s') : either 17 Wu (compared un (f + 1)) (f + 1) s = some (e, s') := by
 unfold either; rw [AGJ h hn]; exact uG hn (by decide)
theorem AJn {un : PM Ex} {f : Nat} {s s' : S} {e : Ex} (h : un s = some (e, s')) (hn : fB s') : either 18 qK (either 17 Wu (compared un (f + 1)) (f + 1)) (f + 1) s = some (e, s') := by
 unfold either; rw [<- either, AHs h hn]; exact uG hn (by decide)
theorem OX {f : Nat} {s s1 s2 s3 : S} {e : Ex} (hd : Ro s = some s1) (h : unary (expr (f + 1)) (f + 1) s1 = some (e, s2)) (hn : fB s2) (hu : bM s2 = some s3) : expr (f + 2) s = some (e, s3) := by
 show ABS (expr (f + 1)) (f + 1) s = _
 unfold ABS; rw [hd]
 show ((either 18 qK (either 17 Wu (compared (unary (expr (f + 1)) (f + 1)) (f + 1)) (f + 1)) (f + 1) s1).bind fun p => (bM p.2).bind fun s' => some (p.1, s')) = _
 rw [AJn h hn]
 show ((bM s2).bind fun s' => some (e, s')) = _
 rw [hu]; rfl
theorem Ju {rec : PM Ex} {f : Nat} {s s' : S} {e : Ex} (h1 : PV CG s = false) (h2 : PV Rx s = false) (h : bG rec (f + 1) s = some (e, s')) (hn : fB s') : unary rec (f + 2) s = some (e, s') := by
 show (bif Ov [CG] s then _ else bif Ov [Rx] s then _ else (bG rec (f + 1) s).bind fun p => asL (f + 1) p.1 p.2) = _
 rw [qm (ws := [CG]) fun w hw => by rw [List.mem_singleton.1 hw]; exact h1, qm (ws := [Rx]) fun w hw => by rw [List.mem_singleton.1 hw]; exact h2, h]
 exact ANt hn
theorem AE3 {rec : PM Ex} {f : Nat} {e : Ex} {s : S} (h : nX s) : Y7 rec (f + 1) e s = some (e, s) := by
 show ((C9 kJ s).bind fun p => bif p.1 then _ else (C9 ZT p.2).bind fun p => bif p.1 then _ else some (e, p.2)) = _
 rw [jr (h kJ (by decide))]
 show ((C9 ZT s).bind fun p => bif p.1 then _ else some (e, p.2)) = _
 rw [jr (h ZT (by decide))]; rfl
theorem MH {rec : PM Ex} {f : Nat} {s s' : S} {e : Ex} (h : YE rec (f + 1) s = some (e, s')) (hn : nX s') : bG rec (f + 1) s = some (e, s') := by
 unfold bG; rw [h]; exact AE3 hn
section
variable {rec : PM Ex} {f d : Nat} {u : Tok} {r : List Tok}
theorem AB3 {l : Bs} {n : Nat} : YE rec f ⟨N l n, u :: r, d, 0⟩ = some (.mk 1 n [] [] false [], ⟨u, r, d, 0⟩) := rfl
theorem ALW {l : Bs} : YE rec f ⟨L l, u :: r, d, 0⟩ = some (.mk 6 0 l [] false [], ⟨u, r, d, 0⟩) := rfl
theorem yF : YE rec f ⟨W Vx, u :: r, d, 0⟩ = some (.mk 2 0 [] [] false [], ⟨u, r, d, 0⟩) := rfl
theorem ANO : YE rec f ⟨W jm, u :: r, d, 0⟩ = some (.mk 3 0 [] [] false [], ⟨u, r, d, 0⟩) := rfl
theorem AN3 : YE rec f ⟨W rE, u :: r, d, 0⟩ = some (.mk 4 0 [] [] false [], ⟨u, r, d, 0⟩) := rfl
theorem AN0 : YE rec f ⟨W uM, u :: r, d, 0⟩ = some (.mk 5 0 [] [] false [], ⟨u, r, d, 0⟩) := rfl
theorem AKW {e : Ex} {v : Tok} {q : List Tok} {d' : Nat} (h : rec ⟨u, r, d, 0⟩ = some (e, ⟨M J8, v :: q, d', 0⟩)) : YE rec f ⟨M JY, u :: r, d, 0⟩ = some (e, ⟨v, q, d', 0⟩) := by
 show ((rec ⟨u, r, d, 0⟩).bind fun x => (DI [J8] x.2).bind fun s1 => some (x.1, s1)) = _
 rw [h]
 show ((DI [J8] ⟨M J8, v :: q, d', 0⟩).bind fun s1 => some (e, s1)) = _
 rw [l7]; rfl
theorem uq {s : S} (h : s.e ≠ 0) : YE rec f s = some (.mk 0 0 [] [] false [], s) := by
 unfold YE; rw [show s.ok = false by simp [S.ok, h]]; rfl
end
end Go.PQ
