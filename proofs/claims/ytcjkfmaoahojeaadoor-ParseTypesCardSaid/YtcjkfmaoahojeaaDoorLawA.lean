/- Part of a proof: texts PLA PLB PLC of the engine and what is proved with it; nothing is assumed. -/
import Derived.Test.YtcjkfmaoahojeaaDoorConA
set_option linter.unusedVariables false
set_option linter.unusedSimpArgs false
namespace Go.PQ
open Go.Eng
set_option maxRecDepth 100000
def AAC : Bs -> Bs -> Bool
 | [], _ => true
 | _ :: _, [] => false
 | a :: p, c :: l => decide (a = c) && AAC p l
theorem ADR : ∀ p l : Bs, pre p l = AAC p l
 | [], l => by simp [pre, AAC]
 | a :: p, [] => by simp [pre, AAC]
 | a :: p, c :: l => by
  rw [show AAC (a :: p) (c :: l) = (decide (a = c) && AAC p l) from rfl, <- ADR p l, Bool.eq_iff_iff]
  simp only [pre, List.length_cons, List.take_succ_cons, Bool.and_eq_true, decide_eq_true_eq, List.cons.injEq]
  constructor
  ·rintro ⟨h, e, h2⟩; exact ⟨e.symm, by omega, h2⟩
  ·rintro ⟨e, h, h2⟩; exact ⟨by omega, e.symm, h2⟩
def XH (m : Bs) (c : UInt8) : Bool := !((decide (m = O5) || (decide (m = RJ) || decide (m = Vb))) && decide (c = 61)) && !(decide (m = SA) && decide (c = 47))
def Stop (p : UInt8 -> Bool) (r : Bs) : Prop := ∀ c l, r = c :: l -> p c = false
theorem AQR {p : UInt8 -> Bool} : Stop p [] := fun _ _ h => by cases h
theorem ANp {p : UInt8 -> Bool} {c : UInt8} {l : Bs} (h : p c = false) : Stop p (c :: l) := fun _ _ e => by cases e; exact h
def AG7 (m r : Bs) : Prop := D9.find? (fun x => pre x (m ++ r)) = some m /\ pre [47, 47] (m ++ r) = false
theorem AD6 {m r : Bs} (hm : m ∈ D9) (h : Stop (fun c => !XH m c) r) : AG7 m r := by
 unfold AG7
 simp only [ADR]
 unfold D9 at hm
 cases r with
 | nil =>
  simp only [List.append_nil]
  clear h
  revert m
  decide
 | cons c r =>
  have h : XH m c = true := by have := h c r rfl; simpa using this
  simp only [List.mem_cons, List.not_mem_nil, or_false] at hm
  rcases hm with rfl|rfl|rfl|rfl|rfl|rfl|rfl|rfl|rfl|rfl|rfl|rfl|rfl|rfl|rfl|rfl|rfl|rfl|rfl|rfl|rfl|rfl <;> simp [D9, List.find?, AAC, XH, YH, kY, kG, kP, ACJ, bP, CO, XL, SA, oZ, Vb, O5, RJ, IL, Ik, V4, XC, G5, m_rc, BQ, OM, ZB] at h ⊢ <;> simp [Ne.symm h]
structure zN (p : UInt8 -> Bool) (l : Bs) : Prop where
 hd : ∃ c t, l = c :: t /\ p c = true
 all : ∀ x ∈ l, inner x = true
 len : l.length <= 40
inductive Wf : Tok -> Prop
 | word {l : Bs} (h : l ∈ PU) : Wf ⟨1, l, 0⟩
 | upper {l : Bs} (h : zN great l) : Wf ⟨2, l, 0⟩
 | lower {l : Bs} (h : zN small l) (hw : l ∉ PU) : Wf ⟨3, l, 0⟩
 | num {l : Bs} {n : Nat} (h0 : l ≠ []) (h : ∀ x ∈ l, digit x = true) (hn : Xn 0 l = some n) : Wf ⟨4, l, n⟩
 | mark {l : Bs} (h : l ∈ D9) : Wf ⟨5, l, 0⟩
def I7 (t : Tok) (c : UInt8) : Bool := bif decide (t.kind = 5) then XH t.text c else bif decide (t.kind = 4) then !digit c else !inner c
def Sep (t : Tok) (r : Bs) : Prop := Stop (fun c => !I7 t c) r
theorem Oy {p : UInt8 -> Bool} : ∀ {l r : Bs}, (∀ x ∈ l, p x = true) -> Stop p r -> (l ++ r).takeWhile p = l
 | [], r, _, h => by
  cases r with
  | nil => rfl
  | cons c r => have := h c r rfl; simp [this]
 | c :: l, r, ha, h => by
  have hc := ha c (List.mem_cons_self ..)
  rw [List.cons_append, List.takeWhile_cons, hc]
  simp only [if_true]
  rw [Oy (fun x hx => ha x (List.mem_cons_of_mem _ hx)) h]
theorem uX : ∀ l ∈ PU, zN small l := by
 have h : (PU.all fun l => (match l with | [] => false | c :: _ => small c) && l.all inner && decide (l.length <= 40)) = true := by decide
 intro l hl
 have := List.all_eq_true.1 h l hl
 simp only [Bool.and_eq_true, decide_eq_true_eq] at this
 obtain ⟨⟨h1, h2⟩, h3⟩ := this
 refine ⟨?_, List.all_eq_true.1 h2, h3⟩
 cases l with
 | nil => cases h1
 | cons c t => exact ⟨c, t, rfl, h1⟩
theorem ZM {c : UInt8} (h : small c = true) : great c = false := by
 simp only [small, great, Bool.and_eq_true, decide_eq_true_eq, Bool.and_eq_false_iff, decide_eq_false_iff_not] at *; omega
theorem wu {c : UInt8} (h : digit c = true) : great c = false /\ small c = false := by
 simp only [small, great, digit, Bool.and_eq_true, decide_eq_true_eq, Bool.and_eq_false_iff, decide_eq_false_iff_not] at *; omega
theorem UQ {c : UInt8} (h : inner c = true) : blank c = false /\ c ≠ 47 := by
 have e : (47 : UInt8).toNat = 47 := rfl
 refine ⟨?_, fun hc => ?_⟩
 ·simp only [inner, small, great, digit, blank, Bool.or_eq_true, Bool.and_eq_true, decide_eq_true_eq, Bool.or_eq_false_iff, decide_eq_false_iff_not] at *; omega
 ·subst hc; simp only [inner, small, great, digit, e, Bool.or_eq_true, Bool.and_eq_true, decide_eq_true_eq] at h; omega
theorem aZ {c : UInt8} (h : digit c = true) : inner c = true := by simp [inner, h]
theorem AAt {c : UInt8} (h : great c = true) : inner c = true := by simp [inner, h]
theorem oW {c : UInt8} (h : small c = true) : inner c = true := by simp [inner, h]
theorem tV : ∀ m ∈ D9, ∃ c t, m = c :: t /\ inner c = false /\ blank c = false := by
 have h : (D9.all fun l => (match l with | [] => false | c :: _ => !inner c && !blank c)) = true := by decide
 intro l hl
 have := List.all_eq_true.1 h l hl
 cases l with
 | nil => cases this
 | cons c t => exact ⟨c, t, rfl, by simpa using this⟩
theorem jA (c : UInt8) (l : Bs) : F9 (c :: l) = (bif great c then XT ⟨2, (c :: l).takeWhile inner, 0⟩ else
    bif small c then XT ⟨bif decide ((c :: l).takeWhile inner ∈ PU) then 1 else 3, (c :: l).takeWhile inner, 0⟩ else
    bif digit c then (match Xn 0 ((c :: l).takeWhile digit) with | none => (22, FP) | some n => (0, ⟨4, (c :: l).takeWhile digit, n⟩)) else
    match D9.find? (fun m => pre m (c :: l)) with | none => (20, FP) | some m => (0, ⟨5, m, 0⟩)) := rfl
theorem AB3 {t : Tok} (h : t.text.length <= 40) : XT t = (0, t) := by
 unfold XT; rw [decide_eq_false (by omega)]; rfl
theorem AKG {t : Tok} {r : Bs} (hw : Wf t) (hs : Sep t r) : F9 (t.text ++ r) = (0, t) := by
 cases hw with
 | word h =>
  rename_i l
  have hn := uX l h
  obtain ⟨c, q, rfl, hc⟩ := hn.hd
  have hsep : Stop inner r := fun a b e => by have := hs a b e; simpa [I7] using this
  have tw := Oy hn.all hsep
  show F9 (c :: (q ++ r)) = _
  rw [jA, ZM hc, hc, show (c :: (q ++ r)) = (c :: q) ++ r from rfl, tw, decide_eq_true h]
  exact AB3 hn.len
 | upper hn =>
  rename_i l
  obtain ⟨c, q, rfl, hc⟩ := hn.hd
  have hsep : Stop inner r := fun a b e => by have := hs a b e; simpa [I7] using this
  have tw := Oy hn.all hsep
  show F9 (c :: (q ++ r)) = _
  rw [jA, hc, show (c :: (q ++ r)) = (c :: q) ++ r from rfl, tw]
  exact AB3 hn.len
 | lower hn hw =>
  rename_i l
  obtain ⟨c, q, rfl, hc⟩ := hn.hd
  have hsep : Stop inner r := fun a b e => by have := hs a b e; simpa [I7] using this
  have tw := Oy hn.all hsep
  show F9 (c :: (q ++ r)) = _
  rw [jA, ZM hc, hc, show (c :: (q ++ r)) = (c :: q) ++ r from rfl, tw, decide_eq_false hw]
  exact AB3 hn.len
 | num h0 h hn =>
  rename_i l n
  cases l with
  | nil => exact absurd rfl h0
  | cons c q =>
   have hc := h c (List.mem_cons_self ..)
   have hsep : Stop digit r := fun a b e => by have := hs a b e; simpa [I7] using this
   have tw := Oy h hsep
   show F9 (c :: (q ++ r)) = _
   rw [jA, (wu hc).1, (wu hc).2, hc, show (c :: (q ++ r)) = (c :: q) ++ r from rfl, tw, hn]
   rfl
 | mark h =>
  rename_i l
  have hsep : Stop (fun c => !XH l c) r := fun a b e => by have := hs a b e; simpa [I7] using this
  have hm := (AD6 h hsep).1
  obtain ⟨c, q, rfl, hc, _⟩ := tV l h
  simp only [inner, Bool.or_eq_false_iff] at hc
  show F9 (c :: (q ++ r)) = _
  rw [jA, hc.1, hc.2.1, hc.2.2.1, show (c :: (q ++ r)) = (c :: q) ++ r from rfl, hm]
  rfl
theorem yY (c : UInt8) (t : Bs) : Bg false (c :: t) = bif blank c then Bg false t else bif pre [47, 47] (c :: t) then Bg true t else c :: t := rfl
theorem AHz {t : Tok} {r : Bs} (hw : Wf t) (hs : Sep t r) : Bg false (t.text ++ r) = t.text ++ r := by
 have key : ∀ {c : UInt8} {q : Bs}, t.text = c :: q -> inner c = true -> Bg false (t.text ++ r) = t.text ++ r := by
  intro c q e hc
  rw [e, List.cons_append, yY, (UQ hc).1, ADR]
  rw [show AAC [47, 47] (c :: (q ++ r)) = (decide (47 = c) && AAC [47] (q ++ r)) from rfl, decide_eq_false (fun h => (UQ hc).2 h.symm)]
  rfl
 cases hw with
 | word h => obtain ⟨c, q, e, hc⟩ := (uX _ h).hd; exact key e (oW hc)
 | upper hn => obtain ⟨c, q, e, hc⟩ := hn.hd; exact key e (AAt hc)
 | lower hn hw => obtain ⟨c, q, e, hc⟩ := hn.hd; exact key e (oW hc)
 | num h0 h hn =>
  rename_i l n
  cases l with
  | nil => exact absurd rfl h0
  | cons c q => exact key (c := c) (q := q) rfl (aZ (h c (List.mem_cons_self ..)))
 | mark h =>
  rename_i l
  have hsep : Stop (fun c => !XH l c) r := fun a b e => by have := hs a b e; simpa [I7] using this
  have hm := (AD6 h hsep).2
  obtain ⟨c, q, rfl, hc, hb⟩ := tV l h
  show Bg false (c :: (q ++ r)) = _
  rw [yY, hb, show (c :: (q ++ r)) = (c :: q) ++ r from rfl, hm]
  rfl
def Gap (g : Bs) : Prop := ∀ r, Bg false (g ++ r) = Bg false r
theorem qU : Gap [] := fun _ => rfl
theorem AKH {a b : Bs} (ha : Gap a) (hb : Gap b) : Gap (a ++ b) := fun r => by rw [List.append_assoc, ha, hb]
theorem wL {c : UInt8} (h : blank c = true) : Gap [c] := fun r => by rw [List.singleton_append, yY, h]; rfl
theorem ACy : ∀ {l : Bs}, (∀ c ∈ l, blank c = true) -> Gap l
 | [], _ => qU
 | c :: _, h => AKH (a := [c]) (wL (h c (List.mem_cons_self ..))) (ACy fun x hx => h x (List.mem_cons_of_mem _ hx))
theorem ABA : ∀ (t r : Bs), (∀ c ∈ t, c ≠ 10) -> Bg true (t ++ 10 :: r) = Bg false r
 | [], r, _ => by show (bif decide ((10 : UInt8).toNat = 10) then Bg false r else Bg true r) = _; rfl
 | c :: t, r, h => by
  have hc : c.toNat ≠ 10 := fun e => h c (List.mem_cons_self ..) (UInt8.toNat_inj.1 e)
  show (bif decide (c.toNat = 10) then Bg false (t ++ 10 :: r) else Bg true (t ++ 10 :: r)) = _
  rw [decide_eq_false hc]
  exact ABA t r fun x hx => h x (List.mem_cons_of_mem _ hx)
theorem AQm {t : Bs} (h : ∀ c ∈ t, c ≠ 10) : Gap (47 :: 47 :: (t ++ [10])) := fun r => by
 rw [show (47 :: 47 :: (t ++ [10])) ++ r = 47 :: ((47 :: t) ++ 10 :: r) by simp, yY, ADR]
 exact ABA (47 :: t) r fun c hc => by
  cases hc with
  | head => decide
  | tail _ hc => exact h c hc
def Hu (s : Bs) (ts : List Tok) : Prop := ∀ f, s.length < f -> kD f s = (0, ts)
theorem AAJ (f : Nat) (r : Bs) : kD (f + 1) r = bif decide ((F9 (Bg false r)).1 = 0) then
      bif decide ((F9 (Bg false r)).2.kind = 0) then (0, [(F9 (Bg false r)).2])
      else ((kD f ((Bg false r).drop (F9 (Bg false r)).2.text.length)).1, (F9 (Bg false r)).2 :: (kD f ((Bg false r).drop (F9 (Bg false r)).2.text.length)).2)
    else ((F9 (Bg false r)).1, []) := rfl
theorem zY {g : Bs} (hg : Gap g) : Hu g [FP] := fun f h => by
 cases f with
 | zero => omega
 | succ f =>
  have e : Bg false g = [] := by have := hg []; rw [List.append_nil] at this; exact this
  rw [AAJ, e]; rfl
theorem Wf.kd {t : Tok} (h : Wf t) : t.kind ≠ 0 := by cases h <;> simp
theorem Wf.ne {t : Tok} (h : Wf t) : 0 < t.text.length := by
 cases h with
 | word h => obtain ⟨c, q, e, hc⟩ := (uX _ h).hd; rw [e]; simp
 | upper hn => obtain ⟨c, q, e, hc⟩ := hn.hd; rw [e]; simp
 | lower hn hw => obtain ⟨c, q, e, hc⟩ := hn.hd; rw [e]; simp
 | num h0 h hn => rename_i l n; cases l with
  | nil => exact absurd rfl h0
  | cons c q => simp
 | mark h => obtain ⟨c, q, e, hc⟩ := tV _ h; rw [e]; simp
theorem AEP {g : Bs} {t : Tok} {r : Bs} {ts : List Tok} (hg : Gap g) (hw : Wf t) (hs : Sep t r) (h : Hu r ts) : Hu (g ++ (t.text ++ r)) (t :: ts) := fun f hf => by
 have hl := hw.ne
 simp only [List.length_append] at hf
 cases f with
 | zero => omega
 | succ f =>
  rw [AAJ, hg, AHz hw hs, AKG hw hs]
  show (bif true then bif decide (t.kind = 0) then (0, [t]) else ((kD f ((t.text ++ r).drop t.text.length)).1, t :: (kD f ((t.text ++ r).drop t.text.length)).2) else (0, [])) = _
  rw [decide_eq_false hw.kd, List.drop_left, h f (by omega)]
  rfl
theorem AH1 {s : Bs} {ts : List Tok} (h : Hu s ts) (hs : s.length <= 65536) : vZ s = (0, ts) := by
 unfold vZ; rw [decide_eq_false (by omega)]; exact h _ (by omega)
end Go.PQ
namespace Go.PQ
open Go.Eng
set_option maxRecDepth 100000
def free (c : UInt8) : Bool := !inner c && !decide (c = 61) && !decide (c = 47)
theorem ACY {t : Tok} {c : UInt8} (h : free c = true) : I7 t c = true := by
 simp only [free, Bool.and_eq_true, Bool.not_eq_true', decide_eq_false_iff_not] at h
 have hd : digit c = false := by cases hd : digit c with
  | false => rfl
  | true => rw [aZ hd] at h; simp at h
 unfold I7 XH
 rw [h.1.1, hd, decide_eq_false h.1.2, decide_eq_false h.2]
 cases decide (t.kind = 5) <;> cases decide (t.kind = 4) <;> simp
theorem AKR {t : Tok} {c : UInt8} (ht : t.kind = 5) (h : inner c = true) : I7 t c = true := by
 have h1 : c ≠ 61 := fun e => by subst e; revert h; decide
 have h2 := (UQ h).2
 unfold I7 XH
 rw [ht, decide_eq_false h1, decide_eq_false h2]; simp
theorem AAe {t : Tok} {c : UInt8} (ht : t.kind ≠ 5) (h : inner c = false) : I7 t c = true := by
 have hd : digit c = false := by cases hd : digit c with
  | false => rfl
  | true => rw [aZ hd] at h; cases h
 unfold I7
 rw [decide_eq_false ht, h, hd]; cases decide (t.kind = 4) <;> rfl
def AA5 (t : Tok) : Bs -> Bool
 | [] => true
 | c :: _ => I7 t c
theorem AFd {t : Tok} {r : Bs} (h : AA5 t r = true) : Sep t r := fun c l e => by subst e; simpa [AA5] using h
theorem AOP {t : Tok} {c : UInt8} {a r : Bs} : AA5 t ((c :: a) ++ r) = I7 t c := rfl
def txt : List (Bs × Tok) -> Bs -> Bs
 | [], g => g
 | p :: l, g => p.1 ++ (p.2.text ++ txt l g)
def Good : List (Bs × Tok) -> Bs -> Prop
 | [], g => Gap g
 | p :: l, g => Gap p.1 /\ Wf p.2 /\ AA5 p.2 (txt l g) = true /\ Good l g
theorem AJ1 : ∀ {l : List (Bs × Tok)} {g : Bs}, Good l g -> Hu (txt l g) (l.map Prod.snd ++ [FP])
 | [], _, h => zY h
 | _ :: _, _, h => AEP h.1 h.2.1 (AFd h.2.2.1) (AJ1 h.2.2.2)
theorem AJG : ∀ (a b : List (Bs × Tok)) (g : Bs), txt (a ++ b) g = txt a (txt b g)
 | [], _, _ => rfl
 | _ :: a, b, g => by rw [List.cons_append, txt, txt, AJG a b g]
def W (l : Bs) : Tok := ⟨1, l, 0⟩
def U (l : Bs) : Tok := ⟨2, l, 0⟩
def L (l : Bs) : Tok := ⟨3, l, 0⟩
def N (l : Bs) (n : Nat) : Tok := ⟨4, l, n⟩
def M (l : Bs) : Tok := ⟨5, l, 0⟩
end Go.PQ
namespace Go.PQ
open Go.Eng
set_option maxRecDepth 100000
section
variable {t u : Tok} {r : List Tok} {d : Nat}
theorem KI {w : Bs} {l : Bs} : O0 w ⟨M l, r, d, 0⟩ = decide (l = w) := rfl
theorem AHQ {w : Bs} {l : Bs} : O0 w ⟨W l, r, d, 0⟩ = decide (l = w) := rfl
theorem zZ {w : Bs} (h1 : t.kind ≠ 1) (h5 : t.kind ≠ 5) : O0 w ⟨t, r, d, 0⟩ = false := by simp [O0, h1, h5]
theorem Gu {w : Bs} {s : S} (h : s.e ≠ 0) : O0 w s = false := by simp [O0, S.ok, h]
theorem ADW (h : t.kind ≠ 0) : Ko ⟨t, u :: r, d, 0⟩ = some ⟨u, r, d, 0⟩ := by simp [Ko, h]
theorem AA2 {w : Bs} (h : O0 w ⟨t, u :: r, d, 0⟩ = true) (hk : t.kind ≠ 0) : Cc w ⟨t, u :: r, d, 0⟩ = some (true, ⟨u, r, d, 0⟩) := by unfold Cc; rw [h, ADW hk]; rfl
theorem ku {w : Bs} {s : S} (h : O0 w s = false) : Cc w s = some (false, s) := by unfold Cc; rw [h]; rfl
theorem AEz {l : Bs} : Cc l ⟨M l, u :: r, d, 0⟩ = some (true, ⟨u, r, d, 0⟩) := AA2 (by rw [KI]; simp) (by simp [M])
theorem AE5 {l : Bs} : Cc l ⟨W l, u :: r, d, 0⟩ = some (true, ⟨u, r, d, 0⟩) := AA2 (by rw [AHQ]; simp) (by simp [W])
theorem ABF {w : Bs} {s : S} {s' : S} (h : Cc w s = some (true, s')) : Ce [w] s = some s' := by unfold Ce; rw [h]; rfl
theorem lu {l : Bs} : Ce [l] ⟨M l, u :: r, d, 0⟩ = some ⟨u, r, d, 0⟩ := ABF AEz
theorem ANl {l : Bs} : Ce [l] ⟨W l, u :: r, d, 0⟩ = some ⟨u, r, d, 0⟩ := ABF AE5
theorem qg {ws : List Bs} {s : S} (h : ∀ w ∈ ws, O0 w s = false) : Oj ws s = false := by
 unfold Oj; rw [Bool.eq_false_iff]; intro hc
 obtain ⟨w, hw, h2⟩ := List.any_eq_true.1 hc
 rw [h w hw] at h2; cases h2
theorem AD1 {k : Nat} {l : Bs} {n : Nat} (hk : k ≠ 0) : Hr k ⟨⟨k, l, n⟩, u :: r, d, 0⟩ = some (l, ⟨u, r, d, 0⟩) := by
 unfold Hr; rw [ADW (t := ⟨k, l, n⟩) hk]; simp [S.ok]
theorem ASq {l : Bs} : Hr 3 ⟨L l, u :: r, d, 0⟩ = some (l, ⟨u, r, d, 0⟩) := AD1 (by decide)
theorem ASc {l : Bs} : Hr 2 ⟨U l, u :: r, d, 0⟩ = some (l, ⟨u, r, d, 0⟩) := AD1 (by decide)
theorem Ry (h : d < 100) : Qs ⟨t, r, d, 0⟩ = some ⟨t, r, d + 1, 0⟩ := by
 unfold Qs; simp only
 rw [decide_eq_true (show d < 1000000 by omega), decide_eq_false (show ¬ 100 < d + 1 by omega)]; rfl
theorem jH (h : d < 1000000) : bD ⟨t, r, d + 1, 0⟩ = some ⟨t, r, d, 0⟩ := by
 unfold bD; simp only [h, decide_true, cond_true]
end
def opsL : List Bs := [ACJ, kP, YH, kY, Vb, kG, bP, CO, XL, SA, oZ, AA7, pz]
def AO5 : List Bs := [V4, ZB]
def eY (s : S) : Prop := ∀ w ∈ opsL, O0 w s = false
def lZ (s : S) : Prop := ∀ w ∈ AO5, O0 w s = false
theorem eY.of {s : S} (h : eY s) (ws : List Bs) (hs : ∀ w ∈ ws, w ∈ opsL) : Oj ws s = false := qg fun w hw => h w (hs w hw)
theorem ALN {f : Nat} {e : Ex} {s : S} (h : eY s) : asL (f + 1) e s = some (e, s) := by
 show (bif Oj [AA7, pz] s then _ else some (e, s)) = _
 rw [h.of _ (by decide)]; rfl
theorem wC {ws : List Bs} {nx : PM Ex} {f : Nat} {e : Ex} {s : S} (h : eY s) (hs : ∀ w ∈ ws, w ∈ opsL) : nD ws nx (f + 1) e s = some (e, s) := by
 show (bif Oj ws s then _ else some (e, s)) = _
 rw [h.of _ hs]; rfl
theorem tH {k : Nat} {w : Bs} {nx : PM Ex} {f : Nat} {e : Ex} {s : S} (h : eY s) (hs : w ∈ opsL) : dK k w nx (f + 1) e s = some (e, s) := by
 show (bif Oj [w] s then _ else some (e, s)) = _
 rw [h.of _ (fun x hx => by rw [List.mem_singleton.1 hx]; exact hs)]; rfl
theorem AEX {un : PM Ex} {f : Nat} {s s' : S} {e : Ex} (h : un s = some (e, s')) (hn : eY s') : signs [XL, SA, oZ] un (f + 1) s = some (e, s') := by
 unfold signs; rw [h]; exact wC hn (by decide)
theorem AGQ {un : PM Ex} {f : Nat} {s s' : S} {e : Ex} (h : un s = some (e, s')) (hn : eY s') : sumP un (f + 1) s = some (e, s') := by
 unfold sumP; rw [signs, AEX h hn]; exact wC hn (by decide)
theorem AGv {un : PM Ex} {f : Nat} {s s' : S} {e : Ex} (h : un s = some (e, s')) (hn : eY s') : compared un (f + 1) s = some (e, s') := by
 unfold compared; rw [AGQ h hn]
 show (bif Oj [YH, kY, Vb, kG] s' then _ else some (e, s')) = _
 rw [hn.of _ (by decide)]; rfl
theorem AFu {un : PM Ex} {f : Nat} {s s' : S} {e : Ex} (h : un s = some (e, s')) (hn : eY s') : either 17 kP (compared un (f + 1)) (f + 1) s = some (e, s') := by
 unfold either; rw [AGv h hn]; exact tH hn (by decide)
theorem AIm {un : PM Ex} {f : Nat} {s s' : S} {e : Ex} (h : un s = some (e, s')) (hn : eY s') : either 18 ACJ (either 17 kP (compared un (f + 1)) (f + 1)) (f + 1) s = some (e, s') := by
 unfold either; rw [<- either, AFu h hn]; exact tH hn (by decide)
theorem OH {f : Nat} {s s1 s2 s3 : S} {e : Ex} (hd : Qs s = some s1) (h : unary (expr (f + 1)) (f + 1) s1 = some (e, s2)) (hn : eY s2) (hu : bD s2 = some s3) : expr (f + 2) s = some (e, s3) := by
 show ABj (expr (f + 1)) (f + 1) s = _
 unfold ABj; rw [hd]
 show ((either 18 ACJ (either 17 kP (compared (unary (expr (f + 1)) (f + 1)) (f + 1)) (f + 1)) (f + 1) s1).bind fun p => (bD p.2).bind fun s' => some (p.1, s')) = _
 rw [AIm h hn]
 show ((bD s2).bind fun s' => some (e, s')) = _
 rw [hu]; rfl
theorem JJ {rec : PM Ex} {f : Nat} {s s' : S} {e : Ex} (h1 : O0 CO s = false) (h2 : O0 RJ s = false) (h : Z5 rec (f + 1) s = some (e, s')) (hn : eY s') : unary rec (f + 2) s = some (e, s') := by
 show (bif Oj [CO] s then _ else bif Oj [RJ] s then _ else (Z5 rec (f + 1) s).bind fun p => asL (f + 1) p.1 p.2) = _
 rw [qg (ws := [CO]) fun w hw => by rw [List.mem_singleton.1 hw]; exact h1, qg (ws := [RJ]) fun w hw => by rw [List.mem_singleton.1 hw]; exact h2, h]
 exact ALN hn
theorem AFK {rec : PM Ex} {f : Nat} {e : Ex} {s : S} (h : lZ s) : Yl rec (f + 1) e s = some (e, s) := by
 show ((Cc V4 s).bind fun p => bif p.1 then _ else (Cc ZB p.2).bind fun p => bif p.1 then _ else some (e, p.2)) = _
 rw [ku (h V4 (by decide))]
 show ((Cc ZB s).bind fun p => bif p.1 then _ else some (e, p.2)) = _
 rw [ku (h ZB (by decide))]; rfl
theorem LW {rec : PM Ex} {f : Nat} {s s' : S} {e : Ex} (h : Xy rec (f + 1) s = some (e, s')) (hn : lZ s') : Z5 rec (f + 1) s = some (e, s') := by
 unfold Z5; rw [h]; exact AFK hn
section
variable {rec : PM Ex} {f d : Nat} {u : Tok} {r : List Tok}
theorem ABt {l : Bs} {n : Nat} : Xy rec f ⟨N l n, u :: r, d, 0⟩ = some (.mk 1 n [] [] false [], ⟨u, r, d, 0⟩) := rfl
theorem AMZ {l : Bs} : Xy rec f ⟨L l, u :: r, d, 0⟩ = some (.mk 6 0 l [] false [], ⟨u, r, d, 0⟩) := rfl
theorem wO : Xy rec f ⟨W VR, u :: r, d, 0⟩ = some (.mk 2 0 [] [] false [], ⟨u, r, d, 0⟩) := rfl
theorem AL5 : Xy rec f ⟨W jK, u :: r, d, 0⟩ = some (.mk 3 0 [] [] false [], ⟨u, r, d, 0⟩) := rfl
theorem ANk : Xy rec f ⟨W Yt, u :: r, d, 0⟩ = some (.mk 4 0 [] [] false [], ⟨u, r, d, 0⟩) := rfl
theorem ANs : Xy rec f ⟨W rH, u :: r, d, 0⟩ = some (.mk 5 0 [] [] false [], ⟨u, r, d, 0⟩) := rfl
theorem AIV {e : Ex} {v : Tok} {q : List Tok} {d' : Nat} (h : rec ⟨u, r, d, 0⟩ = some (e, ⟨M Ik, v :: q, d', 0⟩)) : Xy rec f ⟨M IL, u :: r, d, 0⟩ = some (e, ⟨v, q, d', 0⟩) := by
 show ((rec ⟨u, r, d, 0⟩).bind fun x => (Ce [Ik] x.2).bind fun s1 => some (x.1, s1)) = _
 rw [h]
 show ((Ce [Ik] ⟨M Ik, v :: q, d', 0⟩).bind fun s1 => some (e, s1)) = _
 rw [lu]; rfl
theorem sF {s : S} (h : s.e ≠ 0) : Xy rec f s = some (.mk 0 0 [] [] false [], s) := by
 unfold Xy; rw [show s.ok = false by simp [S.ok, h]]; rfl
end
end Go.PQ
