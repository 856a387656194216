/- Part of a proof: texts PLA PLB PLC of the engine and what is proved with it; nothing is assumed. -/
import Derived.Test.YtcjkfmaoahojeaaDoorConA
set_option linter.unusedVariables false
set_option linter.unusedSimpArgs false
namespace Go.PQ
open Go.Eng
set_option maxRecDepth 100000
def AAc : Bs -> Bs -> Bool
 | [], _ => true
 | _ :: _, [] => false
 | a :: p, c :: l => decide (a = c) && AAc p l
theorem AEg : ∀ p l : Bs, pre p l = AAc p l
 | [], l => by simp [pre, AAc]
 | a :: p, [] => by simp [pre, AAc]
 | a :: p, c :: l => by
  rw [show AAc (a :: p) (c :: l) = (decide (a = c) && AAc p l) from rfl, <- AEg p l, Bool.eq_iff_iff]
  simp only [pre, List.length_cons, List.take_succ_cons, Bool.and_eq_true, decide_eq_true_eq, List.cons.injEq]
  constructor
  ·rintro ⟨h, e, h2⟩; exact ⟨e.symm, by omega, h2⟩
  ·rintro ⟨e, h, h2⟩; exact ⟨by omega, e.symm, h2⟩
def Xe (m : Bs) (c : UInt8) : Bool := !((decide (m = Tn) || (decide (m = RP) || decide (m = Ua))) && decide (c = 61)) && !(decide (m = QZ) && decide (c = 47))
def Stop (p : UInt8 -> Bool) (r : Bs) : Prop := ∀ c l, r = c :: l -> p c = false
theorem AON {p : UInt8 -> Bool} : Stop p [] := fun _ _ h => by cases h
theorem AOE {p : UInt8 -> Bool} {c : UInt8} {l : Bs} (h : p c = false) : Stop p (c :: l) := fun _ _ e => by cases e; exact h
def AFm (m r : Bs) : Prop := EJ.find? (fun x => pre x (m ++ r)) = some m /\ pre [47, 47] (m ++ r) = false
theorem ADs {m r : Bs} (hm : m ∈ EJ) (h : Stop (fun c => !Xe m c) r) : AFm m r := by
 unfold AFm
 simp only [AEg]
 unfold EJ at hm
 cases r with
 | nil =>
  simp only [List.append_nil]
  clear h
  revert m
  decide
 | cons c r =>
  have h : Xe m c = true := by have := h c r rfl; simpa using this
  simp only [List.mem_cons, List.not_mem_nil, or_false] at hm
  rcases hm with rfl|rfl|rfl|rfl|rfl|rfl|rfl|rfl|rfl|rfl|rfl|rfl|rfl|rfl|rfl|rfl|rfl|rfl|rfl|rfl|rfl|rfl <;> simp [EJ, List.find?, AAc, Xe, XT, kG, jk, Wp, qN, Y1, CG, WH, QZ, jl, Ua, Tn, RP, JZ, KG, kL, ku, Ji, m_rc, Bc, OZ, ZR] at h ⊢ <;> simp [Ne.symm h]
structure AAh (p : UInt8 -> Bool) (l : Bs) : Prop where
 hd : ∃ c t, l = c :: t /\ p c = true
 all : ∀ x ∈ l, inner x = true
 len : l.length <= 40
inductive Wf : Tok -> Prop
 | word {l : Bs} (h : l ∈ Pv) : Wf ⟨1, l, 0⟩
 | upper {l : Bs} (h : AAh great l) : Wf ⟨2, l, 0⟩
 | lower {l : Bs} (h : AAh small l) (hw : l ∉ Pv) : Wf ⟨3, l, 0⟩
 | num {l : Bs} {n : Nat} (h0 : l ≠ []) (h : ∀ x ∈ l, digit x = true) (hn : YG 0 l = some n) : Wf ⟨4, l, n⟩
 | mark {l : Bs} (h : l ∈ EJ) : Wf ⟨5, l, 0⟩
def Jy (t : Tok) (c : UInt8) : Bool := bif decide (t.kind = 5) then Xe t.text c else bif decide (t.kind = 4) then !digit c else !inner c
def Sep (t : Tok) (r : Bs) : Prop := Stop (fun c => !Jy t c) r
theorem O9 {p : UInt8 -> Bool} : ∀ {l r : Bs}, (∀ x ∈ l, p x = true) -> Stop p r -> (l ++ r).takeWhile p = l
 | [], r, _, h => by
  cases r with
  | nil => rfl
  | cons c r => have := h c r rfl; simp [this]
 | c :: l, r, ha, h => by
  have hc := ha c (List.mem_cons_self ..)
  rw [List.cons_append, List.takeWhile_cons, hc]
  simp only [if_true]
  rw [O9 (fun x hx => ha x (List.mem_cons_of_mem _ hx)) h]
theorem uO : ∀ l ∈ Pv, AAh small l := by
 have h : (Pv.all fun l => (match l with | [] => false | c :: _ => small c) && l.all inner && decide (l.length <= 40)) = true := by decide
 intro l hl
 have := List.all_eq_true.1 h l hl
 simp only [Bool.and_eq_true, decide_eq_true_eq] at this
 obtain ⟨⟨h1, h2⟩, h3⟩ := this
 refine ⟨?_, List.all_eq_true.1 h2, h3⟩
 cases l with
 | nil => cases h1
 | cons c t => exact ⟨c, t, rfl, h1⟩
theorem ZW {c : UInt8} (h : small c = true) : great c = false := by
 simp only [small, great, Bool.and_eq_true, decide_eq_true_eq, Bool.and_eq_false_iff, decide_eq_false_iff_not] at *; omega
theorem wS {c : UInt8} (h : digit c = true) : great c = false /\ small c = false := by
 simp only [small, great, digit, Bool.and_eq_true, decide_eq_true_eq, Bool.and_eq_false_iff, decide_eq_false_iff_not] at *; omega
theorem Ud {c : UInt8} (h : inner c = true) : blank c = false /\ c ≠ 47 := by
 have e : (47 : UInt8).toNat = 47 := rfl
 refine ⟨?_, fun hc => ?_⟩
 ·simp only [inner, small, great, digit, blank, Bool.or_eq_true, Bool.and_eq_true, decide_eq_true_eq, Bool.or_eq_false_iff, decide_eq_false_iff_not] at *; omega
 ·subst hc; simp only [inner, small, great, digit, e, Bool.or_eq_true, Bool.and_eq_true, decide_eq_true_eq] at h; omega
theorem Zt {c : UInt8} (h : digit c = true) : inner c = true := by simp [inner, h]
theorem ABS {c : UInt8} (h : great c = true) : inner c = true := by simp [inner, h]
theorem oW {c : UInt8} (h : small c = true) : inner c = true := by simp [inner, h]
theorem sS : ∀ m ∈ EJ, ∃ c t, m = c :: t /\ inner c = false /\ blank c = false := by
 have h : (EJ.all fun l => (match l with | [] => false | c :: _ => !inner c && !blank c)) = true := by decide
 intro l hl
 have := List.all_eq_true.1 h l hl
 cases l with
 | nil => cases this
 | cons c t => exact ⟨c, t, rfl, by simpa using this⟩
theorem jV (c : UInt8) (l : Bs) : Gg (c :: l) = (bif great c then Xb ⟨2, (c :: l).takeWhile inner, 0⟩ else
    bif small c then Xb ⟨bif decide ((c :: l).takeWhile inner ∈ Pv) then 1 else 3, (c :: l).takeWhile inner, 0⟩ else
    bif digit c then (match YG 0 ((c :: l).takeWhile digit) with | none => (22, FN) | some n => (0, ⟨4, (c :: l).takeWhile digit, n⟩)) else
    match EJ.find? (fun m => pre m (c :: l)) with | none => (20, FN) | some m => (0, ⟨5, m, 0⟩)) := rfl
theorem ACe {t : Tok} (h : t.text.length <= 40) : Xb t = (0, t) := by
 unfold Xb; rw [decide_eq_false (by omega)]; rfl
theorem AJd {t : Tok} {r : Bs} (hw : Wf t) (hs : Sep t r) : Gg (t.text ++ r) = (0, t) := by
 cases hw with
 | word h =>
  rename_i l
  have hn := uO l h
  obtain ⟨c, q, rfl, hc⟩ := hn.hd
  have hsep : Stop inner r := fun a b e => by have := hs a b e; simpa [Jy] using this
  have tw := O9 hn.all hsep
  show Gg (c :: (q ++ r)) = _
  rw [jV, ZW hc, hc, show (c :: (q ++ r)) = (c :: q) ++ r from rfl, tw, decide_eq_true h]
  exact ACe hn.len
 | upper hn =>
  rename_i l
  obtain ⟨c, q, rfl, hc⟩ := hn.hd
  have hsep : Stop inner r := fun a b e => by have := hs a b e; simpa [Jy] using this
  have tw := O9 hn.all hsep
  show Gg (c :: (q ++ r)) = _
  rw [jV, hc, show (c :: (q ++ r)) = (c :: q) ++ r from rfl, tw]
  exact ACe hn.len
 | lower hn hw =>
  rename_i l
  obtain ⟨c, q, rfl, hc⟩ := hn.hd
  have hsep : Stop inner r := fun a b e => by have := hs a b e; simpa [Jy] using this
  have tw := O9 hn.all hsep
  show Gg (c :: (q ++ r)) = _
  rw [jV, ZW hc, hc, show (c :: (q ++ r)) = (c :: q) ++ r from rfl, tw, decide_eq_false hw]
  exact ACe hn.len
 | num h0 h hn =>
  rename_i l n
  cases l with
  | nil => exact absurd rfl h0
  | cons c q =>
   have hc := h c (List.mem_cons_self ..)
   have hsep : Stop digit r := fun a b e => by have := hs a b e; simpa [Jy] using this
   have tw := O9 h hsep
   show Gg (c :: (q ++ r)) = _
   rw [jV, (wS hc).1, (wS hc).2, hc, show (c :: (q ++ r)) = (c :: q) ++ r from rfl, tw, hn]
   rfl
 | mark h =>
  rename_i l
  have hsep : Stop (fun c => !Xe l c) r := fun a b e => by have := hs a b e; simpa [Jy] using this
  have hm := (ADs h hsep).1
  obtain ⟨c, q, rfl, hc, _⟩ := sS l h
  simp only [inner, Bool.or_eq_false_iff] at hc
  show Gg (c :: (q ++ r)) = _
  rw [jV, hc.1, hc.2.1, hc.2.2.1, show (c :: (q ++ r)) = (c :: q) ++ r from rfl, hm]
  rfl
theorem zF (c : UInt8) (t : Bs) : Bz false (c :: t) = bif blank c then Bz false t else bif pre [47, 47] (c :: t) then Bz true t else c :: t := rfl
theorem AIn {t : Tok} {r : Bs} (hw : Wf t) (hs : Sep t r) : Bz false (t.text ++ r) = t.text ++ r := by
 have key : ∀ {c : UInt8} {q : Bs}, t.text = c :: q -> inner c = true -> Bz false (t.text ++ r) = t.text ++ r := by
  intro c q e hc
  rw [e, List.cons_append, zF, (Ud hc).1, AEg]
  rw [show AAc [47, 47] (c :: (q ++ r)) = (decide (47 = c) && AAc [47] (q ++ r)) from rfl, decide_eq_false (fun h => (Ud hc).2 h.symm)]
  rfl
 cases hw with
 | word h => obtain ⟨c, q, e, hc⟩ := (uO _ h).hd; exact key e (oW hc)
 | upper hn => obtain ⟨c, q, e, hc⟩ := hn.hd; exact key e (ABS hc)
 | lower hn hw => obtain ⟨c, q, e, hc⟩ := hn.hd; exact key e (oW hc)
 | num h0 h hn =>
  rename_i l n
  cases l with
  | nil => exact absurd rfl h0
  | cons c q => exact key (c := c) (q := q) rfl (Zt (h c (List.mem_cons_self ..)))
 | mark h =>
  rename_i l
  have hsep : Stop (fun c => !Xe l c) r := fun a b e => by have := hs a b e; simpa [Jy] using this
  have hm := (ADs h hsep).2
  obtain ⟨c, q, rfl, hc, hb⟩ := sS l h
  show Bz false (c :: (q ++ r)) = _
  rw [zF, hb, show (c :: (q ++ r)) = (c :: q) ++ r from rfl, hm]
  rfl
def Gap (g : Bs) : Prop := ∀ r, Bz false (g ++ r) = Bz false r
theorem qV : Gap [] := fun _ => rfl
theorem AIs {a b : Bs} (ha : Gap a) (hb : Gap b) : Gap (a ++ b) := fun r => by rw [List.append_assoc, ha, hb]
theorem xG {c : UInt8} (h : blank c = true) : Gap [c] := fun r => by rw [List.singleton_append, zF, h]; rfl
theorem ACs : ∀ {l : Bs}, (∀ c ∈ l, blank c = true) -> Gap l
 | [], _ => qV
 | c :: _, h => AIs (a := [c]) (xG (h c (List.mem_cons_self ..))) (ACs fun x hx => h x (List.mem_cons_of_mem _ hx))
theorem AB6 : ∀ (t r : Bs), (∀ c ∈ t, c ≠ 10) -> Bz true (t ++ 10 :: r) = Bz false r
 | [], r, _ => by show (bif decide ((10 : UInt8).toNat = 10) then Bz false r else Bz true r) = _; rfl
 | c :: t, r, h => by
  have hc : c.toNat ≠ 10 := fun e => h c (List.mem_cons_self ..) (UInt8.toNat_inj.1 e)
  show (bif decide (c.toNat = 10) then Bz false (t ++ 10 :: r) else Bz true (t ++ 10 :: r)) = _
  rw [decide_eq_false hc]
  exact AB6 t r fun x hx => h x (List.mem_cons_of_mem _ hx)
theorem ARI {t : Bs} (h : ∀ c ∈ t, c ≠ 10) : Gap (47 :: 47 :: (t ++ [10])) := fun r => by
 rw [show (47 :: 47 :: (t ++ [10])) ++ r = 47 :: ((47 :: t) ++ 10 :: r) by simp, zF, AEg]
 exact AB6 (47 :: t) r fun c hc => by
  cases hc with
  | head => decide
  | tail _ hc => exact h c hc
def II (s : Bs) (ts : List Tok) : Prop := ∀ f, s.length < f -> lM f s = (0, ts)
theorem zX (f : Nat) (r : Bs) : lM (f + 1) r = bif decide ((Gg (Bz false r)).1 = 0) then
      bif decide ((Gg (Bz false r)).2.kind = 0) then (0, [(Gg (Bz false r)).2])
      else ((lM f ((Bz false r).drop (Gg (Bz false r)).2.text.length)).1, (Gg (Bz false r)).2 :: (lM f ((Bz false r).drop (Gg (Bz false r)).2.text.length)).2)
    else ((Gg (Bz false r)).1, []) := rfl
theorem zT {g : Bs} (hg : Gap g) : II g [FN] := fun f h => by
 cases f with
 | zero => omega
 | succ f =>
  have e : Bz false g = [] := by have := hg []; rw [List.append_nil] at this; exact this
  rw [zX, e]; rfl
theorem Wf.kd {t : Tok} (h : Wf t) : t.kind ≠ 0 := by cases h <;> simp
theorem Wf.ne {t : Tok} (h : Wf t) : 0 < t.text.length := by
 cases h with
 | word h => obtain ⟨c, q, e, hc⟩ := (uO _ h).hd; rw [e]; simp
 | upper hn => obtain ⟨c, q, e, hc⟩ := hn.hd; rw [e]; simp
 | lower hn hw => obtain ⟨c, q, e, hc⟩ := hn.hd; rw [e]; simp
 | num h0 h hn => rename_i l n; cases l with
  | nil => exact absurd rfl h0
  | cons c q => simp
 | mark h => obtain ⟨c, q, e, hc⟩ := sS _ h; rw [e]; simp
theorem AEe {g : Bs} {t : Tok} {r : Bs} {ts : List Tok} (hg : Gap g) (hw : Wf t) (hs : Sep t r) (h : II r ts) : II (g ++ (t.text ++ r)) (t :: ts) := fun f hf => by
 have hl := hw.ne
 simp only [List.length_append] at hf
 cases f with
 | zero => omega
 | succ f =>
  rw [zX, hg, AIn hw hs, AJd hw hs]
  show (bif true then bif decide (t.kind = 0) then (0, [t]) else ((lM f ((t.text ++ r).drop t.text.length)).1, t :: (lM f ((t.text ++ r).drop t.text.length)).2) else (0, [])) = _
  rw [decide_eq_false hw.kd, List.drop_left, h f (by omega)]
  rfl
theorem AI4 {s : Bs} {ts : List Tok} (h : II s ts) (hs : s.length <= 65536) : wL s = (0, ts) := by
 unfold wL; rw [decide_eq_false (by omega)]; exact h _ (by omega)
end Go.PQ
namespace Go.PQ
open Go.Eng
set_option maxRecDepth 100000
def free (c : UInt8) : Bool := !inner c && !decide (c = 61) && !decide (c = 47)
theorem ADZ {t : Tok} {c : UInt8} (h : free c = true) : Jy t c = true := by
 simp only [free, Bool.and_eq_true, Bool.not_eq_true', decide_eq_false_iff_not] at h
 have hd : digit c = false := by cases hd : digit c with
  | false => rfl
  | true => rw [Zt hd] at h; simp at h
 unfold Jy Xe
 rw [h.1.1, hd, decide_eq_false h.1.2, decide_eq_false h.2]
 cases decide (t.kind = 5) <;> cases decide (t.kind = 4) <;> simp
theorem AKo {t : Tok} {c : UInt8} (ht : t.kind = 5) (h : inner c = true) : Jy t c = true := by
 have h1 : c ≠ 61 := fun e => by subst e; revert h; decide
 have h2 := (Ud h).2
 unfold Jy Xe
 rw [ht, decide_eq_false h1, decide_eq_false h2]; simp
theorem AKn {t : Tok} {c : UInt8} (ht : t.kind ≠ 5) (h : inner c = false) : Jy t c = true := by
 have hd : digit c = false := by cases hd : digit c with
  | false => rfl
  | true => rw [Zt hd] at h; cases h
 unfold Jy
 rw [decide_eq_false ht, h, hd]; cases decide (t.kind = 4) <;> rfl
def ACb (t : Tok) : Bs -> Bool
 | [] => true
 | c :: _ => Jy t c
theorem AHD {t : Tok} {r : Bs} (h : ACb t r = true) : Sep t r := fun c l e => by subst e; simpa [ACb] using h
theorem AOM {t : Tok} {c : UInt8} {a r : Bs} : ACb t ((c :: a) ++ r) = Jy t c := rfl
def txt : List (Bs × Tok) -> Bs -> Bs
 | [], g => g
 | p :: l, g => p.1 ++ (p.2.text ++ txt l g)
def Good : List (Bs × Tok) -> Bs -> Prop
 | [], g => Gap g
 | p :: l, g => Gap p.1 /\ Wf p.2 /\ ACb p.2 (txt l g) = true /\ Good l g
theorem AJu : ∀ {l : List (Bs × Tok)} {g : Bs}, Good l g -> II (txt l g) (l.map Prod.snd ++ [FN])
 | [], _, h => zT h
 | _ :: _, _, h => AEe h.1 h.2.1 (AHD h.2.2.1) (AJu h.2.2.2)
theorem AIe : ∀ (a b : List (Bs × Tok)) (g : Bs), txt (a ++ b) g = txt a (txt b g)
 | [], _, _ => rfl
 | _ :: a, b, g => by rw [List.cons_append, txt, txt, AIe a b g]
def W (l : Bs) : Tok := ⟨1, l, 0⟩
def U (l : Bs) : Tok := ⟨2, l, 0⟩
def L (l : Bs) : Tok := ⟨3, l, 0⟩
def N (l : Bs) (n : Nat) : Tok := ⟨4, l, n⟩
def M (l : Bs) : Tok := ⟨5, l, 0⟩
end Go.PQ
namespace Go.PQ
open Go.Eng
set_option maxRecDepth 100000
section
variable {t u : Tok} {r : List Tok} {d : Nat}
theorem Kz {w : Bs} {l : Bs} : PK w ⟨M l, r, d, 0⟩ = decide (l = w) := rfl
theorem AHM {w : Bs} {l : Bs} : PK w ⟨W l, r, d, 0⟩ = decide (l = w) := rfl
theorem zL {w : Bs} (h1 : t.kind ≠ 1) (h5 : t.kind ≠ 5) : PK w ⟨t, r, d, 0⟩ = false := by simp [PK, h1, h5]
theorem Ho {w : Bs} {s : S} (h : s.e ≠ 0) : PK w s = false := by simp [PK, S.ok, h]
theorem ADx (h : t.kind ≠ 0) : LZ ⟨t, u :: r, d, 0⟩ = some ⟨u, r, d, 0⟩ := by simp [LZ, h]
theorem AA9 {w : Bs} (h : PK w ⟨t, u :: r, d, 0⟩ = true) (hk : t.kind ≠ 0) : Cm w ⟨t, u :: r, d, 0⟩ = some (true, ⟨u, r, d, 0⟩) := by unfold Cm; rw [h, ADx hk]; rfl
theorem jw {w : Bs} {s : S} (h : PK w s = false) : Cm w s = some (false, s) := by unfold Cm; rw [h]; rfl
theorem AE6 {l : Bs} : Cm l ⟨M l, u :: r, d, 0⟩ = some (true, ⟨u, r, d, 0⟩) := AA9 (by rw [Kz]; simp) (by simp [M])
theorem AE7 {l : Bs} : Cm l ⟨W l, u :: r, d, 0⟩ = some (true, ⟨u, r, d, 0⟩) := AA9 (by rw [AHM]; simp) (by simp [W])
theorem ABv {w : Bs} {s : S} {s' : S} (h : Cm w s = some (true, s')) : DI [w] s = some s' := by unfold DI; rw [h]; rfl
theorem ny {l : Bs} : DI [l] ⟨M l, u :: r, d, 0⟩ = some ⟨u, r, d, 0⟩ := ABv AE6
theorem AN8 {l : Bs} : DI [l] ⟨W l, u :: r, d, 0⟩ = some ⟨u, r, d, 0⟩ := ABv AE7
theorem qR {ws : List Bs} {s : S} (h : ∀ w ∈ ws, PK w s = false) : O5 ws s = false := by
 unfold O5; rw [Bool.eq_false_iff]; intro hc
 obtain ⟨w, hw, h2⟩ := List.any_eq_true.1 hc
 rw [h w hw] at h2; cases h2
theorem AD6 {k : Nat} {l : Bs} {n : Nat} (hk : k ≠ 0) : IB k ⟨⟨k, l, n⟩, u :: r, d, 0⟩ = some (l, ⟨u, r, d, 0⟩) := by
 unfold IB; rw [ADx (t := ⟨k, l, n⟩) hk]; simp [S.ok]
theorem ASz {l : Bs} : IB 3 ⟨L l, u :: r, d, 0⟩ = some (l, ⟨u, r, d, 0⟩) := AD6 (by decide)
theorem ATf {l : Bs} : IB 2 ⟨U l, u :: r, d, 0⟩ = some (l, ⟨u, r, d, 0⟩) := AD6 (by decide)
theorem Si (h : d < 100) : Rl ⟨t, r, d, 0⟩ = some ⟨t, r, d + 1, 0⟩ := by
 unfold Rl; simp only
 rw [decide_eq_true (show d < 1000000 by omega), decide_eq_false (show ¬ 100 < d + 1 by omega)]; rfl
theorem jy (h : d < 1000000) : aK ⟨t, r, d + 1, 0⟩ = some ⟨t, r, d, 0⟩ := by
 unfold aK; simp only [h, decide_true, cond_true]
end
def opsL : List Bs := [qN, Wp, XT, kG, Ua, jk, Y1, CG, WH, QZ, jl, ABT, qK]
def AOz : List Bs := [kL, ZR]
def fB (s : S) : Prop := ∀ w ∈ opsL, PK w s = false
def nI (s : S) : Prop := ∀ w ∈ AOz, PK w s = false
theorem fB.of {s : S} (h : fB s) (ws : List Bs) (hs : ∀ w ∈ ws, w ∈ opsL) : O5 ws s = false := qR fun w hw => h w (hs w hw)
theorem AMv {f : Nat} {e : Ex} {s : S} (h : fB s) : asL (f + 1) e s = some (e, s) := by
 show (bif O5 [ABT, qK] s then _ else some (e, s)) = _
 rw [h.of _ (by decide)]; rfl
theorem xH {ws : List Bs} {nx : PM Ex} {f : Nat} {e : Ex} {s : S} (h : fB s) (hs : ∀ w ∈ ws, w ∈ opsL) : l9 ws nx (f + 1) e s = some (e, s) := by
 show (bif O5 ws s then _ else some (e, s)) = _
 rw [h.of _ hs]; rfl
theorem vK {k : Nat} {w : Bs} {nx : PM Ex} {f : Nat} {e : Ex} {s : S} (h : fB s) (hs : w ∈ opsL) : dP k w nx (f + 1) e s = some (e, s) := by
 show (bif O5 [w] s then _ else some (e, s)) = _
 rw [h.of _ (fun x hx => by rw [List.mem_singleton.1 hx]; exact hs)]; rfl
theorem AFN {un : PM Ex} {f : Nat} {s s' : S} {e : Ex} (h : un s = some (e, s')) (hn : fB s') : signs [WH, QZ, jl] un (f + 1) s = some (e, s') := by
 unfold signs; rw [h]; exact xH hn (by decide)
theorem AGs {un : PM Ex} {f : Nat} {s s' : S} {e : Ex} (h : un s = some (e, s')) (hn : fB s') : sumP un (f + 1) s = some (e, s') := by
 unfold sumP; rw [signs, AFN h hn]; exact xH hn (by decide)
theorem AH6 {un : PM Ex} {f : Nat} {s s' : S} {e : Ex} (h : un s = some (e, s')) (hn : fB s') : compared un (f + 1) s = some (e, s') := by
 unfold compared; rw [AGs h hn]
 show (bif O5 [XT, kG, Ua, jk] s' then _ else some (e, s')) = _
 rw [hn.of _ (by decide)]; rfl
theorem AHu {un : PM Ex} {f : Nat} {s s' : S} {e : Ex} (h : un s = some (e, s')) (hn : fB s') : either 17 Wp (compared un (f + 1)) (f + 1) s = some (e, s') := by
 unfold either; rw [AH6 h hn]; exact vK hn (by decide)
theorem AIo {un : PM Ex} {f : Nat} {s s' : S} {e : Ex} (h : un s = some (e, s')) (hn : fB s') : either 18 qN (either 17 Wp (compared un (f + 1)) (f + 1)) (f + 1) s = some (e, s') := by
 unfold either; rw [<- either, AHu h hn]; exact vK hn (by decide)
theorem Ob {f : Nat} {s s1 s2 s3 : S} {e : Ex} (hd : Rl s = some s1) (h : unary (expr (f + 1)) (f + 1) s1 = some (e, s2)) (hn : fB s2) (hu : aK s2 = some s3) : expr (f + 2) s = some (e, s3) := by
 show AA1 (expr (f + 1)) (f + 1) s = _
 unfold AA1; rw [hd]
 show ((either 18 qN (either 17 Wp (compared (unary (expr (f + 1)) (f + 1)) (f + 1)) (f + 1)) (f + 1) s1).bind fun p => (aK p.2).bind fun s' => some (p.1, s')) = _
 rw [AIo h hn]
 show ((aK s2).bind fun s' => some (e, s')) = _
 rw [hu]; rfl
theorem Jw {rec : PM Ex} {f : Nat} {s s' : S} {e : Ex} (h1 : PK CG s = false) (h2 : PK RP s = false) (h : bf rec (f + 1) s = some (e, s')) (hn : fB s') : unary rec (f + 2) s = some (e, s') := by
 show (bif O5 [CG] s then _ else bif O5 [RP] s then _ else (bf rec (f + 1) s).bind fun p => asL (f + 1) p.1 p.2) = _
 rw [qR (ws := [CG]) fun w hw => by rw [List.mem_singleton.1 hw]; exact h1, qR (ws := [RP]) fun w hw => by rw [List.mem_singleton.1 hw]; exact h2, h]
 exact AMv hn
theorem AEu {rec : PM Ex} {f : Nat} {e : Ex} {s : S} (h : nI s) : Yd rec (f + 1) e s = some (e, s) := by
 show ((Cm kL s).bind fun p => bif p.1 then _ else (Cm ZR p.2).bind fun p => bif p.1 then _ else some (e, p.2)) = _
 rw [jw (h kL (by decide))]
 show ((Cm ZR s).bind fun p => bif p.1 then _ else some (e, p.2)) = _
 rw [jw (h ZR (by decide))]; rfl
theorem MB {rec : PM Ex} {f : Nat} {s s' : S} {e : Ex} (h : YB rec (f + 1) s = some (e, s')) (hn : nI s') : bf rec (f + 1) s = some (e, s') := by
 unfold bf; rw [h]; exact AEu hn
section
variable {rec : PM Ex} {f d : Nat} {u : Tok} {r : List Tok}
theorem ABE {l : Bs} {n : Nat} : YB rec f ⟨N l n, u :: r, d, 0⟩ = some (.mk 1 n [] [] false [], ⟨u, r, d, 0⟩) := rfl
theorem ALR {l : Bs} : YB rec f ⟨L l, u :: r, d, 0⟩ = some (.mk 6 0 l [] false [], ⟨u, r, d, 0⟩) := rfl
theorem wu : YB rec f ⟨W Vs, u :: r, d, 0⟩ = some (.mk 2 0 [] [] false [], ⟨u, r, d, 0⟩) := rfl
theorem ALS : YB rec f ⟨W lK, u :: r, d, 0⟩ = some (.mk 3 0 [] [] false [], ⟨u, r, d, 0⟩) := rfl
theorem AN6 : YB rec f ⟨W vC, u :: r, d, 0⟩ = some (.mk 4 0 [] [] false [], ⟨u, r, d, 0⟩) := rfl
theorem AOI : YB rec f ⟨W rJ, u :: r, d, 0⟩ = some (.mk 5 0 [] [] false [], ⟨u, r, d, 0⟩) := rfl
theorem AKQ {e : Ex} {v : Tok} {q : List Tok} {d' : Nat} (h : rec ⟨u, r, d, 0⟩ = some (e, ⟨M KG, v :: q, d', 0⟩)) : YB rec f ⟨M JZ, u :: r, d, 0⟩ = some (e, ⟨v, q, d', 0⟩) := by
 show ((rec ⟨u, r, d, 0⟩).bind fun x => (DI [KG] x.2).bind fun s1 => some (x.1, s1)) = _
 rw [h]
 show ((DI [KG] ⟨M KG, v :: q, d', 0⟩).bind fun s1 => some (e, s1)) = _
 rw [ny]; rfl
theorem tH {s : S} (h : s.e ≠ 0) : YB rec f s = some (.mk 0 0 [] [] false [], s) := by
 unfold YB; rw [show s.ok = false by simp [S.ok, h]]; rfl
end
end Go.PQ
