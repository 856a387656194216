/- Part of a proof: texts PLA PLB PLC of the engine and what is proved with it; nothing is assumed. -/
import Derived.Test.YtcjkfmaoahojeaaDoorConA
set_option linter.unusedVariables false
set_option linter.unusedSimpArgs false
/- What is written is read: tokens, as bytes, with blanks between them, by the plain lexer. -/
namespace Go.PQ
open Go.Eng

set_option maxRecDepth 100000
/- a beginning, byte by byte -/
def preR : Bs → Bs → Bool
  | [], _ => true
  | _ :: _, [] => false
  | a :: p, c :: l => decide (a = c) && preR p l
theorem pre_R : ∀ p l : Bs, pre p l = preR p l
  | [], l => by simp [pre, preR]
  | a :: p, [] => by simp [pre, preR]
  | a :: p, c :: l => by
    rw [show preR (a :: p) (c :: l) = (decide (a = c) && preR p l) from rfl, ← pre_R p l, Bool.eq_iff_iff]
    simp only [pre, List.length_cons, List.take_succ_cons, Bool.and_eq_true, decide_eq_true_eq, List.cons.injEq]
    constructor
    · rintro ⟨h, e, h2⟩; exact ⟨e.symm, by omega, h2⟩
    · rintro ⟨e, h, h2⟩; exact ⟨by omega, e.symm, h2⟩
/- a mark's next byte must not make a longer one, nor a remark -/
def okNext (m : Bs) (c : UInt8) : Bool := !((decide (m = m_put) || (decide (m = m_not) || decide (m = m_less))) && decide (c = 61)) && !(decide (m = m_slash) && decide (c = 47))
def Stop (p : UInt8 → Bool) (r : Bs) : Prop := ∀ c l, r = c :: l → p c = false
theorem stop_nil {p : UInt8 → Bool} : Stop p [] := fun _ _ h => by cases h
theorem stop_cons {p : UInt8 → Bool} {c : UInt8} {l : Bs} (h : p c = false) : Stop p (c :: l) := fun _ _ e => by cases e; exact h
def MarkOk (m r : Bs) : Prop := marksL.find? (fun x => pre x (m ++ r)) = some m ∧ pre [47, 47] (m ++ r) = false
theorem mark_ok {m r : Bs} (hm : m ∈ marksL) (h : Stop (fun c => !okNext m c) r) : MarkOk m r := by
  unfold MarkOk
  simp only [pre_R]
  unfold marksL at hm
  cases r with
  | nil =>
    simp only [List.append_nil]
    clear h
    revert m
    decide
  | cons c r =>
    have h : okNext m c = true := by have := h c r rfl; simpa using this
    simp only [List.mem_cons, List.not_mem_nil, or_false] at hm
    rcases hm with rfl|rfl|rfl|rfl|rfl|rfl|rfl|rfl|rfl|rfl|rfl|rfl|rfl|rfl|rfl|rfl|rfl|rfl|rfl|rfl|rfl|rfl <;> simp [marksL, List.find?, preR, okNext, m_eqeq, m_neq, m_leq, m_and, m_or, m_plus, m_minus, m_star, m_slash, m_rem, m_less, m_put, m_not, m_lp, m_rp, m_lb, m_rb, m_lc, m_rc, m_semi, m_comma, m_dot] at h ⊢ <;> simp [Ne.symm h]
/- the tokens that can be written -/
structure NameOk (p : UInt8 → Bool) (l : Bs) : Prop where
  hd : ∃ c t, l = c :: t ∧ p c = true
  all : ∀ x ∈ l, inner x = true
  len : l.length ≤ 40
inductive Wf : Tok → Prop
  | word {l : Bs} (h : l ∈ wordsL) : Wf ⟨1, l, 0⟩
  | upper {l : Bs} (h : NameOk great l) : Wf ⟨2, l, 0⟩
  | lower {l : Bs} (h : NameOk small l) (hw : l ∉ wordsL) : Wf ⟨3, l, 0⟩
  | num {l : Bs} {n : Nat} (h0 : l ≠ []) (h : ∀ x ∈ l, digit x = true) (hn : numF 0 l = some n) : Wf ⟨4, l, n⟩
  | mark {l : Bs} (h : l ∈ marksL) : Wf ⟨5, l, 0⟩
/- what may stand behind it -/
def okAfter (t : Tok) (c : UInt8) : Bool := bif decide (t.kind = 5) then okNext t.text c else bif decide (t.kind = 4) then !digit c else !inner c
def Sep (t : Tok) (r : Bs) : Prop := Stop (fun c => !okAfter t c) r
theorem takeWhile_app {p : UInt8 → Bool} : ∀ {l r : Bs}, (∀ x ∈ l, p x = true) → Stop p r → (l ++ r).takeWhile p = l
  | [], r, _, h => by
    cases r with
    | nil => rfl
    | cons c r => have := h c r rfl; simp [this]
  | c :: l, r, ha, h => by
    have hc := ha c (List.mem_cons_self ..)
    rw [List.cons_append, List.takeWhile_cons, hc]
    simp only [if_true]
    rw [takeWhile_app (fun x hx => ha x (List.mem_cons_of_mem _ hx)) h]
theorem words_ok : ∀ l ∈ wordsL, NameOk small l := by
  have h : (wordsL.all fun l => (match l with | [] => false | c :: _ => small c) && l.all inner && decide (l.length ≤ 40)) = true := by decide
  intro l hl
  have := List.all_eq_true.1 h l hl
  simp only [Bool.and_eq_true, decide_eq_true_eq] at this
  obtain ⟨⟨h1, h2⟩, h3⟩ := this
  refine ⟨?_, List.all_eq_true.1 h2, h3⟩
  cases l with
  | nil => cases h1
  | cons c t => exact ⟨c, t, rfl, h1⟩
theorem great_not_small {c : UInt8} (h : small c = true) : great c = false := by
  simp only [small, great, Bool.and_eq_true, decide_eq_true_eq, Bool.and_eq_false_iff, decide_eq_false_iff_not] at *; omega
theorem digit_not {c : UInt8} (h : digit c = true) : great c = false ∧ small c = false := by
  simp only [small, great, digit, Bool.and_eq_true, decide_eq_true_eq, Bool.and_eq_false_iff, decide_eq_false_iff_not] at *; omega
theorem inner_not_blank {c : UInt8} (h : inner c = true) : blank c = false ∧ c ≠ 47 := by
  have e : (47 : UInt8).toNat = 47 := rfl
  refine ⟨?_, fun hc => ?_⟩
  · simp only [inner, small, great, digit, blank, Bool.or_eq_true, Bool.and_eq_true, decide_eq_true_eq, Bool.or_eq_false_iff, decide_eq_false_iff_not] at *; omega
  · subst hc; simp only [inner, small, great, digit, e, Bool.or_eq_true, Bool.and_eq_true, decide_eq_true_eq] at h; omega
theorem digit_inner {c : UInt8} (h : digit c = true) : inner c = true := by simp [inner, h]
theorem great_inner {c : UInt8} (h : great c = true) : inner c = true := by simp [inner, h]
theorem small_inner {c : UInt8} (h : small c = true) : inner c = true := by simp [inner, h]
theorem marks_hd : ∀ m ∈ marksL, ∃ c t, m = c :: t ∧ inner c = false ∧ blank c = false := by
  have h : (marksL.all fun l => (match l with | [] => false | c :: _ => !inner c && !blank c)) = true := by decide
  intro l hl
  have := List.all_eq_true.1 h l hl
  cases l with
  | nil => cases this
  | cons c t => exact ⟨c, t, rfl, by simpa using this⟩
theorem nextM_c (c : UInt8) (l : Bs) : nextM (c :: l) = (bif great c then capT ⟨2, (c :: l).takeWhile inner, 0⟩ else
    bif small c then capT ⟨bif decide ((c :: l).takeWhile inner ∈ wordsL) then 1 else 3, (c :: l).takeWhile inner, 0⟩ else
    bif digit c then (match numF 0 ((c :: l).takeWhile digit) with | none => (22, tokZ) | some n => (0, ⟨4, (c :: l).takeWhile digit, n⟩)) else
    match marksL.find? (fun m => pre m (c :: l)) with | none => (20, tokZ) | some m => (0, ⟨5, m, 0⟩)) := rfl
theorem cap_ok {t : Tok} (h : t.text.length ≤ 40) : capT t = (0, t) := by
  unfold capT; rw [decide_eq_false (by omega)]; rfl
theorem next_ok {t : Tok} {r : Bs} (hw : Wf t) (hs : Sep t r) : nextM (t.text ++ r) = (0, t) := by
  cases hw with
  | word h =>
    rename_i l
    have hn := words_ok l h
    obtain ⟨c, q, rfl, hc⟩ := hn.hd
    have hsep : Stop inner r := fun a b e => by have := hs a b e; simpa [okAfter] using this
    have tw := takeWhile_app hn.all hsep
    show nextM (c :: (q ++ r)) = _
    rw [nextM_c, great_not_small hc, hc, show (c :: (q ++ r)) = (c :: q) ++ r from rfl, tw, decide_eq_true h]
    exact cap_ok hn.len
  | upper hn =>
    rename_i l
    obtain ⟨c, q, rfl, hc⟩ := hn.hd
    have hsep : Stop inner r := fun a b e => by have := hs a b e; simpa [okAfter] using this
    have tw := takeWhile_app hn.all hsep
    show nextM (c :: (q ++ r)) = _
    rw [nextM_c, hc, show (c :: (q ++ r)) = (c :: q) ++ r from rfl, tw]
    exact cap_ok hn.len
  | lower hn hw =>
    rename_i l
    obtain ⟨c, q, rfl, hc⟩ := hn.hd
    have hsep : Stop inner r := fun a b e => by have := hs a b e; simpa [okAfter] using this
    have tw := takeWhile_app hn.all hsep
    show nextM (c :: (q ++ r)) = _
    rw [nextM_c, great_not_small hc, hc, show (c :: (q ++ r)) = (c :: q) ++ r from rfl, tw, decide_eq_false hw]
    exact cap_ok hn.len
  | num h0 h hn =>
    rename_i l n
    cases l with
    | nil => exact absurd rfl h0
    | cons c q =>
      have hc := h c (List.mem_cons_self ..)
      have hsep : Stop digit r := fun a b e => by have := hs a b e; simpa [okAfter] using this
      have tw := takeWhile_app h hsep
      show nextM (c :: (q ++ r)) = _
      rw [nextM_c, (digit_not hc).1, (digit_not hc).2, hc, show (c :: (q ++ r)) = (c :: q) ++ r from rfl, tw, hn]
      rfl
  | mark h =>
    rename_i l
    have hsep : Stop (fun c => !okNext l c) r := fun a b e => by have := hs a b e; simpa [okAfter] using this
    have hm := (mark_ok h hsep).1
    obtain ⟨c, q, rfl, hc, _⟩ := marks_hd l h
    simp only [inner, Bool.or_eq_false_iff] at hc
    show nextM (c :: (q ++ r)) = _
    rw [nextM_c, hc.1, hc.2.1, hc.2.2.1, show (c :: (q ++ r)) = (c :: q) ++ r from rfl, hm]
    rfl
theorem skip_c (c : UInt8) (t : Bs) : skipM false (c :: t) = bif blank c then skipM false t else bif pre [47, 47] (c :: t) then skipM true t else c :: t := rfl
theorem skip_ok {t : Tok} {r : Bs} (hw : Wf t) (hs : Sep t r) : skipM false (t.text ++ r) = t.text ++ r := by
  have key : ∀ {c : UInt8} {q : Bs}, t.text = c :: q → inner c = true → skipM false (t.text ++ r) = t.text ++ r := by
    intro c q e hc
    rw [e, List.cons_append, skip_c, (inner_not_blank hc).1, pre_R]
    rw [show preR [47, 47] (c :: (q ++ r)) = (decide (47 = c) && preR [47] (q ++ r)) from rfl, decide_eq_false (fun h => (inner_not_blank hc).2 h.symm)]
    rfl
  cases hw with
  | word h => obtain ⟨c, q, e, hc⟩ := (words_ok _ h).hd; exact key e (small_inner hc)
  | upper hn => obtain ⟨c, q, e, hc⟩ := hn.hd; exact key e (great_inner hc)
  | lower hn hw => obtain ⟨c, q, e, hc⟩ := hn.hd; exact key e (small_inner hc)
  | num h0 h hn =>
    rename_i l n
    cases l with
    | nil => exact absurd rfl h0
    | cons c q => exact key (c := c) (q := q) rfl (digit_inner (h c (List.mem_cons_self ..)))
  | mark h =>
    rename_i l
    have hsep : Stop (fun c => !okNext l c) r := fun a b e => by have := hs a b e; simpa [okAfter] using this
    have hm := (mark_ok h hsep).2
    obtain ⟨c, q, rfl, hc, hb⟩ := marks_hd l h
    show skipM false (c :: (q ++ r)) = _
    rw [skip_c, hb, show (c :: (q ++ r)) = (c :: q) ++ r from rfl, hm]
    rfl
/- blanks and remarks -/
def Gap (g : Bs) : Prop := ∀ r, skipM false (g ++ r) = skipM false r
theorem gap_nil : Gap [] := fun _ => rfl
theorem gap_app {a b : Bs} (ha : Gap a) (hb : Gap b) : Gap (a ++ b) := fun r => by rw [List.append_assoc, ha, hb]
theorem gap_blank {c : UInt8} (h : blank c = true) : Gap [c] := fun r => by rw [List.singleton_append, skip_c, h]; rfl
theorem gap_blanks : ∀ {l : Bs}, (∀ c ∈ l, blank c = true) → Gap l
  | [], _ => gap_nil
  | c :: _, h => gap_app (a := [c]) (gap_blank (h c (List.mem_cons_self ..))) (gap_blanks fun x hx => h x (List.mem_cons_of_mem _ hx))
theorem skip_rem : ∀ (t r : Bs), (∀ c ∈ t, c ≠ 10) → skipM true (t ++ 10 :: r) = skipM false r
  | [], r, _ => by show (bif decide ((10 : UInt8).toNat = 10) then skipM false r else skipM true r) = _; rfl
  | c :: t, r, h => by
    have hc : c.toNat ≠ 10 := fun e => h c (List.mem_cons_self ..) (UInt8.toNat_inj.1 e)
    show (bif decide (c.toNat = 10) then skipM false (t ++ 10 :: r) else skipM true (t ++ 10 :: r)) = _
    rw [decide_eq_false hc]
    exact skip_rem t r fun x hx => h x (List.mem_cons_of_mem _ hx)
theorem gap_rem {t : Bs} (h : ∀ c ∈ t, c ≠ 10) : Gap (47 :: 47 :: (t ++ [10])) := fun r => by
  rw [show (47 :: 47 :: (t ++ [10])) ++ r = 47 :: ((47 :: t) ++ 10 :: r) by simp, skip_c, pre_R]
  exact skip_rem (47 :: t) r fun c hc => by
    cases hc with
    | head => decide
    | tail _ hc => exact h c hc
/- texts and their tokens -/
def LexTo (s : Bs) (ts : List Tok) : Prop := ∀ f, s.length < f → lexF f s = (0, ts)
theorem lexF_s (f : Nat) (r : Bs) : lexF (f + 1) r = bif decide ((nextM (skipM false r)).1 = 0) then
      bif decide ((nextM (skipM false r)).2.kind = 0) then (0, [(nextM (skipM false r)).2])
      else ((lexF f ((skipM false r).drop (nextM (skipM false r)).2.text.length)).1, (nextM (skipM false r)).2 :: (lexF f ((skipM false r).drop (nextM (skipM false r)).2.text.length)).2)
    else ((nextM (skipM false r)).1, []) := rfl
theorem lex_end {g : Bs} (hg : Gap g) : LexTo g [tokZ] := fun f h => by
  cases f with
  | zero => omega
  | succ f =>
    have e : skipM false g = [] := by have := hg []; rw [List.append_nil] at this; exact this
    rw [lexF_s, e]; rfl
theorem Wf.kd {t : Tok} (h : Wf t) : t.kind ≠ 0 := by cases h <;> simp
theorem Wf.ne {t : Tok} (h : Wf t) : 0 < t.text.length := by
  cases h with
  | word h => obtain ⟨c, q, e, hc⟩ := (words_ok _ h).hd; rw [e]; simp
  | upper hn => obtain ⟨c, q, e, hc⟩ := hn.hd; rw [e]; simp
  | lower hn hw => obtain ⟨c, q, e, hc⟩ := hn.hd; rw [e]; simp
  | num h0 h hn => rename_i l n; cases l with
    | nil => exact absurd rfl h0
    | cons c q => simp
  | mark h => obtain ⟨c, q, e, hc⟩ := marks_hd _ h; rw [e]; simp
theorem lex_tok {g : Bs} {t : Tok} {r : Bs} {ts : List Tok} (hg : Gap g) (hw : Wf t) (hs : Sep t r) (h : LexTo r ts) : LexTo (g ++ (t.text ++ r)) (t :: ts) := fun f hf => by
  have hl := hw.ne
  simp only [List.length_append] at hf
  cases f with
  | zero => omega
  | succ f =>
    rw [lexF_s, hg, skip_ok hw hs, next_ok hw hs]
    show (bif true then bif decide (t.kind = 0) then (0, [t]) else ((lexF f ((t.text ++ r).drop t.text.length)).1, t :: (lexF f ((t.text ++ r).drop t.text.length)).2) else (0, [])) = _
    rw [decide_eq_false hw.kd, List.drop_left, h f (by omega)]
    rfl
theorem lexA_of {s : Bs} {ts : List Tok} (h : LexTo s ts) (hs : s.length ≤ 65536) : lexA s = (0, ts) := by
  unfold lexA; rw [decide_eq_false (by omega)]; exact h _ (by omega)
end Go.PQ

/- Lists of tokens, each with the blanks ahead of it, as bytes. -/
namespace Go.PQ
open Go.Eng
set_option maxRecDepth 100000
/- a byte that may stand behind any token -/
def free (c : UInt8) : Bool := !inner c && !decide (c = 61) && !decide (c = 47)
theorem free_after {t : Tok} {c : UInt8} (h : free c = true) : okAfter t c = true := by
  simp only [free, Bool.and_eq_true, Bool.not_eq_true', decide_eq_false_iff_not] at h
  have hd : digit c = false := by cases hd : digit c with
    | false => rfl
    | true => rw [digit_inner hd] at h; simp at h
  unfold okAfter okNext
  rw [h.1.1, hd, decide_eq_false h.1.2, decide_eq_false h.2]
  cases decide (t.kind = 5) <;> cases decide (t.kind = 4) <;> simp
theorem inner_after {t : Tok} {c : UInt8} (ht : t.kind = 5) (h : inner c = true) : okAfter t c = true := by
  have h1 : c ≠ 61 := fun e => by subst e; revert h; decide
  have h2 := (inner_not_blank h).2
  unfold okAfter okNext
  rw [ht, decide_eq_false h1, decide_eq_false h2]; simp
theorem outer_after {t : Tok} {c : UInt8} (ht : t.kind ≠ 5) (h : inner c = false) : okAfter t c = true := by
  have hd : digit c = false := by cases hd : digit c with
    | false => rfl
    | true => rw [digit_inner hd] at h; cases h
  unfold okAfter
  rw [decide_eq_false ht, h, hd]; cases decide (t.kind = 4) <;> rfl
def SepH (t : Tok) : Bs → Bool
  | [] => true
  | c :: _ => okAfter t c
theorem sep_of {t : Tok} {r : Bs} (h : SepH t r = true) : Sep t r := fun c l e => by subst e; simpa [SepH] using h
theorem sepH_app {t : Tok} {c : UInt8} {a r : Bs} : SepH t ((c :: a) ++ r) = okAfter t c := rfl
/- pieces: blanks and a token -/
def txt : List (Bs × Tok) → Bs → Bs
  | [], g => g
  | p :: l, g => p.1 ++ (p.2.text ++ txt l g)
def Good : List (Bs × Tok) → Bs → Prop
  | [], g => Gap g
  | p :: l, g => Gap p.1 ∧ Wf p.2 ∧ SepH p.2 (txt l g) = true ∧ Good l g
theorem lex_txt : ∀ {l : List (Bs × Tok)} {g : Bs}, Good l g → LexTo (txt l g) (l.map Prod.snd ++ [tokZ])
  | [], _, h => lex_end h
  | _ :: _, _, h => lex_tok h.1 h.2.1 (sep_of h.2.2.1) (lex_txt h.2.2.2)
theorem txt_app : ∀ (a b : List (Bs × Tok)) (g : Bs), txt (a ++ b) g = txt a (txt b g)
  | [], _, _ => rfl
  | _ :: a, b, g => by rw [List.cons_append, txt, txt, txt_app a b g]
def W (l : Bs) : Tok := ⟨1, l, 0⟩
def U (l : Bs) : Tok := ⟨2, l, 0⟩
def L (l : Bs) : Tok := ⟨3, l, 0⟩
def N (l : Bs) (n : Nat) : Tok := ⟨4, l, n⟩
def M (l : Bs) : Tok := ⟨5, l, 0⟩
end Go.PQ

/- The plain parser on tokens that are known: small steps; a part alone as a whole expression. -/
namespace Go.PQ
open Go.Eng
set_option maxRecDepth 100000
section
variable {t u : Tok} {r : List Tok} {d : Nat}
theorem one_mark {w : Bs} {l : Bs} : oneT w ⟨M l, r, d, 0⟩ = decide (l = w) := rfl
theorem one_word {w : Bs} {l : Bs} : oneT w ⟨W l, r, d, 0⟩ = decide (l = w) := rfl
theorem one_no {w : Bs} (h1 : t.kind ≠ 1) (h5 : t.kind ≠ 5) : oneT w ⟨t, r, d, 0⟩ = false := by simp [oneT, h1, h5]
theorem one_bad {w : Bs} {s : S} (h : s.e ≠ 0) : oneT w s = false := by simp [oneT, S.ok, h]
theorem next_at (h : t.kind ≠ 0) : nextS ⟨t, u :: r, d, 0⟩ = some ⟨u, r, d, 0⟩ := by simp [nextS, h]
theorem take_yes {w : Bs} (h : oneT w ⟨t, u :: r, d, 0⟩ = true) (hk : t.kind ≠ 0) : takeT w ⟨t, u :: r, d, 0⟩ = some (true, ⟨u, r, d, 0⟩) := by unfold takeT; rw [h, next_at hk]; rfl
theorem take_no {w : Bs} {s : S} (h : oneT w s = false) : takeT w s = some (false, s) := by unfold takeT; rw [h]; rfl
theorem take_mark {l : Bs} : takeT l ⟨M l, u :: r, d, 0⟩ = some (true, ⟨u, r, d, 0⟩) := take_yes (by rw [one_mark]; simp) (by simp [M])
theorem take_word {l : Bs} : takeT l ⟨W l, u :: r, d, 0⟩ = some (true, ⟨u, r, d, 0⟩) := take_yes (by rw [one_word]; simp) (by simp [W])
theorem want_one {w : Bs} {s : S} {s' : S} (h : takeT w s = some (true, s')) : wantT [w] s = some s' := by unfold wantT; rw [h]; rfl
theorem want_mark {l : Bs} : wantT [l] ⟨M l, u :: r, d, 0⟩ = some ⟨u, r, d, 0⟩ := want_one take_mark
theorem want_word {l : Bs} : wantT [l] ⟨W l, u :: r, d, 0⟩ = some ⟨u, r, d, 0⟩ := want_one take_word
theorem is_none {ws : List Bs} {s : S} (h : ∀ w ∈ ws, oneT w s = false) : isT ws s = false := by
  unfold isT; rw [Bool.eq_false_iff]; intro hc
  obtain ⟨w, hw, h2⟩ := List.any_eq_true.1 hc
  rw [h w hw] at h2; cases h2
theorem name_at {k : Nat} {l : Bs} {n : Nat} (hk : k ≠ 0) : nameT k ⟨⟨k, l, n⟩, u :: r, d, 0⟩ = some (l, ⟨u, r, d, 0⟩) := by
  unfold nameT; rw [next_at (t := ⟨k, l, n⟩) hk]; simp [S.ok]
theorem name_L {l : Bs} : nameT 3 ⟨L l, u :: r, d, 0⟩ = some (l, ⟨u, r, d, 0⟩) := name_at (by decide)
theorem name_U {l : Bs} : nameT 2 ⟨U l, u :: r, d, 0⟩ = some (l, ⟨u, r, d, 0⟩) := name_at (by decide)
theorem down_at (h : d < 100) : downS ⟨t, r, d, 0⟩ = some ⟨t, r, d + 1, 0⟩ := by
  unfold downS; simp only
  rw [decide_eq_true (show d < 1000000 by omega), decide_eq_false (show ¬ 100 < d + 1 by omega)]; rfl
theorem up_at (h : d < 1000000) : upS ⟨t, r, d + 1, 0⟩ = some ⟨t, r, d, 0⟩ := by
  unfold upS; simp only [h, decide_true, cond_true]
end
/- the words and marks that make an expression go on -/
def opsL : List Bs := [m_or, m_and, m_eqeq, m_neq, m_less, m_leq, m_plus, m_minus, m_star, m_slash, m_rem, w_as, w_is]
def tailL : List Bs := [m_lb, m_dot]
def noOp (s : S) : Prop := ∀ w ∈ opsL, oneT w s = false
def noTail (s : S) : Prop := ∀ w ∈ tailL, oneT w s = false
theorem noOp.of {s : S} (h : noOp s) (ws : List Bs) (hs : ∀ w ∈ ws, w ∈ opsL) : isT ws s = false := is_none fun w hw => h w (hs w hw)
theorem asL_no {f : Nat} {e : Ex} {s : S} (h : noOp s) : asL (f + 1) e s = some (e, s) := by
  show (bif isT [w_as, w_is] s then _ else some (e, s)) = _
  rw [h.of _ (by decide)]; rfl
theorem signsL_no {ws : List Bs} {nx : PM Ex} {f : Nat} {e : Ex} {s : S} (h : noOp s) (hs : ∀ w ∈ ws, w ∈ opsL) : signsL ws nx (f + 1) e s = some (e, s) := by
  show (bif isT ws s then _ else some (e, s)) = _
  rw [h.of _ hs]; rfl
theorem eitherL_no {k : Nat} {w : Bs} {nx : PM Ex} {f : Nat} {e : Ex} {s : S} (h : noOp s) (hs : w ∈ opsL) : eitherL k w nx (f + 1) e s = some (e, s) := by
  show (bif isT [w] s then _ else some (e, s)) = _
  rw [h.of _ (fun x hx => by rw [List.mem_singleton.1 hx]; exact hs)]; rfl
/- a unary alone, up to a whole expression -/
theorem prod_lift {un : PM Ex} {f : Nat} {s s' : S} {e : Ex} (h : un s = some (e, s')) (hn : noOp s') : signs [m_star, m_slash, m_rem] un (f + 1) s = some (e, s') := by
  unfold signs; rw [h]; exact signsL_no hn (by decide)
theorem sum_lift {un : PM Ex} {f : Nat} {s s' : S} {e : Ex} (h : un s = some (e, s')) (hn : noOp s') : sumP un (f + 1) s = some (e, s') := by
  unfold sumP; rw [signs, prod_lift h hn]; exact signsL_no hn (by decide)
theorem cmp_lift {un : PM Ex} {f : Nat} {s s' : S} {e : Ex} (h : un s = some (e, s')) (hn : noOp s') : compared un (f + 1) s = some (e, s') := by
  unfold compared; rw [sum_lift h hn]
  show (bif isT [m_eqeq, m_neq, m_less, m_leq] s' then _ else some (e, s')) = _
  rw [hn.of _ (by decide)]; rfl
theorem and_lift {un : PM Ex} {f : Nat} {s s' : S} {e : Ex} (h : un s = some (e, s')) (hn : noOp s') : either 17 m_and (compared un (f + 1)) (f + 1) s = some (e, s') := by
  unfold either; rw [cmp_lift h hn]; exact eitherL_no hn (by decide)
theorem or_lift {un : PM Ex} {f : Nat} {s s' : S} {e : Ex} (h : un s = some (e, s')) (hn : noOp s') : either 18 m_or (either 17 m_and (compared un (f + 1)) (f + 1)) (f + 1) s = some (e, s') := by
  unfold either; rw [← either, and_lift h hn]; exact eitherL_no hn (by decide)
theorem expr_lift {f : Nat} {s s1 s2 s3 : S} {e : Ex} (hd : downS s = some s1) (h : unary (expr (f + 1)) (f + 1) s1 = some (e, s2)) (hn : noOp s2) (hu : upS s2 = some s3) : expr (f + 2) s = some (e, s3) := by
  show exprF (expr (f + 1)) (f + 1) s = _
  unfold exprF; rw [hd]
  show ((either 18 m_or (either 17 m_and (compared (unary (expr (f + 1)) (f + 1)) (f + 1)) (f + 1)) (f + 1) s1).bind fun p => (upS p.2).bind fun s' => some (p.1, s')) = _
  rw [or_lift h hn]
  show ((upS s2).bind fun s' => some (e, s')) = _
  rw [hu]; rfl
theorem unary_parts {rec : PM Ex} {f : Nat} {s s' : S} {e : Ex} (h1 : oneT m_minus s = false) (h2 : oneT m_not s = false) (h : partsP rec (f + 1) s = some (e, s')) (hn : noOp s') : unary rec (f + 2) s = some (e, s') := by
  show (bif isT [m_minus] s then _ else bif isT [m_not] s then _ else (partsP rec (f + 1) s).bind fun p => asL (f + 1) p.1 p.2) = _
  rw [is_none (ws := [m_minus]) fun w hw => by rw [List.mem_singleton.1 hw]; exact h1, is_none (ws := [m_not]) fun w hw => by rw [List.mem_singleton.1 hw]; exact h2, h]
  exact asL_no hn
theorem partsL_no {rec : PM Ex} {f : Nat} {e : Ex} {s : S} (h : noTail s) : partsL rec (f + 1) e s = some (e, s) := by
  show ((takeT m_lb s).bind fun p => bif p.1 then _ else (takeT m_dot p.2).bind fun p => bif p.1 then _ else some (e, p.2)) = _
  rw [take_no (h m_lb (by decide))]
  show ((takeT m_dot s).bind fun p => bif p.1 then _ else some (e, p.2)) = _
  rw [take_no (h m_dot (by decide))]; rfl
theorem parts_prim {rec : PM Ex} {f : Nat} {s s' : S} {e : Ex} (h : primP rec (f + 1) s = some (e, s')) (hn : noTail s') : partsP rec (f + 1) s = some (e, s') := by
  unfold partsP; rw [h]; exact partsL_no hn
/- the parts, by their tokens -/
section
variable {rec : PM Ex} {f d : Nat} {u : Tok} {r : List Tok}
theorem prim_num {l : Bs} {n : Nat} : primP rec f ⟨N l n, u :: r, d, 0⟩ = some (.mk 1 n [] [] false [], ⟨u, r, d, 0⟩) := rfl
theorem prim_local {l : Bs} : primP rec f ⟨L l, u :: r, d, 0⟩ = some (.mk 6 0 l [] false [], ⟨u, r, d, 0⟩) := rfl
theorem prim_true : primP rec f ⟨W w_true, u :: r, d, 0⟩ = some (.mk 2 0 [] [] false [], ⟨u, r, d, 0⟩) := rfl
theorem prim_false : primP rec f ⟨W w_false, u :: r, d, 0⟩ = some (.mk 3 0 [] [] false [], ⟨u, r, d, 0⟩) := rfl
theorem prim_null : primP rec f ⟨W w_null, u :: r, d, 0⟩ = some (.mk 4 0 [] [] false [], ⟨u, r, d, 0⟩) := rfl
theorem prim_this : primP rec f ⟨W w_this, u :: r, d, 0⟩ = some (.mk 5 0 [] [] false [], ⟨u, r, d, 0⟩) := rfl
theorem prim_br {e : Ex} {v : Tok} {q : List Tok} {d' : Nat} (h : rec ⟨u, r, d, 0⟩ = some (e, ⟨M m_rp, v :: q, d', 0⟩)) : primP rec f ⟨M m_lp, u :: r, d, 0⟩ = some (e, ⟨v, q, d', 0⟩) := by
  show ((rec ⟨u, r, d, 0⟩).bind fun x => (wantT [m_rp] x.2).bind fun s1 => some (x.1, s1)) = _
  rw [h]
  show ((wantT [m_rp] ⟨M m_rp, v :: q, d', 0⟩).bind fun s1 => some (e, s1)) = _
  rw [want_mark]; rfl
theorem prim_bad {s : S} (h : s.e ≠ 0) : primP rec f s = some (.mk 0 0 [] [] false [], s) := by
  unfold primP; rw [show s.ok = false by simp [S.ok, h]]; rfl
end
end Go.PQ

