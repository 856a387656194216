/- Part of a proof: texts PMA PQA PQB PQC PQD PMB PRA PRB PRC PRD PRE PRF PRG of the engine and what is proved with it; nothing is assumed. -/
import Derived.Test.YtcjkfmaoahojeaaDoorWalk
import Derived.Test.YtcjkfmaoahojeaaDoorPlainR
set_option linter.unusedVariables false
set_option linter.unusedSimpArgs false
/- The lexer, as plain functions of bytes. -/
namespace Go.PQ
open Go.Eng
abbrev Bs := List UInt8
def w_as : Bs := [97, 115]
def w_bool : Bs := [98, 111, 111, 108]
def w_class : Bs := [99, 108, 97, 115, 115]
def w_else : Bs := [101, 108, 115, 101]
def w_extends : Bs := [101, 120, 116, 101, 110, 100, 115]
def w_false : Bs := [102, 97, 108, 115, 101]
def w_field : Bs := [102, 105, 101, 108, 100]
def w_if : Bs := [105, 102]
def w_int : Bs := [105, 110, 116]
def w_is : Bs := [105, 115]
def w_length : Bs := [108, 101, 110, 103, 116, 104]
def w_let : Bs := [108, 101, 116]
def w_method : Bs := [109, 101, 116, 104, 111, 100]
def w_new : Bs := [110, 101, 119]
def w_null : Bs := [110, 117, 108, 108]
def w_print : Bs := [112, 114, 105, 110, 116]
def w_return : Bs := [114, 101, 116, 117, 114, 110]
def w_static : Bs := [115, 116, 97, 116, 105, 99]
def w_this : Bs := [116, 104, 105, 115]
def w_true : Bs := [116, 114, 117, 101]
def w_while : Bs := [119, 104, 105, 108, 101]
def m_eqeq : Bs := [61, 61]
def m_neq : Bs := [33, 61]
def m_leq : Bs := [60, 61]
def m_and : Bs := [38, 38]
def m_or : Bs := [124, 124]
def m_plus : Bs := [43]
def m_minus : Bs := [45]
def m_star : Bs := [42]
def m_slash : Bs := [47]
def m_rem : Bs := [37]
def m_less : Bs := [60]
def m_put : Bs := [61]
def m_not : Bs := [33]
def m_lp : Bs := [40]
def m_rp : Bs := [41]
def m_lb : Bs := [91]
def m_rb : Bs := [93]
def m_lc : Bs := [123]
def m_rc : Bs := [125]
def m_semi : Bs := [59]
def m_comma : Bs := [44]
def m_dot : Bs := [46]
theorem c_as : V.str 2 29537 = sB w_as := rfl
theorem c_bool : V.str 4 1819242338 = sB w_bool := rfl
theorem c_class : V.str 5 495857003619 = sB w_class := rfl
theorem c_else : V.str 4 1702063205 = sB w_else := rfl
theorem c_extends : V.str 7 32480047633037413 = sB w_extends := rfl
theorem c_false : V.str 5 435728179558 = sB w_false := rfl
theorem c_field : V.str 5 431315315046 = sB w_field := rfl
theorem c_if : V.str 2 26217 = sB w_if := rfl
theorem c_int : V.str 3 7630441 = sB w_int := rfl
theorem c_is : V.str 2 29545 = sB w_is := rfl
theorem c_length : V.str 6 114849160783212 = sB w_length := rfl
theorem c_let : V.str 3 7628140 = sB w_let := rfl
theorem c_method : V.str 6 110429656606061 = sB w_method := rfl
theorem c_new : V.str 3 7824750 = sB w_new := rfl
theorem c_null : V.str 4 1819047278 = sB w_null := rfl
theorem c_print : V.str 5 500068610672 = sB w_print := rfl
theorem c_return : V.str 6 121437875889522 = sB w_return := rfl
theorem c_static : V.str 6 109304575259763 = sB w_static := rfl
theorem c_this : V.str 4 1936287860 = sB w_this := rfl
theorem c_true : V.str 4 1702195828 = sB w_true := rfl
theorem c_while : V.str 5 435610544247 = sB w_while := rfl
theorem d_eqeq : V.str 2 15677 = sB m_eqeq := rfl
theorem d_neq : V.str 2 15649 = sB m_neq := rfl
theorem d_leq : V.str 2 15676 = sB m_leq := rfl
theorem d_and : V.str 2 9766 = sB m_and := rfl
theorem d_or : V.str 2 31868 = sB m_or := rfl
theorem d_plus : V.str 1 43 = sB m_plus := rfl
theorem d_minus : V.str 1 45 = sB m_minus := rfl
theorem d_star : V.str 1 42 = sB m_star := rfl
theorem d_slash : V.str 1 47 = sB m_slash := rfl
theorem d_rem : V.str 1 37 = sB m_rem := rfl
theorem d_less : V.str 1 60 = sB m_less := rfl
theorem d_put : V.str 1 61 = sB m_put := rfl
theorem d_not : V.str 1 33 = sB m_not := rfl
theorem d_lp : V.str 1 40 = sB m_lp := rfl
theorem d_rp : V.str 1 41 = sB m_rp := rfl
theorem d_lb : V.str 1 91 = sB m_lb := rfl
theorem d_rb : V.str 1 93 = sB m_rb := rfl
theorem d_lc : V.str 1 123 = sB m_lc := rfl
theorem d_rc : V.str 1 125 = sB m_rc := rfl
theorem d_semi : V.str 1 59 = sB m_semi := rfl
theorem d_comma : V.str 1 44 = sB m_comma := rfl
theorem d_dot : V.str 1 46 = sB m_dot := rfl
theorem c_nil : V.str 0 0 = sB [] := rfl
def wordsL : List Bs := [w_as, w_bool, w_class, w_else, w_extends, w_false, w_field, w_if, w_int, w_is, w_length, w_let, w_method, w_new, w_null, w_print, w_return, w_static, w_this, w_true, w_while]
def marksL : List Bs := [m_eqeq, m_neq, m_leq, m_and, m_or, m_plus, m_minus, m_star, m_slash, m_rem, m_less, m_put, m_not, m_lp, m_rp, m_lb, m_rb, m_lc, m_rc, m_semi, m_comma, m_dot]
def great (c : UInt8) : Bool := decide (65 ≤ c.toNat) && decide (c.toNat ≤ 90)
def small (c : UInt8) : Bool := decide (97 ≤ c.toNat) && decide (c.toNat ≤ 122)
def digit (c : UInt8) : Bool := decide (48 ≤ c.toNat) && decide (c.toNat ≤ 57)
def inner (c : UInt8) : Bool := great c || (small c || (digit c || decide (c.toNat = 95)))
def blank (c : UInt8) : Bool := decide (c.toNat = 32) || (decide (c.toNat = 9) || (decide (c.toNat = 10) || decide (c.toNat = 13)))
def pre (p l : Bs) : Bool := decide (p.length ≤ l.length) && decide (l.take p.length = p)
/- past blanks and remarks -/
def skipM : Bool → Bs → Bs
  | _, [] => []
  | true, c :: t => bif decide (c.toNat = 10) then skipM false t else skipM true t
  | false, c :: t => bif blank c then skipM false t else bif pre [47, 47] (c :: t) then skipM true t else c :: t
structure Tok where
  kind : Nat
  text : Bs
  num : Nat
def tokZ : Tok := ⟨0, [], 0⟩
def numF : Nat → Bs → Option Nat
  | n, [] => some n
  | n, c :: l => bif decide (288230376151711744 < n * 10 + (c.toNat - 48)) then none else numF (n * 10 + (c.toNat - 48)) l
def capT (t : Tok) : Nat × Tok := bif decide (40 < t.text.length) then (4, tokZ) else (0, t)
def nextM : Bs → Nat × Tok
  | [] => (0, tokZ)
  | c :: l =>
    bif great c then capT ⟨2, (c :: l).takeWhile inner, 0⟩ else
    bif small c then capT ⟨bif decide ((c :: l).takeWhile inner ∈ wordsL) then 1 else 3, (c :: l).takeWhile inner, 0⟩ else
    bif digit c then (match numF 0 ((c :: l).takeWhile digit) with | none => (22, tokZ) | some n => (0, ⟨4, (c :: l).takeWhile digit, n⟩)) else
    match marksL.find? (fun m => pre m (c :: l)) with | none => (20, tokZ) | some m => (0, ⟨5, m, 0⟩)
def lexF : Nat → Bs → Nat × List Tok
  | 0, _ => (0, [])
  | f + 1, r =>
    bif decide ((nextM (skipM false r)).1 = 0) then
      bif decide ((nextM (skipM false r)).2.kind = 0) then (0, [(nextM (skipM false r)).2])
      else ((lexF f ((skipM false r).drop (nextM (skipM false r)).2.text.length)).1, (nextM (skipM false r)).2 :: (lexF f ((skipM false r).drop (nextM (skipM false r)).2.text.length)).2)
    else ((nextM (skipM false r)).1, [])
def lexA (s : Bs) : Nat × List Tok := bif decide (65536 < s.length) then (4, []) else lexF (s.length + 1) s
end Go.PQ

/- Contracts of the lexer, first part: bytes, words, numbers. -/
namespace Go.PQ
open Go.Eng
set_option maxRecDepth 100000
section
variable {G : Roms} {H : Heap} {n : Nat} {k : KV}
theorem Great_c {c : UInt8} (hk : k (.bool (great c)) H n) : Runs F G n_lex_great [.int .u8 (.ofNat c.toNat) 0] H n k := by
  refine runs_s (s := ar1 (s_lex_great lfp G)) at_lex_great (by obtain ⟨h, o⟩ := si_lex_great lfp_ok G; rw [at_lex_great] at h; cases h; exact o) ?_
  show s_lex_great lfp G (Runs F G) (.int .u8 (.ofNat c.toNat) 0) H n k
  delta s_lex_great
  unfold great at hk
  simp only [go_sem, geq_n, leq_n]
  cases h : decide (65 ≤ c.toNat) <;> rw [h] at hk <;> simp only [go_sem, leq_n] <;> exact hk
theorem Small_c {c : UInt8} (hk : k (.bool (small c)) H n) : Runs F G n_lex_small [.int .u8 (.ofNat c.toNat) 0] H n k := by
  refine runs_s (s := ar1 (s_lex_small lfp G)) at_lex_small (by obtain ⟨h, o⟩ := si_lex_small lfp_ok G; rw [at_lex_small] at h; cases h; exact o) ?_
  show s_lex_small lfp G (Runs F G) (.int .u8 (.ofNat c.toNat) 0) H n k
  delta s_lex_small
  unfold small at hk
  simp only [go_sem, geq_n, leq_n]
  cases h : decide (97 ≤ c.toNat) <;> rw [h] at hk <;> simp only [go_sem, leq_n] <;> exact hk
theorem Digit_c {c : UInt8} (hk : k (.bool (digit c)) H n) : Runs F G n_lex_digit [.int .u8 (.ofNat c.toNat) 0] H n k := by
  refine runs_s (s := ar1 (s_lex_digit lfp G)) at_lex_digit (by obtain ⟨h, o⟩ := si_lex_digit lfp_ok G; rw [at_lex_digit] at h; cases h; exact o) ?_
  show s_lex_digit lfp G (Runs F G) (.int .u8 (.ofNat c.toNat) 0) H n k
  delta s_lex_digit
  unfold digit at hk
  simp only [go_sem, geq_n, leq_n]
  cases h : decide (48 ≤ c.toNat) <;> rw [h] at hk <;> simp only [go_sem, leq_n] <;> exact hk
theorem Inner_c {c : UInt8} (hk : k (.bool (inner c)) H n) : Runs F G n_lex_inner [.int .u8 (.ofNat c.toNat) 0] H n k := by
  refine runs_s (s := ar1 (s_lex_inner lfp G)) at_lex_inner (by obtain ⟨h, o⟩ := si_lex_inner lfp_ok G; rw [at_lex_inner] at h; cases h; exact o) ?_
  show s_lex_inner lfp G (Runs F G) (.int .u8 (.ofNat c.toNat) 0) H n k
  delta s_lex_inner
  unfold inner at hk
  refine Great_c ?_
  cases h1 : great c with
  | true => rw [h1] at hk; simp only [go_sem]; exact hk
  | false =>
    rw [h1] at hk; simp only [go_sem]
    refine Small_c ?_
    cases h2 : small c with
    | true => rw [h2] at hk; simp only [go_sem]; exact hk
    | false =>
      rw [h2] at hk; simp only [go_sem]
      refine Digit_c ?_
      cases h3 : digit c with
      | true => rw [h3] at hk; simp only [go_sem]; exact hk
      | false => rw [h3] at hk; simp only [go_sem, eq_n]; exact hk
theorem HasPrefix_c {p l : Bs} (hk : k (.bool (pre p l)) H n) : Runs F G n_strings_HasPrefix [sB l, sB p] H n k := by
  refine runs_s (s := ar2 (s_strings_HasPrefix lfp G)) at_strings_HasPrefix (by obtain ⟨h, o⟩ := si_strings_HasPrefix lfp_ok G; rw [at_strings_HasPrefix] at h; cases h; exact o) ?_
  show s_strings_HasPrefix lfp G (Runs F G) (sB l) (sB p) H n k
  delta s_strings_HasPrefix
  refine runs_s (s := ar2 (s_internal_stringslite_HasPrefix lfp G)) at_internal_stringslite_HasPrefix (by obtain ⟨h, o⟩ := si_internal_stringslite_HasPrefix lfp_ok G; rw [at_internal_stringslite_HasPrefix] at h; cases h; exact o) ?_
  show s_internal_stringslite_HasPrefix lfp G (Runs F G) (sB l) (sB p) H n k
  delta s_internal_stringslite_HasPrefix
  unfold pre at hk
  simp only [go_sem, b_len, geq_n]
  cases h : decide (p.length ≤ l.length) with
  | true => 
    have hle := of_decide_eq_true h
    rw [h] at hk; simp only [go_sem, b_len, b_to hle, b_eq]; exact hk
  | false => rw [h] at hk; simp only [go_sem]; exact hk
theorem IndexByte_c {l : Bs} {b : Nat} (hb : b < 256) (hk : k (.int .i64 (findB b l 0) 0) H n) : Runs F G n_strings_IndexByte [sB l, .int .u8 (.ofNat b) 0] H n k := by
  refine runs_s (s := ar2 (s_strings_IndexByte lfp G)) at_strings_IndexByte (by obtain ⟨h, o⟩ := si_strings_IndexByte lfp_ok G; rw [at_strings_IndexByte] at h; cases h; exact o) ?_
  show s_strings_IndexByte lfp G (Runs F G) (sB l) (.int .u8 (.ofNat b) 0) H n k
  delta s_strings_IndexByte
  refine runs_s (s := ar2 (s_internal_stringslite_IndexByte lfp G)) at_internal_stringslite_IndexByte (by obtain ⟨h, o⟩ := si_internal_stringslite_IndexByte lfp_ok G; rw [at_internal_stringslite_IndexByte] at h; cases h; exact o) ?_
  show s_internal_stringslite_IndexByte lfp G (Runs F G) (sB l) (.int .u8 (.ofNat b) 0) H n k
  delta s_internal_stringslite_IndexByte
  simp only [go_sem, b_by hb]
  exact hk
theorem Words_c {l : Bs} (hk : k (.bool (decide (l ∈ wordsL))) H n) : Runs F G n_lex_words [sB l] H n k := by
  refine runs_s (s := ar1 (s_lex_words lfp G)) at_lex_words (by obtain ⟨h, o⟩ := si_lex_words lfp_ok G; rw [at_lex_words] at h; cases h; exact o) ?_
  show s_lex_words lfp G (Runs F G) (sB l) H n k
  delta s_lex_words
  have e : decide (l ∈ wordsL) = wordsL.any fun w => decide (l = w) := by rw [Bool.eq_iff_iff]; simp
  rw [e] at hk
  unfold wordsL at hk
  simp only [c_as, c_bool, c_class, c_else, c_extends, c_false, c_field, c_if, c_int, c_is, c_length, c_let, c_method, c_new, c_null, c_print, c_return, c_static, c_this, c_true, c_while]
  have fin : ∀ b : Bool, k (.bool b) H n → s_lex_words_j1 lfp G (Runs F G) k (.bool b) H n := by
    intro b hb
    delta s_lex_words_j1
    cases b <;> exact hb
  repeat' (
    rw [b_eq, s_onV]
    rw [List.any_cons] at hk
    refine (fun (b : Bool) (P Q : Prop) (h1 : b = true → P) (h2 : b = false → Q) => (by cases b; exact h2 rfl; exact h1 rfl : onTst (.bool b) true P Q)) _ _ _ (fun hb => ?_) (fun hb => ?_)
    · rw [hb] at hk; first | (rw [hb]; exact fin _ hk) | exact hk
    rw [hb, Bool.false_or] at hk)
  exact hk
theorem mul_n {a b : Nat} (h : a * b < 9223372036854775808) : B2.ev .mul (.int .i64 (.ofNat a) 0) (.int .i64 (.ofNat b) 0) = some (.int .i64 (.ofNat (a * b)) 0) := by
  show some (V.int .i64 (wrapI .i64 (Int.mul (.ofNat a) (.ofNat b))) 0) = _
  have e : Int.mul (.ofNat a) (.ofNat b) = .ofNat (a * b) := rfl
  rw [wrapI_eq, e, wrap64_id (by show (-9223372036854775808 : Int) ≤ ((a * b : Nat) : Int); omega) (by show ((a * b : Nat) : Int) < _; omega)]
theorem sub_u8 {a b : Nat} (hb : b ≤ a) (h : a < 256) : B2.ev .sub (.int .u8 (.ofNat a) 0) (.int .u8 (.ofNat b) 0) = some (.int .u8 (.ofNat (a - b)) 0) := by
  show some (V.int .u8 (wrapI .u8 (iadd (.ofNat a) (Int.neg (.ofNat b)))) 0) = _
  rw [iadd_eq]
  have e : Int.ofNat a + Int.neg (Int.ofNat b) = Int.ofNat (a - b) := by show (a : Int) + -(b : Int) = ((a - b : Nat) : Int); omega
  rw [e]
  have : inr .u8 (.ofNat (a - b)) = true := by show Nat.blt (a - b) 256 = true; rw [Nat.blt_eq]; omega
  unfold wrapI; rw [this]
theorem cvi_n {q : IntKind} {a : Nat} (h : a < 9223372036854775808) : cviV .i64 (.int q (.ofNat a) 0) = some (.int .i64 (.ofNat a) 0) := by
  show some (V.int .i64 (wrapI .i64 (.ofNat a)) 0) = _
  rw [wrapI_eq, wrap64_id (by show (-9223372036854775808 : Int) ≤ ((a : Nat) : Int); omega) (by show ((a : Nat) : Int) < _; omega)]
def numR : Option Nat → V
  | none => .tup [.int .i64 (.ofNat 0) 0, .bool false]
  | some m => .tup [.int .i64 (.ofNat m) 0, .bool true]
theorem bytesC_at {l : Bs} {i : Nat} (h : i < l.length) : (bytesC l)[i]? = some [V.int .u8 (.ofNat (l[i]).toNat) 0] := by simp [bytesC, h]
theorem Number_c {l : Bs} (hl : ∀ c ∈ l, digit c = true) (hs : l.length ≤ 65536) (hk : ∀ H', Kp H n H' (n + 1) → k (numR (numF 0 l)) H' (n + 1)) : Runs F G n_lex_number [sB l] H n k := by
  refine runs_s (s := ar1 (s_lex_number lfp G)) at_lex_number (by obtain ⟨h, o⟩ := si_lex_number lfp_ok G; rw [at_lex_number] at h; cases h; exact o) ?_
  show s_lex_number lfp G (Runs F G) (sB l) H n k
  delta s_lex_number
  obtain ⟨R, hR⟩ : ∃ R, numF 0 l = R := ⟨_, rfl⟩
  rw [hR] at hk
  refine b_bytes (G := G) fun H1 v f1 hv => ?_
  simp only [go_sem, hv.len, show (bytesC l).length = l.length from List.length_map ..]
  refine lfp_range (N := l.length) (J := fun j q => ∃ a, q = (.int .i64 (.ofNat a) 0, v, .int .i64 (.ofNat l.length) 0, .int .i64 (.ofNat j) 0, H1, n + 1) ∧ a ≤ 288230376151711744 ∧ numF a (l.drop j) = R) ?_ ?_ ⟨0, rfl, by omega, hR⟩
  · rintro I j q hlt ⟨a, rfl, ha, he⟩ ih
    show s_lex_number_l4 lfp G (Runs F G) k I (.int .i64 (.ofNat a) 0) v (.int .i64 (.ofNat l.length) 0) (.int .i64 (.ofNat j) 0) H1 (n + 1)
    delta s_lex_number_l4
    obtain ⟨p, hp, hld⟩ := hv.at (bytesC_at hlt)
    rw [List.drop_eq_getElem_cons hlt] at he
    have hd := hl _ (List.getElem_mem hlt)
    generalize l[j] = c at hld he hd
    simp only [digit, Bool.and_eq_true, decide_eq_true_eq] at hd
    unfold numF at he
    simp only [go_sem, lss_n, hlt, decide_true, hp, ld1_of hld, mul_n (show a * 10 < 9223372036854775808 by omega), sub_u8 hd.1 (show c.toNat < 256 by omega), cvi_n (show c.toNat - 48 < 9223372036854775808 by omega), add_n (show a * 10 + (c.toNat - 48) < 9223372036854775808 by omega), gtr_n]
    cases h : decide (288230376151711744 < a * 10 + (c.toNat - 48)) with
    | true => rw [h] at he; simp only [go_sem]; have := hk _ f1; rw [← he] at this; exact this
    | false =>
      rw [h] at he; simp only [go_sem, add_n (show j + 1 < 9223372036854775808 by omega)]
      exact ih _ ⟨_, rfl, by simpa using h, he⟩
  · rintro I q ⟨a, rfl, ha, he⟩
    show s_lex_number_l4 lfp G (Runs F G) k I (.int .i64 (.ofNat a) 0) v (.int .i64 (.ofNat l.length) 0) (.int .i64 (.ofNat l.length) 0) H1 (n + 1)
    delta s_lex_number_l4
    rw [List.drop_eq_nil_of_le (Nat.le_refl _)] at he
    simp only [go_sem, lss_n, Nat.lt_irrefl, decide_false]
    delta s_lex_number_j1
    have := hk _ f1
    rw [← he] at this
    exact this
end
end Go.PQ

/- Contracts of the lexer, second part: steps, blanks, runs. -/
namespace Go.PQ
open Go.Eng
set_option maxRecDepth 100000
/- the lexer's own block -/
def LAt (H : Heap) (lb : Nat) (s : Bs) (a : Nat) : Prop := ∃ line col : Nat, 1 ≤ line ∧ 1 ≤ col ∧ line ≤ a + 1 ∧ col ≤ a + 1 ∧
  T.get H lb = some (one [sB s, .int .i64 (.ofNat a) 0, .int .i64 (.ofNat line) 0, .int .i64 (.ofNat col) 0])
theorem bv_pos (q r : IntKind) (a b : Int) (z w : V) : buildV [z, w] [(0, 1, .c (.int q a 0)), (1, 1, .c (.int r b 0))] = some (.agg [.int q a 0, .int r b 0]) := rfl
section
variable {G : Roms} {H : Heap} {n lb a : Nat} {s : Bs} {k : KV}
theorem LAt.kp {H' : Heap} {n' : Nat} (h : LAt H lb s a) (hl : lb < n) (f : Kp H n H' n') : LAt H' lb s a := by
  obtain ⟨line, col, h1, h2, h3, h4, hg⟩ := h
  exact ⟨line, col, h1, h2, h3, h4, f.get hg hl⟩
theorem Step_c {m : Nat} (h : LAt H lb s a) (hm : a + m ≤ s.length) (hs : s.length ≤ 65536) (hk : ∀ H', Kx lb H n H' n → LAt H' lb s (a + m) → k (.tup []) H' n) :
    Runs F G n_lex_lexer_step [.ptr lb 0, .int .i64 (.ofNat m) 0] H n k := by
  refine runs_s (s := ar2 (s_lex_lexer_step lfp G)) at_lex_lexer_step (by obtain ⟨h, o⟩ := si_lex_lexer_step lfp_ok G; rw [at_lex_lexer_step] at h; cases h; exact o) ?_
  show s_lex_lexer_step lfp G (Runs F G) (.ptr lb 0) (.int .i64 (.ofNat m) 0) H n k
  delta s_lex_lexer_step
  refine lfp_range (N := m) (J := fun j q => ∃ H', q = (.ptr lb 0, .int .i64 (.ofNat m) 0, .int .i64 (.ofNat j) 0, H', n) ∧ Kx lb H n H' n ∧ LAt H' lb s (a + j)) ?_ ?_ ⟨H, rfl, Kx.refl .., h⟩
  · rintro I j q hlt ⟨H1, rfl, f1, line, col, h1, h2, h3, h4, hg⟩ ih
    show s_lex_lexer_step_l1 lfp G (Runs F G) k I (.ptr lb 0) (.int .i64 (.ofNat m) 0) (.int .i64 (.ofNat j) 0) H1 n
    delta s_lex_lexer_step_l1
    simp only [go_sem, lss_n, hlt, decide_true, Nat.reduceAdd, ld1_one (off := 3) hg (v := .int .i64 (.ofNat col) 0) rfl, add_n (show col + 1 < 9223372036854775808 by omega)]
    refine a_put hg rfl rfl (by omega) (by show 3 + 1 ≤ 4; omega) fun H2 hg2 s2 => ?_
    have hg2 : T.get H2 lb = some (one [sB s, .int .i64 (.ofNat (a + j)) 0, .int .i64 (.ofNat line) 0, .int .i64 (.ofNat (col + 1)) 0]) := hg2
    simp only [go_sem, Nat.reduceAdd, ld1_one (off := 0) hg2 (v := sB s) rfl, ld1_one (off := 1) hg2 (v := .int .i64 (.ofNat (a + j)) 0) rfl, b_idx (show a + j < s.length by omega), eq_n]
    have f2 : Kx lb H n H2 n := f1.trans ⟨Nat.le_refl _, fun id _ hb => s2 id hb⟩
    have fin : ∀ (H3 : Heap) (line col : Nat), Kx lb H n H3 n → 1 ≤ line → 1 ≤ col → line ≤ a + j + 2 → col ≤ a + j + 2 →
        T.get H3 lb = some (one [sB s, .int .i64 (.ofNat (a + j)) 0, .int .i64 (.ofNat line) 0, .int .i64 (.ofNat col) 0]) →
        s_lex_lexer_step_j12 lfp G (Runs F G) k I (.ptr lb 0) (.int .i64 (.ofNat m) 0) (.int .i64 (.ofNat j) 0) H3 n := by
      intro H3 line col f3 h1 h2 h3 h4 hg3
      delta s_lex_lexer_step_j12
      simp only [go_sem, Nat.reduceAdd, ld1_one (off := 1) hg3 (v := .int .i64 (.ofNat (a + j)) 0) rfl, add_n (show a + j + 1 < 9223372036854775808 by omega)]
      refine a_put hg3 rfl rfl (by omega) (by show 1 + 1 ≤ 4; omega) fun H4 hg4 s4 => ?_
      simp only [go_sem, add_n (show j + 1 < 9223372036854775808 by omega)]
      exact ih _ ⟨_, rfl, f3.trans ⟨Nat.le_refl _, fun id _ hb => s4 id hb⟩, line, col, h1, h2, by omega, by omega, hg4⟩
    cases hc : decide ((s[a + j]).toNat = 10) with
    | true =>
      simp only [go_sem, Nat.reduceAdd, ld1_one (off := 2) hg2 (v := .int .i64 (.ofNat line) 0) rfl, add_n (show line + 1 < 9223372036854775808 by omega), bv_pos]
      refine a_put hg2 rfl rfl (by omega) (by show 2 + 2 ≤ 4; omega) fun H3 hg3 s3 => ?_
      exact fin H3 (line + 1) 1 (f2.trans ⟨Nat.le_refl _, fun id _ hb => s3 id hb⟩) (by omega) (by omega) (by omega) (by omega) hg3
    | false =>
      simp only [go_sem]
      exact fin H2 line (col + 1) f2 (by omega) (by omega) (by omega) (by omega) hg2
  · rintro I q ⟨H1, rfl, f1, h⟩
    show s_lex_lexer_step_l1 lfp G (Runs F G) k I (.ptr lb 0) (.int .i64 (.ofNat m) 0) (.int .i64 (.ofNat m) 0) H1 n
    delta s_lex_lexer_step_l1
    simp only [go_sem, lss_n, Nat.lt_irrefl, decide_false]
    exact hk _ f1 h
/- blanks and remarks -/
def toEnd : Bs → Nat
  | [] => 0
  | c :: l => bif decide (c.toNat = 10) then 0 else toEnd l + 1
theorem toEnd_le : ∀ l : Bs, toEnd l ≤ l.length
  | [] => Nat.le_refl _
  | c :: l => by
    have := toEnd_le l
    unfold toEnd
    cases decide (c.toNat = 10) <;> simp [this]
theorem findB_end : ∀ (l : Bs) (i : Nat), findB 10 l i = if toEnd l = l.length then -1 else ((i + toEnd l : Nat) : Int)
  | [], i => rfl
  | c :: l, i => by
    have ih := findB_end l (i + 1)
    rw [show findB 10 (c :: l) i = bif decide (c.toNat = 10) then .ofNat i else findB 10 l (i + 1) from rfl, show toEnd (c :: l) = bif decide (c.toNat = 10) then 0 else toEnd l + 1 from rfl]
    cases h : decide (c.toNat = 10) with
    | true => simp
    | false =>
      simp only [cond_false, ih, List.length_cons, Nat.add_right_cancel_iff]
      split
      · rfl
      · congr 1; omega
theorem skip_end : ∀ l : Bs, skipM true l = skipM false (l.drop (toEnd l))
  | [] => rfl
  | c :: l => by
    rw [show skipM true (c :: l) = bif decide (c.toNat = 10) then skipM false l else skipM true l from rfl, show toEnd (c :: l) = bif decide (c.toNat = 10) then 0 else toEnd l + 1 from rfl]
    cases h : decide (c.toNat = 10) with
    | true =>
      have hb : blank c = true := by simp only [blank, h, Bool.or_true, Bool.true_or]
      simp [skipM, hb]
    | false => simp only [cond_false, List.drop_succ_cons]; exact skip_end l
theorem skip_len : ∀ (b : Bool) (l : Bs), (skipM b l).length ≤ l.length
  | _, [] => by simp [skipM]
  | true, c :: l => by
    rw [show skipM true (c :: l) = bif decide (c.toNat = 10) then skipM false l else skipM true l from rfl]
    have h1 := skip_len false l; have h2 := skip_len true l
    cases decide (c.toNat = 10) <;> simp <;> omega
  | false, c :: l => by
    rw [show skipM false (c :: l) = bif blank c then skipM false l else bif pre [47, 47] (c :: l) then skipM true l else c :: l from rfl]
    have h1 := skip_len false l; have h2 := skip_len true l
    cases blank c <;> cases pre [47, 47] (c :: l) <;> simp <;> omega
theorem c_rem : V.str 2 12079 = sB [47, 47] := rfl
theorem Skip_c (h : LAt H lb s a) (ha : a ≤ s.length) (hs : s.length ≤ 65536) (hk : ∀ H' a', Kx lb H n H' n → LAt H' lb s a' → a' ≤ s.length → s.drop a' = skipM false (s.drop a) → k (.tup []) H' n) :
    Runs F G n_lex_lexer_skip [.ptr lb 0] H n k := by
  refine runs_s (s := ar1 (s_lex_lexer_skip lfp G)) at_lex_lexer_skip (by obtain ⟨h, o⟩ := si_lex_lexer_skip lfp_ok G; rw [at_lex_lexer_skip] at h; cases h; exact o) ?_
  show s_lex_lexer_skip lfp G (Runs F G) (.ptr lb 0) H n k
  delta s_lex_lexer_skip
  obtain ⟨R, hR⟩ : ∃ R, skipM false (s.drop a) = R := ⟨_, rfl⟩
  rw [hR] at hk
  refine lfp_rule (J := fun m q => ∃ H' a', m = s.length - a' ∧ q = (.ptr lb 0, H', n) ∧ Kx lb H n H' n ∧ LAt H' lb s a' ∧ a' ≤ s.length ∧ skipM false (s.drop a') = R) ?_ (m := s.length - a) ⟨H, a, rfl, rfl, Kx.refl .., h, ha, hR⟩
  rintro I m q ⟨H1, b, rfl, rfl, f1, h1, hb, hR⟩ ih
  show s_lex_lexer_skip_l1 lfp G (Runs F G) k I (.ptr lb 0) H1 n
  delta s_lex_lexer_skip_l1
  obtain ⟨line, col, _, _, _, _, hg⟩ := id h1
  have e0 : ld1V (.ptr lb 0) G H1 = some (sB s) := ld1_one hg rfl
  have e1 : ld1V (.ptr lb 1) G H1 = some (.int .i64 (.ofNat b) 0) := ld1_one hg rfl
  simp only [go_sem, Nat.reduceAdd, e0, e1, b_len, lss_n]
  rcases Nat.lt_or_ge b s.length with hlt | hge
  · simp only [hlt, decide_true, go_sem, Nat.reduceAdd, e0, e1, b_idx hlt, eq_n]
    have hR' := hR
    rw [List.drop_eq_getElem_cons hlt, show ∀ (c : UInt8) (l : Bs), skipM false (c :: l) = bif blank c then skipM false l else bif pre [47, 47] (c :: l) then skipM true l else c :: l from fun _ _ => rfl, ← List.drop_eq_getElem_cons hlt] at hR'
    have step1 : blank s[b] = true → Runs F G n_lex_lexer_step [.ptr lb 0, .int .i64 (.ofNat 1) 0] H1 n fun _ H n => I (.ptr lb 0, H, n) := by
      intro hbl
      rw [hbl] at hR'
      refine Step_c h1 (by omega) hs fun H2 f2 h2 => ih (s.length - (b + 1)) _ (by omega) ⟨H2, b + 1, rfl, rfl, f1.trans f2, h2, by omega, hR'⟩
    have fin : ∀ m', b + m' ≤ s.length → 0 < m' → skipM false (s.drop (b + m')) = R → s_lex_lexer_skip_j44 lfp G (Runs F G) k I (.ptr lb 0) (.int .i64 (.ofNat m') 0) H1 n := by
      intro m' h2 h3 h4
      delta s_lex_lexer_skip_j44
      exact Step_c h1 h2 hs fun H2 f2 h2 => ih (s.length - (b + m')) _ (by omega) ⟨H2, b + m', rfl, rfl, f1.trans f2, h2, by omega, h4⟩
    have step2 : blank s[b] = false → Runs F G n_strings_HasPrefix [sB (s.drop b), sB [47, 47]] H1 n fun v35 H n => onTst v35 true (onV (nilckV (.ptr lb 0)) fun v36=>
        onV (paddV 0 v36) fun v37=> onV (ld1V v37 G H) fun v38=> onV (nilckV (.ptr lb 0)) fun v39=> onV (paddV 1 v39) fun v40=> onV (ld1V v40 G H) fun v41=> onV (slcSV v38 E0 (some (.c v41)) none) fun v42=>
        Runs F G n_strings_IndexByte [v42, (.int .u8 (.ofNat 10) 0)] H n fun v43 H n=>
        onV (B2.ev .lss v43 (.int .i64 (.ofNat 0) 0)) fun v46=>
        onTst v46 true (onV (nilckV (.ptr lb 0)) fun v47=> onV (paddV 0 v47) fun v48=> onV (ld1V v48 G H) fun v49=> onV (lenSV v49) fun v50=> onV (nilckV (.ptr lb 0)) fun v51=> onV (paddV 1 v51) fun v52=> onV (ld1V v52 G H) fun v53=>
        onV (B2.ev .sub v50 v53) fun v54=> s_lex_lexer_skip_j44 lfp G (Runs F G) k I (.ptr lb 0) v54 H n) (s_lex_lexer_skip_j44 lfp G (Runs F G) k I (.ptr lb 0) v43 H n)) (k (.tup []) H n) := by
      intro hbl
      rw [hbl] at hR'
      refine HasPrefix_c ?_
      cases hp : pre [47, 47] (s.drop b) with
      | false =>
        rw [hp] at hR'
        simp only [go_sem]
        exact hk _ _ f1 h1 hb hR'
      | true =>
        rw [hp, cond_false, cond_true, skip_end, List.drop_drop] at hR'
        have hne : (s[b]).toNat ≠ 10 := by
          intro e
          simp [blank, e] at hbl
        simp only [go_sem, Nat.reduceAdd, e0, e1, b_from hb]
        refine IndexByte_c (by omega) ?_
        have hte : toEnd (s.drop b) = toEnd (s.drop (b + 1)) + 1 := by
          rw [List.drop_eq_getElem_cons hlt, show toEnd (s[b] :: s.drop (b + 1)) = bif decide ((s[b]).toNat = 10) then 0 else toEnd (s.drop (b + 1)) + 1 from rfl, decide_eq_false hne]; rfl
        have hle := toEnd_le (s.drop b)
        rw [findB_end]
        rw [List.length_drop] at hle ⊢
        rw [show b + 1 + toEnd (s.drop (b + 1)) = b + toEnd (s.drop b) by omega] at hR'
        split
        · rename_i he
          have e : B2.ev .lss (.int .i64 (-1) 0) (.int .i64 (.ofNat 0) 0) = some (.bool true) := rfl
          simp only [go_sem, e, Nat.reduceAdd, e0, e1, b_len, sub_n hb (show s.length < 9223372036854775808 by omega)]
          rw [he] at hR'
          exact fin _ (by omega) (by omega) hR'
        · rw [Nat.zero_add]
          have e : B2.ev .lss (.int .i64 ((toEnd (s.drop b) : Nat) : Int) 0) (.int .i64 (.ofNat 0) 0) = some (.bool false) := by
            refine (lss_n .i64 _ _).trans ?_
            simp
          simp only [go_sem, e]
          exact fin (toEnd (s.drop b)) (by omega) (by omega) hR'
    cases c1 : decide ((s[b]).toNat = 32) with
    | true => simp only [go_sem]; exact step1 (by simp [blank, c1])
    | false =>
      simp only [go_sem, eq_n]
      cases c2 : decide ((s[b]).toNat = 9) with
      | true => simp only [go_sem]; exact step1 (by simp [blank, c2])
      | false =>
        simp only [go_sem, eq_n]
        cases c3 : decide ((s[b]).toNat = 10) with
        | true => simp only [go_sem]; exact step1 (by simp [blank, c3])
        | false =>
          simp only [go_sem, eq_n]
          cases c4 : decide ((s[b]).toNat = 13) with
          | true => simp only [go_sem]; exact step1 (by simp [blank, c4])
          | false =>
            simp only [go_sem, Nat.reduceAdd, e0, e1, b_from hb, c_rem]
            exact step2 (by simp [blank, c1, c2, c3, c4])
  · have : b = s.length := by omega
    subst this
    simp only [Nat.lt_irrefl, decide_false, go_sem]
    rw [List.drop_eq_nil_of_le (Nat.le_refl _), show skipM false [] = [] from rfl] at hR
    exact hk _ _ f1 h1 (Nat.le_refl _) (by rw [List.drop_eq_nil_of_le (Nat.le_refl _)]; exact hR)
/- runs of a kind of bytes -/
theorem twLen (g : UInt8 → Bool) : ∀ l : Bs, (l.takeWhile g).length ≤ l.length
  | [] => Nat.le_refl _
  | c :: l => by have := twLen g l; rw [List.takeWhile_cons]; split <;> simp <;> omega
theorem tw_take (g : UInt8 → Bool) : ∀ l : Bs, l.take (l.takeWhile g).length = l.takeWhile g
  | [] => rfl
  | c :: l => by rw [List.takeWhile_cons]; split; · simp [tw_take g l]
                 · rfl
/- a function of bytes -/
def ByteFn (G : Roms) (f : Nat) (g : UInt8 → Bool) : Prop := ∀ (c : UInt8) (H : Heap) (n : Nat) (k : KV), k (.bool (g c)) H n → Runs F G f [.int .u8 (.ofNat c.toNat) 0] H n k
theorem Run_c {f : Nat} {g : UInt8 → Bool} (hf : ByteFn G f g) (h : LAt H lb s a) (ha : a ≤ s.length) (hs : s.length ≤ 65536) (hk : k (sB ((s.drop a).takeWhile g)) H n) :
    Runs F G n_lex_lexer_run [.ptr lb 0, .fn f [] []] H n k := by
  refine runs_s (s := ar2 (s_lex_lexer_run lfp G)) at_lex_lexer_run (by obtain ⟨h, o⟩ := si_lex_lexer_run lfp_ok G; rw [at_lex_lexer_run] at h; cases h; exact o) ?_
  show s_lex_lexer_run lfp G (Runs F G) (.ptr lb 0) (.fn f [] []) H n k
  delta s_lex_lexer_run
  obtain ⟨line, col, _, _, _, _, hg⟩ := id h
  have e0 : ld1V (.ptr lb 0) G H = some (sB s) := ld1_one hg rfl
  have e1 : ld1V (.ptr lb 1) G H = some (.int .i64 (.ofNat a) 0) := ld1_one hg rfl
  refine lfp_rule (J := fun m q => ∃ j, m = s.length - (a + j) ∧ q = (.ptr lb 0, .fn f [] [], .int .i64 (.ofNat j) 0, H, n) ∧ a + j ≤ s.length ∧ j + ((s.drop (a + j)).takeWhile g).length = ((s.drop a).takeWhile g).length) ?_ (m := s.length - a)
    ⟨0, rfl, rfl, ha, by simp⟩
  rintro I m q ⟨j, rfl, rfl, hj, he⟩ ih
  show s_lex_lexer_run_l13 lfp G (Runs F G) k I (.ptr lb 0) (.fn f [] []) (.int .i64 (.ofNat j) 0) H n
  delta s_lex_lexer_run_l13
  have fin : j = ((s.drop a).takeWhile g).length → s_lex_lexer_run_j1 lfp G (Runs F G) k (.ptr lb 0) (.int .i64 (.ofNat j) 0) H n := by
    intro hj2
    delta s_lex_lexer_run_j1
    simp only [go_sem, Nat.reduceAdd, e0, e1, add_n (show a + j < 9223372036854775808 by omega), b_sub (show a ≤ a + j by omega) hj]
    rw [show a + j - a = j by omega, hj2, tw_take]
    exact hk
  simp only [go_sem, Nat.reduceAdd, e0, e1, b_len, add_n (show a + j < 9223372036854775808 by omega), lss_n]
  rcases Nat.lt_or_ge (a + j) s.length with hlt | hge
  · simp only [hlt, decide_true, go_sem, Nat.reduceAdd, e0, e1, add_n (show a + j < 9223372036854775808 by omega), b_idx hlt, s_callv]
    rw [List.drop_eq_getElem_cons hlt, List.takeWhile_cons] at he
    refine hf _ _ _ _ ?_
    cases hc : g s[a + j] with
    | true =>
      rw [hc] at he
      simp only [go_sem, add_n (show j + 1 < 9223372036854775808 by omega)]
      exact ih (s.length - (a + (j + 1))) _ (by omega) ⟨j + 1, rfl, rfl, by omega, by rw [show a + (j + 1) = a + j + 1 by omega, ← he]; simp; omega⟩
    | false =>
      rw [hc] at he
      simp only [go_sem]
      exact fin (by simpa using he)
  · have : ¬ a + j < s.length := by omega
    simp only [this, decide_false, go_sem]
    rw [List.drop_eq_nil_of_le hge] at he
    exact fin (by simpa using he)
end
end Go.PQ

/- Contracts of the lexer, third part: the next token. -/
namespace Go.PQ
open Go.Eng
set_option maxRecDepth 100000
def tokC (t : Tok) (line col : Nat) : LV := [.int .i64 (.ofNat t.kind) 0, sB t.text, .int .i64 (.ofNat t.num) 0, .int .i64 (.ofNat line) 0, .int .i64 (.ofNat col) 0]
def finT (t : Tok) : Nat × Tok := bif decide (t.kind = 0) then (20, tokZ) else bif decide (40 < t.text.length) && !decide (t.kind = 4) then (4, tokZ) else (0, t)
def MarksTab (G : Roms) : Prop := G 0 0 22 = some (marksL.map sB)
/- what next hands back -/
def NextR (k : KV) (H : Heap) (n lb : Nat) (s : Bs) (a : Nat) (r : Nat × Tok) : Prop := ∀ (H' : Heap) (n' : Nat) (c : LV), Kx lb H n H' n' → LAt H' lb s (a + r.2.text.length) → c.length = 5 → (r.1 = 0 → ∃ line col, 1 ≤ line ∧ 1 ≤ col ∧ c = tokC r.2 line col) →
  k (.tup [.agg c, .int .i64 (.ofNat r.1) 0]) H' n'
section
variable {G : Roms} {H : Heap} {n lb a : Nat} {s : Bs} {k : KV}
theorem bv_tokz {z0 z1 z2 z3 z4 : V} : buildV [z0, z1, z2, z3, z4] [] = some (.agg [z0, z1, z2, z3, z4]) := rfl
theorem bv_tokp {z0 z1 z2 z3 z4 a b : V} : buildV [z0, z1, z2, z3, z4] [(3, 2, .c (.agg [a, b]))] = some (.agg [z0, z1, z2, a, b]) := rfl
theorem next_fin {H0 : Heap} {n0 p q : Nat} {t : Tok} {line col : Nat} {z0 z1 z2 z3 z4 : V} (f0 : Kx lb H0 n0 H n) (hp : T.get H p = some (one [z0, z1, z2, z3, z4])) (hq : T.get H q = some (one (tokC t line col))) (hpq : p ≠ q) (hpl : p ≠ lb) (hql : q ≠ lb)
    (hp0 : n0 ≤ p) (hpn : p < n) (hqn : q < n) (h : LAt H lb s a) (ha : a + t.text.length ≤ s.length) (hs : s.length ≤ 65536) (h1 : 1 ≤ line) (h2 : 1 ≤ col) (hk : NextR k H0 n0 lb s a (finT t)) :
    s_lex_lexer_next_j25 lfp G (Runs F G) k (.ptr lb 0) (.ptr p 0) (.ptr q 0) H n := by
  delta s_lex_lexer_next_j25
  have q0 : ld1V (.ptr q 0) G H = some (.int .i64 (.ofNat t.kind) 0) := ld1_one hq rfl
  have q1 : ld1V (.ptr q 1) G H = some (sB t.text) := ld1_one hq rfl
  unfold finT at hk
  simp only [go_sem, Nat.reduceAdd, q0, eq_n]
  have zz : ∀ e : Nat, NextR k H0 n0 lb s a (e, tokZ) → e ≠ 0 → stV 5 (.ptr p 0) (.agg [.int .i64 (.ofNat 0) 0, .str 0 0, .int .i64 (.ofNat 0) 0, .int .i64 (.ofNat 0) 0, .int .i64 (.ofNat 0) 0]) H n fun _ H n =>
      onO (getVs [.cn (.ptr p 0) 5, .t (.int .i64 (.ofNat e) 0)] G H) fun l => k (oneV l) H n := by
    intro e hk he
    rw [stV_all (m := 5) hp (by omega) rfl rfl, getVs_cn (m := 5) (T.get_set ..) (by omega) rfl]
    simp only [go_sem]
    obtain ⟨line, col, x1, x2, x3, x4, hg⟩ := h
    refine hk _ _ _ ⟨f0.le, fun id hid hb => ?_⟩ ⟨line, col, x1, x2, x3, x4, ?_⟩ rfl (fun h => absurd h he)
    · rw [T.get_set_ne _ _ (by omega)]; exact f0.same id hid hb
    · rw [T.get_set_ne _ _ hpl]; exact hg
  cases c1 : decide (t.kind = 0) with
  | true =>
    rw [c1] at hk
    simp only [go_sem, bv_tokz]
    exact zz 20 hk (by omega)
  | false =>
    rw [c1] at hk
    simp only [go_sem, Nat.reduceAdd, q1, b_len, gtr_n]
    have fin : NextR k H0 n0 lb s a (0, t) → Runs F G n_lex_lexer_step [.ptr lb 0, .int .i64 (.ofNat t.text.length) 0] H n fun _ H n => onV (ldnV 5 (.ptr q 0) G H) fun v45 =>
        stV 5 (.ptr p 0) v45 H n fun v46 H n => onO (getVs [.cn (.ptr p 0) 5, .t (.int .i64 (.ofNat 0) 0)] G H) fun l => k (oneV l) H n := by
      intro hk
      refine Step_c h ha hs fun H2 f2 h2 => ?_
      have hq2 : T.get H2 q = _ := f2.get hq hqn hql
      have hp2 : T.get H2 p = _ := f2.get hp hpn hpl
      rw [ldn_all (m := 5) hq2 (by omega) rfl, s_onV, stV_all (m := 5) hp2 (by omega) rfl rfl, getVs_cn (m := 5) (T.get_set ..) (by omega) rfl]
      simp only [go_sem]
      have f3 := f0.trans f2
      obtain ⟨l1, c1, x1, x2, x3, x4, hg⟩ := h2
      refine hk _ _ _ ⟨f3.le, fun id hid hb => ?_⟩ ⟨l1, c1, x1, x2, x3, x4, ?_⟩ rfl fun _ => ⟨line, col, h1, h2, rfl⟩
      · rw [T.get_set_ne _ _ (by omega)]; exact f3.same id hid hb
      · rw [T.get_set_ne _ _ hpl]; exact hg
    cases c2 : decide (40 < t.text.length) with
    | false =>
      rw [c2] at hk
      simp only [go_sem, Nat.reduceAdd, q1, b_len]
      exact fin hk
    | true =>
      rw [c2] at hk
      simp only [go_sem, Nat.reduceAdd, q0, ne_n]
      cases c3 : decide (t.kind = 4) with
      | true =>
        rw [c3] at hk
        simp only [Bool.not_true, go_sem, Nat.reduceAdd, q1, b_len]
        exact fin hk
      | false =>
        rw [c3] at hk
        simp only [Bool.not_false, go_sem, bv_tokz]
        exact zz 4 hk (by omega)
theorem ldn_mid {m o id : Nat} {L : LV} (h : T.get H id = some (one L)) (hm : 0 < m) (hl : o + m ≤ L.length) : ldnV m (.ptr id o) G H = some (.agg ((L.drop o).take m)) := ldn_one h hm hl
theorem Next_c (hG : MarksTab G) (h : LAt H lb s a) (ha : a ≤ s.length) (hs : s.length ≤ 65536) (hlb : lb < n) (hk : NextR k H n lb s a (nextM (s.drop a))) :
    Runs F G n_lex_lexer_next [.ptr lb 0] H n k := by
  refine runs_s (s := ar1 (s_lex_lexer_next lfp G)) at_lex_lexer_next (by obtain ⟨h, o⟩ := si_lex_lexer_next lfp_ok G; rw [at_lex_lexer_next] at h; cases h; exact o) ?_
  show s_lex_lexer_next lfp G (Runs F G) (.ptr lb 0) H n k
  delta s_lex_lexer_next
  obtain ⟨line, col, x1, x2, x3, x4, hg⟩ := id h
  have hne : lb ≠ n := by omega
  have hne1 : lb ≠ n + 1 := by omega
  have d0 : ld1V (.ptr lb 0) G H = some (sB s) := ld1_one hg rfl
  have d1 : ld1V (.ptr lb 1) G H = some (.int .i64 (.ofNat a) 0) := ld1_one hg rfl
  have e2 : ldnV 2 (.ptr lb 2) G H = some (.agg [.int .i64 (.ofNat line) 0, .int .i64 (.ofNat col) 0]) := ldn_mid hg (by omega) (by show 2 + 2 ≤ 4; omega)
  simp only [go_sem, Nat.reduceAdd, hne, hne1, e2, bv_tokp]
  rw [T.set_set]
  have f1 : Kp H n (T.set (T.set H n (one [.int .i64 (.ofNat 0) 0, .str 0 0, .int .i64 (.ofNat 0) 0, .int .i64 (.ofNat 0) 0, .int .i64 (.ofNat 0) 0])) (n + 1) (one [.int .i64 (.ofNat 0) 0, .str 0 0, .int .i64 (.ofNat 0) 0, .int .i64 (.ofNat line) 0, .int .i64 (.ofNat col) 0])) (n + 1 + 1) :=
    ((Kp.refl H n).new (m := n + 1) _ (Nat.le_refl _) (by omega)).new _ (by omega) (by omega)
  have g1 := (T.get_set_ne (T.set H n (one [V.int .i64 (.ofNat 0) 0, .str 0 0, .int .i64 (.ofNat 0) 0, .int .i64 (.ofNat 0) 0, .int .i64 (.ofNat 0) 0])) (one [.int .i64 (.ofNat 0) 0, .str 0 0, .int .i64 (.ofNat 0) 0, .int .i64 (.ofNat line) 0, .int .i64 (.ofNat col) 0]) (show n + 1 ≠ n by omega)).trans (T.get_set ..)
  have g2 := T.get_set (T.set H n (one [V.int .i64 (.ofNat 0) 0, .str 0 0, .int .i64 (.ofNat 0) 0, .int .i64 (.ofNat 0) 0, .int .i64 (.ofNat 0) 0])) (n + 1) (one [V.int .i64 (.ofNat 0) 0, .str 0 0, .int .i64 (.ofNat 0) 0, .int .i64 (.ofNat line) 0, .int .i64 (.ofNat col) 0])
  generalize T.set (T.set H n (one [V.int .i64 (.ofNat 0) 0, .str 0 0, .int .i64 (.ofNat 0) 0, .int .i64 (.ofNat 0) 0, .int .i64 (.ofNat 0) 0])) (n + 1) (one [V.int .i64 (.ofNat 0) 0, .str 0 0, .int .i64 (.ofNat 0) 0, .int .i64 (.ofNat line) 0, .int .i64 (.ofNat col) 0]) = H1 at f1 g1 g2 ⊢
  have h := h.kp hlb f1
  have hg := f1.get hg hlb
  have e0 : ld1V (.ptr lb 0) G H1 = some (sB s) := ld1_one hg rfl
  have e1 : ld1V (.ptr lb 1) G H1 = some (.int .i64 (.ofNat a) 0) := ld1_one hg rfl
  simp only [go_sem, d0, d1, b_len, eq_n]
  have g2 : T.get H1 (n + 1) = some (one (tokC tokZ line col)) := g2
  rcases Nat.lt_or_ge a s.length with hlt | hge
  case inr =>
    have : a = s.length := by omega
    subst this
    simp only [decide_true, go_sem]
    rw [List.drop_eq_nil_of_le (Nat.le_refl _)] at hk
    rw [stV_all (m := 5) g1 (by omega) rfl rfl, getVs_cn (m := 5) (T.get_set ..) (by omega) rfl]
    simp only [go_sem]
    obtain ⟨l1, c1, y1, y2, y3, y4, hg⟩ := h
    refine hk _ _ _ ((f1.set _ (Nat.le_refl _)).kx) ⟨l1, c1, y1, y2, y3, y4, ?_⟩ rfl fun _ => ⟨line, col, x1, x2, rfl⟩
    rw [T.get_set_ne _ _ (by omega)]; exact hg
  case inl =>
  have hd := List.drop_eq_getElem_cons hlt
  simp only [show decide (a = s.length) = false by simp; omega, go_sem, Nat.reduceAdd, d0, d1, b_idx hlt]
  rw [hd, show ∀ (c : UInt8) (l : Bs), nextM (c :: l) = (bif great c then capT ⟨2, (c :: l).takeWhile inner, 0⟩ else
    bif small c then capT ⟨bif decide ((c :: l).takeWhile inner ∈ wordsL) then 1 else 3, (c :: l).takeWhile inner, 0⟩ else
    bif digit c then (match numF 0 ((c :: l).takeWhile digit) with | none => (22, tokZ) | some n => (0, ⟨4, (c :: l).takeWhile digit, n⟩)) else
    match marksL.find? (fun m => pre m (c :: l)) with | none => (20, tokZ) | some m => (0, ⟨5, m, 0⟩)) from fun _ _ => rfl, ← hd] at hk
  have f0 := f1.kx (b := lb)
  have hq : n + 1 ≠ lb := by omega
  /- the token's block, filled -/
  have put1 : ∀ {H2 : Heap} {t : Tok} {kd : Nat} {P : KV}, T.get H2 (n + 1) = some (one (tokC t line col)) → (∀ H3, T.get H3 (n + 1) = some (one (tokC { t with kind := kd } line col)) → (∀ j, j ≠ n + 1 → T.get H3 j = T.get H2 j) → P .undef H3 (n + 1 + 1)) →
      stV 1 (.ptr (n + 1) 0) (.int .i64 (.ofNat kd) 0) H2 (n + 1 + 1) P := by
    intro H2 t kd P hg hP
    exact a_put hg rfl rfl (by omega) (by show 0 + 1 ≤ 5; omega) fun H3 g3 s3 => hP H3 g3 s3
  have put2 : ∀ {H2 : Heap} {t : Tok} {tx : Bs} {P : KV}, T.get H2 (n + 1) = some (one (tokC t line col)) → (∀ H3, T.get H3 (n + 1) = some (one (tokC { t with text := tx } line col)) → (∀ j, j ≠ n + 1 → T.get H3 j = T.get H2 j) → P .undef H3 (n + 1 + 1)) →
      stV 1 (.ptr (n + 1) 1) (sB tx) H2 (n + 1 + 1) P := by
    intro H2 t tx P hg hP
    exact a_put hg rfl rfl (by omega) (by show 1 + 1 ≤ 5; omega) fun H3 g3 s3 => hP H3 g3 s3
  have put3 : ∀ {H2 : Heap} {t : Tok} {nu : Nat} {P : KV}, T.get H2 (n + 1) = some (one (tokC t line col)) → (∀ H3, T.get H3 (n + 1) = some (one (tokC { t with num := nu } line col)) → (∀ j, j ≠ n + 1 → T.get H3 j = T.get H2 j) → P .undef H3 (n + 1 + 1)) →
      stV 1 (.ptr (n + 1) 2) (.int .i64 (.ofNat nu) 0) H2 (n + 1 + 1) P := by
    intro H2 t nu P hg hP
    exact a_put hg rfl rfl (by omega) (by show 2 + 1 ≤ 5; omega) fun H3 g3 s3 => hP H3 g3 s3
  have only : ∀ {H2 H3 : Heap}, Kx lb H n H2 (n + 1 + 1) ∧ T.get H2 n = T.get H1 n ∧ LAt H2 lb s a → (∀ j, j ≠ n + 1 → T.get H3 j = T.get H2 j) → Kx lb H n H3 (n + 1 + 1) ∧ T.get H3 n = T.get H1 n ∧ LAt H3 lb s a := by
    intro H2 H3 ⟨x, y, z⟩ hs
    obtain ⟨l1, c1, y1, y2, y3, y4, hg⟩ := z
    exact ⟨⟨by omega, fun id hid hb => (hs id (by omega)).trans (x.same id hid hb)⟩, (hs n (by omega)).trans y, l1, c1, y1, y2, y3, y4, (hs lb (by omega)).trans hg⟩
  have b0 : Kx lb H n H1 (n + 1 + 1) ∧ T.get H1 n = T.get H1 n ∧ LAt H1 lb s a := ⟨f0, rfl, h⟩
  have fin : ∀ {H2 : Heap} {t : Tok}, Kx lb H n H2 (n + 1 + 1) ∧ T.get H2 n = T.get H1 n ∧ LAt H2 lb s a → T.get H2 (n + 1) = some (one (tokC t line col)) → a + t.text.length ≤ s.length → NextR k H n lb s a (finT t) →
      s_lex_lexer_next_j25 lfp G (Runs F G) k (.ptr lb 0) (.ptr n 0) (.ptr (n + 1) 0) H2 (n + 1 + 1) := fun b g ht hk =>
    next_fin b.1 (b.2.1.trans g1) g (by omega) (by omega) hq (by omega) (by omega) (by omega) b.2.2 ht hs x1 x2 hk
  have hin := twLen inner (s.drop a)
  have hdi := twLen digit (s.drop a)
  rw [List.length_drop] at hin hdi
  refine Great_c ?_
  cases k1 : great s[a] with
  | true =>
    rw [k1] at hk
    simp only [go_sem]
    refine Run_c (f := n_lex_inner) (fun c H n k hk => Inner_c hk) h ha hs ?_
    refine put1 g2 fun H2 g s2 => ?_
    refine put2 g fun H3 g s3 => ?_
    refine fin (only (only b0 s2) s3) g (by show a + (List.takeWhile inner (s.drop a)).length ≤ _; omega) ?_
    have e : finT ⟨2, (s.drop a).takeWhile inner, 0⟩ = capT ⟨2, (s.drop a).takeWhile inner, 0⟩ := by simp [finT, capT]
    exact e ▸ hk
  | false =>
    rw [k1] at hk
    simp only [go_sem]
    refine Small_c ?_
    cases k2 : small s[a] with
    | true =>
      rw [k2] at hk
      simp only [go_sem]
      refine Run_c (f := n_lex_inner) (fun c H n k hk => Inner_c hk) h ha hs ?_
      refine put1 g2 fun H2 g s2 => ?_
      refine put2 g fun H3 g s3 => ?_
      have q1 : ld1V (.ptr (n + 1) 1) G H3 = some (sB ((s.drop a).takeWhile inner)) := ld1_one g rfl
      simp only [go_sem, Nat.reduceAdd, q1]
      refine Words_c ?_
      cases k3 : decide ((s.drop a).takeWhile inner ∈ wordsL) with
      | true =>
        rw [k3] at hk
        simp only [go_sem, Nat.reduceAdd]
        refine put1 g fun H4 g s4 => ?_
        refine fin (only (only (only b0 s2) s3) s4) g (by show a + (List.takeWhile inner (s.drop a)).length ≤ _; omega) ?_
        have e : finT ⟨1, (s.drop a).takeWhile inner, 0⟩ = capT ⟨1, (s.drop a).takeWhile inner, 0⟩ := by simp [finT, capT]
        exact e ▸ hk
      | false =>
        rw [k3] at hk
        simp only [go_sem]
        refine fin (only (only b0 s2) s3) g (by show a + (List.takeWhile inner (s.drop a)).length ≤ _; omega) ?_
        have e : finT ⟨3, (s.drop a).takeWhile inner, 0⟩ = capT ⟨3, (s.drop a).takeWhile inner, 0⟩ := by simp [finT, capT]
        exact e ▸ hk
    | false =>
      rw [k2] at hk
      simp only [go_sem]
      refine Digit_c ?_
      cases k3 : digit s[a] with
      | true =>
        rw [k3] at hk
        simp only [go_sem]
        refine Run_c (f := n_lex_digit) (fun c H n k hk => Digit_c hk) h ha hs ?_
        refine put1 g2 fun H2 g s2 => ?_
        refine put2 g fun H3 g s3 => ?_
        have q1 : ld1V (.ptr (n + 1) 1) G H3 = some (sB ((s.drop a).takeWhile digit)) := ld1_one g rfl
        simp only [go_sem, Nat.reduceAdd, q1]
        have b3 := only (only b0 s2) s3
        have htw : ∀ c ∈ (s.drop a).takeWhile digit, digit c = true := fun c hc => by
          have := List.all_takeWhile (l := s.drop a) (p := digit); exact List.all_eq_true.1 this c hc
        refine Number_c htw (by omega) fun H4 f4 => ?_
        have g4 := f4.get g (by omega)
        have b4 := b3.1.trans f4.kx
        have gn := f4.get (b3.2.1.trans g1) (by omega)
        have h4 := b3.2.2.kp (n := n + 1 + 1) (by omega) f4
        cases hnum : numF 0 ((s.drop a).takeWhile digit) with
        | none =>
          rw [hnum] at hk
          simp only [numR, go_sem, Nat.reduceAdd]
          refine a_put g4 rfl rfl (by omega) (by show 2 + 1 ≤ 5; omega) fun H5 g5 s5 => ?_
          have e : notV (.bool false) = some (.bool true) := rfl
          simp only [go_sem, e, bv_tokz]
          have gn5 := (s5 n (by omega)).trans gn
          rw [stV_all (m := 5) gn5 (by omega) rfl rfl, getVs_cn (m := 5) (T.get_set ..) (by omega) rfl]
          simp only [go_sem]
          obtain ⟨l1, c1, y1, y2, y3, y4, hg⟩ := h4
          refine hk _ _ _ ⟨by omega, fun id hid hb => ?_⟩ ⟨l1, c1, y1, y2, y3, y4, ?_⟩ rfl fun h => by cases h
          · rw [T.get_set_ne _ _ (by omega), s5 _ (by omega)]; exact b4.same id hid hb
          · rw [T.get_set_ne _ _ (by omega), s5 _ (by omega)]; exact hg
        | some nu =>
          rw [hnum] at hk
          simp only [numR, go_sem, Nat.reduceAdd]
          refine a_put g4 rfl rfl (by omega) (by show 2 + 1 ≤ 5; omega) fun H5 g5 s5 => ?_
          have e : notV (.bool true) = some (.bool false) := rfl
          simp only [go_sem, e]
          have gn5 := (s5 n (by omega)).trans gn
          have g5 : T.get H5 (n + 1) = some (one (tokC ⟨4, (s.drop a).takeWhile digit, nu⟩ line col)) := g5
          have b5 : Kx lb H n H5 (n + 1 + 1 + 1) := ⟨b4.le, fun id hid hb => (s5 id (by omega)).trans (b4.same id hid hb)⟩
          obtain ⟨l1, c1, y1, y2, y3, y4, hg⟩ := h4
          refine next_fin b5 gn5 g5 (by omega) (by omega) hq (by omega) (by omega) (by omega) ⟨l1, c1, y1, y2, y3, y4, (s5 _ (by omega)).trans hg⟩ (by show a + (List.takeWhile digit (s.drop a)).length ≤ _; omega) hs x1 x2 ?_
          have e : finT ⟨4, (s.drop a).takeWhile digit, nu⟩ = (0, ⟨4, (s.drop a).takeWhile digit, nu⟩) := by simp [finT]
          exact e ▸ hk
      | false =>
        rw [k3] at hk
        simp only [go_sem]
        have e80 : ldnV 22 (.gptr 0 0) G H1 = some (.agg (marksL.map sB)) := by
          show lbind (G 0 0 22) (fun L => some (.agg L)) = _
          rw [hG]; rfl
        simp only [go_sem, e80]
        obtain ⟨R, hR⟩ : ∃ R, marksL.find? (fun m => pre m (s.drop a)) = R := ⟨_, rfl⟩
        rw [hR] at hk
        refine lfp_range (N := 22) (J := fun j q => q = (.ptr lb 0, .ptr n 0, .ptr (n + 1) 0, .agg (marksL.map sB), .int .i64 (.ofNat j) 0, H1, n + 1 + 1) ∧ (marksL.drop j).find? (fun m => pre m (s.drop a)) = R) ?_ ?_ ⟨rfl, hR⟩
        · rintro I j q hlt ⟨rfl, hR⟩ ih
          show s_lex_lexer_next_l81 lfp G (Runs F G) k I (.ptr lb 0) (.ptr n 0) (.ptr (n + 1) 0) (.agg (marksL.map sB)) (.int .i64 (.ofNat j) 0) H1 (n + 1 + 1)
          delta s_lex_lexer_next_l81
          have hj : j < marksL.length := hlt
          rw [List.drop_eq_getElem_cons hj, List.find?_cons] at hR
          have hlen : (marksL[j]).length ≤ 2 := by
            have : ∀ m ∈ marksL, m.length ≤ 2 := by decide
            exact this _ (List.getElem_mem hj)
          have hix : idxAV 22 (.agg (marksL.map sB)) (.int .i64 (.ofNat j) 0) = some (sB marksL[j]) := by
            show guardO (Nat.blt j 22) (nth (marksL.map sB) j) = _
            rw [show Nat.blt j 22 = true by rw [Nat.blt_eq]; exact hlt, nth_eq]
            show (marksL.map sB)[j]? = _
            simp [hj]
          generalize marksL[j] = m at hR hlen hix
          simp only [go_sem, lss_n, hlt, decide_true, hix, Nat.reduceAdd, e0, e1, b_from ha]
          refine HasPrefix_c ?_
          cases hp : pre m (s.drop a) with
          | true =>
            rw [hp] at hR
            subst hR
            simp only [go_sem, Nat.reduceAdd]
            refine put1 g2 fun H2 g s2 => ?_
            refine put2 g fun H3 g s3 => ?_
            have hle : m.length ≤ s.length - a := by
              unfold pre at hp
              rw [List.length_drop] at hp
              simp only [Bool.and_eq_true, decide_eq_true_eq] at hp
              exact hp.1
            refine fin (only (only b0 s2) s3) g (by show a + m.length ≤ _; omega) ?_
            have e : finT ⟨5, m, 0⟩ = (0, ⟨5, m, 0⟩) := by
              have : ¬ 40 < m.length := by omega
              simp [finT, this]
            exact e ▸ hk
          | false =>
            rw [hp] at hR
            simp only [go_sem, add_n (show j + 1 < 9223372036854775808 by omega)]
            exact ih _ ⟨rfl, hR⟩
        · rintro I q ⟨rfl, hR⟩
          show s_lex_lexer_next_l81 lfp G (Runs F G) k I (.ptr lb 0) (.ptr n 0) (.ptr (n + 1) 0) (.agg (marksL.map sB)) (.int .i64 (.ofNat 22) 0) H1 (n + 1 + 1)
          delta s_lex_lexer_next_l81
          rw [show marksL.drop 22 = [] from rfl] at hR
          subst hR
          simp only [go_sem, lss_n, Nat.lt_irrefl, decide_false]
          exact fin b0 g2 (by show a + 0 ≤ _; omega) hk
end
end Go.PQ

/- Contracts of the lexer, fourth part: all the tokens of a text. -/
namespace Go.PQ
open Go.Eng
set_option maxRecDepth 100000
def TokIs (c : LV) (t : Tok) : Prop := ∃ line col, 1 ≤ line ∧ 1 ≤ col ∧ c = tokC t line col
theorem nextM_cons (c : UInt8) (l : Bs) : nextM (c :: l) = (bif great c then capT ⟨2, (c :: l).takeWhile inner, 0⟩ else
    bif small c then capT ⟨bif decide ((c :: l).takeWhile inner ∈ wordsL) then 1 else 3, (c :: l).takeWhile inner, 0⟩ else
    bif digit c then (match numF 0 ((c :: l).takeWhile digit) with | none => (22, tokZ) | some n => (0, ⟨4, (c :: l).takeWhile digit, n⟩)) else
    match marksL.find? (fun m => pre m (c :: l)) with | none => (20, tokZ) | some m => (0, ⟨5, m, 0⟩)) := rfl
theorem nextM_le : ∀ r : Bs, (nextM r).2.text.length ≤ r.length
  | [] => Nat.le_refl _
  | c :: l => by
    have h1 := twLen inner (c :: l)
    have h2 := twLen digit (c :: l)
    have hc : ∀ t : Tok, t.text.length ≤ (c :: l).length → (capT t).2.text.length ≤ (c :: l).length := by
      intro t ht; unfold capT; cases decide (40 < t.text.length)
      · exact ht
      · exact Nat.zero_le _
    rw [nextM_cons]
    cases great c
    case true => exact hc ⟨2, _, 0⟩ h1
    cases small c
    case true => exact hc ⟨_, _, 0⟩ h1
    cases digit c
    case true =>
      simp only [cond_true, cond_false]
      cases numF 0 ((c :: l).takeWhile digit) with
      | none => exact Nat.zero_le _
      | some n => exact h2
    simp only [cond_false]
    cases hf : marksL.find? (fun m => pre m (c :: l)) with
    | none => exact Nat.zero_le _
    | some m =>
      have := List.find?_some hf
      simp only [pre, Bool.and_eq_true, decide_eq_true_eq] at this
      exact this.1
theorem nextM_pos : ∀ r : Bs, (nextM r).1 = 0 → (nextM r).2.kind ≠ 0 → 0 < (nextM r).2.text.length
  | [] => fun _ h => absurd rfl h
  | c :: l => by
    have hc : ∀ t : Tok, 0 < t.text.length → (capT t).1 = 0 → 0 < (capT t).2.text.length := by
      intro t ht; unfold capT; cases decide (40 < t.text.length)
      · exact fun _ => ht
      · intro h; cases h
    have tw : ∀ g : UInt8 → Bool, g c = true → 0 < ((c :: l).takeWhile g).length := fun g h => by rw [List.takeWhile_cons, h]; simp
    rw [nextM_cons]
    cases h1 : great c
    case true => exact fun h _ => hc ⟨2, _, 0⟩ (tw inner (by simp [inner, h1])) h
    cases h2 : small c
    case true => exact fun h _ => hc ⟨_, _, 0⟩ (tw inner (by simp [inner, h2])) h
    cases h3 : digit c
    case true =>
      simp only [cond_true, cond_false]
      cases numF 0 ((c :: l).takeWhile digit) with
      | none => intro h; cases h
      | some n => exact fun _ _ => tw digit h3
    simp only [cond_false]
    cases hf : marksL.find? (fun m => pre m (c :: l)) with
    | none => intro h; cases h
    | some m =>
      intro _ _
      have h4 : ∀ m ∈ marksL, 0 < m.length := by decide
      exact h4 m (List.mem_of_find?_eq_some hf)
/- what All hands back -/
def AllR (G : Roms) (k : KV) (H : Heap) (n : Nat) (r : Nat × List Tok) : Prop := ∀ (H' : Heap) (n' : Nat) (v : V) (c : LV), Kp H n H' n' →
  (r.1 = 0 → (∃ cs id, v = .gsl id 0 cs.length 5 ∧ n ≤ id ∧ id < n' ∧ El G H' v 5 cs ∧ Pw TokIs cs r.2) ∧ c = [.int .i64 (.ofNat 0) 0, .int .i64 (.ofNat 0) 0, .int .i64 (.ofNat 0) 0]) →
  (r.1 ≠ 0 → ∃ line col, 1 ≤ line ∧ 1 ≤ col ∧ c = [.int .i64 (.ofNat r.1) 0, .int .i64 (.ofNat line) 0, .int .i64 (.ofNat col) 0]) → k (.tup [v, .agg c]) H' n'
theorem bv_flt {z0 z1 z2 a b : V} (e : Int) : buildV [z0, z1, z2] [(0, 1, .c (.int .i64 e 0)), (1, 2, .c (.agg [a, b]))] = some (.agg [.int .i64 e 0, a, b]) := rfl
theorem bv_flz {z0 z1 z2 : V} : buildV [z0, z1, z2] [] = some (.agg [z0, z1, z2]) := rfl
theorem bv_lex {z0 z1 z2 z3 a b : V} (s : Bs) : buildV [z0, z1, z2, z3] [(0, 1, .c (sB s)), (2, 2, .c (.agg [a, b]))] = some (.agg [sB s, z1, a, b]) := rfl
section
variable {G : Roms} {H : Heap} {n : Nat} {s : Bs} {k : KV}
theorem All_c (hG : MarksTab G) (hk : AllR G k H n (lexA s)) : Runs F G n_lex_All [sB s] H n k := by
  refine runs_s (s := ar1 (s_lex_All lfp G)) at_lex_All (by obtain ⟨h, o⟩ := si_lex_All lfp_ok G; rw [at_lex_All] at h; cases h; exact o) ?_
  show s_lex_All lfp G (Runs F G) (sB s) H n k
  delta s_lex_All
  unfold lexA at hk
  simp only [go_sem, Nat.reduceAdd, bv_pos, bv_lex, b_len, gtr_n]
  have f1 : Kp H n (T.set (T.set H n (one [.int .i64 (.ofNat 0) 0, .int .i64 (.ofNat 0) 0, .int .i64 (.ofNat 0) 0])) (n + 1) (one [sB s, .int .i64 (.ofNat 0) 0, .int .i64 (.ofNat 1) 0, .int .i64 (.ofNat 1) 0])) (n + 1 + 1) :=
    ((Kp.refl H n).new (m := n + 1) _ (Nat.le_refl _) (by omega)).new _ (by omega) (by omega)
  have g1 := (T.get_set_ne (T.set H n (one [V.int .i64 (.ofNat 0) 0, .int .i64 (.ofNat 0) 0, .int .i64 (.ofNat 0) 0])) (one [sB s, .int .i64 (.ofNat 0) 0, .int .i64 (.ofNat 1) 0, .int .i64 (.ofNat 1) 0]) (show n + 1 ≠ n by omega)).trans (T.get_set ..)
  have g2 := T.get_set (T.set H n (one [V.int .i64 (.ofNat 0) 0, .int .i64 (.ofNat 0) 0, .int .i64 (.ofNat 0) 0])) (n + 1) (one [sB s, .int .i64 (.ofNat 0) 0, .int .i64 (.ofNat 1) 0, .int .i64 (.ofNat 1) 0])
  generalize T.set (T.set H n (one [V.int .i64 (.ofNat 0) 0, .int .i64 (.ofNat 0) 0, .int .i64 (.ofNat 0) 0])) (n + 1) (one [sB s, .int .i64 (.ofNat 0) 0, .int .i64 (.ofNat 1) 0, .int .i64 (.ofNat 1) 0]) = H1 at f1 g1 g2 ⊢
  cases hs : decide (65536 < s.length) with
  | true =>
    rw [hs] at hk
    simp only [go_sem, Nat.reduceAdd]
    rw [ldn_mid (m := 2) (o := 2) g2 (by omega) (by show 2 + 2 ≤ 4; omega)]
    simp only [go_sem, List.drop_succ_cons, List.drop_zero, List.take_succ_cons, List.take_zero, bv_flt]
    rw [stV_all (m := 3) g1 (by omega) rfl rfl, getVs_cn (m := 3) (T.get_set ..) (by omega) rfl]
    simp only [go_sem]
    exact hk _ _ _ _ (f1.set _ (Nat.le_refl _)) (fun h => by cases h) fun _ => ⟨1, 1, by omega, by omega, rfl⟩
  | false =>
    rw [hs, cond_false] at hk
    have hs : s.length ≤ 65536 := by simpa using hs
    simp only [go_sem]
    refine lfp_rule (J := fun m q => ∃ H' n' a v cs xs f, m = s.length - a ∧ q = (.ptr n 0, .ptr (n + 1) 0, v, H', n') ∧ Kp H n H' n' ∧ n + 2 ≤ n' ∧ T.get H' n = some (one [.int .i64 (.ofNat 0) 0, .int .i64 (.ofNat 0) 0, .int .i64 (.ofNat 0) 0]) ∧ LAt H' (n + 1) s a ∧
      a ≤ s.length ∧ Own G H' (n + 2) n' 5 v cs ∧ Pw TokIs cs xs ∧ cs.length ≤ a ∧ s.length - a < f ∧ AllR G k H n ((lexF f (s.drop a)).1, xs ++ (lexF f (s.drop a)).2)) ?_ (m := s.length)
      ⟨H1, n + 1 + 1, 0, .nils, [], [], s.length + 1, rfl, rfl, f1, by omega, g1, ⟨1, 1, by omega, by omega, by omega, by omega, g2⟩, by omega, Own_nil, .nil, by simp, by omega, hk⟩
    rintro I m q ⟨H2, n2, a, v, cs, xs, f, rfl, rfl, f2, hn2, g0, hl, ha, ho, hx, hcs, hf, hk⟩ ih
    show s_lex_All_l12 lfp G (Runs F G) k I (.ptr n 0) (.ptr (n + 1) 0) v H2 n2
    delta s_lex_All_l12
    refine Skip_c hl ha hs fun H3 a3 f3 hl3 ha3 hd3 => ?_
    refine Next_c hG hl3 ha3 hs (by omega) ?_
    obtain ⟨f, rfl⟩ : ∃ g, f = g + 1 := ⟨f - 1, by omega⟩
    rw [hd3]
    have hlexF : lexF (f + 1) (s.drop a) = bif decide ((nextM (skipM false (s.drop a))).1 = 0) then
        bif decide ((nextM (skipM false (s.drop a))).2.kind = 0) then (0, [(nextM (skipM false (s.drop a))).2])
        else ((lexF f ((skipM false (s.drop a)).drop (nextM (skipM false (s.drop a))).2.text.length)).1, (nextM (skipM false (s.drop a))).2 :: (lexF f ((skipM false (s.drop a)).drop (nextM (skipM false (s.drop a))).2.text.length)).2)
      else ((nextM (skipM false (s.drop a))).1, []) := rfl
    rw [hlexF, ← hd3] at hk
    have hle := nextM_le (s.drop a3)
    have hpos := nextM_pos (s.drop a3)
    rw [List.length_drop] at hle
    rw [← hd3]
    intro H4 n4 c f4 hl4 hcl ht
    generalize nextM (s.drop a3) = R at hk hle hpos hl4 ht
    obtain ⟨e, t⟩ := R
    simp only [go_sem, Nat.reduceAdd]
    obtain ⟨c0, c1, c2, c3, c4, rfl⟩ : ∃ c0 c1 c2 c3 c4, c = [c0, c1, c2, c3, c4] := by
      match c, hcl with
      | [c0, c1, c2, c3, c4], _ => exact ⟨c0, c1, c2, c3, c4, rfl⟩
    have f24 := f3.trans f4
    have hn4 := f24.le
    have g04 : T.get H4 n = _ := f24.get g0 (by omega) (by omega)
    have ho4 := ho.kx f24 (by omega)
    have f4' : Kp H n H4 n4 := ⟨by have := f2.le; omega, fun id hid => (f24.same id (by omega) (by omega)).trans (f2.same id hid)⟩
    simp only [go_sem, Nat.reduceAdd]
    rw [T.set_set]
    have f5 : Kp H4 n4 (T.set H4 n4 (one [c0, c1, c2, c3, c4])) (n4 + 1) := (Kp.refl _ _).new _ (Nat.le_refl _) (by omega)
    have g5 := T.get_set H4 n4 (one [c0, c1, c2, c3, c4])
    generalize T.set H4 n4 (one [c0, c1, c2, c3, c4]) = H5 at f5 g5 ⊢
    have g05 := f5.get g04 (by omega)
    have f5' := f4'.trans f5
    have hl5 := hl4.kp (n := n4) (by omega) f5
    simp only [ne_n]
    cases he : decide (e = 0) with
    | false =>
      have he' : e ≠ 0 := by simpa using he
      rw [he, cond_false] at hk
      obtain ⟨line, col, y1, y2, y3, y4, hg⟩ := hl5
      simp only [Bool.not_false, go_sem, Nat.reduceAdd]
      rw [ldn_mid (m := 2) (o := 2) hg (by omega) (by show 2 + 2 ≤ 4; omega)]
      simp only [go_sem, List.drop_succ_cons, List.drop_zero, List.take_succ_cons, List.take_zero, bv_flt]
      rw [stV_all (m := 3) g05 (by omega) rfl rfl, getVs_cn (m := 3) (T.get_set ..) (by omega) rfl]
      simp only [go_sem]
      exact hk _ _ _ _ (f5'.set _ (Nat.le_refl _)) (fun h => absurd h he') fun _ => ⟨line, col, y1, y2, rfl⟩
    | true =>
      have he' : e = 0 := by simpa using he
      subst he'
      rw [he, cond_true] at hk
      obtain ⟨line, col, y1, y2, hc⟩ := ht rfl
      rw [hc] at g5 ⊢
      simp only [Bool.not_true, go_sem]
      refine a_bsl (G := G) (vs := [.agg (tokC t line col)]) rfl (by omega) (fun v hv => by simp at hv; subst hv; exact ⟨rfl, rfl⟩) fun H6 f6 _ hel => ?_
      have ho6 := (ho4.kp f5).kp f6
      refine ho6.gr.app (by omega) ho6.lo hel.2 (by show (cs.length + 1) * 48 ≤ _; omega) ?_ (fun h => by cases h)
      intro v' H7 hgr hsame hlo
      have hgr : Gr G H7 (n + 2) 5 v' (cs ++ [tokC t line col]) := hgr
      have f7 : Kp H n H7 (n4 + 1 + 1 + 1) := ⟨by have := f5'.le; omega, fun id hid => (hsame id (by have := f5'.le; omega) (fun h => by have := ho6.ge h; omega)).trans ((f6.same id (by have := f5'.le; omega)).trans (f5'.same id hid))⟩
      have g7 : ∀ {id : Nat} {b : Blk}, id < n + 2 → T.get H5 id = some b → T.get H7 id = some b := fun hid h => (hsame _ (by omega) (fun h => by have := ho6.ge h; omega)).trans ((f6.same _ (by omega)).trans h)
      have g57 : T.get H7 n4 = some (one (tokC t line col)) := (hsame n4 (by omega) (fun h => by have := ho4.lo _ h; omega)).trans ((f6.same n4 (by omega)).trans g5)
      have q0 : ld1V (.ptr n4 0) G H7 = some (.int .i64 (.ofNat t.kind) 0) := ld1_one g57 rfl
      have hel7 : El G H7 v' 5 (cs ++ [tokC t line col]) := hgr.el (by omega)
      have hpw : Pw TokIs (cs ++ [tokC t line col]) (xs ++ [t]) := hx.app (.cons ⟨line, col, y1, y2, rfl⟩ .nil)
      simp only [go_sem, Nat.reduceAdd, q0, eq_n]
      cases hkd : decide (t.kind = 0) with
      | true =>
        rw [hkd, cond_true] at hk
        simp only [go_sem, bv_flz]
        rw [stV_all (m := 3) (g7 (by omega) g05) (by omega) rfl rfl, getVs_cn (m := 3) (T.get_set ..) (by omega) rfl]
        simp only [go_sem]
        have f8 := f7.set (one [V.int .i64 (.ofNat 0) 0, .int .i64 (.ofNat 0) 0, .int .i64 (.ofNat 0) 0]) (Nat.le_refl n)
        refine hk _ _ _ _ f8 (fun _ => ⟨?_, rfl⟩) (fun h => absurd rfl h)
        have hel8 : El G (T.set H7 n (one [V.int .i64 (.ofNat 0) 0, .int .i64 (.ofNat 0) 0, .int .i64 (.ofNat 0) 0])) v' 5 (cs ++ [tokC t line col]) := hel7.same fun id hid => T.get_set_ne _ _ (by have := (hgr.lo hid).1; omega)
        generalize hcs' : cs ++ [tokC t line col] = cs' at hgr hel7 hel8 hpw
        cases hgr with
        | nil => simp at hcs'
        | gsl hg hc ht hid =>
          rename_i id c tt
          exact ⟨_, id, rfl, by omega, by have := hlo id rfl; omega, hel8, hpw⟩
      | false =>
        rw [hkd, cond_false] at hk
        have hkd' : t.kind ≠ 0 := by simpa using hkd
        have hp0 : 0 < t.text.length := hpos rfl hkd'
        have hle : t.text.length ≤ s.length - a3 := hle
        have hlen : (s.drop a3).length = (skipM false (s.drop a)).length := by rw [hd3]
        have hsk := skip_len false (s.drop a)
        rw [List.length_drop] at hlen hsk
        simp only [go_sem]
        have hl7 : LAt H7 (n + 1) s (a3 + t.text.length) := by
          obtain ⟨line, col, y1, y2, y3, y4, hg⟩ := hl5
          exact ⟨line, col, y1, y2, y3, y4, g7 (by omega) hg⟩
        refine ih (s.length - (a3 + t.text.length)) _ (by omega) ⟨H7, n4 + 1 + 1 + 1, a3 + t.text.length, v', cs ++ [tokC t line col], xs ++ [t], f, rfl, rfl, f7, by omega, g7 (by omega) g05, hl7, by omega, ⟨hgr, hlo⟩, hpw, ?_, by omega, ?_⟩
        · rw [List.length_append]; show cs.length + 1 ≤ _; omega
        · rw [List.append_assoc, ← List.drop_drop]; exact hk
end
end Go.PQ

/- The parser, as plain functions of tokens. -/
namespace Go.PQ
open Go.Eng
structure S where
  t : Tok
  r : List Tok
  deep : Nat
  e : Nat
abbrev PM (α : Type) := S → Option (α × S)
def S.ok (s : S) : Bool := decide (s.e = 0)
def failS (e : Nat) (s : S) : S := bif s.ok then { s with e := e } else s
def oneT (w : Bs) (s : S) : Bool := s.ok && ((decide (s.t.kind = 1) || decide (s.t.kind = 5)) && decide (s.t.text = w))
def isT (ws : List Bs) (s : S) : Bool := ws.any fun w => oneT w s
def nextS (s : S) : Option S := bif decide (s.t.kind = 0) then some s else match s.r with | [] => none | t :: r => some { s with t := t, r := r }
def takeT (w : Bs) : PM Bool := fun s => bif oneT w s then (nextS s).bind fun s' => some (true, s') else some (false, s)
def wantT : List Bs → S → Option S
  | [], s => some s
  | w :: ws, s => (takeT w s).bind fun p => wantT ws (bif p.1 then p.2 else failS 21 p.2)
def nameT (k : Nat) : PM Bs := fun s => bif s.ok && decide (s.t.kind = k) then (nextS s).bind fun s' => some (s.t.text, s') else some ([], failS 21 s)
def downS (s : S) : Option S := bif decide (s.deep < 1000000) then some (bif decide (100 < s.deep + 1) then failS 3 { s with deep := s.deep + 1 } else { s with deep := s.deep + 1 }) else none
def upS (s : S) : Option S := match s.deep with | 0 => none | d + 1 => bif decide (d < 1000000) then some { s with deep := d } else none
def manyS (n : Nat) (s : S) : S := bif decide (200 < n) then failS 4 s else s
structure Ty where
  nm : Bs
  arr : Bool
def baseT : PM Ty := fun s => (takeT w_int s).bind fun p => bif p.1 then some (⟨w_int, false⟩, p.2) else
  (takeT w_bool p.2).bind fun p => bif p.1 then some (⟨w_bool, false⟩, p.2) else (nameT 2 p.2).bind fun p => some (⟨p.1, false⟩, p.2)
def typT : PM Ty := fun s => (baseT s).bind fun p => (takeT m_lb p.2).bind fun q => bif q.1 then (wantT [m_rb] q.2).bind fun s => some (⟨p.1.nm, true⟩, s) else some (p.1, q.2)
inductive Ex where
  | mk (kind num : Nat) (nm : Bs) (ty : Bs) (arr : Bool) (kids : List Ex)
def Ex.kind : Ex → Nat | .mk k _ _ _ _ _ => k
def eitherL (k : Nat) (w : Bs) (nx : PM Ex) : Nat → Ex → PM Ex
  | 0, _, _ => none
  | f + 1, e, s => bif isT [w] s then (nextS s).bind fun s1 => (nx s1).bind fun p => eitherL k w nx f (.mk k 0 [] [] false [e, p.1]) p.2 else some (e, s)
def either (k : Nat) (w : Bs) (nx : PM Ex) (f : Nat) : PM Ex := fun s => (nx s).bind fun p => eitherL k w nx f p.1 p.2
def signsL (ws : List Bs) (nx : PM Ex) : Nat → Ex → PM Ex
  | 0, _, _ => none
  | f + 1, e, s => bif isT ws s then (nextS s).bind fun s1 => (nx s1).bind fun p => signsL ws nx f (.mk 16 0 s.t.text [] false [e, p.1]) p.2 else some (e, s)
def signs (ws : List Bs) (nx : PM Ex) (f : Nat) : PM Ex := fun s => (nx s).bind fun p => signsL ws nx f p.1 p.2
def sumP (un : PM Ex) (f : Nat) : PM Ex := signs [m_plus, m_minus] (signs [m_star, m_slash, m_rem] un f) f
def compared (un : PM Ex) (f : Nat) : PM Ex := fun s => (sumP un f s).bind fun p =>
  bif isT [m_eqeq, m_neq, m_less, m_leq] p.2 then (nextS p.2).bind fun s1 => (sumP un f s1).bind fun q => some (.mk 16 0 p.2.t.text [] false [p.1, q.1], q.2) else some (p.1, p.2)
def asL : Nat → Ex → PM Ex
  | 0, _, _ => none
  | f + 1, e, s => bif isT [w_as, w_is] s then (nextS s).bind fun s1 => (nameT 2 s1).bind fun p => asL f (.mk (bif decide (s.t.text = w_is) then 20 else 19) 0 [] p.1 false [e]) p.2 else some (e, s)
def argsL (rec : PM Ex) : Nat → List Ex → PM (List Ex)
  | 0, _, _ => none
  | f + 1, out, s => bif s.ok then (takeT m_rp s).bind fun p => bif p.1 then some (out, p.2) else
      (bif decide (0 < out.length) then wantT [m_comma] p.2 else some p.2).bind fun s1 => (rec s1).bind fun q => argsL rec f (out ++ [q.1]) (manyS (out.length + 1) q.2)
    else some (out, s)
def argsP (rec : PM Ex) (f : Nat) : PM (List Ex) := fun s => (wantT [m_lp] s).bind fun s1 => argsL rec f [] s1
def memberP (rec : PM Ex) (f : Nat) (e : Ex) : PM Ex := fun s => (takeT w_length s).bind fun p => bif p.1 then some (.mk 13 0 [] [] false [e], p.2) else
  (nameT 3 p.2).bind fun q => bif isT [m_lp] q.2 then (argsP rec f q.2).bind fun a => some (.mk 8 0 q.1 [] false (e :: a.1), a.2) else some (.mk 7 0 q.1 [] false [e], q.2)
def classy (t : Ty) : Bool := !t.arr && (match t.nm with | [] => false | c :: _ => great c)
def primP (rec : PM Ex) (f : Nat) : PM Ex := fun s =>
  bif !s.ok then some (.mk 0 0 [] [] false [], s) else
  bif decide (s.t.kind = 4) then (nextS s).bind fun s1 => some (.mk 1 s.t.num [] [] false [], s1) else
  bif decide (s.t.kind = 3) then (nextS s).bind fun s1 => some (.mk 6 0 s.t.text [] false [], s1) else
  bif decide (s.t.kind = 2) then (nextS s).bind fun s1 => (wantT [m_dot] s1).bind fun s2 => (nameT 3 s2).bind fun q => (argsP rec f q.2).bind fun a => some (.mk 9 0 q.1 s.t.text false a.1, a.2) else
  (takeT w_true s).bind fun p => bif p.1 then some (.mk 2 0 [] [] false [], p.2) else
  (takeT w_false p.2).bind fun p => bif p.1 then some (.mk 3 0 [] [] false [], p.2) else
  (takeT w_null p.2).bind fun p => bif p.1 then some (.mk 4 0 [] [] false [], p.2) else
  (takeT w_this p.2).bind fun p => bif p.1 then some (.mk 5 0 [] [] false [], p.2) else
  (takeT w_new p.2).bind fun p => bif p.1 then
    ((baseT p.2).bind fun b => (takeT m_lb b.2).bind fun q => bif q.1 then (rec q.2).bind fun x => (wantT [m_rb] x.2).bind fun s1 => some (.mk 11 0 [] b.1.nm b.1.arr [x.1], s1)
      else some (.mk 10 0 [] b.1.nm b.1.arr [], bif classy b.1 then q.2 else failS 21 q.2)) else
  (takeT m_lp p.2).bind fun p => bif p.1 then (rec p.2).bind fun x => (wantT [m_rp] x.2).bind fun s1 => some (x.1, s1) else
  some (.mk 0 0 [] [] false [], failS 21 p.2)
def partsL (rec : PM Ex) : Nat → Ex → PM Ex
  | 0, _, _ => none
  | f + 1, e, s => (takeT m_lb s).bind fun p => bif p.1 then (rec p.2).bind fun q => (wantT [m_rb] q.2).bind fun s1 => partsL rec f (.mk 12 0 [] [] false [e, q.1]) s1 else
    (takeT m_dot p.2).bind fun p => bif p.1 then (memberP rec f e p.2).bind fun q => partsL rec f q.1 q.2 else some (e, p.2)
def partsP (rec : PM Ex) (f : Nat) : PM Ex := fun s => (primP rec f s).bind fun p => partsL rec f p.1 p.2
def unary (rec : PM Ex) : Nat → PM Ex
  | 0, _ => none
  | f + 1, s => bif isT [m_minus] s then (downS s).bind fun s1 => (nextS s1).bind fun s2 => (unary rec f s2).bind fun p => (upS p.2).bind fun s' => some (.mk 14 0 [] [] false [p.1], s') else
    bif isT [m_not] s then (downS s).bind fun s1 => (nextS s1).bind fun s2 => (unary rec f s2).bind fun p => (upS p.2).bind fun s' => some (.mk 15 0 [] [] false [p.1], s') else
    (partsP rec f s).bind fun p => asL f p.1 p.2
def exprF (rec : PM Ex) (f : Nat) : PM Ex := fun s => (downS s).bind fun s1 => (either 18 m_or (either 17 m_and (compared (unary rec f) f) f) f s1).bind fun p => (upS p.2).bind fun s' => some (p.1, s')
def expr : Nat → PM Ex
  | 0, _ => none
  | f + 1, s => exprF (expr f) f s
/- statements -/
inductive St where
  | mk (does : Nat) (nm : Bs) (ty : Ty) (es : List Ex) (th el : List St)
def blockL (st : PM St) : Nat → List St → PM (List St)
  | 0, _, _ => none
  | f + 1, out, s => bif s.ok then (takeT m_rc s).bind fun p => bif p.1 then some (out, p.2) else (st p.2).bind fun q => bif decide (out.length < 1000000) then blockL st f (out ++ [q.1]) q.2 else none
    else some (out, s)
def blockP (st : PM St) (f : Nat) : PM (List St) := fun s => (downS s).bind fun s1 => (wantT [m_lc] s1).bind fun s2 => (blockL st f [] s2).bind fun p => (upS p.2).bind fun s' => some (p.1, s')
def tyZ : Ty := ⟨[], false⟩
def plainP (f : Nat) : PM St := fun s => (expr f s).bind fun p => bif isT [m_put] p.2 then
    (wantT [m_put] (bif decide (p.1.kind = 6) || (decide (p.1.kind = 7) || decide (p.1.kind = 12)) then p.2 else failS 21 p.2)).bind fun s1 => (expr f s1).bind fun q => some (.mk 2 [] tyZ [p.1, q.1] [] [], q.2)
  else some (.mk 3 [] tyZ [p.1] [] [], bif decide (p.1.kind = 8) || decide (p.1.kind = 9) then p.2 else failS 21 p.2)
def endP (st : St) (s : S) : Option (St × S) := (wantT [m_semi] s).bind fun s1 => some (st, s1)
def choiceF (st ch : PM St) (f : Nat) : PM St := fun s => (downS s).bind fun s1 => (wantT [w_if] s1).bind fun s2 => (expr f s2).bind fun c => (blockP st f c.2).bind fun t =>
  (takeT w_else t.2).bind fun p => (bif p.1 then (bif isT [w_if] p.2 then (ch p.2).bind fun x => some ([x.1], x.2) else blockP st f p.2) else some ([], p.2)).bind fun x =>
  (upS x.2).bind fun s' => some (.mk 4 [] tyZ [c.1] t.1 x.1, s')
def stmtF (st ch : PM St) (f : Nat) : PM St := fun s => (takeT w_let s).bind fun p => bif p.1 then
    (typT p.2).bind fun t => (nameT 3 t.2).bind fun n => (wantT [m_put] n.2).bind fun s1 => (expr f s1).bind fun x => endP (.mk 1 n.1 t.1 [x.1] [] []) x.2 else
  bif isT [w_if] p.2 then ch p.2 else
  (takeT w_while p.2).bind fun p => bif p.1 then (expr f p.2).bind fun c => (blockP st f c.2).bind fun t => some (.mk 5 [] tyZ [c.1] t.1 [], t.2) else
  (takeT w_return p.2).bind fun p => bif p.1 then (expr f p.2).bind fun x => endP (.mk 6 [] tyZ [x.1] [] []) x.2 else
  (takeT w_print p.2).bind fun p => bif p.1 then (expr f p.2).bind fun x => endP (.mk 7 [] tyZ [x.1] [] []) x.2 else
  (plainP f p.2).bind fun x => endP x.1 x.2
def sc : Nat → Bool → PM St
  | 0, _, _ => none
  | f + 1, b, s => bif b then choiceF (sc f false) (sc f true) f s else stmtF (sc f false) (sc f true) f s
/- classes -/
structure Va where
  nm : Bs
  ty : Ty
structure Me where
  nm : Bs
  st : Bool
  ps : List Va
  ret : Ty
  body : List St
structure Cl where
  nm : Bs
  sup : Bs
  fs : List Va
  ms : List Me
def paramsL : Nat → List Va → PM (List Va)
  | 0, _, _ => none
  | f + 1, out, s => bif s.ok then (takeT m_rp s).bind fun p => bif p.1 then some (out, p.2) else
      (bif decide (0 < out.length) then wantT [m_comma] p.2 else some p.2).bind fun s1 => (typT s1).bind fun t => (nameT 3 t.2).bind fun n => paramsL f (out ++ [⟨n.1, t.1⟩]) (manyS (out.length + 1) n.2)
    else some (out, s)
def methodP (f : Nat) : PM Me := fun s => (takeT w_static s).bind fun p => (wantT [w_method] p.2).bind fun s1 => (typT s1).bind fun t => (nameT 3 t.2).bind fun n => (wantT [m_lp] n.2).bind fun s2 =>
  (paramsL f [] s2).bind fun ps => (blockP (sc f false) f ps.2).bind fun b => some (⟨n.1, p.1, ps.1, t.1, b.1⟩, b.2)
def classL (f : Nat) : Nat → List Va → List Me → PM (List Va × List Me)
  | 0, _, _, _ => none
  | g + 1, fs, ms, s => bif s.ok then (takeT m_rc s).bind fun p => bif p.1 then some ((fs, ms), p.2) else
      (takeT w_field p.2).bind fun p => bif p.1 then (typT p.2).bind fun t => (nameT 3 t.2).bind fun n => (wantT [m_semi] (manyS (fs.length + 1) n.2)).bind fun s1 => classL f g (fs ++ [⟨n.1, t.1⟩]) ms s1 else
      bif isT [w_static, w_method] p.2 then (methodP f p.2).bind fun m => classL f g fs (ms ++ [m.1]) (manyS (ms.length + 1) m.2) else
      classL f g fs ms (failS 21 p.2)
    else some ((fs, ms), s)
def classP (f : Nat) : PM Cl := fun s => (wantT [w_class] s).bind fun s1 => (nameT 2 s1).bind fun n => (takeT w_extends n.2).bind fun p => (bif p.1 then nameT 2 p.2 else some ([], p.2)).bind fun u => (wantT [m_lc] u.2).bind fun s2 =>
  (classL f f [] [] s2).bind fun x => some (⟨n.1, u.1, x.1.1, x.1.2⟩, bif x.2.ok && !decide (x.2.t.kind = 0) then failS 21 x.2 else x.2)
def parseT (f : Nat) : List Tok → Option (Cl × Nat)
  | [] => none
  | t :: r => (classP f ⟨t, r, 0, 0⟩).bind fun p => some (p.1, p.2.e)
end Go.PQ

/- Contracts of the parser, first part: its state, and the small steps. -/
namespace Go.PQ
open Go.Eng
set_option maxRecDepth 100000
theorem gs_S {e : Option V} {P : V → Prop} {b : Bool} (h : P (.tup [])) : onG (.tup []) b e P := h
theorem sidSl {id o l c z i : Nat} (h : (V.sl id o l c z).sid = some i) : i = id := by cases h; rfl
theorem sidGsl {id o l z i : Nat} (h : (V.gsl id o l z).sid = some i) : i = id := by cases h; rfl
/- the parser's own block -/
inductive PAt (G : Roms) (H : Heap) (pb : Nat) (s : S) : Prop where
  | mk {tid off line col : Nat} {cs : LLV} (hg : T.get H pb = some (one [.gsl tid off cs.length 5, .int .i64 (.ofNat s.deep) 0, .int .i64 (.ofNat s.e) 0, .int .i64 (.ofNat line) 0, .int .i64 (.ofNat col) 0]))
    (he : El G H (.gsl tid off cs.length 5) 5 cs) (ht : Pw TokIs cs (s.t :: s.r)) (hp : s.e ≠ 0 → 1 ≤ line ∧ 1 ≤ col) (hl : tid < pb)
section
variable {G : Roms} {H H' : Heap} {n n' pb : Nat} {s s' : S} {k : KV}
theorem PAt.same (h : PAt G H pb s) (hs : ∀ id, id ≤ pb → T.get H' id = T.get H id) : PAt G H' pb s := by
  cases h with
  | mk hg he ht hp hl => exact .mk ((hs _ (Nat.le_refl _)).trans hg) (he.same fun id hid => by cases hid; exact hs _ (by omega)) ht hp hl
theorem PAt.kp (h : PAt G H pb s) (f : Kp H n H' n') (hb : pb < n) : PAt G H' pb s := h.same fun id hid => f.same id (by omega)
theorem PAt.e (h : PAt G H pb s) : ld1V (.ptr pb 2) G H = some (.int .i64 (.ofNat s.e) 0) := by cases h with | mk hg => exact ld1_one hg rfl
theorem PAt.deep (h : PAt G H pb s) : ld1V (.ptr pb 1) G H = some (.int .i64 (.ofNat s.deep) 0) := by cases h with | mk hg => exact ld1_one hg rfl
/- the token that stands here -/
theorem PAt.tok (h : PAt G H pb s) : ∃ v tid o line col, ld1V (.ptr pb 0) G H = some v ∧ iaddrV 5 v (.int .i64 (.ofNat 0) 0) = some (.ptr tid o) ∧ 1 ≤ line ∧ 1 ≤ col ∧ ldnV 5 (.ptr tid o) G H = some (.agg (tokC s.t line col)) ∧
    ld1V (.ptr tid o) G H = some (.int .i64 (.ofNat s.t.kind) 0) ∧ ld1V (.ptr tid (o + 1)) G H = some (sB s.t.text) ∧ ldnV 2 (.ptr tid (o + 3)) G H = some (.agg [.int .i64 (.ofNat line) 0, .int .i64 (.ofNat col) 0]) := by
  cases h with
  | mk hg he ht hp hl =>
    rename_i tid off l1 c1 cs
    cases ht with
    | cons h t =>
      rename_i c cs
      obtain ⟨line, col, x1, x2, rfl⟩ := h
      have h2 := El_gsl he
      have h3 := (elemsB_get _ _ h2).2 0 _ rfl
      rw [Nat.add_zero] at h3
      have sub : ∀ o m, 0 < m → o + m ≤ 5 → ldH H tid (off * 5 + o) m = some (((tokC s.t line col).drop o).take m) := fun o m h1 h2 => ldH_sub h3 rfl h1 h2
      refine ⟨_, tid, off * 5, line, col, ld1_one hg rfl, ?_, x1, x2, ?_, ?_, ?_, ?_⟩
      · show guardO (band (Nat.beq 5 5) (Nat.blt 0 (cs.length + 1))) (forceN ((off + 0) * 5) fun o => some (.ptr tid o)) = _
        rw [show Nat.blt 0 (cs.length + 1) = true by rw [Nat.blt_eq]; omega, forceN_eq]; rfl
      · rw [s_ldn]; show lbind (ldH H tid (off * 5) 5) _ = _; rw [h3]; rfl
      · rw [s_ld1]; show lbind (ldH H tid (off * 5 + 0) 1) _ = _; rw [sub 0 1 (by omega) (by omega)]; rfl
      · rw [s_ld1]; show lbind (ldH H tid (off * 5 + 1) 1) _ = _; rw [sub 1 1 (by omega) (by omega)]; rfl
      · rw [s_ldn]; show lbind (ldH H tid (off * 5 + 3) 2) _ = _; rw [sub 3 2 (by omega) (by omega)]; rfl
theorem Ok_c (h : PAt G H pb s) (hk : k (.bool s.ok) H n) : Runs F G n_parse_parser_ok [.ptr pb 0] H n k := by
  refine runs_s (s := ar1 (s_parse_parser_ok lfp G)) at_parse_parser_ok (by obtain ⟨h, o⟩ := si_parse_parser_ok lfp_ok G; rw [at_parse_parser_ok] at h; cases h; exact o) ?_
  show s_parse_parser_ok lfp G (Runs F G) (.ptr pb 0) H n k
  delta s_parse_parser_ok
  simp only [go_sem, Nat.reduceAdd, h.e, eq_n]
  exact hk
theorem Fail_c {e : Nat} (h : PAt G H pb s) (hk : ∀ H', Kx pb H n H' n → PAt G H' pb (failS e s) → k (.tup []) H' n) : Runs F G n_parse_parser_fail [.ptr pb 0, .int .i64 (.ofNat e) 0] H n k := by
  refine runs_s (s := ar2 (s_parse_parser_fail lfp G)) at_parse_parser_fail (by obtain ⟨h, o⟩ := si_parse_parser_fail lfp_ok G; rw [at_parse_parser_fail] at h; cases h; exact o) ?_
  show s_parse_parser_fail lfp G (Runs F G) (.ptr pb 0) (.int .i64 (.ofNat e) 0) H n k
  delta s_parse_parser_fail
  unfold failS at hk
  simp only [go_sem, Nat.reduceAdd, h.e, eq_n]
  rw [show decide (s.e = 0) = s.ok from rfl]
  cases ho : s.ok with
  | false =>
    rw [ho] at hk
    simp only [go_sem]
    exact hk _ (Kx.refl ..) h
  | true =>
    rw [ho] at hk
    obtain ⟨v, tid, o, line, col, e0, e1, x1, x2, e2, e3, e4, e5⟩ := h.tok
    simp only [go_sem, Nat.reduceAdd, Nat.add_zero, e0, e1, e5, bv_flt]
    cases h with
    | mk hg he ht hp hl =>
      refine a_put hg rfl rfl (by omega) (by show 2 + 3 ≤ 5; omega) fun H1 g1 s1 => ?_
      exact hk _ ⟨Nat.le_refl _, fun id _ hb => s1 id hb⟩ (.mk g1 (he.same fun id hid => by cases hid; exact s1 _ (by omega)) ht (fun _ => ⟨x1, x2⟩) hl)
def wsC (ws : List Bs) : LLV := ws.map fun w => [sB w]
theorem wsC_len (ws : List Bs) : (wsC ws).length = ws.length := List.length_map ..
theorem wsC_at {ws : List Bs} {i : Nat} (h : i < ws.length) : (wsC ws)[i]? = some [sB ws[i]] := by simp [wsC, h]
theorem Is_c {ws : List Bs} {v : V} (h : PAt G H pb s) (hv : El G H v 1 (wsC ws)) (hw : ws.length ≤ 1000) (hk : k (.bool (isT ws s)) H n) : Runs F G n_parse_parser_is [.ptr pb 0, v] H n k := by
  refine runs_s (s := ar2 (s_parse_parser_is lfp G)) at_parse_parser_is (by obtain ⟨h, o⟩ := si_parse_parser_is lfp_ok G; rw [at_parse_parser_is] at h; cases h; exact o) ?_
  show s_parse_parser_is lfp G (Runs F G) (.ptr pb 0) v H n k
  delta s_parse_parser_is
  unfold isT at hk
  simp only [go_sem, hv.len, wsC_len]
  obtain ⟨w, tid, o, line, col, e0, e1, x1, x2, e2, e3, e4, e5⟩ := h.tok
  obtain ⟨R, hR⟩ : ∃ R, (ws.any fun w => oneT w s) = R := ⟨_, rfl⟩
  rw [hR] at hk
  refine lfp_range (N := ws.length) (J := fun j q => q = (.ptr pb 0, v, .int .i64 (.ofNat ws.length) 0, .int .i64 (.ofNat j) 0, H, n) ∧ ((ws.drop j).any fun w => oneT w s) = R) ?_ ?_ ⟨rfl, hR⟩
  · rintro I j q hlt ⟨rfl, hR⟩ ih
    show s_parse_parser_is_l3 lfp G (Runs F G) k I (.ptr pb 0) v (.int .i64 (.ofNat ws.length) 0) (.int .i64 (.ofNat j) 0) H n
    delta s_parse_parser_is_l3
    obtain ⟨p, hp, hld⟩ := hv.at (wsC_at hlt)
    rw [List.drop_eq_getElem_cons hlt, List.any_cons] at hR
    generalize ws[j] = m at hld hR
    simp only [go_sem, lss_n, hlt, decide_true, hp, ld1_of hld]
    refine Ok_c h ?_
    have go1 : oneT m s = false → I (.ptr pb 0, v, .int .i64 (.ofNat ws.length) 0, .int .i64 (.ofNat (j + 1)) 0, H, n) := fun h1 => by
      rw [h1, Bool.false_or] at hR
      exact ih _ ⟨rfl, hR⟩
    have ej := add_n (show j + 1 < 9223372036854775808 by omega)
    cases h1 : s.ok with
    | false =>
      repeat (first | with_reducible refine gs_f ?_ | with_reducible refine gs_S ?_ | with_reducible refine gp_f ?_)
      simp only [go_sem, ej]
      exact go1 (by simp [oneT, h1])
    | true =>
      simp only [go_sem, Nat.reduceAdd, Nat.add_zero, e0, e1, e3, eq_n]
      cases h2 : decide (s.t.kind = 1) with
      | true =>
        repeat (first | with_reducible refine gs_t ?_ | with_reducible refine gs_S ?_)
        simp only [go_sem, Nat.reduceAdd, Nat.add_zero, e0, e1, e4, b_eq]
        cases h3 : decide (s.t.text = m) with
        | true =>
          rw [show oneT m s = true by simp [oneT, h1, h2, h3], Bool.true_or] at hR
          subst hR
          simp only [go_sem]; exact hk
        | false => simp only [go_sem, ej]; exact go1 (by simp [oneT, h3])
      | false =>
        simp only [go_sem, Nat.reduceAdd, Nat.add_zero, e0, e1, e3, eq_n]
        cases h4 : decide (s.t.kind = 5) with
        | true =>
          simp only [go_sem, Nat.reduceAdd, Nat.add_zero, e0, e1, e4, b_eq]
          cases h3 : decide (s.t.text = m) with
          | true =>
            rw [show oneT m s = true by simp [oneT, h1, h4, h3], Bool.true_or] at hR
            subst hR
            simp only [go_sem]; exact hk
          | false => simp only [go_sem, ej]; exact go1 (by simp [oneT, h3])
        | false =>
          repeat (first | with_reducible refine gs_f ?_ | with_reducible refine gs_S ?_ | with_reducible refine gp_f ?_ | with_reducible refine gp_t ?_)
          simp only [go_sem, ej]; exact go1 (by simp [oneT, h2, h4])
  · rintro I q ⟨rfl, hR⟩
    show s_parse_parser_is_l3 lfp G (Runs F G) k I (.ptr pb 0) v (.int .i64 (.ofNat ws.length) 0) (.int .i64 (.ofNat ws.length) 0) H n
    delta s_parse_parser_is_l3
    rw [List.drop_eq_nil_of_le (Nat.le_refl _)] at hR
    subst hR
    simp only [go_sem, lss_n, Nat.lt_irrefl, decide_false]
    delta s_parse_parser_is_j1
    exact hk
theorem s_fld1 {l : LV} {i : Nat} {v : V} (h : l[i]? = some v) : fld1 i (.agg l) = some v := by
  show nth l i = _
  rw [nth_eq, h]
/- a function's memory: what was there stays but the parser's own block -/
structure Fr (G : Roms) (pb : Nat) (H0 : Heap) (n0 : Nat) (H : Heap) (n : Nat) (s : S) : Prop where
  f : Kx pb H0 n0 H n
  p : PAt G H pb s
  b : pb < n0
theorem Fr.lt {H0 : Heap} {n0 : Nat} (x : Fr G pb H0 n0 H n s) : pb < n := Nat.lt_of_lt_of_le x.b x.f.le
theorem Fr.le {H0 : Heap} {n0 : Nat} (x : Fr G pb H0 n0 H n s) : n0 ≤ n := x.f.le
theorem Fr.refl (h : PAt G H pb s) (hb : pb < n) : Fr G pb H n H n s := ⟨Kx.refl .., h, hb⟩
theorem Fr.al {H0 : Heap} {n0 : Nat} (x : Fr G pb H0 n0 H n s) (f : Kp H n H' n') : Fr G pb H0 n0 H' n' s := ⟨x.f.trans f.kx, x.p.kp f x.lt, x.b⟩
theorem Fr.st {H0 : Heap} {n0 b : Nat} (x : Fr G pb H0 n0 H n s) (hb : n0 ≤ b) (e : ∀ j, j ≠ b → T.get H' j = T.get H j) : Fr G pb H0 n0 H' n s :=
  ⟨⟨x.f.le, fun id hid hp => (e id (by omega)).trans (x.f.same id hid hp)⟩, x.p.same fun id hid => e id (by have := x.b; omega), x.b⟩
theorem Fr.tr {H0 : Heap} {n0 : Nat} (x : Fr G pb H0 n0 H n s) (y : Fr G pb H n H' n' s') : Fr G pb H0 n0 H' n' s' := ⟨x.f.trans y.f, y.p, x.b⟩
theorem Fr.get {b : Nat} {L : LV} (y : Fr G pb H n H' n' s') (g : T.get H b = some (one L)) (h1 : b < n) (h2 : pb < b) : T.get H' b = some (one L) := y.f.get g h1 (by omega)
/- a box filled anew -/
theorem a_stA {m b : Nat} {L0 L : LV} {P : KV} (g : T.get H b = some (one L0)) (h0 : L0.length = m) (h1 : L.length = m) (hm : 0 < m) (h : ∀ H', T.get H' b = some (one L) → (∀ j, j ≠ b → T.get H' j = T.get H j) → P .undef H' n) :
    stV m (.ptr b 0) (.agg L) H n P := by
  rw [stV_all g hm h0 h1]; exact h _ (T.get_set ..) fun j hj => T.get_set_ne _ _ (Ne.symm hj)
/- the next token -/
theorem Next_p (h : PAt G H pb s) (hb : pb < n) (hm : nextS s = some s') (hk : ∀ H' n' line col, 1 ≤ line → 1 ≤ col → Fr G pb H n H' n' s' → k (.agg (tokC s.t line col)) H' n') : Runs F G n_parse_parser_next [.ptr pb 0] H n k := by
  refine runs_s (s := ar1 (s_parse_parser_next lfp G)) at_parse_parser_next (by obtain ⟨h, o⟩ := si_parse_parser_next lfp_ok G; rw [at_parse_parser_next] at h; cases h; exact o) ?_
  show s_parse_parser_next lfp G (Runs F G) (.ptr pb 0) H n k
  delta s_parse_parser_next
  have x := Fr.refl h hb
  refine a_alloc rfl fun H1 f1 g1 => ?_
  have x := x.al f1
  obtain ⟨v, tid, o, line, col, e0, e1, x1, x2, e2, e3, e4, e5⟩ := x.p.tok
  simp only [go_sem, Nat.reduceAdd, Nat.add_zero, e0, e1, e2]
  refine a_lay rfl rfl (by omega) fun H3 f3 g3 => ?_
  have x := x.al f3
  have g1 := f3.get g1 (by omega)
  have q0 : ld1V (.ptr (n + 1) 0) G H3 = some (.int .i64 (.ofNat s.t.kind) 0) := ld1_one g3 rfl
  have fin : ∀ {H4 : Heap}, Fr G pb H n H4 (n + 1 + 1) s' → T.get H4 n = some (one [.int .i64 (.ofNat 0) 0, .str 0 0, .int .i64 (.ofNat 0) 0, .int .i64 (.ofNat 0) 0, .int .i64 (.ofNat 0) 0]) → T.get H4 (n + 1) = some (one (tokC s.t line col)) →
      s_parse_parser_next_j9 lfp G (Runs F G) k (.ptr n 0) (.ptr (n + 1) 0) H4 (n + 1 + 1) := by
    intro H4 x g1 g3
    delta s_parse_parser_next_j9
    rw [ldn_all (m := 5) g3 (by omega) rfl, s_onV]
    refine a_stA g1 rfl rfl (by omega) fun H5 g5 s5 => ?_
    rw [getVs_cn (m := 5) g5 (by omega) rfl]
    simp only [go_sem]
    exact hk _ _ _ _ x1 x2 (x.st (Nat.le_refl _) s5)
  unfold nextS at hm
  simp only [go_sem, Nat.reduceAdd, q0, ne_n]
  cases hd : decide (s.t.kind = 0) with
  | true =>
    rw [hd] at hm
    cases hm
    simp only [Bool.not_true, go_sem]
    exact fin x g1 g3
  | false =>
    rw [hd, cond_false] at hm
    simp only [Bool.not_false, go_sem]
    have hp3 := x.p
    cases hp3 with
    | mk hg he ht hp hl =>
      rename_i tid off l1 c1 cs
      cases hr : s.r with
      | nil => rw [hr] at hm; cases hm
      | cons t r =>
        rw [hr] at hm ht
        cases hm
        cases ht with
        | cons ha ht =>
          rename_i a cs
          have e0 : ld1V (.ptr pb 0) G H3 = some (.gsl tid off (cs.length + 1) 5) := ld1_one hg rfl
          simp only [go_sem, Nat.reduceAdd, e0, s_tailG]
          refine a_put hg rfl rfl (by omega) (by show 0 + 1 ≤ 5; omega) fun H4 g4 s4 => ?_
          refine fin ⟨⟨x.le, fun id hid hp => (s4 id hp).trans (x.f.same id hid hp)⟩, ?_, hb⟩ ((s4 _ (by omega)).trans g1) ((s4 _ (by omega)).trans g3)
          exact .mk (s := { s with t := t, r := r }) g4 ((El_tailG he).same fun id hid => by cases sidGsl hid; exact s4 _ (by omega)) ht hp hl
end
end Go.PQ
/- Contracts of the parser, second part: words, names, types, depth. -/
namespace Go.PQ
open Go.Eng
set_option maxRecDepth 100000
section
variable {G : Roms} {H : Heap} {n pb : Nat} {s s' : S} {k : KV}
/- words written out -/
theorem a_words {ws : List Bs} {m : Nat} {P : KV} {Z : LV} (hm : ws.length = m) (h : ∀ H', Kp H n H' (n + 1) → El G H' (.sl n 0 m m 1) 1 (wsC ws) → P (.sl n 0 m m 1) H' (n + 1)) : onA (aBslice 1 m Z (mkps 0 (ws.map sB)) E0) H n P := by
  refine a_bsl (G := G) (vs := ws.map sB) (by rw [List.length_map]; exact hm) (by omega) (fun v hv => ?_) fun H' f _ hel => h H' f ?_
  · obtain ⟨w, _, rfl⟩ := List.mem_map.1 hv; exact ⟨rfl, rfl⟩
  · rw [List.map_map] at hel; exact hel
theorem IsL_c {ws : List Bs} {m : Nat} {P : KV} {Z : LV} (h : PAt G H pb s) (hb : pb < n) (hm : ws.length = m) (hw : ws.length ≤ 1000) (hk : ∀ H' n', Fr G pb H n H' n' s → P (.bool (isT ws s)) H' n') :
    onA (aBslice 1 m Z (mkps 0 (ws.map sB)) E0) H n fun v H n => Runs F G n_parse_parser_is [.ptr pb 0, v] H n P := by
  refine a_words (G := G) hm fun H1 f1 hel => ?_
  have x := (Fr.refl h hb).al f1
  exact Is_c x.p hel hw (hk _ _ x)
theorem Take_c {w : Bs} {b : Bool} (h : PAt G H pb s) (hb : pb < n) (hm : takeT w s = some (b, s')) (hk : ∀ H' n', Fr G pb H n H' n' s' → k (.bool b) H' n') : Runs F G n_parse_parser_take [.ptr pb 0, sB w] H n k := by
  refine runs_s (s := ar2 (s_parse_parser_take lfp G)) at_parse_parser_take (by obtain ⟨h, o⟩ := si_parse_parser_take lfp_ok G; rw [at_parse_parser_take] at h; cases h; exact o) ?_
  show s_parse_parser_take lfp G (Runs F G) (.ptr pb 0) (sB w) H n k
  delta s_parse_parser_take
  refine IsL_c (ws := [w]) h hb rfl (by show 1 ≤ 1000; omega) fun H1 n1 x => ?_
  unfold takeT at hm
  rw [show isT [w] s = oneT w s by simp [isT]]
  cases ho : oneT w s with
  | false =>
    rw [ho] at hm
    cases hm
    simp only [go_sem, s_notB, Bool.not_false]
    exact hk _ _ x
  | true =>
    rw [ho, cond_true, Option.bind_eq_some_iff] at hm
    obtain ⟨s2, h2, hm⟩ := hm
    cases hm
    simp only [go_sem, s_notB, Bool.not_true]
    exact Next_p x.p x.lt h2 fun H2 n2 _ _ _ _ y => hk _ _ (x.tr y)
theorem Want_c {ws : List Bs} {id o l c : Nat} (h : PAt G H pb s) (hb : pb < n) (hv : El G H (.sl id o l c 1) 1 (wsC ws)) (hid : id < n) (hip : pb < id) (hw : ws.length ≤ 1000) (hm : wantT ws s = some s') (hk : ∀ H' n', Fr G pb H n H' n' s' → k (.tup []) H' n') :
    Runs F G n_parse_parser_want [.ptr pb 0, .sl id o l c 1] H n k := by
  refine runs_s (s := ar2 (s_parse_parser_want lfp G)) at_parse_parser_want (by obtain ⟨h, o⟩ := si_parse_parser_want lfp_ok G; rw [at_parse_parser_want] at h; cases h; exact o) ?_
  show s_parse_parser_want lfp G (Runs F G) (.ptr pb 0) (.sl id o l c 1) H n k
  delta s_parse_parser_want
  simp only [hv.len, wsC_len, go_sem]
  refine lfp_range (N := ws.length) (J := fun j q => ∃ H' n' t, q = (.ptr pb 0, .sl id o l c 1, .int .i64 (.ofNat ws.length) 0, .int .i64 (.ofNat j) 0, H', n') ∧ Fr G pb H n H' n' t ∧ wantT (ws.drop j) t = some s') ?_ ?_ ⟨H, n, s, rfl, Fr.refl h hb, hm⟩
  · rintro I j q hlt ⟨H1, n1, t, rfl, x, hm⟩ ih
    show s_parse_parser_want_l2 lfp G (Runs F G) k I (.ptr pb 0) (.sl id o l c 1) (.int .i64 (.ofNat ws.length) 0) (.int .i64 (.ofNat j) 0) H1 n1
    delta s_parse_parser_want_l2
    have hv1 : El G H1 (.sl id o l c 1) 1 (wsC ws) := hv.same fun i hi => by cases sidSl hi; exact x.f.same id hid (by omega)
    obtain ⟨p, hp, hld⟩ := hv1.at (wsC_at hlt)
    rw [List.drop_eq_getElem_cons hlt, show ∀ (w : Bs) ws (s : S), wantT (w :: ws) s = (takeT w s).bind fun p => wantT ws (bif p.1 then p.2 else failS 21 p.2) from fun _ _ _ => rfl, Option.bind_eq_some_iff] at hm
    obtain ⟨⟨b, t2⟩, h2, hm⟩ := hm
    have hm : wantT (ws.drop (j + 1)) (bif b then t2 else failS 21 t2) = some s' := hm
    generalize ws[j] = m at hld h2
    simp only [go_sem, lss_n, hlt, decide_true, hp, ld1_of hld]
    refine Take_c x.p x.lt h2 fun H2 n2 y => ?_
    have x := x.tr y
    simp only [go_sem, s_notB]
    cases b with
    | true =>
      simp only [go_sem, Bool.not_true]
      delta s_parse_parser_want_j4
      simp only [go_sem, add_n (show j + 1 < 9223372036854775808 by omega)]
      exact ih _ ⟨_, _, _, rfl, x, hm⟩
    | false =>
      simp only [go_sem, Bool.not_false]
      refine Fail_c x.p fun H3 f3 p3 => ?_
      delta s_parse_parser_want_j4
      simp only [go_sem, add_n (show j + 1 < 9223372036854775808 by omega)]
      exact ih _ ⟨_, _, _, rfl, ⟨x.f.trans f3, p3, x.b⟩, hm⟩
  · rintro I q ⟨H1, n1, t, rfl, x, hm⟩
    show s_parse_parser_want_l2 lfp G (Runs F G) k I (.ptr pb 0) (.sl id o l c 1) (.int .i64 (.ofNat ws.length) 0) (.int .i64 (.ofNat ws.length) 0) H1 n1
    delta s_parse_parser_want_l2
    rw [List.drop_eq_nil_of_le (Nat.le_refl _)] at hm
    cases hm
    simp only [go_sem, lss_n, Nat.lt_irrefl, decide_false]
    exact hk _ _ x
theorem WantL_c {ws : List Bs} {m : Nat} {P : KV} {Z : LV} (h : PAt G H pb s) (hb : pb < n) (hm : ws.length = m) (hw : ws.length ≤ 1000) (he : wantT ws s = some s') (hk : ∀ H' n', Fr G pb H n H' n' s' → P (.tup []) H' n') :
    onA (aBslice 1 m Z (mkps 0 (ws.map sB)) E0) H n fun v H n => Runs F G n_parse_parser_want [.ptr pb 0, v] H n P := by
  refine a_words (G := G) hm fun H1 f1 hel => ?_
  have x := (Fr.refl h hb).al f1
  exact Want_c x.p x.lt hel (by omega) hb hw he fun H2 n2 y => hk _ _ (x.tr y)
theorem Fail_p {e : Nat} (h : PAt G H pb s) (hb : pb < n) (hk : ∀ H' n', Fr G pb H n H' n' (failS e s) → k (.tup []) H' n') : Runs F G n_parse_parser_fail [.ptr pb 0, .int .i64 (.ofNat e) 0] H n k :=
  Fail_c h fun H1 f p => hk _ _ ⟨f, p, hb⟩
theorem Name_c {kd : Nat} {l : Bs} (h : PAt G H pb s) (hb : pb < n) (hm : nameT kd s = some (l, s')) (hk : ∀ H' n', Fr G pb H n H' n' s' → k (sB l) H' n') : Runs F G n_parse_parser_name [.ptr pb 0, .int .i64 (.ofNat kd) 0] H n k := by
  refine runs_s (s := ar2 (s_parse_parser_name lfp G)) at_parse_parser_name (by obtain ⟨h, o⟩ := si_parse_parser_name lfp_ok G; rw [at_parse_parser_name] at h; cases h; exact o) ?_
  show s_parse_parser_name lfp G (Runs F G) (.ptr pb 0) (.int .i64 (.ofNat kd) 0) H n k
  delta s_parse_parser_name
  refine Ok_c h ?_
  unfold nameT at hm
  have bad : nameT kd s = some ([], failS 21 s) → Runs F G n_parse_parser_fail [.ptr pb 0, .int .i64 (.ofNat 21) 0] H n fun _ H n => k (.str 0 0) H n := fun hb' => by
    unfold nameT at hb'
    rw [hb'] at hm
    cases hm
    exact Fail_p h hb fun H1 n1 x => hk _ _ x
  have good : (nextS s).bind (fun s' => some (s.t.text, s')) = some (l, s') → Runs F G n_parse_parser_next [.ptr pb 0] H n fun v14 H n => onV (fld1 1 v14) fun v15 => k v15 H n := fun hm => by
    rw [Option.bind_eq_some_iff] at hm
    obtain ⟨s2, h2, hm⟩ := hm
    cases hm
    refine Next_p h hb h2 fun H2 n2 line col _ _ y => ?_
    rw [s_fld1 (show (tokC s.t line col)[1]? = some (sB s.t.text) from rfl), s_onV]
    exact hk _ _ y
  obtain ⟨v, tid, o, line, col, e0, e1, x1, x2, e2, e3, e4, e5⟩ := h.tok
  cases ho : s.ok with
  | false =>
    simp only [s_notB, Bool.not_false, go_sem]
    repeat (first | with_reducible refine gs_t ?_ | with_reducible refine gs_S ?_)
    exact bad (by unfold nameT; rw [ho]; rfl)
  | true =>
    simp only [s_notB, Bool.not_true, go_sem, Nat.reduceAdd, Nat.add_zero, e0, e1, e3, ne_n]
    cases hd : decide (s.t.kind = kd) with
    | false =>
      simp only [Bool.not_false, go_sem]
      exact bad (by unfold nameT; rw [ho, hd]; rfl)
    | true =>
      rw [ho, hd] at hm
      simp only [Bool.not_true, go_sem]
      exact good hm
/- one deeper, and back -/
theorem Down_c (h : PAt G H pb s) (hb : pb < n) (hm : downS s = some s') (hk : ∀ H' n' q, Fr G pb H n H' n' s' → n ≤ q → q < n' → T.get H' q = some (one [.ptr pb 0]) → k (.fn n_parse_parser_down_1 [] [.ptr q 0]) H' n') : Runs F G n_parse_parser_down [.ptr pb 0] H n k := by
  refine runs_s (s := ar1 (s_parse_parser_down lfp G)) at_parse_parser_down (by obtain ⟨h, o⟩ := si_parse_parser_down lfp_ok G; rw [at_parse_parser_down] at h; cases h; exact o) ?_
  show s_parse_parser_down lfp G (Runs F G) (.ptr pb 0) H n k
  delta s_parse_parser_down
  have x := Fr.refl h hb
  refine a_box rfl fun H1 f1 g1 => ?_
  have x := x.al f1
  have g1 : T.get H1 n = some (one [.ptr pb 0]) := g1
  have q1 : ld1V (.ptr n 0) G H1 = some (.ptr pb 0) := ld1_one g1 rfl
  unfold downS at hm
  cases hd : decide (s.deep < 1000000) with
  | false => rw [hd] at hm; cases hm
  | true =>
    rw [hd, cond_true] at hm
    have hd := of_decide_eq_true hd
    simp only [go_sem, Nat.reduceAdd, q1, x.p.deep, add_n (show s.deep + 1 < 9223372036854775808 by omega)]
    have hp1 := x.p
    cases hp1 with
    | mk hg he ht hp hl =>
      refine a_put hg rfl rfl (by omega) (by show 1 + 1 ≤ 5; omega) fun H2 g2 s2 => ?_
      have q1 : ld1V (.ptr n 0) G H2 = some (.ptr pb 0) := ld1_one ((s2 n (by omega)).trans g1) rfl
      have p2 : PAt G H2 pb { s with deep := s.deep + 1 } := .mk (s := { s with deep := s.deep + 1 }) g2 (he.same fun id hid => by cases sidGsl hid; exact s2 _ (by omega)) ht hp hl
      have x : Fr G pb H n H2 (n + 1) { s with deep := s.deep + 1 } := ⟨⟨x.le, fun id hid hp => (s2 id hp).trans (x.f.same id hid hp)⟩, p2, hb⟩
      have e2 : ld1V (.ptr pb 1) G H2 = some (.int .i64 (.ofNat (s.deep + 1)) 0) := p2.deep
      simp only [go_sem, Nat.reduceAdd, q1, e2, gtr_n]
      cases h100 : decide (100 < s.deep + 1) with
      | false =>
        rw [h100] at hm
        cases hm
        simp only [go_sem]
        delta s_parse_parser_down_j2
        exact hk _ _ n x (Nat.le_refl _) (by omega) ((s2 n (by omega)).trans g1)
      | true =>
        rw [h100] at hm
        cases hm
        simp only [go_sem, q1]
        refine Fail_p x.p x.lt fun H3 n3 y => ?_
        delta s_parse_parser_down_j2
        exact hk _ _ n (x.tr y) (Nat.le_refl _) (by have := y.le; omega) (y.get ((s2 n (by omega)).trans g1) (by omega) hb)
theorem Up_c {q : Nat} {P : Heap → Nat → Prop} (h : PAt G H pb s) (hb : pb < n) (hq : T.get H q = some (one [.ptr pb 0])) (hm : upS s = some s') (hk : ∀ H' n', Fr G pb H n H' n' s' → P H' n') :
    exDef 95 (tupL (.tup [.fn n_parse_parser_down_1 [] [.ptr q 0]])) (Runs F G) H n P := by
  show onB (Nat.beq n_parse_parser_down_1 95) (Runs F G n_parse_parser_down_1 [.ptr q 0] H n fun _ H n => P H n)
  rw [show Nat.beq n_parse_parser_down_1 95 = true from rfl, s_onB]
  generalize hk' : (fun _ H n => P H n : KV) = k
  refine runs_s (s := ar1 (s_parse_parser_down_1 lfp G)) at_parse_parser_down_1 (by obtain ⟨h, o⟩ := si_parse_parser_down_1 lfp_ok G; rw [at_parse_parser_down_1] at h; cases h; exact o) ?_
  show s_parse_parser_down_1 lfp G (Runs F G) (.ptr q 0) H n k
  delta s_parse_parser_down_1
  subst hk'
  unfold upS at hm
  cases hd : s.deep with
  | zero => rw [hd] at hm; cases hm
  | succ d =>
    rw [hd] at hm
    have hm : (bif decide (d < 1000000) then some { s with deep := d } else none) = some s' := hm
    cases hlt : decide (d < 1000000)
    · rw [hlt] at hm; cases hm
    rw [hlt, cond_true] at hm
    have hlt := of_decide_eq_true hlt
    cases hm
    have q1 : ld1V (.ptr q 0) G H = some (.ptr pb 0) := ld1_one hq rfl
    have q2 := h.deep
    rw [hd] at q2
    have hbig : d + 1 < 9223372036854775808 := by omega
    simp only [go_sem, Nat.reduceAdd, q1, q2, sub1_n hbig]
    cases h with
    | mk hg he ht hp hl =>
      refine a_put hg rfl rfl (by omega) (by show 1 + 1 ≤ 5; omega) fun H2 g2 s2 => ?_
      exact hk _ _ ⟨⟨Nat.le_refl _, fun id hid hp => s2 id hp⟩, .mk (s := { s with deep := d }) g2 (he.same fun id hid => by cases sidGsl hid; exact s2 _ (by omega)) ht hp hl, hb⟩
/- types -/
def tyC (t : Ty) : LV := [sB t.nm, .bool t.arr]
theorem bv_ty {z0 z1 : V} (l : Bs) : buildV [z0, z1] [(0, 1, .c (sB l))] = some (.agg [sB l, z1]) := rfl
theorem TypeOf_c {l : Bs} (hk : ∀ H', Kp H n H' (n + 1) → k (.agg [sB l, .bool false]) H' (n + 1)) : Runs F G n_ast_Of [sB l] H n k := by
  refine runs_s (s := ar1 (s_ast_Of lfp G)) at_ast_Of (by obtain ⟨h, o⟩ := si_ast_Of lfp_ok G; rw [at_ast_Of] at h; cases h; exact o) ?_
  show s_ast_Of lfp G (Runs F G) (sB l) H n k
  delta s_ast_Of
  simp only [go_sem, bv_ty]
  exact hk _ (((Kp.refl H n).new (m := n + 1) _ (Nat.le_refl _) (by omega)).new _ (Nat.le_refl _) (Nat.le_refl _))
theorem TypeInt_c (hk : ∀ H', Kp H n H' (n + 1) → k (.agg [sB w_int, .bool false]) H' (n + 1)) : Runs F G n_ast_Int [] H n k := by
  refine runs_s (s := ar0 (s_ast_Int lfp G)) at_ast_Int (by obtain ⟨h, o⟩ := si_ast_Int lfp_ok G; rw [at_ast_Int] at h; cases h; exact o) ?_
  show s_ast_Int lfp G (Runs F G)  H n k
  delta s_ast_Int
  simp only [c_int, go_sem, bv_ty]
  exact hk _ (((Kp.refl H n).new (m := n + 1) _ (Nat.le_refl _) (by omega)).new _ (Nat.le_refl _) (Nat.le_refl _))
theorem TypeBool_c (hk : ∀ H', Kp H n H' (n + 1) → k (.agg [sB w_bool, .bool false]) H' (n + 1)) : Runs F G n_ast_Bool [] H n k := by
  refine runs_s (s := ar0 (s_ast_Bool lfp G)) at_ast_Bool (by obtain ⟨h, o⟩ := si_ast_Bool lfp_ok G; rw [at_ast_Bool] at h; cases h; exact o) ?_
  show s_ast_Bool lfp G (Runs F G)  H n k
  delta s_ast_Bool
  simp only [c_bool, go_sem, bv_ty]
  exact hk _ (((Kp.refl H n).new (m := n + 1) _ (Nat.le_refl _) (by omega)).new _ (Nat.le_refl _) (Nat.le_refl _))
theorem Many_c {m : Nat} (h : PAt G H pb s) (hb : pb < n) (hk : ∀ H' n', Fr G pb H n H' n' (manyS m s) → k (.tup []) H' n') : Runs F G n_parse_parser_many [.ptr pb 0, .int .i64 (.ofNat m) 0] H n k := by
  refine runs_s (s := ar2 (s_parse_parser_many lfp G)) at_parse_parser_many (by obtain ⟨h, o⟩ := si_parse_parser_many lfp_ok G; rw [at_parse_parser_many] at h; cases h; exact o) ?_
  show s_parse_parser_many lfp G (Runs F G) (.ptr pb 0) (.int .i64 (.ofNat m) 0) H n k
  delta s_parse_parser_many
  unfold manyS at hk
  simp only [go_sem, gtr_n]
  cases hd : decide (200 < m) with
  | false => rw [hd] at hk; simp only [go_sem]; exact hk _ _ (Fr.refl h hb)
  | true => rw [hd] at hk; simp only [go_sem]; exact Fail_p h hb hk
theorem Base_c {t : Ty} (h : PAt G H pb s) (hb : pb < n) (hm : baseT s = some (t, s')) (hk : ∀ H' n', Fr G pb H n H' n' s' → k (.agg (tyC t)) H' n') : Runs F G n_parse_parser_base [.ptr pb 0] H n k := by
  refine runs_s (s := ar1 (s_parse_parser_base lfp G)) at_parse_parser_base (by obtain ⟨h, o⟩ := si_parse_parser_base lfp_ok G; rw [at_parse_parser_base] at h; cases h; exact o) ?_
  show s_parse_parser_base lfp G (Runs F G) (.ptr pb 0) H n k
  delta s_parse_parser_base
  have x := Fr.refl h hb
  refine a_alloc rfl fun H1 f1 g1 => ?_
  have x := x.al f1
  unfold baseT at hm
  rw [Option.bind_eq_some_iff] at hm
  obtain ⟨⟨b, s2⟩, h2, hm⟩ := hm
  have hm : (bif b then some (⟨w_int, false⟩, s2) else (takeT w_bool s2).bind fun p => bif p.1 then some (⟨w_bool, false⟩, p.2) else (nameT 2 p.2).bind fun p => some (⟨p.1, false⟩, p.2)) = some (t, s') := hm
  rw [c_int, c_bool]
  have fin : ∀ {H2 : Heap} {n2 : Nat} {l : Bs}, Fr G pb H n H2 n2 s' → T.get H2 n = some (one [.str 0 0, .bool false]) → t = ⟨l, false⟩ → stV 2 (.ptr n 0) (.agg [sB l, .bool false]) H2 n2 fun v4 H n_1 => onO (getVs [.cn (.ptr n 0) 2] G H) fun l => k (oneV l) H n_1 := by
    intro H2 n2 l x g ht
    subst ht
    refine a_stA g rfl rfl (by omega) fun H3 g3 s3 => ?_
    rw [getVs_cn (m := 2) g3 (by omega) rfl]
    simp only [go_sem]
    exact hk _ _ (x.st (Nat.le_refl _) s3)
  refine Take_c x.p x.lt h2 fun H2 n2 y => ?_
  have x := x.tr y
  have g1 := y.get g1 (by omega) hb
  cases b with
  | true =>
    cases hm
    simp only [go_sem]
    exact TypeInt_c fun H3 f3 => fin (x.al f3) (f3.get g1 (by have := y.le; omega)) rfl
  | false =>
    rw [cond_false, Option.bind_eq_some_iff] at hm
    obtain ⟨⟨b, s3⟩, h3, hm⟩ := hm
    simp only [go_sem]
    have hn := y.le
    refine Take_c x.p x.lt h3 fun H3 n3 y => ?_
    have x := x.tr y
    have g1 := y.get g1 (by omega) hb
    have hn2 := y.le
    cases b with
    | true =>
      cases hm
      simp only [go_sem]
      exact TypeBool_c fun H3 f3 => fin (x.al f3) (f3.get g1 (by omega)) rfl
    | false =>
      rw [cond_false, Option.bind_eq_some_iff] at hm
      obtain ⟨⟨l, s4⟩, h4, hm⟩ := hm
      cases hm
      simp only [go_sem]
      refine Name_c x.p x.lt h4 fun H4 n4 y => ?_
      have x := x.tr y
      have g1 := y.get g1 (by omega) hb
      have hn3 := y.le
      exact TypeOf_c fun H3 f3 => fin (x.al f3) (f3.get g1 (by omega)) rfl
theorem Typ_c {t : Ty} (h : PAt G H pb s) (hb : pb < n) (hm : typT s = some (t, s')) (hk : ∀ H' n', Fr G pb H n H' n' s' → k (.agg (tyC t)) H' n') : Runs F G n_parse_parser_typ [.ptr pb 0] H n k := by
  refine runs_s (s := ar1 (s_parse_parser_typ lfp G)) at_parse_parser_typ (by obtain ⟨h, o⟩ := si_parse_parser_typ lfp_ok G; rw [at_parse_parser_typ] at h; cases h; exact o) ?_
  show s_parse_parser_typ lfp G (Runs F G) (.ptr pb 0) H n k
  delta s_parse_parser_typ
  have x := Fr.refl h hb
  refine a_alloc rfl fun H1 f1 g1 => ?_
  have x := x.al f1
  unfold typT at hm
  rw [Option.bind_eq_some_iff] at hm
  obtain ⟨⟨t1, s2⟩, h2, hm⟩ := hm
  rw [Option.bind_eq_some_iff] at hm
  obtain ⟨⟨b, s3⟩, h3, hm⟩ := hm
  have hm : (bif b then (wantT [m_rb] s3).bind fun s => some ((⟨t1.nm, true⟩ : Ty), s) else some (t1, s3)) = some (t, s') := hm
  refine Base_c x.p x.lt h2 fun H2 n2 y => ?_
  have x := x.tr y
  have g1 := y.get g1 (by omega) hb
  have hn := y.le
  refine a_alloc rfl fun H3 f3 g3 => ?_
  have x := x.al f3
  have g1 := f3.get g1 (by omega)
  refine a_stA (L := tyC t1) g3 rfl rfl (by omega) fun H4 g3 s4 => ?_
  have x := x.st (by omega) s4
  have g1 := (s4 n (by omega)).trans g1
  have fin : ∀ {H5 : Heap} {n5 : Nat}, Fr G pb H n H5 n5 s' → T.get H5 n = some (one [.str 0 0, .bool false]) → T.get H5 n2 = some (one (tyC t)) → s_parse_parser_typ_j5 lfp G (Runs F G) k (.ptr n 0) (.ptr n2 0) H5 n5 := by
    intro H5 n5 x g1 g3
    delta s_parse_parser_typ_j5
    rw [ldn_all (m := 2) g3 (by omega) rfl, s_onV]
    refine a_stA g1 rfl rfl (by omega) fun H6 g6 s6 => ?_
    rw [getVs_cn (m := 2) g6 (by omega) rfl]
    simp only [go_sem]
    exact hk _ _ (x.st (Nat.le_refl _) s6)
  rw [d_lb]
  refine Take_c x.p x.lt h3 fun H5 n5 y => ?_
  have x := x.tr y
  have g1 := y.get g1 (by omega) hb
  have g3 := y.get g3 (by omega) (by omega)
  have hn5 := y.le
  cases b with
  | false =>
    cases hm
    simp only [go_sem]
    exact fin x g1 g3
  | true =>
    rw [cond_true, Option.bind_eq_some_iff] at hm
    obtain ⟨s4, h4, hm⟩ := hm
    cases hm
    simp only [go_sem]
    refine WantL_c (ws := [m_rb]) x.p x.lt rfl (by show 1 ≤ 1000; omega) h4 fun H6 n6 y => ?_
    have x := x.tr y
    have g1 := y.get g1 (by omega) hb
    have g3 := y.get g3 (by omega) (by omega)
    refine a_put g3 rfl rfl (by omega) (by show 1 + 1 ≤ 2; omega) fun H7 g7 s7 => ?_
    exact fin (x.st (by omega) s7) ((s7 n (by omega)).trans g1) g7
end
end Go.PQ

/- Contracts of the parser, third part: trees of expressions; parts with a sign between them. -/
namespace Go.PQ
open Go.Eng
set_option maxRecDepth 100000
def exC (kind num : Nat) (nm ty : Bs) (arr : Bool) (line col : Nat) (v : V) : LV :=
  [.int .i64 (.ofNat kind) 0, .int .i64 (.ofNat line) 0, .int .i64 (.ofNat col) 0, .int .i64 (.ofNat num) 0, sB nm, sB ty, .bool arr, v, .str 0 0, .bool false, .str 0 0]
mutual
inductive ExAt (G : Roms) (H : Heap) (A : Nat → Prop) : LV → Ex → Prop where
  | mk (kind num : Nat) (nm ty : Bs) (arr : Bool) (line col : Nat) {v : V} {cs : LLV} {kids : List Ex} (he : El G H v 11 cs) (hv : vsame1 v v = true) (ha : ∀ id, v.sid = some id → A id) (hc : CsAt G H A cs kids) :
    ExAt G H A (exC kind num nm ty arr line col v) (.mk kind num nm ty arr kids)
inductive CsAt (G : Roms) (H : Heap) (A : Nat → Prop) : LLV → List Ex → Prop where
  | nil : CsAt G H A [] []
  | cons {c : LV} {e : Ex} {cs : LLV} {es : List Ex} (h : ExAt G H A c e) (t : CsAt G H A cs es) : CsAt G H A (c :: cs) (e :: es)
end
mutual
theorem ExAt.mono {G : Roms} {H H' : Heap} {A B : Nat → Prop} (hA : ∀ id, A id → B id) (hs : ∀ id, A id → T.get H' id = T.get H id) : ∀ {c : LV} {e : Ex}, ExAt G H A c e → ExAt G H' B c e
  | _, _, .mk kind num nm ty arr line col he hv ha hc => .mk kind num nm ty arr line col (he.same fun id hid => hs id (ha id hid)) hv (fun id hid => hA id (ha id hid)) (CsAt.mono hA hs hc)
theorem CsAt.mono {G : Roms} {H H' : Heap} {A B : Nat → Prop} (hA : ∀ id, A id → B id) (hs : ∀ id, A id → T.get H' id = T.get H id) : ∀ {cs : LLV} {es : List Ex}, CsAt G H A cs es → CsAt G H' B cs es
  | _, _, .nil => .nil
  | _, _, .cons h t => .cons (ExAt.mono hA hs h) (CsAt.mono hA hs t)
end
theorem CsAt.app {G : Roms} {H : Heap} {A : Nat → Prop} : ∀ {cs : LLV} {es : List Ex} {cs' : LLV} {es' : List Ex}, CsAt G H A cs es → CsAt G H A cs' es' → CsAt G H A (cs ++ cs') (es ++ es')
  | _, _, _, _, .nil, h => h
  | _, _, _, _, .cons h t, h' => .cons h (t.app h')
theorem CsAt.len {G : Roms} {H : Heap} {A : Nat → Prop} : ∀ {cs : LLV} {es : List Ex}, CsAt G H A cs es → cs.length = es.length
  | _, _, .nil => rfl
  | _, _, .cons h t => by simp [t.len]
theorem vs_int (q : IntKind) (a : Int) : vsame1 (.int q a 0) (.int q a 0) = true := by simp [vsame1, smInt, band_eq, keq_eq, ieq_eq]
theorem vs_str (l c : Nat) : vsame1 (.str l c) (.str l c) = true := by simp [vsame1, smStr, band_eq]
theorem vs_bool (b : Bool) : vsame1 (.bool b) (.bool b) = true := by cases b <;> rfl
theorem vs_sl (a b c d e : Nat) : vsame1 (.sl a b c d e) (.sl a b c d e) = true := by simp [vsame1, smSl, band_eq]
theorem vs_gsl (a b c d : Nat) : vsame1 (.gsl a b c d) (.gsl a b c d) = true := by simp [vsame1, smGsl, band_eq]
theorem vs_nils : vsame1 .nils .nils = true := rfl
theorem vsL : ∀ L : LV, (∀ v ∈ L, vsame1 v v = true) → vsameL L L = true
  | [], _ => rfl
  | v :: L, h => by
    show band (vsame1 v v) (vsameL L L) = true
    rw [h v (List.mem_cons_self ..), vsL L fun w hw => h w (List.mem_cons_of_mem _ hw)]; rfl
theorem vs_agg {L : LV} (h : ∀ v ∈ L, vsame1 v v = true) : vsame (.agg L) (.agg L) = true := vsL L h
theorem vs_pos (line col : Nat) : vsame (.agg [.int .i64 (.ofNat line) 0, .int .i64 (.ofNat col) 0]) (.agg [.int .i64 (.ofNat line) 0, .int .i64 (.ofNat col) 0]) = true :=
  vs_agg fun v hv => by simp at hv; rcases hv with rfl | rfl <;> exact vs_int ..
theorem vs_sB (l : Bs) : vsame (sB l) (sB l) = true := vs_str ..
section
variable {G : Roms} {H : Heap} {A : Nat → Prop} {c : LV} {e : Ex}
theorem ExAt.len (h : ExAt G H A c e) : c.length = 11 := by cases h; rfl
theorem ExAt.kd (h : ExAt G H A c e) : c[0]? = some (.int .i64 (.ofNat e.kind) 0) := by cases h; rfl
theorem ExAt.vs (h : ExAt G H A c e) : vsame (.agg c) (.agg c) = true := by
  cases h with
  | mk kind num nm ty arr line col he hv ha hc =>
    refine vs_agg fun v hv' => ?_
    simp only [exC, List.mem_cons, List.not_mem_nil, or_false] at hv'
    rcases hv' with rfl | rfl | rfl | rfl | rfl | rfl | rfl | rfl | rfl | rfl | rfl <;> first | exact vs_int .. | exact vs_str .. | exact vs_bool .. | exact hv
end
/- where what is made by a call lies -/
def Rg (a b : Nat) : Nat → Prop := fun id => a ≤ id ∧ id < b
def Al (a b x : Nat) : Nat → Prop := fun id => a < id ∧ id < b ∧ id ≠ x
theorem re_ok {v : V} {P : Prop} (h : vsame v v = true) (hp : P) : onB (vsame v v) P := by rw [h]; exact hp
abbrev exZ : LV := [.int .i64 (.ofNat 0) 0, .int .i64 (.ofNat 0) 0, .int .i64 (.ofNat 0) 0, .int .i64 (.ofNat 0) 0, .str 0 0, .str 0 0, .bool false, .nils, .str 0 0, .bool false, .str 0 0]
/- what a function that makes an expression hands back -/
def ExK (G : Roms) (pb : Nat) (H : Heap) (n : Nat) (s' : S) (e : Ex) (k : KV) : Prop := ∀ H' n' c, Fr G pb H n H' n' s' → ExAt G H' (Rg n n') c e → k (.agg c) H' n'
def Bxs (H : Heap) (n pb : Nat) (bs : List Nat) : Prop := ∀ b ∈ bs, pb < b ∧ b < n ∧ T.get H b = some (one [.ptr pb 0])
theorem Bxs.fr {G : Roms} {H H' : Heap} {n n' pb : Nat} {s' : S} {bs : List Nat} (h : Bxs H n pb bs) (y : Fr G pb H n H' n' s') : Bxs H' n' pb bs := fun b hb => by
  obtain ⟨h1, h2, h3⟩ := h b hb
  exact ⟨h1, Nat.lt_of_lt_of_le h2 y.le, y.get h3 h2 h1⟩
theorem Bxs.nil {H : Heap} {n pb : Nat} : Bxs H n pb [] := fun _ h => by cases h
/- a function, as a value, that makes an expression -/
def FnC (G : Roms) (pb : Nat) (bs : List Nat) (m : PM Ex) (v : V) : Prop := ∀ (s : S) (H : Heap) (n : Nat) (s' : S) (e : Ex) (k : KV), PAt G H pb s → pb < n → Bxs H n pb bs → m s = some (e, s') → ExK G pb H n s' e k → callvV v [] (Runs F G) H n k
theorem bv_ex1 {kd : Nat} {x y : V} {id o l c : Nat} : buildV exZ [(0, 1, .c (.int .i64 (.ofNat kd) 0)), (1, 2, .c (.agg [x, y])), (7, 1, .c (.sl id o l c 11))] =
    some (.agg [.int .i64 (.ofNat kd) 0, x, y, .int .i64 (.ofNat 0) 0, .str 0 0, .str 0 0, .bool false, .sl id o l c 11, .str 0 0, .bool false, .str 0 0]) := rfl
section
variable {G : Roms} {H : Heap} {n pb : Nat} {s s' : S} {k : KV}
/- a box is copied into the result's box, which is handed back -/
theorem ex_out {H0 H : Heap} {n0 n r b : Nat} {c L0 : LV} {e : Ex} {A : Nat → Prop} (x : Fr G pb H0 n0 H n s') (gr : T.get H r = some (one L0)) (hl : L0.length = 11) (gb : T.get H b = some (one c)) (hr : n0 ≤ r) (he : ExAt G H A c e)
    (hA : ∀ id, A id → n0 ≤ id ∧ id < n ∧ id ≠ r) (hk : ExK G pb H0 n0 s' e k) :
    onV (ldnV 11 (.ptr b 0) G H) fun v6 => stV 11 (.ptr r 0) v6 H n fun _ H n => onO (getVs [.cn (.ptr r 0) 11] G H) fun l => k (oneV l) H n := by
  rw [ldn_all (m := 11) gb (by omega) he.len, s_onV]
  refine a_stA gr hl he.len (by omega) fun H1 g1 s1 => ?_
  rw [getVs_cn (m := 11) g1 (by omega) he.len]
  simp only [go_sem]
  exact hk _ _ _ (x.st hr s1) (he.mono (fun id h => ⟨(hA id h).1, (hA id h).2.1⟩) fun id h => s1 id (hA id h).2.2)
theorem Either_c {bs : List Nat} {m : PM Ex} {v : V} {kd f : Nat} {w : Bs} {e : Ex} (hf : FnC G pb bs m v) (hbs : Bxs H n pb bs) (h : PAt G H pb s) (hb : pb < n) (hm : either kd w m f s = some (e, s')) (hk : ExK G pb H n s' e k) :
    Runs F G n_parse_parser_either [.ptr pb 0, .int .i64 (.ofNat kd) 0, sB w, v] H n k := by
  refine runs_s (s := ar4 (s_parse_parser_either lfp G)) at_parse_parser_either (by obtain ⟨h, o⟩ := si_parse_parser_either lfp_ok G; rw [at_parse_parser_either] at h; cases h; exact o) ?_
  show s_parse_parser_either lfp G (Runs F G) (.ptr pb 0) (.int .i64 (.ofNat kd) 0) (sB w) v H n k
  delta s_parse_parser_either
  have x := Fr.refl h hb
  refine a_alloc rfl fun H1 f1 g1 => ?_
  have x := x.al f1
  unfold either at hm
  rw [Option.bind_eq_some_iff] at hm
  obtain ⟨⟨e1, s1⟩, h1, hm⟩ := hm
  have hm : eitherL kd w m f e1 s1 = some (e, s') := hm
  refine hf s H1 (n + 1) s1 e1 _ x.p x.lt (hbs.fr x) h1 fun H2 n2 c y hx => ?_
  have x := x.tr y
  have g1 := y.get g1 (by omega) hb
  have hn2 := y.le
  refine a_alloc rfl fun H3 f3 g3 => ?_
  have x := x.al f3
  have g1 := f3.get g1 (by omega)
  refine a_stA g3 rfl hx.len (by omega) fun H4 g4 s4 => ?_
  have x := x.st (by omega) s4
  have g1 := (s4 n (by omega)).trans g1
  have hx : ExAt G H4 (Al n (n2 + 1) n2) c e1 := hx.mono (fun id h => ⟨by have := h.1; omega, by have := h.2; omega, by have := h.2; omega⟩) fun id h => (s4 id (by have := h.2; omega)).trans (f3.same id h.2)
  refine lfp_rule (J := fun g q => ∃ H' n' t c e1, q = (.ptr pb 0, .int .i64 (.ofNat kd) 0, sB w, v, .ptr n 0, .ptr n2 0, H', n') ∧ Fr G pb H n H' n' t ∧ n2 < n' ∧ T.get H' n = some (one exZ) ∧ T.get H' n2 = some (one c) ∧ ExAt G H' (Al n n' n2) c e1 ∧ eitherL kd w m g e1 t = some (e, s')) ?_ (m := f)
    ⟨H4, n2 + 1, s1, c, e1, rfl, x, by omega, g1, g4, hx, hm⟩
  rintro I g q ⟨H5, n5, t, c, e1, rfl, x, hn5, g1, g4, hx, hm⟩ ih
  show s_parse_parser_either_l8 lfp G (Runs F G) k I (.ptr pb 0) (.int .i64 (.ofNat kd) 0) (sB w) v (.ptr n 0) (.ptr n2 0) H5 n5
  delta s_parse_parser_either_l8
  cases g with
  | zero => cases hm
  | succ g =>
    have hm : (bif isT [w] t then (nextS t).bind fun s1 => (m s1).bind fun p => eitherL kd w m g (.mk kd 0 [] [] false [e1, p.1]) p.2 else some (e1, t)) = some (e, s') := hm
    refine IsL_c (ws := [w]) x.p x.lt rfl (by show 1 ≤ 1000; omega) fun H6 n6 y => ?_
    have x := x.tr y
    have hn6 := y.le
    have g1 := y.get g1 (by omega) hb
    have g4 := y.get g4 (by omega) (by omega)
    have hx : ExAt G H6 (Al n n6 n2) c e1 := hx.mono (fun id h => ⟨h.1, by have := h.2.1; omega, h.2.2⟩) fun id h => y.f.same id h.2.1 (by have := h.1; omega)
    cases hi : isT [w] t with
    | false =>
      rw [hi] at hm
      cases hm
      simp only [go_sem]
      delta s_parse_parser_either_j5
      exact ex_out x g1 rfl g4 (Nat.le_refl _) hx (fun id h => ⟨by have := h.1; omega, h.2.1, by have := h.1; omega⟩) hk
    | true =>
      rw [hi, cond_true, Option.bind_eq_some_iff] at hm
      obtain ⟨t1, h1, hm⟩ := hm
      rw [Option.bind_eq_some_iff] at hm
      obtain ⟨⟨e2, t2⟩, h2, hm⟩ := hm
      rw [s_tstT]
      refine Next_p x.p x.lt h1 fun H7 n7 line col _ _ y => ?_
      have x := x.tr y
      have hn7 := y.le
      have g1 := y.get g1 (by omega) hb
      have g4 := y.get g4 (by omega) (by omega)
      have hx : ExAt G H7 (Al n n7 n2) c e1 := hx.mono (fun id h => ⟨h.1, by have := h.2.1; omega, h.2.2⟩) fun id h => y.f.same id h.2.1 (by have := h.1; omega)
      rw [show fldn 3 2 (.agg (tokC t.t line col)) = some (.agg [.int .i64 (.ofNat line) 0, .int .i64 (.ofNat col) 0]) from rfl, s_onV]
      refine a_alloc rfl fun H8 f8 g8 => ?_
      have x := x.al f8
      refine a_stA g8 rfl (L := [.int .i64 (.ofNat line) 0, .int .i64 (.ofNat col) 0]) rfl (by omega) fun H9 g9 s9 => ?_
      have x := x.st (by omega) s9
      have g1 := (s9 n (by omega)).trans (f8.get g1 (by omega))
      have g4 := (s9 n2 (by omega)).trans (f8.get g4 (by omega))
      have hx : ExAt G H9 (Al n n7 n2) c e1 := hx.mono (fun id h => h) fun id h => (s9 id (by have := h.2.1; omega)).trans (f8.same id h.2.1)
      rw [ldn_all (m := 2) g9 (by omega) rfl, s_onV, ldn_all (m := 11) g4 (by omega) hx.len, s_onV]
      refine hf _ H9 (n7 + 1) _ _ _ x.p x.lt (hbs.fr x) h2 fun H10 n10 c2 y hx2 => ?_
      have x := x.tr y
      have hn10 := y.le
      have g1 := y.get g1 (by omega) hb
      have g4 := y.get g4 (by omega) (by omega)
      have g9 := y.get g9 (by omega) (by omega)
      rw [ldn_all (m := 2) g9 (by omega) rfl, s_onV, ldn_all (m := 11) g4 (by omega) hx.len]
      refine re_ok (vs_pos ..) (re_ok hx.vs ?_)
      refine a_bsl (G := G) (vs := [.agg c, .agg c2]) rfl (by omega) (fun v hv => by simp at hv; rcases hv with rfl | rfl; exact ⟨rfl, hx.len⟩; exact ⟨rfl, hx2.len⟩) fun H11 f11 _ hel => ?_
      have x := x.al f11
      have g1 := f11.get g1 (by omega)
      have g4 := f11.get g4 (by omega)
      rw [bv_ex1, s_onV]
      refine a_stA g4 hx.len rfl (by omega) fun H12 g12 s12 => ?_
      have x := x.st (by omega) s12
      refine ih g _ (by omega) ⟨H12, n10 + 1, t2, _, .mk kd 0 [] [] false [e1, e2], rfl, x, by omega, (s12 n (by omega)).trans g1, g12, ?_, hm⟩
      refine .mk kd 0 [] [] false line col (hel.same fun id hid => s12 id (by cases sidSl hid; omega)) (vs_sl ..) (fun id hid => ⟨by cases sidSl hid; omega, by cases sidSl hid; omega, by cases sidSl hid; omega⟩) ?_
      refine .cons (hx.mono (fun id h => ⟨h.1, by have := h.2.1; omega, h.2.2⟩) fun id h => ?_) (.cons (hx2.mono (fun id h => ⟨by have := h.1; omega, by have := h.2; omega, by have := h.1; omega⟩) fun id h => ?_) .nil)
      · have h1 := h.1; have h2 := h.2.1
        exact (s12 id h.2.2).trans ((f11.same id (by omega)).trans (y.f.same id (by omega) (by omega)))
      · have h1 := h.1; have h2 := h.2
        exact (s12 id (by omega)).trans (f11.same id h2)
end
end Go.PQ

/- Contracts of the parser, fourth part: parts with one of some signs between; two that are compared. -/
namespace Go.PQ
open Go.Eng
set_option maxRecDepth 100000
theorem bv_ex2 {kd : Nat} {x y : V} {nm : Bs} {id o l c : Nat} : buildV exZ [(0, 1, .c (.int .i64 (.ofNat kd) 0)), (1, 2, .c (.agg [x, y])), (4, 1, .c (sB nm)), (7, 1, .c (.sl id o l c 11))] =
    some (.agg [.int .i64 (.ofNat kd) 0, x, y, .int .i64 (.ofNat 0) 0, sB nm, .str 0 0, .bool false, .sl id o l c 11, .str 0 0, .bool false, .str 0 0]) := rfl
section
variable {G : Roms} {H : Heap} {n pb : Nat} {s s' : S} {k : KV}
theorem ex_res {H0 H : Heap} {n0 n r : Nat} {c L0 : LV} {e : Ex} {A : Nat → Prop} (x : Fr G pb H0 n0 H n s') (gr : T.get H r = some (one L0)) (hl : L0.length = 11) (hr : n0 ≤ r) (he : ExAt G H A c e)
    (hA : ∀ id, A id → n0 ≤ id ∧ id < n ∧ id ≠ r) (hk : ExK G pb H0 n0 s' e k) :
    stV 11 (.ptr r 0) (.agg c) H n fun _ H n => onO (getVs [.cn (.ptr r 0) 11] G H) fun l => k (oneV l) H n := by
  refine a_stA gr hl he.len (by omega) fun H1 g1 s1 => ?_
  rw [getVs_cn (m := 11) g1 (by omega) he.len]
  simp only [go_sem]
  exact hk _ _ _ (x.st hr s1) (he.mono (fun id h => ⟨(hA id h).1, (hA id h).2.1⟩) fun id h => s1 id (hA id h).2.2)
theorem Signs_c {bs : List Nat} {ws : List Bs} {m : PM Ex} {v : V} {i o l cp f : Nat} {e : Ex} (hf : FnC G pb bs m v) (hbs : Bxs H n pb bs) (hv : El G H (.sl i o l cp 1) 1 (wsC ws)) (hin : i < n) (hip : pb < i) (hw : ws.length ≤ 1000)
    (h : PAt G H pb s) (hb : pb < n) (hm : signs ws m f s = some (e, s')) (hk : ExK G pb H n s' e k) :
    Runs F G n_parse_parser_signs [.ptr pb 0, v, .sl i o l cp 1] H n k := by
  refine runs_s (s := ar3 (s_parse_parser_signs lfp G)) at_parse_parser_signs (by obtain ⟨h, o⟩ := si_parse_parser_signs lfp_ok G; rw [at_parse_parser_signs] at h; cases h; exact o) ?_
  show s_parse_parser_signs lfp G (Runs F G) (.ptr pb 0) v (.sl i o l cp 1) H n k
  delta s_parse_parser_signs
  have x := Fr.refl h hb
  refine a_alloc rfl fun H1 f1 g1 => ?_
  have x := x.al f1
  unfold signs at hm
  rw [Option.bind_eq_some_iff] at hm
  obtain ⟨⟨e1, s1⟩, h1, hm⟩ := hm
  have hm : signsL ws m f e1 s1 = some (e, s') := hm
  refine hf s H1 (n + 1) s1 e1 _ x.p x.lt (hbs.fr x) h1 fun H2 n2 c y hx => ?_
  have x := x.tr y
  have g1 := y.get g1 (by omega) hb
  have hn2 := y.le
  refine a_alloc rfl fun H3 f3 g3 => ?_
  have x := x.al f3
  have g1 := f3.get g1 (by omega)
  refine a_stA g3 rfl hx.len (by omega) fun H4 g4 s4 => ?_
  have x := x.st (by omega) s4
  have g1 := (s4 n (by omega)).trans g1
  have hx : ExAt G H4 (Al n (n2 + 1) n2) c e1 := hx.mono (fun id h => ⟨by have := h.1; omega, by have := h.2; omega, by have := h.2; omega⟩) fun id h => (s4 id (by have := h.2; omega)).trans (f3.same id h.2)
  refine lfp_rule (J := fun g q => ∃ H' n' t c e1, q = (.ptr pb 0, v, .sl i o l cp 1, .ptr n 0, .ptr n2 0, H', n') ∧ Fr G pb H n H' n' t ∧ n2 < n' ∧ T.get H' n = some (one exZ) ∧ T.get H' n2 = some (one c) ∧ ExAt G H' (Al n n' n2) c e1 ∧ signsL ws m g e1 t = some (e, s')) ?_ (m := f)
    ⟨H4, n2 + 1, s1, c, e1, rfl, x, by omega, g1, g4, hx, hm⟩
  rintro I g q ⟨H5, n5, t, c, e1, rfl, x, hn5, g1, g4, hx, hm⟩ ih
  show s_parse_parser_signs_l8 lfp G (Runs F G) k I (.ptr pb 0) v (.sl i o l cp 1) (.ptr n 0) (.ptr n2 0) H5 n5
  delta s_parse_parser_signs_l8
  cases g with
  | zero => cases hm
  | succ g =>
    have hm : (bif isT ws t then (nextS t).bind fun s1 => (m s1).bind fun p => signsL ws m g (.mk 16 0 t.t.text [] false [e1, p.1]) p.2 else some (e1, t)) = some (e, s') := hm
    refine Is_c x.p (hv.same fun j hj => by cases sidSl hj; exact x.f.same _ hin (by omega)) hw ?_
    cases hi : isT ws t with
    | false =>
      rw [hi] at hm
      cases hm
      rw [s_tstF]
      delta s_parse_parser_signs_j5
      exact ex_out x g1 rfl g4 (Nat.le_refl _) hx (fun id h => ⟨by have := h.1; omega, h.2.1, by have := h.1; omega⟩) hk
    | true =>
      rw [hi, cond_true, Option.bind_eq_some_iff] at hm
      obtain ⟨t1, h1, hm⟩ := hm
      rw [Option.bind_eq_some_iff] at hm
      obtain ⟨⟨e2, t2⟩, h2, hm⟩ := hm
      rw [s_tstT]
      refine Next_p x.p x.lt h1 fun H7 n7 line col _ _ y => ?_
      have x := x.tr y
      have hn7 := y.le
      have g1 := y.get g1 (by omega) hb
      have g4 := y.get g4 (by omega) (by omega)
      have hx : ExAt G H7 (Al n n7 n2) c e1 := hx.mono (fun id h => ⟨h.1, by have := h.2.1; omega, h.2.2⟩) fun id h => y.f.same id h.2.1 (by have := h.1; omega)
      refine a_alloc rfl fun H8 f8 g8 => ?_
      have x := x.al f8
      refine a_stA g8 rfl (L := tokC t.t line col) rfl (by omega) fun H9 g9 s9 => ?_
      have x := x.st (by omega) s9
      have g1 := (s9 n (by omega)).trans (f8.get g1 (by omega))
      have g4 := (s9 n2 (by omega)).trans (f8.get g4 (by omega))
      have hx : ExAt G H9 (Al n n7 n2) c e1 := hx.mono (fun id h => h) fun id h => (s9 id (by have := h.2.1; omega)).trans (f8.same id h.2.1)
      rw [s_padd, s_onV, s_padd]
      simp only [Nat.zero_add]
      rw [ldn_mid (m := 2) (o := 3) g9 (by omega) (by show 3 + 2 ≤ 5; omega), s_onV, s_onV, ld1_one (off := 1) g9 (v := sB t.t.text) rfl, s_onV, ldn_all (m := 11) g4 (by omega) hx.len, s_onV]
      refine hf _ H9 (n7 + 1) _ _ _ x.p x.lt (hbs.fr x) h2 fun H10 n10 c2 y hx2 => ?_
      have x := x.tr y
      have hn10 := y.le
      have g1 := y.get g1 (by omega) hb
      have g4 := y.get g4 (by omega) (by omega)
      have g9 := y.get g9 (by omega) (by omega)
      rw [ldn_mid (m := 2) (o := 3) g9 (by omega) (by show 3 + 2 ≤ 5; omega), s_onV, ld1_one (off := 1) g9 (v := sB t.t.text) rfl, s_onV, ldn_all (m := 11) g4 (by omega) hx.len]
      refine re_ok (vs_pos ..) (re_ok (vs_sB _) (re_ok hx.vs ?_))
      refine a_bsl (G := G) (vs := [.agg c, .agg c2]) rfl (by omega) (fun v hv => by simp at hv; rcases hv with rfl | rfl; exact ⟨rfl, hx.len⟩; exact ⟨rfl, hx2.len⟩) fun H11 f11 _ hel => ?_
      have x := x.al f11
      have g1 := f11.get g1 (by omega)
      have g4 := f11.get g4 (by omega)
      refine (show ∀ {P : V → Prop}, P _ → onV (buildV exZ [(0, 1, .c (.int .i64 (.ofNat 16) 0)), (1, 2, .c (.agg [.int .i64 (.ofNat line) 0, .int .i64 (.ofNat col) 0])), (4, 1, .c (sB t.t.text)), (7, 1, .c (.sl n10 0 2 2 11))]) P from fun h => by rw [bv_ex2]; exact h) ?_
      refine a_stA g4 hx.len rfl (by omega) fun H12 g12 s12 => ?_
      have x := x.st (by omega) s12
      refine ih g _ (by omega) ⟨H12, n10 + 1, t2, _, .mk 16 0 t.t.text [] false [e1, e2], rfl, x, by omega, (s12 n (by omega)).trans g1, g12, ?_, hm⟩
      refine .mk 16 0 t.t.text [] false line col (hel.same fun id hid => s12 id (by cases sidSl hid; omega)) (vs_sl ..) (fun id hid => ⟨by cases sidSl hid; omega, by cases sidSl hid; omega, by cases sidSl hid; omega⟩) ?_
      refine .cons (hx.mono (fun id h => ⟨h.1, by have := h.2.1; omega, h.2.2⟩) fun id h => ?_) (.cons (hx2.mono (fun id h => ⟨by have := h.1; omega, by have := h.2; omega, by have := h.1; omega⟩) fun id h => ?_) .nil)
      · have h1 := h.1; have h2 := h.2.1
        exact (s12 id h.2.2).trans ((f11.same id (by omega)).trans (y.f.same id (by omega) (by omega)))
      · have h1 := h.1; have h2 := h.2
        exact (s12 id (by omega)).trans (f11.same id h2)
end
end Go.PQ

/- Contracts of the parser, fifth part: sums, and two that are compared. -/
namespace Go.PQ
open Go.Eng
set_option maxRecDepth 100000
section
variable {G : Roms} {pb : Nat}
theorem one1 {H : Heap} {n b : Nat} (h : Bxs H n pb [b]) : pb < b ∧ b < n ∧ T.get H b = some (one [.ptr pb 0]) := h b (List.mem_cons_self ..)
theorem Prod_c {un : PM Ex} {f b : Nat} (hf : FnC G pb [] un (.fn n_parse_parser_unary [.ptr pb 0] [])) : FnC G pb [b] (signs [m_star, m_slash, m_rem] un f) (.fn n_parse_parser_compared_1_1 [] [.ptr b 0]) := by
  intro s H n s' e k h hb hbs hm hk
  rw [s_callv]
  show Runs F G n_parse_parser_compared_1_1 [.ptr b 0] H n k
  refine runs_s (s := ar1 (s_parse_parser_compared_1_1 lfp G)) at_parse_parser_compared_1_1 (by obtain ⟨h, o⟩ := si_parse_parser_compared_1_1 lfp_ok G; rw [at_parse_parser_compared_1_1] at h; cases h; exact o) ?_
  show s_parse_parser_compared_1_1 lfp G (Runs F G) (.ptr b 0) H n k
  delta s_parse_parser_compared_1_1
  obtain ⟨b1, b2, b3⟩ := one1 hbs
  have x := Fr.refl h hb
  refine a_alloc rfl fun H1 f1 g1 => ?_
  have x := x.al f1
  have b3 := f1.get b3 b2
  have q : ld1V (.ptr b 0) G H1 = some (.ptr pb 0) := ld1_one b3 rfl
  rw [q, s_onV, s_onV]
  refine a_words (G := G) (ws := [m_star, m_slash, m_rem]) rfl fun H2 f2 hel => ?_
  have x := x.al f2
  have g1 := f2.get g1 (by omega)
  refine Signs_c hf Bxs.nil hel (by omega) (by omega) (by show 3 ≤ 1000; omega) x.p x.lt hm fun H3 n3 c y hx => ?_
  have hn := y.le
  exact ex_res (x.tr y) (y.get g1 (by omega) hb) rfl (Nat.le_refl _) hx (fun id h => ⟨by have := h.1; omega, h.2, by have := h.1; omega⟩) hk
theorem Sum_c {un : PM Ex} {f b : Nat} (hf : FnC G pb [] un (.fn n_parse_parser_unary [.ptr pb 0] [])) : FnC G pb [b] (sumP un f) (.fn n_parse_parser_compared_1 [] [.ptr b 0]) := by
  intro s H n s' e k h hb hbs hm hk
  rw [s_callv]
  show Runs F G n_parse_parser_compared_1 [.ptr b 0] H n k
  refine runs_s (s := ar1 (s_parse_parser_compared_1 lfp G)) at_parse_parser_compared_1 (by obtain ⟨h, o⟩ := si_parse_parser_compared_1 lfp_ok G; rw [at_parse_parser_compared_1] at h; cases h; exact o) ?_
  show s_parse_parser_compared_1 lfp G (Runs F G) (.ptr b 0) H n k
  delta s_parse_parser_compared_1
  obtain ⟨b1, b2, b3⟩ := one1 hbs
  have x := Fr.refl h hb
  refine a_alloc rfl fun H1 f1 g1 => ?_
  have x := x.al f1
  have b3 := f1.get b3 b2
  have q : ld1V (.ptr b 0) G H1 = some (.ptr pb 0) := ld1_one b3 rfl
  rw [q, s_onV]
  refine a_words (G := G) (ws := [m_plus, m_minus]) rfl fun H2 f2 hel => ?_
  have x := x.al f2
  have g1 := f2.get g1 (by omega)
  refine Signs_c (Prod_c hf) (fun j hj => by simp at hj; subst hj; exact ⟨b1, by omega, f2.get b3 (by omega)⟩) hel (by omega) (by omega) (by show 2 ≤ 1000; omega) x.p x.lt hm fun H3 n3 c y hx => ?_
  have hn := y.le
  exact ex_res (x.tr y) (y.get g1 (by omega) hb) rfl (Nat.le_refl _) hx (fun id h => ⟨by have := h.1; omega, h.2, by have := h.1; omega⟩) hk
theorem Compared_c {un : PM Ex} {f : Nat} (hf : FnC G pb [] un (.fn n_parse_parser_unary [.ptr pb 0] [])) : FnC G pb [] (compared un f) (.fn n_parse_parser_compared [.ptr pb 0] []) := by
  intro s H n s' e k h hb hbs hm hk
  rw [s_callv]
  show Runs F G n_parse_parser_compared [.ptr pb 0] H n k
  refine runs_s (s := ar1 (s_parse_parser_compared lfp G)) at_parse_parser_compared (by obtain ⟨h, o⟩ := si_parse_parser_compared lfp_ok G; rw [at_parse_parser_compared] at h; cases h; exact o) ?_
  show s_parse_parser_compared lfp G (Runs F G) (.ptr pb 0) H n k
  delta s_parse_parser_compared
  unfold compared at hm
  rw [Option.bind_eq_some_iff] at hm
  obtain ⟨⟨e1, t⟩, h1, hm⟩ := hm
  have hm : (bif isT [m_eqeq, m_neq, m_less, m_leq] t then (nextS t).bind fun s1 => (sumP un f s1).bind fun q => some (.mk 16 0 t.t.text [] false [e1, q.1], q.2) else some (e1, t)) = some (e, s') := hm
  have x := Fr.refl h hb
  refine a_box rfl fun H0 f0 g0 => ?_
  have x := x.al f0
  have g0 : T.get H0 n = some (one [.ptr pb 0]) := g0
  refine a_alloc rfl fun H1 f1 g1 => ?_
  have x := x.al f1
  have g0 := f1.get g0 (by omega)
  refine Sum_c (b := n) hf _ H1 (n + 1 + 1) _ _ _ x.p x.lt (fun j hj => by simp at hj; subst hj; exact ⟨hb, by omega, g0⟩) h1 fun H2 n2 c y hx => ?_
  have x := x.tr y
  have g0 := y.get g0 (by omega) hb
  have g1 := y.get g1 (by omega) (by omega)
  have hn2 := y.le
  refine a_alloc rfl fun H3 f3 g3 => ?_
  have x := x.al f3
  have g0 := f3.get g0 (by omega)
  have g1 := f3.get g1 (by omega)
  refine a_stA g3 rfl hx.len (by omega) fun H4 g4 s4 => ?_
  have x := x.st (by omega) s4
  have g0 := (s4 n (by omega)).trans g0
  have g1 := (s4 (n + 1) (by omega)).trans g1
  have hx : ExAt G H4 (Al (n + 1) (n2 + 1) n2) c e1 := hx.mono (fun id h => ⟨by have := h.1; omega, by have := h.2; omega, by have := h.2; omega⟩) fun id h => (s4 id (by have := h.2; omega)).trans (f3.same id h.2)
  have q : ld1V (.ptr n 0) G H4 = some (.ptr pb 0) := ld1_one g0 rfl
  rw [q, s_onV]
  refine IsL_c (ws := [m_eqeq, m_neq, m_less, m_leq]) x.p x.lt rfl (by show 4 ≤ 1000; omega) fun H6 n6 y => ?_
  have x := x.tr y
  have hn6 := y.le
  have g0 := y.get g0 (by omega) hb
  have g1 := y.get g1 (by omega) (by omega)
  have g4 := y.get g4 (by omega) (by omega)
  have hx : ExAt G H6 (Al (n + 1) n6 n2) c e1 := hx.mono (fun id h => ⟨h.1, by have := h.2.1; omega, h.2.2⟩) fun id h => y.f.same id h.2.1 (by have := h.1; omega)
  cases hi : isT [m_eqeq, m_neq, m_less, m_leq] t with
  | false =>
    rw [hi] at hm
    cases hm
    rw [s_tstF]
    delta s_parse_parser_compared_j6
    exact ex_out x g1 rfl g4 (by omega) hx (fun id h => ⟨by have := h.1; omega, h.2.1, by have := h.1; omega⟩) hk
  | true =>
    rw [hi, cond_true, Option.bind_eq_some_iff] at hm
    obtain ⟨t1, h1, hm⟩ := hm
    rw [Option.bind_eq_some_iff] at hm
    obtain ⟨⟨e2, t2⟩, h2, hm⟩ := hm
    cases hm
    have q : ld1V (.ptr n 0) G H6 = some (.ptr pb 0) := ld1_one g0 rfl
    rw [s_tstT, q, s_onV]
    refine Next_p x.p x.lt h1 fun H7 n7 line col _ _ y => ?_
    have x := x.tr y
    have hn7 := y.le
    have g0 := y.get g0 (by omega) hb
    have g1 := y.get g1 (by omega) (by omega)
    have g4 := y.get g4 (by omega) (by omega)
    have hx : ExAt G H7 (Al (n + 1) n7 n2) c e1 := hx.mono (fun id h => ⟨h.1, by have := h.2.1; omega, h.2.2⟩) fun id h => y.f.same id h.2.1 (by have := h.1; omega)
    refine a_alloc rfl fun H8 f8 g8 => ?_
    have x := x.al f8
    refine a_stA g8 rfl (L := tokC t.t line col) rfl (by omega) fun H9 g9 s9 => ?_
    have x := x.st (by omega) s9
    have g0 := (s9 n (by omega)).trans (f8.get g0 (by omega))
    have g1 := (s9 (n + 1) (by omega)).trans (f8.get g1 (by omega))
    have g4 := (s9 n2 (by omega)).trans (f8.get g4 (by omega))
    have hx : ExAt G H9 (Al (n + 1) n7 n2) c e1 := hx.mono (fun id h => h) fun id h => (s9 id (by have := h.2.1; omega)).trans (f8.same id h.2.1)
    rw [s_padd, s_onV, s_padd]
    simp only [Nat.zero_add]
    rw [ldn_mid (m := 2) (o := 3) g9 (by omega) (by show 3 + 2 ≤ 5; omega), s_onV, s_onV, ld1_one (off := 1) g9 (v := sB t.t.text) rfl, s_onV, ldn_all (m := 11) g4 (by omega) hx.len, s_onV]
    refine Sum_c (b := n) hf _ H9 (n7 + 1) _ _ _ x.p x.lt (fun j hj => by simp at hj; subst hj; exact ⟨hb, by omega, g0⟩) h2 fun H10 n10 c2 y hx2 => ?_
    have x := x.tr y
    have hn10 := y.le
    have g1 := y.get g1 (by omega) (by omega)
    have g4 := y.get g4 (by omega) (by omega)
    have g9 := y.get g9 (by omega) (by omega)
    rw [ldn_mid (m := 2) (o := 3) g9 (by omega) (by show 3 + 2 ≤ 5; omega), s_onV, ld1_one (off := 1) g9 (v := sB t.t.text) rfl, s_onV, ldn_all (m := 11) g4 (by omega) hx.len]
    refine re_ok (vs_pos ..) (re_ok (vs_sB _) (re_ok hx.vs ?_))
    refine a_bsl (G := G) (vs := [.agg c, .agg c2]) rfl (by omega) (fun v hv => by simp at hv; rcases hv with rfl | rfl; exact ⟨rfl, hx.len⟩; exact ⟨rfl, hx2.len⟩) fun H11 f11 _ hel => ?_
    have x := x.al f11
    have g1 := f11.get g1 (by omega)
    have g4 := f11.get g4 (by omega)
    refine (show ∀ {P : V → Prop}, P _ → onV (buildV exZ [(0, 1, .c (.int .i64 (.ofNat 16) 0)), (1, 2, .c (.agg [.int .i64 (.ofNat line) 0, .int .i64 (.ofNat col) 0])), (4, 1, .c (sB t.t.text)), (7, 1, .c (.sl n10 0 2 2 11))]) P from fun h => by rw [bv_ex2]; exact h) ?_
    refine a_stA g4 hx.len rfl (by omega) fun H12 g12 s12 => ?_
    have x := x.st (by omega) s12
    delta s_parse_parser_compared_j6
    refine ex_out (A := Al (n + 1) (n10 + 1) n2) (e := .mk 16 0 t.t.text [] false [e1, e2]) x ((s12 (n + 1) (by omega)).trans g1) rfl g12 (by omega) ?_ (fun id h => ⟨by have := h.1; omega, h.2.1, by have := h.1; omega⟩) hk
    refine .mk 16 0 t.t.text [] false line col (hel.same fun id hid => s12 id (by cases sidSl hid; omega)) (vs_sl ..) (fun id hid => ⟨by cases sidSl hid; omega, by cases sidSl hid; omega, by cases sidSl hid; omega⟩) ?_
    refine .cons (hx.mono (fun id h => ⟨h.1, by have := h.2.1; omega, h.2.2⟩) fun id h => ?_) (.cons (hx2.mono (fun id h => ⟨by have := h.1; omega, by have := h.2; omega, by have := h.1; omega⟩) fun id h => ?_) .nil)
    · have h1 := h.1; have h2 := h.2.1
      exact (s12 id h.2.2).trans ((f11.same id (by omega)).trans (y.f.same id (by omega) (by omega)))
    · have h1 := h.1; have h2 := h.2
      exact (s12 id (by omega)).trans (f11.same id h2)
theorem Expr1_c {un : PM Ex} {f b : Nat} (hf : FnC G pb [] un (.fn n_parse_parser_unary [.ptr pb 0] [])) : FnC G pb [b] (either 17 m_and (compared un f) f) (.fn n_parse_parser_expr_1 [] [.ptr b 0]) := by
  intro s H n s' e k h hb hbs hm hk
  rw [s_callv]
  show Runs F G n_parse_parser_expr_1 [.ptr b 0] H n k
  refine runs_s (s := ar1 (s_parse_parser_expr_1 lfp G)) at_parse_parser_expr_1 (by obtain ⟨h, o⟩ := si_parse_parser_expr_1 lfp_ok G; rw [at_parse_parser_expr_1] at h; cases h; exact o) ?_
  show s_parse_parser_expr_1 lfp G (Runs F G) (.ptr b 0) H n k
  delta s_parse_parser_expr_1
  obtain ⟨b1, b2, b3⟩ := one1 hbs
  have x := Fr.refl h hb
  refine a_alloc rfl fun H1 f1 g1 => ?_
  have x := x.al f1
  have b3 := f1.get b3 b2
  have q : ld1V (.ptr b 0) G H1 = some (.ptr pb 0) := ld1_one b3 rfl
  rw [q, s_onV, s_onV, d_and]
  refine Either_c (Compared_c hf) Bxs.nil x.p x.lt hm fun H3 n3 c y hx => ?_
  have hn := y.le
  exact ex_res (x.tr y) (y.get g1 (by omega) hb) rfl (Nat.le_refl _) hx (fun id h => ⟨by have := h.1; omega, h.2, by have := h.1; omega⟩) hk
/- a whole expression, if the parts with signs ahead of them are known -/
theorem ExprF_c {rec : PM Ex} {f : Nat} {s s' : S} {H : Heap} {n : Nat} {e : Ex} {k : KV} (hf : FnC G pb [] (unary rec f) (.fn n_parse_parser_unary [.ptr pb 0] [])) (h : PAt G H pb s) (hb : pb < n) (hm : exprF rec f s = some (e, s')) (hk : ExK G pb H n s' e k) :
    Runs F G n_parse_parser_expr [.ptr pb 0] H n k := by
  refine runs_s (s := ar1 (s_parse_parser_expr lfp G)) at_parse_parser_expr (by obtain ⟨h, o⟩ := si_parse_parser_expr lfp_ok G; rw [at_parse_parser_expr] at h; cases h; exact o) ?_
  show s_parse_parser_expr lfp G (Runs F G) (.ptr pb 0) H n k
  delta s_parse_parser_expr
  unfold exprF at hm
  rw [Option.bind_eq_some_iff] at hm
  obtain ⟨s1, h1, hm⟩ := hm
  rw [Option.bind_eq_some_iff] at hm
  obtain ⟨⟨e1, s2⟩, h2, hm⟩ := hm
  rw [Option.bind_eq_some_iff] at hm
  obtain ⟨s3, h3, hm⟩ := hm
  cases hm
  have x := Fr.refl h hb
  refine a_box rfl fun H0 f0 g0 => ?_
  have x := x.al f0
  have g0 : T.get H0 n = some (one [.ptr pb 0]) := g0
  refine a_alloc rfl fun H1 f1 g1 => ?_
  have x := x.al f1
  have g0 := f1.get g0 (by omega)
  have q : ld1V (.ptr n 0) G H1 = some (.ptr pb 0) := ld1_one g0 rfl
  rw [q, s_onV]
  refine Down_c x.p x.lt h1 fun H2 n2 q y hq1 hq2 hq3 => ?_
  have x := x.tr y
  have g0 := y.get g0 (by omega) hb
  have g1 := y.get g1 (by omega) (by omega)
  rw [s_defer]
  have q' : ld1V (.ptr n 0) G H2 = some (.ptr pb 0) := ld1_one g0 rfl
  rw [q', s_onV, d_or]
  refine Either_c (Expr1_c (b := n) hf) (fun j hj => by simp at hj; subst hj; exact ⟨hb, by omega, g0⟩) x.p x.lt h2 fun H3 n3 c y hx => ?_
  have x := x.tr y
  have g1 := y.get g1 (by omega) (by omega)
  have hq3 := y.get hq3 hq2 (by omega)
  have hn3 := y.le
  refine a_stA g1 rfl hx.len (by omega) fun H4 g4 s4 => ?_
  have x := x.st (by omega) s4
  have hx : ExAt G H4 (Rg n2 n3) c e1 := hx.mono (fun id h => h) fun id h => s4 id (by have := h.1; omega)
  refine Up_c x.p x.lt ((s4 q (by omega)).trans hq3) h3 fun H5 n5 y => ?_
  have x := x.tr y
  have g4 := y.get g4 (by omega) (by omega)
  have hn5 := y.le
  rw [getVs_cn (m := 11) g4 (by omega) hx.len]
  simp only [go_sem]
  exact hk _ _ _ x (hx.mono (fun id h => ⟨by have := h.1; omega, by have := h.2; omega⟩) fun id h => y.f.same id h.2 (by have := h.1; omega))
end
end Go.PQ

/- Contracts of the parser, sixth part: arguments, members. -/
namespace Go.PQ
open Go.Eng
set_option maxRecDepth 100000
/- appending to what was written out, with the place of what comes of it -/
theorem lit_app2 {G : Roms} {H : Heap} {n id m z bs : Nat} {t : T LV} {w : V} {LS NS : LLV} {k : KV} (hz : 0 < z) (hb : T.get H id = some (.arr z m t)) (hid : id < n) (h : elems (.sl id 0 m m z) G H z = some LS)
    (hw : elems w G H z = some NS) (hr : (m + NS.length) * bs ≤ 140737488355328)
    (hk : ∀ v' H' n', El G H' v' z (LS ++ NS) → (∀ j, j < n → T.get H' j = T.get H j) → n ≤ n' → ((∃ l, v' = .sl id 0 l m z) ∨ ∃ l, v' = .gsl n 0 l z ∧ n < n') → k v' H' n') : appV z bs (.sl id 0 m m z) w G H n k := by
  unfold appV
  rw [hw, s_onO]
  have h2 : (Bool.rec (motive := fun _ => Option LLV) none (elemsB H id z m 0) (Nat.beq z z) : Option LLV) = some LS := h
  rw [beq_self'] at h2
  have h2 : elemsB H id z m 0 = some LS := h2
  obtain ⟨hl, hat⟩ := elemsB_get _ _ h2
  have e0 : appE (.sl id 0 m m z) G z bs NS H n k = Bool.rec (motive := fun _ => Prop) (onO (elemsB H id z m 0) fun OS => appNew z bs OS NS H n k) (onO (T.get H id) fun b => appIn id 0 m m z (m + NS.length) NS H n k b) (Nat.ble (m + NS.length) m) := by
    show onB (Nat.beq z z) (forceP (Nat.add m (len NS)) fun need => Bool.rec (motive := fun _ => Prop) (onO (elemsB H id z m 0) fun OS => appNew z bs OS NS H n k) (onO (T.get H id) fun b => appIn id 0 m m z need NS H n k b) (Nat.ble need m)) = _
    rw [beq_self', s_onB, forceP_eq, len_eq]; rfl
  rw [e0]
  by_cases hN : NS.length = 0
  · have : NS = [] := List.length_eq_zero_iff.1 hN
    subst this
    rw [show Nat.ble (m + ([] : LLV).length) m = true by rw [Nat.ble_eq]; exact Nat.le_refl _]
    show onO (T.get H id) (fun b => appIn id 0 m m z (m + 0) [] H n k b)
    rw [hb, s_onO]
    show onB (band (Nat.beq z z) (Nat.ble (Nat.add 0 (m + 0)) m)) (k (.sl id 0 (m + 0) m z) (T.set H id (.arr z m t)) n)
    rw [beq_self', show Nat.ble (Nat.add 0 (m + 0)) m = true by rw [Nat.ble_eq]; show 0 + m ≤ m; omega]
    have hs : ∀ j, T.get (T.set H id (.arr z m t)) j = T.get H j := fun j => by
      rw [T.get_set_if]; split
      · rename_i e; subst e; exact hb.symm
      · rfl
    rw [List.append_nil] at hk
    exact hk _ _ _ ((show El G H (.sl id 0 m m z) z LS from ⟨rfl, h⟩).same fun j _ => hs j) (fun j _ => hs j) (Nat.le_refl _) (.inl ⟨_, rfl⟩)
  · rw [show Nat.ble (m + NS.length) m = false by rw [Bool.eq_false_iff]; intro hc; rw [Nat.ble_eq] at hc; omega]
    show onO (elemsB H id z m 0) (fun OS => appNew z bs OS NS H n k)
    rw [h2, s_onO]
    show forceP (Nat.add (len LS) (len NS)) (fun need => onB (roomOk need bs) (forceP n fun n => k (.gsl n 0 need z) (T.set H n (.arr z need (setEs NS (len LS) (setEs LS 0 .e)))) (Nat.succ n)))
    rw [forceP_eq, forceP_eq, len_eq, len_eq, show roomOk (Nat.add LS.length NS.length) bs = true from roomOk_of (by rw [hl]; exact hr), s_onB]
    have e : Nat.add LS.length NS.length = (LS ++ NS).length := by rw [List.length_append]; rfl
    rw [e]
    refine hk _ _ _ (Gr.el (m := n) (.gsl (LS := LS ++ NS) (T.get_set ..) (Nat.le_refl _) (fun i L hi => ?_) (Nat.le_refl _)) hz) (fun j hj => T.get_set_ne _ _ (by omega)) (by omega) (.inr ⟨_, rfl, by omega⟩)
    rw [setEs_get, setEs_get]
    by_cases hlt : i < LS.length
    · rw [if_neg (by omega), if_pos ⟨Nat.zero_le _, by omega⟩]
      rw [List.getElem?_append_left hlt] at hi
      exact hi
    · rw [List.getElem?_append_right (by omega)] at hi
      have hlt2 := (List.getElem?_eq_some_iff.1 hi).1
      rw [if_pos ⟨by omega, by omega⟩]; exact hi
/- appending to a slice of one's own, with the place of what comes of it -/
theorem gr_app2 {G : Roms} {H : Heap} {m n z bs : Nat} {v w : V} {LS NS : LLV} {k : KV} (h : Gr G H m z v LS) (hm : m ≤ n) (hn : ∀ id, v.sid = some id → id < n) (hw : elems w G H z = some NS)
    (hb : (LS.length + NS.length) * bs ≤ 140737488355328)
    (hk : ∀ v' H', Gr G H' m z v' (LS ++ NS) → (∀ id, id < n → v.sid ≠ some id → T.get H' id = T.get H id) → (∀ id, v'.sid = some id → id = n) → k v' H' (n + 1))
    (hk0 : NS = [] → k v H n) : appV z bs v w G H n k := by
  unfold appV
  rw [hw, s_onO]
  cases h with
  | nil =>
    cases NS with
    | nil => exact hk0 rfl
    | cons a NS =>
      show appNew z bs [] (a :: NS) H n k
      unfold appNew
      rw [forceP_eq, forceP_eq, len_eq, len_eq, show roomOk (Nat.add ([] : LLV).length (a :: NS).length) bs = true from roomOk_of hb, s_onB]
      have e : Nat.add ([] : LLV).length (a :: NS).length = (a :: NS).length := Nat.zero_add _
      rw [e]
      refine hk _ _ ?_ (fun id hid _ => T.get_set_ne _ _ (by omega)) (fun id hid => by cases hid; rfl)
      refine .gsl (LS := a :: NS) (T.get_set ..) (Nat.le_refl _) (fun i L hi => ?_) hm
      show T.get (setEs (a :: NS) 0 .e) i = some L
      have hlt := (List.getElem?_eq_some_iff.1 hi).1
      rw [setEs_get, if_pos ⟨Nat.zero_le _, by omega⟩]; exact hi
  | gsl hg hc ht hid =>
    rename_i id c t
    show onB (Nat.beq z z) _
    rw [beq_self', s_onB]
    cases NS with
    | nil => exact hk0 rfl
    | cons a NS =>
      show onO (T.get H id) (fun b => appMove id 0 LS.length z bs (a :: NS) H n k b)
      rw [hg, s_onO]
      rw [appMove0 (roomOk_of hb) hc, show LS.length + (a :: NS).length = (LS ++ a :: NS).length by rw [List.length_append]]
      refine hk _ _ ?_ (fun j hj hne => ?_) (fun j hj => by cases hj; rfl)
      · refine .gsl (LS := LS ++ a :: NS) (T.get_set ..) (Nat.le_refl _) (fun i L hi => ?_) hm
        rw [setEs_get]
        by_cases hlt : i < LS.length
        · rw [if_neg (by omega)]
          rw [List.getElem?_append_left hlt] at hi
          exact ht i L hi
        · rw [List.getElem?_append_right (by omega)] at hi
          have hlt2 := (List.getElem?_eq_some_iff.1 hi).1
          rw [if_pos ⟨by omega, by omega⟩]; exact hi
      · rw [T.get_set_ne _ _ (by omega), T.get_set_ne _ _ (by intro e; subst e; exact hne rfl)]
def EsAt (G : Roms) (H : Heap) (A : Nat → Prop) (v : V) (es : List Ex) : Prop := ∃ cs, El G H v 11 cs ∧ vsame1 v v = true ∧ okC v = true ∧ vcells v = [v] ∧ (∀ id, v.sid = some id → A id) ∧ CsAt G H A cs es
def EsK (G : Roms) (pb : Nat) (H : Heap) (n : Nat) (s' : S) (es : List Ex) (k : KV) : Prop := ∀ H' n' v, Fr G pb H n H' n' s' → EsAt G H' (Rg n n') v es → es.length ≤ 201 → k v H' n'
def RecC (G : Roms) (pb : Nat) (rec : PM Ex) : Prop := ∀ (s : S) (H : Heap) (n : Nat) (s' : S) (e : Ex) (k : KV), PAt G H pb s → pb < n → rec s = some (e, s') → ExK G pb H n s' e k → Runs F G n_parse_parser_expr [.ptr pb 0] H n k
theorem gr_ok {G : Roms} {H : Heap} {m z : Nat} {v : V} {LS : LLV} (h : Gr G H m z v LS) : vsame1 v v = true ∧ okC v = true ∧ vcells v = [v] := by
  cases h with
  | nil => exact ⟨rfl, rfl, rfl⟩
  | gsl => exact ⟨vs_gsl .., rfl, rfl⟩
section
variable {G : Roms} {pb : Nat} {H : Heap} {n : Nat} {s s' : S}
/- a loop's head: as long as all is right, and the closing mark doesn't stand here -/
theorem LoopHd_c {w : Bs} {B E : Heap → Nat → Prop} (h : PAt G H pb s) (hb : pb < n) (h0 : s.ok = false → E H n)
    (h1 : s.ok = true → ∃ b s', takeT w s = some (b, s') ∧ ∀ H' n', Fr G pb H n H' n' s' → bif b then E H' n' else B H' n') :
    Runs F G n_parse_parser_ok [.ptr pb 0] H n fun v5 H n => onG v5 true (some (.ptr pb 0)) fun v6 => onGT v5 true (Runs F G n_parse_parser_take [v6, sB w] H n) H n fun v7 H n => onG v5 true (notV v7) fun v8 => onV (pickV v5 v8 (.bool false)) fun v9 => onTst v9 true (B H n) (E H n) := by
  refine Ok_c h ?_
  cases ho : s.ok with
  | false => simp only [go_sem]; exact h0 ho
  | true =>
    obtain ⟨b, s', h2, h3⟩ := h1 ho
    simp only [go_sem]
    refine Take_c h hb h2 fun H' n' y => ?_
    have := h3 H' n' y
    cases b <;> simp only [go_sem, s_notB, Bool.not_true, Bool.not_false] <;> exact this
theorem ExAt.ok {A : Nat → Prop} {c : LV} {e : Ex} (h : ExAt G H A c e) : okC (.agg c) = true ∧ (vcells (.agg c)).length = 11 := ⟨rfl, h.len⟩
theorem Args_c {rec : PM Ex} {f : Nat} {es : List Ex} {k : KV} (hr : RecC G pb rec) (h : PAt G H pb s) (hb : pb < n) (hm : argsP rec f s = some (es, s')) (hk : EsK G pb H n s' es k) : Runs F G n_parse_parser_args [.ptr pb 0] H n k := by
  refine runs_s (s := ar1 (s_parse_parser_args lfp G)) at_parse_parser_args (by obtain ⟨h, o⟩ := si_parse_parser_args lfp_ok G; rw [at_parse_parser_args] at h; cases h; exact o) ?_
  show s_parse_parser_args lfp G (Runs F G) (.ptr pb 0) H n k
  delta s_parse_parser_args
  unfold argsP at hm
  rw [Option.bind_eq_some_iff] at hm
  obtain ⟨s1, h1, hm⟩ := hm
  refine WantL_c (ws := [m_lp]) h hb rfl (by show 1 ≤ 1000; omega) h1 fun H1 n1 x => ?_
  refine lfp_rule (J := fun g q => ∃ H' n' t v cs out, q = (.ptr pb 0, v, H', n') ∧ Fr G pb H n H' n' t ∧ Own G H' n n' 11 v cs ∧ CsAt G H' (fun id => n ≤ id ∧ id < n' ∧ v.sid ≠ some id) cs out ∧ (t.ok = true → out.length ≤ 200) ∧ out.length ≤ 201 ∧ argsL rec g out t = some (es, s')) ?_ (m := f)
    ⟨H1, n1, s1, .nils, [], [], rfl, x, Own_nil, .nil, fun _ => Nat.zero_le _, Nat.zero_le _, hm⟩
  rintro I g q ⟨H2, n2, t, v, cs, out, rfl, x, ho, hc, hle, hle2, hm⟩ ih
  show s_parse_parser_args_l4 lfp G (Runs F G) k I (.ptr pb 0) v H2 n2
  delta s_parse_parser_args_l4
  cases g with
  | zero => cases hm
  | succ g =>
    have hm : (bif t.ok then (takeT m_rp t).bind fun p => bif p.1 then some (out, p.2) else
      (bif decide (0 < out.length) then wantT [m_comma] p.2 else some p.2).bind fun s1 => (rec s1).bind fun q => argsL rec g (out ++ [q.1]) (manyS (out.length + 1) q.2)
      else some (out, t)) = some (es, s') := hm
    have hn2 := x.le
    have fin : ∀ {H3 : Heap} {n3 : Nat} {t3 : S}, Fr G pb H2 n2 H3 n3 t3 → some (out, t3) = some (es, s') → s_parse_parser_args_j3 lfp G (Runs F G) k v H3 n3 := by
      intro H3 n3 t3 y he
      cases he
      delta s_parse_parser_args_j3
      have ho3 := ho.kx y.f x.b
      refine hk _ _ _ (x.tr y) ⟨cs, ho3.el (by omega), (gr_ok ho3.gr).1, (gr_ok ho3.gr).2.1, (gr_ok ho3.gr).2.2, fun id hid => ⟨ho3.ge hid, ho3.lo id hid⟩, ?_⟩ hle2
      exact hc.mono (fun id h => ⟨h.1, by have := h.2.1; have := y.le; omega⟩) fun id h => y.f.same id h.2.1 (by have := h.1; have := x.b; omega)
    rw [d_rp]
    refine LoopHd_c x.p x.lt (fun hf => fin (Fr.refl x.p x.lt) (by rw [hf] at hm; exact hm)) fun ht => ?_
    rw [ht, cond_true, Option.bind_eq_some_iff] at hm
    obtain ⟨⟨b, t2⟩, h2, hm⟩ := hm
    refine ⟨b, t2, h2, fun H3 n3 y => ?_⟩
    cases b with
    | true => exact fin y hm
    | false =>
      show onV (lenV v) _
      have hm : ((bif decide (0 < out.length) then wantT [m_comma] t2 else some t2).bind fun s1 => (rec s1).bind fun q => argsL rec g (out ++ [q.1]) (manyS (out.length + 1) q.2)) = some (es, s') := hm
      rw [Option.bind_eq_some_iff] at hm
      obtain ⟨t3, h3, hm⟩ := hm
      rw [Option.bind_eq_some_iff] at hm
      obtain ⟨⟨e, t4⟩, h4, hm⟩ := hm
      have hlen := hle ht
      have body : ∀ {H4 : Heap} {n4 : Nat}, Fr G pb H2 n2 H4 n4 t3 → s_parse_parser_args_j10 lfp G (Runs F G) k I (.ptr pb 0) v H4 n4 := by
        intro H4 n4 y
        delta s_parse_parser_args_j10
        have ho4 := ho.kx y.f x.b
        have hc4 : CsAt G H4 (fun id => n ≤ id ∧ id < n4 ∧ v.sid ≠ some id) cs out := hc.mono (fun id h => ⟨h.1, by have := h.2.1; have := y.le; omega, h.2.2⟩) fun id h => y.f.same id h.2.1 (by have := h.1; have := x.b; omega)
        have x := x.tr y
        refine hr _ _ _ _ _ _ x.p x.lt h4 fun H5 n5 c y hx => ?_
        have hn4 := x.le
        have hpb := x.b
        have x := x.tr y
        have ho5 := ho4.kx y.f hpb
        have hc5 : CsAt G H5 (fun id => n ≤ id ∧ id < n4 ∧ v.sid ≠ some id) cs out := hc4.mono (fun id h => h) fun id h => y.f.same id h.2.1 (by have := h.1; omega)
        have hn5 := y.le
        refine a_bsl (G := G) (vs := [.agg c]) rfl (by omega) (fun v hv => by simp at hv; subst hv; exact hx.ok) fun H6 f6 _ hel => ?_
        have x := x.al f6
        have ho6 := ho5.kp f6
        refine gr_app2 ho6.gr (by omega) ho6.lo hel.2 (by have := hc.len; show (cs.length + 1) * 136 ≤ _; omega) ?_ (fun h => by cases h)
        intro v' H7 hgr hsame hlo
        have hgr : Gr G H7 n 11 v' (cs ++ [c]) := hgr
        have f7 : Fr G pb H n H7 (n5 + 1 + 1) t4 := ⟨⟨by omega, fun id hid hp => (hsame id (by omega) (fun h => by have := ho6.ge h; omega)).trans (x.f.same id hid hp)⟩, x.p.same fun id hid => hsame id (by omega) (fun h => by have := ho6.ge h; omega), hpb⟩
        have hv4 : ∀ id, v.sid = some id → id < n4 := ho4.lo
        rw [(hgr.el (by omega)).len, s_onV, List.length_append, show cs.length + [c].length = out.length + 1 by rw [hc.len]; rfl]
        refine Many_c f7.p f7.lt fun H8 n8 y8 => ?_
        have hn8 := y8.le
        refine ih g (_, _, H8, n8) (by omega) ⟨H8, n8, _, v', cs ++ [c], out ++ [e], rfl, f7.tr y8, ?_, ?_, ?_, by rw [List.length_append]; show out.length + 1 ≤ 201; omega, hm⟩
        · exact (show Own G H7 n (n5 + 1 + 1) 11 v' (cs ++ [c]) from ⟨hgr, fun id hid => by have := hlo id hid; omega⟩).kx y8.f hpb
        · refine (hc5.mono (fun id h => ⟨h.1, by have := h.2.1; omega, fun hv => by have := hlo id hv; have := h.2.1; omega⟩) fun id h => ?_).app (.cons (hx.mono (fun id h => ⟨by have := h.1; omega, by have := h.2; omega, fun hv => by have := hlo id hv; have := h.2; omega⟩) fun id h => ?_) .nil)
          · have h1 := h.1; have h2 := h.2.1
            exact (y8.f.same id (by omega) (by omega)).trans ((hsame id (by omega) h.2.2).trans (f6.same id (by omega)))
          · have h1 := h.1; have h2 := h.2
            exact (y8.f.same id (by omega) (by omega)).trans ((hsame id (by omega) (fun hv => by have := hv4 id hv; omega)).trans (f6.same id (by omega)))
        · intro hok
          rw [List.length_append]
          unfold manyS at hok
          cases hd : decide (200 < out.length + 1) with
          | false => have := of_decide_eq_false hd; show out.length + 1 ≤ 200; omega
          | true =>
            rw [hd] at hok
            exfalso
            unfold failS at hok
            cases ho : t4.ok with
            | false => rw [ho] at hok; simp [ho] at hok
            | true => rw [ho] at hok; cases hok
      have hv3 := (ho.kx y.f x.b).el (by omega)
      rw [hv3.len, s_onV, hc.len, gtr_n, s_onV]
      cases hd : decide (0 < out.length) with
      | false =>
        rw [hd] at h3
        cases h3
        rw [s_tstF]
        exact body y
      | true =>
        rw [hd] at h3
        have h3 : wantT [m_comma] t2 = some t3 := h3
        rw [s_tstT]
        exact WantL_c (ws := [m_comma]) y.p (by have := y.le; have := x.lt; omega) rfl (by show 1 ≤ 1000; omega) h3 fun H4 n4 y4 => body (y.tr y4)
end
end Go.PQ

/- Contracts of the parser, seventh part: members; classes' names; what stands alone. -/
namespace Go.PQ
open Go.Eng
set_option maxRecDepth 100000
theorem bv_ex3 {kd : Nat} {x y : V} {nm : Bs} {id o l : Nat} : buildV exZ [(0, 1, .c (.int .i64 (.ofNat kd) 0)), (1, 2, .c (.agg [x, y])), (4, 1, .c (sB nm)), (7, 1, .c (.gsl id o l 11))] =
    some (.agg [.int .i64 (.ofNat kd) 0, x, y, .int .i64 (.ofNat 0) 0, sB nm, .str 0 0, .bool false, .gsl id o l 11, .str 0 0, .bool false, .str 0 0]) := rfl
theorem bv_ex0 {x y : V} : buildV exZ [(1, 2, .c (.agg [x, y]))] =
    some (.agg [.int .i64 (.ofNat 0) 0, x, y, .int .i64 (.ofNat 0) 0, .str 0 0, .str 0 0, .bool false, .nils, .str 0 0, .bool false, .str 0 0]) := rfl
theorem onV_of {e : Option V} {v : V} {P : V → Prop} (h : e = some v) (hp : P v) : onV e P := by rw [h]; exact hp
section
variable {G : Roms} {pb : Nat} {H : Heap} {n : Nat} {s s' : S} {k : KV}
theorem Class_t {t : Ty} (hk : ∀ H', Kp H n H' (n + 1) → k (.bool (classy t)) H' (n + 1)) : Runs F G n_ast_Type_Class [.agg (tyC t)] H n k := by
  refine runs_s (s := ar1 (s_ast_Type_Class lfp G)) at_ast_Type_Class (by obtain ⟨h, o⟩ := si_ast_Type_Class lfp_ok G; rw [at_ast_Type_Class] at h; cases h; exact o) ?_
  show s_ast_Type_Class lfp G (Runs F G) (.agg (tyC t)) H n k
  delta s_ast_Type_Class
  refine a_boxA fun H1 f1 g1 => ?_
  have q0 : ld1V (.ptr n 0) G H1 = some (sB t.nm) := ld1_one g1 rfl
  have q1 : ld1V (.ptr n 1) G H1 = some (.bool t.arr) := ld1_one g1 rfl
  have ne0 : ∀ l : Bs, eqV (.one .str) true (sB l) (.str 0 0) = some (.bool (!decide (l = []))) := fun l => b_ne l []
  have hk := hk _ f1
  unfold classy at hk
  simp only [go_sem, Nat.reduceAdd, q1, s_notB]
  cases ha : t.arr with
  | true =>
    rw [ha] at hk
    simp only [Bool.not_true]
    repeat (first | with_reducible refine gs_f ?_ | with_reducible refine gs_S ?_ | with_reducible refine gp_f ?_)
    exact hk
  | false =>
    rw [ha] at hk
    simp only [Bool.not_false, go_sem, Nat.reduceAdd, q0, ne0]
    cases hn : t.nm with
    | nil =>
      rw [hn] at hk
      simp only [decide_true, Bool.not_true]
      repeat (first | with_reducible refine gs_f ?_ | with_reducible refine gs_S ?_ | with_reducible refine gp_f ?_)
      exact hk
    | cons c l =>
      rw [hn] at hk q0
      have hk : k (.bool (great c)) H1 (n + 1) := hk
      unfold great at hk
      have ix : idxSV (sB (c :: l)) (.int .i64 (.ofNat 0) 0) = some (.int .u8 (.ofNat c.toNat) 0) := b_idx (l := c :: l) (i := 0) (by simp)
      simp only [show decide (c :: l = []) = false from rfl, Bool.not_false, go_sem, Nat.reduceAdd, q0, ix, geq_n]
      cases h1 : decide (65 ≤ c.toNat) with
      | false => rw [h1] at hk; simp only [go_sem]; exact hk
      | true => rw [h1] at hk; simp only [go_sem, Nat.reduceAdd, q0, ix, leq_n]; exact hk
/- what a function hands back that takes an expression over -/
def ExKA (G : Roms) (pb : Nat) (H : Heap) (n : Nat) (A : Nat → Prop) (s' : S) (e : Ex) (k : KV) : Prop := ∀ H' n' c, Fr G pb H n H' n' s' → ExAt G H' (fun id => A id ∨ Rg n n' id) c e → k (.agg c) H' n'
theorem ex_resA {H0 H : Heap} {n0 n r : Nat} {c L0 : LV} {e : Ex} {A : Nat → Prop} (x : Fr G pb H0 n0 H n s') (gr : T.get H r = some (one L0)) (hl : L0.length = 11) (hr : n0 ≤ r) (he : ExAt G H (fun id => A id ∨ (Rg n0 n id ∧ id ≠ r)) c e) (hA : ∀ id, A id → id < n0)
    (hk : ExKA G pb H0 n0 A s' e k) : stV 11 (.ptr r 0) (.agg c) H n fun _ H n => onO (getVs [.cn (.ptr r 0) 11] G H) fun l => k (oneV l) H n := by
  refine a_stA gr hl he.len (by omega) fun H1 g1 s1 => ?_
  rw [getVs_cn (m := 11) g1 (by omega) he.len]
  simp only [go_sem]
  exact hk _ _ _ (x.st hr s1) (he.mono (fun id h => h.imp (fun h => h) fun h => h.1) fun id h => s1 id (by rcases h with h | h; have := hA id h; omega; exact h.2))
theorem Member_c {rec : PM Ex} {f : Nat} {e e' : Ex} {c : LV} {A : Nat → Prop} {line col : Nat} (hr : RecC G pb rec) (hA : ∀ id, A id → pb < id ∧ id < n) (hx : ExAt G H A c e) (h : PAt G H pb s) (hb : pb < n) (hm : memberP rec f e s = some (e', s')) (hk : ExKA G pb H n A s' e' k) :
    Runs F G n_parse_parser_member [.ptr pb 0, .agg c, .agg [.int .i64 (.ofNat line) 0, .int .i64 (.ofNat col) 0]] H n k := by
  refine runs_s (s := ar3 (s_parse_parser_member lfp G)) at_parse_parser_member (by obtain ⟨h, o⟩ := si_parse_parser_member lfp_ok G; rw [at_parse_parser_member] at h; cases h; exact o) ?_
  show s_parse_parser_member lfp G (Runs F G) (.ptr pb 0) (.agg c) (.agg [.int .i64 (.ofNat line) 0, .int .i64 (.ofNat col) 0]) H n k
  delta s_parse_parser_member
  unfold memberP at hm
  rw [Option.bind_eq_some_iff] at hm
  obtain ⟨⟨b, t⟩, h1, hm⟩ := hm
  have hm : (bif b then some ((.mk 13 0 [] [] false [e] : Ex), t) else (nameT 3 t).bind fun q => bif isT [m_lp] q.2 then (argsP rec f q.2).bind fun a => some (.mk 8 0 q.1 [] false (e :: a.1), a.2) else some (.mk 7 0 q.1 [] false [e], q.2)) = some (e', s') := hm
  have x := Fr.refl h hb
  refine a_boxA fun H1 f1 g1 => ?_
  have x := x.al f1
  refine a_boxA fun H2 f2 g2 => ?_
  have x := x.al f2
  have g1 := f2.get g1 (by omega)
  refine a_alloc rfl fun H3 f3 g3 => ?_
  have x := x.al f3
  have g1 := f3.get g1 (by omega)
  have g2 := f3.get g2 (by omega)
  have hx : ExAt G H3 A c e := hx.mono (fun id h => h) fun id h => x.f.same id (hA id h).2 (by have := (hA id h).1; omega)
  rw [show V.str 6 114849160783212 = sB w_length from rfl]
  refine Take_c x.p x.lt h1 fun H4 n4 y => ?_
  have x := x.tr y
  have hn4 := y.le
  have g1 := y.get g1 (by omega) hb
  have g2 := y.get g2 (by omega) (by omega)
  have g3 := y.get g3 (by omega) (by omega)
  have hx : ExAt G H4 A c e := hx.mono (fun id h => h) fun id h => y.f.same id (by have := (hA id h).2; omega) (by have := (hA id h).1; omega)
  have mkOne : ∀ {H6 : Heap} {m : Nat} {kd : Nat} {nm : Bs}, ExAt G H6 A c e → n ≤ m → m ≠ n + 1 + 1 → El G H6 (.sl m 0 1 1 11) 11 [c] → ExAt G H6 (fun id => A id ∨ (Rg n (m + 1) id ∧ id ≠ n + 1 + 1)) (exC kd 0 nm [] false line col (.sl m 0 1 1 11)) (.mk kd 0 nm [] false [e]) := by
    intro H6 m kd nm hx h1 h2 hel
    exact .mk kd 0 nm [] false line col hel (vs_sl ..) (fun id hid => .inr (by cases sidSl hid; exact ⟨⟨h1, by omega⟩, h2⟩)) (.cons (hx.mono (fun id h => .inl h) fun id h => rfl) .nil)
  cases b with
  | true =>
    cases hm
    rw [s_tstT, ldn_all (m := 2) g2 (by omega) rfl, s_onV, ldn_all (m := 11) g1 (by omega) hx.len, s_onV]
    refine a_bsl (G := G) (vs := [.agg c]) rfl (by omega) (fun v hv => by simp at hv; subst hv; exact hx.ok) fun H6 f6 _ hel => ?_
    have x := x.al f6
    have hx : ExAt G H6 A c e := hx.mono (fun id h => h) fun id h => f6.same id (by have := (hA id h).2; omega)
    refine onV_of bv_ex1 ?_
    exact ex_resA x (f6.get g3 (by omega)) rfl (by omega) (mkOne (kd := 13) (nm := []) hx (by omega) (by omega) hel) (fun id h => (hA id h).2) hk
  | false =>
    rw [cond_false, Option.bind_eq_some_iff] at hm
    obtain ⟨⟨nm, t2⟩, h2, hm⟩ := hm
    have hm : (bif isT [m_lp] t2 then (argsP rec f t2).bind fun a => some ((.mk 8 0 nm [] false (e :: a.1) : Ex), a.2) else some (.mk 7 0 nm [] false [e], t2)) = some (e', s') := hm
    rw [s_tstF]
    refine Name_c x.p x.lt h2 fun H5 n5 y => ?_
    have x := x.tr y
    have hn5 := y.le
    have g1 := y.get g1 (by omega) hb
    have g2 := y.get g2 (by omega) (by omega)
    have g3 := y.get g3 (by omega) (by omega)
    have hx : ExAt G H5 A c e := hx.mono (fun id h => h) fun id h => y.f.same id (by have := (hA id h).2; omega) (by have := (hA id h).1; omega)
    refine IsL_c (ws := [m_lp]) x.p x.lt rfl (by show 1 ≤ 1000; omega) fun H6 n6 y => ?_
    have x := x.tr y
    have hn6 := y.le
    have g1 := y.get g1 (by omega) hb
    have g2 := y.get g2 (by omega) (by omega)
    have g3 := y.get g3 (by omega) (by omega)
    have hx : ExAt G H6 A c e := hx.mono (fun id h => h) fun id h => y.f.same id (by have := (hA id h).2; omega) (by have := (hA id h).1; omega)
    rw [s_notB, s_onV]
    cases hi : isT [m_lp] t2 with
    | false =>
      rw [hi] at hm
      cases hm
      rw [Bool.not_false, s_tstT, ldn_all (m := 2) g2 (by omega) rfl, s_onV, ldn_all (m := 11) g1 (by omega) hx.len, s_onV]
      refine a_bsl (G := G) (vs := [.agg c]) rfl (by omega) (fun v hv => by simp at hv; subst hv; exact hx.ok) fun H7 f7 _ hel => ?_
      have x := x.al f7
      have hx : ExAt G H7 A c e := hx.mono (fun id h => h) fun id h => f7.same id (by have := (hA id h).2; omega)
      refine onV_of bv_ex2 ?_
      exact ex_resA x (f7.get g3 (by omega)) rfl (by omega) (mkOne (kd := 7) (nm := nm) hx (by omega) (by omega) hel) (fun id h => (hA id h).2) hk
    | true =>
      rw [hi, cond_true, Option.bind_eq_some_iff] at hm
      obtain ⟨⟨es, t3⟩, h3, hm⟩ := hm
      cases hm
      rw [Bool.not_true, s_tstF, ldn_all (m := 2) g2 (by omega) rfl, s_onV, ldn_all (m := 11) g1 (by omega) hx.len, s_onV]
      refine a_bsl (G := G) (vs := [.agg c]) rfl (by omega) (fun v hv => by simp at hv; subst hv; exact hx.ok) fun H7 f7 hb7 hel => ?_
      have x := x.al f7
      have hx : ExAt G H7 A c e := hx.mono (fun id h => h) fun id h => f7.same id (by have := (hA id h).2; omega)
      have g1 := f7.get g1 (by omega)
      have g2 := f7.get g2 (by omega)
      have g3 := f7.get g3 (by omega)
      refine Args_c hr x.p x.lt h3 fun H8 n8 v y hes hle => ?_
      have x := x.tr y
      have hn8 := y.le
      have g1 := y.get g1 (by omega) hb
      have g2 := y.get g2 (by omega) (by omega)
      have g3 := y.get g3 (by omega) (by omega)
      have hx : ExAt G H8 A c e := hx.mono (fun id h => h) fun id h => y.f.same id (by have := (hA id h).2; omega) (by have := (hA id h).1; omega)
      rw [ldn_all (m := 2) g2 (by omega) rfl, s_onV, ldn_all (m := 11) g1 (by omega) hx.len, s_onV]
      refine re_ok (vs_pos ..) (re_ok hx.vs ?_)
      obtain ⟨cs, he1, he2, he3, he4, he5, he6⟩ := hes
      obtain ⟨t7, hb7⟩ := hb7
      have hel8 : El G H8 (.sl n6 0 1 1 11) 11 [c] := hel.same fun id hid => by cases sidSl hid; exact y.f.same _ (by omega) (by omega)
      refine lit_app2 (by omega) ((y.f.same _ (by omega) (by omega)).trans hb7) (by omega) hel8.2 he1.2 ?_ ?_
      · have := he6.len; rw [this]; omega
      intro v' H9 n9 hel9 hs9 hn9 hv'
      have x : Fr G pb H n H9 n9 t3 := ⟨⟨by omega, fun id hid hp => (hs9 id (by omega)).trans (x.f.same id hid hp)⟩, x.p.same fun id hid => hs9 id (by omega), hb⟩
      have g2 := (hs9 (n + 1) (by omega)).trans g2
      have g3 := (hs9 (n + 1 + 1) (by omega)).trans g3
      rw [ldn_all (m := 2) g2 (by omega) rfl, s_onV]
      refine re_ok (vs_pos ..) ?_
      have hcs : CsAt G H9 (fun id => A id ∨ (Rg n n9 id ∧ id ≠ n + 1 + 1)) ([c] ++ cs) (e :: es) := by
        refine CsAt.cons (hx.mono (fun id h => .inl h) fun id h => hs9 id (by have := (hA id h).2; omega)) ?_
        exact he6.mono (fun id h => .inr ⟨⟨by have := h.1; omega, by have := h.2; omega⟩, by have := h.1; omega⟩) fun id h => hs9 id h.2
      have fin : ∀ w : V, El G H9 w 11 ([c] ++ cs) → vsame1 w w = true → (∀ id, w.sid = some id → n6 ≤ id ∧ id < n9) → ExAt G H9 (fun id => A id ∨ (Rg n n9 id ∧ id ≠ n + 1 + 1)) (exC 8 0 nm [] false line col w) (.mk 8 0 nm [] false (e :: es)) := fun w h1 h2 h3 =>
        .mk 8 0 nm [] false line col h1 h2 (fun id hid => .inr ⟨⟨by have := (h3 id hid).1; omega, (h3 id hid).2⟩, by have := (h3 id hid).1; omega⟩) hcs
      rcases hv' with ⟨l, rfl⟩ | ⟨l, rfl, hn9'⟩
      · refine onV_of bv_ex2 ?_
        exact ex_resA x g3 rfl (by omega) (fin _ hel9 (vs_sl ..) fun id hid => by cases sidSl hid; omega) (fun id h => (hA id h).2) hk
      · refine onV_of bv_ex3 ?_
        exact ex_resA x g3 rfl (by omega) (fin _ hel9 (vs_gsl ..) fun id hid => by cases sidGsl hid; omega) (fun id h => (hA id h).2) hk
end
end Go.PQ

