/- Part of a proof: texts PLD PLE PLF PLG PTA PSeat PTB of the engine and what is proved with it; nothing is assumed. -/
import Derived.Test.YtcjkfmaoahojeaaDoorLawA
import Derived.Test.YtcjkfmaoahojeaaDoorConB
import Derived.Test.YtcjkfmaoahojeaaDoorWalk
import Derived.Test.YtcjkfmaoahojeaaDoorCode
import Derived.Test.YtcjkfmaoahojeaaDoorRows
import Derived.LaidMore
import Derived.SevenTiedAt
set_option linter.unusedVariables false
set_option linter.unusedSimpArgs false
/- The plain parser once there is a fault; brackets, signs and blocks in each other; members. -/
namespace Go.PQ
open Go.Eng
set_option maxRecDepth 100000
section
variable {s : S} (h : s.e ≠ 0)
include h
theorem bad_ok : s.ok = false := by simp [S.ok, h]
theorem bad_fail {e : Nat} : failS e s = s := by unfold failS; rw [bad_ok h]; rfl
theorem bad_is {ws : List Bs} : isT ws s = false := is_none fun _ _ => one_bad h
theorem bad_take {w : Bs} : takeT w s = some (false, s) := take_no (one_bad h)
theorem bad_want : ∀ {ws : List Bs}, wantT ws s = some s
  | [] => rfl
  | w :: ws => by
    show ((takeT w s).bind fun p => wantT ws (bif p.1 then p.2 else failS 21 p.2)) = _
    rw [bad_take h]
    show wantT ws (failS 21 s) = _
    rw [bad_fail h, bad_want]
theorem bad_name {k : Nat} : nameT k s = some ([], s) := by unfold nameT; rw [bad_ok h, bad_fail h]; rfl
theorem bad_down (hd : s.deep < 1000000) : downS s = some { s with deep := s.deep + 1 } := by
  unfold downS; rw [decide_eq_true hd, bad_fail (s := { s with deep := s.deep + 1 }) h, Bool.cond_self]; rfl
theorem bad_expr {f : Nat} (hd : s.deep < 1000000) : expr (f + 4) s = some (.mk 0 0 [] [] false [], s) := by
  refine expr_lift (f := f + 2) (s1 := { s with deep := s.deep + 1 }) (s2 := { s with deep := s.deep + 1 }) (bad_down h hd) ?_ (fun w _ => one_bad h) ?_
  · exact unary_parts (one_bad h) (one_bad h) (parts_prim (prim_bad h) fun w _ => one_bad h) fun w _ => one_bad h
  · unfold upS; simp only [hd, decide_true, cond_true]
theorem bad_end {st : St} : endP st s = some (st, s) := by unfold endP; rw [bad_want h]; rfl
end
/- brackets -/
def reps (n : Nat) (l : List Tok) : List Tok := (List.replicate n l).flatten
theorem reps_s (n : Nat) (l : List Tok) : reps (n + 1) l = l ++ reps n l := by simp [reps, List.replicate_succ]
theorem reps_e (n : Nat) (l : List Tok) : reps (n + 1) l = reps n l ++ l := by
  induction n with
  | zero => simp [reps]
  | succ n ih => rw [reps_s (n + 1), ih, ← List.append_assoc, ← reps_s, ih]
def S.of (l : List Tok) (d : Nat) : S := match l with | [] => ⟨tokZ, [], d, 0⟩ | t :: r => ⟨t, r, d, 0⟩
theorem deep_100 {t : Tok} {r : List Tok} : downS ⟨t, r, 100, 0⟩ = some ⟨t, r, 101, 3⟩ := rfl
theorem up_bad {t : Tok} {r : List Tok} {d e : Nat} (h : d < 1000000) : upS ⟨t, r, d + 1, e⟩ = some ⟨t, r, d, e⟩ := by
  unfold upS; simp only [h, decide_true, cond_true]
theorem expr_100 {t : Tok} {r : List Tok} {f : Nat} : expr (f + 4) ⟨t, r, 100, 0⟩ = some (.mk 0 0 [] [] false [], ⟨t, r, 100, 3⟩) := by
  have h : (⟨t, r, 101, 3⟩ : S).e ≠ 0 := show (3 : Nat) ≠ 0 by decide
  refine expr_lift (f := f + 2) (s1 := ⟨t, r, 101, 3⟩) (s2 := ⟨t, r, 101, 3⟩) deep_100 ?_ (fun w _ => one_bad h) (up_bad (by decide))
  exact unary_parts (one_bad h) (one_bad h) (parts_prim (prim_bad h) fun w _ => one_bad h) fun w _ => one_bad h
theorem br_ok {l : Bs} {m : Nat} {f : Nat} {v : Tok} {q : List Tok} (hv : ∀ d, noOp ⟨v, q, d, 0⟩) (hv2 : ∀ d, noTail ⟨v, q, d, 0⟩) :
    ∀ (n d : Nat), d + n < 100 → expr (f + n + 4) (S.of (reps n [M m_lp] ++ N l m :: (reps n [M m_rp] ++ v :: q)) d) = some (.mk 1 m [] [] false [], ⟨v, q, d, 0⟩) := by
  intro n
  suffices hh : ∀ (n d : Nat) (v : Tok) (q : List Tok), (∀ d, noOp ⟨v, q, d, 0⟩) → (∀ d, noTail ⟨v, q, d, 0⟩) → d + n < 100 → expr (f + n + 4) (S.of (reps n [M m_lp] ++ N l m :: (reps n [M m_rp] ++ v :: q)) d) = some (.mk 1 m [] [] false [], ⟨v, q, d, 0⟩) from
    fun d hd => hh n d v q hv hv2 hd
  clear hv hv2 v q n
  intro n
  induction n with
  | zero =>
    intro d v q h1 h2 hd
    exact expr_lift (f := f + 2) (down_at (by omega)) (unary_parts (one_no (show (4 : Nat) ≠ 1 by decide) (show (4 : Nat) ≠ 5 by decide)) (one_no (show (4 : Nat) ≠ 1 by decide) (show (4 : Nat) ≠ 5 by decide)) (parts_prim prim_num (h2 _)) (h1 _)) (h1 _) (up_at (by omega))
  | succ n ih =>
    intro d v q h1 h2 hd
    have e1 := ih (d + 1) (M m_rp) (v :: q) (fun d w hw => by rw [one_mark]; revert w; decide) (fun d w hw => by rw [one_mark]; revert w; decide) (by omega)
    have e2 : reps (n + 1) [M m_lp] ++ N l m :: (reps (n + 1) [M m_rp] ++ v :: q) = M m_lp :: (reps n [M m_lp] ++ N l m :: (reps n [M m_rp] ++ M m_rp :: v :: q)) := by
      rw [reps_s, reps_e]; simp
    rw [e2]
    generalize hx : reps n [M m_lp] ++ N l m :: (reps n [M m_rp] ++ M m_rp :: v :: q) = x at e1
    cases x with
    | nil => simp at hx
    | cons t x =>
      refine expr_lift (f := f + n + 3) (s1 := ⟨M m_lp, t :: x, d + 1, 0⟩) (down_at (by omega)) ?_ (h1 (d + 1)) (up_at (by omega))
      exact unary_parts rfl rfl (parts_prim (prim_br e1) (h2 _)) (h1 _)
theorem br_bad {f : Nat} {v : Tok} {q : List Tok} : ∀ (n d : Nat), d ≤ 100 → 100 ≤ d + n → ∃ e t r, expr (f + n + 4) (S.of (reps n [M m_lp] ++ v :: q) d) = some (e, ⟨t, r, d, 3⟩) := by
  intro n
  induction n with
  | zero =>
    intro d h1 h2
    obtain rfl : d = 100 := by omega
    exact ⟨_, _, _, expr_100⟩
  | succ n ih =>
    intro d h1 h2
    by_cases hd : d = 100
    · subst hd
      rw [reps_s]
      exact ⟨_, _, _, expr_100 (f := f + n + 1)⟩
    · obtain ⟨e, t, r, he⟩ := ih (d + 1) (by omega) (by omega)
      rw [reps_s]
      generalize hx : reps n [M m_lp] ++ v :: q = x at he
      have e2 : [M m_lp] ++ reps n [M m_lp] ++ v :: q = M m_lp :: x := by simp [hx]
      rw [e2]
      cases x with
      | nil => simp at hx
      | cons t' x =>
        have hb : (⟨t, r, d + 1, 3⟩ : S).e ≠ 0 := show (3 : Nat) ≠ 0 by decide
        refine ⟨e, t, r, expr_lift (f := f + n + 3) (s1 := ⟨M m_lp, t' :: x, d + 1, 0⟩) (s2 := ⟨t, r, d + 1, 3⟩) (down_at (by omega)) ?_ (fun w _ => one_bad hb) (up_bad (by omega))⟩
        refine unary_parts rfl rfl (parts_prim ?_ fun w _ => one_bad hb) fun w _ => one_bad hb
        have he : expr (f + n + 4) ⟨t', x, d + 1, 0⟩ = some (e, ⟨t, r, d + 1, 3⟩) := he
        show ((expr (f + n + 4) ⟨t', x, d + 1, 0⟩).bind fun x => (wantT [m_rp] x.2).bind fun s1 => some (x.1, s1)) = _
        rw [he]
        show ((wantT [m_rp] ⟨t, r, d + 1, 3⟩).bind fun s1 => some (e, s1)) = _
        rw [bad_want hb]; rfl
/- signs -/
theorem unary_minus {rec : PM Ex} {f d : Nat} {u : Tok} {r : List Tok} : unary rec (f + 1) ⟨M m_minus, u :: r, d, 0⟩ = (downS ⟨M m_minus, u :: r, d, 0⟩).bind fun s1 => (nextS s1).bind fun s2 => (unary rec f s2).bind fun p => (upS p.2).bind fun s' => some (Ex.mk 14 0 [] [] false [p.1], s') := rfl
theorem sg_ok {rec : PM Ex} {l : Bs} {m : Nat} {f : Nat} {v : Tok} {q : List Tok} (hv : ∀ d, noOp ⟨v, q, d, 0⟩) (hv2 : ∀ d, noTail ⟨v, q, d, 0⟩) :
    ∀ (n d : Nat), d + n ≤ 100 → ∃ e, unary rec (f + n + 2) (S.of (reps n [M m_minus] ++ N l m :: v :: q) d) = some (e, ⟨v, q, d, 0⟩) := by
  intro n
  induction n with
  | zero =>
    intro d hd
    exact ⟨_, unary_parts (one_no (show (4 : Nat) ≠ 1 by decide) (show (4 : Nat) ≠ 5 by decide)) (one_no (show (4 : Nat) ≠ 1 by decide) (show (4 : Nat) ≠ 5 by decide)) (parts_prim prim_num (hv2 _)) (hv _)⟩
  | succ n ih =>
    intro d hd
    obtain ⟨e, he⟩ := ih (d + 1) (by omega)
    rw [reps_s]
    generalize hx : reps n [M m_minus] ++ N l m :: v :: q = x at he
    have e2 : [M m_minus] ++ reps n [M m_minus] ++ N l m :: v :: q = M m_minus :: x := by simp [hx]
    rw [e2]
    cases x with
    | nil => simp at hx
    | cons t x =>
      refine ⟨.mk 14 0 [] [] false [e], ?_⟩
      show unary rec (f + n + 2 + 1) ⟨M m_minus, t :: x, d, 0⟩ = _
      rw [unary_minus, down_at (by omega)]
      show ((unary rec (f + n + 2) ⟨t, x, d + 1, 0⟩).bind fun p => (upS p.2).bind fun s' => some (Ex.mk 14 0 [] [] false [p.1], s')) = _
      rw [show unary rec (f + n + 2) ⟨t, x, d + 1, 0⟩ = _ from he]
      show ((upS ⟨v, q, d + 1, 0⟩).bind fun s' => some (Ex.mk 14 0 [] [] false [e], s')) = _
      rw [up_at (by omega)]; rfl
theorem sg_bad {rec : PM Ex} {f : Nat} {v : Tok} {q : List Tok} :
    ∀ (n d : Nat), d ≤ 100 → 100 < d + n → ∃ e t r, unary rec (f + n + 2) (S.of (reps n [M m_minus] ++ v :: q) d) = some (e, ⟨t, r, d, 3⟩) := by
  intro n
  induction n with
  | zero => intro d h1 h2; omega
  | succ n ih =>
    intro d h1 h2
    rw [reps_s]
    generalize hx : reps n [M m_minus] ++ v :: q = x at ih
    have e2 : [M m_minus] ++ reps n [M m_minus] ++ v :: q = M m_minus :: x := by simp [hx]
    rw [e2]
    cases x with
    | nil => simp at hx
    | cons t' x =>
      by_cases hd : d = 100
      · subst hd
        refine ⟨.mk 14 0 [] [] false [.mk 0 0 [] [] false []], t', x, ?_⟩
        have hb : (⟨t', x, 101, 3⟩ : S).e ≠ 0 := show (3 : Nat) ≠ 0 by decide
        show unary rec (f + n + 2 + 1) ⟨M m_minus, t' :: x, 100, 0⟩ = _
        rw [unary_minus, deep_100]
        show ((unary rec (f + n + 2) ⟨t', x, 101, 3⟩).bind fun p => (upS p.2).bind fun s' => some (Ex.mk 14 0 [] [] false [p.1], s')) = _
        rw [unary_parts (f := f + n) (s' := ⟨t', x, 101, 3⟩) (one_bad hb) (one_bad hb) (parts_prim (prim_bad hb) fun w _ => one_bad hb) fun w _ => one_bad hb]
        show ((upS ⟨t', x, 100 + 1, 3⟩).bind fun s' => some (Ex.mk 14 0 [] [] false [.mk 0 0 [] [] false []], s')) = _
        rw [up_bad (by decide)]; rfl
      · obtain ⟨e, t, r, he⟩ := ih (d + 1) (by omega) (by omega)
        refine ⟨.mk 14 0 [] [] false [e], t, r, ?_⟩
        show unary rec (f + n + 2 + 1) ⟨M m_minus, t' :: x, d, 0⟩ = _
        rw [unary_minus, down_at (by omega)]
        show ((unary rec (f + n + 2) ⟨t', x, d + 1, 0⟩).bind fun p => (upS p.2).bind fun s' => some (Ex.mk 14 0 [] [] false [p.1], s')) = _
        rw [show unary rec (f + n + 2) ⟨t', x, d + 1, 0⟩ = _ from he]
        show ((upS ⟨t, r, d + 1, 3⟩).bind fun s' => some (Ex.mk 14 0 [] [] false [e], s')) = _
        rw [up_bad (by omega)]; rfl
end Go.PQ

/- The plain parser: statements, methods and fields that are known, one after another. -/
namespace Go.PQ
open Go.Eng
set_option maxRecDepth 100000
section
variable {st ch : PM St} {f d : Nat} {u : Tok} {r : List Tok}
theorem stmt_ret : stmtF st ch f ⟨W w_return, u :: r, d, 0⟩ = (expr f ⟨u, r, d, 0⟩).bind fun x => endP (.mk 6 [] tyZ [x.1] [] []) x.2 := rfl
theorem stmt_print : stmtF st ch f ⟨W w_print, u :: r, d, 0⟩ = (expr f ⟨u, r, d, 0⟩).bind fun x => endP (.mk 7 [] tyZ [x.1] [] []) x.2 := rfl
theorem stmt_while : stmtF st ch f ⟨W w_while, u :: r, d, 0⟩ = (expr f ⟨u, r, d, 0⟩).bind fun c => (blockP st f c.2).bind fun t => some (.mk 5 [] tyZ [c.1] t.1 [], t.2) := rfl
theorem stmt_let : stmtF st ch f ⟨W w_let, u :: r, d, 0⟩ = (typT ⟨u, r, d, 0⟩).bind fun t => (nameT 3 t.2).bind fun n => (wantT [m_put] n.2).bind fun s1 => (expr f s1).bind fun x => endP (.mk 1 n.1 t.1 [x.1] [] []) x.2 := rfl
theorem stmt_if : stmtF st ch f ⟨W w_if, u :: r, d, 0⟩ = ch ⟨W w_if, u :: r, d, 0⟩ := rfl
theorem sc_f : sc (f + 1) false = stmtF (sc f false) (sc f true) f := rfl
theorem sc_t : sc (f + 1) true = choiceF (sc f false) (sc f true) f := rfl
theorem end_ok {a : St} : endP a ⟨M m_semi, u :: r, d, 0⟩ = some (a, ⟨u, r, d, 0⟩) := rfl
theorem block_rc {out : List St} : blockL st (f + 1) out ⟨M m_rc, u :: r, d, 0⟩ = some (out, ⟨u, r, d, 0⟩) := rfl
theorem block_bad {out : List St} {s : S} (h : s.e ≠ 0) : blockL st (f + 1) out s = some (out, s) := by
  show (bif s.ok then _ else some (out, s)) = _
  rw [bad_ok h]; rfl
theorem block_step {out : List St} {t : Tok} {q : List Tok} {a : St} {s' : S} (h0 : oneT m_rc ⟨t, q, d, 0⟩ = false) (hl : out.length < 1000000) (h : st ⟨t, q, d, 0⟩ = some (a, s')) : blockL st (f + 1) out ⟨t, q, d, 0⟩ = blockL st f (out ++ [a]) s' := by
  show ((takeT m_rc ⟨t, q, d, 0⟩).bind fun p => bif p.1 then some (out, p.2) else (st p.2).bind fun q => bif decide (out.length < 1000000) then blockL st f (out ++ [q.1]) q.2 else none) = _
  rw [take_no h0]
  show ((st ⟨t, q, d, 0⟩).bind fun q => bif decide (out.length < 1000000) then blockL st f (out ++ [q.1]) q.2 else none) = _
  rw [h]
  show (bif decide (out.length < 1000000) then blockL st f (out ++ [a]) s' else none) = _
  rw [decide_eq_true hl]; rfl
theorem blockP_of {b : List St} {s' s'' : S} (hd : d < 100) (h : blockL st f [] ⟨u, r, d + 1, 0⟩ = some (b, s')) (hu : upS s' = some s'') : blockP st f ⟨M m_lc, u :: r, d, 0⟩ = some (b, s'') := by
  show ((downS ⟨M m_lc, u :: r, d, 0⟩).bind fun s1 => (wantT [m_lc] s1).bind fun s2 => (blockL st f [] s2).bind fun p => (upS p.2).bind fun s' => some (p.1, s')) = _
  rw [down_at hd]
  show ((wantT [m_lc] ⟨M m_lc, u :: r, d + 1, 0⟩).bind fun s2 => (blockL st f [] s2).bind fun p => (upS p.2).bind fun s' => some (p.1, s')) = _
  rw [want_mark]
  show ((blockL st f [] ⟨u, r, d + 1, 0⟩).bind fun p => (upS p.2).bind fun s' => some (p.1, s')) = _
  rw [h]
  show ((upS s').bind fun s' => some (b, s')) = _
  rw [hu]; rfl
theorem blockP_bad {s : S} (h : s.e ≠ 0) (hd : s.deep < 1000000) : blockP st (f + 1) s = some ([], s) := by
  unfold blockP
  rw [bad_down h hd]
  show ((wantT [m_lc] { s with deep := s.deep + 1 }).bind fun s2 => (blockL st (f + 1) [] s2).bind fun p => (upS p.2).bind fun s' => some (p.1, s')) = _
  rw [bad_want (s := { s with deep := s.deep + 1 }) h]
  show ((blockL st (f + 1) [] { s with deep := s.deep + 1 }).bind fun p => (upS p.2).bind fun s' => some (p.1, s')) = _
  rw [block_bad (s := { s with deep := s.deep + 1 }) h]
  show ((upS { s with deep := s.deep + 1 }).bind fun s' => some ([], s')) = _
  unfold upS; simp only [hd, decide_true, cond_true]; rfl
end
/- a return of what is known -/
theorem ret_ok {f g d : Nat} {u v : Tok} {r q : List Tok} {e : Ex} {out : List St} (hl : out.length < 1000000) (h : expr f ⟨u, r, d, 0⟩ = some (e, ⟨M m_semi, v :: q, d, 0⟩)) :
    blockL (sc (f + 1) false) (g + 1) out ⟨W w_return, u :: r, d, 0⟩ = blockL (sc (f + 1) false) g (out ++ [.mk 6 [] tyZ [e] [] []]) ⟨v, q, d, 0⟩ := by
  refine block_step rfl hl ?_
  rw [sc_f, stmt_ret, h]; exact end_ok
theorem ret_bad {f g d x : Nat} {u t : Tok} {r q : List Tok} {e : Ex} {out : List St} (hx : x ≠ 0) (hl : out.length < 1000000) (h : expr f ⟨u, r, d, 0⟩ = some (e, ⟨t, q, d, x⟩)) :
    ∃ b, blockL (sc (f + 1) false) (g + 2) out ⟨W w_return, u :: r, d, 0⟩ = some (b, ⟨t, q, d, x⟩) := by
  have hb : (⟨t, q, d, x⟩ : S).e ≠ 0 := hx
  refine ⟨_, (block_step (s' := ⟨t, q, d, x⟩) (a := .mk 6 [] tyZ [e] [] []) rfl hl ?_).trans (block_bad hb)⟩
  rw [sc_f, stmt_ret, h]; exact bad_end hb
/- blocks in each other -/
def whileT : List Tok := [W w_while, W w_true, M m_lc]
theorem while_ok {f g d : Nat} {u : Tok} {r : List Tok} {b out : List St} {v : Tok} {q : List Tok} (hd : d < 99) (hl : out.length < 1000000) (h : blockL (sc (f + 4) false) (f + 4) [] ⟨u, r, d + 1, 0⟩ = some (b, ⟨v, q, d + 1, 0⟩)) :
    ∃ a, blockL (sc (f + 5) false) (g + 1) out ⟨W w_while, W w_true :: M m_lc :: u :: r, d, 0⟩ = blockL (sc (f + 5) false) g (out ++ [a]) ⟨v, q, d, 0⟩ := by
  refine ⟨.mk 5 [] tyZ [.mk 2 0 [] [] false []] b [], block_step rfl hl ?_⟩
  rw [sc_f, stmt_while]
  have he : expr (f + 4) ⟨W w_true, M m_lc :: u :: r, d, 0⟩ = some (.mk 2 0 [] [] false [], ⟨M m_lc, u :: r, d, 0⟩) :=
    expr_lift (f := f + 2) (down_at (by omega)) (unary_parts rfl rfl (parts_prim prim_true fun w hw => by rw [one_mark]; revert w; decide) fun w hw => by rw [one_mark]; revert w; decide) (fun w hw => by rw [one_mark]; revert w; decide) (up_at (by omega))
  rw [he]
  show ((blockP (sc (f + 4) false) (f + 4) ⟨M m_lc, u :: r, d, 0⟩).bind fun t => some (St.mk 5 [] tyZ [.mk 2 0 [] [] false []] t.1 [], t.2)) = _
  rw [blockP_of (by omega) h (up_at (by omega))]; rfl
theorem while_bad {f g d : Nat} {u : Tok} {r : List Tok} {b out : List St} {v : Tok} {q : List Tok} (hd : d < 100) (hl : out.length < 1000000) (h : blockL (sc (f + 4) false) (f + 4) [] ⟨u, r, d + 1, 0⟩ = some (b, ⟨v, q, d + 1, 3⟩)) :
    ∃ b, blockL (sc (f + 5) false) (g + 2) out ⟨W w_while, W w_true :: M m_lc :: u :: r, d, 0⟩ = some (b, ⟨v, q, d, 3⟩) := by
  have hb : (⟨v, q, d, 3⟩ : S).e ≠ 0 := show (3 : Nat) ≠ 0 by decide
  refine ⟨_, (block_step (s' := ⟨v, q, d, 3⟩) (a := .mk 5 [] tyZ [.mk 2 0 [] [] false []] b []) rfl hl ?_).trans (block_bad hb)⟩
  rw [sc_f, stmt_while]
  have he : expr (f + 4) ⟨W w_true, M m_lc :: u :: r, d, 0⟩ = some (.mk 2 0 [] [] false [], ⟨M m_lc, u :: r, d, 0⟩) :=
    expr_lift (f := f + 2) (down_at (by omega)) (unary_parts rfl rfl (parts_prim prim_true fun w hw => by rw [one_mark]; revert w; decide) fun w hw => by rw [one_mark]; revert w; decide) (fun w hw => by rw [one_mark]; revert w; decide) (up_at (by omega))
  rw [he]
  show ((blockP (sc (f + 4) false) (f + 4) ⟨M m_lc, u :: r, d, 0⟩).bind fun t => some (St.mk 5 [] tyZ [.mk 2 0 [] [] false []] t.1 [], t.2)) = _
  rw [blockP_of hd h (up_bad (by omega))]; rfl
theorem while_100 {f g : Nat} {u : Tok} {r : List Tok} {out : List St} (hl : out.length < 1000000) :
    ∃ b t q, blockL (sc (f + 5) false) (g + 2) out ⟨W w_while, u :: r, 100, 0⟩ = some (b, ⟨t, q, 100, 3⟩) := by
  have hb : (⟨u, r, 100, 3⟩ : S).e ≠ 0 := show (3 : Nat) ≠ 0 by decide
  refine ⟨_, u, r, (block_step (s' := ⟨u, r, 100, 3⟩) (a := .mk 5 [] tyZ [.mk 0 0 [] [] false []] [] []) rfl hl ?_).trans (block_bad hb)⟩
  rw [sc_f, stmt_while, expr_100]
  show ((blockP (sc (f + 4) false) (f + 4) ⟨u, r, 100, 3⟩).bind fun t => some (St.mk 5 [] tyZ [.mk 0 0 [] [] false []] t.1 [], t.2)) = _
  rw [blockP_bad hb (show 100 < 1000000 by decide)]; rfl
def ret1 : List Tok := [W w_return, N [49] 1, M m_semi]
theorem num_ok {f d : Nat} {l : Bs} {m : Nat} {q : List Tok} (hd : d < 100) : expr (f + 4) ⟨N l m, M m_semi :: q, d, 0⟩ = some (.mk 1 m [] [] false [], ⟨M m_semi, q, d, 0⟩) :=
  br_ok (v := M m_semi) (fun d w hw => by rw [one_mark]; revert w; decide) (fun d w hw => by rw [one_mark]; revert w; decide) 0 d (by omega)
theorem nest_ok : ∀ (n d f g : Nat) (v : Tok) (q : List Tok), d + n < 100 → ∃ b, blockL (sc (f + n + 6) false) (g + n + 6) [] (S.of (reps n whileT ++ ret1 ++ reps n [M m_rc] ++ M m_rc :: v :: q) d) = some (b, ⟨v, q, d, 0⟩) := by
  intro n
  induction n with
  | zero =>
    intro d f g v q hd
    refine ⟨_, (ret_ok (f := f + 5) (g := g + 5) (out := []) (by decide) (num_ok (f := f + 1) (by omega))).trans block_rc⟩
  | succ n ih =>
    intro d f g v q hd
    obtain ⟨b, hb⟩ := ih (d + 1) f f (M m_rc) (v :: q) (by omega)
    have e2 : reps (n + 1) whileT ++ ret1 ++ reps (n + 1) [M m_rc] ++ M m_rc :: v :: q = whileT ++ (reps n whileT ++ ret1 ++ reps n [M m_rc] ++ M m_rc :: M m_rc :: v :: q) := by
      rw [reps_s, reps_e]; simp
    rw [e2]
    generalize hx : reps n whileT ++ ret1 ++ reps n [M m_rc] ++ M m_rc :: M m_rc :: v :: q = x at hb
    cases x with
    | nil => simp at hx
    | cons t x =>
      obtain ⟨a, ha⟩ := while_ok (f := f + n + 2) (g := g + n + 6) (out := []) (v := M m_rc) (q := v :: q) (by omega) (by decide) hb
      exact ⟨_, ha.trans block_rc⟩
theorem nest_bad {y : Tok} {p : List Tok} : ∀ (n d f g : Nat), d ≤ 100 → 100 ≤ d + n → ∃ b t r, blockL (sc (f + n + 6) false) (g + n + 6) [] (S.of (reps n whileT ++ W w_return :: y :: p) d) = some (b, ⟨t, r, d, 3⟩) := by
  intro n
  induction n with
  | zero =>
    intro d f g h1 h2
    obtain rfl : d = 100 := by omega
    obtain ⟨b, hb⟩ := ret_bad (f := f + 5) (g := g + 4) (out := []) (x := 3) (by decide) (by decide) (expr_100 (t := y) (r := p) (f := f + 1))
    exact ⟨b, _, _, hb⟩
  | succ n ih =>
    intro d f g h1 h2
    rw [reps_s]
    by_cases hd : d = 100
    · subst hd
      exact while_100 (f := f + n + 2) (g := g + n + 5) (out := []) (by decide)
    · obtain ⟨b, t, r, hb⟩ := ih (d + 1) f f (by omega) (by omega)
      rw [List.append_assoc]
      generalize hx : reps n whileT ++ W w_return :: y :: p = x at hb
      cases x with
      | nil => simp at hx
      | cons z x =>
        obtain ⟨a, ha⟩ := while_bad (f := f + n + 2) (g := g + n + 5) (out := []) (by omega) (by decide) hb
        exact ⟨_, _, _, ha⟩
end Go.PQ

/- The plain parser: whole classes whose frame is known; members as many as may be, and one more. -/
namespace Go.PQ
open Go.Eng
set_option maxRecDepth 100000
theorem typ_int {u : Tok} {r : List Tok} {d : Nat} (h : oneT m_lb ⟨u, r, d, 0⟩ = false) : typT ⟨W w_int, u :: r, d, 0⟩ = some (⟨w_int, false⟩, ⟨u, r, d, 0⟩) := by
  show ((takeT m_lb ⟨u, r, d, 0⟩).bind fun q => bif q.1 then (wantT [m_rb] q.2).bind fun s => some (Ty.mk w_int true, s) else some (Ty.mk w_int false, q.2)) = _
  rw [take_no h]; rfl
/- a method of no parameters that gives an int, named l -/
theorem meth_of {f : Nat} {l : Bs} {u : Tok} {r : List Tok} {b : List St} {s' s'' : S} (h : blockL (sc (f + 1) false) (f + 1) [] ⟨u, r, 1, 0⟩ = some (b, s')) (hu : upS s' = some s'') :
    methodP (f + 1) ⟨W w_method, W w_int :: L l :: M m_lp :: M m_rp :: M m_lc :: u :: r, 0, 0⟩ = some (⟨l, false, [], ⟨w_int, false⟩, b⟩, s'') := by
  show ((blockP (sc (f + 1) false) (f + 1) ⟨M m_lc, u :: r, 0, 0⟩).bind fun b => some (Me.mk l false [] ⟨w_int, false⟩ b.1, b.2)) = _
  rw [blockP_of (by decide) h hu]; rfl
theorem class_meth {f g : Nat} {fs : List Va} {ms : List Me} {u : Tok} {r : List Tok} {m : Me} {s' : S} (h : methodP f ⟨W w_method, u :: r, 0, 0⟩ = some (m, s')) :
    classL f (g + 1) fs ms ⟨W w_method, u :: r, 0, 0⟩ = classL f g fs (ms ++ [m]) (manyS (ms.length + 1) s') := by
  show ((methodP f ⟨W w_method, u :: r, 0, 0⟩).bind fun m => classL f g fs (ms ++ [m.1]) (manyS (ms.length + 1) m.2)) = _
  rw [h]; rfl
theorem class_field {f g : Nat} {fs : List Va} {ms : List Me} {l : Bs} {u : Tok} {r : List Tok} :
    classL f (g + 1) fs ms ⟨W w_field, W w_int :: L l :: u :: r, 0, 0⟩ = (wantT [m_semi] (manyS (fs.length + 1) ⟨u, r, 0, 0⟩)).bind fun s1 => classL f g (fs ++ [⟨l, ⟨w_int, false⟩⟩]) ms s1 := rfl
theorem class_rc {f g : Nat} {fs : List Va} {ms : List Me} {u : Tok} {r : List Tok} : classL f (g + 1) fs ms ⟨M m_rc, u :: r, 0, 0⟩ = some ((fs, ms), ⟨u, r, 0, 0⟩) := rfl
theorem class_bad {f g : Nat} {fs : List Va} {ms : List Me} {s : S} (h : s.e ≠ 0) : classL f (g + 1) fs ms s = some ((fs, ms), s) := by
  show (bif s.ok then _ else some ((fs, ms), s)) = _
  rw [bad_ok h]; rfl
def finS (s : S) : S := bif s.ok && !decide (s.t.kind = 0) then failS 21 s else s
theorem fin_bad {s : S} (h : s.e ≠ 0) : finS s = s := by unfold finS; rw [bad_ok h]; rfl
theorem parse_of {f : Nat} {l : Bs} {u : Tok} {r : List Tok} {x : List Va × List Me} {s : S} (h : classL f f [] [] ⟨u, r, 0, 0⟩ = some (x, s)) :
    parseT f (W w_class :: U l :: M m_lc :: u :: r) = some (⟨l, [], x.1, x.2⟩, (finS s).e) := by
  show (((classL f f [] [] ⟨u, r, 0, 0⟩).bind fun x => some (Cl.mk l [] x.1.1 x.1.2, finS x.2)).bind fun p => some (p.1, p.2.e)) = _
  rw [h]; rfl
/- one method: its block tells all -/
def hdT (c l : Bs) : List Tok := [W w_class, U c, M m_lc, W w_method, W w_int, L l, M m_lp, M m_rp, M m_lc]
theorem one_ok {f : Nat} {c l : Bs} {u : Tok} {r : List Tok} {b : List St} (h : blockL (sc (f + 2) false) (f + 2) [] ⟨u, r, 1, 0⟩ = some (b, ⟨M m_rc, [tokZ], 1, 0⟩)) :
    parseT (f + 2) (hdT c l ++ u :: r) = some (⟨c, [], [], [⟨l, false, [], ⟨w_int, false⟩, b⟩]⟩, 0) := by
  exact parse_of (s := ⟨tokZ, [], 0, 0⟩) (x := ([], [⟨l, false, [], ⟨w_int, false⟩, b⟩])) (u := W w_method) (r := W w_int :: L l :: M m_lp :: M m_rp :: M m_lc :: u :: r) ((class_meth (meth_of (f := f + 1) h (up_at (d := 0) (by decide)))).trans class_rc)
theorem one_bad' {f x : Nat} {c l : Bs} {u t : Tok} {r q : List Tok} {b : List St} (hx : x ≠ 0) (h : blockL (sc (f + 2) false) (f + 2) [] ⟨u, r, 1, 0⟩ = some (b, ⟨t, q, 1, x⟩)) :
    parseT (f + 2) (hdT c l ++ u :: r) = some (⟨c, [], [], [⟨l, false, [], ⟨w_int, false⟩, b⟩]⟩, x) := by
  have hb : (⟨t, q, 0, x⟩ : S).e ≠ 0 := hx
  rw [show hdT c l ++ u :: r = W w_class :: U c :: M m_lc :: W w_method :: W w_int :: L l :: M m_lp :: M m_rp :: M m_lc :: u :: r from rfl,
    parse_of (s := ⟨t, q, 0, x⟩) ((class_meth (meth_of (f := f + 1) h (up_bad (d := 0) (by decide)))).trans (class_bad hb)), fin_bad hb]
  rfl
/- the five kinds of texts -/
def clT (ts : List Tok) : List Tok := hdT [65] [109] ++ ts ++ [M m_rc, M m_rc, tokZ]
def brT (n : Nat) : List Tok := W w_return :: (reps n [M m_lp] ++ N [49] 1 :: (reps n [M m_rp] ++ [M m_semi]))
def sgT (n : Nat) : List Tok := W w_return :: (reps n [M m_minus] ++ [N [49] 1, M m_semi])
def whT (n : Nat) : List Tok := reps n whileT ++ ret1 ++ reps n [M m_rc]
theorem clT_s (t : Tok) (ts : List Tok) : clT (t :: ts) = hdT [65] [109] ++ t :: (ts ++ [M m_rc, M m_rc, tokZ]) := by simp [clT]
theorem semi_noOp {q : List Tok} (d : Nat) : noOp ⟨M m_semi, q, d, 0⟩ := fun w hw => by rw [one_mark]; revert w; decide
theorem semi_noTail {q : List Tok} (d : Nat) : noTail ⟨M m_semi, q, d, 0⟩ := fun w hw => by rw [one_mark]; revert w; decide
theorem br_class (n : Nat) : ∃ c e, parseT (n + 9) (clT (brT n)) = some (c, e) ∧ (e = if n ≤ 98 then 0 else 3) := by
  unfold brT
  rw [clT_s]
  have hx : reps n [M m_lp] ++ N [49] 1 :: (reps n [M m_rp] ++ [M m_semi]) ++ [M m_rc, M m_rc, tokZ] = reps n [M m_lp] ++ N [49] 1 :: (reps n [M m_rp] ++ M m_semi :: [M m_rc, M m_rc, tokZ]) := by simp
  rw [hx]
  obtain ⟨t, x, hcons⟩ : ∃ t x, reps n [M m_lp] ++ N [49] 1 :: (reps n [M m_rp] ++ M m_semi :: [M m_rc, M m_rc, tokZ]) = t :: x := by
    cases n with
    | zero => exact ⟨_, _, rfl⟩
    | succ n => rw [reps_s]; exact ⟨_, _, rfl⟩
  by_cases h : n ≤ 98
  · have hb := br_ok (l := [49]) (m := 1) (f := 4) (v := M m_semi) (q := [M m_rc, M m_rc, tokZ]) semi_noOp semi_noTail n 1 (by omega)
    rw [show 4 + n + 4 = n + 8 by omega, hcons] at hb
    rw [if_pos h, hcons]
    exact ⟨_, _, one_ok (f := n + 7) ((ret_ok (f := n + 8) (g := n + 8) (out := []) (by decide) hb).trans block_rc), rfl⟩
  · obtain ⟨e, t', r, hb⟩ := br_bad (f := 4) (v := N [49] 1) (q := reps n [M m_rp] ++ M m_semi :: [M m_rc, M m_rc, tokZ]) n 1 (by omega) (by omega)
    rw [show 4 + n + 4 = n + 8 by omega, hcons] at hb
    rw [if_neg h, hcons]
    obtain ⟨b, hr⟩ := ret_bad (f := n + 8) (g := n + 7) (out := []) (x := 3) (by decide) (by decide) hb
    exact ⟨_, _, one_bad' (f := n + 7) (by decide) hr, rfl⟩
theorem sg_class (n : Nat) : ∃ c e, parseT (n + 9) (clT (sgT n)) = some (c, e) ∧ (e = if n ≤ 98 then 0 else 3) := by
  unfold sgT
  rw [clT_s]
  have hx : reps n [M m_minus] ++ [N [49] 1, M m_semi] ++ [M m_rc, M m_rc, tokZ] = reps n [M m_minus] ++ N [49] 1 :: M m_semi :: [M m_rc, M m_rc, tokZ] := by simp
  rw [hx]
  obtain ⟨t, x, hcons⟩ : ∃ t x, reps n [M m_minus] ++ N [49] 1 :: M m_semi :: [M m_rc, M m_rc, tokZ] = t :: x := by
    cases n with
    | zero => exact ⟨_, _, rfl⟩
    | succ n => rw [reps_s]; exact ⟨_, _, rfl⟩
  by_cases h : n ≤ 98
  · obtain ⟨e, hb⟩ := sg_ok (rec := expr (n + 7)) (l := [49]) (m := 1) (f := 5) (v := M m_semi) (q := [M m_rc, M m_rc, tokZ]) semi_noOp semi_noTail n 2 (by omega)
    rw [show 5 + n + 2 = n + 7 by omega, hcons] at hb
    have he : expr (n + 8) ⟨t, x, 1, 0⟩ = some (e, ⟨M m_semi, [M m_rc, M m_rc, tokZ], 1, 0⟩) := expr_lift (f := n + 6) (down_at (by decide)) hb (semi_noOp _) (up_at (by decide))
    rw [if_pos h, hcons]
    exact ⟨_, _, one_ok (f := n + 7) ((ret_ok (f := n + 8) (g := n + 8) (out := []) (by decide) he).trans block_rc), rfl⟩
  · obtain ⟨e, t', r, hb⟩ := sg_bad (rec := expr (n + 7)) (f := 5) (v := N [49] 1) (q := M m_semi :: [M m_rc, M m_rc, tokZ]) n 2 (by omega) (by omega)
    rw [show 5 + n + 2 = n + 7 by omega, hcons] at hb
    have hbad : (⟨t', r, 2, 3⟩ : S).e ≠ 0 := show (3 : Nat) ≠ 0 by decide
    have he : expr (n + 8) ⟨t, x, 1, 0⟩ = some (e, ⟨t', r, 1, 3⟩) := expr_lift (f := n + 6) (down_at (by decide)) hb (fun w _ => one_bad hbad) (up_bad (by decide))
    rw [if_neg h, hcons]
    obtain ⟨b, hr⟩ := ret_bad (f := n + 8) (g := n + 7) (out := []) (x := 3) (by decide) (by decide) he
    exact ⟨_, _, one_bad' (f := n + 7) (by decide) hr, rfl⟩
theorem wh_class (n : Nat) : ∃ c e, parseT (n + 9) (clT (whT n)) = some (c, e) ∧ (e = if n ≤ 98 then 0 else 3) := by
  unfold whT clT
  have hx : hdT [65] [109] ++ (reps n whileT ++ ret1 ++ reps n [M m_rc]) ++ [M m_rc, M m_rc, tokZ] = hdT [65] [109] ++ (reps n whileT ++ ret1 ++ reps n [M m_rc] ++ M m_rc :: M m_rc :: [tokZ]) := by simp
  rw [hx]
  obtain ⟨t, x, hcons⟩ : ∃ t x, reps n whileT ++ ret1 ++ reps n [M m_rc] ++ M m_rc :: M m_rc :: [tokZ] = t :: x := by
    cases n with
    | zero => exact ⟨_, _, rfl⟩
    | succ n => rw [reps_s]; exact ⟨_, _, rfl⟩
  by_cases h : n ≤ 98
  · obtain ⟨b, hb⟩ := nest_ok n 1 3 3 (M m_rc) [tokZ] (by omega)
    rw [show 3 + n + 6 = n + 9 by omega, hcons] at hb
    rw [if_pos h, hcons]
    exact ⟨_, _, one_ok (f := n + 7) hb, rfl⟩
  · obtain ⟨b, t', r, hb⟩ := nest_bad (y := N [49] 1) (p := M m_semi :: (reps n [M m_rc] ++ M m_rc :: M m_rc :: [tokZ])) n 1 3 3 (by omega) (by omega)
    rw [show reps n whileT ++ W w_return :: N [49] 1 :: M m_semi :: (reps n [M m_rc] ++ M m_rc :: M m_rc :: [tokZ]) = reps n whileT ++ ret1 ++ reps n [M m_rc] ++ M m_rc :: M m_rc :: [tokZ] by simp [ret1], show 3 + n + 6 = n + 9 by omega, hcons] at hb
    rw [if_neg h, hcons]
    exact ⟨_, _, one_bad' (f := n + 7) (by decide) hb, rfl⟩
/- members -/
def fieldT : List Tok := [W w_field, W w_int, L [120], M m_semi]
def methT : List Tok := [W w_method, W w_int, L [109], M m_lp, M m_rp, M m_lc, M m_rc]
theorem fields_l {f : Nat} {ms : List Me} : ∀ (n g : Nat) (fs : List Va), ∃ x t r e, classL f (g + n + 2) fs ms (S.of (reps n fieldT ++ [M m_rc, tokZ]) 0) = some (x, ⟨t, r, 0, e⟩) ∧ (fs.length ≤ 200 → e = if fs.length + n ≤ 200 then 0 else 4) ∧ (e = 0 → t = tokZ) := by
  intro n
  induction n with
  | zero =>
    intro g fs
    exact ⟨_, tokZ, [], 0, class_rc, fun h => by rw [if_pos (by omega)], fun _ => rfl⟩
  | succ n ih =>
    intro g fs
    obtain ⟨t, x, hcons⟩ : ∃ t x, reps n fieldT ++ [M m_rc, tokZ] = t :: x := by
      cases n with
      | zero => exact ⟨_, _, rfl⟩
      | succ n => rw [reps_s]; exact ⟨_, _, rfl⟩
    have e1 : S.of (reps (n + 1) fieldT ++ [M m_rc, tokZ]) 0 = ⟨W w_field, W w_int :: L [120] :: M m_semi :: t :: x, 0, 0⟩ := by
      rw [reps_s, List.append_assoc, hcons]; rfl
    rw [e1, show g + (n + 1) + 2 = g + n + 2 + 1 by omega, class_field]
    by_cases h : 200 < fs.length + 1
    · have hb : (⟨M m_semi, t :: x, 0, 4⟩ : S).e ≠ 0 := show (4 : Nat) ≠ 0 by decide
      have hm : manyS (fs.length + 1) ⟨M m_semi, t :: x, 0, 0⟩ = ⟨M m_semi, t :: x, 0, 4⟩ := by unfold manyS; rw [decide_eq_true h]; rfl
      rw [hm, bad_want hb]
      exact ⟨_, M m_semi, t :: x, 4, class_bad hb, fun hl => by rw [if_neg (by omega)], fun h => absurd h (by decide)⟩
    · have hm : manyS (fs.length + 1) ⟨M m_semi, t :: x, 0, 0⟩ = ⟨M m_semi, t :: x, 0, 0⟩ := by unfold manyS; rw [decide_eq_false h]; rfl
      rw [hm, want_mark]
      obtain ⟨y, t', r', e, h1, h2, h3⟩ := ih g (fs ++ [⟨[120], ⟨w_int, false⟩⟩])
      rw [hcons] at h1
      refine ⟨y, t', r', e, h1, fun hl => ?_, h3⟩
      rw [h2 (by rw [List.length_append]; show fs.length + 1 ≤ 200; omega), List.length_append]
      show (if fs.length + 1 + n ≤ 200 then 0 else 4) = _
      rw [show fs.length + 1 + n = fs.length + (n + 1) by omega]
theorem meths_l {f : Nat} {fs : List Va} : ∀ (n g : Nat) (ms : List Me), ∃ x t r e, classL (f + 1) (g + n + 2) fs ms (S.of (reps n methT ++ [M m_rc, tokZ]) 0) = some (x, ⟨t, r, 0, e⟩) ∧ (ms.length ≤ 200 → e = if ms.length + n ≤ 200 then 0 else 4) ∧ (e = 0 → t = tokZ) := by
  intro n
  induction n with
  | zero =>
    intro g ms
    exact ⟨_, tokZ, [], 0, class_rc, fun h => by rw [if_pos (by omega)], fun _ => rfl⟩
  | succ n ih =>
    intro g ms
    obtain ⟨t, x, hcons⟩ : ∃ t x, reps n methT ++ [M m_rc, tokZ] = t :: x := by
      cases n with
      | zero => exact ⟨_, _, rfl⟩
      | succ n => rw [reps_s]; exact ⟨_, _, rfl⟩
    have e1 : S.of (reps (n + 1) methT ++ [M m_rc, tokZ]) 0 = ⟨W w_method, W w_int :: L [109] :: M m_lp :: M m_rp :: M m_lc :: M m_rc :: t :: x, 0, 0⟩ := by
      rw [reps_s, List.append_assoc, hcons]; rfl
    rw [e1, show g + (n + 1) + 2 = g + n + 2 + 1 by omega, class_meth (meth_of (s'' := ⟨t, x, 0, 0⟩) block_rc (up_at (by decide)))]
    by_cases h : 200 < ms.length + 1
    · have hb : (⟨t, x, 0, 4⟩ : S).e ≠ 0 := show (4 : Nat) ≠ 0 by decide
      have hm : manyS (ms.length + 1) ⟨t, x, 0, 0⟩ = ⟨t, x, 0, 4⟩ := by unfold manyS; rw [decide_eq_true h]; rfl
      rw [hm]
      exact ⟨_, t, x, 4, class_bad hb, fun hl => by rw [if_neg (by omega)], fun h => absurd h (by decide)⟩
    · have hm : manyS (ms.length + 1) ⟨t, x, 0, 0⟩ = ⟨t, x, 0, 0⟩ := by unfold manyS; rw [decide_eq_false h]; rfl
      rw [hm]
      obtain ⟨y, t', r', e, h1, h2, h3⟩ := ih g (ms ++ [⟨[109], false, [], ⟨w_int, false⟩, []⟩])
      rw [hcons] at h1
      refine ⟨y, t', r', e, h1, fun hl => ?_, h3⟩
      rw [h2 (by rw [List.length_append]; show ms.length + 1 ≤ 200; omega), List.length_append]
      show (if ms.length + 1 + n ≤ 200 then 0 else 4) = _
      rw [show ms.length + 1 + n = ms.length + (n + 1) by omega]
def memT (l : List Tok) (n : Nat) : List Tok := [W w_class, U [65], M m_lc] ++ (reps n l ++ [M m_rc, tokZ])
theorem mem_class {f n : Nat} {l : List Tok} {x : List Va × List Me} {t : Tok} {r : List Tok} {e : Nat} (h : classL f f [] [] (S.of (reps n l ++ [M m_rc, tokZ]) 0) = some (x, ⟨t, r, 0, e⟩)) (he : e = 0 → t = tokZ) (hl : l ≠ []) : parseT f (memT l n) = some (⟨[65], [], x.1, x.2⟩, e) := by
  obtain ⟨t', x', hcons⟩ : ∃ t x, reps n l ++ [M m_rc, tokZ] = t :: x := by
    cases n with
    | zero => exact ⟨_, _, rfl⟩
    | succ n => cases l with
      | nil => exact absurd rfl hl
      | cons a l => rw [reps_s]; exact ⟨_, _, rfl⟩
  rw [hcons] at h
  unfold memT
  rw [hcons, show [W w_class, U [65], M m_lc] ++ t' :: x' = W w_class :: U [65] :: M m_lc :: t' :: x' from rfl, parse_of h]
  by_cases h0 : e = 0
  · rw [he h0, h0]; rfl
  · rw [fin_bad (s := ⟨t, r, 0, e⟩) h0]
theorem field_class (n : Nat) : ∃ c e, parseT (n + 9) (memT fieldT n) = some (c, e) ∧ (e = if n ≤ 200 then 0 else 4) := by
  obtain ⟨x, t, r, e, h1, h2, h3⟩ := fields_l (f := n + 9) (ms := []) n 7 []
  rw [show 7 + n + 2 = n + 9 by omega] at h1
  exact ⟨_, e, mem_class h1 h3 (by simp [fieldT]), by rw [h2 (by decide)]; simp⟩
theorem meth_class (n : Nat) : ∃ c e, parseT (n + 9) (memT methT n) = some (c, e) ∧ (e = if n ≤ 200 then 0 else 4) := by
  obtain ⟨x, t, r, e, h1, h2, h3⟩ := meths_l (f := n + 8) (fs := []) n 7 []
  rw [show 7 + n + 2 = n + 9 by omega] at h1
  exact ⟨_, e, mem_class h1 h3 (by simp [methT]), by rw [h2 (by decide)]; simp⟩
end Go.PQ

/- The texts of brackets, signs and blocks in each other, and of many members: their tokens. -/
namespace Go.PQ
open Go.Eng
set_option maxRecDepth 100000
theorem lex_gap {g s : Bs} {ts : List Tok} (hg : Gap g) (h : LexTo s ts) : LexTo (g ++ s) ts := fun f hf => by
  rw [List.length_append] at hf
  have := h f (by omega)
  cases f with
  | zero => omega
  | succ f => rw [lexF_s, hg, ← lexF_s]; exact this
theorem lex_t {t : Tok} {r : Bs} {ts : List Tok} (hw : Wf t) (hs : SepH t r = true) (h : LexTo r ts) : LexTo (t.text ++ r) (t :: ts) := lex_tok gap_nil hw (sep_of hs) h
theorem blank1 : Gap [32] := gap_blank (by decide)
def safe (m : Bs) : Bool := decide (m ∈ marksL) && !(decide (m = m_put) || (decide (m = m_not) || decide (m = m_less))) && !decide (m = m_slash)
theorem lex_m {m : Bs} {r : Bs} {ts : List Tok} (hm : safe m = true) (h : LexTo r ts) : LexTo (m ++ r) (M m :: ts) := by
  simp only [safe, Bool.and_eq_true, decide_eq_true_eq, Bool.not_eq_true'] at hm
  refine lex_t (t := M m) (.mark hm.1.1) ?_ h
  cases r with
  | nil => rfl
  | cons c r =>
    show okAfter (M m) c = true
    show okNext m c = true
    unfold okNext
    rw [hm.1.2, hm.2]; rfl
/- a word or a name with a blank behind it -/
theorem lex_b {t : Tok} {r : Bs} {ts : List Tok} (hw : Wf t) (h : LexTo r ts) : LexTo (t.text ++ ([32] ++ r)) (t :: ts) := lex_t hw (free_after (by decide)) (lex_gap blank1 h)
def repB (n : Nat) (s : Bs) : Bs := (List.replicate n s).flatten
theorem repB_s (n : Nat) (s : Bs) : repB (n + 1) s = s ++ repB n s := by simp [repB, List.replicate_succ]
theorem repB_e (n : Nat) (s : Bs) : repB (n + 1) s = repB n s ++ s := by
  induction n with
  | zero => simp [repB]
  | succ n ih => rw [repB_s (n + 1), ih, ← List.append_assoc, ← repB_s, ih]
theorem repB_len (n : Nat) (s : Bs) : (repB n s).length = n * s.length := by
  induction n with
  | zero => simp [repB]
  | succ n ih => rw [repB_s, List.length_append, ih, Nat.succ_mul]; omega
theorem lex_rep {s : Bs} {l : List Tok} (h : ∀ r ts, LexTo r ts → LexTo (s ++ r) (l ++ ts)) {r : Bs} {ts : List Tok} (hr : LexTo r ts) : ∀ n, LexTo (repB n s ++ r) (reps n l ++ ts)
  | 0 => hr
  | n + 1 => by rw [repB_s, reps_s, List.append_assoc, List.append_assoc]; exact h _ _ (lex_rep h hr n)
theorem wf_word {l : Bs} (h : decide (l ∈ wordsL) = true) : Wf (W l) := .word (of_decide_eq_true h)
def nameB (p : UInt8 → Bool) (l : Bs) : Bool := (match l with | [] => false | c :: _ => p c) && l.all inner && decide (l.length ≤ 40)
theorem nameB_ok {p : UInt8 → Bool} {l : Bs} (h : nameB p l = true) : NameOk p l := by
  simp only [nameB, Bool.and_eq_true, decide_eq_true_eq] at h
  refine ⟨?_, List.all_eq_true.1 h.1.2, h.2⟩
  cases l with
  | nil => exact absurd h.1.1 (by simp)
  | cons c t => exact ⟨c, t, rfl, h.1.1⟩
theorem wf_U {l : Bs} (h : nameB great l = true) : Wf (U l) := .upper (nameB_ok h)
theorem wf_L {l : Bs} (h : (nameB small l && !decide (l ∈ wordsL)) = true) : Wf (L l) := by
  simp only [Bool.and_eq_true, Bool.not_eq_true'] at h
  exact .lower (nameB_ok h.1) (of_decide_eq_false h.2)
def hdB : Bs := [99, 108, 97, 115, 115, 32, 65, 32, 123, 32, 109, 101, 116, 104, 111, 100, 32, 105, 110, 116, 32, 109, 40, 41, 32, 123, 32]
def tlB : Bs := [32, 125, 32, 125]
theorem tail_lex : LexTo tlB [M m_rc, M m_rc, tokZ] := lex_gap blank1 (lex_m (m := m_rc) (r := [32] ++ m_rc) (by decide) (lex_gap blank1 (lex_m (m := m_rc) (r := []) (by decide) (lex_end gap_nil))))
theorem head_lex {r : Bs} {ts : List Tok} (h : LexTo r ts) : LexTo (hdB ++ r) (hdT [65] [109] ++ ts) :=
  lex_b (t := W w_class) (wf_word (by decide)) (lex_b (t := U [65]) (wf_U (by decide)) (lex_m (m := m_lc) (by decide) (lex_gap blank1 (lex_b (t := W w_method) (wf_word (by decide)) (lex_b (t := W w_int) (wf_word (by decide))
    (lex_t (t := L [109]) (r := m_lp ++ (m_rp ++ ([32] ++ (m_lc ++ ([32] ++ r))))) (wf_L (by decide)) rfl (lex_m (m := m_lp) (by decide) (lex_m (m := m_rp) (by decide) (lex_gap blank1 (lex_m (m := m_lc) (by decide) (lex_gap blank1 h)))))))))))
theorem wf_1 : Wf (N [49] 1) := .num (by simp) (by decide) rfl
def brB (n : Nat) : Bs := [114, 101, 116, 117, 114, 110, 32] ++ repB n [40] ++ [49] ++ repB n [41] ++ [59]
def sgB (n : Nat) : Bs := [114, 101, 116, 117, 114, 110, 32] ++ repB n [45] ++ [49, 59]
def whB (n : Nat) : Bs := repB n [119, 104, 105, 108, 101, 32, 116, 114, 117, 101, 32, 123, 32] ++ [114, 101, 116, 117, 114, 110, 32, 49, 59] ++ repB n [125]
def clB (s : Bs) : Bs := hdB ++ s ++ tlB
def fiB (n : Nat) : Bs := [99, 108, 97, 115, 115, 32, 65, 32, 123, 32] ++ repB n [102, 105, 101, 108, 100, 32, 105, 110, 116, 32, 120, 59] ++ [32, 125]
def meB (n : Nat) : Bs := [99, 108, 97, 115, 115, 32, 65, 32, 123, 32] ++ repB n [109, 101, 116, 104, 111, 100, 32, 105, 110, 116, 32, 109, 40, 41, 32, 123, 32, 125, 32] ++ [32, 125]
theorem rp_lex (n : Nat) {r : Bs} {ts : List Tok} (h : LexTo r ts) : LexTo (repB n [41] ++ r) (reps n [M m_rp] ++ ts) := lex_rep (fun _ _ h => lex_m (m := m_rp) (by decide) h) h n
theorem sep_rep {n : Nat} {c : UInt8} {t : Tok} {r : Bs} (h : okAfter t c = true) (h2 : SepH t r = true) : SepH t (repB n [c] ++ r) = true := by
  cases n with
  | zero => exact h2
  | succ n => rw [repB_s]; exact h
theorem br_lex (n : Nat) : LexTo (clB (brB n)) (clT (brT n)) := by
  have e : clB (brB n) = hdB ++ (w_return ++ ([32] ++ (repB n [40] ++ ([49] ++ (repB n [41] ++ (m_semi ++ tlB)))))) := by simp [clB, brB, w_return, m_semi]
  have e2 : clT (brT n) = hdT [65] [109] ++ (W w_return :: (reps n [M m_lp] ++ (N [49] 1 :: (reps n [M m_rp] ++ (M m_semi :: [M m_rc, M m_rc, tokZ]))))) := by simp [clT, brT]
  rw [e, e2]
  refine head_lex (lex_b (t := W w_return) (wf_word (by decide)) (lex_rep (fun _ _ h => lex_m (m := m_lp) (by decide) h) (lex_t (t := N [49] 1) wf_1 (sep_rep (by decide) (by decide)) (rp_lex n (lex_m (m := m_semi) (by decide) tail_lex))) n))
theorem sg_lex (n : Nat) : LexTo (clB (sgB n)) (clT (sgT n)) := by
  have e : clB (sgB n) = hdB ++ (w_return ++ ([32] ++ (repB n [45] ++ ([49] ++ (m_semi ++ tlB))))) := by simp [clB, sgB, w_return, m_semi]
  have e2 : clT (sgT n) = hdT [65] [109] ++ (W w_return :: (reps n [M m_minus] ++ (N [49] 1 :: (M m_semi :: [M m_rc, M m_rc, tokZ])))) := by simp [clT, sgT]
  rw [e, e2]
  refine head_lex (lex_b (t := W w_return) (wf_word (by decide)) (lex_rep (fun _ _ h => lex_m (m := m_minus) (by decide) h) (lex_t (t := N [49] 1) wf_1 rfl (lex_m (m := m_semi) (by decide) tail_lex)) n))
theorem wh_lex (n : Nat) : LexTo (clB (whB n)) (clT (whT n)) := by
  have e : clB (whB n) = hdB ++ (repB n [119, 104, 105, 108, 101, 32, 116, 114, 117, 101, 32, 123, 32] ++ (w_return ++ ([32] ++ ([49] ++ (m_semi ++ (repB n [125] ++ tlB)))))) := by simp [clB, whB, w_return, m_semi]
  have e2 : clT (whT n) = hdT [65] [109] ++ (reps n whileT ++ (W w_return :: (N [49] 1 :: (M m_semi :: (reps n [M m_rc] ++ [M m_rc, M m_rc, tokZ]))))) := by simp [clT, whT, ret1]
  rw [e, e2]
  refine head_lex (lex_rep (fun r ts h => ?_) (lex_b (t := W w_return) (wf_word (by decide)) (lex_t (t := N [49] 1) wf_1 rfl (lex_m (m := m_semi) (by decide) (lex_rep (fun _ _ h => lex_m (m := m_rc) (by decide) h) tail_lex n)))) n)
  exact lex_b (t := W w_while) (wf_word (by decide)) (lex_b (t := W w_true) (wf_word (by decide)) (lex_m (m := m_lc) (by decide) (lex_gap blank1 h)))
theorem mem_lex {s : Bs} {l : List Tok} (n : Nat) (h : ∀ r ts, LexTo r ts → LexTo (s ++ r) (l ++ ts)) : LexTo ([99, 108, 97, 115, 115, 32, 65, 32, 123, 32] ++ repB n s ++ [32, 125]) (memT l n) := by
  have e : [99, 108, 97, 115, 115, 32, 65, 32, 123, 32] ++ repB n s ++ [32, 125] = w_class ++ ([32] ++ ([65] ++ ([32] ++ (m_lc ++ ([32] ++ (repB n s ++ ([32] ++ (m_rc ++ [])))))))) := by simp [w_class, m_lc, m_rc]
  rw [e]
  exact lex_b (t := W w_class) (wf_word (by decide)) (lex_b (t := U [65]) (wf_U (by decide)) (lex_m (m := m_lc) (by decide) (lex_gap blank1 (lex_rep h (lex_gap blank1 (lex_m (m := m_rc) (by decide) (lex_end gap_nil))) n))))
theorem fi_lex (n : Nat) : LexTo (fiB n) (memT fieldT n) := mem_lex n fun r ts h =>
  lex_b (t := W w_field) (wf_word (by decide)) (lex_b (t := W w_int) (wf_word (by decide)) (lex_t (t := L [120]) (r := m_semi ++ r) (wf_L (by decide)) rfl (lex_m (m := m_semi) (by decide) h)))
theorem me_lex (n : Nat) : LexTo (meB n) (memT methT n) := mem_lex n fun r ts h =>
  lex_b (t := W w_method) (wf_word (by decide)) (lex_b (t := W w_int) (wf_word (by decide)) (lex_t (t := L [109]) (r := m_lp ++ (m_rp ++ ([32] ++ (m_lc ++ ([32] ++ (m_rc ++ ([32] ++ r))))))) (wf_L (by decide)) rfl (lex_m (m := m_lp) (by decide) (lex_m (m := m_rp) (by decide) (lex_gap blank1 (lex_m (m := m_lc) (by decide) (lex_gap blank1 (lex_m (m := m_rc) (by decide) (lex_gap blank1 h)))))))))
end Go.PQ

/- The laws' own functions: the expression that a method returns; the document's example. -/
namespace Go.PQ
open Go.Eng
set_option maxRecDepth 100000
def retB0 : Bs := [99, 108, 97, 115, 115, 32, 65, 32, 123, 32, 109, 101, 116, 104, 111, 100, 32, 105, 110, 116, 32, 109, 40, 41, 32, 123, 32, 114, 101, 116, 117, 114, 110, 32]
def retB1 : Bs := [59, 32, 125, 32, 125]
def retB (s : Bs) : Bs := retB0 ++ s ++ retB1
theorem ret0 : V.str 34 961357696037381675649956981681352240005675623347818639615620599312194765693480035 = sB retB0 := rfl
theorem ret1v : V.str 5 537415983163 = sB retB1 := rfl
/- a member of an element -/
theorem el_fld {G : Roms} (hS : GSub G) {H : Heap} {v : V} {z o i : Nat} {LS : LLV} {c : LV} {x : V} (h : El G H v z LS) (hi : LS[i]? = some c) (hc : c.length = z) (ho : c[o]? = some x) :
    ∃ p q, iaddrV z v (.int .i64 (.ofNat i) 0) = some p ∧ paddV o p = some q ∧ ld1V q G H = some x := by
  obtain ⟨p, h1, h2⟩ := h.at hi
  obtain ⟨q, h3, h4⟩ := ldP_sub1 hS h2 hc ho
  exact ⟨p, q, h1, h3, h4⟩
theorem bv_ex00 : buildV exZ [] = some (.agg exZ) := rfl
section
variable {G : Roms} {H : Heap} {n : Nat} {s : Bs} {k : KV}
theorem Ret_bad {f e : Nat} (hG : MarksTab G) (hs : s.length ≤ 65000) (he : e ≠ 0) (hm : classA f (retB s) = some (none, e)) (hk : ∀ H' n' ft, Kp H n H' n' → FtO e ft → k (.tup [.agg exZ, .agg ft]) H' n') : Runs F G n_kilnlaw06_ret [sB s] H n k := by
  refine runs_s (s := ar1 (s_kilnlaw06_ret lfp G)) at_kilnlaw06_ret (by obtain ⟨h, o⟩ := si_kilnlaw06_ret lfp_ok G; rw [at_kilnlaw06_ret] at h; cases h; exact o) ?_
  show s_kilnlaw06_ret lfp G (Runs F G) (sB s) H n k
  delta s_kilnlaw06_ret
  refine a_alloc rfl fun H1 f1 g1 => ?_
  refine a_alloc rfl fun H2 f2 g2 => ?_
  have g1 := f2.get g1 (by omega)
  have f2 := f1.trans f2
  rw [ret0, ret1v]
  refine onV_of (b_cat (by show 34 + _ < _; omega)) (onV_of (b_cat (by rw [List.length_append]; show 34 + _ + 5 < _; omega)) ?_)
  refine Class_c hG hm fun H3 n3 c ft f3 hc hf => ?_
  have g1 := f3.get g1 (by omega)
  have g2 := f3.get g2 (by omega)
  have hn3 := f3.le
  have f3 := f2.trans f3
  have hc : c = clZ := hc
  subst hc
  obtain ⟨line, col, rfl, hf1, hf2⟩ := hf
  rw [s_ext0, s_onV, s_ext1, s_onV]
  refine a_alloc rfl fun H4 f4 g4 => ?_
  refine a_alloc rfl fun H5 f5 g5 => ?_
  have g4 := f5.get g4 (by omega)
  have f5 := f4.trans f5
  have g1 := f5.get g1 (by omega)
  have g2 := f5.get g2 (by omega)
  have f5 := f3.trans f5
  refine a_stA (L := clZ) g4 rfl rfl (by omega) fun H6 g4 t6 => ?_
  have g1 := (t6 n (by omega)).trans g1
  have g2 := (t6 (n + 1) (by omega)).trans g2
  have g5 := (t6 (n3 + 1) (by omega)).trans g5
  refine a_stA (L := fltC e line col) g5 rfl rfl (by omega) fun H7 g5 t7 => ?_
  have g1 := (t7 n (by omega)).trans g1
  have g2 := (t7 (n + 1) (by omega)).trans g2
  have f7 : Kp H n H7 (n3 + 1 + 1) := ⟨by omega, fun id hid => (t7 id (by omega)).trans ((t6 id (by omega)).trans (f5.same id hid))⟩
  refine onV_of (v := .ptr (n3 + 1) 0) (by rw [s_padd]) (onV_of (ld1_one (off := 0) g5 (v := .int .i64 (.ofNat e) 0) rfl) ?_)
  rw [ne_n, s_onV, decide_eq_false he, Bool.not_false]
  repeat (first | with_reducible refine gs_t ?_ | with_reducible refine gp_t ?_)
  rw [s_tstT]
  refine onV_of bv_ex00 (onV_of (ldn_all (m := 3) g5 (by omega) rfl) ?_)
  refine a_stA g1 rfl rfl (by omega) fun H8 g1 t8 => ?_
  have g2 := (t8 (n + 1) (by omega)).trans g2
  have g5 := (t8 (n3 + 1) (by omega)).trans g5
  refine onV_of (ldn_all (m := 3) g5 (by omega) rfl) (re_ok (vs_flt ..) ?_)
  refine a_stA (L := fltC e line col) g2 rfl rfl (by omega) fun H9 g2 t9 => ?_
  have g1 := (t9 n (by omega)).trans g1
  rw [getVs_cn (m := 11) g1 (by omega) rfl, getVs_cn (m := 3) g2 (by omega) rfl]
  simp only [go_sem]
  exact hk _ _ _ ⟨by omega, fun id hid => (t9 id (by omega)).trans ((t8 id (by omega)).trans (f7.same id hid))⟩ ⟨line, col, rfl, hf1, hf2⟩
theorem Ret_ok {f : Nat} {cn sup mn snm : Bs} {fs : List Va} {ps : List Va} {sb : Bool} {rt sty : Ty} {d : Nat} {x : Ex} {th el : List St} (hG : MarksTab G) (hS : GSub G) (hs : s.length ≤ 65000)
    (hm : classA f (retB s) = some (some ⟨cn, sup, fs, [⟨mn, sb, ps, rt, [.mk d snm sty [x] th el]⟩]⟩, 0)) (hk : ∀ H' n' c, Kp H n H' n' → ExAt G H' (Rg n n') c x → k (.tup [.agg c, .agg (fltC 0 0 0)]) H' n') : Runs F G n_kilnlaw06_ret [sB s] H n k := by
  refine runs_s (s := ar1 (s_kilnlaw06_ret lfp G)) at_kilnlaw06_ret (by obtain ⟨h, o⟩ := si_kilnlaw06_ret lfp_ok G; rw [at_kilnlaw06_ret] at h; cases h; exact o) ?_
  show s_kilnlaw06_ret lfp G (Runs F G) (sB s) H n k
  delta s_kilnlaw06_ret
  refine a_alloc rfl fun H1 f1 g1 => ?_
  refine a_alloc rfl fun H2 f2 g2 => ?_
  have g1 := f2.get g1 (by omega)
  have f2 := f1.trans f2
  rw [ret0, ret1v]
  refine onV_of (b_cat (by show 34 + _ < _; omega)) (onV_of (b_cat (by rw [List.length_append]; show 34 + _ + 5 < _; omega)) ?_)
  refine Class_c hG hm fun H3 n3 c ft f3 hc hf => ?_
  have g1 := f3.get g1 (by omega)
  have g2 := f3.get g2 (by omega)
  have hn3 := f3.le
  have f3 := f2.trans f3
  have hc : ClAt G H3 (Rg (n + 1 + 1) n3) c _ := hc
  obtain ⟨line, col, rfl, hf1, hf2⟩ := hf
  obtain ⟨rfl, rfl⟩ := hf2 rfl
  rw [s_ext0, s_onV, s_ext1, s_onV]
  refine a_alloc rfl fun H4 f4 g4 => ?_
  refine a_alloc rfl fun H5 f5 g5 => ?_
  have g4 := f5.get g4 (by omega)
  have f45 := f4.trans f5
  have g1 := f45.get g1 (by omega)
  have g2 := f45.get g2 (by omega)
  have f5 := f3.trans f45
  refine a_stA g4 rfl hc.len (by omega) fun H6 g4 t6 => ?_
  have g1 := (t6 n (by omega)).trans g1
  have g2 := (t6 (n + 1) (by omega)).trans g2
  have g5 := (t6 (n3 + 1) (by omega)).trans g5
  refine a_stA (L := fltC 0 0 0) g5 rfl rfl (by omega) fun H7 g5 t7 => ?_
  have g1 := (t7 n (by omega)).trans g1
  have g2 := (t7 (n + 1) (by omega)).trans g2
  have g4 := (t7 n3 (by omega)).trans g4
  have f7 : Kp H n H7 (n3 + 1 + 1) := ⟨by omega, fun id hid => (t7 id (by omega)).trans ((t6 id (by omega)).trans (f5.same id hid))⟩
  have hc : ClAt G H7 (Rg (n + 1 + 1) n3) c _ := hc.mono (fun id h => h) fun id h => (t7 id (by have := h.2; omega)).trans ((t6 id (by have := h.2; omega)).trans (f45.same id h.2))
  refine onV_of (v := .ptr (n3 + 1) 0) (by rw [s_padd]) (onV_of (ld1_one (off := 0) g5 (v := .int .i64 (.ofNat 0) 0) rfl) ?_)
  rw [ne_n, s_onV, decide_eq_true rfl, Bool.not_true]
  cases hc with
  | mk line col hp hfs hms =>
    obtain ⟨cs, e1, _, _, _, m1⟩ := hms
    cases m1 with
    | cons m1 m2 =>
    cases m2 with
    | nil =>
    cases m1 with
    | mk l1 c1 hps hbd =>
    obtain ⟨cs2, e2, _, _, _, m2⟩ := hbd
    cases m2 with
    | cons m2 m3 =>
    cases m3 with
    | nil =>
    cases m2 with
    | mk _ _ _ l2 c2 hes ht _ _ hl _ _ =>
    obtain ⟨cs3, e3, _, _, _, _, m3⟩ := hes
    cases m3 with
    | cons m3 m4 =>
    cases m4 with
    | nil =>
    have q5 : ld1V (.ptr n3 5) G H7 = some _ := ld1_one g4 rfl
    obtain ⟨p1, q1, a1, b1, d1⟩ := el_fld hS e1 (i := 0) (o := 7) rfl rfl rfl
    obtain ⟨p2, q2, a2, b2, d2⟩ := el_fld hS e2 (i := 0) (o := 6) rfl rfl rfl
    obtain ⟨p3, a3, b3⟩ := e3.at (i := 0) rfl
    have b3 := ldn_of b3
    simp only [go_sem, Nat.reduceAdd, Nat.zero_add, q5, e1.len, e2.len, e3.len, a1, b1, d1, a2, b2, d2, a3, b3, ne_n, List.length_cons, List.length_nil, decide_true, Bool.not_true]
    refine onV_of (ldn_all (m := 3) g5 (by omega) rfl) ?_
    refine a_stA g1 rfl m3.len (by omega) fun H8 g1 t8 => ?_
    have g2 := (t8 (n + 1) (by omega)).trans g2
    have g5 := (t8 (n3 + 1) (by omega)).trans g5
    refine onV_of (ldn_all (m := 3) g5 (by omega) rfl) (re_ok (vs_flt ..) ?_)
    refine a_stA (L := fltC 0 0 0) g2 rfl rfl (by omega) fun H9 g2 t9 => ?_
    have g1 := (t9 n (by omega)).trans g1
    rw [getVs_cn (m := 11) g1 (by omega) m3.len, getVs_cn (m := 3) g2 (by omega) rfl]
    simp only [go_sem]
    exact hk _ _ _ ⟨by omega, fun id hid => (t9 id (by omega)).trans ((t8 id (by omega)).trans (f7.same id hid))⟩
      (m3.mono (fun id h => ⟨by have := h.1; omega, by have := h.2; omega⟩) fun id h => (t9 id (by have := h.1; omega)).trans (t8 id (by have := h.1; omega)))
/- the document's example -/
def hdS : Bs := [120, 32, 43, 32, 49, 32, 42, 32, 50]
def hdE : Ex := .mk 16 0 m_plus [] false [.mk 6 0 [120] [] false [], .mk 16 0 m_star [] false [.mk 1 1 [] [] false [], .mk 1 2 [] [] false []]]
theorem hd_class : classA 20 (retB hdS) = some (some ⟨[65], [], [], [⟨[109], false, [], ⟨w_int, false⟩, [.mk 6 [] tyZ [hdE] [] []]⟩]⟩, 0) := by kernel_rfl
theorem Head_c (hG : MarksTab G) (hS : GSub G) (hk : ∀ H' n', Kp H n H' n' → k (.bool true) H' n') : Runs F G n_kilnlaw06_head [] H n k := by
  refine runs_s (s := ar0 (s_kilnlaw06_head lfp G)) at_kilnlaw06_head (by obtain ⟨h, o⟩ := si_kilnlaw06_head lfp_ok G; rw [at_kilnlaw06_head] at h; cases h; exact o) ?_
  show s_kilnlaw06_head lfp G (Runs F G)  H n k
  delta s_kilnlaw06_head
  rw [show V.str 9 924654904039078305912 = sB hdS from rfl]
  refine Ret_ok hG hS (by decide) hd_class fun H1 n1 c f1 hx => ?_
  rw [s_ext0, s_onV, s_ext1, s_onV]
  refine a_alloc rfl fun H2 f2 g2 => ?_
  refine a_alloc rfl fun H3 f3 g3 => ?_
  have g2 := f3.get g2 (by omega)
  have f3 := f2.trans f3
  refine a_stA g2 rfl hx.len (by omega) fun H4 g2 t4 => ?_
  have g3 := (t4 (n1 + 1) (by omega)).trans g3
  refine a_stA (L := fltC 0 0 0) g3 rfl rfl (by omega) fun H5 g3 t5 => ?_
  have g2 := (t5 n1 (by omega)).trans g2
  have f5 : Kp H1 n1 H5 (n1 + 1 + 1) := ⟨by omega, fun id hid => (t5 id (by omega)).trans ((t4 id (by omega)).trans (f3.same id hid))⟩
  have hx : ExAt G H5 (Rg n n1) c hdE := hx.mono (fun id h => h) fun id h => f5.same id h.2
  have f5 := f1.trans f5
  refine onV_of (ldn_all (m := 3) g3 (by omega) rfl) (onV_of bv_fl0 ?_)
  rw [show eqV (.agg [.int, .int, .int]) false (.agg (fltC 0 0 0)) (.agg (fltC 0 0 0)) = some (.bool true) from rfl, s_onV]
  cases hx with
  | mk _ _ _ _ _ l1 c1 he hv ha hc =>
  cases hc with
  | cons h1 hc =>
  cases hc with
  | cons h2 hc =>
  cases hc with
  | nil =>
  cases h1 with
  | mk _ _ _ _ _ l2 c2 he2 _ _ _ =>
  cases h2 with
  | mk _ _ _ _ _ l3 c3 he3 _ _ _ =>
  have q0 : ld1V (.ptr n1 0) G H5 = some _ := ld1_one g2 rfl
  have q4 : ld1V (.ptr n1 4) G H5 = some _ := ld1_one g2 rfl
  have q7 : ld1V (.ptr n1 7) G H5 = some _ := ld1_one g2 rfl
  obtain ⟨p1, q1, a1, b1, d1⟩ := el_fld hS he (i := 0) (o := 0) rfl rfl rfl
  obtain ⟨p2, q2, a2, b2, d2⟩ := el_fld hS he (i := 1) (o := 4) rfl rfl rfl
  simp only [go_sem, Nat.reduceAdd, Nat.zero_add, q0, q4, q7, he.len, a1, b1, d1, a2, b2, d2, eq_n, b_eq, List.length_cons, List.length_nil, decide_true, show V.str 1 43 = sB m_plus from rfl, show V.str 1 42 = sB m_star from rfl]
  exact hk _ _ f5
end
end Go.PQ

/- The seat: what is laid; the table of marks. -/
namespace Go.Proofs.YtcjkfmaoahojeaaDoor
open Go Go.Eng Go.ChangeShapes Go.WideShapes Go.RowKit
set_option maxRecDepth 100000
theorem ownK : ownKnob Tryd.prog.godebug = none := by kernel_rfl
theorem gMarks : Tryd.prog.globalNamed "kiln/lex.marks" = some 0 := by kernel_rfl
theorem tMarks : (Tryd.prog.globals[0]?).map (·.type) = some 124 := by kernel_rfl
theorem laidOut : laidOutB Tryd.prog = true := by kernel_rfl
theorem tightMarks : tightT Tryd.prog 5 124 = true := by kernel_rfl
theorem flatMarks : flatF 5 (Rows.laid_kiln_lex_marks (H := Unit)) = some (Go.PQ.marksL.map sB) := by kernel_rfl
abbrev laidL : List (String × DataW Unit) := [("kiln/lex.marks", Rows.laid_kiln_lex_marks)]
/- what the condition gives: the table -/
theorem of_laid {W : World} (h : laidMetH Tryd.prog laidL W) : Go.PQ.MarksTab (romsOf W) := by
  rw [MakeChecks.laidMetH_plain _ _ _ (by kernel_rfl)] at h
  obtain ⟨ps, ⟨g0, t0, cs0, f0, p0, q0, hg0, ht0, hv0, hd0, _, _⟩, _, _⟩ := h
  obtain rfl := Option.some.inj (gMarks.symm.trans hg0)
  obtain rfl := Option.some.inj (tMarks.symm.trans ht0)
  obtain ⟨hr, h1⟩ := flat_sound f0 hd0 flatMarks tightMarks
  have hl : (Go.PQ.marksL.map sB).length = 22 := rfl
  show romsOf W 0 0 22 = _
  rw [romsOf_tab (tab := Go.PQ.marksL.map sB) (fun i => by have := World.var?_cell hg0 hv0 i; simpa using this) hr h1 (by rfl) (by omega)]
  rfl
theorem door_met (os : Os) (args : Array Value) : laidMetH Tryd.prog laidL ((World.doorLaid Tryd.prog 400 os).forCall (fun _ _ => 0) ⟨#[], args, []⟩).memory :=
  laidMetH_of_parts3 (fuel := 8) (laidMet_of_run' 8 (by kernel_rfl) (by kernel_rfl)) (by kernel_rfl) (by kernel_rfl)
theorem noStand {t : TypeId} (h : t = 3) : Tryd.prog.wantsStandIn t = false := by
  subst h; kernel_rfl
end Go.Proofs.YtcjkfmaoahojeaaDoor

/- ParseNests, walked. -/
namespace Go.PQ
open Go.Eng
set_option maxRecDepth 100000
theorem cv_u (a : Int) : cviV .u64 (.int .i64 a 0) = some (.int .u64 (IntKind.wrap .u64 a) 0) := by
  show mkI .u64 a 0 = _
  rw [mkI_zero]
theorem rem_u (a : Int) {m : Nat} (hm : 0 < m) : B2.ev .rem (.int .u64 (IntKind.wrap .u64 a) 0) (.int .u64 (.ofNat m) 0) = some (.int .u64 (.ofNat (umod a m)) 0) := by
  show guardO (band true (band true (bnot (ieq (.ofNat m) 0)))) (mkN .u64 (Int.tmod (IntKind.wrap .u64 a) (.ofNat m)) 0) = _
  have : ieq (.ofNat m) 0 = false := by rw [ieq_eq]; simp; omega
  rw [this]
  show forceIV (Int.tmod (IntKind.wrap .u64 a) (.ofNat m)) (fun m => some (.int .u64 m 0)) = _
  rw [forceIV_eq]
  exact congrArg (fun z => some (V.int .u64 z 0)) (umod_eq a m)
theorem s_callv0 {f : Nat} {a c args : List V} {call : CallT} {H : Heap} {n : Nat} {k : KV} : callvV (.fn f a c) args call H n k = call f (cat a (cat args c)) H n k := rfl
section
variable {G : Roms} {H : Heap} {n : Nat} {k : KV}
theorem Rep_c {s : Bs} {b m : Nat} (hg : T.get H b = some (one [.int .i64 (.ofNat m) 0])) (hs : s.length ≤ 100) (hm : m ≤ 255) (hk : k (sB (repB m s)) H n) : Runs F G n_kilnlaw06_ParseNests_1 [sB s, .ptr b 0] H n k := by
  refine runs_s (s := ar2 (s_kilnlaw06_ParseNests_1 lfp G)) at_kilnlaw06_ParseNests_1 (by obtain ⟨h, o⟩ := si_kilnlaw06_ParseNests_1 lfp_ok G; rw [at_kilnlaw06_ParseNests_1] at h; cases h; exact o) ?_
  show s_kilnlaw06_ParseNests_1 lfp G (Runs F G) (sB s) (.ptr b 0) H n k
  delta s_kilnlaw06_ParseNests_1
  refine lfp_range (N := m) (J := fun j q => q = (sB s, .ptr b 0, sB (repB j s), .int .i64 (.ofNat j) 0, H, n)) ?_ ?_ rfl
  · rintro I j q hlt rfl ih
    show s_kilnlaw06_ParseNests_1_l2 lfp G (Runs F G) k I (sB s) (.ptr b 0) (sB (repB j s)) (.int .i64 (.ofNat j) 0) H n
    delta s_kilnlaw06_ParseNests_1_l2
    have hl := repB_len j s
    have hl2 : j * s.length ≤ 255 * 100 := Nat.mul_le_mul (by omega) hs
    refine onV_of (ld1_one (off := 0) hg (v := .int .i64 (.ofNat m) 0) rfl) ?_
    rw [lss_n, s_onV, decide_eq_true hlt, s_tstT]
    refine onV_of (b_cat (by omega)) (onV_of (add_n (by omega)) ?_)
    rw [← repB_e]
    exact ih _ rfl
  · rintro I q rfl
    show s_kilnlaw06_ParseNests_1_l2 lfp G (Runs F G) k I (sB s) (.ptr b 0) (sB (repB m s)) (.int .i64 (.ofNat m) 0) H n
    delta s_kilnlaw06_ParseNests_1_l2
    refine onV_of (ld1_one (off := 0) hg (v := .int .i64 (.ofNat m) 0) rfl) ?_
    rw [lss_n, s_onV, decide_eq_false (Nat.lt_irrefl m), s_tstF]
    exact hk
theorem Body_c {s : Bs} (hs : s.length ≤ 65000) (hk : k (sB (clB s)) H n) : Runs F G n_kilnlaw06_ParseNests_2 [sB s] H n k := by
  refine runs_s (s := ar1 (s_kilnlaw06_ParseNests_2 lfp G)) at_kilnlaw06_ParseNests_2 (by obtain ⟨h, o⟩ := si_kilnlaw06_ParseNests_2 lfp_ok G; rw [at_kilnlaw06_ParseNests_2] at h; cases h; exact o) ?_
  show s_kilnlaw06_ParseNests_2 lfp G (Runs F G) (sB s) H n k
  delta s_kilnlaw06_ParseNests_2
  rw [show V.str 27 13361891714458179349549316075936357978049634714877068622323346531 = sB hdB from rfl, show V.str 4 2099281184 = sB tlB from rfl]
  refine onV_of (b_cat (by show 27 + _ < _; omega)) (onV_of (b_cat (by rw [List.length_append]; show 27 + _ + 4 < _; omega)) ?_)
  exact hk
/- what the law does with an outcome -/
theorem class_of {f : Nat} {s : Bs} {ts : List Tok} {c : Cl} {e : Nat} (h : LexTo s ts) (hs : s.length ≤ 65536) (hp : parseT f ts = some (c, e)) : ∃ o, classA f s = some (o, e) := by
  unfold classA
  rw [lexA_of h hs]
  show ∃ o, ((parseT f ts).bind fun p => some (bif decide (p.2 = 0) then (some p.1, 0) else (none, p.2))) = some (o, e)
  rw [hp]
  by_cases he : e = 0
  · subst he; exact ⟨_, rfl⟩
  · refine ⟨none, ?_⟩
    show some (bif decide (e = 0) then (some c, 0) else (none, e)) = _
    rw [decide_eq_false he]; rfl
theorem ClO.len {H : Heap} {A : Nat → Prop} {c : LV} {o : Option Cl} (h : ClO G H A c o) : c.length = 6 := by
  cases o with
  | none => have h : c = clZ := h; rw [h]; rfl
  | some cl => exact ClAt.len h
theorem tail_c {f e N B E b : Nat} {t : Bs} {o : Option Cl} (hG : MarksTab G) (hm : classA f t = some (o, e)) (he : e = if N ≤ B then 0 else E) (hE : E ≠ 0) (hb : T.get H b = some (one [.int .i64 (.ofNat N) 0])) (hbn : b < n) (hk : ∀ H' n', k (.bool true) H' n') :
    Runs F G n_parse_Class [sB t] H n fun v18 H n => onV (extV v18 0) fun v19 => onV (extV v18 1) fun v20 =>
      onA (aAlloc 6 [[(.int .i64 (.ofNat 0) 0), (.int .i64 (.ofNat 0) 0), (.str 0 0), (.str 0 0), .nils, .nils]] E0) H n fun v21 H n => onA (aAlloc 3 [[(.int .i64 (.ofNat 0) 0), (.int .i64 (.ofNat 0) 0), (.int .i64 (.ofNat 0) 0)]] E0) H n fun v22 H n =>
      stV 6 v21 v19 H n fun _ H n => stV 3 v22 v20 H n fun _ H n => onV (paddV 0 v22) fun v25 => onV (ld1V v25 G H) fun v26 => onV (eqV (.one .int) false v26 (.int .i64 (.ofNat 0) 0)) fun v27 =>
      onV (ld1V (.ptr b 0) G H) fun v28 => onV (B2.ev .leq v28 (.int .i64 (.ofNat B) 0)) fun v29 => onV (eqV (.one .bool) false v27 v29) fun v30 =>
      onG v30 true (ld1V (.ptr b 0) G H) fun v31 => onG v30 true (B2.ev .leq v31 (.int .i64 (.ofNat B) 0)) fun v32 => onG v30 true (some v32) fun v33 => onG v33 false (paddV 0 v22) fun v34 => onG v33 false (ld1V v34 G H) fun v35 =>
      onG v33 false (eqV (.one .int) false v35 (.int .i64 (.ofNat E) 0)) fun v36 => onG v30 true (pickV v33 (.bool true) v36) fun v37 => onV (pickV v30 v37 (.bool false)) fun v38 => k v38 H n := by
  refine Class_c hG hm fun H1 n1 c ft f1 hc hf => ?_
  have hb := f1.get hb hbn
  have hn := f1.le
  obtain ⟨line, col, rfl, _, _⟩ := hf
  rw [s_ext0, s_onV, s_ext1, s_onV]
  refine a_alloc rfl fun H2 f2 g2 => ?_
  refine a_alloc rfl fun H3 f3 g3 => ?_
  have g2 := f3.get g2 (by omega)
  have hb := f3.get (f2.get hb (by omega)) (by omega)
  refine a_stA g2 rfl hc.len (by omega) fun H4 g2 t4 => ?_
  have g3 := (t4 (n1 + 1) (by omega)).trans g3
  have hb := (t4 b (by omega)).trans hb
  refine a_stA (L := fltC e line col) g3 rfl rfl (by omega) fun H5 g3 t5 => ?_
  have hb := (t5 b (by omega)).trans hb
  have q0 : ld1V (.ptr (n1 + 1) 0) G H5 = some (.int .i64 (.ofNat e) 0) := ld1_one g3 rfl
  have q1 : ld1V (.ptr b 0) G H5 = some (.int .i64 (.ofNat N) 0) := ld1_one hb rfl
  have eb : ∀ x y : Bool, eqV (.one .bool) false (.bool x) (.bool y) = some (.bool (x == y)) := fun x y => by cases x <;> cases y <;> rfl
  simp only [go_sem, Nat.reduceAdd, q0, q1, eq_n, leq_n, eb]
  by_cases h : N ≤ B
  · rw [if_pos h] at he
    subst he
    simp only [decide_eq_true h, decide_true, go_sem, BEq.rfl, leq_n]
    exact hk _ _
  · rw [if_neg h] at he
    subst he
    simp only [decide_eq_false h, decide_eq_false hE, decide_true, go_sem, BEq.rfl, leq_n, q0, eq_n]
    exact hk _ _
theorem ParseNests_c {w t : Int} (hG : MarksTab G) (hS : GSub G) (hk : ∀ H' n', k (.bool true) H' n') : Runs F G n_kilnlaw06_ParseNests [.int .i64 w 0, .int .i64 t 0] H n k := by
  refine runs_s (s := ar2 (s_kilnlaw06_ParseNests lfp G)) at_kilnlaw06_ParseNests (by obtain ⟨h, o⟩ := si_kilnlaw06_ParseNests lfp_ok G; rw [at_kilnlaw06_ParseNests] at h; cases h; exact o) ?_
  show s_kilnlaw06_ParseNests lfp G (Runs F G) (.int .i64 w 0) (.int .i64 t 0) H n k
  delta s_kilnlaw06_ParseNests
  refine a_box rfl fun H1 f1 g1 => ?_
  refine Head_c hG hS fun H2 n2 f2 => ?_
  have g1 : T.get H2 n = some (one [.int .i64 t 0]) := f2.get g1 (by omega)
  have hn2 := f2.le
  rw [s_notB, s_onV, Bool.not_true, s_tstF]
  refine onV_of (ld1_one (off := 0) g1 (v := .int .i64 t 0) rfl) ?_
  rw [and_n t (m := 255) (by omega), s_onV]
  have hu : uand t 255 ≤ 255 := (uand_spec t (m := 255) (by omega)).2
  generalize uand t 255 = N at hu
  refine a_put g1 rfl rfl (by omega) (by show 0 + 1 ≤ 1; omega) fun H3 g1 t3 => ?_
  have g1 : T.get H3 n = some (one [.int .i64 (.ofNat N) 0]) := g1
  rw [cv_u, s_onV, rem_u w (m := 5) (by omega), s_onV]
  have hw := umod_lt w (show 0 < 5 by omega)
  generalize umod w 5 = a at hw
  rw [cvi_n (by omega), s_onV]
  simp only [eq_n, s_onV]
  have eN : ∀ s : Bs, s.length ≤ 30 → (repB N s).length ≤ 7650 := fun s h => by rw [repB_len]; exact Nat.mul_le_mul hu h
  match a, hw with
  | 0, _ =>
    rw [decide_eq_true rfl, s_tstT]
    obtain ⟨c, e, hp, he⟩ := br_class N
    have h1 := eN [40] (by decide)
    have h2 := eN [41] (by decide)
    have hl : (brB N).length ≤ 20000 := by simp only [brB, List.length_append, List.length_cons, List.length_nil]; omega
    obtain ⟨o, ho⟩ := class_of (br_lex N) (by unfold clB; simp only [List.length_append]; show 27 + (brB N).length + 4 ≤ _; omega) hp
    refine Rep_c (s := [40]) g1 (by decide) hu ?_
    rw [show V.str 7 9128637130630514 = sB [114, 101, 116, 117, 114, 110, 32] from rfl, show V.str 1 49 = sB [49] from rfl, show V.str 1 59 = sB [59] from rfl]
    refine onV_of (b_cat (by show 7 + _ < _; omega)) (onV_of (b_cat (by simp only [List.length_append, List.length_cons, List.length_nil]; omega)) ?_)
    refine Rep_c (s := [41]) g1 (by decide) hu ?_
    refine onV_of (b_cat (by simp only [List.length_append, List.length_cons, List.length_nil]; omega)) (onV_of (b_cat (by simp only [List.length_append, List.length_cons, List.length_nil]; omega)) ?_)
    refine Body_c (s := brB N) (by omega) ?_
    exact tail_c hG ho he (by decide) g1 (by omega) hk
  | 1, _ =>
    rw [decide_eq_false (by decide), s_tstF, decide_eq_true rfl, s_tstT]
    obtain ⟨c, e, hp, he⟩ := sg_class N
    have h1 := eN [45] (by decide)
    have hl : (sgB N).length ≤ 20000 := by simp only [sgB, List.length_append, List.length_cons, List.length_nil]; omega
    obtain ⟨o, ho⟩ := class_of (sg_lex N) (by unfold clB; simp only [List.length_append]; show 27 + (sgB N).length + 4 ≤ _; omega) hp
    refine Rep_c (s := [45]) g1 (by decide) hu ?_
    rw [show V.str 7 9128637130630514 = sB [114, 101, 116, 117, 114, 110, 32] from rfl, show V.str 2 15153 = sB [49, 59] from rfl]
    refine onV_of (b_cat (by show 7 + _ < _; omega)) (onV_of (b_cat (by simp only [List.length_append, List.length_cons, List.length_nil]; omega)) ?_)
    refine Body_c (s := sgB N) (by omega) ?_
    exact tail_c hG ho he (by decide) g1 (by omega) hk
  | 2, _ =>
    rw [decide_eq_false (by decide), s_tstF, decide_eq_false (by decide), s_tstF, decide_eq_true rfl, s_tstT]
    obtain ⟨c, e, hp, he⟩ := wh_class N
    have h1 := eN [119, 104, 105, 108, 101, 32, 116, 114, 117, 101, 32, 123, 32] (by decide)
    have h2 := eN [125] (by decide)
    have hl : (whB N).length ≤ 20000 := by simp only [whB, List.length_append, List.length_cons, List.length_nil]; omega
    obtain ⟨o, ho⟩ := class_of (wh_lex N) (by unfold clB; simp only [List.length_append]; show 27 + (whB N).length + 4 ≤ _; omega) hp
    refine Rep_c (s := [119, 104, 105, 108, 101, 32, 116, 114, 117, 101, 32, 123, 32]) g1 (by decide) hu ?_
    rw [show V.str 9 1091897851093852644722 = sB [114, 101, 116, 117, 114, 110, 32, 49, 59] from rfl]
    refine onV_of (b_cat (by simp only [List.length_append, List.length_cons, List.length_nil]; omega)) ?_
    refine Rep_c (s := [125]) g1 (by decide) hu ?_
    refine onV_of (b_cat (by simp only [List.length_append, List.length_cons, List.length_nil]; omega)) ?_
    refine Body_c (s := whB N) (by omega) ?_
    exact tail_c hG ho he (by decide) g1 (by omega) hk
  | 3, _ =>
    rw [decide_eq_false (by decide), s_tstF, decide_eq_false (by decide), s_tstF, decide_eq_false (by decide), s_tstF, decide_eq_true rfl, s_tstT]
    obtain ⟨c, e, hp, he⟩ := field_class N
    have h1 := eN [102, 105, 101, 108, 100, 32, 105, 110, 116, 32, 120, 59] (by decide)
    have hl : (fiB N).length ≤ 20000 := by simp only [fiB, List.length_append, List.length_cons, List.length_nil]; omega
    obtain ⟨o, ho⟩ := class_of (fi_lex N) (by omega) hp
    refine Rep_c (s := [102, 105, 101, 108, 100, 32, 105, 110, 116, 32, 120, 59]) g1 (by decide) hu ?_
    rw [show V.str 10 153387001147457850666083 = sB [99, 108, 97, 115, 115, 32, 65, 32, 123, 32] from rfl, show V.str 2 32032 = sB [32, 125] from rfl]
    refine onV_of (b_cat (by show 10 + _ < _; omega)) (onV_of (b_cat (by simp only [List.length_append, List.length_cons, List.length_nil]; omega)) ?_)
    exact tail_c hG ho he (by decide) g1 (by omega) hk
  | 4, _ =>
    rw [decide_eq_false (by decide), s_tstF, decide_eq_false (by decide), s_tstF, decide_eq_false (by decide), s_tstF, decide_eq_false (by decide), s_tstF]
    obtain ⟨c, e, hp, he⟩ := meth_class N
    have h1 := eN [109, 101, 116, 104, 111, 100, 32, 105, 110, 116, 32, 109, 40, 41, 32, 123, 32, 125, 32] (by decide)
    have hl : (meB N).length ≤ 20000 := by simp only [meB, List.length_append, List.length_cons, List.length_nil]; omega
    obtain ⟨o, ho⟩ := class_of (me_lex N) (by omega) hp
    refine Rep_c (s := [109, 101, 116, 104, 111, 100, 32, 105, 110, 116, 32, 109, 40, 41, 32, 123, 32, 125, 32]) g1 (by decide) hu ?_
    rw [show V.str 10 153387001147457850666083 = sB [99, 108, 97, 115, 115, 32, 65, 32, 123, 32] from rfl, show V.str 2 32032 = sB [32, 125] from rfl]
    refine onV_of (b_cat (by show 10 + _ < _; omega)) (onV_of (b_cat (by simp only [List.length_append, List.length_cons, List.length_nil]; omega)) ?_)
    exact tail_c hG ho he (by decide) g1 (by omega) hk
end
end Go.PQ

