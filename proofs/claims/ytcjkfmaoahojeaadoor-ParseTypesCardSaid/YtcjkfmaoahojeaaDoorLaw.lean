/- Part of a proof: texts PLD PLE PLF PLG PTA PUA PUB PUC PUD PUE PLI PVZ PXA PSeatB of the engine and what is proved with it; nothing is assumed. -/
import Derived.Test.YtcjkfmaoahojeaaDoorLawA
import Derived.Test.YtcjkfmaoahojeaaDoorConB
import Derived.Test.YtcjkfmaoahojeaaDoorWalk
import Derived.Test.YtcjkfmaoahojeaaDoorCode
import Derived.Test.YtcjkfmaoahojeaaDoorRows
import Derived.LaidMore
import Derived.SevenTiedAt
set_option linter.unusedVariables false
set_option linter.unusedSimpArgs false
namespace Go.PQ
open Go.Eng
set_option maxRecDepth 100000
section
variable {s : S} (h : s.e ≠ 0)
include h
theorem uV : s.ok = false := by simp [S.ok, h]
theorem sJ {e : Nat} : Fj e s = s := by unfold Fj; rw [uV h]; rfl
theorem ASj {ws : List Bs} : Oj ws s = false := qg fun _ _ => Gu h
theorem AHS {w : Bs} : Cc w s = some (false, s) := ku (Gu h)
theorem aH : ∀ {ws : List Bs}, Ce ws s = some s
 | [] => rfl
 | w :: ws => by
  show ((Cc w s).bind fun p => Ce ws (bif p.1 then p.2 else Fj 21 p.2)) = _
  rw [AHS h]
  show Ce ws (Fj 21 s) = _
  rw [sJ h, aH]
theorem APJ {k : Nat} : Hr k s = some ([], s) := by unfold Hr; rw [uV h, sJ h]; rfl
theorem ABQ (hd : s.deep < 1000000) : Qs s = some { s with deep := s.deep + 1 } := by
 unfold Qs; rw [decide_eq_true hd, sJ (s := { s with deep := s.deep + 1 }) h, Bool.cond_self]; rfl
theorem APZ {f : Nat} (hd : s.deep < 1000000) : expr (f + 4) s = some (.mk 0 0 [] [] false [], s) := by
 refine OH (f := f + 2) (s1 := { s with deep := s.deep + 1 }) (s2 := { s with deep := s.deep + 1 }) (ABQ h hd) ?_ (fun w _ => Gu h) ?_
 ·exact JJ (Gu h) (Gu h) (LW (sF h) fun w _ => Gu h) fun w _ => Gu h
 ·unfold bD; simp only [hd, decide_true, cond_true]
theorem AI0 {st : St} : endP st s = some (st, s) := by unfold endP; rw [aH h]; rfl
end
def DV (n : Nat) (l : List Tok) : List Tok := (List.replicate n l).flatten
theorem MQ (n : Nat) (l : List Tok) : DV (n + 1) l = l ++ DV n l := by simp [DV, List.replicate_succ]
theorem AGZ (n : Nat) (l : List Tok) : DV (n + 1) l = DV n l ++ l := by
 induction n with
 | zero => simp [DV]
 | succ n ih => rw [MQ (n + 1), ih, <- List.append_assoc, <- MQ, ih]
def S.of (l : List Tok) (d : Nat) : S := match l with | [] => ⟨FP, [], d, 0⟩ | t :: r => ⟨t, r, d, 0⟩
theorem AAh {t : Tok} {r : List Tok} : Qs ⟨t, r, 100, 0⟩ = some ⟨t, r, 101, 3⟩ := rfl
theorem gW {t : Tok} {r : List Tok} {d e : Nat} (h : d < 1000000) : bD ⟨t, r, d + 1, e⟩ = some ⟨t, r, d, e⟩ := by
 unfold bD; simp only [h, decide_true, cond_true]
theorem kZ {t : Tok} {r : List Tok} {f : Nat} : expr (f + 4) ⟨t, r, 100, 0⟩ = some (.mk 0 0 [] [] false [], ⟨t, r, 100, 3⟩) := by
 have h : (⟨t, r, 101, 3⟩ : S).e ≠ 0 := show (3 : Nat) ≠ 0 by decide
 refine OH (f := f + 2) (s1 := ⟨t, r, 101, 3⟩) (s2 := ⟨t, r, 101, 3⟩) AAh ?_ (fun w _ => Gu h) (gW (by decide))
 exact JJ (Gu h) (Gu h) (LW (sF h) fun w _ => Gu h) fun w _ => Gu h
theorem AKK {l : Bs} {m : Nat} {f : Nat} {v : Tok} {q : List Tok} (hv : ∀ d, eY ⟨v, q, d, 0⟩) (hv2 : ∀ d, lZ ⟨v, q, d, 0⟩) :
    ∀ (n d : Nat), d + n < 100 -> expr (f + n + 4) (S.of (DV n [M IL] ++ N l m :: (DV n [M Ik] ++ v :: q)) d) = some (.mk 1 m [] [] false [], ⟨v, q, d, 0⟩) := by
  intro n
  suffices hh : ∀ (n d : Nat) (v : Tok) (q : List Tok), (∀ d, eY ⟨v, q, d, 0⟩) -> (∀ d, lZ ⟨v, q, d, 0⟩) -> d + n < 100 -> expr (f + n + 4) (S.of (DV n [M IL] ++ N l m :: (DV n [M Ik] ++ v :: q)) d) = some (.mk 1 m [] [] false [], ⟨v, q, d, 0⟩) from
    fun d hd => hh n d v q hv hv2 hd
  clear hv hv2 v q n
  intro n
  induction n with
  | zero =>
    intro d v q h1 h2 hd
    exact OH (f := f + 2) (Ry (by omega)) (JJ (zZ (show (4 : Nat) ≠ 1 by decide) (show (4 : Nat) ≠ 5 by decide)) (zZ (show (4 : Nat) ≠ 1 by decide) (show (4 : Nat) ≠ 5 by decide)) (LW ABt (h2 _)) (h1 _)) (h1 _) (jH (by omega))
  | succ n ih =>
    intro d v q h1 h2 hd
    have e1 := ih (d + 1) (M Ik) (v :: q) (fun d w hw => by rw [KI]; revert w; decide) (fun d w hw => by rw [KI]; revert w; decide) (by omega)
    have e2 : DV (n + 1) [M IL] ++ N l m :: (DV (n + 1) [M Ik] ++ v :: q) = M IL :: (DV n [M IL] ++ N l m :: (DV n [M Ik] ++ M Ik :: v :: q)) := by
      rw [MQ, AGZ]; simp
    rw [e2]
    generalize hx : DV n [M IL] ++ N l m :: (DV n [M Ik] ++ M Ik :: v :: q) = x at e1
    cases x with
    | nil => simp at hx
    | cons t x =>
      refine OH (f := f + n + 3) (s1 := ⟨M IL, t :: x, d + 1, 0⟩) (Ry (by omega)) ?_ (h1 (d + 1)) (jH (by omega))
      exact JJ rfl rfl (LW (AIV e1) (h2 _)) (h1 _)
theorem AMd {f : Nat} {v : Tok} {q : List Tok} : ∀ (n d : Nat), d <= 100 -> 100 <= d + n -> ∃ e t r, expr (f + n + 4) (S.of (DV n [M IL] ++ v :: q) d) = some (e, ⟨t, r, d, 3⟩) := by
 intro n
 induction n with
 | zero =>
  intro d h1 h2
  obtain rfl : d = 100 := by omega
  exact ⟨_, _, _, kZ⟩
 | succ n ih =>
  intro d h1 h2
  by_cases hd : d = 100
  ·subst hd
   rw [MQ]
   exact ⟨_, _, _, kZ (f := f + n + 1)⟩
  ·obtain ⟨e, t, r, he⟩ := ih (d + 1) (by omega) (by omega)
   rw [MQ]
   generalize hx : DV n [M IL] ++ v :: q = x at he
   have e2 : [M IL] ++ DV n [M IL] ++ v :: q = M IL :: x := by simp [hx]
   rw [e2]
   cases x with
   | nil => simp at hx
   | cons t' x =>
    have hb : (⟨t, r, d + 1, 3⟩ : S).e ≠ 0 := show (3 : Nat) ≠ 0 by decide
    refine ⟨e, t, r, OH (f := f + n + 3) (s1 := ⟨M IL, t' :: x, d + 1, 0⟩) (s2 := ⟨t, r, d + 1, 3⟩) (Ry (by omega)) ?_ (fun w _ => Gu hb) (gW (by omega))⟩
    refine JJ rfl rfl (LW ?_ fun w _ => Gu hb) fun w _ => Gu hb
    have he : expr (f + n + 4) ⟨t', x, d + 1, 0⟩ = some (e, ⟨t, r, d + 1, 3⟩) := he
    show ((expr (f + n + 4) ⟨t', x, d + 1, 0⟩).bind fun x => (Ce [Ik] x.2).bind fun s1 => some (x.1, s1)) = _
    rw [he]
    show ((Ce [Ik] ⟨t, r, d + 1, 3⟩).bind fun s1 => some (e, s1)) = _
    rw [aH hb]; rfl
theorem dA {rec : PM Ex} {f d : Nat} {u : Tok} {r : List Tok} : unary rec (f + 1) ⟨M CO, u :: r, d, 0⟩ = (Qs ⟨M CO, u :: r, d, 0⟩).bind fun s1 => (Ko s1).bind fun s2 => (unary rec f s2).bind fun p => (bD p.2).bind fun s' => some (Ex.mk 14 0 [] [] false [p.1], s') := rfl
theorem AO9 {rec : PM Ex} {l : Bs} {m : Nat} {f : Nat} {v : Tok} {q : List Tok} (hv : ∀ d, eY ⟨v, q, d, 0⟩) (hv2 : ∀ d, lZ ⟨v, q, d, 0⟩) :
    ∀ (n d : Nat), d + n <= 100 -> ∃ e, unary rec (f + n + 2) (S.of (DV n [M CO] ++ N l m :: v :: q) d) = some (e, ⟨v, q, d, 0⟩) := by
  intro n
  induction n with
  | zero =>
    intro d hd
    exact ⟨_, JJ (zZ (show (4 : Nat) ≠ 1 by decide) (show (4 : Nat) ≠ 5 by decide)) (zZ (show (4 : Nat) ≠ 1 by decide) (show (4 : Nat) ≠ 5 by decide)) (LW ABt (hv2 _)) (hv _)⟩
  | succ n ih =>
    intro d hd
    obtain ⟨e, he⟩ := ih (d + 1) (by omega)
    rw [MQ]
    generalize hx : DV n [M CO] ++ N l m :: v :: q = x at he
    have e2 : [M CO] ++ DV n [M CO] ++ N l m :: v :: q = M CO :: x := by simp [hx]
    rw [e2]
    cases x with
    | nil => simp at hx
    | cons t x =>
      refine ⟨.mk 14 0 [] [] false [e], ?_⟩
      show unary rec (f + n + 2 + 1) ⟨M CO, t :: x, d, 0⟩ = _
      rw [dA, Ry (by omega)]
      show ((unary rec (f + n + 2) ⟨t, x, d + 1, 0⟩).bind fun p => (bD p.2).bind fun s' => some (Ex.mk 14 0 [] [] false [p.1], s')) = _
      rw [show unary rec (f + n + 2) ⟨t, x, d + 1, 0⟩ = _ from he]
      show ((bD ⟨v, q, d + 1, 0⟩).bind fun s' => some (Ex.mk 14 0 [] [] false [e], s')) = _
      rw [jH (by omega)]; rfl
theorem AK1 {rec : PM Ex} {f : Nat} {v : Tok} {q : List Tok} :
    ∀ (n d : Nat), d <= 100 -> 100 < d + n -> ∃ e t r, unary rec (f + n + 2) (S.of (DV n [M CO] ++ v :: q) d) = some (e, ⟨t, r, d, 3⟩) := by
  intro n
  induction n with
  | zero => intro d h1 h2; omega
  | succ n ih =>
    intro d h1 h2
    rw [MQ]
    generalize hx : DV n [M CO] ++ v :: q = x at ih
    have e2 : [M CO] ++ DV n [M CO] ++ v :: q = M CO :: x := by simp [hx]
    rw [e2]
    cases x with
    | nil => simp at hx
    | cons t' x =>
      by_cases hd : d = 100
      · subst hd
        refine ⟨.mk 14 0 [] [] false [.mk 0 0 [] [] false []], t', x, ?_⟩
        have hb : (⟨t', x, 101, 3⟩ : S).e ≠ 0 := show (3 : Nat) ≠ 0 by decide
        show unary rec (f + n + 2 + 1) ⟨M CO, t' :: x, 100, 0⟩ = _
        rw [dA, AAh]
        show ((unary rec (f + n + 2) ⟨t', x, 101, 3⟩).bind fun p => (bD p.2).bind fun s' => some (Ex.mk 14 0 [] [] false [p.1], s')) = _
        rw [JJ (f := f + n) (s' := ⟨t', x, 101, 3⟩) (Gu hb) (Gu hb) (LW (sF hb) fun w _ => Gu hb) fun w _ => Gu hb]
        show ((bD ⟨t', x, 100 + 1, 3⟩).bind fun s' => some (Ex.mk 14 0 [] [] false [.mk 0 0 [] [] false []], s')) = _
        rw [gW (by decide)]; rfl
      · obtain ⟨e, t, r, he⟩ := ih (d + 1) (by omega) (by omega)
        refine ⟨.mk 14 0 [] [] false [e], t, r, ?_⟩
        show unary rec (f + n + 2 + 1) ⟨M CO, t' :: x, d, 0⟩ = _
        rw [dA, Ry (by omega)]
        show ((unary rec (f + n + 2) ⟨t', x, d + 1, 0⟩).bind fun p => (bD p.2).bind fun s' => some (Ex.mk 14 0 [] [] false [p.1], s')) = _
        rw [show unary rec (f + n + 2) ⟨t', x, d + 1, 0⟩ = _ from he]
        show ((bD ⟨t, r, d + 1, 3⟩).bind fun s' => some (Ex.mk 14 0 [] [] false [e], s')) = _
        rw [gW (by omega)]; rfl
end Go.PQ
namespace Go.PQ
open Go.Eng
set_option maxRecDepth 100000
section
variable {st ch : PM St} {f d : Nat} {u : Tok} {r : List Tok}
theorem ABb : pO st ch f ⟨W CY, u :: r, d, 0⟩ = (expr f ⟨u, r, d, 0⟩).bind fun x => endP (.mk 6 [] Xd [x.1] [] []) x.2 := rfl
theorem ALY : pO st ch f ⟨W WX, u :: r, d, 0⟩ = (expr f ⟨u, r, d, 0⟩).bind fun x => endP (.mk 7 [] Xd [x.1] [] []) x.2 := rfl
theorem gQ : pO st ch f ⟨W QU, u :: r, d, 0⟩ = (expr f ⟨u, r, d, 0⟩).bind fun c => (Om st f c.2).bind fun t => some (.mk 5 [] Xd [c.1] t.1 [], t.2) := rfl
theorem AOF : pO st ch f ⟨W jO, u :: r, d, 0⟩ = (jU ⟨u, r, d, 0⟩).bind fun t => (Hr 3 t.2).bind fun n => (Ce [O5] n.2).bind fun s1 => (expr f s1).bind fun x => endP (.mk 1 n.1 t.1 [x.1] [] []) x.2 := rfl
theorem AQq : pO st ch f ⟨W nK, u :: r, d, 0⟩ = ch ⟨W nK, u :: r, d, 0⟩ := rfl
theorem AGA : sc (f + 1) false = pO (sc f false) (sc f true) f := rfl
theorem AV4 : sc (f + 1) true = yP (sc f false) (sc f true) f := rfl
theorem ALJ {a : St} : endP a ⟨M BQ, u :: r, d, 0⟩ = some (a, ⟨u, r, d, 0⟩) := rfl
theorem ah {out : List St} : Ea st (f + 1) out ⟨M m_rc, u :: r, d, 0⟩ = some (out, ⟨u, r, d, 0⟩) := rfl
theorem dS {out : List St} {s : S} (h : s.e ≠ 0) : Ea st (f + 1) out s = some (out, s) := by
 show (bif s.ok then _ else some (out, s)) = _
 rw [uV h]; rfl
theorem VL {out : List St} {t : Tok} {q : List Tok} {a : St} {s' : S} (h0 : O0 m_rc ⟨t, q, d, 0⟩ = false) (hl : out.length < 1000000) (h : st ⟨t, q, d, 0⟩ = some (a, s')) : Ea st (f + 1) out ⟨t, q, d, 0⟩ = Ea st f (out ++ [a]) s' := by
 show ((Cc m_rc ⟨t, q, d, 0⟩).bind fun p => bif p.1 then some (out, p.2) else (st p.2).bind fun q => bif decide (out.length < 1000000) then Ea st f (out ++ [q.1]) q.2 else none) = _
 rw [ku h0]
 show ((st ⟨t, q, d, 0⟩).bind fun q => bif decide (out.length < 1000000) then Ea st f (out ++ [q.1]) q.2 else none) = _
 rw [h]
 show (bif decide (out.length < 1000000) then Ea st f (out ++ [a]) s' else none) = _
 rw [decide_eq_true hl]; rfl
theorem nN {b : List St} {s' s'' : S} (hd : d < 100) (h : Ea st f [] ⟨u, r, d + 1, 0⟩ = some (b, s')) (hu : bD s' = some s'') : Om st f ⟨M G5, u :: r, d, 0⟩ = some (b, s'') := by
 show ((Qs ⟨M G5, u :: r, d, 0⟩).bind fun s1 => (Ce [G5] s1).bind fun s2 => (Ea st f [] s2).bind fun p => (bD p.2).bind fun s' => some (p.1, s')) = _
 rw [Ry hd]
 show ((Ce [G5] ⟨M G5, u :: r, d + 1, 0⟩).bind fun s2 => (Ea st f [] s2).bind fun p => (bD p.2).bind fun s' => some (p.1, s')) = _
 rw [lu]
 show ((Ea st f [] ⟨u, r, d + 1, 0⟩).bind fun p => (bD p.2).bind fun s' => some (p.1, s')) = _
 rw [h]
 show ((bD s').bind fun s' => some (b, s')) = _
 rw [hu]; rfl
theorem AC1 {s : S} (h : s.e ≠ 0) (hd : s.deep < 1000000) : Om st (f + 1) s = some ([], s) := by
 unfold Om
 rw [ABQ h hd]
 show ((Ce [G5] { s with deep := s.deep + 1 }).bind fun s2 => (Ea st (f + 1) [] s2).bind fun p => (bD p.2).bind fun s' => some (p.1, s')) = _
 rw [aH (s := { s with deep := s.deep + 1 }) h]
 show ((Ea st (f + 1) [] { s with deep := s.deep + 1 }).bind fun p => (bD p.2).bind fun s' => some (p.1, s')) = _
 rw [dS (s := { s with deep := s.deep + 1 }) h]
 show ((bD { s with deep := s.deep + 1 }).bind fun s' => some ([], s')) = _
 unfold bD; simp only [hd, decide_true, cond_true]; rfl
end
theorem ACl {f g d : Nat} {u v : Tok} {r q : List Tok} {e : Ex} {out : List St} (hl : out.length < 1000000) (h : expr f ⟨u, r, d, 0⟩ = some (e, ⟨M BQ, v :: q, d, 0⟩)) :
    Ea (sc (f + 1) false) (g + 1) out ⟨W CY, u :: r, d, 0⟩ = Ea (sc (f + 1) false) g (out ++ [.mk 6 [] Xd [e] [] []]) ⟨v, q, d, 0⟩ := by
  refine VL rfl hl ?_
  rw [AGA, ABb, h]; exact ALJ
theorem zF {f g d x : Nat} {u t : Tok} {r q : List Tok} {e : Ex} {out : List St} (hx : x ≠ 0) (hl : out.length < 1000000) (h : expr f ⟨u, r, d, 0⟩ = some (e, ⟨t, q, d, x⟩)) :
    ∃ b, Ea (sc (f + 1) false) (g + 2) out ⟨W CY, u :: r, d, 0⟩ = some (b, ⟨t, q, d, x⟩) := by
  have hb : (⟨t, q, d, x⟩ : S).e ≠ 0 := hx
  refine ⟨_, (VL (s' := ⟨t, q, d, x⟩) (a := .mk 6 [] Xd [e] [] []) rfl hl ?_).trans (dS hb)⟩
  rw [AGA, ABb, h]; exact AI0 hb
def QI : List Tok := [W QU, W VR, M G5]
theorem AG9 {f g d : Nat} {u : Tok} {r : List Tok} {b out : List St} {v : Tok} {q : List Tok} (hd : d < 99) (hl : out.length < 1000000) (h : Ea (sc (f + 4) false) (f + 4) [] ⟨u, r, d + 1, 0⟩ = some (b, ⟨v, q, d + 1, 0⟩)) :
    ∃ a, Ea (sc (f + 5) false) (g + 1) out ⟨W QU, W VR :: M G5 :: u :: r, d, 0⟩ = Ea (sc (f + 5) false) g (out ++ [a]) ⟨v, q, d, 0⟩ := by
  refine ⟨.mk 5 [] Xd [.mk 2 0 [] [] false []] b [], VL rfl hl ?_⟩
  rw [AGA, gQ]
  have he : expr (f + 4) ⟨W VR, M G5 :: u :: r, d, 0⟩ = some (.mk 2 0 [] [] false [], ⟨M G5, u :: r, d, 0⟩) :=
    OH (f := f + 2) (Ry (by omega)) (JJ rfl rfl (LW wO fun w hw => by rw [KI]; revert w; decide) fun w hw => by rw [KI]; revert w; decide) (fun w hw => by rw [KI]; revert w; decide) (jH (by omega))
  rw [he]
  show ((Om (sc (f + 4) false) (f + 4) ⟨M G5, u :: r, d, 0⟩).bind fun t => some (St.mk 5 [] Xd [.mk 2 0 [] [] false []] t.1 [], t.2)) = _
  rw [nN (by omega) h (jH (by omega))]; rfl
theorem AFJ {f g d : Nat} {u : Tok} {r : List Tok} {b out : List St} {v : Tok} {q : List Tok} (hd : d < 100) (hl : out.length < 1000000) (h : Ea (sc (f + 4) false) (f + 4) [] ⟨u, r, d + 1, 0⟩ = some (b, ⟨v, q, d + 1, 3⟩)) :
    ∃ b, Ea (sc (f + 5) false) (g + 2) out ⟨W QU, W VR :: M G5 :: u :: r, d, 0⟩ = some (b, ⟨v, q, d, 3⟩) := by
  have hb : (⟨v, q, d, 3⟩ : S).e ≠ 0 := show (3 : Nat) ≠ 0 by decide
  refine ⟨_, (VL (s' := ⟨v, q, d, 3⟩) (a := .mk 5 [] Xd [.mk 2 0 [] [] false []] b []) rfl hl ?_).trans (dS hb)⟩
  rw [AGA, gQ]
  have he : expr (f + 4) ⟨W VR, M G5 :: u :: r, d, 0⟩ = some (.mk 2 0 [] [] false [], ⟨M G5, u :: r, d, 0⟩) :=
    OH (f := f + 2) (Ry (by omega)) (JJ rfl rfl (LW wO fun w hw => by rw [KI]; revert w; decide) fun w hw => by rw [KI]; revert w; decide) (fun w hw => by rw [KI]; revert w; decide) (jH (by omega))
  rw [he]
  show ((Om (sc (f + 4) false) (f + 4) ⟨M G5, u :: r, d, 0⟩).bind fun t => some (St.mk 5 [] Xd [.mk 2 0 [] [] false []] t.1 [], t.2)) = _
  rw [nN hd h (gW (by omega))]; rfl
theorem AEr {f g : Nat} {u : Tok} {r : List Tok} {out : List St} (hl : out.length < 1000000) :
    ∃ b t q, Ea (sc (f + 5) false) (g + 2) out ⟨W QU, u :: r, 100, 0⟩ = some (b, ⟨t, q, 100, 3⟩) := by
  have hb : (⟨u, r, 100, 3⟩ : S).e ≠ 0 := show (3 : Nat) ≠ 0 by decide
  refine ⟨_, u, r, (VL (s' := ⟨u, r, 100, 3⟩) (a := .mk 5 [] Xd [.mk 0 0 [] [] false []] [] []) rfl hl ?_).trans (dS hb)⟩
  rw [AGA, gQ, kZ]
  show ((Om (sc (f + 4) false) (f + 4) ⟨u, r, 100, 3⟩).bind fun t => some (St.mk 5 [] Xd [.mk 0 0 [] [] false []] t.1 [], t.2)) = _
  rw [AC1 hb (show 100 < 1000000 by decide)]; rfl
def tJ : List Tok := [W CY, N [49] 1, M BQ]
theorem ANG {f d : Nat} {l : Bs} {m : Nat} {q : List Tok} (hd : d < 100) : expr (f + 4) ⟨N l m, M BQ :: q, d, 0⟩ = some (.mk 1 m [] [] false [], ⟨M BQ, q, d, 0⟩) :=
 AKK (v := M BQ) (fun d w hw => by rw [KI]; revert w; decide) (fun d w hw => by rw [KI]; revert w; decide) 0 d (by omega)
theorem AIl : ∀ (n d f g : Nat) (v : Tok) (q : List Tok), d + n < 100 -> ∃ b, Ea (sc (f + n + 6) false) (g + n + 6) [] (S.of (DV n QI ++ tJ ++ DV n [M m_rc] ++ M m_rc :: v :: q) d) = some (b, ⟨v, q, d, 0⟩) := by
 intro n
 induction n with
 | zero =>
  intro d f g v q hd
  refine ⟨_, (ACl (f := f + 5) (g := g + 5) (out := []) (by decide) (ANG (f := f + 1) (by omega))).trans ah⟩
 | succ n ih =>
  intro d f g v q hd
  obtain ⟨b, hb⟩ := ih (d + 1) f f (M m_rc) (v :: q) (by omega)
  have e2 : DV (n + 1) QI ++ tJ ++ DV (n + 1) [M m_rc] ++ M m_rc :: v :: q = QI ++ (DV n QI ++ tJ ++ DV n [M m_rc] ++ M m_rc :: M m_rc :: v :: q) := by
   rw [MQ, AGZ]; simp
  rw [e2]
  generalize hx : DV n QI ++ tJ ++ DV n [M m_rc] ++ M m_rc :: M m_rc :: v :: q = x at hb
  cases x with
  | nil => simp at hx
  | cons t x =>
   obtain ⟨a, ha⟩ := AG9 (f := f + n + 2) (g := g + n + 6) (out := []) (v := M m_rc) (q := v :: q) (by omega) (by decide) hb
   exact ⟨_, ha.trans ah⟩
theorem AHB {y : Tok} {p : List Tok} : ∀ (n d f g : Nat), d <= 100 -> 100 <= d + n -> ∃ b t r, Ea (sc (f + n + 6) false) (g + n + 6) [] (S.of (DV n QI ++ W CY :: y :: p) d) = some (b, ⟨t, r, d, 3⟩) := by
 intro n
 induction n with
 | zero =>
  intro d f g h1 h2
  obtain rfl : d = 100 := by omega
  obtain ⟨b, hb⟩ := zF (f := f + 5) (g := g + 4) (out := []) (x := 3) (by decide) (by decide) (kZ (t := y) (r := p) (f := f + 1))
  exact ⟨b, _, _, hb⟩
 | succ n ih =>
  intro d f g h1 h2
  rw [MQ]
  by_cases hd : d = 100
  ·subst hd
   exact AEr (f := f + n + 2) (g := g + n + 5) (out := []) (by decide)
  ·obtain ⟨b, t, r, hb⟩ := ih (d + 1) f f (by omega) (by omega)
   rw [List.append_assoc]
   generalize hx : DV n QI ++ W CY :: y :: p = x at hb
   cases x with
   | nil => simp at hx
   | cons z x =>
    obtain ⟨a, ha⟩ := AFJ (f := f + n + 2) (g := g + n + 5) (out := []) (by omega) (by decide) hb
    exact ⟨_, _, _, ha⟩
end Go.PQ
namespace Go.PQ
open Go.Eng
set_option maxRecDepth 100000
theorem AQu {u : Tok} {r : List Tok} {d : Nat} (h : O0 V4 ⟨u, r, d, 0⟩ = false) : jU ⟨W F5, u :: r, d, 0⟩ = some (⟨F5, false⟩, ⟨u, r, d, 0⟩) := by
 show ((Cc V4 ⟨u, r, d, 0⟩).bind fun q => bif q.1 then (Ce [XC] q.2).bind fun s => some (Ty.mk F5 true, s) else some (Ty.mk F5 false, q.2)) = _
 rw [ku h]; rfl
theorem AAD {f : Nat} {l : Bs} {u : Tok} {r : List Tok} {b : List St} {s' s'' : S} (h : Ea (sc (f + 1) false) (f + 1) [] ⟨u, r, 1, 0⟩ = some (b, s')) (hu : bD s' = some s'') :
    WG (f + 1) ⟨W Df, W F5 :: L l :: M IL :: M Ik :: M G5 :: u :: r, 0, 0⟩ = some (⟨l, false, [], ⟨F5, false⟩, b⟩, s'') := by
  show ((Om (sc (f + 1) false) (f + 1) ⟨M G5, u :: r, 0, 0⟩).bind fun b => some (Me.mk l false [] ⟨F5, false⟩ b.1, b.2)) = _
  rw [nN (by decide) h hu]; rfl
theorem iJ {f g : Nat} {fs : List Va} {ms : List Me} {u : Tok} {r : List Tok} {m : Me} {s' : S} (h : WG f ⟨W Df, u :: r, 0, 0⟩ = some (m, s')) :
    FU f (g + 1) fs ms ⟨W Df, u :: r, 0, 0⟩ = FU f g fs (ms ++ [m]) (Ht (ms.length + 1) s') := by
  show ((WG f ⟨W Df, u :: r, 0, 0⟩).bind fun m => FU f g fs (ms ++ [m.1]) (Ht (ms.length + 1) m.2)) = _
  rw [h]; rfl
theorem AA4 {f g : Nat} {fs : List Va} {ms : List Me} {l : Bs} {u : Tok} {r : List Tok} :
    FU f (g + 1) fs ms ⟨W ND, W F5 :: L l :: u :: r, 0, 0⟩ = (Ce [BQ] (Ht (fs.length + 1) ⟨u, r, 0, 0⟩)).bind fun s1 => FU f g (fs ++ [⟨l, ⟨F5, false⟩⟩]) ms s1 := rfl
theorem qy {f g : Nat} {fs : List Va} {ms : List Me} {u : Tok} {r : List Tok} : FU f (g + 1) fs ms ⟨M m_rc, u :: r, 0, 0⟩ = some ((fs, ms), ⟨u, r, 0, 0⟩) := rfl
theorem l9 {f g : Nat} {fs : List Va} {ms : List Me} {s : S} (h : s.e ≠ 0) : FU f (g + 1) fs ms s = some ((fs, ms), s) := by
 show (bif s.ok then _ else some ((fs, ms), s)) = _
 rw [uV h]; rfl
def AJv (s : S) : S := bif s.ok && !decide (s.t.kind = 0) then Fj 21 s else s
theorem ADf {s : S} (h : s.e ≠ 0) : AJv s = s := by unfold AJv; rw [uV h]; rfl
theorem uD {f : Nat} {l : Bs} {u : Tok} {r : List Tok} {x : List Va × List Me} {s : S} (h : FU f f [] [] ⟨u, r, 0, 0⟩ = some (x, s)) :
    MS f (W Iw :: U l :: M G5 :: u :: r) = some (⟨l, [], x.1, x.2⟩, (AJv s).e) := by
  show (((FU f f [] [] ⟨u, r, 0, 0⟩).bind fun x => some (Cl.mk l [] x.1.1 x.1.2, AJv x.2)).bind fun p => some (p.1, p.2.e)) = _
  rw [h]; rfl
def hdT (c l : Bs) : List Tok := [W Iw, U c, M G5, W Df, W F5, L l, M IL, M Ik, M G5]
theorem ACH {f : Nat} {c l : Bs} {u : Tok} {r : List Tok} {b : List St} (h : Ea (sc (f + 2) false) (f + 2) [] ⟨u, r, 1, 0⟩ = some (b, ⟨M m_rc, [FP], 1, 0⟩)) :
    MS (f + 2) (hdT c l ++ u :: r) = some (⟨c, [], [], [⟨l, false, [], ⟨F5, false⟩, b⟩]⟩, 0) := by
  exact uD (s := ⟨FP, [], 0, 0⟩) (x := ([], [⟨l, false, [], ⟨F5, false⟩, b⟩])) (u := W Df) (r := W F5 :: L l :: M IL :: M Ik :: M G5 :: u :: r) ((iJ (AAD (f := f + 1) h (jH (d := 0) (by decide)))).trans qy)
theorem rJ {f x : Nat} {c l : Bs} {u t : Tok} {r q : List Tok} {b : List St} (hx : x ≠ 0) (h : Ea (sc (f + 2) false) (f + 2) [] ⟨u, r, 1, 0⟩ = some (b, ⟨t, q, 1, x⟩)) :
    MS (f + 2) (hdT c l ++ u :: r) = some (⟨c, [], [], [⟨l, false, [], ⟨F5, false⟩, b⟩]⟩, x) := by
  have hb : (⟨t, q, 0, x⟩ : S).e ≠ 0 := hx
  rw [show hdT c l ++ u :: r = W Iw :: U c :: M G5 :: W Df :: W F5 :: L l :: M IL :: M Ik :: M G5 :: u :: r from rfl,
    uD (s := ⟨t, q, 0, x⟩) ((iJ (AAD (f := f + 1) h (gW (d := 0) (by decide)))).trans (l9 hb)), ADf hb]
  rfl
def clT (ts : List Tok) : List Tok := hdT [65] [109] ++ ts ++ [M m_rc, M m_rc, FP]
def brT (n : Nat) : List Tok := W CY :: (DV n [M IL] ++ N [49] 1 :: (DV n [M Ik] ++ [M BQ]))
def sgT (n : Nat) : List Tok := W CY :: (DV n [M CO] ++ [N [49] 1, M BQ])
def whT (n : Nat) : List Tok := DV n QI ++ tJ ++ DV n [M m_rc]
theorem AKP (t : Tok) (ts : List Tok) : clT (t :: ts) = hdT [65] [109] ++ t :: (ts ++ [M m_rc, M m_rc, FP]) := by simp [clT]
theorem mJ {q : List Tok} (d : Nat) : eY ⟨M BQ, q, d, 0⟩ := fun w hw => by rw [KI]; revert w; decide
theorem oh {q : List Tok} (d : Nat) : lZ ⟨M BQ, q, d, 0⟩ := fun w hw => by rw [KI]; revert w; decide
theorem AOB (n : Nat) : ∃ c e, MS (n + 9) (clT (brT n)) = some (c, e) /\ (e = if n <= 98 then 0 else 3) := by
 unfold brT
 rw [AKP]
 have hx : DV n [M IL] ++ N [49] 1 :: (DV n [M Ik] ++ [M BQ]) ++ [M m_rc, M m_rc, FP] = DV n [M IL] ++ N [49] 1 :: (DV n [M Ik] ++ M BQ :: [M m_rc, M m_rc, FP]) := by simp
 rw [hx]
 obtain ⟨t, x, hcons⟩ : ∃ t x, DV n [M IL] ++ N [49] 1 :: (DV n [M Ik] ++ M BQ :: [M m_rc, M m_rc, FP]) = t :: x := by
  cases n with
  | zero => exact ⟨_, _, rfl⟩
  | succ n => rw [MQ]; exact ⟨_, _, rfl⟩
 by_cases h : n <= 98
 ·have hb := AKK (l := [49]) (m := 1) (f := 4) (v := M BQ) (q := [M m_rc, M m_rc, FP]) mJ oh n 1 (by omega)
  rw [show 4 + n + 4 = n + 8 by omega, hcons] at hb
  rw [if_pos h, hcons]
  exact ⟨_, _, ACH (f := n + 7) ((ACl (f := n + 8) (g := n + 8) (out := []) (by decide) hb).trans ah), rfl⟩
 ·obtain ⟨e, t', r, hb⟩ := AMd (f := 4) (v := N [49] 1) (q := DV n [M Ik] ++ M BQ :: [M m_rc, M m_rc, FP]) n 1 (by omega) (by omega)
  rw [show 4 + n + 4 = n + 8 by omega, hcons] at hb
  rw [if_neg h, hcons]
  obtain ⟨b, hr⟩ := zF (f := n + 8) (g := n + 7) (out := []) (x := 3) (by decide) (by decide) hb
  exact ⟨_, _, rJ (f := n + 7) (by decide) hr, rfl⟩
theorem APX (n : Nat) : ∃ c e, MS (n + 9) (clT (sgT n)) = some (c, e) /\ (e = if n <= 98 then 0 else 3) := by
 unfold sgT
 rw [AKP]
 have hx : DV n [M CO] ++ [N [49] 1, M BQ] ++ [M m_rc, M m_rc, FP] = DV n [M CO] ++ N [49] 1 :: M BQ :: [M m_rc, M m_rc, FP] := by simp
 rw [hx]
 obtain ⟨t, x, hcons⟩ : ∃ t x, DV n [M CO] ++ N [49] 1 :: M BQ :: [M m_rc, M m_rc, FP] = t :: x := by
  cases n with
  | zero => exact ⟨_, _, rfl⟩
  | succ n => rw [MQ]; exact ⟨_, _, rfl⟩
 by_cases h : n <= 98
 ·obtain ⟨e, hb⟩ := AO9 (rec := expr (n + 7)) (l := [49]) (m := 1) (f := 5) (v := M BQ) (q := [M m_rc, M m_rc, FP]) mJ oh n 2 (by omega)
  rw [show 5 + n + 2 = n + 7 by omega, hcons] at hb
  have he : expr (n + 8) ⟨t, x, 1, 0⟩ = some (e, ⟨M BQ, [M m_rc, M m_rc, FP], 1, 0⟩) := OH (f := n + 6) (Ry (by decide)) hb (mJ _) (jH (by decide))
  rw [if_pos h, hcons]
  exact ⟨_, _, ACH (f := n + 7) ((ACl (f := n + 8) (g := n + 8) (out := []) (by decide) he).trans ah), rfl⟩
 ·obtain ⟨e, t', r, hb⟩ := AK1 (rec := expr (n + 7)) (f := 5) (v := N [49] 1) (q := M BQ :: [M m_rc, M m_rc, FP]) n 2 (by omega) (by omega)
  rw [show 5 + n + 2 = n + 7 by omega, hcons] at hb
  have hbad : (⟨t', r, 2, 3⟩ : S).e ≠ 0 := show (3 : Nat) ≠ 0 by decide
  have he : expr (n + 8) ⟨t, x, 1, 0⟩ = some (e, ⟨t', r, 1, 3⟩) := OH (f := n + 6) (Ry (by decide)) hb (fun w _ => Gu hbad) (gW (by decide))
  rw [if_neg h, hcons]
  obtain ⟨b, hr⟩ := zF (f := n + 8) (g := n + 7) (out := []) (x := 3) (by decide) (by decide) he
  exact ⟨_, _, rJ (f := n + 7) (by decide) hr, rfl⟩
theorem AN9 (n : Nat) : ∃ c e, MS (n + 9) (clT (whT n)) = some (c, e) /\ (e = if n <= 98 then 0 else 3) := by
 unfold whT clT
 have hx : hdT [65] [109] ++ (DV n QI ++ tJ ++ DV n [M m_rc]) ++ [M m_rc, M m_rc, FP] = hdT [65] [109] ++ (DV n QI ++ tJ ++ DV n [M m_rc] ++ M m_rc :: M m_rc :: [FP]) := by simp
 rw [hx]
 obtain ⟨t, x, hcons⟩ : ∃ t x, DV n QI ++ tJ ++ DV n [M m_rc] ++ M m_rc :: M m_rc :: [FP] = t :: x := by
  cases n with
  | zero => exact ⟨_, _, rfl⟩
  | succ n => rw [MQ]; exact ⟨_, _, rfl⟩
 by_cases h : n <= 98
 ·obtain ⟨b, hb⟩ := AIl n 1 3 3 (M m_rc) [FP] (by omega)
  rw [show 3 + n + 6 = n + 9 by omega, hcons] at hb
  rw [if_pos h, hcons]
  exact ⟨_, _, ACH (f := n + 7) hb, rfl⟩
 ·obtain ⟨b, t', r, hb⟩ := AHB (y := N [49] 1) (p := M BQ :: (DV n [M m_rc] ++ M m_rc :: M m_rc :: [FP])) n 1 3 3 (by omega) (by omega)
  rw [show DV n QI ++ W CY :: N [49] 1 :: M BQ :: (DV n [M m_rc] ++ M m_rc :: M m_rc :: [FP]) = DV n QI ++ tJ ++ DV n [M m_rc] ++ M m_rc :: M m_rc :: [FP] by simp [tJ], show 3 + n + 6 = n + 9 by omega, hcons] at hb
  rw [if_neg h, hcons]
  exact ⟨_, _, rJ (f := n + 7) (by decide) hb, rfl⟩
def nU : List Tok := [W ND, W F5, L [120], M BQ]
def wI : List Tok := [W Df, W F5, L [109], M IL, M Ik, M G5, M m_rc]
theorem AFW {f : Nat} {ms : List Me} : ∀ (n g : Nat) (fs : List Va), ∃ x t r e, FU f (g + n + 2) fs ms (S.of (DV n nU ++ [M m_rc, FP]) 0) = some (x, ⟨t, r, 0, e⟩) /\ (fs.length <= 200 -> e = if fs.length + n <= 200 then 0 else 4) /\ (e = 0 -> t = FP) := by
 intro n
 induction n with
 | zero =>
  intro g fs
  exact ⟨_, FP, [], 0, qy, fun h => by rw [if_pos (by omega)], fun _ => rfl⟩
 | succ n ih =>
  intro g fs
  obtain ⟨t, x, hcons⟩ : ∃ t x, DV n nU ++ [M m_rc, FP] = t :: x := by
   cases n with
   | zero => exact ⟨_, _, rfl⟩
   | succ n => rw [MQ]; exact ⟨_, _, rfl⟩
  have e1 : S.of (DV (n + 1) nU ++ [M m_rc, FP]) 0 = ⟨W ND, W F5 :: L [120] :: M BQ :: t :: x, 0, 0⟩ := by
   rw [MQ, List.append_assoc, hcons]; rfl
  rw [e1, show g + (n + 1) + 2 = g + n + 2 + 1 by omega, AA4]
  by_cases h : 200 < fs.length + 1
  ·have hb : (⟨M BQ, t :: x, 0, 4⟩ : S).e ≠ 0 := show (4 : Nat) ≠ 0 by decide
   have hm : Ht (fs.length + 1) ⟨M BQ, t :: x, 0, 0⟩ = ⟨M BQ, t :: x, 0, 4⟩ := by unfold Ht; rw [decide_eq_true h]; rfl
   rw [hm, aH hb]
   exact ⟨_, M BQ, t :: x, 4, l9 hb, fun hl => by rw [if_neg (by omega)], fun h => absurd h (by decide)⟩
  ·have hm : Ht (fs.length + 1) ⟨M BQ, t :: x, 0, 0⟩ = ⟨M BQ, t :: x, 0, 0⟩ := by unfold Ht; rw [decide_eq_false h]; rfl
   rw [hm, lu]
   obtain ⟨y, t', r', e, h1, h2, h3⟩ := ih g (fs ++ [⟨[120], ⟨F5, false⟩⟩])
   rw [hcons] at h1
   refine ⟨y, t', r', e, h1, fun hl => ?_, h3⟩
   rw [h2 (by rw [List.length_append]; show fs.length + 1 <= 200; omega), List.length_append]
   show (if fs.length + 1 + n <= 200 then 0 else 4) = _
   rw [show fs.length + 1 + n = fs.length + (n + 1) by omega]
theorem AIF {f : Nat} {fs : List Va} : ∀ (n g : Nat) (ms : List Me), ∃ x t r e, FU (f + 1) (g + n + 2) fs ms (S.of (DV n wI ++ [M m_rc, FP]) 0) = some (x, ⟨t, r, 0, e⟩) /\ (ms.length <= 200 -> e = if ms.length + n <= 200 then 0 else 4) /\ (e = 0 -> t = FP) := by
 intro n
 induction n with
 | zero =>
  intro g ms
  exact ⟨_, FP, [], 0, qy, fun h => by rw [if_pos (by omega)], fun _ => rfl⟩
 | succ n ih =>
  intro g ms
  obtain ⟨t, x, hcons⟩ : ∃ t x, DV n wI ++ [M m_rc, FP] = t :: x := by
   cases n with
   | zero => exact ⟨_, _, rfl⟩
   | succ n => rw [MQ]; exact ⟨_, _, rfl⟩
  have e1 : S.of (DV (n + 1) wI ++ [M m_rc, FP]) 0 = ⟨W Df, W F5 :: L [109] :: M IL :: M Ik :: M G5 :: M m_rc :: t :: x, 0, 0⟩ := by
   rw [MQ, List.append_assoc, hcons]; rfl
  rw [e1, show g + (n + 1) + 2 = g + n + 2 + 1 by omega, iJ (AAD (s'' := ⟨t, x, 0, 0⟩) ah (jH (by decide)))]
  by_cases h : 200 < ms.length + 1
  ·have hb : (⟨t, x, 0, 4⟩ : S).e ≠ 0 := show (4 : Nat) ≠ 0 by decide
   have hm : Ht (ms.length + 1) ⟨t, x, 0, 0⟩ = ⟨t, x, 0, 4⟩ := by unfold Ht; rw [decide_eq_true h]; rfl
   rw [hm]
   exact ⟨_, t, x, 4, l9 hb, fun hl => by rw [if_neg (by omega)], fun h => absurd h (by decide)⟩
  ·have hm : Ht (ms.length + 1) ⟨t, x, 0, 0⟩ = ⟨t, x, 0, 0⟩ := by unfold Ht; rw [decide_eq_false h]; rfl
   rw [hm]
   obtain ⟨y, t', r', e, h1, h2, h3⟩ := ih g (ms ++ [⟨[109], false, [], ⟨F5, false⟩, []⟩])
   rw [hcons] at h1
   refine ⟨y, t', r', e, h1, fun hl => ?_, h3⟩
   rw [h2 (by rw [List.length_append]; show ms.length + 1 <= 200; omega), List.length_append]
   show (if ms.length + 1 + n <= 200 then 0 else 4) = _
   rw [show ms.length + 1 + n = ms.length + (n + 1) by omega]
def memT (l : List Tok) (n : Nat) : List Tok := [W Iw, U [65], M G5] ++ (DV n l ++ [M m_rc, FP])
theorem xI {f n : Nat} {l : List Tok} {x : List Va × List Me} {t : Tok} {r : List Tok} {e : Nat} (h : FU f f [] [] (S.of (DV n l ++ [M m_rc, FP]) 0) = some (x, ⟨t, r, 0, e⟩)) (he : e = 0 -> t = FP) (hl : l ≠ []) : MS f (memT l n) = some (⟨[65], [], x.1, x.2⟩, e) := by
 obtain ⟨t', x', hcons⟩ : ∃ t x, DV n l ++ [M m_rc, FP] = t :: x := by
  cases n with
  | zero => exact ⟨_, _, rfl⟩
  | succ n => cases l with
   | nil => exact absurd rfl hl
   | cons a l => rw [MQ]; exact ⟨_, _, rfl⟩
 rw [hcons] at h
 unfold memT
 rw [hcons, show [W Iw, U [65], M G5] ++ t' :: x' = W Iw :: U [65] :: M G5 :: t' :: x' from rfl, uD h]
 by_cases h0 : e = 0
 ·rw [he h0, h0]; rfl
 ·rw [ADf (s := ⟨t, r, 0, e⟩) h0]
theorem AKb (n : Nat) : ∃ c e, MS (n + 9) (memT nU n) = some (c, e) /\ (e = if n <= 200 then 0 else 4) := by
 obtain ⟨x, t, r, e, h1, h2, h3⟩ := AFW (f := n + 9) (ms := []) n 7 []
 rw [show 7 + n + 2 = n + 9 by omega] at h1
 exact ⟨_, e, xI h1 h3 (by simp [nU]), by rw [h2 (by decide)]; simp⟩
theorem AKx (n : Nat) : ∃ c e, MS (n + 9) (memT wI n) = some (c, e) /\ (e = if n <= 200 then 0 else 4) := by
 obtain ⟨x, t, r, e, h1, h2, h3⟩ := AIF (f := n + 8) (fs := []) n 7 []
 rw [show 7 + n + 2 = n + 9 by omega] at h1
 exact ⟨_, e, xI h1 h3 (by simp [wI]), by rw [h2 (by decide)]; simp⟩
end Go.PQ
namespace Go.PQ
open Go.Eng
set_option maxRecDepth 100000
theorem IZ {g s : Bs} {ts : List Tok} (hg : Gap g) (h : Hu s ts) : Hu (g ++ s) ts := fun f hf => by
 rw [List.length_append] at hf
 have := h f (by omega)
 cases f with
 | zero => omega
 | succ f => rw [AAJ, hg, <- AAJ]; exact this
theorem Us {t : Tok} {r : Bs} {ts : List Tok} (hw : Wf t) (hs : AA5 t r = true) (h : Hu r ts) : Hu (t.text ++ r) (t :: ts) := AEP qU hw (AFd hs) h
theorem LK : Gap [32] := wL (by decide)
def safe (m : Bs) : Bool := decide (m ∈ D9) && !(decide (m = O5) || (decide (m = RJ) || decide (m = Vb))) && !decide (m = SA)
theorem Ie {m : Bs} {r : Bs} {ts : List Tok} (hm : safe m = true) (h : Hu r ts) : Hu (m ++ r) (M m :: ts) := by
 simp only [safe, Bool.and_eq_true, decide_eq_true_eq, Bool.not_eq_true'] at hm
 refine Us (t := M m) (.mark hm.1.1) ?_ h
 cases r with
 | nil => rfl
 | cons c r =>
  show I7 (M m) c = true
  show XH m c = true
  unfold XH
  rw [hm.1.2, hm.2]; rfl
theorem MZ {t : Tok} {r : Bs} {ts : List Tok} (hw : Wf t) (h : Hu r ts) : Hu (t.text ++ ([32] ++ r)) (t :: ts) := Us hw (ACY (by decide)) (IZ LK h)
def Tz (n : Nat) (s : Bs) : Bs := (List.replicate n s).flatten
theorem rO (n : Nat) (s : Bs) : Tz (n + 1) s = s ++ Tz n s := by simp [Tz, List.replicate_succ]
theorem ATP (n : Nat) (s : Bs) : Tz (n + 1) s = Tz n s ++ s := by
 induction n with
 | zero => simp [Tz]
 | succ n ih => rw [rO (n + 1), ih, <- List.append_assoc, <- rO, ih]
theorem AQJ (n : Nat) (s : Bs) : (Tz n s).length = n * s.length := by
 induction n with
 | zero => simp [Tz]
 | succ n ih => rw [rO, List.length_append, ih, Nat.succ_mul]; omega
theorem Yr {s : Bs} {l : List Tok} (h : ∀ r ts, Hu r ts -> Hu (s ++ r) (l ++ ts)) {r : Bs} {ts : List Tok} (hr : Hu r ts) : ∀ n, Hu (Tz n s ++ r) (DV n l ++ ts)
 | 0 => hr
 | n + 1 => by rw [rO, MQ, List.append_assoc, List.append_assoc]; exact h _ _ (Yr h hr n)
theorem FV {l : Bs} (h : decide (l ∈ PU) = true) : Wf (W l) := .word (of_decide_eq_true h)
def nameB (p : UInt8 -> Bool) (l : Bs) : Bool := (match l with | [] => false | c :: _ => p c) && l.all inner && decide (l.length <= 40)
theorem AAx {p : UInt8 -> Bool} {l : Bs} (h : nameB p l = true) : zN p l := by
 simp only [nameB, Bool.and_eq_true, decide_eq_true_eq] at h
 refine ⟨?_, List.all_eq_true.1 h.1.2, h.2⟩
 cases l with
 | nil => exact absurd h.1.1 (by simp)
 | cons c t => exact ⟨c, t, rfl, h.1.1⟩
theorem AJf {l : Bs} (h : nameB great l = true) : Wf (U l) := .upper (AAx h)
theorem ACC {l : Bs} (h : (nameB small l && !decide (l ∈ PU)) = true) : Wf (L l) := by
 simp only [Bool.and_eq_true, Bool.not_eq_true'] at h
 exact .lower (AAx h.1) (of_decide_eq_false h.2)
def hdB : Bs := [99, 108, 97, 115, 115, 32, 65, 32, 123, 32, 109, 101, 116, 104, 111, 100, 32, 105, 110, 116, 32, 109, 40, 41, 32, 123, 32]
def tlB : Bs := [32, 125, 32, 125]
theorem kN : Hu tlB [M m_rc, M m_rc, FP] := IZ LK (Ie (m := m_rc) (r := [32] ++ m_rc) (by decide) (IZ LK (Ie (m := m_rc) (r := []) (by decide) (zY qU))))
theorem rG {r : Bs} {ts : List Tok} (h : Hu r ts) : Hu (hdB ++ r) (hdT [65] [109] ++ ts) :=
 MZ (t := W Iw) (FV (by decide)) (MZ (t := U [65]) (AJf (by decide)) (Ie (m := G5) (by decide) (IZ LK (MZ (t := W Df) (FV (by decide)) (MZ (t := W F5) (FV (by decide))
  (Us (t := L [109]) (r := IL ++ (Ik ++ ([32] ++ (G5 ++ ([32] ++ r))))) (ACC (by decide)) rfl (Ie (m := IL) (by decide) (Ie (m := Ik) (by decide) (IZ LK (Ie (m := G5) (by decide) (IZ LK h)))))))))))
theorem AMv : Wf (N [49] 1) := .num (by simp) (by decide) rfl
def brB (n : Nat) : Bs := [114, 101, 116, 117, 114, 110, 32] ++ Tz n [40] ++ [49] ++ Tz n [41] ++ [59]
def sgB (n : Nat) : Bs := [114, 101, 116, 117, 114, 110, 32] ++ Tz n [45] ++ [49, 59]
def whB (n : Nat) : Bs := Tz n [119, 104, 105, 108, 101, 32, 116, 114, 117, 101, 32, 123, 32] ++ [114, 101, 116, 117, 114, 110, 32, 49, 59] ++ Tz n [125]
def clB (s : Bs) : Bs := hdB ++ s ++ tlB
def fiB (n : Nat) : Bs := [99, 108, 97, 115, 115, 32, 65, 32, 123, 32] ++ Tz n [102, 105, 101, 108, 100, 32, 105, 110, 116, 32, 120, 59] ++ [32, 125]
def meB (n : Nat) : Bs := [99, 108, 97, 115, 115, 32, 65, 32, 123, 32] ++ Tz n [109, 101, 116, 104, 111, 100, 32, 105, 110, 116, 32, 109, 40, 41, 32, 123, 32, 125, 32] ++ [32, 125]
theorem ANO (n : Nat) {r : Bs} {ts : List Tok} (h : Hu r ts) : Hu (Tz n [41] ++ r) (DV n [M Ik] ++ ts) := Yr (fun _ _ h => Ie (m := Ik) (by decide) h) h n
theorem AIy {n : Nat} {c : UInt8} {t : Tok} {r : Bs} (h : I7 t c = true) (h2 : AA5 t r = true) : AA5 t (Tz n [c] ++ r) = true := by
 cases n with
 | zero => exact h2
 | succ n => rw [rO]; exact h
theorem ATJ (n : Nat) : Hu (clB (brB n)) (clT (brT n)) := by
 have e : clB (brB n) = hdB ++ (CY ++ ([32] ++ (Tz n [40] ++ ([49] ++ (Tz n [41] ++ (BQ ++ tlB)))))) := by simp [clB, brB, CY, BQ]
 have e2 : clT (brT n) = hdT [65] [109] ++ (W CY :: (DV n [M IL] ++ (N [49] 1 :: (DV n [M Ik] ++ (M BQ :: [M m_rc, M m_rc, FP]))))) := by simp [clT, brT]
 rw [e, e2]
 refine rG (MZ (t := W CY) (FV (by decide)) (Yr (fun _ _ h => Ie (m := IL) (by decide) h) (Us (t := N [49] 1) AMv (AIy (by decide) (by decide)) (ANO n (Ie (m := BQ) (by decide) kN))) n))
theorem ASo (n : Nat) : Hu (clB (sgB n)) (clT (sgT n)) := by
 have e : clB (sgB n) = hdB ++ (CY ++ ([32] ++ (Tz n [45] ++ ([49] ++ (BQ ++ tlB))))) := by simp [clB, sgB, CY, BQ]
 have e2 : clT (sgT n) = hdT [65] [109] ++ (W CY :: (DV n [M CO] ++ (N [49] 1 :: (M BQ :: [M m_rc, M m_rc, FP])))) := by simp [clT, sgT]
 rw [e, e2]
 refine rG (MZ (t := W CY) (FV (by decide)) (Yr (fun _ _ h => Ie (m := CO) (by decide) h) (Us (t := N [49] 1) AMv rfl (Ie (m := BQ) (by decide) kN)) n))
theorem ATO (n : Nat) : Hu (clB (whB n)) (clT (whT n)) := by
 have e : clB (whB n) = hdB ++ (Tz n [119, 104, 105, 108, 101, 32, 116, 114, 117, 101, 32, 123, 32] ++ (CY ++ ([32] ++ ([49] ++ (BQ ++ (Tz n [125] ++ tlB)))))) := by simp [clB, whB, CY, BQ]
 have e2 : clT (whT n) = hdT [65] [109] ++ (DV n QI ++ (W CY :: (N [49] 1 :: (M BQ :: (DV n [M m_rc] ++ [M m_rc, M m_rc, FP]))))) := by simp [clT, whT, tJ]
 rw [e, e2]
 refine rG (Yr (fun r ts h => ?_) (MZ (t := W CY) (FV (by decide)) (Us (t := N [49] 1) AMv rfl (Ie (m := BQ) (by decide) (Yr (fun _ _ h => Ie (m := m_rc) (by decide) h) kN n)))) n)
 exact MZ (t := W QU) (FV (by decide)) (MZ (t := W VR) (FV (by decide)) (Ie (m := G5) (by decide) (IZ LK h)))
theorem ADz {s : Bs} {l : List Tok} (n : Nat) (h : ∀ r ts, Hu r ts -> Hu (s ++ r) (l ++ ts)) : Hu ([99, 108, 97, 115, 115, 32, 65, 32, 123, 32] ++ Tz n s ++ [32, 125]) (memT l n) := by
 have e : [99, 108, 97, 115, 115, 32, 65, 32, 123, 32] ++ Tz n s ++ [32, 125] = Iw ++ ([32] ++ ([65] ++ ([32] ++ (G5 ++ ([32] ++ (Tz n s ++ ([32] ++ (m_rc ++ [])))))))) := by simp [Iw, G5, m_rc]
 rw [e]
 exact MZ (t := W Iw) (FV (by decide)) (MZ (t := U [65]) (AJf (by decide)) (Ie (m := G5) (by decide) (IZ LK (Yr h (IZ LK (Ie (m := m_rc) (by decide) (zY qU))) n))))
theorem ASR (n : Nat) : Hu (fiB n) (memT nU n) := ADz n fun r ts h =>
 MZ (t := W ND) (FV (by decide)) (MZ (t := W F5) (FV (by decide)) (Us (t := L [120]) (r := BQ ++ r) (ACC (by decide)) rfl (Ie (m := BQ) (by decide) h)))
theorem ARu (n : Nat) : Hu (meB n) (memT wI n) := ADz n fun r ts h =>
 MZ (t := W Df) (FV (by decide)) (MZ (t := W F5) (FV (by decide)) (Us (t := L [109]) (r := IL ++ (Ik ++ ([32] ++ (G5 ++ ([32] ++ (m_rc ++ ([32] ++ r))))))) (ACC (by decide)) rfl (Ie (m := IL) (by decide) (Ie (m := Ik) (by decide) (IZ LK (Ie (m := G5) (by decide) (IZ LK (Ie (m := m_rc) (by decide) (IZ LK h)))))))))
end Go.PQ
namespace Go.PQ
open Go.Eng
set_option maxRecDepth 100000
def AKp : Bs := [99, 108, 97, 115, 115, 32, 65, 32, 123, 32, 109, 101, 116, 104, 111, 100, 32, 105, 110, 116, 32, 109, 40, 41, 32, 123, 32, 114, 101, 116, 117, 114, 110, 32]
def AKd : Bs := [59, 32, 125, 32, 125]
def ALW (s : Bs) : Bs := AKp ++ s ++ AKd
theorem AOY : V.str 34 961357696037381675649956981681352240005675623347818639615620599312194765693480035 = sB AKp := rfl
theorem AKc : V.str 5 537415983163 = sB AKd := rfl
theorem nC {G : AP} (hS : ABN G) {H : Heap} {v : V} {z o i : Nat} {LS : Dk} {c : LV} {x : V} (h : El G H v z LS) (hi : LS[i]? = some c) (hc : c.length = z) (ho : c[o]? = some x) :
    ∃ p q, BU z v (.int .i64 (.ofNat i) 0) = some p /\ AX o p = some q /\ Aa q G H = some x := by
  obtain ⟨p, h1, h2⟩ := h.at hi
  obtain ⟨q, h3, h4⟩ := AFg hS h2 hc ho
  exact ⟨p, q, h1, h3, h4⟩
theorem AI4 : BZ vN [] = some (.agg vN) := rfl
section
variable {G : AP} {H : Heap} {n : Nat} {s : Bs} {k : KV}
theorem AQk {f e : Nat} (hG : TA G) (hs : s.length <= 65000) (he : e ≠ 0) (hm : gq f (ALW s) = some (none, e)) (hk : ∀ H' n' ft, Kp H n H' n' -> FtO e ft -> k (.GK [.agg vN, .agg ft]) H' n') : Runs F G UR [sB s] H n k := by
 refine BO (s := Dz (FQ lfp G)) KH (by obtain ⟨h, o⟩ := RQ BP G; rw [KH] at h; cases h; exact o) ?_
 show FQ lfp G (Runs F G) (sB s) H n k
 delta FQ
 refine BA rfl fun H1 f1 g1 => ?_
 refine BA rfl fun H2 f2 g2 => ?_
 have g1 := f2.get g1 (by omega)
 have f2 := f1.trans f2
 rw [AOY, AKc]
 refine AL (Qx (by show 34 + _ < _; omega)) (AL (Qx (by rw [List.length_append]; show 34 + _ + 5 < _; omega)) ?_)
 refine AAF hG hm fun H3 n3 c ft f3 hc hf => ?_
 have g1 := f3.get g1 (by omega)
 have g2 := f3.get g2 (by omega)
 have hn3 := f3.le
 have f3 := f2.trans f3
 have hc : c = clZ := hc
 subst hc
 obtain ⟨line, col, rfl, hf1, hf2⟩ := hf
 rw [mZ, BH, lK, BH]
 refine BA rfl fun H4 f4 g4 => ?_
 refine BA rfl fun H5 f5 g5 => ?_
 have g4 := f5.get g4 (by omega)
 have f5 := f4.trans f5
 have g1 := f5.get g1 (by omega)
 have g2 := f5.get g2 (by omega)
 have f5 := f3.trans f5
 refine CJ (L := clZ) g4 rfl rfl (by omega) fun H6 g4 t6 => ?_
 have g1 := (t6 n (by omega)).trans g1
 have g2 := (t6 (n + 1) (by omega)).trans g2
 have g5 := (t6 (n3 + 1) (by omega)).trans g5
 refine CJ (L := Ze e line col) g5 rfl rfl (by omega) fun H7 g5 t7 => ?_
 have g1 := (t7 n (by omega)).trans g1
 have g2 := (t7 (n + 1) (by omega)).trans g2
 have f7 : Kp H n H7 (n3 + 1 + 1) := ⟨by omega, fun id hid => (t7 id (by omega)).trans ((t6 id (by omega)).trans (f5.same id hid))⟩
 refine AL (v := .ptr (n3 + 1) 0) (by rw [Aj]) (AL (Ad (off := 0) g5 (v := .int .i64 (.ofNat e) 0) rfl) ?_)
 rw [eG, BH, decide_eq_false he, Bool.not_false]
 repeat (first | with_reducible refine AKu ?_ | with_reducible refine AN7 ?_)
 rw [CS]
 refine AL AI4 (AL (Au (m := 3) g5 (by omega) rfl) ?_)
 refine CJ g1 rfl rfl (by omega) fun H8 g1 t8 => ?_
 have g2 := (t8 (n + 1) (by omega)).trans g2
 have g5 := (t8 (n3 + 1) (by omega)).trans g5
 refine AL (Au (m := 3) g5 (by omega) rfl) (Dx (zV ..) ?_)
 refine CJ (L := Ze e line col) g2 rfl rfl (by omega) fun H9 g2 t9 => ?_
 have g1 := (t9 n (by omega)).trans g1
 rw [BI (m := 11) g1 (by omega) rfl, BI (m := 3) g2 (by omega) rfl]
 simp only [go_sem]
 exact hk _ _ _ ⟨by omega, fun id hid => (t9 id (by omega)).trans ((t8 id (by omega)).trans (f7.same id hid))⟩ ⟨line, col, rfl, hf1, hf2⟩
theorem AM6 {f : Nat} {cn sup mn snm : Bs} {fs : List Va} {ps : List Va} {sb : Bool} {rt sty : Ty} {d : Nat} {x : Ex} {th el : List St} (hG : TA G) (hS : ABN G) (hs : s.length <= 65000)
    (hm : gq f (ALW s) = some (some ⟨cn, sup, fs, [⟨mn, sb, ps, rt, [.mk d snm sty [x] th el]⟩]⟩, 0)) (hk : ∀ H' n' c, Kp H n H' n' -> EI G H' (Rg n n') c x -> k (.GK [.agg c, .agg (Ze 0 0 0)]) H' n') : Runs F G UR [sB s] H n k := by
  refine BO (s := Dz (FQ lfp G)) KH (by obtain ⟨h, o⟩ := RQ BP G; rw [KH] at h; cases h; exact o) ?_
  show FQ lfp G (Runs F G) (sB s) H n k
  delta FQ
  refine BA rfl fun H1 f1 g1 => ?_
  refine BA rfl fun H2 f2 g2 => ?_
  have g1 := f2.get g1 (by omega)
  have f2 := f1.trans f2
  rw [AOY, AKc]
  refine AL (Qx (by show 34 + _ < _; omega)) (AL (Qx (by rw [List.length_append]; show 34 + _ + 5 < _; omega)) ?_)
  refine AAF hG hm fun H3 n3 c ft f3 hc hf => ?_
  have g1 := f3.get g1 (by omega)
  have g2 := f3.get g2 (by omega)
  have hn3 := f3.le
  have f3 := f2.trans f3
  have hc : nJ G H3 (Rg (n + 1 + 1) n3) c _ := hc
  obtain ⟨line, col, rfl, hf1, hf2⟩ := hf
  obtain ⟨rfl, rfl⟩ := hf2 rfl
  rw [mZ, BH, lK, BH]
  refine BA rfl fun H4 f4 g4 => ?_
  refine BA rfl fun H5 f5 g5 => ?_
  have g4 := f5.get g4 (by omega)
  have f45 := f4.trans f5
  have g1 := f45.get g1 (by omega)
  have g2 := f45.get g2 (by omega)
  have f5 := f3.trans f45
  refine CJ g4 rfl hc.len (by omega) fun H6 g4 t6 => ?_
  have g1 := (t6 n (by omega)).trans g1
  have g2 := (t6 (n + 1) (by omega)).trans g2
  have g5 := (t6 (n3 + 1) (by omega)).trans g5
  refine CJ (L := Ze 0 0 0) g5 rfl rfl (by omega) fun H7 g5 t7 => ?_
  have g1 := (t7 n (by omega)).trans g1
  have g2 := (t7 (n + 1) (by omega)).trans g2
  have g4 := (t7 n3 (by omega)).trans g4
  have f7 : Kp H n H7 (n3 + 1 + 1) := ⟨by omega, fun id hid => (t7 id (by omega)).trans ((t6 id (by omega)).trans (f5.same id hid))⟩
  have hc : nJ G H7 (Rg (n + 1 + 1) n3) c _ := hc.mono (fun id h => h) fun id h => (t7 id (by have := h.2; omega)).trans ((t6 id (by have := h.2; omega)).trans (f45.same id h.2))
  refine AL (v := .ptr (n3 + 1) 0) (by rw [Aj]) (AL (Ad (off := 0) g5 (v := .int .i64 (.ofNat 0) 0) rfl) ?_)
  rw [eG, BH, decide_eq_true rfl, Bool.not_true]
  cases hc with
  | mk line col hp hfs hms =>
    obtain ⟨cs, e1, _, _, _, m1⟩ := hms
    cases m1 with
    | cons m1 m2 =>
    cases m2 with
    | nil =>
    cases m1 with
    | mk l1 c1 hps hbd =>
    obtain ⟨cs2, e2, _, _, _, m2⟩ := hbd
    cases m2 with
    | cons m2 m3 =>
    cases m3 with
    | nil =>
    cases m2 with
    | mk _ _ _ l2 c2 hes ht _ _ hl _ _ =>
    obtain ⟨cs3, e3, _, _, _, _, m3⟩ := hes
    cases m3 with
    | cons m3 m4 =>
    cases m4 with
    | nil =>
    have q5 : Aa (.ptr n3 5) G H7 = some _ := Ad g4 rfl
    obtain ⟨p1, q1, a1, b1, d1⟩ := nC hS e1 (i := 0) (o := 7) rfl rfl rfl
    obtain ⟨p2, q2, a2, b2, d2⟩ := nC hS e2 (i := 0) (o := 6) rfl rfl rfl
    obtain ⟨p3, a3, b3⟩ := e3.at (i := 0) rfl
    have b3 := yH b3
    simp only [go_sem, Nat.reduceAdd, Nat.zero_add, q5, e1.len, e2.len, e3.len, a1, b1, d1, a2, b2, d2, a3, b3, eG, List.length_cons, List.length_nil, decide_true, Bool.not_true]
    refine AL (Au (m := 3) g5 (by omega) rfl) ?_
    refine CJ g1 rfl m3.len (by omega) fun H8 g1 t8 => ?_
    have g2 := (t8 (n + 1) (by omega)).trans g2
    have g5 := (t8 (n3 + 1) (by omega)).trans g5
    refine AL (Au (m := 3) g5 (by omega) rfl) (Dx (zV ..) ?_)
    refine CJ (L := Ze 0 0 0) g2 rfl rfl (by omega) fun H9 g2 t9 => ?_
    have g1 := (t9 n (by omega)).trans g1
    rw [BI (m := 11) g1 (by omega) m3.len, BI (m := 3) g2 (by omega) rfl]
    simp only [go_sem]
    exact hk _ _ _ ⟨by omega, fun id hid => (t9 id (by omega)).trans ((t8 id (by omega)).trans (f7.same id hid))⟩
      (m3.mono (fun id h => ⟨by have := h.1; omega, by have := h.2; omega⟩) fun id h => (t9 id (by have := h.1; omega)).trans (t8 id (by have := h.1; omega)))
def hdS : Bs := [120, 32, 43, 32, 49, 32, 42, 32, 50]
def hdE : Ex := .mk 16 0 bP [] false [.mk 6 0 [120] [] false [], .mk 16 0 XL [] false [.mk 1 1 [] [] false [], .mk 1 2 [] [] false []]]
theorem AG3 : gq 20 (ALW hdS) = some (some ⟨[65], [], [], [⟨[109], false, [], ⟨F5, false⟩, [.mk 6 [] Xd [hdE] [] []]⟩]⟩, 0) := by kernel_rfl
theorem AMt (hG : TA G) (hS : ABN G) (hk : ∀ H' n', Kp H n H' n' -> k (.bool true) H' n') : Runs F G X8 [] H n k := by
 refine BO (s := ar0 (KC lfp G)) QD (by obtain ⟨h, o⟩ := WS BP G; rw [QD] at h; cases h; exact o) ?_
 show KC lfp G (Runs F G)  H n k
 delta KC
 rw [show V.str 9 924654904039078305912 = sB hdS from rfl]
 refine AM6 hG hS (by decide) AG3 fun H1 n1 c f1 hx => ?_
 rw [mZ, BH, lK, BH]
 refine BA rfl fun H2 f2 g2 => ?_
 refine BA rfl fun H3 f3 g3 => ?_
 have g2 := f3.get g2 (by omega)
 have f3 := f2.trans f3
 refine CJ g2 rfl hx.len (by omega) fun H4 g2 t4 => ?_
 have g3 := (t4 (n1 + 1) (by omega)).trans g3
 refine CJ (L := Ze 0 0 0) g3 rfl rfl (by omega) fun H5 g3 t5 => ?_
 have g2 := (t5 n1 (by omega)).trans g2
 have f5 : Kp H1 n1 H5 (n1 + 1 + 1) := ⟨by omega, fun id hid => (t5 id (by omega)).trans ((t4 id (by omega)).trans (f3.same id hid))⟩
 have hx : EI G H5 (Rg n n1) c hdE := hx.mono (fun id h => h) fun id h => f5.same id h.2
 have f5 := f1.trans f5
 refine AL (Au (m := 3) g3 (by omega) rfl) (AL AFl ?_)
 rw [show Ig (.agg [.int, .int, .int]) false (.agg (Ze 0 0 0)) (.agg (Ze 0 0 0)) = some (.bool true) from rfl, BH]
 cases hx with
 | mk _ _ _ _ _ l1 c1 he hv ha hc =>
 cases hc with
 | cons h1 hc =>
 cases hc with
 | cons h2 hc =>
 cases hc with
 | nil =>
 cases h1 with
 | mk _ _ _ _ _ l2 c2 he2 _ _ _ =>
 cases h2 with
 | mk _ _ _ _ _ l3 c3 he3 _ _ _ =>
 have q0 : Aa (.ptr n1 0) G H5 = some _ := Ad g2 rfl
 have q4 : Aa (.ptr n1 4) G H5 = some _ := Ad g2 rfl
 have q7 : Aa (.ptr n1 7) G H5 = some _ := Ad g2 rfl
 obtain ⟨p1, q1, a1, b1, d1⟩ := nC hS he (i := 0) (o := 0) rfl rfl rfl
 obtain ⟨p2, q2, a2, b2, d2⟩ := nC hS he (i := 1) (o := 4) rfl rfl rfl
 simp only [go_sem, Nat.reduceAdd, Nat.zero_add, q0, q4, q7, he.len, a1, b1, d1, a2, b2, d2, Xq, AE9, List.length_cons, List.length_nil, decide_true, show V.str 1 43 = sB bP from rfl, show V.str 1 42 = sB XL from rfl]
 exact hk _ _ f5
end
end Go.PQ
namespace Go.PQ
open Go.Eng
set_option maxRecDepth 100000
def smB : Bs := (List.range 100).flatMap fun k => [UInt8.ofNat (48 + k / 10), UInt8.ofNat (48 + k % 10)]
theorem ALO : smB.length = 200 := by decide
theorem ALU : ((List.range 100).all fun k => decide (smB[2 * k]? = some (UInt8.ofNat (48 + k / 10))) && decide (smB[2 * k + 1]? = some (UInt8.ofNat (48 + k % 10)))) = true := by decide
theorem sm_at {k : Nat} (h : k < 100) : smB[2 * k]? = some (UInt8.ofNat (48 + k / 10)) /\ smB[2 * k + 1]? = some (UInt8.ofNat (48 + k % 10)) := by
 have := List.all_eq_true.1 ALU k (List.mem_range.2 h)
 simpa using this
theorem yE {l : Bs} {i : Nat} {q : IntKind} {c : UInt8} (h : l[i]? = some c) : F8 (sB l) (.int q (.ofNat i) 0) = some (.int .u8 (.ofNat c.toNat) 0) := by
 obtain ⟨h1, h2⟩ := List.getElem?_eq_some_iff.1 h
 rw [ALa h1, h2]
theorem d8 {k : Nat} (h : k < 10) : (UInt8.ofNat (48 + k)).toNat = 48 + k := by
 rw [UInt8.toNat_ofNat']; omega
theorem sm_hi {k : Nat} {q : IntKind} (h : k < 100) : F8 (sB smB) (.int q (.ofNat (k * 2)) 0) = some (.int .u8 (.ofNat (48 + k / 10)) 0) := by
 rw [Nat.mul_comm, yE (sm_at h).1, d8 (by omega)]
theorem sm_lo {k : Nat} {q : IntKind} (h : k < 100) : F8 (sB smB) (.int q (.ofNat (k * 2 + 1)) 0) = some (.int .u8 (.ofNat (48 + k % 10)) 0) := by
 rw [Nat.mul_comm, yE (sm_at h).2, d8 (Nat.mod_lt _ (by decide))]
theorem smN : V.str 200 9938655150514779720929161263213647789093395803754561035662628441001274968862597953692946393464194303251501229616933063375291039650253924995779037586872666250072396106842829501851083234932712366962979930255066872747696324303968523733872590022915936937156789320557469720923390131174387415513794469201054844961267015441141542819553679203788501627738430154234325528792480477051962324423099068299719245009424585859096469223093538032153047611602695245052081125123941502624659711709950000 = sB smB := by kernel_rfl
theorem take2 {α : Type} {l : List α} {i : Nat} {a b : α} (h1 : l[i]? = some a) (h2 : l[i + 1]? = some b) : (l.drop i).take 2 = [a, b] := by
 obtain ⟨p1, q1⟩ := List.getElem?_eq_some_iff.1 h1
 obtain ⟨p2, q2⟩ := List.getElem?_eq_some_iff.1 h2
 rw [List.drop_eq_getElem_cons p1, q1, List.drop_eq_getElem_cons p2, q2]; rfl
section
variable {G : AP} {H : Heap} {n : Nat} {k : KV}
theorem AK6 : V.str 36 237927390410950444456928663707796224754864904193074819559483181009558347043374296609072 = sB [48, 49, 50, 51, 52, 53, 54, 55, 56, 57, 97, 98, 99, 100, 101, 102, 103, 104, 105, 106, 107, 108, 109, 110, 111, 112, 113, 114, 115, 116, 117, 118, 119, 120, 121, 122] := rfl
theorem APA {x : Nat} (h : x < 10) : U5 x = [UInt8.ofNat (48 + x)] := by
 unfold U5; rw [show nZ 20 x = 1 by unfold nZ; rw [if_pos h]]
 show [] ++ [UInt8.ofNat (48 + x % 10)] = _
 rw [Nat.mod_eq_of_lt h]; rfl
theorem AOe {x : Nat} (h : 10 <= x) (h2 : x < 100) : U5 x = [UInt8.ofNat (48 + x / 10), UInt8.ofNat (48 + x % 10)] := by
 unfold U5
 rw [show nZ 20 x = 2 by unfold nZ; rw [if_neg (by omega)]; unfold nZ; rw [if_pos (by omega)]]
 show ([] ++ [UInt8.ofNat (48 + x / 10 % 10)]) ++ [UInt8.ofNat (48 + x % 10)] = _
 rw [Nat.mod_eq_of_lt (show x / 10 < 10 by omega)]; rfl
theorem AIX {x : Nat} (h : x < 100) (hk : k (sB (U5 x)) H n) : Runs F G O4 [.int .i64 (.ofNat x) 0] H n k := by
 refine BO (s := Dz (Eb lfp G)) JG (by obtain ⟨h, o⟩ := OU BP G; rw [JG] at h; cases h; exact o) ?_
 show Eb lfp G (Runs F G) (.int .i64 (.ofNat x) 0) H n k
 delta Eb
 rw [Q8, BH]
 cases hd : decide (x < 10) with
 | true =>
  have hd := of_decide_eq_true hd
  rw [CS, AK6]
  refine AL (Kq (by omega)) (AL (AHh (by omega) (by show x + 1 <= 36; omega)) ?_)
  rw [APA hd] at hk
  match x, hd with
  | 0, _ => exact hk
  | 1, _ => exact hk
  | 2, _ => exact hk
  | 3, _ => exact hk
  | 4, _ => exact hk
  | 5, _ => exact hk
  | 6, _ => exact hk
  | 7, _ => exact hk
  | 8, _ => exact hk
  | 9, _ => exact hk
 | false =>
  have hd := of_decide_eq_false hd
  rw [CG]
  refine AL (AER (by omega)) (AL (AER (by omega)) (AL (Kq (by omega)) ?_))
  rw [smN]
  refine AL (AHh (by omega) (by rw [ALO]; omega)) ?_
  rw [show x * 2 + 2 - x * 2 = 2 by omega, Nat.mul_comm, take2 (sm_at h).1 (sm_at h).2, <- AOe (by omega) h]
  exact hk
def len8 : Bs := (List.range 256).map fun k => UInt8.ofNat (if k = 0 then 0 else Nat.log2 k + 1)
theorem APy : V.str 256 1013866857139168856493015739252390649739422828853819106890363778118420553376247557433637691341895324351018602695588957474325319502760499485336098898398377509666851054660423406800006203933793007272033180812049178612605246075062580585469430410618860250057463399279570354286669047577758927328864388992123306212451509403152394148136105363817402562688186708175358218852349079190158732807302672745370040257219644697201681238697346923541678507645485296520536209706771857694240900605172937619415410180424934769249448772944216470541052485265558808433676546390051204254346932932316488017972311616136051587427851453983453479168 = sB len8 := by kernel_rfl
theorem AHj : ((List.range 256).all fun k => decide (len8[k]? = some (UInt8.ofNat (if k = 0 then 0 else Nat.log2 k + 1)))) = true := by decide
def U6 (x : Nat) : Nat := if x = 0 then 0 else Nat.log2 x + 1
theorem zq {x s : Nat} (h : 2 ^ s <= x) : U6 x = s + U6 (x / 2 ^ s) := by
 have h0 : 0 < 2 ^ s := Nat.pow_pos (by decide)
 have h1 : 1 <= x / 2 ^ s := by rw [Nat.le_div_iff_mul_le h0]; omega
 have hx : x ≠ 0 := by omega
 unfold U6
 rw [if_neg hx, if_neg (by omega)]
 have e1 : x.log2 = s + (x / 2 ^ s).log2 := by
  have l1 : 2 ^ (x / 2 ^ s).log2 <= x / 2 ^ s := Nat.log2_self_le (by omega)
  have l2 : x / 2 ^ s < 2 ^ ((x / 2 ^ s).log2 + 1) := Nat.lt_log2_self
  rw [Nat.log2_eq_iff hx]
  constructor
  ·rw [Nat.pow_add, Nat.mul_comm]; exact (Nat.le_div_iff_mul_le h0).1 l1
  ·rw [show s + (x / 2 ^ s).log2 + 1 = ((x / 2 ^ s).log2 + 1) + s by omega, Nat.pow_add]; exact (Nat.div_lt_iff_lt_mul h0).1 l2
 omega
theorem AIC {y : Nat} {q : IntKind} (h : y < 256) : F8 (sB len8) (.int q (.ofNat y) 0) = some (.int .u8 (.ofNat (U6 y)) 0) := by
 have := List.all_eq_true.1 AHj y (List.mem_range.2 h)
 have h2 : len8[y]? = some (UInt8.ofNat (U6 y)) := of_decide_eq_true this
 rw [yE h2]
 have h3 : U6 y <= 8 := by
  unfold U6; split
  ·omega
  ·have : y.log2 < 8 := (Nat.log2_lt (by omega)).2 (by omega)
   omega
 rw [UInt8.toNat_ofNat', Nat.mod_eq_of_lt (by omega)]
theorem AD4 {x s : Nat} (h : x < 2 ^ s) : U6 x <= s := by
 unfold U6; split
 ·omega
 ·rename_i h0; have := (Nat.log2_lt h0).2 h; omega
theorem AJO {x : Nat} (h : x < 9223372036854775808) (hk : k (.int .i64 (.ofNat (U6 x)) 0) H n) : Runs F G WE [.int .u64 (.ofNat x) 0] H n k := by
 refine BO (s := Dz (JY lfp G)) PV (by obtain ⟨h, o⟩ := VN BP G; rw [PV] at h; cases h; exact o) ?_
 show JY lfp G (Runs F G) (.int .u64 (.ofNat x) 0) H n k
 delta JY
 have j3 : ∀ {y a : Nat}, y < 256 -> a <= 100 -> a + U6 y = U6 x -> GR lfp G (Runs F G) k (.int .u64 (.ofNat y) 0) (.int .i64 (.ofNat a) 0) H n := by
  intro y a hy ha he
  delta GR
  have h3 : U6 y <= 8 := AD4 (s := 8) hy
  rw [APy]
  refine AL (cvq (q := .u8) hy) (AL (AIC hy) (AL (AHd (by omega)) (AL (Kq (by omega)) ?_)))
  rw [he]; exact hk
 have j2 : ∀ {y a : Nat}, y < 65536 -> a <= 80 -> a + U6 y = U6 x -> GU lfp G (Runs F G) k (.int .u64 (.ofNat y) 0) (.int .i64 (.ofNat a) 0) H n := by
  intro y a hy ha he
  delta GU
  rw [ZJ, BH]
  cases hd : decide (256 <= y) with
  | true =>
   have hd := of_decide_eq_true hd
   rw [CS]
   refine AL (AH2 (q := .u64) (by decide)) (AL (Kq (by omega)) ?_)
   have hdv : y / 2 ^ 8 < 256 := by rw [Nat.div_lt_iff_lt_mul (by decide)]; exact hy
   exact j3 hdv (by omega) (by rw [zq (s := 8) hd] at he; omega)
  | false => rw [CG]; exact j3 (by have := of_decide_eq_false hd; omega) (by omega) he
 have j1 : ∀ {y a : Nat}, y < 4294967296 -> a <= 50 -> a + U6 y = U6 x -> GZ lfp G (Runs F G) k (.int .u64 (.ofNat y) 0) (.int .i64 (.ofNat a) 0) H n := by
  intro y a hy ha he
  delta GZ
  rw [ZJ, BH]
  cases hd : decide (65536 <= y) with
  | true =>
   have hd := of_decide_eq_true hd
   rw [CS]
   refine AL (AH2 (q := .u64) (by decide)) (AL (Kq (by omega)) ?_)
   have hdv : y / 2 ^ 16 < 65536 := by rw [Nat.div_lt_iff_lt_mul (by decide)]; exact hy
   exact j2 hdv (by omega) (by rw [zq (s := 16) hd] at he; omega)
  | false => rw [CG]; exact j2 (by have := of_decide_eq_false hd; omega) (by omega) he
 rw [ZJ, BH]
 cases hd : decide (4294967296 <= x) with
 | true =>
  have hd := of_decide_eq_true hd
  rw [CS]
  refine AL (AH2 (q := .u64) (by decide)) ?_
  have hdv : x / 2 ^ 32 < 4294967296 := by rw [Nat.div_lt_iff_lt_mul (by decide)]; omega
  exact j1 hdv (by omega) (by rw [zq (s := 32) hd])
 | false => rw [CG]; exact j1 (by have := of_decide_eq_false hd; omega) (by omega) (by omega)
end
end Go.PQ
namespace Go.PQ
open Go.Eng
set_option maxRecDepth 100000
def sZ (G : AP) : Prop := ∀ i, i < 20 -> G 1 i 1 = some [.int .u64 (.ofNat (10 ^ i)) 0]
theorem ARr {b i m : Nat} {q : IntKind} (h : i < m) : Qa m 1 (.gptr b 0) (.int q (.ofNat i) 0) = some (.gptr b i) := by
 show Aq (Nat.blt i m) (AX (Nat.mul i 1) (.gptr b 0)) = _
 rw [show Nat.blt i m = true by rw [Nat.blt_eq]; exact h, show Nat.mul i 1 = i from Nat.mul_one i]
 show AX i (.gptr b 0) = _
 rw [yO, Nat.zero_add]
theorem APh {G : AP} {H : Heap} {b i : Nat} {v : V} (h : G b i 1 = some [v]) : Aa (.gptr b i) G H = some v := Y0 h
theorem AP9 : ∀ L, 1 <= L -> L < 64 -> L * 78913 / 2 ^ 18 < 20 /\ 2 ^ L <= 10 ^ (L * 78913 / 2 ^ 18 + 1) /\ (L * 78913 / 2 ^ 18 = 0 ∨ 10 ^ (L * 78913 / 2 ^ 18 - 1) <= 2 ^ (L - 1)) := by
 have h : ((List.range 64).all fun L => decide (L = 0) || (decide (L * 78913 / 2 ^ 18 < 20) && (decide (2 ^ L <= 10 ^ (L * 78913 / 2 ^ 18 + 1)) && (decide (L * 78913 / 2 ^ 18 = 0) || decide (10 ^ (L * 78913 / 2 ^ 18 - 1) <= 2 ^ (L - 1)))))) = true := by decide
 intro L h1 h2
 have := List.all_eq_true.1 h L (List.mem_range.2 h2)
 simp only [Bool.or_eq_true, Bool.and_eq_true, decide_eq_true_eq] at this
 rcases this with h | h
 ·omega
 ·exact ⟨h.1, h.2.1, h.2.2⟩
section
variable {G : AP} {H : Heap} {n : Nat} {k : KV}
theorem AH4 {L : Nat} (h : L <= 63) (hk : k (.int .i64 (.ofNat (L * 78913 / 2 ^ 18)) 0) H n) : Runs F G Ls [.int .i64 (.ofNat L) 0] H n k := by
 refine BO (s := Dz (DW lfp G)) GX (by obtain ⟨h, o⟩ := Kz BP G; rw [GX] at h; cases h; exact o) ?_
 show DW lfp G (Runs F G) (.int .i64 (.ofNat L) 0) H n k
 delta DW
 exact AL (AER (by omega)) (AL (AH2 (q := .i64) (by decide)) hk)
theorem AJB {b : Bool} (hk : k (.int .i64 (.ofNat (if b then 1 else 0)) 0) H n) : Runs F G MH [.bool b] H n k := by
 refine BO (s := Dz (DY lfp G)) GY (by obtain ⟨h, o⟩ := LC BP G; rw [GY] at h; cases h; exact o) ?_
 show DY lfp G (Runs F G) (.bool b) H n k
 delta DY
 cases b
 ·rw [CG]; exact hk
 ·rw [CS]; exact hk
theorem ABn {x : Nat} (hG : sZ G) (h1 : 1 <= x) (h : x < 9223372036854775808) (hk : k (.int .i64 (.ofNat (nZ 20 x)) 0) H n) : Runs F G L6 [.int .u64 (.ofNat x) 0] H n k := by
 refine BO (s := Dz (DX lfp G)) Gf (by obtain ⟨h, o⟩ := Kt BP G; rw [Gf] at h; cases h; exact o) ?_
 show DX lfp G (Runs F G) (.int .u64 (.ofNat x) 0) H n k
 delta DX
 refine AJO h ?_
 have hL : U6 x = x.log2 + 1 := by unfold U6; rw [if_neg (by omega)]
 have hb1 : 1 <= U6 x := by omega
 have hb2 : U6 x <= 63 := AD4 (s := 63) h
 have hlo : 2 ^ (U6 x - 1) <= x := by rw [hL]; exact Nat.log2_self_le (by omega)
 have hhi : x < 2 ^ U6 x := by rw [hL]; exact Nat.lt_log2_self
 generalize U6 x = L at hb1 hb2 hlo hhi
 clear hL
 obtain ⟨t1, t2, t3⟩ := AP9 L hb1 (by omega)
 refine AH4 hb2 ?_
 generalize L * 78913 / 2 ^ 18 = t at t1 t2 t3
 refine AL (ARr t1) (AL (APh (hG t t1)) ?_)
 rw [ZJ, BH]
 refine AJB ?_
 have hd : ∀ d, 1 <= d -> x < 10 ^ d -> (d = 1 ∨ 10 ^ (d - 1) <= x) -> d = nZ 20 x := fun d h1 h2 h3 => (dP 20 x d (by omega) h1).2 ⟨h2, h3⟩
 cases hc : decide (10 ^ t <= x) with
 | true =>
  have hc := of_decide_eq_true hc
  refine AL (Kq (by show t + 1 < _; omega)) ?_
  show k (.int .i64 (.ofNat (t + 1)) 0) H n
  rw [hd (t + 1) (by omega) (by omega) (.inr hc)]
  exact hk
 | false =>
  have hc := of_decide_eq_false hc
  refine AL (Kq (by show t + 0 < _; omega)) ?_
  have ht : t ≠ 0 := fun e => by subst e; simp at hc; omega
  have t3 : 10 ^ (t - 1) <= 2 ^ (L - 1) := by rcases t3 with h | h; exact absurd h ht; exact h
  show k (.int .i64 (.ofNat t) 0) H n
  rw [hd t (by omega) (by omega) (.inr (by omega))]
  exact hk
end
end Go.PQ
namespace Go.PQ
open Go.Eng
set_option maxRecDepth 100000
def Buf (H : Heap) (id len x i : Nat) : Prop := ∃ t, T.get H id = some (.arr 1 24 t) /\ (∀ p, p < 24 -> ∃ L, T.get t p = some L) /\ ∀ p, i <= p -> p < len -> T.get t (1 + p) = some [.int .u8 (.ofNat (48 + x / 10 ^ (len - 1 - p) % 10)) 0]
section
variable {G : AP} {H : Heap} {n id len x : Nat} {k : KV}
theorem AAG {i j d : Nat} {P : KV} (hj : j = i + 1) (hi : i < len) (hl : len <= 23) (hb : Buf H id len x j) (hd : d = x / 10 ^ (len - j) % 10) (h : ∀ H', Buf H' id len x i -> (∀ a, a ≠ id -> T.get H' a = T.get H a) -> P .undef H' n) :
    AU (BU 1 (.sl id 1 len 23 1) (.int .i64 (.ofNat i) 0)) fun v => Bd 1 v (.int .u8 (.ofNat (48 + d)) 0) H n P := by
  subst hj
  obtain ⟨t, h1, h2, h3⟩ := hb
  refine AL (APO hi) ?_
  obtain ⟨L, hL⟩ := h2 (1 + i) (by omega)
  refine APw h1 (by omega) (by omega) hL rfl rfl fun H' g s => ?_
  refine h H' ⟨_, g, fun p hp => ?_, fun p hp hp2 => ?_⟩ s
  · by_cases e : 1 + i = p
    · subst e; exact ⟨_, T.Ap ..⟩
    · rw [T.Am _ _ e]; exact h2 p hp
  · by_cases e : i = p
    · subst e
      rw [T.Ap, hd, show len - (i + 1) = len - 1 - i by omega]; rfl
    · rw [T.Am _ _ (by omega)]; exact h3 p (by omega) hp2
theorem Ve {i j o kk : Nat} {P : KV} (ho : j + 2 = i - o) (hoi : o + 2 <= i) (hi : i <= len) (hl : len <= 23) (hk : kk < 100) (hb : Buf H id len x (j + 2)) (h1 : kk % 10 = x / 10 ^ (len - (j + 2)) % 10) (h2 : kk / 10 = x / 10 ^ (len - (j + 1)) % 10)
    (h : ∀ H', Buf H' id len x j -> (∀ a, a ≠ id -> T.get H' a = T.get H a) -> P .undef H' n) :
    AU (B2.ev .sub (.int .i64 (.ofNat i) 0) (.int .i64 (.ofNat (o + 1)) 0)) fun p1 => AU (B2.ev .sub (.int .i64 (.ofNat i) 0) (.int .i64 (.ofNat (o + 2)) 0)) fun p2 => AU (B2.ev .add (.int .u32 (.ofNat (kk * 2)) 0) (.int .u32 (.ofNat 1) 0)) fun v68 =>
    AU (F8 (sB smB) v68) fun c1 => AU (F8 (sB smB) (.int .u32 (.ofNat (kk * 2)) 0)) fun c2 => AU (BU 1 (.sl id 1 len 23 1) p1) fun q1 => Bd 1 q1 c1 H n fun _ H n => AU (BU 1 (.sl id 1 len 23 1) p2) fun q2 => Bd 1 q2 c2 H n P := by
  refine AL (xE (by omega) (by omega)) (AL (xE (by omega) (by omega)) (AL (AK0 (q := .u32) (by show kk * 2 + 1 < 4294967296; omega)) (AL (sm_lo hk) (AL (sm_hi hk) ?_))))
  rw [show i - (o + 1) = j + 1 by omega, show i - (o + 2) = j by omega]
  refine AAG (j := j + 2) rfl (by omega) hl hb h1 fun H1 b1 s1 => ?_
  exact AAG (j := j + 1) rfl (by omega) hl b1 h2 fun H2 b2 s2 => h H2 b2 fun a ha => (s2 a ha).trans (s1 a ha)
theorem AFO (e : Nat) : 0 < 10 ^ e := Nat.pow_pos (by decide)
theorem div_pow (x e c : Nat) : x / 10 ^ (e + c) = x / 10 ^ e / 10 ^ c := by rw [Nat.pow_add, Nat.div_div_eq_div_mul]
structure Left (len x i u : Nat) : Prop where
 hi : i <= len
 eq : u = x / 10 ^ (len - i)
 lt : u < 10 ^ i
theorem Left.dig {len x i u : Nat} (h : Left len x i u) (c : Nat) (hc : c <= i) : x / 10 ^ (len - (i - c)) % 10 = u / 10 ^ c % 10 := by
 rw [show len - (i - c) = len - i + c by have := h.hi; omega, div_pow, <- h.eq]
theorem Left.next {len x i u : Nat} (h : Left len x i u) (c : Nat) (hc : c <= i) : Left len x (i - c) (u / 10 ^ c) := by
 refine ⟨by have := h.hi; omega, by rw [show len - (i - c) = len - i + c by have := h.hi; omega, div_pow, <- h.eq], ?_⟩
 rw [Nat.div_lt_iff_lt_mul (AFO c), <- Nat.pow_add, show i - c + c = i by omega]; exact h.lt
theorem AOt {i u : Nat} (hl : len <= 23) (hw : Left len x i u) (h1 : i <= 1) (hb : Buf H id len x i) (hk : ∀ H', Buf H' id len x 0 -> (∀ a, a ≠ id -> T.get H' a = T.get H a) -> k (.GK []) H' n) :
    Cb lfp G (Runs F G) k (.sl id 1 len 23 1) (.int .i64 (.ofNat i) 0) (.int .u32 (.ofNat u) 0) H n := by
  delta Cb
  rw [jm, BH]
  cases hd : decide (0 < i) with
  | false =>
    obtain rfl : i = 0 := by have := of_decide_eq_false hd; omega
    rw [CG]
    exact hk H hb fun _ _ => rfl
  | true =>
    obtain rfl : i = 1 := by have := of_decide_eq_true hd; omega
    rw [CS]
    have hu : u < 10 := by have := hw.lt; omega
    refine AL (AK0 (q := .u32) (by show 48 + u < 4294967296; omega)) (AL (cvq (q := .u8) (by show 48 + u < 256; omega)) ?_)
    have := hw.hi
    refine AAG (j := 1) rfl (by omega) hl hb ?_ hk
    rw [<- hw.eq, Nat.mod_eq_of_lt hu]
theorem AOj {i u : Nat} (hl : len <= 23) (hw : Left len x i u) (h1 : i <= 3) (hb : Buf H id len x i) (hk : ∀ H', Buf H' id len x 0 -> (∀ a, a ≠ id -> T.get H' a = T.get H a) -> k (.GK []) H' n) :
    CZ lfp G (Runs F G) k (.sl id 1 len 23 1) (.int .i64 (.ofNat i) 0) (.int .u32 (.ofNat u) 0) H n := by
  delta CZ
  rw [ZJ, BH]
  cases hd : decide (2 <= i) with
  | false => rw [CG]; exact AOt hl hw (by have := of_decide_eq_false hd; omega) hb hk
  | true =>
    have hd := of_decide_eq_true hd
    have hu : u < 1000 := Nat.lt_of_lt_of_le hw.lt (Nat.pow_le_pow_right (by decide) h1)
    obtain ⟨j, rfl⟩ : ∃ j, i = j + 2 := ⟨i - 2, by omega⟩
    rw [CS, smN]
    have hj := hw.hi
    refine AL (ADA (q := .u32) u (by decide)) (AL (ACE (q := .u32) (by show u % 100 * 2 < 4294967296; omega)) (AL (ACV (q := .u32) (by show u < 4294967296; omega) (by decide)) ?_))
    refine Ve (o := 0) (by omega) (by omega) hj hl (Nat.mod_lt _ (by decide)) hb ?_ ?_ fun H1 b1 s1 => ?_
    · have := hw.dig 0 (by omega); simp at this; rw [this]; omega
    · have := hw.dig 1 (by omega); simp at this; rw [this]; omega
    · refine AL (xE (by omega) (by omega)) ?_
      exact AOt hl (by have := hw.next 2 (by omega); simpa using this) (by omega) b1 fun H2 b2 s2 => hk H2 b2 fun a ha => (s2 a ha).trans (s1 a ha)
theorem ATB {i u : Nat} (hl : len <= 23) (hw : Left len x i u) (h1 : i <= 7) (hb : Buf H id len x i) (hk : ∀ H', Buf H' id len x 0 -> (∀ a, a ≠ id -> T.get H' a = T.get H a) -> k (.GK []) H' n) :
    DR lfp G (Runs F G) k (.sl id 1 len 23 1) (.int .u64 (.ofNat u) 0) (.int .i64 (.ofNat i) 0) H n := by
  delta DR
  have hu : u < 10000000 := Nat.lt_of_lt_of_le hw.lt (Nat.pow_le_pow_right (by decide) h1)
  refine AL (cvq (q := .u32) (by show u < 4294967296; omega)) ?_
  rw [ZJ, BH]
  cases hd : decide (4 <= i) with
  | false => rw [CG]; exact AOj hl hw (by have := of_decide_eq_false hd; omega) hb hk
  | true =>
    have hd := of_decide_eq_true hd
    obtain ⟨j, rfl⟩ : ∃ j, i = j + 4 := ⟨i - 4, by omega⟩
    rw [CS, smN]
    have hj := hw.hi
    refine AL (ADA (q := .u32) u (by decide)) (AL (ACV (q := .u32) (by show u < 4294967296; omega) (by decide)) (AL (ACV (q := .u32) (by show u % 10000 < 4294967296; omega) (by decide)) (AL (ACE (q := .u32) (by show u % 10000 / 100 * 2 < 4294967296; omega)) (AL (ADA (q := .u32) _ (by decide)) (AL (ACE (q := .u32) (by show u % 10000 % 100 * 2 < 4294967296; omega)) ?_)))))
    have d0 := hw.dig 0 (by omega); have d1 := hw.dig 1 (by omega); have d2 := hw.dig 2 (by omega); have d3 := hw.dig 3 (by omega)
    simp at d0 d1 d2 d3
    refine Ve (o := 0) (j := j + 2) (by omega) (by omega) hj hl (Nat.mod_lt _ (by decide)) hb (by rw [d0]; omega) (by rw [d1]; omega) fun H1 b1 s1 => ?_
    refine Ve (o := 2) (by omega) (by omega) hj hl (show u % 10000 / 100 < 100 by omega) b1 (by rw [d2]; omega) (by rw [d3]; omega) fun H2 b2 s2 => ?_
    refine AL (xE (by omega) (by omega)) ?_
    exact AOj hl (by have := hw.next 4 (by omega); simpa using this) (by omega) b2 fun H3 b3 s3 => hk H3 b3 fun a ha => (s3 a ha).trans ((s2 a ha).trans (s1 a ha))
theorem AFr (hl : len <= 23) (hx : x < 10 ^ len) (hx2 : x < 9223372036854775808) (hb : Buf H id len x len) (hk : ∀ H', Buf H' id len x 0 -> (∀ a, a ≠ id -> T.get H' a = T.get H a) -> k (.GK []) H' n) :
    Runs F G J6 [.sl id 1 len 23 1, .int .u64 (.ofNat x) 0] H n k := by
  refine BO (s := UA (DK lfp G)) FK (by obtain ⟨h, o⟩ := Jj BP G; rw [FK] at h; cases h; exact o) ?_
  show DK lfp G (Runs F G) (.sl id 1 len 23 1) (.int .u64 (.ofNat x) 0) H n k
  delta DK
  rw [show lenV (.sl id 1 len 23 1) = some (.int .i64 (.ofNat len) 0) from rfl, BH]
  refine KY (J := fun m q => ∃ H' i u, m = i /\ q = (.sl id 1 len 23 1, .int .u64 (.ofNat u) 0, .int .i64 (.ofNat i) 0, H', n) /\ Left len x i u /\ u < 9223372036854775808 /\ Buf H' id len x i /\ ∀ a, a ≠ id -> T.get H' a = T.get H a) ?_ (m := len)
    ⟨H, len, x, rfl, rfl, ⟨Nat.le_refl _, by rw [Nat.sub_self]; simp, hx⟩, hx2, hb, fun _ _ => rfl⟩
  rintro I m q ⟨H1, i, u, rfl, rfl, hw, hu, hb, hs⟩ ih
  show EZ lfp G (Runs F G) k I (.sl id 1 len 23 1) (.int .u64 (.ofNat u) 0) (.int .i64 (.ofNat m) 0) H1 n
  delta EZ
  rw [ZJ, BH]
  cases hd : decide (8 <= m) with
  | false => rw [CG]; exact ATB hl hw (by have := of_decide_eq_false hd; omega) hb fun H2 b2 s2 => hk H2 b2 fun a ha => (s2 a ha).trans (hs a ha)
  | true =>
    have hd := of_decide_eq_true hd
    obtain ⟨j, rfl⟩ : ∃ j, m = j + 8 := ⟨m - 8, by omega⟩
    rw [CS, smN]
    have hj := hw.hi
    refine AL (ADA (q := .u64) u (by decide)) (AL (cvq (q := .u32) (by show u % 100000000 < 4294967296; omega)) (AL (ACV (q := .u64) (by show u < 18446744073709551616; omega) (by decide)) ?_))
    generalize hv : u % 100000000 = v
    have hv8 : v < 100000000 := by omega
    refine AL (ACV (q := .u32) (by show v < 4294967296; omega) (by decide)) (AL (ADA (q := .u32) v (by decide)) (AL (ACV (q := .u32) (by show v % 10000 < 4294967296; omega) (by decide)) (AL (ACE (q := .u32) (by show v % 10000 / 100 * 2 < 4294967296; omega)) (AL (ADA (q := .u32) _ (by decide)) (AL (ACE (q := .u32) (by show v % 10000 % 100 * 2 < 4294967296; omega))
      (AL (ACV (q := .u32) (by show v / 10000 < 4294967296; omega) (by decide)) (AL (ACE (q := .u32) (by show v / 10000 / 100 * 2 < 4294967296; omega)) (AL (ADA (q := .u32) _ (by decide)) (AL (ACE (q := .u32) (by show v / 10000 % 100 * 2 < 4294967296; omega)) ?_)))))))))
    have d0 := hw.dig 0 (by omega); have d1 := hw.dig 1 (by omega); have d2 := hw.dig 2 (by omega); have d3 := hw.dig 3 (by omega)
    have d4 := hw.dig 4 (by omega); have d5 := hw.dig 5 (by omega); have d6 := hw.dig 6 (by omega); have d7 := hw.dig 7 (by omega)
    simp at d0 d1 d2 d3 d4 d5 d6 d7
    refine Ve (o := 0) (j := j + 6) (by omega) (by omega) hj hl (Nat.mod_lt _ (by decide)) hb (by rw [d0]; omega) (by rw [d1]; omega) fun H2 b2 s2 => ?_
    refine Ve (o := 2) (j := j + 4) (by omega) (by omega) hj hl (show v % 10000 / 100 < 100 by omega) b2 (by rw [d2]; omega) (by rw [d3]; omega) fun H3 b3 s3 => ?_
    refine Ve (o := 4) (j := j + 2) (by omega) (by omega) hj hl (Nat.mod_lt _ (by decide)) b3 (by rw [d4]; omega) (by rw [d5]; omega) fun H4 b4 s4 => ?_
    refine Ve (o := 6) (by omega) (by omega) hj hl (show v / 10000 / 100 < 100 by omega) b4 (by rw [d6]; omega) (by rw [d7]; omega) fun H5 b5 s5 => ?_
    refine AL (xE (by omega) (by omega)) ?_
    refine ih j _ (by omega) ⟨H5, j, u / 100000000, rfl, by rw [show j + 8 - 8 = j by omega], by have := hw.next 8 (by omega); simpa using this, by omega, b5, fun a ha => (s5 a ha).trans ((s4 a ha).trans ((s3 a ha).trans ((s2 a ha).trans (hs a ha))))⟩
end
end Go.PQ
namespace Go.PQ
open Go.Eng
set_option maxRecDepth 100000
theorem AN1 {G : AP} {H : Heap} {id o m c z : Nat} {LS : Dk} (h : CV H id z m o = some LS) : El G H (.sl id o m c z) z LS := by
 refine ⟨rfl, ?_⟩
 show (Bool.rec (motive := fun _ => Option Dk) none (CV H id z m o) (Nat.beq z z) : Option Dk) = some LS
 rw [Dy]; exact h
theorem ANL {G : AP} {H : Heap} {id len x : Nat} (hb : Buf H id len x 0) (hl : len <= 23) : El G H (.sl id 1 len 23 1) 1 (MN (dn len x)) := by
 obtain ⟨t, h1, h2, h3⟩ := hb
 refine AN1 (dO _ _ _ (by rw [show (MN (dn len x)).length = (dn len x).length from List.length_map .., SV]) fun i c hc => ?_)
 have hi : i < len := by have := (List.getElem?_eq_some_iff.1 hc).1; rw [show (MN (dn len x)).length = (dn len x).length from List.length_map .., SV] at this; exact this
 rw [qX h1 (by omega) (by omega), h3 i (by omega) hi]
 have hd := ADl len x i hi
 rw [MN, List.getElem?_map, hd] at hc
 cases hc
 show _ = some [V.int .u8 (.ofNat (UInt8.ofNat (48 + x / 10 ^ (len - 1 - i) % 10)).toNat) 0]
 rw [d8 (Nat.mod_lt _ (by decide))]
section
variable {G : AP} {H : Heap} {n : Nat} {k : KV}
theorem AEl {L : LV} {es : Dk} {P : KV} (he : es.length = 24) (hl : ∀ v ∈ es, v.length = 1) (h : ∀ H', Kp H n H' (n + 1) -> Buf H' n 0 0 0 -> P (.ptr n 0) H' (n + 1)) : CX (Ai 1 es E0) H n P := by
 show Cj (len es) (fun m => Cj n fun n => P (.ptr n 0) (T.set H n (.arr 1 m (ED es 0 .e))) (Nat.succ n))
 rw [BL, BL, len_eq, he]
 refine h _ ((Kp.refl H n).new _ (Nat.le_refl _) (by omega)) ⟨_, T.Ap .., fun p hp => ?_, fun p _ hp => by omega⟩
 rw [Dv, if_pos ⟨Nat.zero_le _, by omega⟩]
 exact ⟨_, List.getElem?_eq_getElem (by omega)⟩
theorem AQE {x : Nat} (hG : sZ G) (h : x < 9223372036854775808) (hk : ∀ H' n', Kp H n H' n' -> k (sB (U5 x)) H' n') : Runs F G Lu [.int .i64 (.ofNat x) 0, .int .i64 (.ofNat 10) 0] H n k := by
 refine BO (s := UA (DZ lfp G)) Gt (by obtain ⟨h, o⟩ := Ky BP G; rw [Gt] at h; cases h; exact o) ?_
 show DZ lfp G (Runs F G) (.int .i64 (.ofNat x) 0) (.int .i64 (.ofNat 10) 0) H n k
 delta DZ
 rw [Xq, BH, decide_eq_true rfl, CS, o9, BH, decide_eq_true (Nat.zero_le x)]
 simp only [go_sem, Q8]
 cases hd : decide (x < 100) with
 | true => rw [CS]; exact AIX (of_decide_eq_true hd) (hk _ _ (Kp.refl ..))
 | false =>
  have hd := of_decide_eq_false hd
  rw [CG]
  refine AEl (L := []) rfl (by simp) fun H1 f1 b1 => ?_
  refine AL (cvq (q := .u64) (by show x < 18446744073709551616; omega)) ?_
  rw [decide_eq_false (by omega), CG]
  delta D5
  refine ABn hG (by omega) h ?_
  have hn := (dP 20 x (nZ 20 x) (by omega) (YW ..)).1 rfl
  have h19 : nZ 20 x <= 19 := by
   have h3 := (dP 20 x (nZ 20 x) (by omega) (YW ..)).1 rfl
   rcases h3.2 with h4 | h4
   ·omega
   ·by_cases h5 : nZ 20 x <= 19
    ·exact h5
    ·exfalso
     have : 10 ^ 19 <= 10 ^ (nZ 20 x - 1) := Nat.pow_le_pow_right (by decide) (by omega)
     omega
  have hdec : U5 x = dn (nZ 20 x) x := rfl
  have hp1 := YW 20 x
  generalize nZ 20 x = len at hn h19 hdec hp1
  have hb : Buf H1 n len x len := by
   obtain ⟨t, a1, a2, _⟩ := b1
   exact ⟨t, a1, a2, fun p h1 h2 => by omega⟩
  refine AL (Kq (by omega)) (AL (AEE (by omega) (by omega)) ?_)
  rw [show 1 + len - 1 = len by omega]
  refine AFr (by omega) hn.1 h hb fun H2 b2 s2 => ?_
  rw [Q8, BH, decide_eq_false (by omega), CG]
  refine AL (Kq (by omega)) (AL (AEE (by omega) (by omega)) ?_)
  rw [show 1 + len - 1 = len by omega]
  refine AL (AGg (ANL b2 (by omega))) ?_
  rw [<- hdec]
  exact hk _ _ ⟨by omega, fun id hid => (s2 id (by omega)).trans (f1.same id hid)⟩
end
theorem ABJ : ∀ (l : Bs) (a : Nat) (c : UInt8), Xn a (l ++ [c]) = (Xn a l).bind fun m => Xn m [c]
 | [], a, c => rfl
 | d :: l, a, c => by
  show (bif decide (288230376151711744 < a * 10 + (d.toNat - 48)) then none else Xn (a * 10 + (d.toNat - 48)) (l ++ [c])) = (bif decide (288230376151711744 < a * 10 + (d.toNat - 48)) then none else Xn (a * 10 + (d.toNat - 48)) l).bind _
  cases decide (288230376151711744 < a * 10 + (d.toNat - 48)) with
  | true => rfl
  | false => exact ABJ l _ c
theorem xP : ∀ (l x : Nat), x < 10 ^ l -> x <= 288230376151711744 -> Xn 0 (dn l x) = some x
  | 0, x, h, _ => by have : x = 0 := by simpa using h
                     subst this; rfl
  | l + 1, x, h, h2 => by
    have hdiv : x / 10 < 10 ^ l := by rw [Nat.div_lt_iff_lt_mul (by decide), <- Nat.pow_succ]; exact h
    unfold dn
    rw [ABJ, xP l (x / 10) hdiv (by omega)]
    show (bif decide (288230376151711744 < x / 10 * 10 + ((UInt8.ofNat (48 + x % 10)).toNat - 48)) then none else some (x / 10 * 10 + ((UInt8.ofNat (48 + x % 10)).toNat - 48))) = _
    rw [d8 (Nat.mod_lt _ (by decide)), show x / 10 * 10 + (48 + x % 10 - 48) = x by omega, decide_eq_false (by omega)]; rfl
theorem AF8 {x : Nat} (h : x <= 288230376151711744) : Xn 0 (U5 x) = some x := xP _ _ ((dP 20 x (nZ 20 x) (by omega) (YW ..)).1 rfl).1 h
theorem uo : ∀ (l x : Nat), ∀ c ∈ dn l x, digit c = true
 | 0, _, c, h => by cases h
 | l + 1, x, c, h => by
  unfold dn at h
  rcases List.mem_append.1 h with h | h
  ·exact uo l _ c h
  ·rw [List.mem_singleton.1 h]; unfold digit; rw [d8 (Nat.mod_lt _ (by decide))]; simp; omega
theorem AJw {x : Nat} (h : x < 1000) : (U5 x).length <= 3 := by
 unfold U5; rw [SV]
 have h3 := (dP 20 x (nZ 20 x) (by omega) (YW ..)).1 rfl
 rcases h3.2 with h4 | h4
 ·omega
 ·by_cases h5 : nZ 20 x <= 3
  ·exact h5
  ·exfalso
   have : 10 ^ 3 <= 10 ^ (nZ 20 x - 1) := Nat.pow_le_pow_right (by decide) (by omega)
   omega
theorem AMk (x : Nat) : U5 x ≠ [] := fun h => by
 have := congrArg List.length h
 unfold U5 at this; rw [SV] at this
 have := YW 20 x
 simp at *; omega
end Go.PQ
namespace Go.PQ
open Go.Eng
set_option maxRecDepth 100000
section
variable {G : AP} {H : Heap} {n : Nat} {k : KV}
theorem ALi {x : Nat} (hG : sZ G) (h : x < 9223372036854775808) (hk : ∀ H' n', Kp H n H' n' -> k (sB (U5 x)) H' n') : Runs F G ay [.int .i64 (.ofNat x) 0] H n k := by
 refine BO (s := Dz (Nl lfp G)) UW (by obtain ⟨h, o⟩ := ZH BP G; rw [UW] at h; cases h; exact o) ?_
 show Nl lfp G (Runs F G) (.int .i64 (.ofNat x) 0) H n k
 delta Nl
 refine BO (s := Dz (Ei lfp G)) Jv (by obtain ⟨h, o⟩ := O3 BP G; rw [Jv] at h; cases h; exact o) ?_
 show Ei lfp G (Runs F G) (.int .i64 (.ofNat x) 0) H n fun v1 H n => k v1 H n
 delta Ei
 exact AQE hG h hk
end
end Go.PQ
namespace Go.PQ
open Go.Eng
set_option maxRecDepth 100000
inductive Wh : Tok -> Prop
 | int : Wh (W F5)
 | bool : Wh (W Ru)
 | cls {l : Bs} (h : nameB great l = true) : Wh (U l)
def AF1 (ar : Bool) : List Tok := bif ar then [M V4, M XC] else []
def qE (ar : Bool) : Bs := bif ar then [91, 93] else []
def zy (t : Tok) (ar : Bool) (lx : Bs) (x : Nat) : List Tok :=
 [W Iw, U [65], M G5, W ND] ++ (t :: (AF1 ar ++ ([L [102], M BQ, W Df] ++ (t :: (AF1 ar ++ ([L [109], M IL] ++ (t :: (AF1 ar ++ ([L [120], M Ik, M G5, W jO] ++ (t :: (AF1 ar ++
  ([L [121], M O5, W Yt, M BQ, W CY, W oD, t, M V4, N lx x, M XC, M BQ, M m_rc, M m_rc, FP]))))))))))))
def fC (nm : Bs) (ar : Bool) (x : Nat) : Cl :=
 ⟨[65], [], [⟨[102], ⟨nm, ar⟩⟩], [⟨[109], false, [⟨[120], ⟨nm, ar⟩⟩], ⟨nm, ar⟩, [.mk 1 [121] ⟨nm, ar⟩ [.mk 4 0 [] [] false []] [] [], .mk 6 [] Xd [.mk 11 0 [] nm false [.mk 1 x [] [] false []]] [] []]⟩]⟩
theorem APL : (fun lx x => MS 14 (zy (W F5) false lx x)) = fun _ x => some (fC F5 false x, 0) := by kernel_rfl
theorem AM2 : (fun lx x => MS 14 (zy (W F5) true lx x)) = fun _ x => some (fC F5 true x, 0) := by kernel_rfl
theorem APW : (fun lx x => MS 14 (zy (W Ru) false lx x)) = fun _ x => some (fC Ru false x, 0) := by kernel_rfl
theorem AL6 : (fun lx x => MS 14 (zy (W Ru) true lx x)) = fun _ x => some (fC Ru true x, 0) := by kernel_rfl
theorem APR : (fun l lx x => MS 14 (zy (U l) false lx x)) = fun l _ x => some (fC l false x, 0) := by kernel_rfl
theorem ALy : (fun l lx x => MS 14 (zy (U l) true lx x)) = fun l _ x => some (fC l true x, 0) := by kernel_rfl
theorem AJI {t : Tok} (h : Wh t) (ar : Bool) (lx : Bs) (x : Nat) : MS 14 (zy t ar lx x) = some (fC t.text ar x, 0) := by
 cases h with
 | int => cases ar; exact congrFun (congrFun APL lx) x; exact congrFun (congrFun AM2 lx) x
 | bool => cases ar; exact congrFun (congrFun APW lx) x; exact congrFun (congrFun AL6 lx) x
 | cls h => cases ar; exact congrFun (congrFun (congrFun APR _) lx) x; exact congrFun (congrFun (congrFun ALy _) lx) x
def ABH (nm : Bs) (ar : Bool) (lx : Bs) : Bs := [99, 108, 97, 115, 115, 32, 65, 32, 123, 32, 102, 105, 101, 108, 100, 32] ++ (nm ++ qE ar) ++ [32, 102, 59, 32, 109, 101, 116, 104, 111, 100, 32] ++ (nm ++ qE ar) ++ [32, 109, 40] ++ (nm ++ qE ar) ++ [32, 120, 41, 32, 123, 32, 108, 101, 116, 32] ++ (nm ++ qE ar) ++ [32, 121, 32, 61, 32, 110, 117, 108, 108, 59, 32, 114, 101, 116, 117, 114, 110, 32, 110, 101, 119, 32] ++ nm ++ [91] ++ lx ++ [93, 59, 32, 125, 32, 125]
theorem Wh.wf {t : Tok} (h : Wh t) : Wf t := by
 cases h with
 | int => exact FV (by decide)
 | bool => exact FV (by decide)
 | cls h => exact AJf h
theorem Wh.k5 {t : Tok} (h : Wh t) : t.kind ≠ 5 := by cases h <;> simp [W, U]
theorem AGH {t : Tok} {r : Bs} (h : t.kind ≠ 5) : AA5 t (V4 ++ r) = true := (AAe h (by decide) : I7 t 91 = true)
theorem zk {t : Tok} (h : Wh t) (ar : Bool) {r : Bs} {ts : List Tok} (hr : Hu r ts) : Hu (t.text ++ (qE ar ++ ([32] ++ r))) (t :: (AF1 ar ++ ts)) := by
 cases ar with
 | false => exact MZ h.wf hr
 | true => exact Us (r := V4 ++ (XC ++ ([32] ++ r))) h.wf (AGH h.k5) (Ie (m := V4) (by decide) (Ie (m := XC) (by decide) (IZ LK hr)))
theorem AJ4 {t : Tok} (h : Wh t) (ar : Bool) {x : Nat} (hx : x < 1000) : Hu (ABH t.text ar (U5 x)) (zy t ar (U5 x) x) := by
  have e : ABH t.text ar (U5 x) = Iw ++ ([32] ++ ([65] ++ ([32] ++ (G5 ++ ([32] ++ (ND ++ ([32] ++ (t.text ++ (qE ar ++ ([32] ++ ([102] ++ (BQ ++ ([32] ++ (Df ++ ([32] ++ (t.text ++ (qE ar ++ ([32] ++ ([109] ++ (IL ++
      (t.text ++ (qE ar ++ ([32] ++ ([120] ++ (Ik ++ ([32] ++ (G5 ++ ([32] ++ (jO ++ ([32] ++ (t.text ++ (qE ar ++ ([32] ++ ([121] ++ ([32] ++ (O5 ++ ([32] ++ (Yt ++ (BQ ++ ([32] ++ (CY ++ ([32] ++ (oD ++ ([32] ++
      (t.text ++ (V4 ++ (U5 x ++ (XC ++ (BQ ++ tlB))))))))))))))))))))))))))))))))))))))))))))))))) := by
    simp [ABH, Iw, ND, Df, jO, Yt, CY, oD, G5, BQ, IL, Ik, O5, V4, XC, tlB]
  rw [e]
  exact MZ (t := W Iw) (FV (by decide)) (MZ (t := U [65]) (AJf (by decide)) (Ie (m := G5) (by decide) (IZ LK (MZ (t := W ND) (FV (by decide)) (zk h ar (Us (t := L [102]) (ACC (by decide)) rfl
    (Ie (m := BQ) (by decide) (IZ LK (MZ (t := W Df) (FV (by decide)) (zk h ar (Us (t := L [109]) (ACC (by decide)) rfl (Ie (m := IL) (by decide) (zk h ar (Us (t := L [120]) (ACC (by decide)) rfl
    (Ie (m := Ik) (by decide) (IZ LK (Ie (m := G5) (by decide) (IZ LK (MZ (t := W jO) (FV (by decide)) (zk h ar (MZ (t := L [121]) (ACC (by decide)) (Us (t := M O5) (.mark (by decide)) rfl (IZ LK
    (Us (t := W Yt) (FV (by decide)) rfl (Ie (m := BQ) (by decide) (IZ LK (MZ (t := W CY) (FV (by decide)) (MZ (t := W oD) (FV (by decide)) (Us (t := t) h.wf (AGH h.k5) (Ie (m := V4) (by decide)
    (Us (t := N (U5 x) x) (.num (AMk x) (uo _ _) (AF8 (by omega))) rfl (Ie (m := XC) (by decide) (Ie (m := BQ) (by decide) kN)))))))))))))))))))))))))))))))))
theorem AEt {t : Tok} (h : Wh t) (ar : Bool) {x : Nat} (hx : x < 1000) (hl : (ABH t.text ar (U5 x)).length <= 65536) : gq 14 (ABH t.text ar (U5 x)) = some (some (fC t.text ar x), 0) := by
 unfold gq
 rw [AH1 (AJ4 h ar hx) hl]
 show ((MS 14 (zy t ar (U5 x) x)).bind fun p => some (bif decide (p.2 = 0) then (some p.1, 0) else (none, p.2))) = _
 rw [AJI h]; rfl
end Go.PQ
namespace Go.PQ
open Go.Eng
set_option maxRecDepth 100000
theorem ARe {e : Option V} {a : V} {P : Prop} (h : e = some a) (hv : Bz a a = true) (hp : P) : AJr (.bool true) true e a P := by
 subst h
 show Fa (Bz a a) P
 rw [hv]; exact hp
theorem dX {e : Option V} {a : V} {P : V -> Prop} (h : e = some a) (hp : P a) : Bq (.bool true) true e P := by
 rw [AKL]; exact AL h hp
theorem ARv {t : KV -> Prop} {H : Heap} {n : Nat} {Q : KV} (hp : t Q) : Og (.bool true) true t H n Q := hp
theorem AMl (a b : Bs) : CK.eq .str (sB a) (sB b) = some (decide (a = b)) := by
 show some (band (Nat.beq a.length b.length) (Nat.beq (enc a) (enc b))) = _
 rw [show band (Nat.beq a.length b.length) (Nat.beq (enc a) (enc b)) = decide (a = b) by rw [BR, Bool.eq_iff_iff, decide_eq_true_iff, <- AFy]; simp]
theorem AL4 (a b : Bool) : CK.eq .bool (.bool a) (.bool b) = some (decide (a = b)) := by cases a <;> cases b <;> rfl
theorem ALB (a c : Bs) (b d : Bool) : Ig (.agg [.str, .bool]) false (.agg [sB a, .bool b]) (.agg [sB c, .bool d]) = some (.bool (decide (a = c) && decide (b = d))) := by
 have h : (EK.agg [.str, .bool]).eq (.agg [sB a, .bool b]) (.agg [sB c, .bool d]) = some (decide (a = c) && decide (b = d)) :=
  show rM [.str, .bool] [sB a, .bool b] [sB c, .bool d] = _ from VH.2 ⟨_, _, AMl _ _, VH.2 ⟨_, true, AL4 _ _, rfl, rfl⟩, by simp⟩
 show ofB (WL ((EK.agg [.str, .bool]).eq (.agg [sB a, .bool b]) (.agg [sB c, .bool d])) fun b => some b) = _
 rw [h]; cases (decide (a = c) && decide (b = d)) <;> rfl
end Go.PQ
namespace Go.PQ
open Go.Eng
set_option maxRecDepth 100000
theorem zl {G : AP} (hS : ABN G) {H : Heap} {v : V} {z o m i : Nat} {LS : Dk} {c : LV} (h : El G H v z LS) (hi : LS[i]? = some c) (hc : c.length = z) (hm : 0 < m) (ho : o + m <= z) :
    ∃ p q, BU z v (.int .i64 (.ofNat i) 0) = some p /\ AX o p = some q /\ Az m q G H = some (.agg ((c.drop o).take m)) := by
  obtain ⟨p, h1, h2⟩ := h.at hi
  obtain ⟨q, h3, h4⟩ := ADp hS h2 hc hm ho
  exact ⟨p, q, h1, h3, yH h4⟩
theorem ALg (l : Bs) (b : Bool) : BZ [.str 0 0, .bool false] [(0, 1, .c (sB l)), (1, 1, .c (.bool b))] = some (.agg [sB l, .bool b]) := rfl
theorem AM0 (l : Bs) : BZ [.str 0 0, .bool false] [(0, 1, .c (sB l))] = some (.agg [sB l, .bool false]) := rfl
theorem AMO (a b : Ty) : Ig (.agg [.str, .bool]) false (.agg (jw a)) (.agg (jw b)) = some (.bool (decide (a.nm = b.nm) && decide (a.arr = b.arr))) := ALB ..
section
variable {G : AP} {H : Heap} {n : Nat} {k : KV}
theorem AI8 {m : Nat} (hk : ∀ H' g, Kp H n H' (n + 1) -> g <= 7 -> k (sB [67, UInt8.ofNat (97 + g)]) H' (n + 1)) : Runs F G Wi [.int .i64 (.ofNat m) 0] H n k := by
 refine BO (s := Dz (Jh lfp G)) PO (by obtain ⟨h, o⟩ := VJ BP G; rw [PO] at h; cases h; exact o) ?_
 show Jh lfp G (Runs F G) (.int .i64 (.ofNat m) 0) H n k
 delta Jh
 refine AL (AHE _ (m := 7) (by omega)) ?_
 have hu : qH (.ofNat m) 7 <= 7 := (nT _ (m := 7) (by omega)).2
 generalize qH (.ofNat m) 7 = g at hu
 refine AL (cvq (q := .u8) (by show g < 256; omega)) (AL (AK0 (q := .u8) (by show 97 + g < 256; omega)) ?_)
 refine NJ (G := G) (vs := [.int .u8 (.ofNat (97 + g)) 0]) rfl (by omega) (fun v hv => by simp at hv; subst hv; exact ⟨rfl, rfl⟩) fun H1 f1 _ hel => ?_
 have e : (UInt8.ofNat (97 + g)).toNat = 97 + g := by rw [UInt8.toNat_ofNat']; omega
 have hel : El G H1 (.sl n 0 1 1 1) 1 (MN [UInt8.ofNat (97 + g)]) := by
  show El G H1 _ 1 [[V.int .u8 (.ofNat (UInt8.ofNat (97 + g)).toNat) 0]]
  rw [e]; exact hel
 refine AL (AGg hel) ?_
 rw [show V.str 1 67 = sB [67] from rfl]
 refine AL (Qx (by show 1 + 1 < _; omega)) ?_
 exact hk _ g f1 hu
theorem AEd {g : Nat} (h : g <= 7) : Wh (U [67, UInt8.ofNat (97 + g)]) := by
 refine .cls ?_
 match g, h with
 | 0, _ => decide
 | 1, _ => decide
 | 2, _ => decide
 | 3, _ => decide
 | 4, _ => decide
 | 5, _ => decide
 | 6, _ => decide
 | 7, _ => decide
theorem APb {l : Bs} {ar : Bool} (hl : l.length <= 4611686018427387904) (hk : ∀ H' n' t, Kp H n H' n' -> Wh t -> t.text.length <= 4 -> k (.agg [sB t.text, .bool ar]) H' n') : Runs F G ZF [.agg [sB l, .bool ar]] H n k := by
 refine BO (s := Dz (Lr lfp G)) RZ (by obtain ⟨h, o⟩ := Xw BP G; rw [RZ] at h; cases h; exact o) ?_
 show Lr lfp G (Runs F G) (.agg [sB l, .bool ar]) H n k
 delta Lr
 refine aA fun H1 f1 g1 => ?_
 refine BA rfl fun H2 f2 g2 => ?_
 have g1 := f2.get g1 (by omega)
 have f2 := f1.trans f2
 refine AL (v := .ptr n 0) (by rw [Aj]) (AL (Ad (off := 0) g1 (v := sB l) rfl) (AL (aj l) ?_))
 have j6 : ∀ m, m < 9223372036854775808 -> Il lfp G (Runs F G) k (.ptr n 0) (.ptr (n + 1) 0) (.int .i64 (.ofNat m) 0) H2 (n + 1 + 1) := by
  intro m hm
  delta Il
  refine AL (APM m (by omega)) (AL (v := .ptr n 1) (by rw [Aj, Nat.zero_add]) (AL (Ad (off := 1) g1 (v := .bool ar) rfl) ?_))
  refine AI8 fun H3 g f3 hg => ?_
  have g1 := f3.get g1 (by omega); have g2 := f3.get g2 (by omega)
  refine AL (Ad (off := 1) g1 (v := .bool ar) rfl) (Dx (by cases ar <;> rfl) ?_)
  refine dM (G := G) (ws := [F5, Ru, [67, UInt8.ofNat (97 + g)]]) rfl fun H4 f4 hw => ?_
  have g2 := f4.get g2 (by omega)
  have f4 := (f2.trans f3).trans f4
  have h3 : m % 3 < 3 := Nat.mod_lt _ (by decide)
  generalize m % 3 = i at h3
  have hw2 : ∃ t, Wh t /\ t.text.length <= 4 /\ ∃ p, BU 1 (.sl (n + 1 + 1 + 1) 0 3 3 1) (.int .i64 (.ofNat i) 0) = some p /\ Aa p G H4 = some (sB t.text) := by
   match i, h3 with
   | 0, _ => obtain ⟨p, h1, h2⟩ := hw.at (i := 0) rfl; exact ⟨_, .int, by decide, p, h1, Y0 h2⟩
   | 1, _ => obtain ⟨p, h1, h2⟩ := hw.at (i := 1) rfl; exact ⟨_, .bool, by decide, p, h1, Y0 h2⟩
   | 2, _ => obtain ⟨p, h1, h2⟩ := hw.at (i := 2) rfl; exact ⟨_, AEd hg, (by show 2 <= 4; omega), p, h1, Y0 h2⟩
  obtain ⟨t, ht, hlen, p, hp, hq⟩ := hw2
  refine AL hp (AL hq (AL (ALg ..) ?_))
  refine CJ g2 rfl rfl (by omega) fun H5 g5 t5 => ?_
  rw [BI (m := 2) g5 (by omega) rfl]
  simp only [go_sem]
  exact hk _ _ t ⟨by omega, fun id hid => (t5 id (by omega)).trans (f4.same id hid)⟩ ht hlen
 rw [jm, BH]
 cases hd : decide (0 < l.length) with
 | false => rw [CG]; exact j6 _ (by omega)
 | true =>
  have hd := of_decide_eq_true hd
  rw [CS]
  have hc : (l[0]).toNat < 256 := (l[0]).toNat_lt
  refine AL (v := .ptr n 0) (by rw [Aj]) (AL (Ad (off := 0) g1 (v := sB l) rfl) (AL (xg hd) (AL (AHd (by omega)) (AL (Kq (by omega)) ?_))))
  exact j6 _ (by omega)
theorem zL {t : Ty} (hl : t.nm.length <= 4611686018427387904) (hk : ∀ H', Kp H n H' (n + 1) -> k (sB (t.nm ++ qE t.arr)) H' (n + 1)) : Runs F G Ll [.agg (jw t)] H n k := by
 refine BO (s := Dz (MG lfp G)) Ri (by obtain ⟨h, o⟩ := Xh BP G; rw [Ri] at h; cases h; exact o) ?_
 show MG lfp G (Runs F G) (.agg (jw t)) H n k
 delta MG
 refine aA fun H1 f1 g1 => ?_
 refine AL (v := .ptr n 1) (by rw [Aj, Nat.zero_add]) (AL (Ad (off := 1) g1 (v := .bool t.arr) rfl) ?_)
 cases ha : t.arr with
 | true =>
  rw [CS]
  refine AL (v := .ptr n 0) (by rw [Aj]) (AL (Ad (off := 0) g1 (v := sB t.nm) rfl) ?_)
  rw [show V.str 2 23899 = sB [91, 93] from rfl]
  refine AL (Qx (by show _ + 2 < _; omega)) ?_
  have := hk _ f1
  rw [ha] at this; exact this
 | false =>
  rw [CG]
  refine AL (v := .ptr n 0) (by rw [Aj]) (AL (Ad (off := 0) g1 (v := sB t.nm) rfl) ?_)
  have := hk _ f1
  rw [ha] at this
  rw [show t.nm ++ qE false = t.nm from List.append_nil _] at this
  exact this
theorem ALc {t : Ty} (hk : ∀ H', Kp H n H' (n + 2) -> k (.agg (jw ⟨t.nm, false⟩)) H' (n + 2)) : Runs F G ZE [.agg (jw t)] H n k := by
 refine BO (s := Dz (Le lfp G)) Rj (by obtain ⟨h, o⟩ := X5 BP G; rw [Rj] at h; cases h; exact o) ?_
 show Le lfp G (Runs F G) (.agg (jw t)) H n k
 delta Le
 refine aA fun H1 f1 g1 => ?_
 refine BA rfl fun H2 f2 g2 => ?_
 have g1 := f2.get g1 (by omega)
 have f2 := f1.trans f2
 refine AL (v := .ptr n 0) (by rw [Aj]) (AL (Ad (off := 0) g1 (v := sB t.nm) rfl) (AL (AM0 _) ?_))
 refine CJ g2 rfl rfl (by omega) fun H3 g3 t3 => ?_
 rw [BI (m := 2) g3 (by omega) rfl]
 simp only [go_sem]
 exact hk _ ⟨by omega, fun id hid => (t3 id (by omega)).trans (f2.same id hid)⟩
theorem AAP {l : Bs} {ar : Bool} {x : Int} (hG : TA G) (hS : ABN G) (hP : sZ G) (hl : l.length <= 4611686018427387904) (hk : ∀ H' n', k (.bool true) H' n') : Runs F G Yv [.agg [sB l, .bool ar], .int .i64 x 0] H n k := by
 refine BO (s := UA (FI lfp G)) KP (by obtain ⟨h, o⟩ := PX BP G; rw [KP] at h; cases h; exact o) ?_
 show FI lfp G (Runs F G) (.agg [sB l, .bool ar]) (.int .i64 x 0) H n k
 delta FI
 refine aA fun H1 f1 g1 => ?_
 refine AMt hG hS fun H2 n2 f2 => ?_
 have g1 := f2.get g1 (by omega)
 have hn2 := f2.le
 rw [Rn, BH, Bool.not_true, CG]
 refine AL (Au (m := 2) g1 (by omega) rfl) ?_
 refine APb hl fun H3 n3 t f3 ht hlt => ?_
 have g1 := f3.get g1 (by omega)
 have hn3 := f3.le
 refine CJ (L := jw ⟨t.text, ar⟩) g1 rfl rfl (by omega) fun H4 g1 t4 => ?_
 clear t4 f3 f2 f1
 refine AL (Au (m := 2) g1 (by omega) rfl) (AL (Au (m := 2) g1 (by omega) rfl) (AL (Au (m := 2) g1 (by omega) rfl) (AL (Au (m := 2) g1 (by omega) rfl) (AL (v := .ptr n 0) (by rw [Aj]) (AL (Ad (off := 0) g1 (v := sB t.text) rfl) (AL (AHE x (m := 255) (by omega)) ?_))))))
 have hu : qH x 255 <= 255 := (nT x (m := 255) (by omega)).2
 generalize hy : qH x 255 = y at hu
 refine BA rfl fun H5 f5 g5 => ?_
 refine BA rfl fun H6 f6 g6 => ?_
 have g1 := f6.get (f5.get g1 (by omega)) (by omega); have g5 := f6.get g5 (by omega)
 have hv := ADX ⟨t.text, ar⟩
 have he : (qE ar).length <= 2 := by cases ar <;> decide
 refine zL (t := ⟨t.text, ar⟩) (by show t.text.length <= _; omega) fun H7 f7 => ?_
 have g1 := f7.get g1 (by omega); have g5 := f7.get g5 (by omega); have g6 := f7.get g6 (by omega)
 refine AL (Au (m := 2) g1 (by omega) rfl) (Dx hv (AL (Au (m := 2) g1 (by omega) rfl) (Dx hv (AL (Au (m := 2) g1 (by omega) rfl) (Dx hv (AL (Ad (off := 0) g1 (v := sB t.text) rfl) (Dx (oK _) ?_)))))))
 rw [show V.str 16 43056724085871788868721830662743616611 = sB [99, 108, 97, 115, 115, 32, 65, 32, 123, 32, 102, 105, 101, 108, 100, 32] from rfl, show V.str 11 39159917991299676481742368 = sB [32, 102, 59, 32, 109, 101, 116, 104, 111, 100, 32] from rfl,
  show V.str 3 2649376 = sB [32, 109, 40] from rfl, show V.str 10 153262858016387462952992 = sB [32, 120, 41, 32, 123, 32, 108, 101, 116, 32] from rfl,
  show V.str 22 12147119171832135551379997692517875341090681939589408 = sB [32, 121, 32, 61, 32, 110, 117, 108, 108, 59, 32, 114, 101, 116, 117, 114, 110, 32, 110, 101, 119, 32] from rfl, show V.str 1 91 = sB [91] from rfl, show V.str 6 137578491689821 = sB [93, 59, 32, 125, 32, 125] from rfl]
 have bd : (U5 y).length <= 3 := AJw (by omega)
 refine AL (Qx (by simp only [List.length_append, List.length_cons, List.length_nil]; omega)) (AL (Qx (by simp only [List.length_append, List.length_cons, List.length_nil]; omega)) ?_)
 refine zL (t := ⟨t.text, ar⟩) (by show t.text.length <= _; omega) fun H8 f8 => ?_
 have g1 := f8.get g1 (by omega); have g5 := f8.get g5 (by omega); have g6 := f8.get g6 (by omega)
 refine AL (Au (m := 2) g1 (by omega) rfl) (Dx hv (AL (Au (m := 2) g1 (by omega) rfl) (Dx hv (AL (Ad (off := 0) g1 (v := sB t.text) rfl) (Dx (oK _) ?_)))))
 refine AL (Qx (by simp only [List.length_append, List.length_cons, List.length_nil]; omega)) (AL (Qx (by simp only [List.length_append, List.length_cons, List.length_nil]; omega)) ?_)
 refine zL (t := ⟨t.text, ar⟩) (by show t.text.length <= _; omega) fun H9 f9 => ?_
 have g1 := f9.get g1 (by omega); have g5 := f9.get g5 (by omega); have g6 := f9.get g6 (by omega)
 refine AL (Au (m := 2) g1 (by omega) rfl) (Dx hv (AL (Ad (off := 0) g1 (v := sB t.text) rfl) (Dx (oK _) ?_)))
 refine AL (Qx (by simp only [List.length_append, List.length_cons, List.length_nil]; omega)) (AL (Qx (by simp only [List.length_append, List.length_cons, List.length_nil]; omega)) ?_)
 refine zL (t := ⟨t.text, ar⟩) (by show t.text.length <= _; omega) fun H10 f10 => ?_
 have g1 := f10.get g1 (by omega); have g5 := f10.get g5 (by omega); have g6 := f10.get g6 (by omega)
 refine AL (Ad (off := 0) g1 (v := sB t.text) rfl) (Dx (oK _) ?_)
 refine AL (Qx (by simp only [List.length_append, List.length_cons, List.length_nil]; omega)) (AL (Qx (by simp only [List.length_append, List.length_cons, List.length_nil]; omega)) (AL (Qx (by simp only [List.length_append, List.length_cons, List.length_nil]; omega)) (AL (Qx (by simp only [List.length_append, List.length_cons, List.length_nil]; omega)) ?_)))
 refine ALi hP (by omega) fun H11 n11 f11 => ?_
 have g1 := f11.get g1 (by omega); have g5 := f11.get g5 (by omega); have g6 := f11.get g6 (by omega); have hn11 := f11.le
 refine AL (Ad (off := 0) g1 (v := sB t.text) rfl) (Dx (oK _) ?_)
 refine AL (Qx (by simp only [List.length_append, List.length_cons, List.length_nil]; omega)) (AL (Qx (by simp only [List.length_append, List.length_cons, List.length_nil]; omega)) ?_)
 have hB : (ABH t.text ar (U5 y)).length <= 65536 := by simp only [ABH, List.length_append, List.length_cons, List.length_nil]; omega
 refine AAF (s := ABH t.text ar (U5 y)) hG (AEt ht ar (by omega) hB) fun H12 n12 c ft f12 hc hf => ?_
 have g1 := f12.get g1 (by omega); have g5 := f12.get g5 (by omega); have g6 := f12.get g6 (by omega); have hn12 := f12.le
 have hc : nJ G H12 (Rg n11 n12) c (fC t.text ar y) := hc
 obtain ⟨line, col, rfl, _, hf2⟩ := hf
 obtain ⟨rfl, rfl⟩ := hf2 rfl
 rw [mZ, BH, lK, BH]
 refine CJ g5 rfl hc.len (by omega) fun H13 g5 t13 => ?_
 have g1 := (t13 n (by omega)).trans g1; have g6 := (t13 (n3 + 1) (by omega)).trans g6
 refine CJ (L := Ze 0 0 0) g6 rfl rfl (by omega) fun H14 g6 t14 => ?_
 have g1 := (t14 n (by omega)).trans g1; have g5 := (t14 n3 (by omega)).trans g5
 have hc : nJ G H14 (Rg n11 n12) c (fC t.text ar y) := hc.mono (fun _ h => h) fun id h => (t14 id (by have := h.1; omega)).trans (t13 id (by have := h.1; omega))
 refine AL (v := .ptr (n3 + 1) 0) (by rw [Aj]) (AL (Ad (off := 0) g6 (v := .int .i64 (.ofNat 0) 0) rfl) ?_)
 rw [eG, BH, decide_eq_true rfl, Bool.not_true, CG]
 cases hc with
 | mk _ _ _ hfs hms =>
 obtain ⟨e0, _, _, a0⟩ := hfs
 obtain ⟨cs, e1, _, _, a1, m1⟩ := hms
 cases m1 with
 | cons m1 m2 =>
 cases m2 with
 | nil =>
 cases m1 with
 | mk _ _ hps hbd =>
 obtain ⟨e2, okp, vcp, a2⟩ := hps
 obtain ⟨cs2, e3, okb, vcb, a3, m3⟩ := hbd
 cases m3 with
 | cons m3 m4 =>
 cases m4 with
 | cons m4 m5 =>
 cases m5 with
 | nil =>
 cases m3 with
 | mk _ _ _ _ _ _ _ _ _ _ _ _ =>
 cases m4 with
 | mk _ _ _ _ _ hes _ _ _ _ _ _ =>
 obtain ⟨cs3, e4, _, _, _, a4, m6⟩ := hes
 cases m6 with
 | cons m6 m7 =>
 cases m7 with
 | nil =>
 cases m6 with
 | mk _ _ _ _ _ _ _ e5 _ a5 m8 =>
 cases m8 with
 | cons m8 m9 =>
 cases m9 with
 | nil =>
 cases m8 with
 | mk _ _ _ _ _ _ _ _ _ _ _ =>
 have q5 : Aa (.ptr n3 5) G H14 = some _ := Ad g5 rfl
 refine AL (v := .ptr n3 5) (by rw [Aj, Nat.zero_add]) (AL q5 ?_)
 obtain ⟨p1, b1, d1⟩ := e1.at (i := 0) rfl
 refine AL b1 (AL (yH d1) ?_)
 refine BA rfl fun H15 f15 g15 => ?_
 refine CJ g15 rfl rfl (by omega) fun H16 g16 t16 => ?_
 have f16 : Kp H14 n12 H16 (n12 + 1) := ⟨f15.le, fun id hid => (t16 id (by omega)).trans (f15.same id hid)⟩
 have e3' := e3.kp (fun id h => (a3 id h).2) f16
 have e4' := e4.kp (fun id h => (a4 id h).2) f16
 have q7 : Aa (.ptr n12 7) G H16 = some _ := Ad g16 rfl
 refine AL (v := .ptr n12 7) (by rw [Aj, Nat.zero_add]) (AL q7 ?_)
 obtain ⟨p2, r2, b2, c2, d2⟩ := nC hS e3' (i := 1) (o := 6) rfl rfl rfl
 refine AL b2 (AL c2 (AL d2 ?_))
 obtain ⟨p3, b3, d3⟩ := e4'.at (i := 0) rfl
 refine AL b3 (AL (yH d3) ?_)
 refine BA rfl fun H17 f17 g17 => ?_
 refine CJ g17 rfl rfl (by omega) fun H18 g18 t18 => ?_
 have f18 : Kp H14 n12 H18 (n12 + 1 + 1) := f16.trans ⟨f17.le, fun id hid => (t18 id (by omega)).trans (f17.same id hid)⟩
 have g16 := (t18 n12 (by omega)).trans (f17.get g16 (by omega))
 have g1 := f18.get g1 (by omega); have g5 := f18.get g5 (by omega)
 have e0 := e0.kp (fun id h => (a0 id h).2) f18
 have e2 := e2.kp (fun id h => (a2 id h).2) f18
 have e3 := e3.kp (fun id h => (a3 id h).2) f18
 have e5 := e5.kp (fun id h => (a5 id h).2) f18
 have x4 : Aa (.ptr n3 4) G H18 = some _ := Ad g5 rfl
 have t0 : Az 2 (.ptr n 0) G H18 = some (.agg (jw ⟨t.text, ar⟩)) := Au g1 (by omega) rfl
 have z5 : Az 2 (.ptr n12 5) G H18 = some (.agg (jw ⟨t.text, ar⟩)) := Je g16 (by omega) (by show 5 + 2 <= 8; omega)
 have z4 : Aa (.ptr n12 4) G H18 = some _ := Ad g16 rfl
 have z7 : Aa (.ptr n12 7) G H18 = some _ := Ad g16 rfl
 have w0 : Aa (.ptr (n12 + 1) 0) G H18 = some _ := Ad g18 rfl
 have w7 : Aa (.ptr (n12 + 1) 7) G H18 = some _ := Ad g18 rfl
 have w5 : Az 2 (.ptr (n12 + 1) 5) G H18 = some (.agg (jw ⟨t.text, false⟩)) := Je g18 (by omega) (by show 5 + 2 <= 11; omega)
 obtain ⟨pa, qa, xa, ya, za⟩ := zl hS e0 (i := 0) (o := 1) (m := 2) rfl rfl (by omega) (by omega)
 have za : Az 2 qa G H18 = some (.agg (jw ⟨t.text, ar⟩)) := za
 obtain ⟨pb, qb, xb, yb, zb⟩ := zl hS e2 (i := 0) (o := 1) (m := 2) rfl rfl (by omega) (by omega)
 have zb : Az 2 qb G H18 = some (.agg (jw ⟨t.text, ar⟩)) := zb
 obtain ⟨pc, qc, xc, yc, zc⟩ := zl hS e3 (i := 0) (o := 4) (m := 2) rfl rfl (by omega) (by omega)
 have zc : Az 2 qc G H18 = some (.agg (jw ⟨t.text, ar⟩)) := zc
 refine AL (v := .ptr n3 4) (by rw [Aj, Nat.zero_add]) (AL x4 (AL xa (AL ya (AL za (AL t0 ?_)))))
 have ee : ∀ b, Ig (.agg [.str, .bool]) false (.agg (jw ⟨t.text, b⟩)) (.agg (jw ⟨t.text, b⟩)) = some (.bool true) := fun b => by rw [AMO]; simp
 refine AL (ee ar) ?_
 refine dX (by rw [Aj, Nat.zero_add]) (dX z5 (dX t0 (dX (ee ar) ?_)))
 rw [Y6, BH]
 refine dX (by rw [Aj, Nat.zero_add]) (dX z4 (dX xb (dX yb (dX zb (dX t0 (dX (ee ar) ?_))))))
 rw [Y6, BH]
 refine dX (by rw [Aj, Nat.zero_add]) (dX z7 (dX xc (dX yc (dX zc (dX t0 (dX (ee ar) ?_))))))
 rw [Y6, BH]
 refine dX (by rw [Aj]) (dX w0 (dX (by rw [Xq, decide_eq_true rfl]) ?_))
 rw [Y6, BH]
 refine dX (by rw [Aj, Nat.zero_add]) (dX w5 (dX t0 ?_))
 refine ARv (ALc fun H19 f19 => ?_)
 have g18 := f19.get g18 (by omega)
 have w5 : Az 2 (.ptr (n12 + 1) 5) G H19 = some (.agg (jw ⟨t.text, false⟩)) := Je g18 (by omega) (by show 5 + 2 <= 11; omega)
 refine ARe w5 (ADX _) (dX (ee false) ?_)
 rw [Y6, BH]
 have w7 : Aa (.ptr (n12 + 1) 7) G H19 = some _ := Ad g18 rfl
 have e5 := e5.kp (fun id h => by have := (a5 id h).2; omega) f19
 obtain ⟨pd, qd, xd, yd, zd⟩ := nC hS e5 (i := 0) (o := 3) rfl rfl rfl
 refine dX (by rw [Aj, Nat.zero_add]) (dX w7 (dX xd (dX yd (dX zd (dX rfl (dX (AHE x (m := 255) (by omega)) ?_))))))
 rw [hy]
 refine dX (by rw [Xq, decide_eq_true rfl]) ?_
 rw [Y6, BH]
 exact hk _ _
end
end Go.PQ
namespace Go.PQ
open Go.Eng
def AEv : LV := (List.range 20).map fun i => .int .u64 (.ofNat (10 ^ i)) 0
theorem AJ6 : ∀ i, i < 20 -> (AEv.drop i).take 1 = [V.int .u64 (.ofNat (10 ^ i)) 0] := fun i h => by
 have hl : i < AEv.length := h
 rw [List.drop_eq_getElem_cons hl]
 simp [AEv]
end Go.PQ
namespace Go.Proofs.YtcjkfmaoahojeaaDoor
open Go Go.Eng Go.ChangeShapes Go.WideShapes Go.RowKit
set_option maxRecDepth 100000
theorem ASM : ownKnob Tryd.prog.godebug = none := by kernel_rfl
theorem ALR : Tryd.prog.globalNamed "kiln/lex.marks" = some 0 := by kernel_rfl
theorem AMi : (Tryd.prog.globals[0]?).map (·.type) = some 124 := by kernel_rfl
theorem AS0 : Tryd.prog.globalNamed "internal/strconv.uint64pow10" = some 1 := by kernel_rfl
theorem ASS : (Tryd.prog.globals[1]?).map (·.type) = some 129 := by kernel_rfl
theorem laidOut : laidOutB Tryd.prog = true := by kernel_rfl
theorem ACo : nR Tryd.prog 5 124 = true := by kernel_rfl
theorem AFM : Xe 5 (Rows.laid_kiln_lex_marks (H := Unit)) = some (Go.PQ.D9.map sB) := by kernel_rfl
theorem AGB : nR Tryd.prog 5 129 = true := by kernel_rfl
theorem AI7 : Xe 5 (Rows.laid_internal_strconv_uint64pow10 (H := Unit)) = some Go.PQ.AEv := by kernel_rfl
abbrev AG2 : List (String × DataW Unit) := [("math/bits.deBruijn32tab", Rows.laid_math_bits_deBruijn32tab), ("math/bits.deBruijn64tab", Rows.laid_math_bits_deBruijn64tab), ("internal/strconv.uint64pow10", Rows.laid_internal_strconv_uint64pow10), ("kiln/lex.marks", Rows.laid_kiln_lex_marks)]
theorem of_laid {W : World} (h : laidMetH Tryd.prog AG2 W) : Go.PQ.TA (MK W) /\ Go.PQ.sZ (MK W) := by
 rw [MakeChecks.laidMetH_plain _ _ _ (by kernel_rfl)] at h
 obtain ⟨ps, ⟨_, _, _, _, _, _, _, _, _, _, ⟨_, _, _, _, _, _, _, _, _, _, ⟨g1, t1, cs1, f1, p1, q1, hg1, ht1, hv1, hd1, ⟨g0, t0, cs0, f0, p0, q0, hg0, ht0, hv0, hd0, _, _⟩, _⟩, _⟩, _⟩, _, _⟩ := h
 obtain rfl := Option.some.inj (ALR.symm.trans hg0)
 obtain rfl := Option.some.inj (AMi.symm.trans ht0)
 obtain rfl := Option.some.inj (AS0.symm.trans hg1)
 obtain rfl := Option.some.inj (ASS.symm.trans ht1)
 obtain ⟨hr, h1⟩ := Y5 f0 hd0 AFM ACo
 obtain ⟨hr', h1'⟩ := Y5 f1 hd1 AI7 AGB
 refine ⟨?_, fun i hi => ?_⟩
 ·have hl : (Go.PQ.D9.map sB).length = 22 := rfl
  show MK W 0 0 22 = _
  rw [rD (tab := Go.PQ.D9.map sB) (fun i => by have := World.var?_cell hg0 hv0 i; simpa using this) hr h1 (by rfl) (by omega)]
  rfl
 ·have hl : Go.PQ.AEv.length = 20 := rfl
  rw [rD (tab := Go.PQ.AEv) (fun i => by have := World.var?_cell hg1 hv1 i; simpa using this) hr' h1' (by rfl) (by omega), Go.PQ.AJ6 i hi]
theorem door_met (os : Os) (args : Array Value) : laidMetH Tryd.prog AG2 ((World.doorLaid Tryd.prog 400 os).forCall (fun _ _ => 0) ⟨#[], args, []⟩).memory :=
 laidMetH_of_parts3 (fuel := 8) (laidMet_of_run' 8 (by kernel_rfl) (by kernel_rfl)) (by kernel_rfl) (by kernel_rfl)
theorem AJt {t : TypeId} (h : t = 2 ∨ t = 3 ∨ t = 4 ∨ t = 41) : Tryd.prog.wantsStandIn t = false := by
 rcases h with h | h | h | h <;> subst h <;> kernel_rfl
end Go.Proofs.YtcjkfmaoahojeaaDoor
