/- Part of a proof: texts PLD PLE PLF PLG PTA PUA PUB PUC PUD PLH PVA PWA PWB PSeatB of the engine and what is proved with it; nothing is assumed. -/
import Derived.Test.YtcjkfmaoahojeaaDoorLawA
import Derived.Test.YtcjkfmaoahojeaaDoorConB
import Derived.Test.YtcjkfmaoahojeaaDoorWalk
import Derived.Test.YtcjkfmaoahojeaaDoorCode
import Derived.Test.YtcjkfmaoahojeaaDoorRows
import Derived.LaidMore
import Derived.SevenTiedAt
set_option linter.unusedVariables false
set_option linter.unusedSimpArgs false
namespace Go.PQ
open Go.Eng
set_option maxRecDepth 100000
section
variable {s : S} (h : s.e ≠ 0)
include h
theorem uX : s.ok = false := by simp [S.ok, h]
theorem rU {e : Nat} : GY e s = s := by unfold GY; rw [uX h]; rfl
theorem ASJ {ws : List Bs} : Ov ws s = false := qm fun _ _ => Hu h
theorem AFo {w : Bs} : C9 w s = some (false, s) := jr (Hu h)
theorem Zo : ∀ {ws : List Bs}, DI ws s = some s
 | [] => rfl
 | w :: ws => by
  show ((C9 w s).bind fun p => DI ws (bif p.1 then p.2 else GY 21 p.2)) = _
  rw [AFo h]
  show DI ws (GY 21 s) = _
  rw [rU h, Zo]
theorem AOn {k : Nat} : Ii k s = some ([], s) := by unfold Ii; rw [uX h, rU h]; rfl
theorem ABO (hd : s.deep < 1000000) : Ro s = some { s with deep := s.deep + 1 } := by
 unfold Ro; rw [decide_eq_true hd, rU (s := { s with deep := s.deep + 1 }) h, Bool.cond_self]; rfl
theorem AQW {f : Nat} (hd : s.deep < 1000000) : expr (f + 4) s = some (.mk 0 0 [] [] false [], s) := by
 refine OX (f := f + 2) (s1 := { s with deep := s.deep + 1 }) (s2 := { s with deep := s.deep + 1 }) (ABO h hd) ?_ (fun w _ => Hu h) ?_
 ·exact Ju (Hu h) (Hu h) (MH (uq h) fun w _ => Hu h) fun w _ => Hu h
 ·unfold bM; simp only [hd, decide_true, cond_true]
theorem AIR {st : St} : endP st s = some (st, s) := by unfold endP; rw [Zo h]; rfl
end
def Dp (n : Nat) (l : List Tok) : List Tok := (List.replicate n l).flatten
theorem NG (n : Nat) (l : List Tok) : Dp (n + 1) l = l ++ Dp n l := by simp [Dp, List.replicate_succ]
theorem AG8 (n : Nat) (l : List Tok) : Dp (n + 1) l = Dp n l ++ l := by
 induction n with
 | zero => simp [Dp]
 | succ n ih => rw [NG (n + 1), ih, <- List.append_assoc, <- NG, ih]
def S.of (l : List Tok) (d : Nat) : S := match l with | [] => ⟨FM, [], d, 0⟩ | t :: r => ⟨t, r, d, 0⟩
theorem AB0 {t : Tok} {r : List Tok} : Ro ⟨t, r, 100, 0⟩ = some ⟨t, r, 101, 3⟩ := rfl
theorem gQ {t : Tok} {r : List Tok} {d e : Nat} (h : d < 1000000) : bM ⟨t, r, d + 1, e⟩ = some ⟨t, r, d, e⟩ := by
 unfold bM; simp only [h, decide_true, cond_true]
theorem jX {t : Tok} {r : List Tok} {f : Nat} : expr (f + 4) ⟨t, r, 100, 0⟩ = some (.mk 0 0 [] [] false [], ⟨t, r, 100, 3⟩) := by
 have h : (⟨t, r, 101, 3⟩ : S).e ≠ 0 := show (3 : Nat) ≠ 0 by decide
 refine OX (f := f + 2) (s1 := ⟨t, r, 101, 3⟩) (s2 := ⟨t, r, 101, 3⟩) AB0 ?_ (fun w _ => Hu h) (gQ (by decide))
 exact Ju (Hu h) (Hu h) (MH (uq h) fun w _ => Hu h) fun w _ => Hu h
theorem AKr {l : Bs} {m : Nat} {f : Nat} {v : Tok} {q : List Tok} (hv : ∀ d, fB ⟨v, q, d, 0⟩) (hv2 : ∀ d, nX ⟨v, q, d, 0⟩) :
    ∀ (n d : Nat), d + n < 100 -> expr (f + n + 4) (S.of (Dp n [M JY] ++ N l m :: (Dp n [M J8] ++ v :: q)) d) = some (.mk 1 m [] [] false [], ⟨v, q, d, 0⟩) := by
  intro n
  suffices hh : ∀ (n d : Nat) (v : Tok) (q : List Tok), (∀ d, fB ⟨v, q, d, 0⟩) -> (∀ d, nX ⟨v, q, d, 0⟩) -> d + n < 100 -> expr (f + n + 4) (S.of (Dp n [M JY] ++ N l m :: (Dp n [M J8] ++ v :: q)) d) = some (.mk 1 m [] [] false [], ⟨v, q, d, 0⟩) from
    fun d hd => hh n d v q hv hv2 hd
  clear hv hv2 v q n
  intro n
  induction n with
  | zero =>
    intro d v q h1 h2 hd
    exact OX (f := f + 2) (Sv (by omega)) (Ju (AAd (show (4 : Nat) ≠ 1 by decide) (show (4 : Nat) ≠ 5 by decide)) (AAd (show (4 : Nat) ≠ 1 by decide) (show (4 : Nat) ≠ 5 by decide)) (MH AB3 (h2 _)) (h1 _)) (h1 _) (kC (by omega))
  | succ n ih =>
    intro d v q h1 h2 hd
    have e1 := ih (d + 1) (M J8) (v :: q) (fun d w hw => by rw [LU]; revert w; decide) (fun d w hw => by rw [LU]; revert w; decide) (by omega)
    have e2 : Dp (n + 1) [M JY] ++ N l m :: (Dp (n + 1) [M J8] ++ v :: q) = M JY :: (Dp n [M JY] ++ N l m :: (Dp n [M J8] ++ M J8 :: v :: q)) := by
      rw [NG, AG8]; simp
    rw [e2]
    generalize hx : Dp n [M JY] ++ N l m :: (Dp n [M J8] ++ M J8 :: v :: q) = x at e1
    cases x with
    | nil => simp at hx
    | cons t x =>
      refine OX (f := f + n + 3) (s1 := ⟨M JY, t :: x, d + 1, 0⟩) (Sv (by omega)) ?_ (h1 (d + 1)) (kC (by omega))
      exact Ju rfl rfl (MH (AKW e1) (h2 _)) (h1 _)
theorem ANZ {f : Nat} {v : Tok} {q : List Tok} : ∀ (n d : Nat), d <= 100 -> 100 <= d + n -> ∃ e t r, expr (f + n + 4) (S.of (Dp n [M JY] ++ v :: q) d) = some (e, ⟨t, r, d, 3⟩) := by
 intro n
 induction n with
 | zero =>
  intro d h1 h2
  obtain rfl : d = 100 := by omega
  exact ⟨_, _, _, jX⟩
 | succ n ih =>
  intro d h1 h2
  by_cases hd : d = 100
  ·subst hd
   rw [NG]
   exact ⟨_, _, _, jX (f := f + n + 1)⟩
  ·obtain ⟨e, t, r, he⟩ := ih (d + 1) (by omega) (by omega)
   rw [NG]
   generalize hx : Dp n [M JY] ++ v :: q = x at he
   have e2 : [M JY] ++ Dp n [M JY] ++ v :: q = M JY :: x := by simp [hx]
   rw [e2]
   cases x with
   | nil => simp at hx
   | cons t' x =>
    have hb : (⟨t, r, d + 1, 3⟩ : S).e ≠ 0 := show (3 : Nat) ≠ 0 by decide
    refine ⟨e, t, r, OX (f := f + n + 3) (s1 := ⟨M JY, t' :: x, d + 1, 0⟩) (s2 := ⟨t, r, d + 1, 3⟩) (Sv (by omega)) ?_ (fun w _ => Hu hb) (gQ (by omega))⟩
    refine Ju rfl rfl (MH ?_ fun w _ => Hu hb) fun w _ => Hu hb
    have he : expr (f + n + 4) ⟨t', x, d + 1, 0⟩ = some (e, ⟨t, r, d + 1, 3⟩) := he
    show ((expr (f + n + 4) ⟨t', x, d + 1, 0⟩).bind fun x => (DI [J8] x.2).bind fun s1 => some (x.1, s1)) = _
    rw [he]
    show ((DI [J8] ⟨t, r, d + 1, 3⟩).bind fun s1 => some (e, s1)) = _
    rw [Zo hb]; rfl
theorem bF {rec : PM Ex} {f d : Nat} {u : Tok} {r : List Tok} : unary rec (f + 1) ⟨M CG, u :: r, d, 0⟩ = (Ro ⟨M CG, u :: r, d, 0⟩).bind fun s1 => (LY s1).bind fun s2 => (unary rec f s2).bind fun p => (bM p.2).bind fun s' => some (Ex.mk 14 0 [] [] false [p.1], s') := rfl
theorem AQi {rec : PM Ex} {l : Bs} {m : Nat} {f : Nat} {v : Tok} {q : List Tok} (hv : ∀ d, fB ⟨v, q, d, 0⟩) (hv2 : ∀ d, nX ⟨v, q, d, 0⟩) :
    ∀ (n d : Nat), d + n <= 100 -> ∃ e, unary rec (f + n + 2) (S.of (Dp n [M CG] ++ N l m :: v :: q) d) = some (e, ⟨v, q, d, 0⟩) := by
  intro n
  induction n with
  | zero =>
    intro d hd
    exact ⟨_, Ju (AAd (show (4 : Nat) ≠ 1 by decide) (show (4 : Nat) ≠ 5 by decide)) (AAd (show (4 : Nat) ≠ 1 by decide) (show (4 : Nat) ≠ 5 by decide)) (MH AB3 (hv2 _)) (hv _)⟩
  | succ n ih =>
    intro d hd
    obtain ⟨e, he⟩ := ih (d + 1) (by omega)
    rw [NG]
    generalize hx : Dp n [M CG] ++ N l m :: v :: q = x at he
    have e2 : [M CG] ++ Dp n [M CG] ++ N l m :: v :: q = M CG :: x := by simp [hx]
    rw [e2]
    cases x with
    | nil => simp at hx
    | cons t x =>
      refine ⟨.mk 14 0 [] [] false [e], ?_⟩
      show unary rec (f + n + 2 + 1) ⟨M CG, t :: x, d, 0⟩ = _
      rw [bF, Sv (by omega)]
      show ((unary rec (f + n + 2) ⟨t, x, d + 1, 0⟩).bind fun p => (bM p.2).bind fun s' => some (Ex.mk 14 0 [] [] false [p.1], s')) = _
      rw [show unary rec (f + n + 2) ⟨t, x, d + 1, 0⟩ = _ from he]
      show ((bM ⟨v, q, d + 1, 0⟩).bind fun s' => some (Ex.mk 14 0 [] [] false [e], s')) = _
      rw [kC (by omega)]; rfl
theorem ALv {rec : PM Ex} {f : Nat} {v : Tok} {q : List Tok} :
    ∀ (n d : Nat), d <= 100 -> 100 < d + n -> ∃ e t r, unary rec (f + n + 2) (S.of (Dp n [M CG] ++ v :: q) d) = some (e, ⟨t, r, d, 3⟩) := by
  intro n
  induction n with
  | zero => intro d h1 h2; omega
  | succ n ih =>
    intro d h1 h2
    rw [NG]
    generalize hx : Dp n [M CG] ++ v :: q = x at ih
    have e2 : [M CG] ++ Dp n [M CG] ++ v :: q = M CG :: x := by simp [hx]
    rw [e2]
    cases x with
    | nil => simp at hx
    | cons t' x =>
      by_cases hd : d = 100
      · subst hd
        refine ⟨.mk 14 0 [] [] false [.mk 0 0 [] [] false []], t', x, ?_⟩
        have hb : (⟨t', x, 101, 3⟩ : S).e ≠ 0 := show (3 : Nat) ≠ 0 by decide
        show unary rec (f + n + 2 + 1) ⟨M CG, t' :: x, 100, 0⟩ = _
        rw [bF, AB0]
        show ((unary rec (f + n + 2) ⟨t', x, 101, 3⟩).bind fun p => (bM p.2).bind fun s' => some (Ex.mk 14 0 [] [] false [p.1], s')) = _
        rw [Ju (f := f + n) (s' := ⟨t', x, 101, 3⟩) (Hu hb) (Hu hb) (MH (uq hb) fun w _ => Hu hb) fun w _ => Hu hb]
        show ((bM ⟨t', x, 100 + 1, 3⟩).bind fun s' => some (Ex.mk 14 0 [] [] false [.mk 0 0 [] [] false []], s')) = _
        rw [gQ (by decide)]; rfl
      · obtain ⟨e, t, r, he⟩ := ih (d + 1) (by omega) (by omega)
        refine ⟨.mk 14 0 [] [] false [e], t, r, ?_⟩
        show unary rec (f + n + 2 + 1) ⟨M CG, t' :: x, d, 0⟩ = _
        rw [bF, Sv (by omega)]
        show ((unary rec (f + n + 2) ⟨t', x, d + 1, 0⟩).bind fun p => (bM p.2).bind fun s' => some (Ex.mk 14 0 [] [] false [p.1], s')) = _
        rw [show unary rec (f + n + 2) ⟨t', x, d + 1, 0⟩ = _ from he]
        show ((bM ⟨t, r, d + 1, 3⟩).bind fun s' => some (Ex.mk 14 0 [] [] false [e], s')) = _
        rw [gQ (by omega)]; rfl
end Go.PQ
namespace Go.PQ
open Go.Eng
set_option maxRecDepth 100000
section
variable {st ch : PM St} {f d : Nat} {u : Tok} {r : List Tok}
theorem ABG : og st ch f ⟨W Cm, u :: r, d, 0⟩ = (expr f ⟨u, r, d, 0⟩).bind fun x => endP (.mk 6 [] YB [x.1] [] []) x.2 := rfl
theorem ALU : og st ch f ⟨W Wp, u :: r, d, 0⟩ = (expr f ⟨u, r, d, 0⟩).bind fun x => endP (.mk 7 [] YB [x.1] [] []) x.2 := rfl
theorem jC : og st ch f ⟨W Qs, u :: r, d, 0⟩ = (expr f ⟨u, r, d, 0⟩).bind fun c => (O0 st f c.2).bind fun t => some (.mk 5 [] YB [c.1] t.1 [], t.2) := rfl
theorem AOQ : og st ch f ⟨W ABY, u :: r, d, 0⟩ = (lS ⟨u, r, d, 0⟩).bind fun t => (Ii 3 t.2).bind fun n => (DI [TF] n.2).bind fun s1 => (expr f s1).bind fun x => endP (.mk 1 n.1 t.1 [x.1] [] []) x.2 := rfl
theorem ARV : og st ch f ⟨W mY, u :: r, d, 0⟩ = ch ⟨W mY, u :: r, d, 0⟩ := rfl
theorem AF3 : sc (f + 1) false = og (sc f false) (sc f true) f := rfl
theorem AYB : sc (f + 1) true = zI (sc f false) (sc f true) f := rfl
theorem AL2 {a : St} : endP a ⟨M Bc, u :: r, d, 0⟩ = some (a, ⟨u, r, d, 0⟩) := rfl
theorem aZ {out : List St} : Es st (f + 1) out ⟨M m_rc, u :: r, d, 0⟩ = some (out, ⟨u, r, d, 0⟩) := rfl
theorem dR {out : List St} {s : S} (h : s.e ≠ 0) : Es st (f + 1) out s = some (out, s) := by
 show (bif s.ok then _ else some (out, s)) = _
 rw [uX h]; rfl
theorem WA {out : List St} {t : Tok} {q : List Tok} {a : St} {s' : S} (h0 : PV m_rc ⟨t, q, d, 0⟩ = false) (hl : out.length < 1000000) (h : st ⟨t, q, d, 0⟩ = some (a, s')) : Es st (f + 1) out ⟨t, q, d, 0⟩ = Es st f (out ++ [a]) s' := by
 show ((C9 m_rc ⟨t, q, d, 0⟩).bind fun p => bif p.1 then some (out, p.2) else (st p.2).bind fun q => bif decide (out.length < 1000000) then Es st f (out ++ [q.1]) q.2 else none) = _
 rw [jr h0]
 show ((st ⟨t, q, d, 0⟩).bind fun q => bif decide (out.length < 1000000) then Es st f (out ++ [q.1]) q.2 else none) = _
 rw [h]
 show (bif decide (out.length < 1000000) then Es st f (out ++ [a]) s' else none) = _
 rw [decide_eq_true hl]; rfl
theorem nR {b : List St} {s' s'' : S} (hd : d < 100) (h : Es st f [] ⟨u, r, d + 1, 0⟩ = some (b, s')) (hu : bM s' = some s'') : O0 st f ⟨M J7, u :: r, d, 0⟩ = some (b, s'') := by
 show ((Ro ⟨M J7, u :: r, d, 0⟩).bind fun s1 => (DI [J7] s1).bind fun s2 => (Es st f [] s2).bind fun p => (bM p.2).bind fun s' => some (p.1, s')) = _
 rw [Sv hd]
 show ((DI [J7] ⟨M J7, u :: r, d + 1, 0⟩).bind fun s2 => (Es st f [] s2).bind fun p => (bM p.2).bind fun s' => some (p.1, s')) = _
 rw [l7]
 show ((Es st f [] ⟨u, r, d + 1, 0⟩).bind fun p => (bM p.2).bind fun s' => some (p.1, s')) = _
 rw [h]
 show ((bM s').bind fun s' => some (b, s')) = _
 rw [hu]; rfl
theorem AC4 {s : S} (h : s.e ≠ 0) (hd : s.deep < 1000000) : O0 st (f + 1) s = some ([], s) := by
 unfold O0
 rw [ABO h hd]
 show ((DI [J7] { s with deep := s.deep + 1 }).bind fun s2 => (Es st (f + 1) [] s2).bind fun p => (bM p.2).bind fun s' => some (p.1, s')) = _
 rw [Zo (s := { s with deep := s.deep + 1 }) h]
 show ((Es st (f + 1) [] { s with deep := s.deep + 1 }).bind fun p => (bM p.2).bind fun s' => some (p.1, s')) = _
 rw [dR (s := { s with deep := s.deep + 1 }) h]
 show ((bM { s with deep := s.deep + 1 }).bind fun s' => some ([], s')) = _
 unfold bM; simp only [hd, decide_true, cond_true]; rfl
end
theorem ACH {f g d : Nat} {u v : Tok} {r q : List Tok} {e : Ex} {out : List St} (hl : out.length < 1000000) (h : expr f ⟨u, r, d, 0⟩ = some (e, ⟨M Bc, v :: q, d, 0⟩)) :
    Es (sc (f + 1) false) (g + 1) out ⟨W Cm, u :: r, d, 0⟩ = Es (sc (f + 1) false) g (out ++ [.mk 6 [] YB [e] [] []]) ⟨v, q, d, 0⟩ := by
  refine WA rfl hl ?_
  rw [AF3, ABG, h]; exact AL2
theorem AAM {f g d x : Nat} {u t : Tok} {r q : List Tok} {e : Ex} {out : List St} (hx : x ≠ 0) (hl : out.length < 1000000) (h : expr f ⟨u, r, d, 0⟩ = some (e, ⟨t, q, d, x⟩)) :
    ∃ b, Es (sc (f + 1) false) (g + 2) out ⟨W Cm, u :: r, d, 0⟩ = some (b, ⟨t, q, d, x⟩) := by
  have hb : (⟨t, q, d, x⟩ : S).e ≠ 0 := hx
  refine ⟨_, (WA (s' := ⟨t, q, d, x⟩) (a := .mk 6 [] YB [e] [] []) rfl hl ?_).trans (dR hb)⟩
  rw [AF3, ABG, h]; exact AIR hb
def Qz : List Tok := [W Qs, W Vx, M J7]
theorem AHg {f g d : Nat} {u : Tok} {r : List Tok} {b out : List St} {v : Tok} {q : List Tok} (hd : d < 99) (hl : out.length < 1000000) (h : Es (sc (f + 4) false) (f + 4) [] ⟨u, r, d + 1, 0⟩ = some (b, ⟨v, q, d + 1, 0⟩)) :
    ∃ a, Es (sc (f + 5) false) (g + 1) out ⟨W Qs, W Vx :: M J7 :: u :: r, d, 0⟩ = Es (sc (f + 5) false) g (out ++ [a]) ⟨v, q, d, 0⟩ := by
  refine ⟨.mk 5 [] YB [.mk 2 0 [] [] false []] b [], WA rfl hl ?_⟩
  rw [AF3, jC]
  have he : expr (f + 4) ⟨W Vx, M J7 :: u :: r, d, 0⟩ = some (.mk 2 0 [] [] false [], ⟨M J7, u :: r, d, 0⟩) :=
    OX (f := f + 2) (Sv (by omega)) (Ju rfl rfl (MH yF fun w hw => by rw [LU]; revert w; decide) fun w hw => by rw [LU]; revert w; decide) (fun w hw => by rw [LU]; revert w; decide) (kC (by omega))
  rw [he]
  show ((O0 (sc (f + 4) false) (f + 4) ⟨M J7, u :: r, d, 0⟩).bind fun t => some (St.mk 5 [] YB [.mk 2 0 [] [] false []] t.1 [], t.2)) = _
  rw [nR (by omega) h (kC (by omega))]; rfl
theorem AEy {f g d : Nat} {u : Tok} {r : List Tok} {b out : List St} {v : Tok} {q : List Tok} (hd : d < 100) (hl : out.length < 1000000) (h : Es (sc (f + 4) false) (f + 4) [] ⟨u, r, d + 1, 0⟩ = some (b, ⟨v, q, d + 1, 3⟩)) :
    ∃ b, Es (sc (f + 5) false) (g + 2) out ⟨W Qs, W Vx :: M J7 :: u :: r, d, 0⟩ = some (b, ⟨v, q, d, 3⟩) := by
  have hb : (⟨v, q, d, 3⟩ : S).e ≠ 0 := show (3 : Nat) ≠ 0 by decide
  refine ⟨_, (WA (s' := ⟨v, q, d, 3⟩) (a := .mk 5 [] YB [.mk 2 0 [] [] false []] b []) rfl hl ?_).trans (dR hb)⟩
  rw [AF3, jC]
  have he : expr (f + 4) ⟨W Vx, M J7 :: u :: r, d, 0⟩ = some (.mk 2 0 [] [] false [], ⟨M J7, u :: r, d, 0⟩) :=
    OX (f := f + 2) (Sv (by omega)) (Ju rfl rfl (MH yF fun w hw => by rw [LU]; revert w; decide) fun w hw => by rw [LU]; revert w; decide) (fun w hw => by rw [LU]; revert w; decide) (kC (by omega))
  rw [he]
  show ((O0 (sc (f + 4) false) (f + 4) ⟨M J7, u :: r, d, 0⟩).bind fun t => some (St.mk 5 [] YB [.mk 2 0 [] [] false []] t.1 [], t.2)) = _
  rw [nR hd h (gQ (by omega))]; rfl
theorem AFF {f g : Nat} {u : Tok} {r : List Tok} {out : List St} (hl : out.length < 1000000) :
    ∃ b t q, Es (sc (f + 5) false) (g + 2) out ⟨W Qs, u :: r, 100, 0⟩ = some (b, ⟨t, q, 100, 3⟩) := by
  have hb : (⟨u, r, 100, 3⟩ : S).e ≠ 0 := show (3 : Nat) ≠ 0 by decide
  refine ⟨_, u, r, (WA (s' := ⟨u, r, 100, 3⟩) (a := .mk 5 [] YB [.mk 0 0 [] [] false []] [] []) rfl hl ?_).trans (dR hb)⟩
  rw [AF3, jC, jX]
  show ((O0 (sc (f + 4) false) (f + 4) ⟨u, r, 100, 3⟩).bind fun t => some (St.mk 5 [] YB [.mk 0 0 [] [] false []] t.1 [], t.2)) = _
  rw [AC4 hb (show 100 < 1000000 by decide)]; rfl
def tY : List Tok := [W Cm, N [49] 1, M Bc]
theorem ALb {f d : Nat} {l : Bs} {m : Nat} {q : List Tok} (hd : d < 100) : expr (f + 4) ⟨N l m, M Bc :: q, d, 0⟩ = some (.mk 1 m [] [] false [], ⟨M Bc, q, d, 0⟩) :=
 AKr (v := M Bc) (fun d w hw => by rw [LU]; revert w; decide) (fun d w hw => by rw [LU]; revert w; decide) 0 d (by omega)
theorem AJb : ∀ (n d f g : Nat) (v : Tok) (q : List Tok), d + n < 100 -> ∃ b, Es (sc (f + n + 6) false) (g + n + 6) [] (S.of (Dp n Qz ++ tY ++ Dp n [M m_rc] ++ M m_rc :: v :: q) d) = some (b, ⟨v, q, d, 0⟩) := by
 intro n
 induction n with
 | zero =>
  intro d f g v q hd
  refine ⟨_, (ACH (f := f + 5) (g := g + 5) (out := []) (by decide) (ALb (f := f + 1) (by omega))).trans aZ⟩
 | succ n ih =>
  intro d f g v q hd
  obtain ⟨b, hb⟩ := ih (d + 1) f f (M m_rc) (v :: q) (by omega)
  have e2 : Dp (n + 1) Qz ++ tY ++ Dp (n + 1) [M m_rc] ++ M m_rc :: v :: q = Qz ++ (Dp n Qz ++ tY ++ Dp n [M m_rc] ++ M m_rc :: M m_rc :: v :: q) := by
   rw [NG, AG8]; simp
  rw [e2]
  generalize hx : Dp n Qz ++ tY ++ Dp n [M m_rc] ++ M m_rc :: M m_rc :: v :: q = x at hb
  cases x with
  | nil => simp at hx
  | cons t x =>
   obtain ⟨a, ha⟩ := AHg (f := f + n + 2) (g := g + n + 6) (out := []) (v := M m_rc) (q := v :: q) (by omega) (by decide) hb
   exact ⟨_, ha.trans aZ⟩
theorem AH6 {y : Tok} {p : List Tok} : ∀ (n d f g : Nat), d <= 100 -> 100 <= d + n -> ∃ b t r, Es (sc (f + n + 6) false) (g + n + 6) [] (S.of (Dp n Qz ++ W Cm :: y :: p) d) = some (b, ⟨t, r, d, 3⟩) := by
 intro n
 induction n with
 | zero =>
  intro d f g h1 h2
  obtain rfl : d = 100 := by omega
  obtain ⟨b, hb⟩ := AAM (f := f + 5) (g := g + 4) (out := []) (x := 3) (by decide) (by decide) (jX (t := y) (r := p) (f := f + 1))
  exact ⟨b, _, _, hb⟩
 | succ n ih =>
  intro d f g h1 h2
  rw [NG]
  by_cases hd : d = 100
  ·subst hd
   exact AFF (f := f + n + 2) (g := g + n + 5) (out := []) (by decide)
  ·obtain ⟨b, t, r, hb⟩ := ih (d + 1) f f (by omega) (by omega)
   rw [List.append_assoc]
   generalize hx : Dp n Qz ++ W Cm :: y :: p = x at hb
   cases x with
   | nil => simp at hx
   | cons z x =>
    obtain ⟨a, ha⟩ := AEy (f := f + n + 2) (g := g + n + 5) (out := []) (by omega) (by decide) hb
    exact ⟨_, _, _, ha⟩
end Go.PQ
namespace Go.PQ
open Go.Eng
set_option maxRecDepth 100000
theorem ARN {u : Tok} {r : List Tok} {d : Nat} (h : PV kJ ⟨u, r, d, 0⟩ = false) : lS ⟨W I4, u :: r, d, 0⟩ = some (⟨I4, false⟩, ⟨u, r, d, 0⟩) := by
 show ((C9 kJ ⟨u, r, d, 0⟩).bind fun q => bif q.1 then (DI [lQ] q.2).bind fun s => some (Ty.mk I4 true, s) else some (Ty.mk I4 false, q.2)) = _
 rw [jr h]; rfl
theorem yj {f : Nat} {l : Bs} {u : Tok} {r : List Tok} {b : List St} {s' s'' : S} (h : Es (sc (f + 1) false) (f + 1) [] ⟨u, r, 1, 0⟩ = some (b, s')) (hu : bM s' = some s'') :
    WW (f + 1) ⟨W Et, W I4 :: L l :: M JY :: M J8 :: M J7 :: u :: r, 0, 0⟩ = some (⟨l, false, [], ⟨I4, false⟩, b⟩, s'') := by
  show ((O0 (sc (f + 1) false) (f + 1) ⟨M J7, u :: r, 0, 0⟩).bind fun b => some (Me.mk l false [] ⟨I4, false⟩ b.1, b.2)) = _
  rw [nR (by decide) h hu]; rfl
theorem gq {f g : Nat} {fs : List Va} {ms : List Me} {u : Tok} {r : List Tok} {m : Me} {s' : S} (h : WW f ⟨W Et, u :: r, 0, 0⟩ = some (m, s')) :
    F6 f (g + 1) fs ms ⟨W Et, u :: r, 0, 0⟩ = F6 f g fs (ms ++ [m]) (IU (ms.length + 1) s') := by
  show ((WW f ⟨W Et, u :: r, 0, 0⟩).bind fun m => F6 f g fs (ms ++ [m.1]) (IU (ms.length + 1) m.2)) = _
  rw [h]; rfl
theorem ACB {f g : Nat} {fs : List Va} {ms : List Me} {l : Bs} {u : Tok} {r : List Tok} :
    F6 f (g + 1) fs ms ⟨W Sj, W I4 :: L l :: u :: r, 0, 0⟩ = (DI [Bc] (IU (fs.length + 1) ⟨u, r, 0, 0⟩)).bind fun s1 => F6 f g (fs ++ [⟨l, ⟨I4, false⟩⟩]) ms s1 := rfl
theorem vG {f g : Nat} {fs : List Va} {ms : List Me} {u : Tok} {r : List Tok} : F6 f (g + 1) fs ms ⟨M m_rc, u :: r, 0, 0⟩ = some ((fs, ms), ⟨u, r, 0, 0⟩) := rfl
theorem nY {f g : Nat} {fs : List Va} {ms : List Me} {s : S} (h : s.e ≠ 0) : F6 f (g + 1) fs ms s = some ((fs, ms), s) := by
 show (bif s.ok then _ else some ((fs, ms), s)) = _
 rw [uX h]; rfl
def AI2 (s : S) : S := bif s.ok && !decide (s.t.kind = 0) then GY 21 s else s
theorem ADa {s : S} (h : s.e ≠ 0) : AI2 s = s := by unfold AI2; rw [uX h]; rfl
theorem rV {f : Nat} {l : Bs} {u : Tok} {r : List Tok} {x : List Va × List Me} {s : S} (h : F6 f f [] [] ⟨u, r, 0, 0⟩ = some (x, s)) :
    Ut f (W Na :: U l :: M J7 :: u :: r) = some (⟨l, [], x.1, x.2⟩, (AI2 s).e) := by
  show (((F6 f f [] [] ⟨u, r, 0, 0⟩).bind fun x => some (Cl.mk l [] x.1.1 x.1.2, AI2 x.2)).bind fun p => some (p.1, p.2.e)) = _
  rw [h]; rfl
def hdT (c l : Bs) : List Tok := [W Na, U c, M J7, W Et, W I4, L l, M JY, M J8, M J7]
theorem ADS {f : Nat} {c l : Bs} {u : Tok} {r : List Tok} {b : List St} (h : Es (sc (f + 2) false) (f + 2) [] ⟨u, r, 1, 0⟩ = some (b, ⟨M m_rc, [FM], 1, 0⟩)) :
    Ut (f + 2) (hdT c l ++ u :: r) = some (⟨c, [], [], [⟨l, false, [], ⟨I4, false⟩, b⟩]⟩, 0) := by
  exact rV (s := ⟨FM, [], 0, 0⟩) (x := ([], [⟨l, false, [], ⟨I4, false⟩, b⟩])) (u := W Et) (r := W I4 :: L l :: M JY :: M J8 :: M J7 :: u :: r) ((gq (yj (f := f + 1) h (kC (d := 0) (by decide)))).trans vG)
theorem vI {f x : Nat} {c l : Bs} {u t : Tok} {r q : List Tok} {b : List St} (hx : x ≠ 0) (h : Es (sc (f + 2) false) (f + 2) [] ⟨u, r, 1, 0⟩ = some (b, ⟨t, q, 1, x⟩)) :
    Ut (f + 2) (hdT c l ++ u :: r) = some (⟨c, [], [], [⟨l, false, [], ⟨I4, false⟩, b⟩]⟩, x) := by
  have hb : (⟨t, q, 0, x⟩ : S).e ≠ 0 := hx
  rw [show hdT c l ++ u :: r = W Na :: U c :: M J7 :: W Et :: W I4 :: L l :: M JY :: M J8 :: M J7 :: u :: r from rfl,
    rV (s := ⟨t, q, 0, x⟩) ((gq (yj (f := f + 1) h (gQ (d := 0) (by decide)))).trans (nY hb)), ADa hb]
  rfl
def clT (ts : List Tok) : List Tok := hdT [65] [109] ++ ts ++ [M m_rc, M m_rc, FM]
def brT (n : Nat) : List Tok := W Cm :: (Dp n [M JY] ++ N [49] 1 :: (Dp n [M J8] ++ [M Bc]))
def sgT (n : Nat) : List Tok := W Cm :: (Dp n [M CG] ++ [N [49] 1, M Bc])
def whT (n : Nat) : List Tok := Dp n Qz ++ tY ++ Dp n [M m_rc]
theorem AKo (t : Tok) (ts : List Tok) : clT (t :: ts) = hdT [65] [109] ++ t :: (ts ++ [M m_rc, M m_rc, FM]) := by simp [clT]
theorem mO {q : List Tok} (d : Nat) : fB ⟨M Bc, q, d, 0⟩ := fun w hw => by rw [LU]; revert w; decide
theorem pF {q : List Tok} (d : Nat) : nX ⟨M Bc, q, d, 0⟩ := fun w hw => by rw [LU]; revert w; decide
theorem APX (n : Nat) : ∃ c e, Ut (n + 9) (clT (brT n)) = some (c, e) /\ (e = if n <= 98 then 0 else 3) := by
 unfold brT
 rw [AKo]
 have hx : Dp n [M JY] ++ N [49] 1 :: (Dp n [M J8] ++ [M Bc]) ++ [M m_rc, M m_rc, FM] = Dp n [M JY] ++ N [49] 1 :: (Dp n [M J8] ++ M Bc :: [M m_rc, M m_rc, FM]) := by simp
 rw [hx]
 obtain ⟨t, x, hcons⟩ : ∃ t x, Dp n [M JY] ++ N [49] 1 :: (Dp n [M J8] ++ M Bc :: [M m_rc, M m_rc, FM]) = t :: x := by
  cases n with
  | zero => exact ⟨_, _, rfl⟩
  | succ n => rw [NG]; exact ⟨_, _, rfl⟩
 by_cases h : n <= 98
 ·have hb := AKr (l := [49]) (m := 1) (f := 4) (v := M Bc) (q := [M m_rc, M m_rc, FM]) mO pF n 1 (by omega)
  rw [show 4 + n + 4 = n + 8 by omega, hcons] at hb
  rw [if_pos h, hcons]
  exact ⟨_, _, ADS (f := n + 7) ((ACH (f := n + 8) (g := n + 8) (out := []) (by decide) hb).trans aZ), rfl⟩
 ·obtain ⟨e, t', r, hb⟩ := ANZ (f := 4) (v := N [49] 1) (q := Dp n [M J8] ++ M Bc :: [M m_rc, M m_rc, FM]) n 1 (by omega) (by omega)
  rw [show 4 + n + 4 = n + 8 by omega, hcons] at hb
  rw [if_neg h, hcons]
  obtain ⟨b, hr⟩ := AAM (f := n + 8) (g := n + 7) (out := []) (x := 3) (by decide) (by decide) hb
  exact ⟨_, _, vI (f := n + 7) (by decide) hr, rfl⟩
theorem AO6 (n : Nat) : ∃ c e, Ut (n + 9) (clT (sgT n)) = some (c, e) /\ (e = if n <= 98 then 0 else 3) := by
 unfold sgT
 rw [AKo]
 have hx : Dp n [M CG] ++ [N [49] 1, M Bc] ++ [M m_rc, M m_rc, FM] = Dp n [M CG] ++ N [49] 1 :: M Bc :: [M m_rc, M m_rc, FM] := by simp
 rw [hx]
 obtain ⟨t, x, hcons⟩ : ∃ t x, Dp n [M CG] ++ N [49] 1 :: M Bc :: [M m_rc, M m_rc, FM] = t :: x := by
  cases n with
  | zero => exact ⟨_, _, rfl⟩
  | succ n => rw [NG]; exact ⟨_, _, rfl⟩
 by_cases h : n <= 98
 ·obtain ⟨e, hb⟩ := AQi (rec := expr (n + 7)) (l := [49]) (m := 1) (f := 5) (v := M Bc) (q := [M m_rc, M m_rc, FM]) mO pF n 2 (by omega)
  rw [show 5 + n + 2 = n + 7 by omega, hcons] at hb
  have he : expr (n + 8) ⟨t, x, 1, 0⟩ = some (e, ⟨M Bc, [M m_rc, M m_rc, FM], 1, 0⟩) := OX (f := n + 6) (Sv (by decide)) hb (mO _) (kC (by decide))
  rw [if_pos h, hcons]
  exact ⟨_, _, ADS (f := n + 7) ((ACH (f := n + 8) (g := n + 8) (out := []) (by decide) he).trans aZ), rfl⟩
 ·obtain ⟨e, t', r, hb⟩ := ALv (rec := expr (n + 7)) (f := 5) (v := N [49] 1) (q := M Bc :: [M m_rc, M m_rc, FM]) n 2 (by omega) (by omega)
  rw [show 5 + n + 2 = n + 7 by omega, hcons] at hb
  have hbad : (⟨t', r, 2, 3⟩ : S).e ≠ 0 := show (3 : Nat) ≠ 0 by decide
  have he : expr (n + 8) ⟨t, x, 1, 0⟩ = some (e, ⟨t', r, 1, 3⟩) := OX (f := n + 6) (Sv (by decide)) hb (fun w _ => Hu hbad) (gQ (by decide))
  rw [if_neg h, hcons]
  obtain ⟨b, hr⟩ := AAM (f := n + 8) (g := n + 7) (out := []) (x := 3) (by decide) (by decide) he
  exact ⟨_, _, vI (f := n + 7) (by decide) hr, rfl⟩
theorem APj (n : Nat) : ∃ c e, Ut (n + 9) (clT (whT n)) = some (c, e) /\ (e = if n <= 98 then 0 else 3) := by
 unfold whT clT
 have hx : hdT [65] [109] ++ (Dp n Qz ++ tY ++ Dp n [M m_rc]) ++ [M m_rc, M m_rc, FM] = hdT [65] [109] ++ (Dp n Qz ++ tY ++ Dp n [M m_rc] ++ M m_rc :: M m_rc :: [FM]) := by simp
 rw [hx]
 obtain ⟨t, x, hcons⟩ : ∃ t x, Dp n Qz ++ tY ++ Dp n [M m_rc] ++ M m_rc :: M m_rc :: [FM] = t :: x := by
  cases n with
  | zero => exact ⟨_, _, rfl⟩
  | succ n => rw [NG]; exact ⟨_, _, rfl⟩
 by_cases h : n <= 98
 ·obtain ⟨b, hb⟩ := AJb n 1 3 3 (M m_rc) [FM] (by omega)
  rw [show 3 + n + 6 = n + 9 by omega, hcons] at hb
  rw [if_pos h, hcons]
  exact ⟨_, _, ADS (f := n + 7) hb, rfl⟩
 ·obtain ⟨b, t', r, hb⟩ := AH6 (y := N [49] 1) (p := M Bc :: (Dp n [M m_rc] ++ M m_rc :: M m_rc :: [FM])) n 1 3 3 (by omega) (by omega)
  rw [show Dp n Qz ++ W Cm :: N [49] 1 :: M Bc :: (Dp n [M m_rc] ++ M m_rc :: M m_rc :: [FM]) = Dp n Qz ++ tY ++ Dp n [M m_rc] ++ M m_rc :: M m_rc :: [FM] by simp [tY], show 3 + n + 6 = n + 9 by omega, hcons] at hb
  rw [if_neg h, hcons]
  exact ⟨_, _, vI (f := n + 7) (by decide) hb, rfl⟩
def mZ : List Tok := [W Sj, W I4, L [120], M Bc]
def xM : List Tok := [W Et, W I4, L [109], M JY, M J8, M J7, M m_rc]
theorem AGM {f : Nat} {ms : List Me} : ∀ (n g : Nat) (fs : List Va), ∃ x t r e, F6 f (g + n + 2) fs ms (S.of (Dp n mZ ++ [M m_rc, FM]) 0) = some (x, ⟨t, r, 0, e⟩) /\ (fs.length <= 200 -> e = if fs.length + n <= 200 then 0 else 4) /\ (e = 0 -> t = FM) := by
 intro n
 induction n with
 | zero =>
  intro g fs
  exact ⟨_, FM, [], 0, vG, fun h => by rw [if_pos (by omega)], fun _ => rfl⟩
 | succ n ih =>
  intro g fs
  obtain ⟨t, x, hcons⟩ : ∃ t x, Dp n mZ ++ [M m_rc, FM] = t :: x := by
   cases n with
   | zero => exact ⟨_, _, rfl⟩
   | succ n => rw [NG]; exact ⟨_, _, rfl⟩
  have e1 : S.of (Dp (n + 1) mZ ++ [M m_rc, FM]) 0 = ⟨W Sj, W I4 :: L [120] :: M Bc :: t :: x, 0, 0⟩ := by
   rw [NG, List.append_assoc, hcons]; rfl
  rw [e1, show g + (n + 1) + 2 = g + n + 2 + 1 by omega, ACB]
  by_cases h : 200 < fs.length + 1
  ·have hb : (⟨M Bc, t :: x, 0, 4⟩ : S).e ≠ 0 := show (4 : Nat) ≠ 0 by decide
   have hm : IU (fs.length + 1) ⟨M Bc, t :: x, 0, 0⟩ = ⟨M Bc, t :: x, 0, 4⟩ := by unfold IU; rw [decide_eq_true h]; rfl
   rw [hm, Zo hb]
   exact ⟨_, M Bc, t :: x, 4, nY hb, fun hl => by rw [if_neg (by omega)], fun h => absurd h (by decide)⟩
  ·have hm : IU (fs.length + 1) ⟨M Bc, t :: x, 0, 0⟩ = ⟨M Bc, t :: x, 0, 0⟩ := by unfold IU; rw [decide_eq_false h]; rfl
   rw [hm, l7]
   obtain ⟨y, t', r', e, h1, h2, h3⟩ := ih g (fs ++ [⟨[120], ⟨I4, false⟩⟩])
   rw [hcons] at h1
   refine ⟨y, t', r', e, h1, fun hl => ?_, h3⟩
   rw [h2 (by rw [List.length_append]; show fs.length + 1 <= 200; omega), List.length_append]
   show (if fs.length + 1 + n <= 200 then 0 else 4) = _
   rw [show fs.length + 1 + n = fs.length + (n + 1) by omega]
theorem AKV {f : Nat} {fs : List Va} : ∀ (n g : Nat) (ms : List Me), ∃ x t r e, F6 (f + 1) (g + n + 2) fs ms (S.of (Dp n xM ++ [M m_rc, FM]) 0) = some (x, ⟨t, r, 0, e⟩) /\ (ms.length <= 200 -> e = if ms.length + n <= 200 then 0 else 4) /\ (e = 0 -> t = FM) := by
 intro n
 induction n with
 | zero =>
  intro g ms
  exact ⟨_, FM, [], 0, vG, fun h => by rw [if_pos (by omega)], fun _ => rfl⟩
 | succ n ih =>
  intro g ms
  obtain ⟨t, x, hcons⟩ : ∃ t x, Dp n xM ++ [M m_rc, FM] = t :: x := by
   cases n with
   | zero => exact ⟨_, _, rfl⟩
   | succ n => rw [NG]; exact ⟨_, _, rfl⟩
  have e1 : S.of (Dp (n + 1) xM ++ [M m_rc, FM]) 0 = ⟨W Et, W I4 :: L [109] :: M JY :: M J8 :: M J7 :: M m_rc :: t :: x, 0, 0⟩ := by
   rw [NG, List.append_assoc, hcons]; rfl
  rw [e1, show g + (n + 1) + 2 = g + n + 2 + 1 by omega, gq (yj (s'' := ⟨t, x, 0, 0⟩) aZ (kC (by decide)))]
  by_cases h : 200 < ms.length + 1
  ·have hb : (⟨t, x, 0, 4⟩ : S).e ≠ 0 := show (4 : Nat) ≠ 0 by decide
   have hm : IU (ms.length + 1) ⟨t, x, 0, 0⟩ = ⟨t, x, 0, 4⟩ := by unfold IU; rw [decide_eq_true h]; rfl
   rw [hm]
   exact ⟨_, t, x, 4, nY hb, fun hl => by rw [if_neg (by omega)], fun h => absurd h (by decide)⟩
  ·have hm : IU (ms.length + 1) ⟨t, x, 0, 0⟩ = ⟨t, x, 0, 0⟩ := by unfold IU; rw [decide_eq_false h]; rfl
   rw [hm]
   obtain ⟨y, t', r', e, h1, h2, h3⟩ := ih g (ms ++ [⟨[109], false, [], ⟨I4, false⟩, []⟩])
   rw [hcons] at h1
   refine ⟨y, t', r', e, h1, fun hl => ?_, h3⟩
   rw [h2 (by rw [List.length_append]; show ms.length + 1 <= 200; omega), List.length_append]
   show (if ms.length + 1 + n <= 200 then 0 else 4) = _
   rw [show ms.length + 1 + n = ms.length + (n + 1) by omega]
def memT (l : List Tok) (n : Nat) : List Tok := [W Na, U [65], M J7] ++ (Dp n l ++ [M m_rc, FM])
theorem xW {f n : Nat} {l : List Tok} {x : List Va × List Me} {t : Tok} {r : List Tok} {e : Nat} (h : F6 f f [] [] (S.of (Dp n l ++ [M m_rc, FM]) 0) = some (x, ⟨t, r, 0, e⟩)) (he : e = 0 -> t = FM) (hl : l ≠ []) : Ut f (memT l n) = some (⟨[65], [], x.1, x.2⟩, e) := by
 obtain ⟨t', x', hcons⟩ : ∃ t x, Dp n l ++ [M m_rc, FM] = t :: x := by
  cases n with
  | zero => exact ⟨_, _, rfl⟩
  | succ n => cases l with
   | nil => exact absurd rfl hl
   | cons a l => rw [NG]; exact ⟨_, _, rfl⟩
 rw [hcons] at h
 unfold memT
 rw [hcons, show [W Na, U [65], M J7] ++ t' :: x' = W Na :: U [65] :: M J7 :: t' :: x' from rfl, rV h]
 by_cases h0 : e = 0
 ·rw [he h0, h0]; rfl
 ·rw [ADa (s := ⟨t, r, 0, e⟩) h0]
theorem AKk (n : Nat) : ∃ c e, Ut (n + 9) (memT mZ n) = some (c, e) /\ (e = if n <= 200 then 0 else 4) := by
 obtain ⟨x, t, r, e, h1, h2, h3⟩ := AGM (f := n + 9) (ms := []) n 7 []
 rw [show 7 + n + 2 = n + 9 by omega] at h1
 exact ⟨_, e, xW h1 h3 (by simp [mZ]), by rw [h2 (by decide)]; simp⟩
theorem AMi (n : Nat) : ∃ c e, Ut (n + 9) (memT xM n) = some (c, e) /\ (e = if n <= 200 then 0 else 4) := by
 obtain ⟨x, t, r, e, h1, h2, h3⟩ := AKV (f := n + 8) (fs := []) n 7 []
 rw [show 7 + n + 2 = n + 9 by omega] at h1
 exact ⟨_, e, xW h1 h3 (by simp [xM]), by rw [h2 (by decide)]; simp⟩
end Go.PQ
namespace Go.PQ
open Go.Eng
set_option maxRecDepth 100000
theorem PX {g s : Bs} {ts : List Tok} (hg : Gap g) (h : IZ s ts) : IZ (g ++ s) ts := fun f hf => by
 rw [List.length_append] at hf
 have := h f (by omega)
 cases f with
 | zero => omega
 | succ f => rw [yS, hg, <- yS]; exact this
theorem jK {t : Tok} {r : Bs} {ts : List Tok} (hw : Wf t) (hs : ADH t r = true) (h : IZ r ts) : IZ (t.text ++ r) (t :: ts) := AD2 qX hw (AGK hs) h
theorem Um : Gap [32] := yM (by decide)
def safe (m : Bs) : Bool := decide (m ∈ EJ) && !(decide (m = TF) || (decide (m = Rx) || decide (m = Ua))) && !decide (m = Qk)
theorem OQ {m : Bs} {r : Bs} {ts : List Tok} (hm : safe m = true) (h : IZ r ts) : IZ (m ++ r) (M m :: ts) := by
 simp only [safe, Bool.and_eq_true, decide_eq_true_eq, Bool.not_eq_true'] at hm
 refine jK (t := M m) (.mark hm.1.1) ?_ h
 cases r with
 | nil => rfl
 | cons c r =>
  show J4 (M m) c = true
  show XQ m c = true
  unfold XQ
  rw [hm.1.2, hm.2]; rfl
theorem P8 {t : Tok} {r : Bs} {ts : List Tok} (hw : Wf t) (h : IZ r ts) : IZ (t.text ++ ([32] ++ r)) (t :: ts) := jK hw (ACv (by decide)) (PX Um h)
def UL (n : Nat) (s : Bs) : Bs := (List.replicate n s).flatten
theorem vK (n : Nat) (s : Bs) : UL (n + 1) s = s ++ UL n s := by simp [UL, List.replicate_succ]
theorem ARv (n : Nat) (s : Bs) : UL (n + 1) s = UL n s ++ s := by
 induction n with
 | zero => simp [UL]
 | succ n ih => rw [vK (n + 1), ih, <- List.append_assoc, <- vK, ih]
theorem AOM (n : Nat) (s : Bs) : (UL n s).length = n * s.length := by
 induction n with
 | zero => simp [UL]
 | succ n ih => rw [vK, List.length_append, ih, Nat.succ_mul]; omega
theorem ZK {s : Bs} {l : List Tok} (h : ∀ r ts, IZ r ts -> IZ (s ++ r) (l ++ ts)) {r : Bs} {ts : List Tok} (hr : IZ r ts) : ∀ n, IZ (UL n s ++ r) (Dp n l ++ ts)
 | 0 => hr
 | n + 1 => by rw [vK, NG, List.append_assoc, List.append_assoc]; exact h _ _ (ZK h hr n)
theorem Nb {l : Bs} (h : decide (l ∈ Ph) = true) : Wf (W l) := .word (of_decide_eq_true h)
def nameB (p : UInt8 -> Bool) (l : Bs) : Bool := (match l with | [] => false | c :: _ => p c) && l.all inner && decide (l.length <= 40)
theorem ABc {p : UInt8 -> Bool} {l : Bs} (h : nameB p l = true) : zy p l := by
 simp only [nameB, Bool.and_eq_true, decide_eq_true_eq] at h
 refine ⟨?_, List.all_eq_true.1 h.1.2, h.2⟩
 cases l with
 | nil => exact absurd h.1.1 (by simp)
 | cons c t => exact ⟨c, t, rfl, h.1.1⟩
theorem AOm {l : Bs} (h : nameB great l = true) : Wf (U l) := .upper (ABc h)
theorem ALn {l : Bs} (h : (nameB small l && !decide (l ∈ Ph)) = true) : Wf (L l) := by
 simp only [Bool.and_eq_true, Bool.not_eq_true'] at h
 exact .lower (ABc h.1) (of_decide_eq_false h.2)
def hdB : Bs := [99, 108, 97, 115, 115, 32, 65, 32, 123, 32, 109, 101, 116, 104, 111, 100, 32, 105, 110, 116, 32, 109, 40, 41, 32, 123, 32]
def tlB : Bs := [32, 125, 32, 125]
theorem jP : IZ tlB [M m_rc, M m_rc, FM] := PX Um (OQ (m := m_rc) (r := [32] ++ m_rc) (by decide) (PX Um (OQ (m := m_rc) (r := []) (by decide) (zC qX))))
theorem jZ {r : Bs} {ts : List Tok} (h : IZ r ts) : IZ (hdB ++ r) (hdT [65] [109] ++ ts) :=
 P8 (t := W Na) (Nb (by decide)) (P8 (t := U [65]) (AOm (by decide)) (OQ (m := J7) (by decide) (PX Um (P8 (t := W Et) (Nb (by decide)) (P8 (t := W I4) (Nb (by decide))
  (jK (t := L [109]) (r := JY ++ (J8 ++ ([32] ++ (J7 ++ ([32] ++ r))))) (ALn (by decide)) rfl (OQ (m := JY) (by decide) (OQ (m := J8) (by decide) (PX Um (OQ (m := J7) (by decide) (PX Um h)))))))))))
theorem AMH : Wf (N [49] 1) := .num (by simp) (by decide) rfl
def brB (n : Nat) : Bs := [114, 101, 116, 117, 114, 110, 32] ++ UL n [40] ++ [49] ++ UL n [41] ++ [59]
def sgB (n : Nat) : Bs := [114, 101, 116, 117, 114, 110, 32] ++ UL n [45] ++ [49, 59]
def whB (n : Nat) : Bs := UL n [119, 104, 105, 108, 101, 32, 116, 114, 117, 101, 32, 123, 32] ++ [114, 101, 116, 117, 114, 110, 32, 49, 59] ++ UL n [125]
def clB (s : Bs) : Bs := hdB ++ s ++ tlB
def fiB (n : Nat) : Bs := [99, 108, 97, 115, 115, 32, 65, 32, 123, 32] ++ UL n [102, 105, 101, 108, 100, 32, 105, 110, 116, 32, 120, 59] ++ [32, 125]
def meB (n : Nat) : Bs := [99, 108, 97, 115, 115, 32, 65, 32, 123, 32] ++ UL n [109, 101, 116, 104, 111, 100, 32, 105, 110, 116, 32, 109, 40, 41, 32, 123, 32, 125, 32] ++ [32, 125]
theorem ANo (n : Nat) {r : Bs} {ts : List Tok} (h : IZ r ts) : IZ (UL n [41] ++ r) (Dp n [M J8] ++ ts) := ZK (fun _ _ h => OQ (m := J8) (by decide) h) h n
theorem AIP {n : Nat} {c : UInt8} {t : Tok} {r : Bs} (h : J4 t c = true) (h2 : ADH t r = true) : ADH t (UL n [c] ++ r) = true := by
 cases n with
 | zero => exact h2
 | succ n => rw [vK]; exact h
theorem ATQ (n : Nat) : IZ (clB (brB n)) (clT (brT n)) := by
 have e : clB (brB n) = hdB ++ (Cm ++ ([32] ++ (UL n [40] ++ ([49] ++ (UL n [41] ++ (Bc ++ tlB)))))) := by simp [clB, brB, Cm, Bc]
 have e2 : clT (brT n) = hdT [65] [109] ++ (W Cm :: (Dp n [M JY] ++ (N [49] 1 :: (Dp n [M J8] ++ (M Bc :: [M m_rc, M m_rc, FM]))))) := by simp [clT, brT]
 rw [e, e2]
 refine jZ (P8 (t := W Cm) (Nb (by decide)) (ZK (fun _ _ h => OQ (m := JY) (by decide) h) (jK (t := N [49] 1) AMH (AIP (by decide) (by decide)) (ANo n (OQ (m := Bc) (by decide) jP))) n))
theorem ASq (n : Nat) : IZ (clB (sgB n)) (clT (sgT n)) := by
 have e : clB (sgB n) = hdB ++ (Cm ++ ([32] ++ (UL n [45] ++ ([49] ++ (Bc ++ tlB))))) := by simp [clB, sgB, Cm, Bc]
 have e2 : clT (sgT n) = hdT [65] [109] ++ (W Cm :: (Dp n [M CG] ++ (N [49] 1 :: (M Bc :: [M m_rc, M m_rc, FM])))) := by simp [clT, sgT]
 rw [e, e2]
 refine jZ (P8 (t := W Cm) (Nb (by decide)) (ZK (fun _ _ h => OQ (m := CG) (by decide) h) (jK (t := N [49] 1) AMH rfl (OQ (m := Bc) (by decide) jP)) n))
theorem ASg (n : Nat) : IZ (clB (whB n)) (clT (whT n)) := by
 have e : clB (whB n) = hdB ++ (UL n [119, 104, 105, 108, 101, 32, 116, 114, 117, 101, 32, 123, 32] ++ (Cm ++ ([32] ++ ([49] ++ (Bc ++ (UL n [125] ++ tlB)))))) := by simp [clB, whB, Cm, Bc]
 have e2 : clT (whT n) = hdT [65] [109] ++ (Dp n Qz ++ (W Cm :: (N [49] 1 :: (M Bc :: (Dp n [M m_rc] ++ [M m_rc, M m_rc, FM]))))) := by simp [clT, whT, tY]
 rw [e, e2]
 refine jZ (ZK (fun r ts h => ?_) (P8 (t := W Cm) (Nb (by decide)) (jK (t := N [49] 1) AMH rfl (OQ (m := Bc) (by decide) (ZK (fun _ _ h => OQ (m := m_rc) (by decide) h) jP n)))) n)
 exact P8 (t := W Qs) (Nb (by decide)) (P8 (t := W Vx) (Nb (by decide)) (OQ (m := J7) (by decide) (PX Um h)))
theorem ADd {s : Bs} {l : List Tok} (n : Nat) (h : ∀ r ts, IZ r ts -> IZ (s ++ r) (l ++ ts)) : IZ ([99, 108, 97, 115, 115, 32, 65, 32, 123, 32] ++ UL n s ++ [32, 125]) (memT l n) := by
 have e : [99, 108, 97, 115, 115, 32, 65, 32, 123, 32] ++ UL n s ++ [32, 125] = Na ++ ([32] ++ ([65] ++ ([32] ++ (J7 ++ ([32] ++ (UL n s ++ ([32] ++ (m_rc ++ [])))))))) := by simp [Na, J7, m_rc]
 rw [e]
 exact P8 (t := W Na) (Nb (by decide)) (P8 (t := U [65]) (AOm (by decide)) (OQ (m := J7) (by decide) (PX Um (ZK h (PX Um (OQ (m := m_rc) (by decide) (zC qX))) n))))
theorem ASz (n : Nat) : IZ (fiB n) (memT mZ n) := ADd n fun r ts h =>
 P8 (t := W Sj) (Nb (by decide)) (P8 (t := W I4) (Nb (by decide)) (jK (t := L [120]) (r := Bc ++ r) (ALn (by decide)) rfl (OQ (m := Bc) (by decide) h)))
theorem ARp (n : Nat) : IZ (meB n) (memT xM n) := ADd n fun r ts h =>
 P8 (t := W Et) (Nb (by decide)) (P8 (t := W I4) (Nb (by decide)) (jK (t := L [109]) (r := JY ++ (J8 ++ ([32] ++ (J7 ++ ([32] ++ (m_rc ++ ([32] ++ r))))))) (ALn (by decide)) rfl (OQ (m := JY) (by decide) (OQ (m := J8) (by decide) (PX Um (OQ (m := J7) (by decide) (PX Um (OQ (m := m_rc) (by decide) (PX Um h)))))))))
end Go.PQ
namespace Go.PQ
open Go.Eng
set_option maxRecDepth 100000
def AHk : Bs := [99, 108, 97, 115, 115, 32, 65, 32, 123, 32, 109, 101, 116, 104, 111, 100, 32, 105, 110, 116, 32, 109, 40, 41, 32, 123, 32, 114, 101, 116, 117, 114, 110, 32]
def AHO : Bs := [59, 32, 125, 32, 125]
def wE (s : Bs) : Bs := AHk ++ s ++ AHO
theorem APd : V.str 34 961357696037381675649956981681352240005675623347818639615620599312194765693480035 = sB AHk := rfl
theorem AK9 : V.str 5 537415983163 = sB AHO := rfl
theorem AAf {G : AP} (hS : AAu G) {H : Heap} {v : V} {z o i : Nat} {LS : D5} {c : LV} {x : V} (h : El G H v z LS) (hi : LS[i]? = some c) (hc : c.length = z) (ho : c[o]? = some x) :
    ∃ p q, BJ z v (.int .i64 (.ofNat i) 0) = some p /\ AX o p = some q /\ AZ q G H = some x := by
  obtain ⟨p, h1, h2⟩ := h.at hi
  obtain ⟨q, h3, h4⟩ := AHN hS h2 hc ho
  exact ⟨p, q, h1, h3, h4⟩
theorem AJC : BR pW [] = some (.agg pW) := rfl
section
variable {G : AP} {H : Heap} {n : Nat} {s : Bs} {k : KV}
theorem AIb {f e : Nat} (hG : Qm G) (hs : s.length <= 65000) (he : e ≠ 0) (hm : dK f (wE s) = some (none, e)) (hk : ∀ H' n' ft, Kp H n H' n' -> FtO e ft -> k (.Gh [.agg pW, .agg ft]) H' n') : Runs F G Ja [sB s] H n k := by
 refine BZ (s := Eu (Fz lfp G)) Kr (by obtain ⟨h, o⟩ := SS BX G; rw [Kr] at h; cases h; exact o) ?_
 show Fz lfp G (Runs F G) (sB s) H n k
 delta Fz
 refine A8 rfl fun H1 f1 g1 => ?_
 refine A8 rfl fun H2 f2 g2 => ?_
 have g1 := f2.get g1 (by omega)
 have f2 := f1.trans f2
 rw [APd, AK9]
 refine AL (X6 (by show 34 + _ < _; omega)) (AL (X6 (by rw [List.length_append]; show 34 + _ + 5 < _; omega)) ?_)
 refine AEP hG hm fun H3 n3 c ft f3 hc hf => ?_
 have g1 := f3.get g1 (by omega)
 have g2 := f3.get g2 (by omega)
 have hn3 := f3.le
 have f3 := f2.trans f3
 have hc : c = clZ := hc
 subst hc
 obtain ⟨line, col, rfl, hf1, hf2⟩ := hf
 rw [bK, Au, aj, Au]
 refine A8 rfl fun H4 f4 g4 => ?_
 refine A8 rfl fun H5 f5 g5 => ?_
 have g4 := f5.get g4 (by omega)
 have f5 := f4.trans f5
 have g1 := f5.get g1 (by omega)
 have g2 := f5.get g2 (by omega)
 have f5 := f3.trans f5
 refine Bo (L := clZ) g4 rfl rfl (by omega) fun H6 g4 t6 => ?_
 have g1 := (t6 n (by omega)).trans g1
 have g2 := (t6 (n + 1) (by omega)).trans g2
 have g5 := (t6 (n3 + 1) (by omega)).trans g5
 refine Bo (L := YQ e line col) g5 rfl rfl (by omega) fun H7 g5 t7 => ?_
 have g1 := (t7 n (by omega)).trans g1
 have g2 := (t7 (n + 1) (by omega)).trans g2
 have f7 : Kp H n H7 (n3 + 1 + 1) := ⟨by omega, fun id hid => (t7 id (by omega)).trans ((t6 id (by omega)).trans (f5.same id hid))⟩
 refine AL (v := .ptr (n3 + 1) 0) (by rw [Aw]) (AL (Ah (off := 0) g5 (v := .int .i64 (.ofNat e) 0) rfl) ?_)
 rw [eY, Au, decide_eq_false he, Bool.not_false]
 repeat (first | with_reducible refine AMO ?_ | with_reducible refine AQg ?_)
 rw [Bv]
 refine AL AJC (AL (Aj (m := 3) g5 (by omega) rfl) ?_)
 refine Bo g1 rfl rfl (by omega) fun H8 g1 t8 => ?_
 have g2 := (t8 (n + 1) (by omega)).trans g2
 have g5 := (t8 (n3 + 1) (by omega)).trans g5
 refine AL (Aj (m := 3) g5 (by omega) rfl) (E5 (AAJ ..) ?_)
 refine Bo (L := YQ e line col) g2 rfl rfl (by omega) fun H9 g2 t9 => ?_
 have g1 := (t9 n (by omega)).trans g1
 rw [BL (m := 11) g1 (by omega) rfl, BL (m := 3) g2 (by omega) rfl]
 simp only [go_sem]
 exact hk _ _ _ ⟨by omega, fun id hid => (t9 id (by omega)).trans ((t8 id (by omega)).trans (f7.same id hid))⟩ ⟨line, col, rfl, hf1, hf2⟩
theorem AFp {f : Nat} {cn sup mn snm : Bs} {fs : List Va} {ps : List Va} {sb : Bool} {rt sty : Ty} {d : Nat} {x : Ex} {th el : List St} (hG : Qm G) (hS : AAu G) (hs : s.length <= 65000)
    (hm : dK f (wE s) = some (some ⟨cn, sup, fs, [⟨mn, sb, ps, rt, [.mk d snm sty [x] th el]⟩]⟩, 0)) (hk : ∀ H' n' c, Kp H n H' n' -> DW G H' (Rg n n') c x -> k (.Gh [.agg c, .agg (YQ 0 0 0)]) H' n') : Runs F G Ja [sB s] H n k := by
  refine BZ (s := Eu (Fz lfp G)) Kr (by obtain ⟨h, o⟩ := SS BX G; rw [Kr] at h; cases h; exact o) ?_
  show Fz lfp G (Runs F G) (sB s) H n k
  delta Fz
  refine A8 rfl fun H1 f1 g1 => ?_
  refine A8 rfl fun H2 f2 g2 => ?_
  have g1 := f2.get g1 (by omega)
  have f2 := f1.trans f2
  rw [APd, AK9]
  refine AL (X6 (by show 34 + _ < _; omega)) (AL (X6 (by rw [List.length_append]; show 34 + _ + 5 < _; omega)) ?_)
  refine AEP hG hm fun H3 n3 c ft f3 hc hf => ?_
  have g1 := f3.get g1 (by omega)
  have g2 := f3.get g2 (by omega)
  have hn3 := f3.le
  have f3 := f2.trans f3
  have hc : sZ G H3 (Rg (n + 1 + 1) n3) c _ := hc
  obtain ⟨line, col, rfl, hf1, hf2⟩ := hf
  obtain ⟨rfl, rfl⟩ := hf2 rfl
  rw [bK, Au, aj, Au]
  refine A8 rfl fun H4 f4 g4 => ?_
  refine A8 rfl fun H5 f5 g5 => ?_
  have g4 := f5.get g4 (by omega)
  have f45 := f4.trans f5
  have g1 := f45.get g1 (by omega)
  have g2 := f45.get g2 (by omega)
  have f5 := f3.trans f45
  refine Bo g4 rfl hc.len (by omega) fun H6 g4 t6 => ?_
  have g1 := (t6 n (by omega)).trans g1
  have g2 := (t6 (n + 1) (by omega)).trans g2
  have g5 := (t6 (n3 + 1) (by omega)).trans g5
  refine Bo (L := YQ 0 0 0) g5 rfl rfl (by omega) fun H7 g5 t7 => ?_
  have g1 := (t7 n (by omega)).trans g1
  have g2 := (t7 (n + 1) (by omega)).trans g2
  have g4 := (t7 n3 (by omega)).trans g4
  have f7 : Kp H n H7 (n3 + 1 + 1) := ⟨by omega, fun id hid => (t7 id (by omega)).trans ((t6 id (by omega)).trans (f5.same id hid))⟩
  have hc : sZ G H7 (Rg (n + 1 + 1) n3) c _ := hc.mono (fun id h => h) fun id h => (t7 id (by have := h.2; omega)).trans ((t6 id (by have := h.2; omega)).trans (f45.same id h.2))
  refine AL (v := .ptr (n3 + 1) 0) (by rw [Aw]) (AL (Ah (off := 0) g5 (v := .int .i64 (.ofNat 0) 0) rfl) ?_)
  rw [eY, Au, decide_eq_true rfl, Bool.not_true]
  cases hc with
  | mk line col hp hfs hms =>
    obtain ⟨cs, e1, _, _, _, m1⟩ := hms
    cases m1 with
    | cons m1 m2 =>
    cases m2 with
    | nil =>
    cases m1 with
    | mk l1 c1 hps hbd =>
    obtain ⟨cs2, e2, _, _, _, m2⟩ := hbd
    cases m2 with
    | cons m2 m3 =>
    cases m3 with
    | nil =>
    cases m2 with
    | mk _ _ _ l2 c2 hes ht _ _ hl _ _ =>
    obtain ⟨cs3, e3, _, _, _, _, m3⟩ := hes
    cases m3 with
    | cons m3 m4 =>
    cases m4 with
    | nil =>
    have q5 : AZ (.ptr n3 5) G H7 = some _ := Ah g4 rfl
    obtain ⟨p1, q1, a1, b1, d1⟩ := AAf hS e1 (i := 0) (o := 7) rfl rfl rfl
    obtain ⟨p2, q2, a2, b2, d2⟩ := AAf hS e2 (i := 0) (o := 6) rfl rfl rfl
    obtain ⟨p3, a3, b3⟩ := e3.at (i := 0) rfl
    have b3 := ADB b3
    simp only [go_sem, Nat.reduceAdd, Nat.zero_add, q5, e1.len, e2.len, e3.len, a1, b1, d1, a2, b2, d2, a3, b3, eY, List.length_cons, List.length_nil, decide_true, Bool.not_true]
    refine AL (Aj (m := 3) g5 (by omega) rfl) ?_
    refine Bo g1 rfl m3.len (by omega) fun H8 g1 t8 => ?_
    have g2 := (t8 (n + 1) (by omega)).trans g2
    have g5 := (t8 (n3 + 1) (by omega)).trans g5
    refine AL (Aj (m := 3) g5 (by omega) rfl) (E5 (AAJ ..) ?_)
    refine Bo (L := YQ 0 0 0) g2 rfl rfl (by omega) fun H9 g2 t9 => ?_
    have g1 := (t9 n (by omega)).trans g1
    rw [BL (m := 11) g1 (by omega) m3.len, BL (m := 3) g2 (by omega) rfl]
    simp only [go_sem]
    exact hk _ _ _ ⟨by omega, fun id hid => (t9 id (by omega)).trans ((t8 id (by omega)).trans (f7.same id hid))⟩
      (m3.mono (fun id h => ⟨by have := h.1; omega, by have := h.2; omega⟩) fun id h => (t9 id (by have := h.1; omega)).trans (t8 id (by have := h.1; omega)))
def hdS : Bs := [120, 32, 43, 32, 49, 32, 42, 32, 50]
def hdE : Ex := .mk 16 0 Y0 [] false [.mk 6 0 [120] [] false [], .mk 16 0 WG [] false [.mk 1 1 [] [] false [], .mk 1 2 [] [] false []]]
theorem AGB : dK 20 (wE hdS) = some (some ⟨[65], [], [], [⟨[109], false, [], ⟨I4, false⟩, [.mk 6 [] YB [hdE] [] []]⟩]⟩, 0) := by kernel_rfl
theorem AM8 (hG : Qm G) (hS : AAu G) (hk : ∀ H' n', Kp H n H' n' -> k (.bool true) H' n') : Runs F G YS [] H n k := by
 refine BZ (s := ar0 (Kt lfp G)) Qy (by obtain ⟨h, o⟩ := Wj BX G; rw [Qy] at h; cases h; exact o) ?_
 show Kt lfp G (Runs F G)  H n k
 delta Kt
 rw [show V.str 9 924654904039078305912 = sB hdS from rfl]
 refine AFp hG hS (by decide) AGB fun H1 n1 c f1 hx => ?_
 rw [bK, Au, aj, Au]
 refine A8 rfl fun H2 f2 g2 => ?_
 refine A8 rfl fun H3 f3 g3 => ?_
 have g2 := f3.get g2 (by omega)
 have f3 := f2.trans f3
 refine Bo g2 rfl hx.len (by omega) fun H4 g2 t4 => ?_
 have g3 := (t4 (n1 + 1) (by omega)).trans g3
 refine Bo (L := YQ 0 0 0) g3 rfl rfl (by omega) fun H5 g3 t5 => ?_
 have g2 := (t5 n1 (by omega)).trans g2
 have f5 : Kp H1 n1 H5 (n1 + 1 + 1) := ⟨by omega, fun id hid => (t5 id (by omega)).trans ((t4 id (by omega)).trans (f3.same id hid))⟩
 have hx : DW G H5 (Rg n n1) c hdE := hx.mono (fun id h => h) fun id h => f5.same id h.2
 have f5 := f1.trans f5
 refine AL (Aj (m := 3) g3 (by omega) rfl) (AL AHS ?_)
 rw [show Ib (.agg [.int, .int, .int]) false (.agg (YQ 0 0 0)) (.agg (YQ 0 0 0)) = some (.bool true) from rfl, Au]
 cases hx with
 | mk _ _ _ _ _ l1 c1 he hv ha hc =>
 cases hc with
 | cons h1 hc =>
 cases hc with
 | cons h2 hc =>
 cases hc with
 | nil =>
 cases h1 with
 | mk _ _ _ _ _ l2 c2 he2 _ _ _ =>
 cases h2 with
 | mk _ _ _ _ _ l3 c3 he3 _ _ _ =>
 have q0 : AZ (.ptr n1 0) G H5 = some _ := Ah g2 rfl
 have q4 : AZ (.ptr n1 4) G H5 = some _ := Ah g2 rfl
 have q7 : AZ (.ptr n1 7) G H5 = some _ := Ah g2 rfl
 obtain ⟨p1, q1, a1, b1, d1⟩ := AAf hS he (i := 0) (o := 0) rfl rfl rfl
 obtain ⟨p2, q2, a2, b2, d2⟩ := AAf hS he (i := 1) (o := 4) rfl rfl rfl
 simp only [go_sem, Nat.reduceAdd, Nat.zero_add, q0, q4, q7, he.len, a1, b1, d1, a2, b2, d2, Q8, yh, List.length_cons, List.length_nil, decide_true, show V.str 1 43 = sB Y0 from rfl, show V.str 1 42 = sB WG from rfl]
 exact hk _ _ f5
end
end Go.PQ
namespace Go.PQ
open Go.Eng
set_option maxRecDepth 100000
def smB : Bs := (List.range 100).flatMap fun k => [UInt8.ofNat (48 + k / 10), UInt8.ofNat (48 + k % 10)]
theorem ANd : smB.length = 200 := by decide
theorem AL4 : ((List.range 100).all fun k => decide (smB[2 * k]? = some (UInt8.ofNat (48 + k / 10))) && decide (smB[2 * k + 1]? = some (UInt8.ofNat (48 + k % 10)))) = true := by decide
theorem sm_at {k : Nat} (h : k < 100) : smB[2 * k]? = some (UInt8.ofNat (48 + k / 10)) /\ smB[2 * k + 1]? = some (UInt8.ofNat (48 + k % 10)) := by
 have := List.all_eq_true.1 AL4 k (List.mem_range.2 h)
 simpa using this
theorem zD {l : Bs} {i : Nat} {q : IntKind} {c : UInt8} (h : l[i]? = some c) : He (sB l) (.int q (.ofNat i) 0) = some (.int .u8 (.ofNat c.toNat) 0) := by
 obtain ⟨h1, h2⟩ := List.getElem?_eq_some_iff.1 h
 rw [ALS h1, h2]
theorem d8 {k : Nat} (h : k < 10) : (UInt8.ofNat (48 + k)).toNat = 48 + k := by
 rw [UInt8.toNat_ofNat']; omega
theorem sm_hi {k : Nat} {q : IntKind} (h : k < 100) : He (sB smB) (.int q (.ofNat (k * 2)) 0) = some (.int .u8 (.ofNat (48 + k / 10)) 0) := by
 rw [Nat.mul_comm, zD (sm_at h).1, d8 (by omega)]
theorem sm_lo {k : Nat} {q : IntKind} (h : k < 100) : He (sB smB) (.int q (.ofNat (k * 2 + 1)) 0) = some (.int .u8 (.ofNat (48 + k % 10)) 0) := by
 rw [Nat.mul_comm, zD (sm_at h).2, d8 (Nat.mod_lt _ (by decide))]
theorem smN : V.str 200 9938655150514779720929161263213647789093395803754561035662628441001274968862597953692946393464194303251501229616933063375291039650253924995779037586872666250072396106842829501851083234932712366962979930255066872747696324303968523733872590022915936937156789320557469720923390131174387415513794469201054844961267015441141542819553679203788501627738430154234325528792480477051962324423099068299719245009424585859096469223093538032153047611602695245052081125123941502624659711709950000 = sB smB := by kernel_rfl
theorem take2 {α : Type} {l : List α} {i : Nat} {a b : α} (h1 : l[i]? = some a) (h2 : l[i + 1]? = some b) : (l.drop i).take 2 = [a, b] := by
 obtain ⟨p1, q1⟩ := List.getElem?_eq_some_iff.1 h1
 obtain ⟨p2, q2⟩ := List.getElem?_eq_some_iff.1 h2
 rw [List.drop_eq_getElem_cons p1, q1, List.drop_eq_getElem_cons p2, q2]; rfl
section
variable {G : AP} {H : Heap} {n : Nat} {k : KV}
theorem ANE : V.str 36 237927390410950444456928663707796224754864904193074819559483181009558347043374296609072 = sB [48, 49, 50, 51, 52, 53, 54, 55, 56, 57, 97, 98, 99, 100, 101, 102, 103, 104, 105, 106, 107, 108, 109, 110, 111, 112, 113, 114, 115, 116, 117, 118, 119, 120, 121, 122] := rfl
theorem AP0 {x : Nat} (h : x < 10) : PN x = [UInt8.ofNat (48 + x)] := by
 unfold PN; rw [show nS 20 x = 1 by unfold nS; rw [if_pos h]]
 show [] ++ [UInt8.ofNat (48 + x % 10)] = _
 rw [Nat.mod_eq_of_lt h]; rfl
theorem AOx {x : Nat} (h : 10 <= x) (h2 : x < 100) : PN x = [UInt8.ofNat (48 + x / 10), UInt8.ofNat (48 + x % 10)] := by
 unfold PN
 rw [show nS 20 x = 2 by unfold nS; rw [if_neg (by omega)]; unfold nS; rw [if_pos (by omega)]]
 show ([] ++ [UInt8.ofNat (48 + x / 10 % 10)]) ++ [UInt8.ofNat (48 + x % 10)] = _
 rw [Nat.mod_eq_of_lt (show x / 10 < 10 by omega)]; rfl
theorem AJF {x : Nat} (h : x < 100) (hk : k (sB (PN x)) H n) : Runs F G PD [.int .i64 (.ofNat x) 0] H n k := by
 refine BZ (s := Eu (Ei lfp G)) JU (by obtain ⟨h, o⟩ := Om BX G; rw [JU] at h; cases h; exact o) ?_
 show Ei lfp G (Runs F G) (.int .i64 (.ofNat x) 0) H n k
 delta Ei
 rw [Pz, Au]
 cases hd : decide (x < 10) with
 | true =>
  have hd := of_decide_eq_true hd
  rw [Bv, ANE]
  refine AL (La (by omega)) (AL (AGa (by omega) (by show x + 1 <= 36; omega)) ?_)
  rw [AP0 hd] at hk
  match x, hd with
  | 0, _ => exact hk
  | 1, _ => exact hk
  | 2, _ => exact hk
  | 3, _ => exact hk
  | 4, _ => exact hk
  | 5, _ => exact hk
  | 6, _ => exact hk
  | 7, _ => exact hk
  | 8, _ => exact hk
  | 9, _ => exact hk
 | false =>
  have hd := of_decide_eq_false hd
  rw [Bl]
  refine AL (ADi (by omega)) (AL (ADi (by omega)) (AL (La (by omega)) ?_))
  rw [smN]
  refine AL (AGa (by omega) (by rw [ANd]; omega)) ?_
  rw [show x * 2 + 2 - x * 2 = 2 by omega, Nat.mul_comm, take2 (sm_at h).1 (sm_at h).2, <- AOx (by omega) h]
  exact hk
def len8 : Bs := (List.range 256).map fun k => UInt8.ofNat (if k = 0 then 0 else Nat.log2 k + 1)
theorem AQa : V.str 256 1013866857139168856493015739252390649739422828853819106890363778118420553376247557433637691341895324351018602695588957474325319502760499485336098898398377509666851054660423406800006203933793007272033180812049178612605246075062580585469430410618860250057463399279570354286669047577758927328864388992123306212451509403152394148136105363817402562688186708175358218852349079190158732807302672745370040257219644697201681238697346923541678507645485296520536209706771857694240900605172937619415410180424934769249448772944216470541052485265558808433676546390051204254346932932316488017972311616136051587427851453983453479168 = sB len8 := by kernel_rfl
theorem AHa : ((List.range 256).all fun k => decide (len8[k]? = some (UInt8.ofNat (if k = 0 then 0 else Nat.log2 k + 1)))) = true := by decide
def Vb (x : Nat) : Nat := if x = 0 then 0 else Nat.log2 x + 1
theorem zB {x s : Nat} (h : 2 ^ s <= x) : Vb x = s + Vb (x / 2 ^ s) := by
 have h0 : 0 < 2 ^ s := Nat.pow_pos (by decide)
 have h1 : 1 <= x / 2 ^ s := by rw [Nat.le_div_iff_mul_le h0]; omega
 have hx : x ≠ 0 := by omega
 unfold Vb
 rw [if_neg hx, if_neg (by omega)]
 have e1 : x.log2 = s + (x / 2 ^ s).log2 := by
  have l1 : 2 ^ (x / 2 ^ s).log2 <= x / 2 ^ s := Nat.log2_self_le (by omega)
  have l2 : x / 2 ^ s < 2 ^ ((x / 2 ^ s).log2 + 1) := Nat.lt_log2_self
  rw [Nat.log2_eq_iff hx]
  constructor
  ·rw [Nat.pow_add, Nat.mul_comm]; exact (Nat.le_div_iff_mul_le h0).1 l1
  ·rw [show s + (x / 2 ^ s).log2 + 1 = ((x / 2 ^ s).log2 + 1) + s by omega, Nat.pow_add]; exact (Nat.div_lt_iff_lt_mul h0).1 l2
 omega
theorem AJv {y : Nat} {q : IntKind} (h : y < 256) : He (sB len8) (.int q (.ofNat y) 0) = some (.int .u8 (.ofNat (Vb y)) 0) := by
 have := List.all_eq_true.1 AHa y (List.mem_range.2 h)
 have h2 : len8[y]? = some (UInt8.ofNat (Vb y)) := of_decide_eq_true this
 rw [zD h2]
 have h3 : Vb y <= 8 := by
  unfold Vb; split
  ·omega
  ·have : y.log2 < 8 := (Nat.log2_lt (by omega)).2 (by omega)
   omega
 rw [UInt8.toNat_ofNat', Nat.mod_eq_of_lt (by omega)]
theorem AEd {x s : Nat} (h : x < 2 ^ s) : Vb x <= s := by
 unfold Vb; split
 ·omega
 ·rename_i h0; have := (Nat.log2_lt h0).2 h; omega
theorem AJr {x : Nat} (h : x < 9223372036854775808) (hk : k (.int .i64 (.ofNat (Vb x)) 0) H n) : Runs F G WZ [.int .u64 (.ofNat x) 0] H n k := by
 refine BZ (s := Eu (Jf lfp G)) Pg (by obtain ⟨h, o⟩ := Vm BX G; rw [Pg] at h; cases h; exact o) ?_
 show Jf lfp G (Runs F G) (.int .u64 (.ofNat x) 0) H n k
 delta Jf
 have j3 : ∀ {y a : Nat}, y < 256 -> a <= 100 -> a + Vb y = Vb x -> Gu lfp G (Runs F G) k (.int .u64 (.ofNat y) 0) (.int .i64 (.ofNat a) 0) H n := by
  intro y a hy ha he
  delta Gu
  have h3 : Vb y <= 8 := AEd (s := 8) hy
  rw [AQa]
  refine AL (cvq (q := .u8) hy) (AL (AJv hy) (AL (ADq (by omega)) (AL (La (by omega)) ?_)))
  rw [he]; exact hk
 have j2 : ∀ {y a : Nat}, y < 65536 -> a <= 80 -> a + Vb y = Vb x -> HY lfp G (Runs F G) k (.int .u64 (.ofNat y) 0) (.int .i64 (.ofNat a) 0) H n := by
  intro y a hy ha he
  delta HY
  rw [ZW, Au]
  cases hd : decide (256 <= y) with
  | true =>
   have hd := of_decide_eq_true hd
   rw [Bv]
   refine AL (AJ3 (q := .u64) (by decide)) (AL (La (by omega)) ?_)
   have hdv : y / 2 ^ 8 < 256 := by rw [Nat.div_lt_iff_lt_mul (by decide)]; exact hy
   exact j3 hdv (by omega) (by rw [zB (s := 8) hd] at he; omega)
  | false => rw [Bl]; exact j3 (by have := of_decide_eq_false hd; omega) (by omega) he
 have j1 : ∀ {y a : Nat}, y < 4294967296 -> a <= 50 -> a + Vb y = Vb x -> Gx lfp G (Runs F G) k (.int .u64 (.ofNat y) 0) (.int .i64 (.ofNat a) 0) H n := by
  intro y a hy ha he
  delta Gx
  rw [ZW, Au]
  cases hd : decide (65536 <= y) with
  | true =>
   have hd := of_decide_eq_true hd
   rw [Bv]
   refine AL (AJ3 (q := .u64) (by decide)) (AL (La (by omega)) ?_)
   have hdv : y / 2 ^ 16 < 65536 := by rw [Nat.div_lt_iff_lt_mul (by decide)]; exact hy
   exact j2 hdv (by omega) (by rw [zB (s := 16) hd] at he; omega)
  | false => rw [Bl]; exact j2 (by have := of_decide_eq_false hd; omega) (by omega) he
 rw [ZW, Au]
 cases hd : decide (4294967296 <= x) with
 | true =>
  have hd := of_decide_eq_true hd
  rw [Bv]
  refine AL (AJ3 (q := .u64) (by decide)) ?_
  have hdv : x / 2 ^ 32 < 4294967296 := by rw [Nat.div_lt_iff_lt_mul (by decide)]; omega
  exact j1 hdv (by omega) (by rw [zB (s := 32) hd])
 | false => rw [Bl]; exact j1 (by have := of_decide_eq_false hd; omega) (by omega) (by omega)
end
end Go.PQ
namespace Go.PQ
open Go.Eng
set_option maxRecDepth 100000
def nM (G : AP) : Prop := ∀ i, i < 20 -> G 1 i 1 = some [.int .u64 (.ofNat (10 ^ i)) 0]
theorem ASx {b i m : Nat} {q : IntKind} (h : i < m) : Qr m 1 (.gptr b 0) (.int q (.ofNat i) 0) = some (.gptr b i) := by
 show Aq (Nat.blt i m) (AX (Nat.mul i 1) (.gptr b 0)) = _
 rw [show Nat.blt i m = true by rw [Nat.blt_eq]; exact h, show Nat.mul i 1 = i from Nat.mul_one i]
 show AX i (.gptr b 0) = _
 rw [AAO, Nat.zero_add]
theorem AOd {G : AP} {H : Heap} {b i : Nat} {v : V} (h : G b i 1 = some [v]) : AZ (.gptr b i) G H = some v := Zw h
theorem APg : ∀ L, 1 <= L -> L < 64 -> L * 78913 / 2 ^ 18 < 20 /\ 2 ^ L <= 10 ^ (L * 78913 / 2 ^ 18 + 1) /\ (L * 78913 / 2 ^ 18 = 0 ∨ 10 ^ (L * 78913 / 2 ^ 18 - 1) <= 2 ^ (L - 1)) := by
 have h : ((List.range 64).all fun L => decide (L = 0) || (decide (L * 78913 / 2 ^ 18 < 20) && (decide (2 ^ L <= 10 ^ (L * 78913 / 2 ^ 18 + 1)) && (decide (L * 78913 / 2 ^ 18 = 0) || decide (10 ^ (L * 78913 / 2 ^ 18 - 1) <= 2 ^ (L - 1)))))) = true := by decide
 intro L h1 h2
 have := List.all_eq_true.1 h L (List.mem_range.2 h2)
 simp only [Bool.or_eq_true, Bool.and_eq_true, decide_eq_true_eq] at this
 rcases this with h | h
 ·omega
 ·exact ⟨h.1, h.2.1, h.2.2⟩
section
variable {G : AP} {H : Heap} {n : Nat} {k : KV}
theorem AIc {L : Nat} (h : L <= 63) (hk : k (.int .i64 (.ofNat (L * 78913 / 2 ^ 18)) 0) H n) : Runs F G MZ [.int .i64 (.ofNat L) 0] H n k := by
 refine BZ (s := Eu (Dv lfp G)) Gy (by obtain ⟨h, o⟩ := Lh BX G; rw [Gy] at h; cases h; exact o) ?_
 show Dv lfp G (Runs F G) (.int .i64 (.ofNat L) 0) H n k
 delta Dv
 exact AL (ADi (by omega)) (AL (AJ3 (q := .i64) (by decide)) hk)
theorem AJ9 {b : Bool} (hk : k (.int .i64 (.ofNat (if b then 1 else 0)) 0) H n) : Runs F G MN [.bool b] H n k := by
 refine BZ (s := Eu (Dl lfp G)) G9 (by obtain ⟨h, o⟩ := Le BX G; rw [G9] at h; cases h; exact o) ?_
 show Dl lfp G (Runs F G) (.bool b) H n k
 delta Dl
 cases b
 ·rw [Bl]; exact hk
 ·rw [Bv]; exact hk
theorem ABN {x : Nat} (hG : nM G) (h1 : 1 <= x) (h : x < 9223372036854775808) (hk : k (.int .i64 (.ofNat (nS 20 x)) 0) H n) : Runs F G MK [.int .u64 (.ofNat x) 0] H n k := by
 refine BZ (s := Eu (Dw lfp G)) Gq (by obtain ⟨h, o⟩ := Lj BX G; rw [Gq] at h; cases h; exact o) ?_
 show Dw lfp G (Runs F G) (.int .u64 (.ofNat x) 0) H n k
 delta Dw
 refine AJr h ?_
 have hL : Vb x = x.log2 + 1 := by unfold Vb; rw [if_neg (by omega)]
 have hb1 : 1 <= Vb x := by omega
 have hb2 : Vb x <= 63 := AEd (s := 63) h
 have hlo : 2 ^ (Vb x - 1) <= x := by rw [hL]; exact Nat.log2_self_le (by omega)
 have hhi : x < 2 ^ Vb x := by rw [hL]; exact Nat.lt_log2_self
 generalize Vb x = L at hb1 hb2 hlo hhi
 clear hL
 obtain ⟨t1, t2, t3⟩ := APg L hb1 (by omega)
 refine AIc hb2 ?_
 generalize L * 78913 / 2 ^ 18 = t at t1 t2 t3
 refine AL (ASx t1) (AL (AOd (hG t t1)) ?_)
 rw [ZW, Au]
 refine AJ9 ?_
 have hd : ∀ d, 1 <= d -> x < 10 ^ d -> (d = 1 ∨ 10 ^ (d - 1) <= x) -> d = nS 20 x := fun d h1 h2 h3 => (dY 20 x d (by omega) h1).2 ⟨h2, h3⟩
 cases hc : decide (10 ^ t <= x) with
 | true =>
  have hc := of_decide_eq_true hc
  refine AL (La (by show t + 1 < _; omega)) ?_
  show k (.int .i64 (.ofNat (t + 1)) 0) H n
  rw [hd (t + 1) (by omega) (by omega) (.inr hc)]
  exact hk
 | false =>
  have hc := of_decide_eq_false hc
  refine AL (La (by show t + 0 < _; omega)) ?_
  have ht : t ≠ 0 := fun e => by subst e; simp at hc; omega
  have t3 : 10 ^ (t - 1) <= 2 ^ (L - 1) := by rcases t3 with h | h; exact absurd h ht; exact h
  show k (.int .i64 (.ofNat t) 0) H n
  rw [hd t (by omega) (by omega) (.inr (by omega))]
  exact hk
end
end Go.PQ
namespace Go.PQ
open Go.Eng
set_option maxRecDepth 100000
def Buf (H : Heap) (id len x i : Nat) : Prop := ∃ t, T.get H id = some (.arr 1 24 t) /\ (∀ p, p < 24 -> ∃ L, T.get t p = some L) /\ ∀ p, i <= p -> p < len -> T.get t (1 + p) = some [.int .u8 (.ofNat (48 + x / 10 ^ (len - 1 - p) % 10)) 0]
section
variable {G : AP} {H : Heap} {n id len x : Nat} {k : KV}
theorem AAF {i j d : Nat} {P : KV} (hj : j = i + 1) (hi : i < len) (hl : len <= 23) (hb : Buf H id len x j) (hd : d = x / 10 ^ (len - j) % 10) (h : ∀ H', Buf H' id len x i -> (∀ a, a ≠ id -> T.get H' a = T.get H a) -> P .undef H' n) :
    AU (BJ 1 (.sl id 1 len 23 1) (.int .i64 (.ofNat i) 0)) fun v => Bj 1 v (.int .u8 (.ofNat (48 + d)) 0) H n P := by
  subst hj
  obtain ⟨t, h1, h2, h3⟩ := hb
  refine AL (AOs hi) ?_
  obtain ⟨L, hL⟩ := h2 (1 + i) (by omega)
  refine APZ h1 (by omega) (by omega) hL rfl rfl fun H' g s => ?_
  refine h H' ⟨_, g, fun p hp => ?_, fun p hp hp2 => ?_⟩ s
  · by_cases e : 1 + i = p
    · subst e; exact ⟨_, T.Ap ..⟩
    · rw [T.Am _ _ e]; exact h2 p hp
  · by_cases e : i = p
    · subst e
      rw [T.Ap, hd, show len - (i + 1) = len - 1 - i by omega]; rfl
    · rw [T.Am _ _ (by omega)]; exact h3 p (by omega) hp2
theorem Vh {i j o kk : Nat} {P : KV} (ho : j + 2 = i - o) (hoi : o + 2 <= i) (hi : i <= len) (hl : len <= 23) (hk : kk < 100) (hb : Buf H id len x (j + 2)) (h1 : kk % 10 = x / 10 ^ (len - (j + 2)) % 10) (h2 : kk / 10 = x / 10 ^ (len - (j + 1)) % 10)
    (h : ∀ H', Buf H' id len x j -> (∀ a, a ≠ id -> T.get H' a = T.get H a) -> P .undef H' n) :
    AU (B2.ev .sub (.int .i64 (.ofNat i) 0) (.int .i64 (.ofNat (o + 1)) 0)) fun p1 => AU (B2.ev .sub (.int .i64 (.ofNat i) 0) (.int .i64 (.ofNat (o + 2)) 0)) fun p2 => AU (B2.ev .add (.int .u32 (.ofNat (kk * 2)) 0) (.int .u32 (.ofNat 1) 0)) fun v68 =>
    AU (He (sB smB) v68) fun c1 => AU (He (sB smB) (.int .u32 (.ofNat (kk * 2)) 0)) fun c2 => AU (BJ 1 (.sl id 1 len 23 1) p1) fun q1 => Bj 1 q1 c1 H n fun _ H n => AU (BJ 1 (.sl id 1 len 23 1) p2) fun q2 => Bj 1 q2 c2 H n P := by
  refine AL (x9 (by omega) (by omega)) (AL (x9 (by omega) (by omega)) (AL (AOl (q := .u32) (by show kk * 2 + 1 < 4294967296; omega)) (AL (sm_lo hk) (AL (sm_hi hk) ?_))))
  rw [show i - (o + 1) = j + 1 by omega, show i - (o + 2) = j by omega]
  refine AAF (j := j + 2) rfl (by omega) hl hb h1 fun H1 b1 s1 => ?_
  exact AAF (j := j + 1) rfl (by omega) hl b1 h2 fun H2 b2 s2 => h H2 b2 fun a ha => (s2 a ha).trans (s1 a ha)
theorem AFL (e : Nat) : 0 < 10 ^ e := Nat.pow_pos (by decide)
theorem div_pow (x e c : Nat) : x / 10 ^ (e + c) = x / 10 ^ e / 10 ^ c := by rw [Nat.pow_add, Nat.div_div_eq_div_mul]
structure Left (len x i u : Nat) : Prop where
 hi : i <= len
 eq : u = x / 10 ^ (len - i)
 lt : u < 10 ^ i
theorem Left.dig {len x i u : Nat} (h : Left len x i u) (c : Nat) (hc : c <= i) : x / 10 ^ (len - (i - c)) % 10 = u / 10 ^ c % 10 := by
 rw [show len - (i - c) = len - i + c by have := h.hi; omega, div_pow, <- h.eq]
theorem Left.next {len x i u : Nat} (h : Left len x i u) (c : Nat) (hc : c <= i) : Left len x (i - c) (u / 10 ^ c) := by
 refine ⟨by have := h.hi; omega, by rw [show len - (i - c) = len - i + c by have := h.hi; omega, div_pow, <- h.eq], ?_⟩
 rw [Nat.div_lt_iff_lt_mul (AFL c), <- Nat.pow_add, show i - c + c = i by omega]; exact h.lt
theorem AON {i u : Nat} (hl : len <= 23) (hw : Left len x i u) (h1 : i <= 1) (hb : Buf H id len x i) (hk : ∀ H', Buf H' id len x 0 -> (∀ a, a ≠ id -> T.get H' a = T.get H a) -> k (.Gh []) H' n) :
    Ci lfp G (Runs F G) k (.sl id 1 len 23 1) (.int .i64 (.ofNat i) 0) (.int .u32 (.ofNat u) 0) H n := by
  delta Ci
  rw [fZ, Au]
  cases hd : decide (0 < i) with
  | false =>
    obtain rfl : i = 0 := by have := of_decide_eq_false hd; omega
    rw [Bl]
    exact hk H hb fun _ _ => rfl
  | true =>
    obtain rfl : i = 1 := by have := of_decide_eq_true hd; omega
    rw [Bv]
    have hu : u < 10 := by have := hw.lt; omega
    refine AL (AOl (q := .u32) (by show 48 + u < 4294967296; omega)) (AL (cvq (q := .u8) (by show 48 + u < 256; omega)) ?_)
    have := hw.hi
    refine AAF (j := 1) rfl (by omega) hl hb ?_ hk
    rw [<- hw.eq, Nat.mod_eq_of_lt hu]
theorem AQE {i u : Nat} (hl : len <= 23) (hw : Left len x i u) (h1 : i <= 3) (hb : Buf H id len x i) (hk : ∀ H', Buf H' id len x 0 -> (∀ a, a ≠ id -> T.get H' a = T.get H a) -> k (.Gh []) H' n) :
    Ce lfp G (Runs F G) k (.sl id 1 len 23 1) (.int .i64 (.ofNat i) 0) (.int .u32 (.ofNat u) 0) H n := by
  delta Ce
  rw [ZW, Au]
  cases hd : decide (2 <= i) with
  | false => rw [Bl]; exact AON hl hw (by have := of_decide_eq_false hd; omega) hb hk
  | true =>
    have hd := of_decide_eq_true hd
    have hu : u < 1000 := Nat.lt_of_lt_of_le hw.lt (Nat.pow_le_pow_right (by decide) h1)
    obtain ⟨j, rfl⟩ : ∃ j, i = j + 2 := ⟨i - 2, by omega⟩
    rw [Bv, smN]
    have hj := hw.hi
    refine AL (ADC (q := .u32) u (by decide)) (AL (ACc (q := .u32) (by show u % 100 * 2 < 4294967296; omega)) (AL (ACa (q := .u32) (by show u < 4294967296; omega) (by decide)) ?_))
    refine Vh (o := 0) (by omega) (by omega) hj hl (Nat.mod_lt _ (by decide)) hb ?_ ?_ fun H1 b1 s1 => ?_
    · have := hw.dig 0 (by omega); simp at this; rw [this]; omega
    · have := hw.dig 1 (by omega); simp at this; rw [this]; omega
    · refine AL (x9 (by omega) (by omega)) ?_
      exact AON hl (by have := hw.next 2 (by omega); simpa using this) (by omega) b1 fun H2 b2 s2 => hk H2 b2 fun a ha => (s2 a ha).trans (s1 a ha)
theorem AR1 {i u : Nat} (hl : len <= 23) (hw : Left len x i u) (h1 : i <= 7) (hb : Buf H id len x i) (hk : ∀ H', Buf H' id len x 0 -> (∀ a, a ≠ id -> T.get H' a = T.get H a) -> k (.Gh []) H' n) :
    Dh lfp G (Runs F G) k (.sl id 1 len 23 1) (.int .u64 (.ofNat u) 0) (.int .i64 (.ofNat i) 0) H n := by
  delta Dh
  have hu : u < 10000000 := Nat.lt_of_lt_of_le hw.lt (Nat.pow_le_pow_right (by decide) h1)
  refine AL (cvq (q := .u32) (by show u < 4294967296; omega)) ?_
  rw [ZW, Au]
  cases hd : decide (4 <= i) with
  | false => rw [Bl]; exact AQE hl hw (by have := of_decide_eq_false hd; omega) hb hk
  | true =>
    have hd := of_decide_eq_true hd
    obtain ⟨j, rfl⟩ : ∃ j, i = j + 4 := ⟨i - 4, by omega⟩
    rw [Bv, smN]
    have hj := hw.hi
    refine AL (ADC (q := .u32) u (by decide)) (AL (ACa (q := .u32) (by show u < 4294967296; omega) (by decide)) (AL (ACa (q := .u32) (by show u % 10000 < 4294967296; omega) (by decide)) (AL (ACc (q := .u32) (by show u % 10000 / 100 * 2 < 4294967296; omega)) (AL (ADC (q := .u32) _ (by decide)) (AL (ACc (q := .u32) (by show u % 10000 % 100 * 2 < 4294967296; omega)) ?_)))))
    have d0 := hw.dig 0 (by omega); have d1 := hw.dig 1 (by omega); have d2 := hw.dig 2 (by omega); have d3 := hw.dig 3 (by omega)
    simp at d0 d1 d2 d3
    refine Vh (o := 0) (j := j + 2) (by omega) (by omega) hj hl (Nat.mod_lt _ (by decide)) hb (by rw [d0]; omega) (by rw [d1]; omega) fun H1 b1 s1 => ?_
    refine Vh (o := 2) (by omega) (by omega) hj hl (show u % 10000 / 100 < 100 by omega) b1 (by rw [d2]; omega) (by rw [d3]; omega) fun H2 b2 s2 => ?_
    refine AL (x9 (by omega) (by omega)) ?_
    exact AQE hl (by have := hw.next 4 (by omega); simpa using this) (by omega) b2 fun H3 b3 s3 => hk H3 b3 fun a ha => (s3 a ha).trans ((s2 a ha).trans (s1 a ha))
theorem AG9 (hl : len <= 23) (hx : x < 10 ^ len) (hx2 : x < 9223372036854775808) (hb : Buf H id len x len) (hk : ∀ H', Buf H' id len x 0 -> (∀ a, a ≠ id -> T.get H' a = T.get H a) -> k (.Gh []) H' n) :
    Runs F G KQ [.sl id 1 len 23 1, .int .u64 (.ofNat x) 0] H n k := by
  refine BZ (s := Qd (DX lfp G)) FV (by obtain ⟨h, o⟩ := Jc BX G; rw [FV] at h; cases h; exact o) ?_
  show DX lfp G (Runs F G) (.sl id 1 len 23 1) (.int .u64 (.ofNat x) 0) H n k
  delta DX
  rw [show lenV (.sl id 1 len 23 1) = some (.int .i64 (.ofNat len) 0) from rfl, Au]
  refine LG (J := fun m q => ∃ H' i u, m = i /\ q = (.sl id 1 len 23 1, .int .u64 (.ofNat u) 0, .int .i64 (.ofNat i) 0, H', n) /\ Left len x i u /\ u < 9223372036854775808 /\ Buf H' id len x i /\ ∀ a, a ≠ id -> T.get H' a = T.get H a) ?_ (m := len)
    ⟨H, len, x, rfl, rfl, ⟨Nat.le_refl _, by rw [Nat.sub_self]; simp, hx⟩, hx2, hb, fun _ _ => rfl⟩
  rintro I m q ⟨H1, i, u, rfl, rfl, hw, hu, hb, hs⟩ ih
  show En lfp G (Runs F G) k I (.sl id 1 len 23 1) (.int .u64 (.ofNat u) 0) (.int .i64 (.ofNat m) 0) H1 n
  delta En
  rw [ZW, Au]
  cases hd : decide (8 <= m) with
  | false => rw [Bl]; exact AR1 hl hw (by have := of_decide_eq_false hd; omega) hb fun H2 b2 s2 => hk H2 b2 fun a ha => (s2 a ha).trans (hs a ha)
  | true =>
    have hd := of_decide_eq_true hd
    obtain ⟨j, rfl⟩ : ∃ j, m = j + 8 := ⟨m - 8, by omega⟩
    rw [Bv, smN]
    have hj := hw.hi
    refine AL (ADC (q := .u64) u (by decide)) (AL (cvq (q := .u32) (by show u % 100000000 < 4294967296; omega)) (AL (ACa (q := .u64) (by show u < 18446744073709551616; omega) (by decide)) ?_))
    generalize hv : u % 100000000 = v
    have hv8 : v < 100000000 := by omega
    refine AL (ACa (q := .u32) (by show v < 4294967296; omega) (by decide)) (AL (ADC (q := .u32) v (by decide)) (AL (ACa (q := .u32) (by show v % 10000 < 4294967296; omega) (by decide)) (AL (ACc (q := .u32) (by show v % 10000 / 100 * 2 < 4294967296; omega)) (AL (ADC (q := .u32) _ (by decide)) (AL (ACc (q := .u32) (by show v % 10000 % 100 * 2 < 4294967296; omega))
      (AL (ACa (q := .u32) (by show v / 10000 < 4294967296; omega) (by decide)) (AL (ACc (q := .u32) (by show v / 10000 / 100 * 2 < 4294967296; omega)) (AL (ADC (q := .u32) _ (by decide)) (AL (ACc (q := .u32) (by show v / 10000 % 100 * 2 < 4294967296; omega)) ?_)))))))))
    have d0 := hw.dig 0 (by omega); have d1 := hw.dig 1 (by omega); have d2 := hw.dig 2 (by omega); have d3 := hw.dig 3 (by omega)
    have d4 := hw.dig 4 (by omega); have d5 := hw.dig 5 (by omega); have d6 := hw.dig 6 (by omega); have d7 := hw.dig 7 (by omega)
    simp at d0 d1 d2 d3 d4 d5 d6 d7
    refine Vh (o := 0) (j := j + 6) (by omega) (by omega) hj hl (Nat.mod_lt _ (by decide)) hb (by rw [d0]; omega) (by rw [d1]; omega) fun H2 b2 s2 => ?_
    refine Vh (o := 2) (j := j + 4) (by omega) (by omega) hj hl (show v % 10000 / 100 < 100 by omega) b2 (by rw [d2]; omega) (by rw [d3]; omega) fun H3 b3 s3 => ?_
    refine Vh (o := 4) (j := j + 2) (by omega) (by omega) hj hl (Nat.mod_lt _ (by decide)) b3 (by rw [d4]; omega) (by rw [d5]; omega) fun H4 b4 s4 => ?_
    refine Vh (o := 6) (by omega) (by omega) hj hl (show v / 10000 / 100 < 100 by omega) b4 (by rw [d6]; omega) (by rw [d7]; omega) fun H5 b5 s5 => ?_
    refine AL (x9 (by omega) (by omega)) ?_
    refine ih j _ (by omega) ⟨H5, j, u / 100000000, rfl, by rw [show j + 8 - 8 = j by omega], by have := hw.next 8 (by omega); simpa using this, by omega, b5, fun a ha => (s5 a ha).trans ((s4 a ha).trans ((s3 a ha).trans ((s2 a ha).trans (hs a ha))))⟩
end
end Go.PQ
namespace Go.PQ
open Go.Eng
set_option maxRecDepth 100000
theorem AQh {G : AP} {H : Heap} {id o m c z : Nat} {LS : D5} (h : Cb H id z m o = some LS) : El G H (.sl id o m c z) z LS := by
 refine ⟨rfl, ?_⟩
 show (Bool.rec (motive := fun _ => Option D5) none (Cb H id z m o) (Nat.beq z z) : Option D5) = some LS
 rw [EG]; exact h
theorem AM7 {G : AP} {H : Heap} {id len x : Nat} (hb : Buf H id len x 0) (hl : len <= 23) : El G H (.sl id 1 len 23 1) 1 (OU (fE len x)) := by
 obtain ⟨t, h1, h2, h3⟩ := hb
 refine AQh (dN _ _ _ (by rw [show (OU (fE len x)).length = (fE len x).length from List.length_map .., UQ]) fun i c hc => ?_)
 have hi : i < len := by have := (List.getElem?_eq_some_iff.1 hc).1; rw [show (OU (fE len x)).length = (fE len x).length from List.length_map .., UQ] at this; exact this
 rw [qY h1 (by omega) (by omega), h3 i (by omega) hi]
 have hd := AEA len x i hi
 rw [OU, List.getElem?_map, hd] at hc
 cases hc
 show _ = some [V.int .u8 (.ofNat (UInt8.ofNat (48 + x / 10 ^ (len - 1 - i) % 10)).toNat) 0]
 rw [d8 (Nat.mod_lt _ (by decide))]
section
variable {G : AP} {H : Heap} {n : Nat} {k : KV}
theorem AEu {L : LV} {es : D5} {P : KV} (he : es.length = 24) (hl : ∀ v ∈ es, v.length = 1) (h : ∀ H', Kp H n H' (n + 1) -> Buf H' n 0 0 0 -> P (.ptr n 0) H' (n + 1)) : CY (Ai 1 es E0) H n P := by
 show DN (len es) (fun m => DN n fun n => P (.ptr n 0) (T.set H n (.arr 1 m (ER es 0 .e))) (Nat.succ n))
 rw [BP, BP, len_eq, he]
 refine h _ ((Kp.refl H n).new _ (Nat.le_refl _) (by omega)) ⟨_, T.Ap .., fun p hp => ?_, fun p _ hp => by omega⟩
 rw [ED, if_pos ⟨Nat.zero_le _, by omega⟩]
 exact ⟨_, List.getElem?_eq_getElem (by omega)⟩
theorem AOg {x : Nat} (hG : nM G) (h : x < 9223372036854775808) (hk : ∀ H' n', Kp H n H' n' -> k (sB (PN x)) H' n') : Runs F G MR [.int .i64 (.ofNat x) 0, .int .i64 (.ofNat 10) 0] H n k := by
 refine BZ (s := Qd (Dn lfp G)) G6 (by obtain ⟨h, o⟩ := Ld BX G; rw [G6] at h; cases h; exact o) ?_
 show Dn lfp G (Runs F G) (.int .i64 (.ofNat x) 0) (.int .i64 (.ofNat 10) 0) H n k
 delta Dn
 rw [Q8, Au, decide_eq_true rfl, Bv, oM, Au, decide_eq_true (Nat.zero_le x)]
 simp only [go_sem, Pz]
 cases hd : decide (x < 100) with
 | true => rw [Bv]; exact AJF (of_decide_eq_true hd) (hk _ _ (Kp.refl ..))
 | false =>
  have hd := of_decide_eq_false hd
  rw [Bl]
  refine AEu (L := []) rfl (by simp) fun H1 f1 b1 => ?_
  refine AL (cvq (q := .u64) (by show x < 18446744073709551616; omega)) ?_
  rw [decide_eq_false (by omega), Bl]
  delta EH
  refine ABN hG (by omega) h ?_
  have hn := (dY 20 x (nS 20 x) (by omega) (Y5 ..)).1 rfl
  have h19 : nS 20 x <= 19 := by
   have h3 := (dY 20 x (nS 20 x) (by omega) (Y5 ..)).1 rfl
   rcases h3.2 with h4 | h4
   ·omega
   ·by_cases h5 : nS 20 x <= 19
    ·exact h5
    ·exfalso
     have : 10 ^ 19 <= 10 ^ (nS 20 x - 1) := Nat.pow_le_pow_right (by decide) (by omega)
     omega
  have hdec : PN x = fE (nS 20 x) x := rfl
  have hp1 := Y5 20 x
  generalize nS 20 x = len at hn h19 hdec hp1
  have hb : Buf H1 n len x len := by
   obtain ⟨t, a1, a2, _⟩ := b1
   exact ⟨t, a1, a2, fun p h1 h2 => by omega⟩
  refine AL (La (by omega)) (AL (AET (by omega) (by omega)) ?_)
  rw [show 1 + len - 1 = len by omega]
  refine AG9 (by omega) hn.1 h hb fun H2 b2 s2 => ?_
  rw [Pz, Au, decide_eq_false (by omega), Bl]
  refine AL (La (by omega)) (AL (AET (by omega) (by omega)) ?_)
  rw [show 1 + len - 1 = len by omega]
  refine AL (AM9 (AM7 b2 (by omega))) ?_
  rw [<- hdec]
  exact hk _ _ ⟨by omega, fun id hid => (s2 id (by omega)).trans (f1.same id hid)⟩
theorem bW {x : Nat} (hG : nM G) (h : x < 9223372036854775808) (hk : ∀ H' n', Kp H n H' n' -> k (sB (PN x)) H' n') : Runs F G Ko [.int .i64 (.ofNat x) 0, .int .i64 (.ofNat 10) 0] H n k := by
 refine BZ (s := Qd (IK lfp G)) OT (by obtain ⟨h, o⟩ := TV BX G; rw [OT] at h; cases h; exact o) ?_
 show IK lfp G (Runs F G) (.int .i64 (.ofNat x) 0) (.int .i64 (.ofNat 10) 0) H n k
 delta IK
 exact AOg hG h hk
end
theorem AB9 : ∀ (l : Bs) (a : Nat) (c : UInt8), X4 a (l ++ [c]) = (X4 a l).bind fun m => X4 m [c]
 | [], a, c => rfl
 | d :: l, a, c => by
  show (bif decide (288230376151711744 < a * 10 + (d.toNat - 48)) then none else X4 (a * 10 + (d.toNat - 48)) (l ++ [c])) = (bif decide (288230376151711744 < a * 10 + (d.toNat - 48)) then none else X4 (a * 10 + (d.toNat - 48)) l).bind _
  cases decide (288230376151711744 < a * 10 + (d.toNat - 48)) with
  | true => rfl
  | false => exact AB9 l _ c
theorem xU : ∀ (l x : Nat), x < 10 ^ l -> x <= 288230376151711744 -> X4 0 (fE l x) = some x
  | 0, x, h, _ => by have : x = 0 := by simpa using h
                     subst this; rfl
  | l + 1, x, h, h2 => by
    have hdiv : x / 10 < 10 ^ l := by rw [Nat.div_lt_iff_lt_mul (by decide), <- Nat.pow_succ]; exact h
    unfold fE
    rw [AB9, xU l (x / 10) hdiv (by omega)]
    show (bif decide (288230376151711744 < x / 10 * 10 + ((UInt8.ofNat (48 + x % 10)).toNat - 48)) then none else some (x / 10 * 10 + ((UInt8.ofNat (48 + x % 10)).toNat - 48))) = _
    rw [d8 (Nat.mod_lt _ (by decide)), show x / 10 * 10 + (48 + x % 10 - 48) = x by omega, decide_eq_false (by omega)]; rfl
theorem AHu {x : Nat} (h : x <= 288230376151711744) : X4 0 (PN x) = some x := xU _ _ ((dY 20 x (nS 20 x) (by omega) (Y5 ..)).1 rfl).1 h
theorem sQ : ∀ (l x : Nat), ∀ c ∈ fE l x, digit c = true
 | 0, _, c, h => by cases h
 | l + 1, x, c, h => by
  unfold fE at h
  rcases List.mem_append.1 h with h | h
  ·exact sQ l _ c h
  ·rw [List.mem_singleton.1 h]; unfold digit; rw [d8 (Nat.mod_lt _ (by decide))]; simp; omega
theorem VR {x : Nat} (h : x < 1000) : (PN x).length <= 3 := by
 unfold PN; rw [UQ]
 have h3 := (dY 20 x (nS 20 x) (by omega) (Y5 ..)).1 rfl
 rcases h3.2 with h4 | h4
 ·omega
 ·by_cases h5 : nS 20 x <= 3
  ·exact h5
  ·exfalso
   have : 10 ^ 3 <= 10 ^ (nS 20 x - 1) := Nat.pow_le_pow_right (by decide) (by omega)
   omega
theorem AMU (x : Nat) : PN x ≠ [] := fun h => by
 have := congrArg List.length h
 unfold PN at this; rw [UQ] at this
 have := Y5 20 x
 simp at *; omega
end Go.PQ
namespace Go.PQ
open Go.Eng
set_option maxRecDepth 100000
def E8 : List Bs := [qK, Wu, Xb, Ua, Y0, CG, WG, Qk, jv]
def gY : List Nat := [1, 2, 3, 3, 4, 4, 5, 5, 5]
def vk (x : Nat) : Ex := .mk 1 x [] [] false []
def nV (m : Bool) (x : Nat) : Ex := bif m then .mk 14 0 [] [] false [vk x] else vk x
def aH (op : Bs) (l r : Ex) : Ex := bif decide (op = qK) then .mk 18 0 [] [] false [l, r] else bif decide (op = Wu) then .mk 17 0 [] [] false [l, r] else .mk 16 0 op [] false [l, r]
def AQV (m : Bool) : List Tok := bif m then [M CG] else []
def AJh (a b : Bs) (m : Bool) (lx ly lz : Bs) (x y z : Nat) : List Tok := hdT [65] [109] ++ (W Cm :: (AQV m ++ [N lx x, M a, N ly y, M b, N lz z, M Bc, M m_rc, M m_rc, FM]))
def APR (o : Option (Cl × Nat)) : Option (Option Cl × Nat) := o.bind fun p => some (bif decide (p.2 = 0) then (some p.1, 0) else (none, p.2))
def clE (e : Ex) : Cl := ⟨[65], [], [], [⟨[109], false, [], ⟨I4, false⟩, [.mk 6 [] YB [e] [] []]⟩]⟩
def AIj (i k : Nat) (m : Bool) (x y z : Nat) : Option Cl × Nat :=
 bif decide (gY.getD i 0 = 3) && decide (gY.getD k 0 = 3) then (none, 21) else
 bif decide (gY.getD i 0 < gY.getD k 0) then (some (clE (aH (E8.getD i []) (nV m x) (aH (E8.getD k []) (vk y) (vk z)))), 0)
 else (some (clE (aH (E8.getD k []) (aH (E8.getD i []) (nV m x) (vk y)) (vk z))), 0)
def APF (j : Nat) (lx ly lz : Bs) (x y z : Nat) : Option (Option Cl × Nat) := APR (Ut 12 (AJh (E8.getD (j / 2 / 9) []) (E8.getD (j / 2 % 9) []) (decide (j % 2 = 1)) lx ly lz x y z))
def APo (j : Nat) (_ _ _ : Bs) (x y z : Nat) : Option (Option Cl × Nat) := some (AIj (j / 2 / 9) (j / 2 % 9) (decide (j % 2 = 1)) x y z)
theorem AJQ : (List.range 162).map APF = (List.range 162).map APo := by kernel_rfl
theorem yg {i k : Nat} (hi : i < 9) (hk : k < 9) (m : Bool) (lx ly lz : Bs) (x y z : Nat) :
    APR (Ut 12 (AJh (E8.getD i []) (E8.getD k []) m lx ly lz x y z)) = some (AIj i k m x y z) := by
  have h := List.map_inj_left.1 AJQ (2 * (i * 9 + k) + (if m then 1 else 0)) (List.mem_range.2 (by cases m <;> simp <;> omega))
  have e1 : (2 * (i * 9 + k) + (if m then 1 else 0)) / 2 / 9 = i := by cases m <;> simp <;> omega
  have e2 : (2 * (i * 9 + k) + (if m then 1 else 0)) / 2 % 9 = k := by cases m <;> simp <;> omega
  have e3 : decide ((2 * (i * 9 + k) + (if m then 1 else 0)) % 2 = 1) = m := by cases m <;> simp <;> omega
  have h2 := congrFun (congrFun (congrFun (congrFun (congrFun (congrFun h lx) ly) lz) x) y) z
  unfold APF APo at h2
  rw [e1, e2, e3] at h2
  exact h2
end Go.PQ
namespace Go.PQ
open Go.Eng
set_option maxRecDepth 100000
theorem Xj {e : Option V} {a : V} {P : Prop} (h : e = some a) (hv : Cj a a = true) (hp : P) : VQ (.bool true) true e a P := by
 subst h
 show Gn (Cj a a) P
 rw [hv]; exact hp
theorem Xo {e : Option V} {a : V} {P : V -> Prop} (h : e = some a) (hp : P a) : Bg (.bool true) true e P := by
 rw [AK3]; exact AL h hp
theorem wJ {t : KV -> Prop} {H : Heap} {n : Nat} {Q : KV} (hp : t Q) : KG (.bool true) true t H n Q := hp
theorem AMw (a b : Bs) : CK.eq .str (sB a) (sB b) = some (decide (a = b)) := by
 show some (band (Nat.beq a.length b.length) (Nat.beq (enc a) (enc b))) = _
 rw [show band (Nat.beq a.length b.length) (Nat.beq (enc a) (enc b)) = decide (a = b) by rw [BU, Bool.eq_iff_iff, decide_eq_true_iff, <- AHj]; simp]
theorem ANr (a b : Bool) : CK.eq .bool (.bool a) (.bool b) = some (decide (a = b)) := by cases a <;> cases b <;> rfl
theorem AM4 (a c : Bs) (b d : Bool) : Ib (.agg [.str, .bool]) false (.agg [sB a, .bool b]) (.agg [sB c, .bool d]) = some (.bool (decide (a = c) && decide (b = d))) := by
 have h : (EK.agg [.str, .bool]).eq (.agg [sB a, .bool b]) (.agg [sB c, .bool d]) = some (decide (a = c) && decide (b = d)) :=
  show vH [.str, .bool] [sB a, .bool b] [sB c, .bool d] = _ from Vg.2 ⟨_, _, AMw _ _, Vg.2 ⟨_, true, ANr _ _, rfl, rfl⟩, by simp⟩
 show ofB (XA ((EK.agg [.str, .bool]).eq (.agg [sB a, .bool b]) (.agg [sB c, .bool d])) fun b => some b) = _
 rw [h]; cases (decide (a = c) && decide (b = d)) <;> rfl
mutual
def jo : Ex -> Ex -> Bool
 | .mk k n nm ty ar ks, .mk k' n' nm' ty' ar' ks' => decide (k = k') && (decide (n = n') && (decide (nm = nm') && ((decide (ty = ty') && decide (ar = ar')) && W9 ks ks')))
def W9 : List Ex -> List Ex -> Bool
 | [], [] => true
 | a :: l, b :: m => jo a b && W9 l m
 | [], _ :: _ => false
 | _ :: _, [] => false
end
mutual
theorem iV : ∀ e : Ex, jo e e = true
 | .mk k n nm ty ar ks => by unfold jo; simp [sW ks]
theorem sW : ∀ l : List Ex, W9 l l = true
 | [] => by unfold W9; rfl
 | a :: l => by unfold W9; simp [iV a, sW l]
end
mutual
def nE : Ex -> Nat
 | .mk _ _ _ _ _ ks => 1 + nL ks
def nL : List Ex -> Nat
 | [] => 0
 | a :: l => nE a + nL l
end
theorem AG3 (e : Ex) : 1 <= nE e := by cases e; unfold nE; omega
theorem AGC : ∀ {l : List Ex} {e : Ex}, e ∈ l -> nE e <= nL l
 | a :: l, e, h => by
  unfold nL
  rcases List.mem_cons.1 h with rfl | h
  ·omega
  ·have := AGC h; omega
theorem AHP : ∀ l : List Ex, l.length <= nL l
 | [] => by simp
 | a :: l => by have := AHP l; have := AG3 a; unfold nL; simp; omega
theorem yN : ∀ l m : List Ex, l.length ≠ m.length -> W9 l m = false
 | [], [], h => absurd rfl h
 | [], _ :: _, _ => by unfold W9; rfl
 | _ :: _, [], _ => by unfold W9; rfl
 | a :: l, b :: m, h => by unfold W9; rw [yN l m (by simpa using h), Bool.and_false]
def AK4 (G : AP) (e1 : Ex) : Prop := ∀ (e2 : Ex) (H : Heap) (n : Nat) (c1 c2 : LV) (A B : Nat -> Prop) (k : KV), DW G H A c1 e1 -> DW G H B c2 e2 -> (∀ id, A id -> id < n) -> (∀ id, B id -> id < n) -> (∀ H' n', Kp H n H' n' -> k (.bool (jo e1 e2)) H' n') -> Runs F G Fv [.agg c1, .agg c2] H n k
theorem QF.at {G : AP} {H : Heap} {A : Nat -> Prop} : ∀ {cs : D5} {es : List Ex} {i : Nat} {e : Ex}, QF G H A cs es -> es[i]? = some e -> ∃ c, cs[i]? = some c /\ DW G H A c e
 | _, _, i, e, .nil, h => by simp at h
 | _, _, 0, e, .cons h t, hi => by simp at hi; subst hi; exact ⟨_, rfl, h⟩
 | _, _, i + 1, e, .cons h t, hi => by
  obtain ⟨c, h1, h2⟩ := t.at (show _ = some e from by simpa using hi)
  exact ⟨c, by simpa using h1, h2⟩
section
variable {G : AP} {H : Heap} {n : Nat} {k : KV}
theorem AIp {l m : List Ex} {v w : V} {cs ds : D5} {A B : Nat -> Prop} (hv : El G H v 11 cs) (hw : El G H w 11 ds) (hva : ∀ id, v.UY = some id -> id < n) (hwa : ∀ id, w.UY = some id -> id < n) (hc : QF G H A cs l) (hd : QF G H B ds m) (hA : ∀ id, A id -> id < n) (hB : ∀ id, B id -> id < n)
    (hs : ∀ e ∈ l, AK4 G e) (hlen : l.length < 4611686018427387904) (hk : ∀ H' n', Kp H n H' n' -> k (.bool (W9 l m)) H' n') : Runs F G Dq [v, w, .fn Fv [] []] H n k := by
  refine BZ (s := ar3 (BD lfp G)) CS (by obtain ⟨h, o⟩ := Dj BX G; rw [CS] at h; cases h; exact o) ?_
  show BD lfp G (Runs F G) v w (.fn Fv [] []) H n k
  delta BD
  refine AL hv.len (AL hw.len ?_)
  rw [eY, Au, hc.len, hd.len]
  cases hl : decide (l.length = m.length) with
  | false =>
    rw [yN l m (of_decide_eq_false hl)] at hk
    rw [Bool.not_false, Bv]
    exact hk _ _ (Kp.refl ..)
  | true =>
    have hl := of_decide_eq_true hl
    rw [Bool.not_true, Bl]
    refine AL hv.len ?_
    rw [hc.len]
    obtain ⟨R, hR⟩ : ∃ R, W9 l m = R := ⟨_, rfl⟩
    rw [hR] at hk
    refine SN (N := l.length) (J := fun j q => ∃ H' n', q = (w, .fn Fv [] [], v, .int .i64 (.ofNat l.length) 0, .int .i64 (.ofNat j) 0, H', n') /\ Kp H n H' n' /\ W9 (l.drop j) (m.drop j) = R) ?_ ?_ ⟨H, n, rfl, Kp.refl .., hR⟩
    · rintro I j q hlt ⟨H1, n1, rfl, f1, hR⟩ ih
      show Az lfp G (Runs F G) k I w (.fn Fv [] []) v (.int .i64 (.ofNat l.length) 0) (.int .i64 (.ofNat j) 0) H1 n1
      delta Az
      have hltm : j < m.length := by omega
      rw [List.drop_eq_getElem_cons hlt, List.drop_eq_getElem_cons hltm] at hR
      unfold W9 at hR
      have hv1 := hv.kp hva f1
      have hw1 := hw.kp hwa f1
      have hc1 : QF G H1 A cs l := hc.mono (fun _ h => h) fun id h => f1.same id (hA id h)
      have hd1 : QF G H1 B ds m := hd.mono (fun _ h => h) fun id h => f1.same id (hB id h)
      obtain ⟨c, hc2, hx⟩ := hc1.at (List.getElem?_eq_getElem hlt)
      obtain ⟨d, hd2, hy⟩ := hd1.at (List.getElem?_eq_getElem hltm)
      have hse := hs _ (List.getElem_mem hlt)
      generalize l[j] = e1 at hR hx hse
      generalize m[j] = e2 at hR hy
      have hn1 := f1.le
      obtain ⟨p, hp, hld⟩ := hv1.at hc2
      obtain ⟨p2, hp2, hld2⟩ := hw1.at hd2
      rw [Pz, Au, decide_eq_true hlt, Bv]
      refine AL hp (AL (ADB hld) ?_)
      refine A8 rfl fun H2 f2 g2 => ?_
      refine Bo g2 rfl hx.len (by omega) fun H3 g2 t3 => ?_
      have f3 : Kp H1 n1 H3 (n1 + 1) := ⟨f2.le, fun id hid => (t3 id (by omega)).trans (f2.same id hid)⟩
      obtain ⟨p3, hp3, hld3⟩ := (hw1.kp (fun id h => Nat.lt_of_lt_of_le (hwa id h) hn1) f3).at hd2
      refine AL hp3 (AL (ADB hld3) ?_)
      refine A8 rfl fun H4 f4 g4 => ?_
      have g2 := f4.get g2 (by omega)
      refine Bo g4 rfl hy.len (by omega) fun H5 g4 t5 => ?_
      have g2 := (t5 n1 (by omega)).trans g2
      have f5 : Kp H3 (n1 + 1) H5 (n1 + 1 + 1) := ⟨f4.le, fun id hid => (t5 id (by omega)).trans (f4.same id hid)⟩
      have f5 := f3.trans f5
      refine AL (Aj (m := 11) g2 (by omega) hx.len) (AL (Aj (m := 11) g4 (by omega) hy.len) ?_)
      have fin := f1.trans f5
      have hx : DW G H5 A c e1 := hx.mono (fun _ h => h) fun id h => f5.same id (by have := hA id h; omega)
      have hy : DW G H5 B d e2 := hy.mono (fun _ h => h) fun id h => f5.same id (by have := hB id h; omega)
      refine hse e2 H5 _ c d A B _ hx hy (fun id h => by have := hA id h; omega) (fun id h => by have := hB id h; omega) fun H6 n6 f6 => ?_
      rw [QW, Au]
      cases hb : jo e1 e2 with
      | false =>
        rw [hb, Bool.false_and] at hR
        rw [Bool.not_false, Bv, hR]
        exact hk _ _ (fin.trans f6)
      | true =>
        rw [hb, Bool.true_and] at hR
        rw [Bool.not_true, Bl]
        refine AL (La (by omega)) ?_
        exact ih _ ⟨_, _, rfl, fin.trans f6, hR⟩
    · rintro I q ⟨H1, n1, rfl, f1, hR⟩
      show Az lfp G (Runs F G) k I w (.fn Fv [] []) v (.int .i64 (.ofNat l.length) 0) (.int .i64 (.ofNat l.length) 0) H1 n1
      delta Az
      rw [Pz, Au, decide_eq_false (Nat.lt_irrefl _), Bl]
      delta CJ
      rw [List.drop_eq_nil_of_le (Nat.le_refl _), List.drop_eq_nil_of_le (by omega)] at hR
      unfold W9 at hR
      rw [hR]
      exact hk _ _ f1
theorem QF.size {A : Nat -> Prop} {cs : D5} {es : List Ex} (_ : QF G H A cs es) : es.length <= nL es := AHP es
theorem AHB : ∀ (N : Nat), N < 4611686018427387904 -> ∀ (e1 : Ex), nE e1 <= N -> AK4 G e1 := by
 intro N
 induction N with
 | zero => intro _ e1 h; have := AG3 e1; omega
 | succ N ih =>
  intro hbig e1 hN e2 H n c1 c2 A B k h1 h2 hA hB hk
  refine BZ (s := Qd (Mc lfp G)) SQ (by obtain ⟨h, o⟩ := Xt BX G; rw [SQ] at h; cases h; exact o) ?_
  show Mc lfp G (Runs F G) (.agg c1) (.agg c2) H n k
  delta Mc
  refine Z9 fun H1 f1 g1 => ?_
  refine Z9 fun H2 f2 g2 => ?_
  have g1 := f2.get g1 (by omega)
  have f2 := f1.trans f2
  have h1 : DW G H2 A c1 e1 := h1.mono (fun _ h => h) fun id h => f2.same id (hA id h)
  have h2 : DW G H2 B c2 e2 := h2.mono (fun _ h => h) fun id h => f2.same id (hB id h)
  cases h1 with
  | mk kd nu nm ty ar l1 k1 he1 hv1 ha1 hc1 =>
  cases h2 with
  | mk kd2 nu2 nm2 ty2 Qd l2 k2 he2 hv2 ha2 hc2 =>
  unfold jo at hk
  have q0 : AZ (.ptr n 0) G H2 = some _ := Ah g1 rfl
  have r0 : AZ (.ptr (n + 1) 0) G H2 = some _ := Ah g2 rfl
  have q3 : AZ (.ptr n 3) G H2 = some _ := Ah g1 rfl
  have r3 : AZ (.ptr (n + 1) 3) G H2 = some _ := Ah g2 rfl
  have q4 : AZ (.ptr n 4) G H2 = some _ := Ah g1 rfl
  have r4 : AZ (.ptr (n + 1) 4) G H2 = some _ := Ah g2 rfl
  have q7 : AZ (.ptr n 7) G H2 = some _ := Ah g1 rfl
  have r7 : AZ (.ptr (n + 1) 7) G H2 = some _ := Ah g2 rfl
  have q5 : BH 2 (.ptr n 5) G H2 = some (.agg [sB ty, .bool ar]) := KW g1 (by omega) (by show 5 + 2 <= 11; omega)
  have r5 : BH 2 (.ptr (n + 1) 5) G H2 = some (.agg [sB ty2, .bool Qd]) := KW g2 (by omega) (by show 5 + 2 <= 11; omega)
  simp only [go_sem, Nat.reduceAdd, q0, r0, Q8]
  have bad : jo (.mk kd nu nm ty ar _) (.mk kd2 nu2 nm2 ty2 Qd _) = false -> k (.bool false) H2 (n + 1 + 1) := fun h => by
   unfold jo at h; rw [h] at hk; exact hk _ _ f2
  unfold jo at bad
  cases d1 : decide (kd = kd2) with
  | false =>
   repeat (first | with_reducible refine sH ?_ | with_reducible refine AEj ?_ | with_reducible refine vV ?_)
   exact bad (by rw [d1]; rfl)
  | true =>
   rw [d1, Bool.true_and] at bad hk
   simp only [go_sem, Nat.reduceAdd, q3, r3, Q8]
   cases d2 : decide (nu = nu2) with
   | false =>
    repeat (first | with_reducible refine sH ?_ | with_reducible refine AEj ?_ | with_reducible refine vV ?_)
    exact bad (by rw [d2]; rfl)
   | true =>
    rw [d2, Bool.true_and] at bad hk
    simp only [go_sem, Nat.reduceAdd, q4, r4, yh]
    cases d3 : decide (nm = nm2) with
    | false =>
     repeat (first | with_reducible refine sH ?_ | with_reducible refine AEj ?_ | with_reducible refine vV ?_)
     exact bad (by rw [d3]; rfl)
    | true =>
     rw [d3, Bool.true_and] at bad hk
     simp only [go_sem, Nat.reduceAdd, q5, r5, AM4]
     cases d4 : (decide (ty = ty2) && decide (ar = Qd)) with
     | false =>
      repeat (first | with_reducible refine sH ?_ | with_reducible refine AEj ?_ | with_reducible refine vV ?_)
      exact bad (by rw [d4]; rfl)
     | true =>
      rw [d4, Bool.true_and] at hk
      simp only [go_sem, Nat.reduceAdd, q7, r7]
      refine AIp he1 he2 (fun id h => by have := hA id (ha1 id h); omega) (fun id h => by have := hB id (ha2 id h); omega) hc1 hc2 (fun id h => by have := hA id h; omega) (fun id h => by have := hB id h; omega) (fun e he => ih (by omega) e ?_) ?_ fun H3 n3 f3 => ?_
      ·have := AGC he; unfold nE at hN; omega
      ·have := hc1.size; unfold nE at hN; omega
      ·exact hk _ _ (f2.trans f3)
end
end Go.PQ
namespace Go.PQ
open Go.Eng
set_option maxRecDepth 100000
def uz (i k : Nat) (m : Bool) (x y z : Nat) : Bs := (bif m then [45] else []) ++ PN x ++ [32] ++ E8.getD i [] ++ [32] ++ PN y ++ [32] ++ E8.getD k [] ++ [32] ++ PN z
theorem ACP {x : Nat} (h : x < 1000) : Wf (N (PN x) x) := .num (AMU x) (sQ _ _) (AHu (by omega))
theorem AD6 : ∀ i, i < 9 -> E8.getD i [] ∈ EJ := by decide
theorem dh : ∀ i, i < 9 -> (E8.getD i []).length <= 2 := by decide
theorem AIU {i k x y z : Nat} (hi : i < 9) (hk : k < 9) (m : Bool) (hx : x < 1000) (hy : y < 1000) (hz : z < 1000) : IZ (wE (uz i k m x y z)) (AJh (E8.getD i []) (E8.getD k []) m (PN x) (PN y) (PN z) x y z) := by
 have tl : IZ (Bc ++ tlB) [M Bc, M m_rc, M m_rc, FM] := OQ (by decide) jP
 have body : IZ (PN x ++ ([32] ++ (E8.getD i [] ++ ([32] ++ (PN y ++ ([32] ++ (E8.getD k [] ++ ([32] ++ (PN z ++ (Bc ++ tlB)))))))))) [N (PN x) x, M (E8.getD i []), N (PN y) y, M (E8.getD k []), N (PN z) z, M Bc, M m_rc, M m_rc, FM] :=
  P8 (t := N (PN x) x) (ACP hx) (P8 (t := M (E8.getD i [])) (.mark (AD6 i hi)) (P8 (t := N (PN y) y) (ACP hy) (P8 (t := M (E8.getD k [])) (.mark (AD6 k hk)) (jK (t := N (PN z) z) (ACP hz) rfl tl))))
 have e : wE (uz i k m x y z) = hdB ++ (Cm ++ ([32] ++ ((bif m then [45] else []) ++ (PN x ++ ([32] ++ (E8.getD i [] ++ ([32] ++ (PN y ++ ([32] ++ (E8.getD k [] ++ ([32] ++ (PN z ++ (Bc ++ tlB))))))))))))) := by
  simp [wE, uz, AHk, AHO, hdB, tlB, Cm, Bc]
 rw [e]
 unfold AJh
 refine jZ (P8 (t := W Cm) (Nb (by decide)) ?_)
 cases m with
 | false => exact body
 | true => exact OQ (m := CG) (by decide) body
theorem AE0 {i k x y z : Nat} (hi : i < 9) (hk : k < 9) (m : Bool) (hx : x < 1000) (hy : y < 1000) (hz : z < 1000) : dK 12 (wE (uz i k m x y z)) = some (AIj i k m x y z) := by
 have hl : (wE (uz i k m x y z)).length <= 65536 := by
  have a1 := dh i hi; have a2 := dh k hk; have b1 := VR hx; have b2 := VR hy; have b3 := VR hz
  have b4 : (bif m then [45] else ([] : Bs)).length <= 1 := by cases m <;> decide
  simp only [wE, uz, List.length_append, List.length_cons, List.length_nil]
  show 34 + _ + 5 <= _
  omega
 unfold dK
 rw [AIs (AIU hi hk m hx hy hz) hl]
 exact yg hi hk m _ _ _ x y z
theorem AJN {i k x y z : Nat} (hi : i < 9) (hk : k < 9) (m : Bool) (hx : x < 1000) (hy : y < 1000) (hz : z < 1000) : (uz i k m x y z).length <= 30 := by
 have a1 := dh i hi; have a2 := dh k hk; have b1 := VR hx; have b2 := VR hy; have b3 := VR hz
 have b4 : (bif m then [45] else ([] : Bs)).length <= 1 := by cases m <;> decide
 simp only [uz, List.length_append, List.length_cons, List.length_nil]
 omega
theorem AMR (x : Nat) : BR pW [(0, 1, .c (.int .i64 (.ofNat 1) 0)), (3, 1, .c (.int .i64 (.ofNat x) 0))] = some (.agg (qc 1 x [] [] false 0 0 .Ae)) := rfl
theorem AMy {id o l c : Nat} (nm : Bs) : BR pW [(0, 1, .c (.int .i64 (.ofNat 16) 0)), (4, 1, .c (sB nm)), (7, 1, .c (.sl id o l c 11))] = some (.agg (qc 16 0 nm [] false 0 0 (.sl id o l c 11))) := rfl
theorem AHC {id o l c kd : Nat} : BR pW [(0, 1, .c (.int .i64 (.ofNat kd) 0)), (7, 1, .c (.sl id o l c 11))] = some (.agg (qc kd 0 [] [] false 0 0 (.sl id o l c 11))) := rfl
theorem nT {G : AP} {H : Heap} {A : Nat -> Prop} (x : Nat) : DW G H A (qc 1 x [] [] false 0 0 .Ae) (vk x) := .mk 1 x [] [] false 0 0 AAU rfl (fun _ h => by cases h) .nil
section
variable {G : AP} {H : Heap} {n : Nat} {k : KV}
theorem xq {x : Nat} (hk : ∀ H', Kp H n H' (n + 1) -> k (.agg (qc 1 x [] [] false 0 0 .Ae)) H' (n + 1)) : Runs F G Xd [.int .i64 (.ofNat x) 0] H n k := by
 refine BZ (s := Eu (Eo lfp G)) JW (by obtain ⟨h, o⟩ := Oi BX G; rw [JW] at h; cases h; exact o) ?_
 show Eo lfp G (Runs F G) (.int .i64 (.ofNat x) 0) H n k
 delta Eo
 refine A8 rfl fun H1 f1 g1 => ?_
 refine AL (AMR x) ?_
 refine Bo g1 rfl rfl (by omega) fun H2 g2 t2 => ?_
 rw [BL (m := 11) g2 (by omega) rfl]
 simp only [go_sem]
 exact hk _ ⟨f1.le, fun id hid => (t2 id (by omega)).trans (f1.same id hid)⟩
theorem AAj {op : Bs} {l r : LV} {a b : Ex} {A B : Nat -> Prop} (hl : DW G H A l a) (hr : DW G H B r b) (hA : ∀ id, A id -> id < n) (hB : ∀ id, B id -> id < n)
    (hk : ∀ H' n' c, Kp H n H' n' -> DW G H' (fun id => A id ∨ B id ∨ Rg n n' id) c (aH op a b) -> k (.agg c) H' n') : Runs F G XW [sB op, .agg l, .agg r] H n k := by
  refine BZ (s := ar3 (Ee lfp G)) JX (by obtain ⟨h, o⟩ := Oe BX G; rw [JX] at h; cases h; exact o) ?_
  show Ee lfp G (Runs F G) (sB op) (.agg l) (.agg r) H n k
  delta Ee
  refine Z9 fun H1 f1 g1 => ?_
  refine Z9 fun H2 f2 g2 => ?_
  have g1 := f2.get g1 (by omega)
  have f2 := f1.trans f2
  refine A8 rfl fun H3 f3 g3 => ?_
  have g1 := f3.get g1 (by omega)
  have g2 := f3.get g2 (by omega)
  have f3 := f2.trans f3
  refine AL (Aj (m := 11) g1 (by omega) hl.len) (AL (Aj (m := 11) g2 (by omega) hr.len) ?_)
  refine LZ (G := G) (vs := [.agg l, .agg r]) rfl (by omega) (fun v hv => by simp at hv; rcases hv with rfl | rfl; exact hl.ok; exact hr.ok) fun H4 f4 _ hel => ?_
  have g3 := f4.get g3 (by omega)
  have f4 := f3.trans f4
  refine AL (AMy op) ?_
  refine A8 rfl fun H5 f5 g5 => ?_
  have g3 := f5.get g3 (by omega)
  have hel := hel.kp (fun id h => by cases DV h; omega) f5
  have f5 := f4.trans f5
  refine Bo g5 rfl rfl (by omega) fun H6 g6 t6 => ?_
  have g3 := (t6 (n + 1 + 1) (by omega)).trans g3
  have hel : El G H6 (.sl (n + 1 + 1 + 1) 0 2 2 11) 11 [l, r] := hel.same fun id h => by cases DV h; exact t6 _ (by omega)
  have f6 : Kp H n H6 (n + 1 + 1 + 1 + 1 + 1) := ⟨f5.le, fun id hid => (t6 id (by omega)).trans (f5.same id hid)⟩
  have fin : ∀ {H' : Heap} {kd : Nat} {nm : Bs}, Kp H n H' (n + 1 + 1 + 1 + 1 + 1) -> T.get H' (n + 1 + 1) = some (one pW) -> T.get H' (n + 1 + 1 + 1 + 1) = some (one (qc kd 0 nm [] false 0 0 (.sl (n + 1 + 1 + 1) 0 2 2 11))) -> El G H' (.sl (n + 1 + 1 + 1) 0 2 2 11) 11 [l, r] -> aH op a b = .mk kd 0 nm [] false [a, b] ->
      DJ lfp G (Runs F G) k (.ptr (n + 1 + 1) 0) (.ptr (n + 1 + 1 + 1 + 1) 0) H' (n + 1 + 1 + 1 + 1 + 1) := by
    intro H' kd nm f g3 g5 hel he
    delta DJ
    refine AL (Aj (m := 11) g5 (by omega) rfl) ?_
    refine Bo g3 rfl rfl (by omega) fun H7 g7 t7 => ?_
    rw [BL (m := 11) g7 (by omega) rfl]
    simp only [go_sem]
    have f7 : Kp H n H7 (n + 1 + 1 + 1 + 1 + 1) := ⟨f.le, fun id hid => (t7 id (by omega)).trans (f.same id hid)⟩
    refine hk _ _ _ f7 ?_
    rw [he]
    have hl7 : DW G H7 (fun id => A id ∨ B id ∨ Rg n (n + 1 + 1 + 1 + 1 + 1) id) l a := hl.mono (fun _ h => .inl h) fun id h => f7.same id (hA id h)
    have hr7 : DW G H7 (fun id => A id ∨ B id ∨ Rg n (n + 1 + 1 + 1 + 1 + 1) id) r b := hr.mono (fun _ h => .inr (.inl h)) fun id h => f7.same id (hB id h)
    exact .mk kd 0 nm [] false 0 0 (hel.same fun id h => by cases DV h; exact t7 _ (by omega)) (XE ..) (fun id h => .inr (.inr (by cases DV h; exact ⟨by omega, by omega⟩))) (.cons hl7 (.cons hr7 .nil))
  rw [show V.str 2 31868 = sB qK from rfl, show V.str 2 9766 = sB Wu from rfl, yh, Au]
  have q7 : AZ (.ptr (n + 1 + 1 + 1 + 1) 7) G H6 = some (.sl (n + 1 + 1 + 1) 0 2 2 11) := Ah g6 rfl
  cases d1 : decide (op = qK) with
  | true =>
    rw [Bv]
    refine AL (v := .ptr (n + 1 + 1 + 1 + 1) 7) (by rw [Aw, Nat.zero_add]) (AL q7 (AL AHC ?_))
    refine Bo g6 rfl rfl (by omega) fun H7 g7 t7 => ?_
    exact fin ⟨f6.le, fun id hid => (t7 id (by omega)).trans (f6.same id hid)⟩ ((t7 _ (by omega)).trans g3) g7 (hel.same fun id h => by cases DV h; exact t7 _ (by omega)) (by unfold aH; rw [d1]; rfl)
  | false =>
    rw [Bl, yh, Au]
    cases d2 : decide (op = Wu) with
    | true =>
      rw [Bv]
      refine AL (v := .ptr (n + 1 + 1 + 1 + 1) 7) (by rw [Aw, Nat.zero_add]) (AL q7 (AL AHC ?_))
      refine Bo g6 rfl rfl (by omega) fun H7 g7 t7 => ?_
      exact fin ⟨f6.le, fun id hid => (t7 id (by omega)).trans (f6.same id hid)⟩ ((t7 _ (by omega)).trans g3) g7 (hel.same fun id h => by cases DV h; exact t7 _ (by omega)) (by unfold aH; rw [d1, d2]; rfl)
    | false => rw [Bl]; exact fin f6 g3 g6 hel (by unfold aH; rw [d1, d2]; rfl)
end
end Go.PQ
namespace Go.PQ
open Go.Eng
set_option maxRecDepth 100000
theorem AAW (x : Nat) : nE (vk x) = 1 := by simp [vk, nE, nL]
theorem AA1 (m : Bool) (x : Nat) : nE (nV m x) <= 2 := by cases m <;> simp [nV, vk, nE, nL]
theorem qg (op : Bs) (a b : Ex) : nE (aH op a b) = 1 + (nE a + nE b) := by
 unfold aH
 cases decide (op = qK) <;> cases decide (op = Wu) <;> simp [nE, nL]
def ABa : D5 := gY.map fun b => [.int .i64 (.ofNat b) 0]
section
variable {G : AP} {H : Heap} {n : Nat} {k : KV}
theorem AHJ {v : V} (hv : El G H v 1 (wsC E8)) {i : Nat} (hi : i < 9) : ∃ p, BJ 1 v (.int .i64 (.ofNat i) 0) = some p /\ AZ p G H = some (sB (E8.getD i [])) := by
 obtain ⟨p, h1, h2⟩ := hv.at (AAC (ws := E8) (i := i) hi)
 refine ⟨p, h1, ?_⟩
 rw [Zw h2]
 congr 2
 rw [List.getD_eq_getElem?_getD, List.getElem?_eq_getElem hi]; rfl
theorem ACu {v : V} (hv : El G H v 1 ABa) {i : Nat} (hi : i < 9) : ∃ p, BJ 1 v (.int .i64 (.ofNat i) 0) = some p /\ AZ p G H = some (.int .i64 (.ofNat (gY.getD i 0)) 0) := by
 have h0 : ABa[i]? = some [.int .i64 (.ofNat (gY.getD i 0)) 0] := by
  have : gY[i]? = some (gY.getD i 0) := by rw [List.getD_eq_getElem?_getD, List.getElem?_eq_getElem hi]; rfl
  unfold ABa; rw [List.getElem?_map, this]; rfl
 obtain ⟨p, h1, h2⟩ := hv.at h0
 exact ⟨p, h1, Zw h2⟩
theorem AGG {b : Bool} {vbv vjv qj : V} {bj : Nat} {P1 P2 : Prop} (hqj : BJ 1 vbv vjv = some qj) (hl : AZ qj G H = some (.int .i64 (.ofNat bj) 0)) (hd : (b && decide (bj = 3)) = false) (h : P2) :
    Bg (.bool b) true (some vbv) fun v44 => Bg (.bool b) true (some vjv) fun v45 => Bg (.bool b) true (BJ 1 v44 v45) fun v46 => Bg (.bool b) true (AZ v46 G H) fun v47 => Bg (.bool b) true (Ib (.one .int) false v47 (.int .i64 (.ofNat 3) 0)) fun v48 =>
      AU (Dc (.bool b) v48 (.bool false)) fun v49 => Ac v49 true P1 P2 := by
  cases b with
  | true =>
    rw [Bool.true_and] at hd
    refine Xo rfl (Xo rfl (Xo hqj (Xo hl ?_)))
    rw [Q8, hd]
    refine Xo rfl ?_
    rw [lC, Au, Bl]; exact h
  | false =>
    repeat (first | with_reducible refine sH ?_ | with_reducible refine vV ?_)
    rw [Bl]; exact h
theorem AEZ {i j x y z q vo vb : Nat} {m : Bool} {cf : LV} {A : Nat -> Prop} {ob oc bb bc : Nat} (hG : Qm G) (hS : AAu G) (hP : nM G) (hi : i < 9) (hj : j < 9) (hx : x < 1000) (hy : y < 1000) (hz : z < 1000)
    (ho : El G H (.sl vo ob 9 oc 1) 1 (wsC E8)) (hvo : vo < n) (hb : El G H (.sl vb bb 9 bc 1) 1 ABa) (hvb : vb < n) (gf : T.get H q = some (one cf)) (hq : q < n) (hf : DW G H A cf (nV m x)) (hA : ∀ id, A id -> id < n)
    (hk : ∀ H' n', k (.bool true) H' n') :
    EM lfp G (Runs F G) k (.int .i64 (.ofNat x) 0) (.int .i64 (.ofNat y) 0) (.int .i64 (.ofNat z) 0) (.sl vo ob 9 oc 1) (.sl vb bb 9 bc 1) (.int .i64 (.ofNat i) 0) (.int .i64 (.ofNat j) 0) (sB (bif m then [45] else [])) (.fn 17 [] []) (.ptr q 0) H n := by
  delta EM
  have oAt : ∀ {H' : Heap} {n' : Nat}, Kp H n H' n' -> El G H' (.sl vo ob 9 oc 1) 1 (wsC E8) := fun f => ho.kp (fun id h => by cases DV h; exact hvo) f
  have bAt : ∀ {H' : Heap} {n' : Nat}, Kp H n H' n' -> El G H' (.sl vb bb 9 bc 1) 1 ABa := fun f => hb.kp (fun id h => by cases DV h; exact hvb) f
  have fAt : ∀ {H' : Heap} {n' : Nat}, Kp H n H' n' -> DW G H' A cf (nV m x) := fun f => hf.mono (fun _ h => h) fun id h => f.same id (hA id h)
  have wL : ∀ {H' : Heap} {n' a : Nat} (_ : Kp H n H' n') (_ : a < 9) {p : V}, BJ 1 (.sl vo ob 9 oc 1) (.int .i64 (.ofNat a) 0) = some p -> AZ p G H' = some (sB (E8.getD a [])) := by
    intro H' n' a f ha p hp
    obtain ⟨p', h1, h2⟩ := AHJ (oAt f) ha
    rw [hp] at h1; cases h1; exact h2
  obtain ⟨pi, hpi, _⟩ := AHJ ho hi
  obtain ⟨pj, hpj, _⟩ := AHJ ho hj
  have f0 := Kp.refl H n
  refine AL hpi (AL (wL f0 hi hpi) (AL hpj (AL (wL f0 hj hpj) ?_)))
  refine A8 rfl fun H1 f1 g1 => ?_
  refine A8 rfl fun H2 f2 g2 => ?_
  have g1 := f2.get g1 (by omega)
  have f2 := f1.trans f2
  refine bW hP (by omega) fun H3 n3 f3 => ?_
  have g1 := f3.get g1 (by omega); have g2 := f3.get g2 (by omega); have hn3 := f3.le; have f3 := f2.trans f3
  have l1 := dh i hi; have l2 := dh j hj; have b1 := VR hx; have b2 := VR hy; have b3 := VR hz
  have b4 : (bif m then [45] else ([] : Bs)).length <= 1 := by cases m <;> decide
  rw [show V.str 1 32 = sB [32] from rfl]
  refine AL (wL f3 hi hpi) (E5 (Rq _) (AL (wL f3 hj hpj) (E5 (Rq _) ?_)))
  refine AL (X6 (by omega)) (AL (X6 (by simp only [List.length_append, List.length_cons, List.length_nil]; omega)) (AL (X6 (by simp only [List.length_append, List.length_cons, List.length_nil]; omega)) (AL (X6 (by simp only [List.length_append, List.length_cons, List.length_nil]; omega)) ?_)))
  refine bW hP (by omega) fun H4 n4 f4 => ?_
  have g1 := f4.get g1 (by omega); have g2 := f4.get g2 (by omega); have hn4 := f4.le; have f4 := f3.trans f4
  refine AL (wL f4 hi hpi) (E5 (Rq _) (AL (wL f4 hj hpj) (E5 (Rq _) ?_)))
  refine AL (X6 (by simp only [List.length_append, List.length_cons, List.length_nil]; omega)) (AL (X6 (by simp only [List.length_append, List.length_cons, List.length_nil]; omega)) (AL (X6 (by simp only [List.length_append, List.length_cons, List.length_nil]; omega)) (AL (X6 (by simp only [List.length_append, List.length_cons, List.length_nil]; omega)) ?_)))
  refine bW hP (by omega) fun H5 n5 f5 => ?_
  have g1 := f5.get g1 (by omega); have g2 := f5.get g2 (by omega); have hn5 := f5.le; have f5 := f4.trans f5
  refine AL (wL f5 hi hpi) (E5 (Rq _) (AL (wL f5 hj hpj) (E5 (Rq _) ?_)))
  refine AL (X6 (by simp only [List.length_append, List.length_cons, List.length_nil]; omega)) ?_
  have hcl := AE0 hi hj m hx hy hz
  have hlen := AJN hi hj m hx hy hz
  unfold AIj at hcl
  show Runs F G Ja [sB (uz i j m x y z)] H5 n5 _
  clear b1 b2 b3 b4 l1 l2
  obtain ⟨qi, hqi, _⟩ := ACu hb hi
  obtain ⟨qj, hqj, _⟩ := ACu hb hj
  have ldb : ∀ {H' : Heap} {n' a : Nat} (_ : Kp H n H' n') (_ : a < 9) {p : V}, BJ 1 (.sl vb bb 9 bc 1) (.int .i64 (.ofNat a) 0) = some p -> AZ p G H' = some (.int .i64 (.ofNat (gY.getD a 0)) 0) := by
    intro H' n' a f ha p hp
    obtain ⟨p', h1, h2⟩ := ACu (bAt f) ha
    rw [hp] at h1; cases h1; exact h2
  cases d3 : decide (gY.getD i 0 = 3) && decide (gY.getD j 0 = 3) with
  | true =>
    rw [d3, cond_true] at hcl
    simp only [Bool.and_eq_true, decide_eq_true_eq] at d3
    refine AIb hG (by omega) (by decide) hcl fun H6 n6 ft f6 hft => ?_
    have g1 := f6.get g1 (by omega); have g2 := f6.get g2 (by omega); have hn6 := f6.le; have f6 := f5.trans f6
    obtain ⟨line, col, rfl, _, _⟩ := hft
    rw [bK, Au, aj, Au]
    refine Bo g1 rfl rfl (by omega) fun H7 g1 t7 => ?_
    have g2 := (t7 (n + 1) (by omega)).trans g2
    refine Bo g2 rfl rfl (by omega) fun H8 g2 t8 => ?_
    have f8 : Kp H n H8 n6 := ⟨f6.le, fun id hid => (t8 id (by omega)).trans ((t7 id (by omega)).trans (f6.same id hid))⟩
    refine AL hqi (AL (ldb f8 hi hqi) ?_)
    rw [Q8, Au, decide_eq_true d3.1]
    refine Xo rfl (Xo rfl (Xo hqj (Xo (ldb f8 hj hqj) ?_)))
    rw [Q8, decide_eq_true d3.2]
    refine Xo rfl ?_
    rw [lC, Au, Bv]
    refine AL (v := .ptr (n + 1) 0) (by rw [Aw]) (AL (Ah (off := 0) g2 (v := .int .i64 (.ofNat 21) 0) rfl) ?_)
    rw [Q8, Au, decide_eq_true rfl]
    exact hk _ _
  | false =>
    rw [d3, cond_false] at hcl
    have ret : ∀ {e : Ex} {Q : KV}, dK 12 (wE (uz i j m x y z)) = some (some (clE e), 0) -> (∀ H' n' c, Kp H5 n5 H' n' -> DW G H' (Rg n5 n') c e -> Q (.Gh [.agg c, .agg (YQ 0 0 0)]) H' n') -> Runs F G Ja [sB (uz i j m x y z)] H5 n5 Q := fun h hq => AFp hG hS (by omega) h hq
    cases d4 : decide (gY.getD i 0 < gY.getD j 0) with
    | true =>
      rw [d4, cond_true] at hcl
      refine ret hcl fun H6 n6 ce f6 hx => ?_
      have g1 := f6.get g1 (by omega); have g2 := f6.get g2 (by omega); have hn6 := f6.le; have f6 := f5.trans f6
      rw [bK, Au, aj, Au]
      refine Bo g1 rfl hx.len (by omega) fun H7 g1 t7 => ?_
      have g2 := (t7 (n + 1) (by omega)).trans g2
      refine Bo (L := YQ 0 0 0) g2 rfl rfl (by omega) fun H8 g2 t8 => ?_
      have g1 := (t8 n (by omega)).trans g1
      have f8 : Kp H n H8 n6 := ⟨f6.le, fun id hid => (t8 id (by omega)).trans ((t7 id (by omega)).trans (f6.same id hid))⟩
      have hx : DW G H8 (Rg n5 n6) ce _ := hx.mono (fun _ h => h) fun id h => (t8 id (by have := h.1; omega)).trans (t7 id (by have := h.1; omega))
      refine AL hqi (AL (ldb f8 hi hqi) ?_)
      rw [Q8, Au]
      refine AGG hqj (ldb f8 hj hqj) d3 ?_
      refine AL hqj (AL (ldb f8 hj hqj) (AL hqi (AL (ldb f8 hi hqi) ?_)))
      rw [fZ, Au, d4, Bv]
      refine AL (v := .ptr (n + 1) 0) (by rw [Aw]) (AL (Ah (off := 0) g2 (v := .int .i64 (.ofNat 0) 0) rfl) ?_)
      rw [Q8, Au, decide_eq_true rfl]
      have g0 := f8.get gf hq
      refine Xo (Aj (m := 11) g1 (by omega) hx.len) (Xo rfl (Xo rfl (Xo rfl (Xo hpi (Xo (wL f8 hi hpi) (Xo (Aj (m := 11) g0 (by omega) hf.len) (Xo rfl (Xo rfl (Xo rfl (Xo hpj (Xo (wL f8 hj hpj) (Xo rfl (Xo rfl (Xo rfl (Xo rfl ?_)))))))))))))))
      refine wJ (xq fun H9 f9 => ?_)
      have g1 := f9.get g1 (by omega); have f9' := f8.trans f9; have g0 := f9'.get gf hq
      refine Xj (Aj (m := 11) g1 (by omega) hx.len) hx.vs (Xj (wL f9' hi hpi) (Rq _) (Xj (Aj (m := 11) g0 (by omega) hf.len) hf.vs (Xj (wL f9' hj hpj) (Rq _) ?_)))
      refine wJ (xq fun H10 f10 => ?_)
      have g1 := f10.get g1 (by omega); have f10' := f9'.trans f10; have g0 := f10'.get gf hq
      refine Xj (Aj (m := 11) g1 (by omega) hx.len) hx.vs (Xj (wL f10' hi hpi) (Rq _) (Xj (Aj (m := 11) g0 (by omega) hf.len) hf.vs (Xj (wL f10' hj hpj) (Rq _) ?_)))
      refine wJ (AAj (A := fun _ => False) (B := fun _ => False) (nT y) (nT z) (fun _ h => h.elim) (fun _ h => h.elim) fun H11 n11 c2 f11 hx2 => ?_)
      have hn11 := f11.le
      have g1 := f11.get g1 (by omega); have f11' := f10'.trans f11; have g0 := f11'.get gf hq
      refine Xj (Aj (m := 11) g1 (by omega) hx.len) hx.vs (Xj (wL f11' hi hpi) (Rq _) (Xj (Aj (m := 11) g0 (by omega) hf.len) hf.vs ?_))
      refine wJ (AAj (fAt f11') hx2 (fun id h => by have := hA id h; omega) (fun id h => by rcases h with h | h | h; exact h.elim; exact h.elim; exact h.2) fun H12 n12 c3 f12 hx3 => ?_)
      have hn12 := f12.le
      have g1 := f12.get g1 (by omega)
      refine Xj (Aj (m := 11) g1 (by omega) hx.len) hx.vs ?_
      have hx : DW G H12 (Rg n5 n6) ce _ := hx.mono (fun _ h => h) fun id h => ((f9.trans f10).trans (f11.trans f12)).same id h.2
      refine wJ (AHB _ ?_ _ (Nat.le_refl _) _ H12 n12 ce c3 _ _ _ hx hx3 (fun id h => by have := h.2; omega) (fun id h => ?_) fun H13 n13 f13 => ?_)
      · rw [qg, qg, AAW, AAW]; have := AA1 m x; omega
      · rcases h with h | h | h
        · have := hA id h; omega
        · rcases h with h | h | h
          · exact h.elim
          · exact h.elim
          · have := h.2; omega
        · exact h.2
      · rw [iV, lC, Au]
        exact hk _ _
    | false =>
      rw [d4, cond_false] at hcl
      refine ret hcl fun H6 n6 ce f6 hx => ?_
      have g1 := f6.get g1 (by omega); have g2 := f6.get g2 (by omega); have hn6 := f6.le; have f6 := f5.trans f6
      rw [bK, Au, aj, Au]
      refine Bo g1 rfl hx.len (by omega) fun H7 g1 t7 => ?_
      have g2 := (t7 (n + 1) (by omega)).trans g2
      refine Bo (L := YQ 0 0 0) g2 rfl rfl (by omega) fun H8 g2 t8 => ?_
      have g1 := (t8 n (by omega)).trans g1
      have f8 : Kp H n H8 n6 := ⟨f6.le, fun id hid => (t8 id (by omega)).trans ((t7 id (by omega)).trans (f6.same id hid))⟩
      have hx : DW G H8 (Rg n5 n6) ce _ := hx.mono (fun _ h => h) fun id h => (t8 id (by have := h.1; omega)).trans (t7 id (by have := h.1; omega))
      refine AL hqi (AL (ldb f8 hi hqi) ?_)
      rw [Q8, Au]
      refine AGG hqj (ldb f8 hj hqj) d3 ?_
      refine AL hqj (AL (ldb f8 hj hqj) (AL hqi (AL (ldb f8 hi hqi) ?_)))
      rw [fZ, Au, d4, Bl]
      refine AL (v := .ptr (n + 1) 0) (by rw [Aw]) (AL (Ah (off := 0) g2 (v := .int .i64 (.ofNat 0) 0) rfl) ?_)
      rw [Q8, Au, decide_eq_true rfl]
      have g0 := f8.get gf hq
      refine Xo (Aj (m := 11) g1 (by omega) hx.len) (Xo rfl (Xo rfl (Xo rfl (Xo hpj (Xo (wL f8 hj hpj) (Xo rfl (Xo rfl (Xo rfl (Xo hpi (Xo (wL f8 hi hpi) (Xo (Aj (m := 11) g0 (by omega) hf.len) (Xo rfl (Xo rfl (Xo rfl (Xo rfl ?_)))))))))))))))
      refine wJ (xq fun H9 f9 => ?_)
      have g1 := f9.get g1 (by omega); have f9' := f8.trans f9; have g0 := f9'.get gf hq
      refine Xj (Aj (m := 11) g1 (by omega) hx.len) hx.vs (Xj (wL f9' hj hpj) (Rq _) (Xj (wL f9' hi hpi) (Rq _) (Xj (Aj (m := 11) g0 (by omega) hf.len) hf.vs ?_)))
      refine wJ (AAj (B := fun _ => False) (fAt f9') (nT y) (fun id h => by have := hA id h; omega) (fun _ h => h.elim) fun H11 n11 c2 f11 hx2 => ?_)
      have hn11 := f11.le
      have g1 := f11.get g1 (by omega); have f11' := f9'.trans f11
      refine Xj (Aj (m := 11) g1 (by omega) hx.len) hx.vs (Xj (wL f11' hj hpj) (Rq _) ?_)
      refine wJ (xq fun H10 f10 => ?_)
      have g1 := f10.get g1 (by omega); have f10' := f11'.trans f10
      have hx2 := hx2.mono (B := fun id => A id ∨ Rg (n6 + 1) n11 id) (H' := H10) (fun id h => by rcases h with h | h | h; exact .inl h; exact h.elim; exact .inr h) fun id h => f10.same id (by rcases h with h | h | h; (have := hA id h; omega); exact h.elim; exact h.2)
      refine Xj (Aj (m := 11) g1 (by omega) hx.len) hx.vs (Xj (wL f10' hj hpj) (Rq _) ?_)
      refine wJ (AAj (B := fun _ => False) hx2 (nT z) (fun id h => by rcases h with h | h; (have := hA id h; omega); (have := h.2; omega)) (fun _ h => h.elim) fun H12 n12 c3 f12 hx3 => ?_)
      have hn12 := f12.le
      have g1 := f12.get g1 (by omega)
      refine Xj (Aj (m := 11) g1 (by omega) hx.len) hx.vs ?_
      have hx : DW G H12 (Rg n5 n6) ce _ := hx.mono (fun _ h => h) fun id h => ((f9.trans f11).trans (f10.trans f12)).same id h.2
      refine wJ (AHB _ ?_ _ (Nat.le_refl _) _ H12 n12 ce c3 _ _ _ hx hx3 (fun id h => by have := h.2; omega) (fun id h => ?_) fun H13 n13 f13 => ?_)
      · rw [qg, qg, AAW, AAW]; have := AA1 m x; omega
      · rcases h with h | h | h
        · rcases h with h | h
          · have := hA id h; omega
          · have := h.2; omega
        · exact h.elim
        · exact h.2
      · rw [iV, lC, Au]
        exact hk _ _
theorem zO {a b x y z : Int} {m : Bool} (hG : Qm G) (hS : AAu G) (hP : nM G) (hk : ∀ H' n', k (.bool true) H' n') :
    Runs F G Ym [.int .i64 a 0, .int .i64 b 0, .int .i64 x 0, .int .i64 y 0, .int .i64 z 0, .bool m] H n k := by
  refine BZ (s := ar6 (FZ lfp G)) Kq (by obtain ⟨h, o⟩ := QC BX G; rw [Kq] at h; cases h; exact o) ?_
  show FZ lfp G (Runs F G) (.int .i64 a 0) (.int .i64 b 0) (.int .i64 x 0) (.int .i64 y 0) (.int .i64 z 0) (.bool m) H n k
  delta FZ
  refine AM8 hG hS fun H1 n1 f1 => ?_
  rw [QW, Au, Bool.not_true, Bl]
  refine AL (AF1 x (m := 999) (by omega)) (AL (AF1 y (m := 999) (by omega)) (AL (AF1 z (m := 999) (by omega)) ?_))
  have hx : jT x 999 <= 999 := (dW x (m := 999) (by omega)).2
  have hy : jT y 999 <= 999 := (dW y (m := 999) (by omega)).2
  have hz : jT z 999 <= 999 := (dW z (m := 999) (by omega)).2
  generalize jT x 999 = x' at hx
  generalize jT y 999 = y' at hy
  generalize jT z 999 = z' at hz
  refine dw (G := G) (ws := E8) rfl fun H2 f2 ho => ?_
  refine LZ (G := G) (vs := gY.map fun b => .int .i64 (.ofNat b) 0) rfl (by omega) (fun v hv => by obtain ⟨w, _, rfl⟩ := List.mem_map.1 hv; exact ⟨rfl, rfl⟩) fun H3 f3 _ hb => ?_
  have ho := ho.kp (fun id h => by cases DV h; omega) f3
  have hb : El G H3 (.sl (n1 + 1) 0 9 9 1) 1 ABa := by rw [List.map_map] at hb; exact hb
  have ha := umod_lt a (show 0 < 9 by omega)
  have hbb := umod_lt b (show 0 < 9 by omega)
  refine AL (AOa a) (AL (AKt a (by omega)) (AL (ADq (by omega)) (AL (AOa b) (AL (AKt b (by omega)) (AL (ADq (by omega)) ?_)))))
  generalize umod a 9 = i at ha
  generalize umod b 9 = j at hbb
  refine xq fun H4 f4 => ?_
  have ho := ho.kp (fun id h => by cases DV h; omega) f4
  have hb := hb.kp (fun id h => by cases DV h; omega) f4
  refine A8 rfl fun H5 f5 g5 => ?_
  have ho := ho.kp (fun id h => by cases DV h; omega) f5
  have hb := hb.kp (fun id h => by cases DV h; omega) f5
  refine Bo g5 rfl rfl (by omega) fun H6 g6 t6 => ?_
  have ho : El G H6 (.sl n1 0 9 9 1) 1 (wsC E8) := ho.same fun id h => by cases DV h; exact t6 _ (by omega)
  have hb : El G H6 (.sl (n1 + 1) 0 9 9 1) 1 ABa := hb.same fun id h => by cases DV h; exact t6 _ (by omega)
  cases m with
  | false =>
    rw [Bl]
    exact AEZ (m := false) (A := fun _ => False) hG hS hP ha hbb (by omega) (by omega) (by omega) ho (by omega) hb (by omega) g6 (by omega) (nT x') (fun _ h => h.elim) hk
  | true =>
    rw [Bv]
    refine xq fun H7 f7 => ?_
    have ho := ho.kp (fun id h => by cases DV h; omega) f7
    have hb := hb.kp (fun id h => by cases DV h; omega) f7
    have g6 := f7.get g6 (by omega)
    refine LZ (G := G) (vs := [.agg (qc 1 x' [] [] false 0 0 .Ae)]) rfl (by omega) (fun v hv => by simp at hv; subst hv; exact ⟨rfl, rfl⟩) fun H8 f8 _ hel => ?_
    have ho := ho.kp (fun id h => by cases DV h; omega) f8
    have hb := hb.kp (fun id h => by cases DV h; omega) f8
    have g6 := f8.get g6 (by omega)
    refine AL AHC ?_
    refine Bo g6 rfl rfl (by omega) fun H9 g9 t9 => ?_
    have ho : El G H9 (.sl n1 0 9 9 1) 1 (wsC E8) := ho.same fun id h => by cases DV h; exact t9 _ (by omega)
    have hb : El G H9 (.sl (n1 + 1) 0 9 9 1) 1 ABa := hb.same fun id h => by cases DV h; exact t9 _ (by omega)
    refine AEZ (m := true) (A := fun id => id < n1 + 1 + 1 + 1 + 1 + 1 + 1) hG hS hP ha hbb (by omega) (by omega) (by omega) ho (by omega) hb (by omega) g9 (by omega) ?_ (fun _ h => h) hk
    exact .mk 14 0 [] [] false 0 0 (cs := [qc 1 x' [] [] false 0 0 .Ae]) (hel.same fun id h => by cases DV h; exact t9 _ (by omega)) (XE ..) (fun id h => by cases DV h; omega) (.cons (nT x') .nil)
end
end Go.PQ
namespace Go.PQ
open Go.Eng
def AEo : LV := (List.range 20).map fun i => .int .u64 (.ofNat (10 ^ i)) 0
theorem AIX : ∀ i, i < 20 -> (AEo.drop i).take 1 = [V.int .u64 (.ofNat (10 ^ i)) 0] := fun i h => by
 have hl : i < AEo.length := h
 rw [List.drop_eq_getElem_cons hl]
 simp [AEo]
end Go.PQ
namespace Go.Proofs.YtcjkfmaoahojeaaDoor
open Go Go.Eng Go.ChangeShapes Go.WideShapes Go.RowKit
set_option maxRecDepth 100000
theorem ATO : ownKnob Tryd.prog.godebug = none := by kernel_rfl
theorem AME : Tryd.prog.globalNamed "kiln/lex.marks" = some 0 := by kernel_rfl
theorem ALQ : (Tryd.prog.globals[0]?).map (·.type) = some 124 := by kernel_rfl
theorem ATA : Tryd.prog.globalNamed "internal/strconv.uint64pow10" = some 1 := by kernel_rfl
theorem ASc : (Tryd.prog.globals[1]?).map (·.type) = some 129 := by kernel_rfl
theorem laidOut : laidOutB Tryd.prog = true := by kernel_rfl
theorem ADF : ng Tryd.prog 5 124 = true := by kernel_rfl
theorem AFI : Xw 5 (Rows.laid_kiln_lex_marks (H := Unit)) = some (Go.PQ.EJ.map sB) := by kernel_rfl
theorem AGH : ng Tryd.prog 5 129 = true := by kernel_rfl
theorem AKB : Xw 5 (Rows.laid_internal_strconv_uint64pow10 (H := Unit)) = some Go.PQ.AEo := by kernel_rfl
abbrev AH8 : List (String × DataW Unit) := [("math/bits.deBruijn32tab", Rows.laid_math_bits_deBruijn32tab), ("math/bits.deBruijn64tab", Rows.laid_math_bits_deBruijn64tab), ("internal/strconv.uint64pow10", Rows.laid_internal_strconv_uint64pow10), ("kiln/lex.marks", Rows.laid_kiln_lex_marks)]
theorem of_laid {W : World} (h : laidMetH Tryd.prog AH8 W) : Go.PQ.Qm (NH W) /\ Go.PQ.nM (NH W) := by
 rw [MakeChecks.laidMetH_plain _ _ _ (by kernel_rfl)] at h
 obtain ⟨ps, ⟨_, _, _, _, _, _, _, _, _, _, ⟨_, _, _, _, _, _, _, _, _, _, ⟨g1, t1, cs1, f1, p1, q1, hg1, ht1, hv1, hd1, ⟨g0, t0, cs0, f0, p0, q0, hg0, ht0, hv0, hd0, _, _⟩, _⟩, _⟩, _⟩, _, _⟩ := h
 obtain rfl := Option.some.inj (AME.symm.trans hg0)
 obtain rfl := Option.some.inj (ALQ.symm.trans ht0)
 obtain rfl := Option.some.inj (ATA.symm.trans hg1)
 obtain rfl := Option.some.inj (ASc.symm.trans ht1)
 obtain ⟨hr, h1⟩ := YW f0 hd0 AFI ADF
 obtain ⟨hr', h1'⟩ := YW f1 hd1 AKB AGH
 refine ⟨?_, fun i hi => ?_⟩
 ·have hl : (Go.PQ.EJ.map sB).length = 22 := rfl
  show NH W 0 0 22 = _
  rw [ug (tab := Go.PQ.EJ.map sB) (fun i => by have := World.var?_cell hg0 hv0 i; simpa using this) hr h1 (by rfl) (by omega)]
  rfl
 ·have hl : Go.PQ.AEo.length = 20 := rfl
  rw [ug (tab := Go.PQ.AEo) (fun i => by have := World.var?_cell hg1 hv1 i; simpa using this) hr' h1' (by rfl) (by omega), Go.PQ.AIX i hi]
theorem door_met (os : Os) (args : Array Value) : laidMetH Tryd.prog AH8 ((World.doorLaid Tryd.prog 400 os).forCall (fun _ _ => 0) ⟨#[], args, []⟩).memory :=
 laidMetH_of_parts3 (fuel := 8) (laidMet_of_run' 8 (by kernel_rfl) (by kernel_rfl)) (by kernel_rfl) (by kernel_rfl)
theorem AIu {t : TypeId} (h : t = 2 ∨ t = 3 ∨ t = 4 ∨ t = 41) : Tryd.prog.wantsStandIn t = false := by
 rcases h with h | h | h | h <;> subst h <;> kernel_rfl
end Go.Proofs.YtcjkfmaoahojeaaDoor
