/- Part of a proof: texts PRH PRI PRJ PRK PRL PRM PSA PSB PSC PSD of the engine and what is proved with it; nothing is assumed. -/
import Derived.Test.YtcjkfmaoahojeaaDoorConA
set_option linter.unusedVariables false
set_option linter.unusedSimpArgs false
namespace Go.PQ
open Go.Eng
set_option maxRecDepth 100000
section
variable {G : AP} {pb : Nat} {H : Heap} {n : Nat} {s s' : S} {k : KV}
theorem ALP {rec : PM Ex} {f : Nat} {e : Ex} (hr : ACf G pb rec) (h : Vw G H pb s) (hb : pb < n) (hm : Xy rec f s = some (e, s')) (hk : ExK G pb H n s' e k) :
    Runs F G Uy [.ptr pb 0] H n k := by
  refine BO (s := Dz (Hg lfp G)) Nv (by obtain ⟨h, o⟩ := Sv BP G; rw [Nv] at h; cases h; exact o) ?_
  show Hg lfp G (Runs F G) (.ptr pb 0) H n k
  delta Hg
  have x := Fr.refl h hb
  refine BA rfl fun H1 f1 g1 => ?_
  have x := x.al f1
  obtain ⟨v, tid, o, line, col, e0, e1, _, _, e2, _, _, _⟩ := x.p.tok
  refine AL (v := .ptr pb 0) rfl (AL (v := .ptr pb 0) rfl (AL e0 (AL e1 (AL e2 ?_))))
  refine BA rfl fun H2 f2 g2 => ?_
  have x := x.al f2
  have g1 := f2.get g1 (by omega)
  refine CJ (L := Pv s.t line col) g2 rfl rfl (by omega) fun H3 g2 s3 => ?_
  have x := x.st (by omega) s3
  have g1 := (s3 n (by omega)).trans g1
  refine AL (v := .ptr (n + 1) 3) (Aj ..) (AL (Je (m := 2) (o := 3) g2 (by omega) (by show 3 + 2 <= 5; omega)) (AL AKv ?_))
  refine BA rfl fun H4 f4 g4 => ?_
  have x := x.al f4
  have g1 := f4.get g1 (by omega)
  have g2 := f4.get g2 (by omega)
  refine CJ (L := exC 0 0 [] [] false line col .Ag) g4 rfl rfl (by omega) fun H5 g4 s5 => ?_
  have x := x.st (by omega) s5
  have g1 := (s5 n (by omega)).trans g1
  have g2 := (s5 (n + 1) (by omega)).trans g2
  clear s5 f4 s3 f2 f1 e0 e1 e2
  have fin : ∀ {H' : Heap} {n' : Nat} {c : LV}, Fr G pb H n H' n' s' -> T.get H' n = some (one vN) -> T.get H' (n + 2) = some (one c) -> EI G H' (fun id => n + 2 < id /\ id < n') c e -> Ak lfp G (Runs F G) k (.ptr n 0) (.ptr (n + 2) 0) H' n' := by
    intro H' n' c x g1 g4 hx
    delta Ak
    exact gK x g1 rfl g4 (Nat.le_refl _) hx (fun id h => ⟨by have := h.1; omega, h.2, by have := h.1; omega⟩) hk
  have leaf : ∀ {H' : Heap} {n' kd num : Nat} {nm ty : Bs} {arr : Bool}, Fr G pb H n H' n' s' -> T.get H' n = some (one vN) -> T.get H' (n + 2) = some (one (exC kd num nm ty arr line col .Ag)) -> e = .mk kd num nm ty arr [] -> Ak lfp G (Runs F G) k (.ptr n 0) (.ptr (n + 2) 0) H' n' := by
    intro H' n' kd num nm ty arr x g1 g4 he
    subst he
    exact fin x g1 g4 (.mk kd num nm ty arr line col AB9 AJ5 (fun id h => by cases h) .nil)
  have AFF : ∀ {H' : Heap} {n' kd kd' num : Nat} {nm ty : Bs} {arr : Bool} {w : V} {P : KV}, T.get H' (n + 2) = some (one (exC kd num nm ty arr line col w)) -> (∀ H'', T.get H'' (n + 2) = some (one (exC kd' num nm ty arr line col w)) -> (∀ j, j ≠ n + 2 -> T.get H'' j = T.get H' j) -> P .undef H'' n') -> Bd 1 (.ptr (n + 2) 0) (.int .i64 (.ofNat kd') 0) H' n' P := by
    intro H' n' kd kd' num nm ty arr w P g hP
    exact Dp g rfl rfl (by omega) (by show 0 + 1 <= 11; omega) fun H'' g'' s'' => hP H'' g'' s''
  unfold Xy at hm
  refine AFA x.p ?_
  rw [Rn, BH]
  cases ho : s.ok with
  | false =>
    rw [ho] at hm
    cases hm
    rw [Bool.not_false, CS]
    exact leaf x g1 g4 rfl
  | true =>
    rw [ho, Bool.not_true, cond_false] at hm
    have q0 : Aa (.ptr (n + 1) 0) G H5 = some (.int .i64 (.ofNat s.t.kind) 0) := Ad g2 rfl
    rw [Bool.not_true, CG]
    refine AL (v := .ptr (n + 1) 0) (Aj ..) (AL q0 (AL (Xq ..) ?_))
    cases k4 : decide (s.t.kind = 4) with
    | true =>
      rw [k4, cond_true, Option.bind_eq_some_iff] at hm
      obtain ⟨s1, h1, hm⟩ := hm
      cases hm
      rw [CS]
      refine Wp x.p x.lt h1 fun H6 n6 _ _ _ _ y => ?_
      have x := x.tr y
      have g1 := y.get g1 (by omega) hb
      have g2 := y.get g2 (by omega) (by omega)
      have g4 := y.get g4 (by omega) (by omega)
      have q2 : Aa (.ptr (n + 1) 2) G H6 = some (.int .i64 (.ofNat s.t.num) 0) := Ad g2 rfl
      refine AL (v := .ptr (n + 1) 2) (Aj ..) (AL q2 (AL (v := .ptr (n + 2) 0) (Aj ..) ?_))
      refine AFF g4 fun H7 g4 s7 => ?_
      have x := x.st (by omega) s7
      have g1 := (s7 n (by omega)).trans g1
      have g2 := (s7 (n + 1) (by omega)).trans g2
      have q2 : Aa (.ptr (n + 1) 2) G H7 = some (.int .i64 (.ofNat s.t.num) 0) := Ad g2 rfl
      refine AL q2 (Dx (nS ..) (AL (v := .ptr (n + 2) 3) (Aj ..) ?_))
      refine Dp g4 rfl rfl (by omega) (by show 3 + 1 <= 11; omega) fun H8 g8 s8 => ?_
      exact leaf (kd := 1) (num := s.t.num) (nm := []) (ty := []) (arr := false) (x.st (by omega) s8) ((s8 n (by omega)).trans g1) g8 rfl
    | false =>
    rw [k4, cond_false] at hm
    rw [CG]
    refine AL (v := .ptr (n + 1) 0) (Aj ..) (AL q0 (AL (Xq ..) ?_))
    cases k3 : decide (s.t.kind = 3) with
    | true =>
      rw [k3, cond_true, Option.bind_eq_some_iff] at hm
      obtain ⟨s1, h1, hm⟩ := hm
      cases hm
      rw [CS]
      refine Wp x.p x.lt h1 fun H6 n6 _ _ _ _ y => ?_
      have x := x.tr y
      have g1 := y.get g1 (by omega) hb
      have g2 := y.get g2 (by omega) (by omega)
      have g4 := y.get g4 (by omega) (by omega)
      have q2 : Aa (.ptr (n + 1) 1) G H6 = some (sB s.t.text) := Ad g2 rfl
      refine AL (v := .ptr (n + 1) 1) (Aj ..) (AL q2 (AL (v := .ptr (n + 2) 0) (Aj ..) ?_))
      refine AFF g4 fun H7 g4 s7 => ?_
      have x := x.st (by omega) s7
      have g1 := (s7 n (by omega)).trans g1
      have g2 := (s7 (n + 1) (by omega)).trans g2
      have q2 : Aa (.ptr (n + 1) 1) G H7 = some (sB s.t.text) := Ad g2 rfl
      refine AL q2 (Dx (oK ..) (AL (v := .ptr (n + 2) 4) (Aj ..) ?_))
      refine Dp g4 rfl rfl (by omega) (by show 4 + 1 <= 11; omega) fun H8 g8 s8 => ?_
      exact leaf (kd := 6) (num := 0) (nm := s.t.text) (ty := []) (arr := false) (x.st (by omega) s8) ((s8 n (by omega)).trans g1) g8 rfl
    | false =>
    rw [k3, cond_false] at hm
    rw [CG]
    refine AL (v := .ptr (n + 1) 0) (Aj ..) (AL q0 (AL (Xq ..) ?_))
    cases k2 : decide (s.t.kind = 2) with
    | true =>
      rw [k2, cond_true, Option.bind_eq_some_iff] at hm
      obtain ⟨s1, h1, hm⟩ := hm
      rw [Option.bind_eq_some_iff] at hm
      obtain ⟨s2, h2, hm⟩ := hm
      rw [Option.bind_eq_some_iff] at hm
      obtain ⟨⟨nm, s3⟩, h3, hm⟩ := hm
      rw [Option.bind_eq_some_iff] at hm
      obtain ⟨⟨es, s4⟩, h4, hm⟩ := hm
      cases hm
      rw [CS]
      refine Wp x.p x.lt h1 fun H6 n6 l6 c6 _ _ y => ?_
      have x := x.tr y
      have hn6 := y.le
      have g1 := y.get g1 (by omega) hb
      have g4 := y.get g4 (by omega) (by omega)
      refine AL (v := sB s.t.text) (AFX rfl) ?_
      refine rP fun H7 f7 => ?_
      have x := x.al f7
      have g1 := f7.get g1 (by omega)
      have g4 := f7.get g4 (by omega)
      refine AL (v := .ptr (n + 2) 0) (Aj ..) ?_
      refine AFF g4 fun H8 g4 s8 => ?_
      have x := x.st (by omega) s8
      have g1 := (s8 n (by omega)).trans g1
      refine AL (v := .ptr (n + 2) 5) (Aj ..) ?_
      refine Dp g4 rfl rfl (by omega) (by show 5 + 2 <= 11; omega) fun H9 g4 s9 => ?_
      have x := x.st (by omega) s9
      have g1 := (s9 n (by omega)).trans g1
      have g4 : T.get H9 (n + 2) = some (one (exC 9 0 [] s.t.text false line col .Ag)) := g4
      refine Iz (ws := [ZB]) x.p x.lt rfl (by show 1 <= 1000; omega) h2 fun H10 n10 y => ?_
      have x := x.tr y
      have hn10 := y.le
      have g1 := y.get g1 (by omega) hb
      have g4 := y.get g4 (by omega) (by omega)
      refine XK x.p x.lt h3 fun H11 n11 y => ?_
      have x := x.tr y
      have hn11 := y.le
      have g1 := y.get g1 (by omega) hb
      have g4 := y.get g4 (by omega) (by omega)
      refine AL (v := .ptr (n + 2) 4) (Aj ..) ?_
      refine Dp g4 rfl rfl (by omega) (by show 4 + 1 <= 11; omega) fun H12 g4 s12 => ?_
      have x := x.st (by omega) s12
      have g1 := (s12 n (by omega)).trans g1
      have g4 : T.get H12 (n + 2) = some (one (exC 9 0 nm s.t.text false line col .Ag)) := g4
      refine AF0 hr x.p x.lt h4 fun H13 n13 v y hes hle => ?_
      have x := x.tr y
      have hn13 := y.le
      have g1 := y.get g1 (by omega) hb
      have g4 := y.get g4 (by omega) (by omega)
      obtain ⟨cs, he1, he2, he3, he4, he5, he6⟩ := hes
      refine AL (v := .ptr (n + 2) 7) (Aj ..) ?_
      refine Dp g4 he3 (by rw [he4]; rfl) (by omega) (by show 7 + 1 <= 11; omega) fun H14 g14 s14 => ?_
      rw [he4] at g14
      refine fin (c := exC 9 0 nm s.t.text false line col v) (x.st (by omega) s14) ((s14 n (by omega)).trans g1) g14 ?_
      refine .mk 9 0 nm s.t.text false line col (he1.same fun id hid => s14 id (by have := (he5 id hid).1; omega)) he2 (fun id hid => ⟨by have := (he5 id hid).1; omega, (he5 id hid).2⟩) (he6.mono (fun id h => ⟨by have := h.1; omega, h.2⟩) fun id h => s14 id (by have := h.1; omega))
    | false =>
    rw [k2, cond_false] at hm
    rw [CG]
    have kw : ∀ {w : Bs} {kd : Nat} {H' : Heap} {n' : Nat} {s1 : S} {N : Bool × S -> Option (Ex × S)} {R : Heap -> Nat -> Prop}, Fr G pb H n H' n' s1 -> n + 2 < n' -> T.get H' n = some (one vN) -> T.get H' (n + 2) = some (one (exC 0 0 [] [] false line col .Ag)) ->
        (Cc w s1).bind N = some (e, s') -> (∀ s2, N (true, s2) = some (.mk kd 0 [] [] false [], s2)) ->
        (∀ H'' n'' s2, Fr G pb H n H'' n'' s2 -> n + 2 < n'' -> T.get H'' n = some (one vN) -> T.get H'' (n + 2) = some (one (exC 0 0 [] [] false line col .Ag)) -> N (false, s2) = some (e, s') -> R H'' n'') ->
        Runs F G AZ [.ptr pb 0, sB w] H' n' fun v H n' => Ac v true (AU (AX 0 (.ptr (n + 2) 0)) fun v60 => Bd 1 v60 (.int .i64 (.ofNat kd) 0) H n' fun _ H n' => Ak lfp G (Runs F G) k (.ptr n 0) (.ptr (n + 2) 0) H n') (R H n') := by
      intro w kd H' n' s1 N R x hn' g1 g4 hm hN hR
      rw [Option.bind_eq_some_iff] at hm
      obtain ⟨⟨b, s2⟩, h2, hm⟩ := hm
      refine KO x.p x.lt h2 fun H6 n6 y => ?_
      have x := x.tr y
      have hn6 := y.le
      have g1 := y.get g1 (by omega) hb
      have g4 := y.get g4 (by omega) (by omega)
      cases b with
      | true =>
        rw [hN] at hm
        cases hm
        rw [CS]
        refine AL (v := .ptr (n + 2) 0) (Aj ..) ?_
        refine AFF g4 fun H7 g4 s7 => ?_
        exact leaf (kd := kd) (num := 0) (nm := []) (ty := []) (arr := false) (x.st (by omega) s7) ((s7 n (by omega)).trans g1) g4 rfl
      | false => rw [CG]; exact hR _ _ _ x (by omega) g1 g4 hm
    refine kw (w := VR) x (by omega) g1 g4 hm (fun _ => rfl) fun H6 n6 s6 x hn6 g1 g4 hm => ?_
    refine kw (w := jK) x (by omega) g1 g4 hm (fun _ => rfl) fun H6 n6 s6 x hn6 g1 g4 hm => ?_
    refine kw (w := Yt) x (by omega) g1 g4 hm (fun _ => rfl) fun H6 n6 s6 x hn6 g1 g4 hm => ?_
    refine kw (w := rH) x (by omega) g1 g4 hm (fun _ => rfl) fun H6 n6 s6 x hn6 g1 g4 hm => ?_
    obtain ⟨⟨b, s7⟩, h7, hm⟩ := Option.bind_eq_some_iff.1 hm
    rw [show V.str 3 7824750 = sB oD from rfl]
    refine KO x.p x.lt h7 fun H7 n7 y => ?_
    have x := x.tr y
    have hn7 := y.le
    have g1 := y.get g1 (by omega) hb
    have g4 := y.get g4 (by omega) (by omega)
    cases b with
    | true =>
      have hm : ((ABs s7).bind fun b => (Cc V4 b.2).bind fun q => bif q.1 then (rec q.2).bind fun x => (Ce [XC] x.2).bind fun s1 => some ((.mk 11 0 [] b.1.nm b.1.arr [x.1] : Ex), s1)
        else some (.mk 10 0 [] b.1.nm b.1.arr [], bif uO b.1 then q.2 else Fj 21 q.2)) = some (e, s') := hm
      rw [Option.bind_eq_some_iff] at hm
      obtain ⟨⟨t, s8⟩, h8, hm⟩ := hm
      rw [Option.bind_eq_some_iff] at hm
      obtain ⟨⟨b, s9⟩, h9, hm⟩ := hm
      rw [CS]
      refine AHT x.p x.lt h8 fun H8 n8 y => ?_
      have x := x.tr y
      have hn8 := y.le
      have g1 := y.get g1 (by omega) hb
      have g4 := y.get g4 (by omega) (by omega)
      refine AL (v := .ptr (n + 2) 0) (Aj ..) ?_
      refine AFF g4 fun H9 g4 t9 => ?_
      have x := x.st (by omega) t9
      have g1 := (t9 n (by omega)).trans g1
      refine AL (v := .ptr (n + 2) 5) (Aj ..) ?_
      refine Dp g4 rfl rfl (by omega) (by show 5 + 2 <= 11; omega) fun H10 g4 t10 => ?_
      have x := x.st (by omega) t10
      have g1 := (t10 n (by omega)).trans g1
      have g4 : T.get H10 (n + 2) = some (one (exC 10 0 [] t.nm t.arr line col .Ag)) := g4
      rw [show V.str 1 91 = sB V4 from rfl]
      refine KO x.p x.lt h9 fun H11 n11 y => ?_
      have x := x.tr y
      have hn11 := y.le
      have g1 := y.get g1 (by omega) hb
      have g4 := y.get g4 (by omega) (by omega)
      cases b with
      | true =>
        have hm : ((rec s9).bind fun x => (Ce [XC] x.2).bind fun s1 => some ((.mk 11 0 [] t.nm t.arr [x.1] : Ex), s1)) = some (e, s') := hm
        rw [Option.bind_eq_some_iff] at hm
        obtain ⟨⟨e1, s10⟩, h10, hm⟩ := hm
        rw [Option.bind_eq_some_iff] at hm
        obtain ⟨s11, h11, hm⟩ := hm
        cases hm
        rw [CS]
        refine hr _ _ _ _ _ _ x.p x.lt h10 fun H12 n12 c y hx => ?_
        have x := x.tr y
        have hn12 := y.le
        have g1 := y.get g1 (by omega) hb
        have g4 := y.get g4 (by omega) (by omega)
        refine NJ (G := G) (vs := [.agg c]) rfl (by omega) (fun v hv => by simp at hv; subst hv; exact hx.ok) fun H13 f13 _ hel => ?_
        have x := x.al f13
        have g1 := f13.get g1 (by omega)
        have g4 := f13.get g4 (by omega)
        refine AL (v := .ptr (n + 2) 0) (Aj ..) ?_
        refine AFF g4 fun H14 g4 t14 => ?_
        have x := x.st (by omega) t14
        have g1 := (t14 n (by omega)).trans g1
        refine AL (v := .ptr (n + 2) 7) (Aj ..) ?_
        refine Dp g4 rfl rfl (by omega) (by show 7 + 1 <= 11; omega) fun H15 g4 t15 => ?_
        have x := x.st (by omega) t15
        have g1 := (t15 n (by omega)).trans g1
        have g4 : T.get H15 (n + 2) = some (one (exC 11 0 [] t.nm t.arr line col (.sl n12 0 1 1 11))) := g4
        refine Iz (ws := [XC]) x.p x.lt rfl (by show 1 <= 1000; omega) h11 fun H16 n16 y => ?_
        have x := x.tr y
        have hn16 := y.le
        have g1 := y.get g1 (by omega) hb
        have g4 := y.get g4 (by omega) (by omega)
        have same : ∀ id, n + 2 < id -> id < n12 + 1 -> T.get H16 id = T.get H13 id := fun id h1 h2 => (y.f.same id (by omega) (by omega)).trans ((t15 id (by omega)).trans (t14 id (by omega)))
        refine fin x g1 g4 (.mk 11 0 [] t.nm t.arr line col (hel.same fun id hid => by cases Gm hid; exact same _ (by omega) (by omega)) (ZC ..) (fun id hid => by cases Gm hid; exact ⟨by omega, by omega⟩) (.cons ?_ .nil))
        exact hx.mono (fun id h => ⟨by have := h.1; omega, by have := h.2; omega⟩) fun id h => (same id (by have := h.1; omega) (by have := h.2; omega)).trans (f13.same id h.2)
      | false =>
        cases hm
        rw [CG]
        have q5 : Az 2 (.ptr (n + 2) 5) G H11 = some (.agg (jw t)) := Je g4 (by omega) (by show 5 + 2 <= 11; omega)
        refine AL (v := .ptr (n + 2) 5) (Aj ..) (AL q5 ?_)
        refine AIP fun H12 f12 => ?_
        have x := x.al f12
        have g1 := f12.get g1 (by omega)
        have g4 := f12.get g4 (by omega)
        refine AL (Rn _) ?_
        cases hc : uO t with
        | true =>
          have x : Fr G pb H n H12 (n11 + 1) s9 := x
          have leaf' := @leaf H12 (n11 + 1) 10 0 [] t.nm t.arr
          rw [hc] at leaf'
          rw [Bool.not_true, CG]
          exact leaf' x g1 g4 rfl
        | false =>
          rw [Bool.not_false, CS]
          refine Ye x.p x.lt fun H13 n13 y => ?_
          have x := x.tr y
          have g1 := y.get g1 (by omega) hb
          have g4 := y.get g4 (by omega) (by omega)
          have leaf' := @leaf H13 n13 10 0 [] t.nm t.arr
          rw [hc] at leaf'
          exact leaf' x g1 g4 rfl
    | false =>
      have hm : ((Cc IL s7).bind fun p => bif p.1 then (rec p.2).bind fun x => (Ce [Ik] x.2).bind fun s1 => some (x.1, s1) else
        some (.mk 0 0 [] [] false [], Fj 21 p.2)) = some (e, s') := hm
      rw [Option.bind_eq_some_iff] at hm
      obtain ⟨⟨b, s8⟩, h8, hm⟩ := hm
      rw [CG, show V.str 1 40 = sB IL from rfl]
      refine KO x.p x.lt h8 fun H8 n8 y => ?_
      have x := x.tr y
      have hn8 := y.le
      have g1 := y.get g1 (by omega) hb
      have g4 := y.get g4 (by omega) (by omega)
      cases b with
      | true =>
        have hm : ((rec s8).bind fun x => (Ce [Ik] x.2).bind fun s1 => some (x.1, s1)) = some (e, s') := hm
        rw [Option.bind_eq_some_iff] at hm
        obtain ⟨⟨e1, s10⟩, h10, hm⟩ := hm
        rw [Option.bind_eq_some_iff] at hm
        obtain ⟨s11, h11, hm⟩ := hm
        cases hm
        rw [CS]
        refine hr _ _ _ _ _ _ x.p x.lt h10 fun H12 n12 c y hx => ?_
        have x := x.tr y
        have hn12 := y.le
        have g1 := y.get g1 (by omega) hb
        have g4 := y.get g4 (by omega) (by omega)
        refine CJ g4 rfl hx.len (by omega) fun H13 g4 t13 => ?_
        have x := x.st (by omega) t13
        have g1 := (t13 n (by omega)).trans g1
        refine Iz (ws := [Ik]) x.p x.lt rfl (by show 1 <= 1000; omega) h11 fun H16 n16 y => ?_
        have x := x.tr y
        have hn16 := y.le
        have g1 := y.get g1 (by omega) hb
        have g4 := y.get g4 (by omega) (by omega)
        refine fin x g1 g4 (hx.mono (fun id h => ⟨by have := h.1; omega, by have := h.2; omega⟩) fun id h => ?_)
        exact (y.f.same id h.2 (by have := h.1; omega)).trans (t13 id (by have := h.1; omega))
      | false =>
        cases hm
        rw [CG]
        refine Ye x.p x.lt fun H13 n13 y => ?_
        have x := x.tr y
        exact leaf (kd := 0) (num := 0) (nm := []) (ty := []) (arr := false) x (y.get g1 (by omega) hb) (y.get g4 (by omega) (by omega)) rfl
end
end Go.PQ
namespace Go.PQ
open Go.Eng
set_option maxRecDepth 100000
section
variable {G : AP} {pb : Nat} {H : Heap} {n : Nat} {s s' : S} {k : KV}
theorem AIj {rec : PM Ex} {f : Nat} {e : Ex} (hr : ACf G pb rec) (h : Vw G H pb s) (hb : pb < n) (hm : Z5 rec f s = some (e, s')) (hk : ExK G pb H n s' e k) :
    Runs F G TW [.ptr pb 0] H n k := by
  refine BO (s := Dz (GV lfp G)) MX (by obtain ⟨h, o⟩ := Qz BP G; rw [MX] at h; cases h; exact o) ?_
  show GV lfp G (Runs F G) (.ptr pb 0) H n k
  delta GV
  have x := Fr.refl h hb
  refine BA rfl fun H1 f1 g1 => ?_
  have x := x.al f1
  obtain ⟨⟨e1, s1⟩, h1, hm⟩ := Option.bind_eq_some_iff.1 hm
  have hm : Yl rec f e1 s1 = some (e, s') := hm
  refine ALP hr x.p x.lt h1 fun H2 n2 c y hx => ?_
  have x := x.tr y
  have g1 := y.get g1 (by omega) hb
  have hn2 := y.le
  refine BA rfl fun H3 f3 g3 => ?_
  have x := x.al f3
  have g1 := f3.get g1 (by omega)
  refine CJ g3 rfl hx.len (by omega) fun H4 g4 s4 => ?_
  have x := x.st (by omega) s4
  have g1 := (s4 n (by omega)).trans g1
  have hx : EI G H4 (Al n (n2 + 1) n2) c e1 := hx.mono (fun id h => ⟨by have := h.1; omega, by have := h.2; omega, by have := h.2; omega⟩) fun id h => (s4 id (by have := h.2; omega)).trans (f3.same id h.2)
  refine KY (J := fun g q => ∃ H' n' t c e1, q = (.ptr pb 0, .ptr n 0, .ptr n2 0, H', n') /\ Fr G pb H n H' n' t /\ n2 < n' /\ T.get H' n = some (one vN) /\ T.get H' n2 = some (one c) /\ EI G H' (Al n n' n2) c e1 /\ Yl rec g e1 t = some (e, s')) ?_ (m := f)
    ⟨H4, n2 + 1, s1, c, e1, rfl, x, by omega, g1, g4, hx, hm⟩
  rintro I g q ⟨H5, n5, t, c, e1, rfl, x, hn5, g1, g4, hx, hm⟩ ih
  show KG lfp G (Runs F G) k I (.ptr pb 0) (.ptr n 0) (.ptr n2 0) H5 n5
  delta KG
  cases g with
  | zero => cases hm
  | succ g =>
    obtain ⟨v, tid, o, line, col, e0, ea, _, _, _, _, _, e5⟩ := x.p.tok
    refine AL (v := .ptr pb 0) rfl (AL (v := .ptr pb 0) rfl (AL e0 (AL ea (AL (v := .ptr tid (o + 3)) (Aj ..) (AL e5 ?_)))))
    refine BA rfl fun H8 f8 g8 => ?_
    have x := x.al f8
    refine CJ g8 rfl (L := [.int .i64 (.ofNat line) 0, .int .i64 (.ofNat col) 0]) rfl (by omega) fun H9 g9 s9 => ?_
    have x := x.st (by omega) s9
    have g1 := (s9 n (by omega)).trans (f8.get g1 (by omega))
    have g4 := (s9 n2 (by omega)).trans (f8.get g4 (by omega))
    have hx : EI G H9 (Al n n5 n2) c e1 := hx.mono (fun id h => h) fun id h => (s9 id (by have := h.2.1; omega)).trans (f8.same id h.2.1)
    obtain ⟨⟨b, t2⟩, h2, hm⟩ := Option.bind_eq_some_iff.1 hm
    have hm : (bif b then (rec t2).bind fun q => (Ce [XC] q.2).bind fun s1 => Yl rec g (.mk 12 0 [] [] false [e1, q.1]) s1 else
      (Cc ZB t2).bind fun p => bif p.1 then (jB rec g e1 p.2).bind fun q => Yl rec g q.1 q.2 else some (e1, p.2)) = some (e, s') := hm
    rw [show V.str 1 91 = sB V4 from rfl]
    refine KO x.p x.lt h2 fun H10 n10 y => ?_
    have x := x.tr y
    have hn10 := y.le
    have g1 := y.get g1 (by omega) hb
    have g4 := y.get g4 (by omega) (by omega)
    have g9 := y.get g9 (by omega) (by omega)
    have hx : EI G H10 (Al n n5 n2) c e1 := hx.mono (fun id h => h) fun id h => y.f.same id (by have := h.2.1; omega) (by have := h.1; omega)
    cases b with
    | true =>
      rw [cond_true] at hm
      obtain ⟨⟨e2, t3⟩, h3, hm⟩ := Option.bind_eq_some_iff.1 hm
      obtain ⟨t4, h4, hm⟩ := Option.bind_eq_some_iff.1 hm
      rw [CS, Au (m := 2) g9 (by omega) rfl, BH, Au (m := 11) g4 (by omega) hx.len, BH]
      refine hr _ _ _ _ _ _ x.p x.lt h3 fun H11 n11 c2 y hx2 => ?_
      have x := x.tr y
      have hn11 := y.le
      have g1 := y.get g1 (by omega) hb
      have g4 := y.get g4 (by omega) (by omega)
      have g9 := y.get g9 (by omega) (by omega)
      have hx : EI G H11 (Al n n5 n2) c e1 := hx.mono (fun id h => h) fun id h => y.f.same id (by have := h.2.1; omega) (by have := h.1; omega)
      rw [Au (m := 2) g9 (by omega) rfl, BH, Au (m := 11) g4 (by omega) hx.len]
      refine Dx (Ua ..) (Dx hx.vs ?_)
      refine NJ (G := G) (vs := [.agg c, .agg c2]) rfl (by omega) (fun v hv => by simp at hv; rcases hv with rfl | rfl; exact hx.ok; exact hx2.ok) fun H12 f12 _ hel => ?_
      have x := x.al f12
      have g1 := f12.get g1 (by omega)
      have g4 := f12.get g4 (by omega)
      refine AL AC5 ?_
      refine CJ g4 hx.len rfl (by omega) fun H13 g4 s13 => ?_
      have x := x.st (by omega) s13
      have g1 := (s13 n (by omega)).trans g1
      refine Iz (ws := [XC]) x.p x.lt rfl (by show 1 <= 1000; omega) h4 fun H14 n14 y => ?_
      have x := x.tr y
      have hn14 := y.le
      have g1 := y.get g1 (by omega) hb
      have g4 := y.get g4 (by omega) (by omega)
      have same : ∀ id, n < id -> id ≠ n2 -> id < n11 + 1 -> T.get H14 id = T.get H12 id := fun id h1 h2 h3 => (y.f.same id (by omega) (by omega)).trans (s13 id h2)
      refine ih g _ (by omega) ⟨H14, n14, t4, _, .mk 12 0 [] [] false [e1, e2], rfl, x, by omega, g1, g4, ?_, hm⟩
      refine .mk 12 0 [] [] false line col (hel.same fun id hid => by cases Gm hid; exact same _ (by omega) (by omega) (by omega)) (ZC ..) (fun id hid => by cases Gm hid; exact ⟨by omega, by omega, by omega⟩) ?_
      refine .cons (hx.mono (fun id h => ⟨h.1, by have := h.2.1; omega, h.2.2⟩) fun id h => ?_) (.cons (hx2.mono (fun id h => ⟨by have := h.1; omega, by have := h.2; omega, by have := h.1; omega⟩) fun id h => ?_) .nil)
      · have h1 := h.1; have h2 := h.2.1
        exact (same id h1 h.2.2 (by omega)).trans (f12.same id (by omega))
      · have h1 := h.1; have h2 := h.2
        exact (same id (by omega) (by omega) (by omega)).trans (f12.same id h2)
    | false =>
      rw [cond_false] at hm
      obtain ⟨⟨b, t3⟩, h3, hm⟩ := Option.bind_eq_some_iff.1 hm
      have hm : (bif b then (jB rec g e1 t3).bind fun q => Yl rec g q.1 q.2 else some (e1, t3)) = some (e, s') := hm
      rw [CG, show V.str 1 46 = sB ZB from rfl]
      refine KO x.p x.lt h3 fun H11 n11 y => ?_
      have x := x.tr y
      have hn11 := y.le
      have g1 := y.get g1 (by omega) hb
      have g4 := y.get g4 (by omega) (by omega)
      have g9 := y.get g9 (by omega) (by omega)
      have hx : EI G H11 (Al n n5 n2) c e1 := hx.mono (fun id h => h) fun id h => y.f.same id (by have := h.2.1; omega) (by have := h.1; omega)
      cases b with
      | true =>
        rw [cond_true] at hm
        obtain ⟨⟨e2, t4⟩, h4, hm⟩ := Option.bind_eq_some_iff.1 hm
        rw [CS, Au (m := 11) g4 (by omega) hx.len, BH, Au (m := 2) g9 (by omega) rfl, BH]
        refine AGI hr (fun id h => ⟨by have := h.1; omega, by have := h.2.1; omega⟩) hx x.p x.lt h4 fun H12 n12 c2 y hx2 => ?_
        have x := x.tr y
        have hn12 := y.le
        have g1 := y.get g1 (by omega) hb
        have g4 := y.get g4 (by omega) (by omega)
        refine CJ g4 hx.len hx2.len (by omega) fun H13 g4 s13 => ?_
        have x := x.st (by omega) s13
        have g1 := (s13 n (by omega)).trans g1
        refine ih g _ (by omega) ⟨H13, n12, t4, c2, e2, rfl, x, by omega, g1, g4, ?_, hm⟩
        refine hx2.mono (fun id h => ?_) fun id h => s13 id ?_
        · rcases h with h | h
          · exact ⟨h.1, by have := h.2.1; omega, h.2.2⟩
          · exact ⟨by have := h.1; omega, h.2, by have := h.1; omega⟩
        · rcases h with h | h
          · exact h.2.2
          · have := h.1; omega
      | false =>
        cases hm
        rw [CG]
        exact gK x g1 rfl g4 (Nat.le_refl _) hx (fun id h => ⟨by have := h.1; omega, by have := h.2.1; omega, by have := h.1; omega⟩) hk
end
end Go.PQ
namespace Go.PQ
open Go.Eng
set_option maxRecDepth 100000
theorem ANC {kd : Nat} {x y : V} {nm : Bs} {id o l c : Nat} : BZ vN [(0, 1, .c (.int .i64 (.ofNat kd) 0)), (1, 2, .c (.agg [x, y])), (5, 2, .c (.agg [sB nm, .bool false])), (7, 1, .c (.sl id o l c 11))] =
    some (.agg [.int .i64 (.ofNat kd) 0, x, y, .int .i64 (.ofNat 0) 0, .str 0 0, sB nm, .bool false, .sl id o l c 11, .str 0 0, .bool false, .str 0 0]) := rfl
section
variable {G : AP} {pb : Nat} {H0 : Heap} {n0 : Nat} {s s' : S} {k : KV}
theorem AFY {rec : PM Ex} {f : Nat} {e : Ex} {H : Heap} {n : Nat} (hr : ACf G pb rec) (x : Fr G pb H0 n0 H n s) (gr : T.get H n0 = some (one vN)) (hn0 : n0 < n) (hm : ((Z5 rec f s).bind fun p => asL f p.1 p.2) = some (e, s')) (hk : ExK G pb H0 n0 s' e k) :
    GL lfp G (Runs F G) k (.ptr pb 0) (.ptr n0 0) .undef H n := by
  delta GL
  have hb := x.b
  obtain ⟨⟨e1, s1⟩, h1, hm⟩ := Option.bind_eq_some_iff.1 hm
  have hm : asL f e1 s1 = some (e, s') := hm
  refine AIj hr x.p x.lt h1 fun H2 n2 c y hx => ?_
  have x := x.tr y
  have g1 := y.get gr hn0 hb
  have hn2 := y.le
  refine BA rfl fun H3 f3 g3 => ?_
  have x := x.al f3
  have g1 := f3.get g1 (by omega)
  refine CJ g3 rfl hx.len (by omega) fun H4 g4 s4 => ?_
  have x := x.st (by omega) s4
  have g1 := (s4 n0 (by omega)).trans g1
  have hx : EI G H4 (Al n0 (n2 + 1) n2) c e1 := hx.mono (fun id h => ⟨by have := h.1; omega, by have := h.2; omega, by have := h.2; omega⟩) fun id h => (s4 id (by have := h.2; omega)).trans (f3.same id h.2)
  refine KY (J := fun g q => ∃ H' n' t c e1, q = (.ptr pb 0, .ptr n0 0, .ptr n2 0, .undef, H', n') /\ Fr G pb H0 n0 H' n' t /\ n2 < n' /\ T.get H' n0 = some (one vN) /\ T.get H' n2 = some (one c) /\ EI G H' (Al n0 n' n2) c e1 /\ asL g e1 t = some (e, s')) ?_ (m := f)
    ⟨H4, n2 + 1, s1, c, e1, rfl, x, by omega, g1, g4, hx, hm⟩
  rintro I g q ⟨H5, n5, t, c, e1, rfl, x, hn5, g1, g4, hx, hm⟩ ih
  show Jt lfp G (Runs F G) k I (.ptr pb 0) (.ptr n0 0) (.ptr n2 0) .undef H5 n5
  delta Jt
  cases g with
  | zero => cases hm
  | succ g =>
    have hm : (bif Oj [AA7, pz] t then (Ko t).bind fun s1 => (Hr 2 s1).bind fun p => asL g (.mk (bif decide (t.t.text = pz) then 20 else 19) 0 [] p.1 false [e1]) p.2 else some (e1, t)) = some (e, s') := hm
    refine eu (ws := [AA7, pz]) x.p x.lt rfl (by show 2 <= 1000; omega) fun H6 n6 y => ?_
    have x := x.tr y
    have hn6 := y.le
    have g1 := y.get g1 (by omega) hb
    have g4 := y.get g4 (by omega) (by omega)
    have hx : EI G H6 (Al n0 n5 n2) c e1 := hx.mono (fun id h => h) fun id h => y.f.same id h.2.1 (by have := h.1; omega)
    cases hi : Oj [AA7, pz] t with
    | false =>
      rw [hi] at hm
      cases hm
      rw [CG]
      delta Jq
      show AU (Az 11 (.ptr n2 0) G H6) fun v15 => Bd 11 (.ptr n0 0) v15 H6 n6 fun _ H n => Es (BN [.cn (.ptr n0 0) 11] G H) fun l => k (Eh l) H n
      exact gK x g1 rfl g4 (Nat.le_refl _) hx (fun id h => ⟨by have := h.1; omega, by have := h.2.1; omega, by have := h.1; omega⟩) hk
    | true =>
      rw [hi, cond_true] at hm
      obtain ⟨t1, h1, hm⟩ := Option.bind_eq_some_iff.1 hm
      obtain ⟨⟨nm, t2⟩, h2, hm⟩ := Option.bind_eq_some_iff.1 hm
      rw [CS]
      refine Wp x.p x.lt h1 fun H7 n7 line col _ _ y => ?_
      have x := x.tr y
      have hn7 := y.le
      have g1 := y.get g1 (by omega) hb
      have g4 := y.get g4 (by omega) (by omega)
      have hx : EI G H7 (Al n0 n5 n2) c e1 := hx.mono (fun id h => h) fun id h => y.f.same id (by have := h.2.1; omega) (by have := h.1; omega)
      refine BA rfl fun H8 f8 g8 => ?_
      have x := x.al f8
      refine CJ g8 rfl (L := Pv t.t line col) rfl (by omega) fun H9 g9 s9 => ?_
      have x := x.st (by omega) s9
      have g1 := (s9 n0 (by omega)).trans (f8.get g1 (by omega))
      have g4 := (s9 n2 (by omega)).trans (f8.get g4 (by omega))
      have hx : EI G H9 (Al n0 n5 n2) c e1 := hx.mono (fun id h => h) fun id h => (s9 id (by have := h.2.1; omega)).trans (f8.same id (by have := h.2.1; omega))
      have q1 : Aa (.ptr n7 1) G H9 = some (sB t.t.text) := Ad g9 rfl
      refine AL (v := .ptr n7 1) (by rw [Aj, Nat.zero_add]) (AL q1 (AL (show Ig (.one .str) false (sB t.t.text) (.str 2 29545) = _ from AE9 _ pz) ?_))
      have body : ∀ kd, asL g (.mk kd 0 [] nm false [e1]) t2 = some (e, s') -> Ec lfp G (Runs F G) k I (.ptr pb 0) (.ptr n0 0) (.ptr n2 0) (.ptr n7 0) (.int .i64 (.ofNat kd) 0) .undef H9 (n7 + 1) := by
        intro kd hm
        delta Ec
        refine AL (v := .ptr n7 3) (by rw [Aj, Nat.zero_add]) (AL (Je (m := 2) (o := 3) g9 (by omega) (by show 3 + 2 <= 5; omega)) (AL (Au (m := 11) g4 (by omega) hx.len) ?_))
        refine NJ (G := G) (vs := [.agg c]) rfl (by omega) (fun v hv => by simp at hv; subst hv; exact hx.ok) fun H10 f10 _ hel => ?_
        have x := x.al f10
        have g1 := f10.get g1 (by omega)
        have g4 := f10.get g4 (by omega)
        have g9 := f10.get g9 (by omega)
        have hx : EI G H10 (Al n0 n5 n2) c e1 := hx.mono (fun id h => h) fun id h => f10.same id (by have := h.2.1; omega)
        refine XK x.p x.lt h2 fun H11 n11 y => ?_
        have x := x.tr y
        have hn11 := y.le
        have g1 := y.get g1 (by omega) hb
        have g4 := y.get g4 (by omega) (by omega)
        have g9 := y.get g9 (by omega) (by omega)
        have hx : EI G H11 (Al n0 n5 n2) c e1 := hx.mono (fun id h => h) fun id h => y.f.same id (by have := h.2.1; omega) (by have := h.1; omega)
        have hel : El G H11 (.sl (n7 + 1) 0 1 1 11) 11 [c] := hel.same fun id hid => by cases Gm hid; exact y.f.same _ (by omega) (by omega)
        refine AL (Je (m := 2) (o := 3) g9 (by omega) (by show 3 + 2 <= 5; omega)) (Dx (Ua ..) (AL (Au (m := 11) g4 (by omega) hx.len) (Dx hx.vs ?_)))
        refine rP fun H12 f12 => ?_
        have x := x.al f12
        have g1 := f12.get g1 (by omega)
        have g4 := f12.get g4 (by omega)
        have g9 := f12.get g9 (by omega)
        have hx : EI G H12 (Al n0 n5 n2) c e1 := hx.mono (fun id h => h) fun id h => f12.same id (by have := h.2.1; omega)
        have hel : El G H12 (.sl (n7 + 1) 0 1 1 11) 11 [c] := hel.same fun id hid => by cases Gm hid; exact f12.same _ (by omega)
        refine AL (Je (m := 2) (o := 3) g9 (by omega) (by show 3 + 2 <= 5; omega)) (Dx (Ua ..) (AL (Au (m := 11) g4 (by omega) hx.len) (Dx hx.vs ?_)))
        refine AL ANC ?_
        refine CJ g4 hx.len rfl (by omega) fun H13 g4 s13 => ?_
        have x := x.st (by omega) s13
        refine ih g _ (by omega) ⟨H13, n11 + 1, t2, _, .mk kd 0 [] nm false [e1], rfl, x, by omega, (s13 n0 (by omega)).trans g1, g4, ?_, hm⟩
        exact .mk kd 0 [] nm false line col (hel.same fun id hid => by cases Gm hid; exact s13 _ (by omega)) (ZC ..) (fun id hid => by cases Gm hid; exact ⟨by omega, by omega, by omega⟩)
          (.cons (hx.mono (fun id h => ⟨h.1, by have := h.2.1; omega, h.2.2⟩) fun id h => s13 id h.2.2) .nil)
      cases hd : decide (t.t.text = pz) with
      | true => rw [hd] at hm; rw [CS]; exact body 20 hm
      | false => rw [hd] at hm; rw [CG]; exact body 19 hm
end
section
variable {G : AP} {pb : Nat}
theorem AD5 {rec : PM Ex} (hr : ACf G pb rec) : ∀ f, FnC G pb [] (unary rec f) (.fn Bl [.ptr pb 0] [])
 | 0 => fun s H n s' e k _ _ _ hm _ => by cases hm
 | f + 1 => by
  have ihf := AD5 hr f
  intro s H n s' e k h hb hbs hm hk
  rw [dW]
  show Runs F G Bl [.ptr pb 0] H n k
  refine BO (s := Dz (Gs lfp G)) MO (by obtain ⟨h, o⟩ := Q7 BP G; rw [MO] at h; cases h; exact o) ?_
  show Gs lfp G (Runs F G) (.ptr pb 0) H n k
  delta Gs
  have x := Fr.refl h hb
  refine BA rfl fun H1 f1 g1 => ?_
  have x := x.al f1
  obtain ⟨v, tid, o, line, col, e0, ea, _, _, _, _, _, e5⟩ := x.p.tok
  refine AL (v := .ptr pb 0) rfl (AL (v := .ptr pb 0) rfl (AL e0 (AL ea (AL (v := .ptr tid (o + 3)) (Aj ..) (AL e5 ?_)))))
  refine BA rfl fun H8 f8 g8 => ?_
  have x := x.al f8
  refine CJ g8 rfl (L := [.int .i64 (.ofNat line) 0, .int .i64 (.ofNat col) 0]) rfl (by omega) fun H9 g9 s9 => ?_
  have x := x.st (by omega) s9
  have g1 := (s9 n (by omega)).trans (f8.get g1 (by omega))
  refine dM (G := G) (ws := [CO, RJ]) rfl fun H10 f10 hel => ?_
  have x := x.al f10
  have g1 := f10.get g1 (by omega)
  have g9 := f10.get g9 (by omega)
  refine AL hel.len ?_
  have hm : (bif Oj [CO] s then (Qs s).bind fun s1 => (Ko s1).bind fun s2 => (unary rec f s2).bind fun p => (bD p.2).bind fun s' => some (.mk 14 0 [] [] false [p.1], s') else
   bif Oj [RJ] s then (Qs s).bind fun s1 => (Ko s1).bind fun s2 => (unary rec f s2).bind fun p => (bD p.2).bind fun s' => some (.mk 15 0 [] [] false [p.1], s') else
   (Z5 rec f s).bind fun p => asL f p.1 p.2) = some (e, s') := hm
  refine VF (N := 2) (J := fun j q => ∃ H' n', q = (.ptr pb 0, .ptr n 0, .ptr (n + 1) 0, .sl (n + 2) 0 2 2 1, .int .i64 (.ofNat 2) 0, .int .i64 (.ofNat j) 0, .undef, H', n') /\ Fr G pb H n H' n' s /\ n + 2 < n' /\ T.get H' n = some (one vN) /\
   T.get H' (n + 1) = some (one [.int .i64 (.ofNat line) 0, .int .i64 (.ofNat col) 0]) /\ El G H' (.sl (n + 2) 0 2 2 1) 1 (wsC [CO, RJ]) /\ (0 < j -> Oj [CO] s = false) /\ (1 < j -> Oj [RJ] s = false)) ?_ ?_
   ⟨H10, _, rfl, x, by omega, g1, g9, hel, fun h => by omega, fun h => by omega⟩
  ·rintro I j q hlt ⟨H2, n2, rfl, x, hn2, g1, g9, hel, hj0, hj1⟩ ih
   show EY lfp G (Runs F G) k I (.ptr pb 0) (.ptr n 0) (.ptr (n + 1) 0) (.sl (n + 2) 0 2 2 1) (.int .i64 (.ofNat 2) 0) (.int .i64 (.ofNat j) 0) .undef H2 n2
   delta EY
   have hj : j < [CO, RJ].length := hlt
   obtain ⟨p, hp, hld⟩ := hel.at (ACN hj)
   refine AL (Q8 ..) ?_
   rw [decide_eq_true hlt, CS]
   refine AL hp (AL (Y0 hld) ?_)
   refine eu (ws := [[CO, RJ][j]]) x.p x.lt rfl (by show 1 <= 1000; omega) fun H3 n3 y => ?_
   have x := x.tr y
   have hn3 := y.le
   have g1 := y.get g1 (by omega) hb
   have g9 := y.get g9 (by omega) (by omega)
   have hel : El G H3 (.sl (n + 2) 0 2 2 1) 1 (wsC [CO, RJ]) := hel.same fun id hid => by cases Gm hid; exact y.f.same _ (by omega) (by omega)
   cases hi : Oj [[CO, RJ][j]] s with
   | false =>
    rw [CG]
    refine AL (Kq (show j + 1 < 9223372036854775808 by omega)) ?_
    refine ih _ ⟨H3, n3, rfl, x, by omega, g1, g9, hel, fun _ => ?_, fun h => ?_⟩
    ·rcases Nat.eq_zero_or_pos j with h0 | h0
     ·subst h0; exact hi
     ·exact hj0 h0
    ·have : j = 1 := by omega
     subst this; exact hi
   | true =>
    have hm : ((Qs s).bind fun s1 => (Ko s1).bind fun s2 => (unary rec f s2).bind fun p => (bD p.2).bind fun s' => some ((.mk (14 + j) 0 [] [] false [p.1] : Ex), s')) = some (e, s') := by
     rcases Nat.eq_zero_or_pos j with h0 | h0
     ·subst h0
      have hi : Oj [CO] s = true := hi
      rw [hi] at hm; exact hm
     ·have : j = 1 := by omega
      subst this
      have hi : Oj [RJ] s = true := hi
      rw [hj0 h0, hi] at hm; exact hm
    obtain ⟨s1, h1, hm⟩ := Option.bind_eq_some_iff.1 hm
    obtain ⟨s2, h2, hm⟩ := Option.bind_eq_some_iff.1 hm
    obtain ⟨⟨e1, s3⟩, h3, hm⟩ := Option.bind_eq_some_iff.1 hm
    obtain ⟨s4, h4, hm⟩ := Option.bind_eq_some_iff.1 hm
    cases hm
    rw [CS]
    refine yU x.p x.lt h1 fun H4 n4 q y hq1 hq2 hq3 => ?_
    have x := x.tr y
    have hn4 := y.le
    have g1 := y.get g1 (by omega) hb
    have g9 := y.get g9 (by omega) (by omega)
    rw [qw]
    refine Wp x.p x.lt h2 fun H5 n5 l5 c5 _ _ y => ?_
    have x := x.tr y
    have hn5 := y.le
    have g1 := y.get g1 (by omega) hb
    have g9 := y.get g9 (by omega) (by omega)
    have hq3 := y.get hq3 hq2 (by omega)
    refine NJ (G := G) (vs := [.int .i64 (.ofNat 14) 0, .int .i64 (.ofNat 15) 0]) rfl (by omega) (fun v hv => by simp at hv; rcases hv with rfl | rfl <;> exact ⟨rfl, rfl⟩) fun H6 f6 _ hel6 => ?_
    have x := x.al f6
    have g1 := f6.get g1 (by omega)
    have g9 := f6.get g9 (by omega)
    have hq3 := f6.get hq3 (by omega)
    have hj6 : ([V.int .i64 (.ofNat 14) 0, .int .i64 (.ofNat 15) 0].map BK)[j]? = some [.int .i64 (.ofNat (14 + j)) 0] := by
     rcases Nat.eq_zero_or_pos j with h0 | h0
     ·subst h0; rfl
     ·have : j = 1 := by omega
      subst this; rfl
    obtain ⟨p6, hp6, hld6⟩ := hel6.at hj6
    have hp6' : p6 = .ptr n5 (j * 1) := by
     have : BU 1 (.sl n5 0 2 2 1) (.int .i64 (.ofNat j) 0) = some (.ptr n5 ((0 + j) * 1)) := by
      show Aq (band (Nat.beq 1 1) (Nat.blt j 2)) (CQ ((0 + j) * 1) fun o => some (.ptr n5 o)) = _
      rw [show Nat.blt j 2 = true by rw [Nat.blt_eq]; exact hlt, BJ]; rfl
     rw [this, Nat.zero_add] at hp6
     exact (Option.some.inj hp6).symm
    refine AL hp6 (AL (Y0 hld6) (AL (Au (m := 2) g9 (by omega) rfl) ?_))
    have keep : ∀ H', T.get H' n5 = T.get H6 n5 -> Aa p6 G H' = some (.int .i64 (.ofNat (14 + j)) 0) := by
     intro H' hs
     rw [hp6'] at hld6 ⊢
     rw [oM]
     show Ku (ZI H' n5 (j * 1) 1) _ = _
     have : ZI H' n5 (j * 1) 1 = ZI H6 n5 (j * 1) 1 := by unfold ZI; rw [hs]
     rw [this, show ZI H6 n5 (j * 1) 1 = _ from hld6]; rfl
    have hrun : ∀ {H : Heap} {n : Nat} {k : KV}, Vl (.fn Bl [.ptr pb 0] []) [] (Runs F G) H n k -> Runs F G Bl [.ptr pb 0] H n k := fun h => h
    refine hrun (ihf _ _ _ _ _ _ x.p x.lt Bxs.nil h3 fun H7 n7 c y hx => ?_)
    have x := x.tr y
    have hn7 := y.le
    have g1 := y.get g1 (by omega) hb
    have g9 := y.get g9 (by omega) (by omega)
    have hq3 := y.get hq3 (by omega) (by omega)
    refine AL (keep _ (y.f.same _ (by omega) (by omega))) (Dx (nS ..) (AL (Au (m := 2) g9 (by omega) rfl) (Dx (Ua ..) ?_)))
    refine NJ (G := G) (vs := [.agg c]) rfl (by omega) (fun v hv => by simp at hv; subst hv; exact hx.ok) fun H8 f8 _ hel8 => ?_
    have x := x.al f8
    have g1 := f8.get g1 (by omega)
    have g9 := f8.get g9 (by omega)
    have hq3 := f8.get hq3 (by omega)
    refine CJ (L := vN) g1 rfl rfl (by omega) fun H9 g1 s9 => ?_
    have x := x.st (Nat.le_refl _) s9
    have g9 := (s9 (n + 1) (by omega)).trans g9
    have hq3 := (s9 q (by omega)).trans hq3
    have k9 := keep H9 ((s9 n5 (by omega)).trans ((f8.same _ (by omega)).trans (y.f.same _ (by omega) (by omega))))
    refine AL k9 (Dx (nS ..) (AL (Au (m := 2) g9 (by omega) rfl) (Dx (Ua ..) (AL (v := .ptr n 0) (Aj ..) ?_))))
    refine Dp g1 rfl rfl (by omega) (by show 0 + 1 <= 11; omega) fun H10 g1 s10 => ?_
    have x := x.st (Nat.le_refl _) s10
    have g9 := (s10 (n + 1) (by omega)).trans g9
    have hq3 := (s10 q (by omega)).trans hq3
    refine AL (Au (m := 2) g9 (by omega) rfl) (Dx (Ua ..) (AL (v := .ptr n 1) (by rw [Aj, Nat.zero_add]) ?_))
    refine Dp g1 rfl rfl (by omega) (by show 1 + 2 <= 11; omega) fun H11 g1 s11 => ?_
    have x := x.st (Nat.le_refl _) s11
    have hq3 := (s11 q (by omega)).trans hq3
    refine AL (v := .ptr n 7) (by rw [Aj, Nat.zero_add]) ?_
    refine Dp g1 rfl rfl (by omega) (by show 7 + 1 <= 11; omega) fun H12 g1 s12 => ?_
    have x := x.st (Nat.le_refl _) s12
    have hq3 := (s12 q (by omega)).trans hq3
    have g1 : T.get H12 n = some (one (exC (14 + j) 0 [] [] false line col (.sl n7 0 1 1 11))) := g1
    have same : ∀ id, id ≠ n -> T.get H12 id = T.get H8 id := fun id h => (s12 id h).trans ((s11 id h).trans ((s10 id h).trans (s9 id h)))
    refine AJV x.p x.lt hq3 h4 fun H13 n13 y => ?_
    have x := x.tr y
    have hn13 := y.le
    have g1 := y.get g1 (by omega) hb
    rw [BI (m := 11) g1 (by omega) rfl]
    simp only [go_sem]
    refine hk _ _ _ x (.mk (14 + j) 0 [] [] false line col (hel8.same fun id hid => by cases Gm hid; exact (y.f.same _ (by omega) (by omega)).trans (same _ (by omega))) (ZC ..) (fun id hid => by cases Gm hid; exact ⟨by omega, by omega⟩) (.cons ?_ .nil))
    exact hx.mono (fun id h => ⟨by have := h.1; omega, by have := h.2; omega⟩) fun id h => (y.f.same id (by have := h.2; omega) (by have := h.1; omega)).trans ((same id (by have := h.1; omega)).trans (f8.same id h.2))
  ·rintro I q ⟨H2, n2, rfl, x, hn2, g1, g9, hel, hj0, hj1⟩
   show EY lfp G (Runs F G) k I (.ptr pb 0) (.ptr n 0) (.ptr (n + 1) 0) (.sl (n + 2) 0 2 2 1) (.int .i64 (.ofNat 2) 0) (.int .i64 (.ofNat 2) 0) .undef H2 n2
   delta EY
   refine AL (Q8 ..) ?_
   rw [show decide (2 < 2) = false from rfl, CG]
   rw [hj0 (by omega), hj1 (by omega)] at hm
   exact AFY hr x g1 (by omega) hm hk
theorem iT : ∀ f, ACf G pb (expr f)
 | 0 => fun s H n s' e k _ _ hm _ => by cases hm
 | f + 1 => fun s H n s' e k h hb hm hk => AIk (rec := expr f) (f := f) (AD5 (iT f) f) h hb hm hk
end
end Go.PQ
namespace Go.PQ
open Go.Eng
set_option maxRecDepth 100000
def vO (does : Nat) (line col : Nat) (nm : Bs) (ty : Ty) (ve vt vl : V) : LV :=
 [.int .i64 (.ofNat does) 0, .int .i64 (.ofNat line) 0, .int .i64 (.ofNat col) 0, sB nm, sB ty.nm, .bool ty.arr, ve, vt, vl]
theorem gG.mono {G : AP} {H H' : Heap} {A B : Nat -> Prop} {v : V} {es : List Ex} (h : gG G H A v es) (hA : ∀ id, A id -> B id) (hs : ∀ id, A id -> T.get H' id = T.get H id) : gG G H' B v es := by
 obtain ⟨cs, h1, h2, h3, h4, h5, h6⟩ := h
 exact ⟨cs, h1.same fun id hid => hs id (h5 id hid), h2, h3, h4, fun id hid => hA id (h5 id hid), h6.mono hA hs⟩
theorem gG.nil {G : AP} {H : Heap} {A : Nat -> Prop} : gG G H A .Ag [] := ⟨[], AB9, rfl, rfl, rfl, (fun _ h => by cases h), .nil⟩
mutual
inductive bU (G : AP) (H : Heap) (A : Nat -> Prop) : LV -> St -> Prop where
 | mk (does : Nat) (nm : Bs) (ty : Ty) (line col : Nat) {ve vt vl : V} {es : List Ex} {th el : List St} {ct cl : Dk} (he : gG G H A ve es) (ht : El G H vt 9 ct) (at' : ∀ id, vt.Ul = some id -> A id) (st : XE G H A ct th)
  (hl : El G H vl 9 cl) (al : ∀ id, vl.Ul = some id -> A id) (sl : XE G H A cl el) : bU G H A (vO does line col nm ty ve vt vl) (.mk does nm ty es th el)
inductive XE (G : AP) (H : Heap) (A : Nat -> Prop) : Dk -> List St -> Prop where
 | nil : XE G H A [] []
 | cons {c : LV} {e : St} {cs : Dk} {es : List St} (h : bU G H A c e) (t : XE G H A cs es) : XE G H A (c :: cs) (e :: es)
end
mutual
theorem bU.mono {G : AP} {H H' : Heap} {A B : Nat -> Prop} (hA : ∀ id, A id -> B id) (hs : ∀ id, A id -> T.get H' id = T.get H id) : ∀ {c : LV} {e : St}, bU G H A c e -> bU G H' B c e
  | _, _, .mk does nm ty line col he ht a1 st hl a2 sl => .mk does nm ty line col (he.mono hA hs) (ht.same fun id hid => hs id (a1 id hid)) (fun id hid => hA id (a1 id hid)) (XE.mono hA hs st)
      (hl.same fun id hid => hs id (a2 id hid)) (fun id hid => hA id (a2 id hid)) (XE.mono hA hs sl)
theorem XE.mono {G : AP} {H H' : Heap} {A B : Nat -> Prop} (hA : ∀ id, A id -> B id) (hs : ∀ id, A id -> T.get H' id = T.get H id) : ∀ {cs : Dk} {es : List St}, XE G H A cs es -> XE G H' B cs es
 | _, _, .nil => .nil
 | _, _, .cons h t => .cons (bU.mono hA hs h) (XE.mono hA hs t)
end
theorem XE.app {G : AP} {H : Heap} {A : Nat -> Prop} : ∀ {cs : Dk} {es : List St} {cs' : Dk} {es' : List St}, XE G H A cs es -> XE G H A cs' es' -> XE G H A (cs ++ cs') (es ++ es')
 | _, _, _, _, .nil, h => h
 | _, _, _, _, .cons h t, h' => .cons h (t.app h')
theorem XE.len {G : AP} {H : Heap} {A : Nat -> Prop} : ∀ {cs : Dk} {es : List St}, XE G H A cs es -> cs.length = es.length
 | _, _, .nil => rfl
 | _, _, .cons h t => by simp [t.len]
theorem bU.len {G : AP} {H : Heap} {A : Nat -> Prop} {c : LV} {e : St} (h : bU G H A c e) : c.length = 9 := by cases h; rfl
theorem bU.ok {G : AP} {H : Heap} {A : Nat -> Prop} {c : LV} {e : St} (h : bU G H A c e) : XF (.agg c) = true /\ (BK (.agg c)).length = 9 := ⟨rfl, h.len⟩
def mX (G : AP) (H : Heap) (A : Nat -> Prop) (v : V) (sts : List St) : Prop := ∃ cs, El G H v 9 cs /\ XF v = true /\ BK v = [v] /\ (∀ id, v.Ul = some id -> A id) /\ XE G H A cs sts
theorem mX.mono {G : AP} {H H' : Heap} {A B : Nat -> Prop} {v : V} {es : List St} (h : mX G H A v es) (hA : ∀ id, A id -> B id) (hs : ∀ id, A id -> T.get H' id = T.get H id) : mX G H' B v es := by
 obtain ⟨cs, h1, h3, h4, h5, h6⟩ := h
 exact ⟨cs, h1.same fun id hid => hs id (h5 id hid), h3, h4, fun id hid => hA id (h5 id hid), h6.mono hA hs⟩
theorem mX.nil {G : AP} {H : Heap} {A : Nat -> Prop} : mX G H A .Ag [] := ⟨[], AB9, rfl, rfl, (fun _ h => by cases h), .nil⟩
theorem bU.of {G : AP} {H : Heap} {A : Nat -> Prop} {does line col : Nat} {nm : Bs} {ty : Ty} {ve vt vl : V} {es : List Ex} {th el : List St} (he : gG G H A ve es) (ht : mX G H A vt th) (hl : mX G H A vl el) : bU G H A (vO does line col nm ty ve vt vl) (.mk does nm ty es th el) := by
 obtain ⟨ct, h1, _, _, h2, h3⟩ := ht
 obtain ⟨cl, k1, _, _, k2, k3⟩ := hl
 exact .mk does nm ty line col he h1 h2 h3 k1 k2 k3
def StK (G : AP) (pb : Nat) (H : Heap) (n : Nat) (s' : S) (e : St) (k : KV) : Prop := ∀ H' n' c, Fr G pb H n H' n' s' -> bU G H' (Rg n n') c e -> k (.agg c) H' n'
def SsK (G : AP) (pb : Nat) (H : Heap) (n : Nat) (s' : S) (es : List St) (k : KV) : Prop := ∀ H' n' v, Fr G pb H n H' n' s' -> mX G H' (Rg n n') v es -> k v H' n'
def StC (G : AP) (pb : Nat) (fn : Nat) (m : PM St) : Prop := ∀ (s : S) (H : Heap) (n : Nat) (s' : S) (e : St) (k : KV), Vw G H pb s -> pb < n -> m s = some (e, s') -> StK G pb H n s' e k -> Runs F G fn [.ptr pb 0] H n k
section
variable {G : AP} {pb : Nat} {H : Heap} {n : Nat} {s s' : S} {k : KV}
theorem qR {st : PM St} {f : Nat} {es : List St} (hst : StC G pb EJ st) (h : Vw G H pb s) (hb : pb < n) (hm : Om st f s = some (es, s')) (hk : SsK G pb H n s' es k) : Runs F G Gi [.ptr pb 0] H n k := by
 refine BO (s := Dz (Gq lfp G)) MV (by obtain ⟨h, o⟩ := Q5 BP G; rw [MV] at h; cases h; exact o) ?_
 show Gq lfp G (Runs F G) (.ptr pb 0) H n k
 delta Gq
 obtain ⟨s1, h1, hm⟩ := Option.bind_eq_some_iff.1 hm
 obtain ⟨s2, h2, hm⟩ := Option.bind_eq_some_iff.1 hm
 obtain ⟨⟨es1, s3⟩, h3, hm⟩ := Option.bind_eq_some_iff.1 hm
 obtain ⟨s4, h4, hm⟩ := Option.bind_eq_some_iff.1 hm
 cases hm
 refine yU h hb h1 fun H1 n1 q x hq1 hq2 hq3 => ?_
 rw [qw]
 refine Iz (ws := [G5]) x.p x.lt rfl (by show 1 <= 1000; omega) h2 fun H2 n2 y => ?_
 have x := x.tr y
 have hq3 := y.get hq3 hq2 (by omega)
 have hn2 := y.le
 refine KY (J := fun g r => ∃ H' n' t v cs out, r = (.ptr pb 0, v, .GK [.fn CB [] [.ptr q 0]], H', n') /\ Fr G pb H n H' n' t /\ n2 <= n' /\ T.get H' q = some (one [.ptr pb 0]) /\ Own G H' n2 n' 9 v cs /\ XE G H' (fun id => n2 <= id /\ id < n' /\ v.Ul ≠ some id) cs out /\ Ea st g out t = some (es1, s3)) ?_ (m := f)
  ⟨H2, n2, s2, .Ag, [], [], rfl, x, Nat.le_refl _, hq3, dN, .nil, h3⟩
 rintro I g r ⟨H3, n3, t, v, cs, out, rfl, x, hn3, hq3, ho, hc, hm⟩ ih
 show KL lfp G (Runs F G) k I (.ptr pb 0) v (.GK [.fn CB [] [.ptr q 0]]) H3 n3
 delta KL
 cases g with
 | zero => cases hm
 | succ g =>
  have hm : (bif t.ok then (Cc m_rc t).bind fun p => bif p.1 then some (out, p.2) else (st p.2).bind fun q => bif decide (out.length < 1000000) then Ea st g (out ++ [q.1]) q.2 else none
   else some (out, t)) = some (es1, s3) := hm
  have fin : ∀ {H4 : Heap} {n4 : Nat} {t4 : S}, Fr G pb H3 n3 H4 n4 t4 -> some (out, t4) = some (es1, s3) -> Gy lfp G (Runs F G) k v (.GK [.fn CB [] [.ptr q 0]]) H4 n4 := by
   intro H4 n4 t4 y he
   cases he
   delta Gy
   have ho4 := ho.kx y.f (by omega)
   have x := x.tr y
   have hq3 := y.get hq3 (by omega) (by omega)
   refine AJV x.p x.lt hq3 h4 fun H5 n5 y5 => ?_
   have ho5 := ho4.kx y5.f (by omega)
   have hn4 := y.le
   have hn5 := y5.le
   refine hk _ _ _ (x.tr y5) ⟨cs, ho5.el (by omega), (Pm ho5.gr).2.1, (Pm ho5.gr).2.2, fun id hid => ⟨by have := ho5.ge hid; omega, ho5.lo id hid⟩, ?_⟩
   exact hc.mono (fun id h => ⟨by have := h.1; omega, by have := h.2.1; omega⟩) fun id h => (y5.f.same id (by have := h.2.1; omega) (by have := h.1; omega)).trans (y.f.same id h.2.1 (by have := h.1; omega))
  rw [AOl]
  refine kU x.p x.lt (fun hf => fin (Fr.refl x.p x.lt) (by rw [hf] at hm; exact hm)) fun ht => ?_
  rw [ht, cond_true] at hm
  obtain ⟨⟨b, t2⟩, h2, hm⟩ := Option.bind_eq_some_iff.1 hm
  refine ⟨b, t2, h2, fun H4 n4 y => ?_⟩
  cases b with
  | true => exact fin y hm
  | false =>
   obtain ⟨⟨e, t4⟩, h4, hm⟩ := Option.bind_eq_some_iff.1 (show ((st t2).bind fun q => bif decide (out.length < 1000000) then Ea st g (out ++ [q.1]) q.2 else none) = some (es1, s3) from hm)
   cases hlen : decide (out.length < 1000000) with
   | false => rw [hlen] at hm; cases hm
   | true =>
   rw [hlen, cond_true] at hm
   have hlen := of_decide_eq_true hlen
   have ho4 := ho.kx y.f (by omega)
   have hn4 := y.le
   have hc4 : XE G H4 (fun id => n2 <= id /\ id < n3 /\ v.Ul ≠ some id) cs out := hc.mono (fun id h => h) fun id h => y.f.same id h.2.1 (by have := h.1; omega)
   have x := x.tr y
   have hq3 := y.get hq3 (by omega) (by omega)
   show Runs F G EJ [.ptr pb 0] H4 n4 _
   refine hst _ _ _ _ _ _ x.p x.lt h4 fun H5 n5 c y hx => ?_
   have hn5 := y.le
   have x := x.tr y
   have hq3 := y.get hq3 (by omega) (by omega)
   have ho5 := ho4.kx y.f (by omega)
   have hc5 : XE G H5 (fun id => n2 <= id /\ id < n3 /\ v.Ul ≠ some id) cs out := hc4.mono (fun id h => h) fun id h => y.f.same id (by have := h.2.1; omega) (by have := h.1; omega)
   refine NJ (G := G) (vs := [.agg c]) rfl (by omega) (fun v hv => by simp at hv; subst hv; exact hx.ok) fun H6 f6 _ hel => ?_
   have x := x.al f6
   have ho6 := ho5.kp f6
   have hq3 := f6.get hq3 (by omega)
   refine yh ho6.gr (by omega) ho6.lo hel.2 (by have := hc.len; show (cs.length + 1) * 136 <= _; omega) ?_ (fun h => by cases h)
   intro v' H7 hgr hsame hlo
   have hgr : Gr G H7 n2 9 v' (cs ++ [c]) := hgr
   have f7 : Fr G pb H n H7 (n5 + 1 + 1) t4 := ⟨⟨by omega, fun id hid hp => (hsame id (by omega) (fun h => by have := ho6.ge h; omega)).trans (x.f.same id hid hp)⟩, x.p.same fun id hid => hsame id (by omega) (fun h => by have := ho6.ge h; omega), hb⟩
   have hv4 : ∀ id, v.Ul = some id -> id < n3 := ho.lo
   refine ih g (_, _, _, H7, n5 + 1 + 1) (by omega) ⟨H7, n5 + 1 + 1, t4, v', cs ++ [c], out ++ [e], rfl, f7, by omega, (hsame q (by omega) (fun h => by have := ho6.ge h; omega)).trans hq3, ⟨hgr, fun id hid => by have := hlo id hid; omega⟩, ?_, hm⟩
   refine (hc5.mono (fun id h => ⟨h.1, by have := h.2.1; omega, fun hv => by have := hlo id hv; have := h.2.1; omega⟩) fun id h => ?_).app (.cons (hx.mono (fun id h => ⟨by have := h.1; omega, by have := h.2; omega, fun hv => by have := hlo id hv; have := h.2; omega⟩) fun id h => ?_) .nil)
   ·have h1 := h.1; have h2 := h.2.1
    exact (hsame id (by omega) h.2.2).trans (f6.same id (by omega))
   ·have h1 := h.1; have h2 := h.2
    exact (hsame id (by omega) (fun hv => by have := hv4 id hv; omega)).trans (f6.same id (by omega))
end
end Go.PQ
namespace Go.PQ
open Go.Eng
set_option maxRecDepth 100000
abbrev stZ : LV := [.int .i64 (.ofNat 0) 0, .int .i64 (.ofNat 0) 0, .int .i64 (.ofNat 0) 0, .str 0 0, .str 0 0, .bool false, .Ag, .Ag, .Ag]
theorem AMI {x y : V} : BZ stZ [(1, 2, .c (.agg [x, y]))] = some (.agg [.int .i64 (.ofNat 0) 0, x, y, .str 0 0, .str 0 0, .bool false, .Ag, .Ag, .Ag]) := rfl
theorem ANW {kd : Nat} {x y : V} : BZ stZ [(0, 1, .c (.int .i64 (.ofNat kd) 0)), (1, 2, .c (.agg [x, y]))] = some (.agg [.int .i64 (.ofNat kd) 0, x, y, .str 0 0, .str 0 0, .bool false, .Ag, .Ag, .Ag]) := rfl
section
variable {G : AP} {pb : Nat} {H : Heap} {n : Nat} {s s' : S} {k : KV}
theorem ABd {A : Nat -> Prop} {c : LV} {e : Ex} {m : Nat} (hel : El G H (.sl m 0 1 1 11) 11 [c]) (hx : EI G H A c e) (hm : A m) : gG G H A (.sl m 0 1 1 11) [e] :=
 ⟨[c], hel, ZC .., rfl, rfl, fun id hid => by cases Gm hid; exact hm, .cons hx .nil⟩
theorem AIo {f b line col : Nat} {e : St} (h : Vw G H pb s) (hb : pb < b) (hbn : b < n) (gb : T.get H b = some (one (vO 0 line col [] Xd .Ag .Ag .Ag))) (hm : mQ f s = some (e, s'))
    (hk : ∀ H' n' c, Fr G pb H b H' n' s' -> n <= n' -> T.get H' b = some (one c) -> bU G H' (fun id => b < id /\ id < n') c e -> k (.GK []) H' n') :
    Runs F G Si [.ptr pb 0, .ptr b 0] H n k := by
  refine BO (s := UA (Gh lfp G)) MP (by obtain ⟨h, o⟩ := RI BP G; rw [MP] at h; cases h; exact o) ?_
  show Gh lfp G (Runs F G) (.ptr pb 0) (.ptr b 0) H n k
  delta Gh
  have x : Fr G pb H b H n s := ⟨⟨by omega, fun _ _ _ => rfl⟩, h, hb⟩
  obtain ⟨⟨e1, s1⟩, h1, hm⟩ := Option.bind_eq_some_iff.1 hm
  refine iT f _ _ _ _ _ _ x.p x.lt h1 fun H1 n1 c y hx => ?_
  have x := x.tr y
  have hn1 := y.le
  have gb := y.get gb hbn hb
  refine BA rfl fun H2 f2 g2 => ?_
  have x := x.al f2
  have gb := f2.get gb (by omega)
  refine CJ g2 rfl hx.len (by omega) fun H3 g2 s3 => ?_
  have x := x.st (by omega) s3
  have gb := (s3 b (by omega)).trans gb
  have hx : EI G H3 (Rg n n1) c e1 := hx.mono (fun id h => h) fun id h => (s3 id (by have := h.2; omega)).trans (f2.same id h.2)
  refine AL (Au (m := 11) g2 (by omega) hx.len) ?_
  refine NJ (G := G) (vs := [.agg c]) rfl (by omega) (fun v hv => by simp at hv; subst hv; exact hx.ok) fun H4 f4 hb4 hel => ?_
  have x := x.al f4
  have gb := f4.get gb (by omega)
  have g2 := f4.get g2 (by omega)
  have hx : EI G H4 (Rg n n1) c e1 := hx.mono (fun id h => h) fun id h => f4.same id (by have := h.2; omega)
  refine AL (v := .ptr b 0) rfl (AL (v := .ptr b 0) (Aj ..) ?_)
  refine Dp gb rfl rfl (by omega) (by show 0 + 1 <= 9; omega) fun H5 gb s5 => ?_
  have x := x.st (Nat.le_refl _) s5
  have g2 := (s5 n1 (by omega)).trans g2
  refine AL (Au (m := 11) g2 (by omega) hx.len) (Dx hx.vs (AL (v := .ptr b 0) rfl (AL (v := .ptr b 6) (by rw [Aj, Nat.zero_add]) ?_)))
  refine Dp gb rfl rfl (by omega) (by show 6 + 1 <= 9; omega) fun H6 gb s6 => ?_
  have x := x.st (Nat.le_refl _) s6
  have g2 := (s6 n1 (by omega)).trans g2
  have gb : T.get H6 b = some (one (vO 3 line col [] Xd (.sl (n1 + 1) 0 1 1 11) .Ag .Ag)) := gb
  have hel : El G H6 (.sl (n1 + 1) 0 1 1 11) 11 [c] := hel.same fun id hid => by cases Gm hid; exact (s6 _ (by omega)).trans (s5 _ (by omega))
  have hx : EI G H6 (Rg n n1) c e1 := hx.mono (fun id h => h) fun id h => (s6 id (by have := h.1; omega)).trans (s5 id (by have := h.1; omega))
  have hb6 : ∃ t, T.get H6 (n1 + 1) = some (.arr 11 1 t) := by
    obtain ⟨t, ht⟩ := hb4
    exact ⟨t, (s6 _ (by omega)).trans ((s5 _ (by omega)).trans ht)⟩
  have hm : (bif Oj [O5] s1 then
    (Ce [O5] (bif decide (e1.kind = 6) || (decide (e1.kind = 7) || decide (e1.kind = 12)) then s1 else Fj 21 s1)).bind fun s1 => (expr f s1).bind fun q => some (.mk 2 [] Xd [e1, q.1] [] [], q.2)
    else some (.mk 3 [] Xd [e1] [] [], bif decide (e1.kind = 8) || decide (e1.kind = 9) then s1 else Fj 21 s1)) = some (e, s') := hm
  refine eu (ws := [O5]) x.p x.lt rfl (by show 1 <= 1000; omega) fun H7 n7 y => ?_
  have x := x.tr y
  have hn7 := y.le
  have gb := y.get gb (by omega) hb
  have g2 := y.get g2 (by omega) (by omega)
  have hel : El G H7 (.sl (n1 + 1) 0 1 1 11) 11 [c] := hel.same fun id hid => by cases Gm hid; exact y.f.same _ (by omega) (by omega)
  have hx : EI G H7 (Rg n n1) c e1 := hx.mono (fun id h => h) fun id h => y.f.same id (by have := h.2; omega) (by have := h.1; omega)
  obtain ⟨t7, ht7⟩ := hb6
  have ht7 := (y.f.same (n1 + 1) (by omega) (by omega)).trans ht7
  have q0 : Aa (.ptr n1 0) G H7 = some (.int .i64 (.ofNat e1.kind) 0) := Ad g2 hx.kd
  refine AL (Rn _) ?_
  cases hi : Oj [O5] s1 with
  | false =>
    rw [hi] at hm
    cases hm
    rw [Bool.not_false, CS]
    have fin : ∀ {H8 : Heap} {n8 : Nat} {t : S}, Fr G pb H7 n7 H8 n8 t -> t = (bif decide (e1.kind = 8) || decide (e1.kind = 9) then s1 else Fj 21 s1) -> EU lfp G (Runs F G) k H8 n8 := by
      intro H8 n8 t y ht
      subst ht
      delta EU
      have hn8 := y.le
      refine hk _ _ _ (x.tr y) (by omega) (y.get gb (by omega) hb) ?_
      have hel8 : El G H8 (.sl (n1 + 1) 0 1 1 11) 11 [c] := hel.same fun id hid => by cases Gm hid; exact y.f.same _ (by omega) (by omega)
      exact .of (ABd hel8 (hx.mono (fun id h => ⟨by have := h.1; omega, by have := h.2; omega⟩) fun id h => y.f.same id (by have := h.2; omega) (by have := h.1; omega)) ⟨by omega, by omega⟩) .nil .nil
    refine AL (v := .ptr n1 0) (Aj ..) (AL q0 (AL (eG ..) ?_))
    cases k8 : decide (e1.kind = 8) with
    | true =>
      rw [k8] at fin
      simp only [Bool.not_true, go_sem]
      exact fin (Fr.refl x.p x.lt) rfl
    | false =>
      rw [k8] at fin
      simp only [Bool.not_false, go_sem, Nat.add_zero, q0, eG]
      cases k9 : decide (e1.kind = 9) with
      | true =>
        rw [k9] at fin
        simp only [Bool.not_true, go_sem]
        exact fin (Fr.refl x.p x.lt) rfl
      | false =>
        rw [k9] at fin
        simp only [Bool.not_false, go_sem]
        exact Ye x.p x.lt fun H8 n8 y => fin y rfl
  | true =>
    rw [hi, cond_true] at hm
    obtain ⟨s2, h2, hm⟩ := Option.bind_eq_some_iff.1 hm
    obtain ⟨⟨e2, s3⟩, h3, hm⟩ := Option.bind_eq_some_iff.1 hm
    cases hm
    rw [Bool.not_true, CG]
    have fin : ∀ {H8 : Heap} {n8 : Nat} {t : S}, Fr G pb H7 n7 H8 n8 t -> Ce [O5] t = some s2 -> EX lfp G (Runs F G) k (.ptr pb 0) (.ptr b 0) H8 n8 := by
      intro H8 n8 t y ht
      delta EX
      have hn8 := y.le
      have x := x.tr y
      refine Iz (ws := [O5]) x.p x.lt rfl (by show 1 <= 1000; omega) ht fun H9 n9 y9 => ?_
      have x := x.tr y9
      have hn9 := y9.le
      have y := y.tr y9
      have gb := y.get gb (by omega) hb
      have q6 : Aa (.ptr b 6) G H9 = some (.sl (n1 + 1) 0 1 1 11) := Ad gb rfl
      refine AL (v := .ptr b 0) rfl (AL (v := .ptr b 6) (by rw [Aj, Nat.zero_add]) (AL q6 ?_))
      refine iT f _ _ _ _ _ _ x.p x.lt h3 fun H10 n10 c2 y10 hx2 => ?_
      have x := x.tr y10
      have hn10 := y10.le
      have y := y.tr y10
      have gb := y10.get gb (by omega) hb
      have q6 : Aa (.ptr b 6) G H10 = some (.sl (n1 + 1) 0 1 1 11) := Ad gb rfl
      refine AL q6 (Dx (ZC ..) ?_)
      refine NJ (G := G) (vs := [.agg c2]) rfl (by omega) (fun v hv => by simp at hv; subst hv; exact hx2.ok) fun H11 f11 _ hel2 => ?_
      have x := x.al f11
      have gb := f11.get gb (by omega)
      have hel11 : El G H11 (.sl (n1 + 1) 0 1 1 11) 11 [c] := hel.same fun id hid => by cases Gm hid; exact (f11.same _ (by omega)).trans (y.f.same _ (by omega) (by omega))
      have ht11 := (f11.same (n1 + 1) (by omega)).trans ((y.f.same (n1 + 1) (by omega) (by omega)).trans ht7)
      refine ABf (by omega) ht11 (by omega) hel11.2 hel2.2 (by show (1 + 1) * 136 <= _; omega) ?_
      intro v' H12 n12 hel12 hs12 hn12 hv'
      have gb := (hs12 b (by omega)).trans gb
      have hcs : V3 G H12 (fun id => b < id /\ id < n12) ([c] ++ [c2]) [e1, e2] := by
        refine .cons (hx.mono (fun id h => ⟨by have := h.1; omega, by have := h.2; omega⟩) fun id h => ?_) (.cons (hx2.mono (fun id h => ⟨by have := h.1; omega, by have := h.2; omega⟩) fun id h => ?_) .nil)
        · have h1 := h.1; have h2 := h.2
          exact (hs12 id (by omega)).trans ((f11.same id (by omega)).trans (y.f.same id (by omega) (by omega)))
        · have h1 := h.1; have h2 := h.2
          exact (hs12 id (by omega)).trans (f11.same id (by omega))
      have x12 : Fr G pb H b H12 n12 s3 := ⟨⟨by omega, fun id hid hp => (hs12 id (by omega)).trans (x.f.same id hid hp)⟩, x.p.same fun id hid => hs12 id (by omega), hb⟩
      have es : gG G H12 (fun id => b < id /\ id < n12) v' [e1, e2] /\ XF v' = true /\ BK v' = [v'] := by
        rcases hv' with ⟨l, rfl⟩ | ⟨l, rfl, hl⟩
        · exact ⟨⟨_, hel12, ZC .., rfl, rfl, fun id hid => by cases Gm hid; exact ⟨by omega, by omega⟩, hcs⟩, rfl, rfl⟩
        · exact ⟨⟨_, hel12, zS .., rfl, rfl, fun id hid => by cases fK hid; exact ⟨by omega, by omega⟩, hcs⟩, rfl, rfl⟩
      obtain ⟨es, ok1, vc1⟩ := es
      refine AL (v := .ptr b 0) rfl (AL (v := .ptr b 0) (Aj ..) ?_)
      refine Dp gb rfl rfl (by omega) (by show 0 + 1 <= 9; omega) fun H13 gb s13 => ?_
      have x := x12.st (Nat.le_refl _) s13
      refine AL (v := .ptr b 0) rfl (AL (v := .ptr b 6) (by rw [Aj, Nat.zero_add]) ?_)
      refine Dp gb ok1 (by rw [vc1]; rfl) (by omega) (by show 6 + 1 <= 9; omega) fun H14 gb s14 => ?_
      have x := x.st (Nat.le_refl _) s14
      rw [vc1] at gb
      refine hk _ _ (vO 2 line col [] Xd v' .Ag .Ag) x (by omega) gb ?_
      exact .of (es.mono (fun id h => h) fun id h => (s14 id (by have := h.1; omega)).trans (s13 id (by have := h.1; omega))) .nil .nil
    refine AL (v := .ptr n1 0) (Aj ..) (AL q0 (AL (eG ..) ?_))
    cases k6 : decide (e1.kind = 6) with
    | true =>
      rw [k6] at h2
      simp only [Bool.not_true]
      repeat (first | with_reducible refine AEi ?_ | with_reducible refine ABq ?_ | with_reducible refine AEY ?_)
      simp only [go_sem]
      exact fin (Fr.refl x.p x.lt) h2
    | false =>
      rw [k6] at h2
      simp only [Bool.not_false, go_sem, Nat.add_zero, q0, eG]
      cases k7 : decide (e1.kind = 7) with
      | true =>
        rw [k7] at h2
        simp only [Bool.not_true]
        repeat (first | with_reducible refine AEi ?_ | with_reducible refine ABq ?_ | with_reducible refine AEY ?_)
        simp only [go_sem]
        exact fin (Fr.refl x.p x.lt) h2
      | false =>
        rw [k7] at h2
        simp only [Bool.not_false, go_sem, Nat.add_zero, q0, eG]
        cases k12 : decide (e1.kind = 12) with
        | true =>
          rw [k12] at h2
          simp only [Bool.not_true, go_sem]
          exact fin (Fr.refl x.p x.lt) h2
        | false =>
          rw [k12] at h2
          simp only [Bool.not_false, go_sem]
          exact Ye x.p x.lt fun H8 n8 y => fin y h2
end
end Go.PQ
namespace Go.PQ
open Go.Eng
set_option maxRecDepth 100000
section
variable {G : AP} {pb : Nat}
theorem APN {G : AP} {H : Heap} {A : Nat -> Prop} {c : LV} {e : St} {m : Nat} (hel : El G H (.sl m 0 1 1 9) 9 [c]) (hx : bU G H A c e) (hm : A m) : mX G H A (.sl m 0 1 1 9) [e] :=
 ⟨[c], hel, rfl, rfl, fun id hid => by cases Gm hid; exact hm, .cons hx .nil⟩
theorem AHO {st ch : PM St} {f : Nat} (hst : StC G pb EJ st) (hch : StC G pb ES ch) : StC G pb ES (yP st ch f) := by
  intro s H n s' e k h hb hm hk
  refine BO (s := Dz (Fp lfp G)) LD (by obtain ⟨h, o⟩ := P9 BP G; rw [LD] at h; cases h; exact o) ?_
  show Fp lfp G (Runs F G) (.ptr pb 0) H n k
  delta Fp
  obtain ⟨s1, h1, hm⟩ := Option.bind_eq_some_iff.1 hm
  obtain ⟨s2, h2, hm⟩ := Option.bind_eq_some_iff.1 hm
  obtain ⟨⟨e1, s3⟩, h3, hm⟩ := Option.bind_eq_some_iff.1 hm
  obtain ⟨⟨th, s4⟩, h4, hm⟩ := Option.bind_eq_some_iff.1 hm
  obtain ⟨⟨b, s5⟩, h5, hm⟩ := Option.bind_eq_some_iff.1 hm
  obtain ⟨⟨el, s6⟩, h6, hm⟩ := Option.bind_eq_some_iff.1 hm
  obtain ⟨s7, h7, hm⟩ := Option.bind_eq_some_iff.1 hm
  cases hm
  have x := Fr.refl h hb
  refine BA rfl fun H1 f1 g1 => ?_
  have x := x.al f1
  refine yU x.p x.lt h1 fun H2 n2 q y hq1 hq2 hq3 => ?_
  have x := x.tr y
  have hn2 := y.le
  have g1 := y.get g1 (by omega) hb
  rw [qw]
  obtain ⟨v, tid, o, line, col, e0, ea, _, _, _, _, _, e5⟩ := x.p.tok
  refine AL (v := .ptr pb 0) rfl (AL (v := .ptr pb 0) rfl (AL e0 (AL ea (AL (v := .ptr tid (o + 3)) (Aj ..) (AL e5 (AL ANW ?_))))))
  refine BA rfl fun H3 f3 g3 => ?_
  have x := x.al f3
  have g1 := f3.get g1 (by omega)
  have hq3 := f3.get hq3 (by omega)
  refine CJ (L := vO 4 line col [] Xd .Ag .Ag .Ag) g3 rfl rfl (by omega) fun H4 g3 t4 => ?_
  have x := x.st (by omega) t4
  have g1 := (t4 n (by omega)).trans g1
  have hq3 := (t4 q (by omega)).trans hq3
  refine Iz (ws := [nK]) x.p x.lt rfl (by show 1 <= 1000; omega) h2 fun H5 n5 y => ?_
  have x := x.tr y
  have hn5 := y.le
  have g1 := y.get g1 (by omega) hb
  have g3 := y.get g3 (by omega) (by omega)
  have hq3 := y.get hq3 (by omega) (by omega)
  refine iT f _ _ _ _ _ _ x.p x.lt h3 fun H6 n6 c y hx => ?_
  have x := x.tr y
  have hn6 := y.le
  have g1 := y.get g1 (by omega) hb
  have g3 := y.get g3 (by omega) (by omega)
  have hq3 := y.get hq3 (by omega) (by omega)
  refine NJ (G := G) (vs := [.agg c]) rfl (by omega) (fun v hv => by simp at hv; subst hv; exact hx.ok) fun H7 f7 _ hel => ?_
  have x := x.al f7
  have g1 := f7.get g1 (by omega)
  have g3 := f7.get g3 (by omega)
  have hq3 := f7.get hq3 (by omega)
  have hes : gG G H7 (fun id => n2 < id /\ id < n6 + 1) (.sl n6 0 1 1 11) [e1] := ABd hel (hx.mono (fun id h => ⟨by have := h.1; omega, by have := h.2; omega⟩) fun id h => f7.same id h.2) ⟨by omega, by omega⟩
  refine AL (v := .ptr n2 6) (by rw [Aj, Nat.zero_add]) ?_
  refine Dp g3 rfl rfl (by omega) (by show 6 + 1 <= 9; omega) fun H8 g3 t8 => ?_
  have x := x.st (by omega) t8
  have g1 := (t8 n (by omega)).trans g1
  have hq3 := (t8 q (by omega)).trans hq3
  have hes := hes.mono (B := fun id => n2 < id /\ id < n6 + 1) (fun id h => h) fun id h => t8 id (by have := h.1; omega)
  refine qR hst x.p x.lt h4 fun H9 n9 vt y hss => ?_
  have x := x.tr y
  have hn9 := y.le
  have g1 := y.get g1 (by omega) hb
  have g3 := y.get g3 (by omega) (by omega)
  have hq3 := y.get hq3 (by omega) (by omega)
  have hes := hes.mono (B := fun id => n2 < id /\ id < n9) (fun id h => ⟨h.1, by have := h.2; omega⟩) fun id h => y.f.same id h.2 (by have := h.1; omega)
  obtain ⟨_, _, okt, vct, _, _⟩ := id hss
  refine AL (v := .ptr n2 7) (by rw [Aj, Nat.zero_add]) ?_
  refine Dp g3 okt (by rw [vct]; rfl) (by omega) (by show 7 + 1 <= 9; omega) fun H10 g3 t10 => ?_
  rw [vct] at g3
  have g3 : T.get H10 n2 = some (one (vO 4 line col [] Xd (.sl n6 0 1 1 11) vt .Ag)) := g3
  have x := x.st (by omega) t10
  have g1 := (t10 n (by omega)).trans g1
  have hq3 := (t10 q (by omega)).trans hq3
  have hes := hes.mono (B := fun id => n2 < id /\ id < n9) (fun id h => h) fun id h => t10 id (by have := h.1; omega)
  have hss := hss.mono (B := fun id => n2 < id /\ id < n9) (fun id h => ⟨by have := h.1; omega, h.2⟩) fun id h => t10 id (by have := h.1; omega)
  rw [show V.str 4 1702063205 = sB AAQ from rfl]
  refine KO x.p x.lt h5 fun H11 n11 y => ?_
  have x := x.tr y
  have hn11 := y.le
  have g1 := y.get g1 (by omega) hb
  have g3 := y.get g3 (by omega) (by omega)
  have hq3 := y.get hq3 (by omega) (by omega)
  have hes := hes.mono (B := fun id => n2 < id /\ id < n11) (fun id h => ⟨h.1, by have := h.2; omega⟩) fun id h => y.f.same id h.2 (by have := h.1; omega)
  have hss := hss.mono (B := fun id => n2 < id /\ id < n11) (fun id h => ⟨h.1, by have := h.2; omega⟩) fun id h => y.f.same id h.2 (by have := h.1; omega)
  have fin : ∀ {H' : Heap} {n' : Nat} {vl : V}, Fr G pb H n H' n' s6 -> n2 < n' -> T.get H' n = some (one stZ) -> T.get H' n2 = some (one (vO 4 line col [] Xd (.sl n6 0 1 1 11) vt vl)) -> T.get H' q = some (one [.ptr pb 0]) ->
      gG G H' (fun id => n2 < id /\ id < n') (.sl n6 0 1 1 11) [e1] -> mX G H' (fun id => n2 < id /\ id < n') vt th -> mX G H' (fun id => n2 < id /\ id < n') vl el ->
      DN lfp G (Runs F G) k (.ptr n 0) (.ptr n2 0) (.GK [.fn CB [] [.ptr q 0]]) H' n' := by
    intro H' n' vl x hn' g1 g3 hq3 hes hss hsl
    delta DN
    refine AL (Au (m := 9) g3 (by omega) rfl) ?_
    refine CJ g1 rfl rfl (by omega) fun H12 g12 t12 => ?_
    have x := x.st (Nat.le_refl _) t12
    refine AJV x.p x.lt ((t12 q (by omega)).trans hq3) h7 fun H13 n13 y => ?_
    have hn13 := y.le
    rw [BI (m := 9) (y.get g12 (by omega) hb) (by omega) rfl]
    simp only [go_sem]
    have keep : ∀ id, n2 < id /\ id < n' -> T.get H13 id = T.get H' id := fun id h => (y.f.same id h.2 (by have := h.1; omega)).trans (t12 id (by have := h.1; omega))
    refine hk _ _ _ (x.tr y) (.of (hes.mono (fun id h => ⟨by have := h.1; omega, by have := h.2; omega⟩) keep) (hss.mono (fun id h => ⟨by have := h.1; omega, by have := h.2; omega⟩) keep) (hsl.mono (fun id h => ⟨by have := h.1; omega, by have := h.2; omega⟩) keep))
  cases b with
  | false =>
    cases h6
    rw [CG]
    exact fin x (by omega) g1 g3 hq3 hes hss .nil
  | true =>
    rw [cond_true] at h6
    rw [CS]
    refine eu (ws := [nK]) x.p x.lt rfl (by show 1 <= 1000; omega) fun H12 n12 y => ?_
    have x := x.tr y
    have hn12 := y.le
    have g1 := y.get g1 (by omega) hb
    have g3 := y.get g3 (by omega) (by omega)
    have hq3 := y.get hq3 (by omega) (by omega)
    have hes := hes.mono (B := fun id => n2 < id /\ id < n12) (fun id h => ⟨h.1, by have := h.2; omega⟩) fun id h => y.f.same id h.2 (by have := h.1; omega)
    have hss := hss.mono (B := fun id => n2 < id /\ id < n12) (fun id h => ⟨h.1, by have := h.2; omega⟩) fun id h => y.f.same id h.2 (by have := h.1; omega)
    cases hi : Oj [nK] s5 with
    | true =>
      have h6 : ((ch s5).bind fun x => some ([x.1], x.2)) = some (el, s6) := by simpa [hi] using h6
      obtain ⟨⟨e2, s8⟩, h8, h6⟩ := Option.bind_eq_some_iff.1 h6
      cases h6
      rw [CS]
      refine hch _ _ _ _ _ _ x.p x.lt h8 fun H13 n13 c2 y hx2 => ?_
      have x := x.tr y
      have hn13 := y.le
      have g1 := y.get g1 (by omega) hb
      have g3 := y.get g3 (by omega) (by omega)
      have hq3 := y.get hq3 (by omega) (by omega)
      have hes := hes.mono (B := fun id => n2 < id /\ id < n13) (fun id h => ⟨h.1, by have := h.2; omega⟩) fun id h => y.f.same id h.2 (by have := h.1; omega)
      have hss := hss.mono (B := fun id => n2 < id /\ id < n13) (fun id h => ⟨h.1, by have := h.2; omega⟩) fun id h => y.f.same id h.2 (by have := h.1; omega)
      refine NJ (G := G) (vs := [.agg c2]) rfl (by omega) (fun v hv => by simp at hv; subst hv; exact hx2.ok) fun H14 f14 _ hel2 => ?_
      have x := x.al f14
      have g1 := f14.get g1 (by omega)
      have g3 := f14.get g3 (by omega)
      have hq3 := f14.get hq3 (by omega)
      refine AL (v := .ptr n2 8) (by rw [Aj, Nat.zero_add]) ?_
      refine Dp g3 rfl rfl (by omega) (by show 8 + 1 <= 9; omega) fun H15 g3 t15 => ?_
      have x := x.st (by omega) t15
      have hsl : mX G H14 (fun id => n2 < id /\ id < n13 + 1) (.sl n13 0 1 1 9) [e2] := APN hel2 (hx2.mono (fun id h => ⟨by have := h.1; omega, by have := h.2; omega⟩) fun id h => f14.same id h.2) ⟨by omega, by omega⟩
      refine fin x (by omega) ((t15 n (by omega)).trans g1) g3 ((t15 q (by omega)).trans hq3) (hes.mono (fun id h => ⟨h.1, by have := h.2; omega⟩) ?_) (hss.mono (fun id h => ⟨h.1, by have := h.2; omega⟩) ?_) (hsl.mono (fun id h => h) fun id h => t15 id (by have := h.1; omega))
      · exact fun id h => (t15 id (by have := h.1; omega)).trans (f14.same id h.2)
      · exact fun id h => (t15 id (by have := h.1; omega)).trans (f14.same id h.2)
    | false =>
      have h6 : Om st f s5 = some (el, s6) := by simpa [hi] using h6
      rw [CG]
      refine qR hst x.p x.lt h6 fun H13 n13 vl y hsl => ?_
      have x := x.tr y
      have hn13 := y.le
      have g1 := y.get g1 (by omega) hb
      have g3 := y.get g3 (by omega) (by omega)
      have hq3 := y.get hq3 (by omega) (by omega)
      have hes := hes.mono (B := fun id => n2 < id /\ id < n13) (fun id h => ⟨h.1, by have := h.2; omega⟩) fun id h => y.f.same id h.2 (by have := h.1; omega)
      have hss := hss.mono (B := fun id => n2 < id /\ id < n13) (fun id h => ⟨h.1, by have := h.2; omega⟩) fun id h => y.f.same id h.2 (by have := h.1; omega)
      obtain ⟨_, _, okl, vcl, _, _⟩ := id hsl
      refine AL (v := .ptr n2 8) (by rw [Aj, Nat.zero_add]) ?_
      refine Dp g3 okl (by rw [vcl]; rfl) (by omega) (by show 8 + 1 <= 9; omega) fun H15 g3 t15 => ?_
      rw [vcl] at g3
      have x := x.st (by omega) t15
      exact fin (vl := vl) x (by omega) ((t15 n (by omega)).trans g1) g3 ((t15 q (by omega)).trans hq3) (hes.mono (fun id h => h) fun id h => t15 id (by have := h.1; omega)) (hss.mono (fun id h => h) fun id h => t15 id (by have := h.1; omega))
        (hsl.mono (fun id h => ⟨by have := h.1; omega, h.2⟩) fun id h => t15 id (by have := h.1; omega))
end
end Go.PQ
namespace Go.PQ
open Go.Eng
set_option maxRecDepth 100000
section
variable {G : AP} {pb : Nat}
theorem AMz {st ch : PM St} {f : Nat} (hst : StC G pb EJ st) (hch : StC G pb ES ch) : StC G pb EJ (pO st ch f) := by
  intro s H n s' e k h hb hm hk
  refine BO (s := Dz (G6 lfp G)) NY (by obtain ⟨h, o⟩ := TF BP G; rw [NY] at h; cases h; exact o) ?_
  show G6 lfp G (Runs F G) (.ptr pb 0) H n k
  delta G6
  obtain ⟨⟨b, s1⟩, h1, hm⟩ := Option.bind_eq_some_iff.1 hm
  have hm : (bif b then
    (jU s1).bind fun t => (Hr 3 t.2).bind fun n => (Ce [O5] n.2).bind fun s1 => (expr f s1).bind fun x => endP (.mk 1 n.1 t.1 [x.1] [] []) x.2 else
    bif Oj [nK] s1 then ch s1 else
    (Cc QU s1).bind fun p => bif p.1 then (expr f p.2).bind fun c => (Om st f c.2).bind fun t => some (.mk 5 [] Xd [c.1] t.1 [], t.2) else
    (Cc CY p.2).bind fun p => bif p.1 then (expr f p.2).bind fun x => endP (.mk 6 [] Xd [x.1] [] []) x.2 else
    (Cc WX p.2).bind fun p => bif p.1 then (expr f p.2).bind fun x => endP (.mk 7 [] Xd [x.1] [] []) x.2 else
    (mQ f p.2).bind fun x => endP x.1 x.2) = some (e, s') := hm
  have x := Fr.refl h hb
  refine BA rfl fun H1 f1 g1 => ?_
  have x := x.al f1
  obtain ⟨v, tid, o, line, col, e0, ea, _, _, _, _, _, e5⟩ := x.p.tok
  refine AL (v := .ptr pb 0) rfl (AL (v := .ptr pb 0) rfl (AL e0 (AL ea (AL (v := .ptr tid (o + 3)) (Aj ..) (AL e5 (AL AMI ?_))))))
  refine BA rfl fun H3 f3 g3 => ?_
  have x := x.al f3
  have g1 := f3.get g1 (by omega)
  refine CJ (L := vO 0 line col [] Xd .Ag .Ag .Ag) g3 rfl rfl (by omega) fun H4 g3 t4 => ?_
  have x := x.st (by omega) t4
  have g1 := (t4 n (by omega)).trans g1
  clear t4 f3 f1 e0 ea e5
  have out : ∀ {H' : Heap} {n' : Nat} {c : LV}, Fr G pb H n H' n' s' -> T.get H' n = some (one stZ) -> T.get H' (n + 1) = some (one c) -> bU G H' (fun id => n + 1 < id /\ id < n') c e ->
      AU (Az 9 (.ptr (n + 1) 0) G H') fun v45 => Bd 9 (.ptr n 0) v45 H' n' fun _ H n' => Es (BN [.cn (.ptr n 0) 9] G H) fun l => k (Eh l) H n' := by
    intro H' n' c x g1 g3 hx
    refine AL (Au (m := 9) g3 (by omega) hx.len) ?_
    refine CJ g1 rfl hx.len (by omega) fun H12 g12 t12 => ?_
    rw [BI (m := 9) g12 (by omega) hx.len]
    simp only [go_sem]
    exact hk _ _ _ (x.st (Nat.le_refl _) t12) (hx.mono (fun id h => ⟨by have := h.1; omega, h.2⟩) fun id h => t12 id (by have := h.1; omega))
  have fin : ∀ {H' : Heap} {n' : Nat} {c : LV} {t' : S} {b' : St}, Fr G pb H n H' n' t' -> n + 1 < n' -> endP b' t' = some (e, s') -> T.get H' n = some (one stZ) -> T.get H' (n + 1) = some (one c) -> bU G H' (fun id => n + 1 < id /\ id < n') c b' ->
      Ci lfp G (Runs F G) k (.ptr pb 0) (.ptr n 0) (.ptr (n + 1) 0) H' n' := by
    intro H' n' c t' b' x hn' he g1 g3 hx
    delta Ci
    obtain ⟨t2, h2, he⟩ := Option.bind_eq_some_iff.1 he
    cases he
    refine Iz (ws := [BQ]) x.p x.lt rfl (by show 1 <= 1000; omega) h2 fun H5 n5 y => ?_
    have hn5 := y.le
    exact out (x.tr y) (y.get g1 (by omega) hb) (y.get g3 (by omega) (by omega)) (hx.mono (fun id h => ⟨h.1, by have := h.2; omega⟩) fun id h => y.f.same id h.2 (by have := h.1; omega))
  have APe : ∀ {H' : Heap} {n' kd : Nat} {t t1 : S} {e1 : Ex} {P : V}, Fr G pb H n H' n' t -> n + 1 < n' -> T.get H' n = some (one stZ) -> T.get H' (n + 1) = some (one (vO 0 line col [] Xd .Ag .Ag .Ag)) ->
      expr f t = some (e1, t1) -> endP (.mk kd [] Xd [e1] [] []) t1 = some (e, s') ->
      Runs F G Ba [.ptr pb 0] H' n' fun v48 H n' => CX (Ah 11 1 vN [(0, .c v48)] E0) H n' fun v49 H n' => AU (AX 0 (.ptr (n + 1) 0)) fun v50 => Bd 1 v50 (.int .i64 (.ofNat kd) 0) H n' fun _ H n' =>
        AU (AX 6 (.ptr (n + 1) 0)) fun v52 => Bd 1 v52 v49 H n' fun _ H n' => Ci lfp G (Runs F G) k (.ptr pb 0) (.ptr n 0) (.ptr (n + 1) 0) H n' := by
    intro H' n' kd t t1 e1 _ x hn' g1 g3 h1 he
    refine iT f _ _ _ _ _ _ x.p x.lt h1 fun H6 n6 c y hx => ?_
    have x := x.tr y
    have hn6 := y.le
    have g1 := y.get g1 (by omega) hb
    have g3 := y.get g3 (by omega) (by omega)
    refine NJ (G := G) (vs := [.agg c]) rfl (by omega) (fun v hv => by simp at hv; subst hv; exact hx.ok) fun H7 f7 _ hel => ?_
    have x := x.al f7
    have g1 := f7.get g1 (by omega)
    have g3 := f7.get g3 (by omega)
    have hes : gG G H7 (fun id => n + 1 < id /\ id < n6 + 1) (.sl n6 0 1 1 11) [e1] := ABd hel (hx.mono (fun id h => ⟨by have := h.1; omega, by have := h.2; omega⟩) fun id h => f7.same id h.2) ⟨by omega, by omega⟩
    refine AL (v := .ptr (n + 1) 0) (Aj ..) ?_
    refine Dp g3 rfl rfl (by omega) (by show 0 + 1 <= 9; omega) fun H8 g3 t8 => ?_
    have x := x.st (by omega) t8
    have g1 := (t8 n (by omega)).trans g1
    refine AL (v := .ptr (n + 1) 6) (by rw [Aj, Nat.zero_add]) ?_
    refine Dp g3 rfl rfl (by omega) (by show 6 + 1 <= 9; omega) fun H9 g3 t9 => ?_
    have x := x.st (by omega) t9
    exact fin (c := vO kd line col [] Xd (.sl n6 0 1 1 11) .Ag .Ag) x (by omega) he ((t9 n (by omega)).trans g1) g3 (.of (hes.mono (fun id h => h) fun id h => (t9 id (by have := h.1; omega)).trans (t8 id (by have := h.1; omega))) .nil .nil)
  rw [show V.str 3 7628140 = sB jO from rfl]
  refine KO x.p x.lt h1 fun H5 n5 y => ?_
  have x := x.tr y
  have hn5 := y.le
  have g1 := y.get g1 (by omega) hb
  have g3 := y.get g3 (by omega) (by omega)
  cases b with
  | true =>
    rw [cond_true] at hm
    obtain ⟨⟨t, s2⟩, h2, hm⟩ := Option.bind_eq_some_iff.1 hm
    obtain ⟨⟨nm, s3⟩, h3, hm⟩ := Option.bind_eq_some_iff.1 hm
    obtain ⟨s4, h4, hm⟩ := Option.bind_eq_some_iff.1 hm
    obtain ⟨⟨e1, s5⟩, h5, hm⟩ := Option.bind_eq_some_iff.1 hm
    rw [CS]
    refine AL (v := .ptr (n + 1) 0) (Aj ..) ?_
    refine Dp g3 rfl rfl (by omega) (by show 0 + 1 <= 9; omega) fun H6 g3 t6 => ?_
    have x := x.st (by omega) t6
    have g1 := (t6 n (by omega)).trans g1
    refine AD0 x.p x.lt h2 fun H7 n7 y => ?_
    have x := x.tr y
    have hn7 := y.le
    have g1 := y.get g1 (by omega) hb
    have g3 := y.get g3 (by omega) (by omega)
    refine AL (v := .ptr (n + 1) 4) (by rw [Aj, Nat.zero_add]) ?_
    refine Dp g3 rfl rfl (by omega) (by show 4 + 2 <= 9; omega) fun H8 g3 t8 => ?_
    have x := x.st (by omega) t8
    have g1 := (t8 n (by omega)).trans g1
    refine XK x.p x.lt h3 fun H9 n9 y => ?_
    have x := x.tr y
    have hn9 := y.le
    have g1 := y.get g1 (by omega) hb
    have g3 := y.get g3 (by omega) (by omega)
    refine AL (v := .ptr (n + 1) 3) (by rw [Aj, Nat.zero_add]) ?_
    refine Dp g3 rfl rfl (by omega) (by show 3 + 1 <= 9; omega) fun H10 g3 t10 => ?_
    have x := x.st (by omega) t10
    have g1 := (t10 n (by omega)).trans g1
    have g3 : T.get H10 (n + 1) = some (one (vO 1 line col nm t .Ag .Ag .Ag)) := g3
    refine Iz (ws := [O5]) x.p x.lt rfl (by show 1 <= 1000; omega) h4 fun H11 n11 y => ?_
    have x := x.tr y
    have hn11 := y.le
    have g1 := y.get g1 (by omega) hb
    have g3 := y.get g3 (by omega) (by omega)
    refine iT f _ _ _ _ _ _ x.p x.lt h5 fun H12 n12 c y hx => ?_
    have x := x.tr y
    have hn12 := y.le
    have g1 := y.get g1 (by omega) hb
    have g3 := y.get g3 (by omega) (by omega)
    refine NJ (G := G) (vs := [.agg c]) rfl (by omega) (fun v hv => by simp at hv; subst hv; exact hx.ok) fun H13 f13 _ hel => ?_
    have x := x.al f13
    have g1 := f13.get g1 (by omega)
    have g3 := f13.get g3 (by omega)
    have hes : gG G H13 (fun id => n + 1 < id /\ id < n12 + 1) (.sl n12 0 1 1 11) [e1] := ABd hel (hx.mono (fun id h => ⟨by have := h.1; omega, by have := h.2; omega⟩) fun id h => f13.same id h.2) ⟨by omega, by omega⟩
    refine AL (v := .ptr (n + 1) 6) (by rw [Aj, Nat.zero_add]) ?_
    refine Dp g3 rfl rfl (by omega) (by show 6 + 1 <= 9; omega) fun H14 g3 t14 => ?_
    have x := x.st (by omega) t14
    exact fin (c := vO 1 line col nm t (.sl n12 0 1 1 11) .Ag .Ag) x (by omega) hm ((t14 n (by omega)).trans g1) g3 (.of (hes.mono (fun id h => h) fun id h => t14 id (by have := h.1; omega)) .nil .nil)
  | false =>
    rw [cond_false] at hm
    rw [CG]
    refine eu (ws := [nK]) x.p x.lt rfl (by show 1 <= 1000; omega) fun H6 n6 y => ?_
    have x := x.tr y
    have hn6 := y.le
    have g1 := y.get g1 (by omega) hb
    have g3 := y.get g3 (by omega) (by omega)
    cases hi : Oj [nK] s1 with
    | true =>
      rw [hi, cond_true] at hm
      rw [CS]
      refine hch _ _ _ _ _ _ x.p x.lt hm fun H7 n7 c y hx => ?_
      have hn7 := y.le
      refine CJ (y.get g1 (by omega) hb) rfl hx.len (by omega) fun H12 g12 t12 => ?_
      rw [BI (m := 9) g12 (by omega) hx.len]
      simp only [go_sem]
      exact hk _ _ _ ((x.tr y).st (Nat.le_refl _) t12) (hx.mono (fun id h => ⟨by have := h.1; omega, h.2⟩) fun id h => t12 id (by have := h.1; omega))
    | false =>
      rw [hi, cond_false] at hm
      rw [CG]
      obtain ⟨⟨b, s2⟩, h2, hm⟩ := Option.bind_eq_some_iff.1 hm
      rw [show V.str 5 435610544247 = sB QU from rfl]
      refine KO x.p x.lt h2 fun H7 n7 y => ?_
      have x := x.tr y
      have hn7 := y.le
      have g1 := y.get g1 (by omega) hb
      have g3 := y.get g3 (by omega) (by omega)
      cases b with
      | true =>
        obtain ⟨⟨e1, s3⟩, h3, hm⟩ := Option.bind_eq_some_iff.1 (show ((expr f s2).bind fun c => (Om st f c.2).bind fun t => some (.mk 5 [] Xd [c.1] t.1 [], t.2)) = some (e, s') from hm)
        obtain ⟨⟨th, s4⟩, h4, hm⟩ := Option.bind_eq_some_iff.1 hm
        cases hm
        rw [CS]
        refine AL (v := .ptr (n + 1) 0) (Aj ..) ?_
        refine Dp g3 rfl rfl (by omega) (by show 0 + 1 <= 9; omega) fun H8 g3 t8 => ?_
        have x := x.st (by omega) t8
        have g1 := (t8 n (by omega)).trans g1
        refine iT f _ _ _ _ _ _ x.p x.lt h3 fun H12 n12 c y hx => ?_
        have x := x.tr y
        have hn12 := y.le
        have g1 := y.get g1 (by omega) hb
        have g3 := y.get g3 (by omega) (by omega)
        refine NJ (G := G) (vs := [.agg c]) rfl (by omega) (fun v hv => by simp at hv; subst hv; exact hx.ok) fun H13 f13 _ hel => ?_
        have x := x.al f13
        have g1 := f13.get g1 (by omega)
        have g3 := f13.get g3 (by omega)
        have hes : gG G H13 (fun id => n + 1 < id /\ id < n12 + 1) (.sl n12 0 1 1 11) [e1] := ABd hel (hx.mono (fun id h => ⟨by have := h.1; omega, by have := h.2; omega⟩) fun id h => f13.same id h.2) ⟨by omega, by omega⟩
        refine AL (v := .ptr (n + 1) 6) (by rw [Aj, Nat.zero_add]) ?_
        refine Dp g3 rfl rfl (by omega) (by show 6 + 1 <= 9; omega) fun H14 g3 t14 => ?_
        have x := x.st (by omega) t14
        have g1 := (t14 n (by omega)).trans g1
        have hes := hes.mono (B := fun id => n + 1 < id /\ id < n12 + 1) (fun id h => h) fun id h => t14 id (by have := h.1; omega)
        refine qR hst x.p x.lt h4 fun H15 n15 vt y hss => ?_
        have x := x.tr y
        have hn15 := y.le
        have g1 := y.get g1 (by omega) hb
        have g3 := y.get g3 (by omega) (by omega)
        have hes := hes.mono (B := fun id => n + 1 < id /\ id < n15) (fun id h => ⟨h.1, by have := h.2; omega⟩) fun id h => y.f.same id h.2 (by have := h.1; omega)
        obtain ⟨_, _, okt, vct, _, _⟩ := id hss
        refine AL (v := .ptr (n + 1) 7) (by rw [Aj, Nat.zero_add]) ?_
        refine Dp g3 okt (by rw [vct]; rfl) (by omega) (by show 7 + 1 <= 9; omega) fun H16 g3 t16 => ?_
        rw [vct] at g3
        have x := x.st (by omega) t16
        exact out (c := vO 5 line col [] Xd (.sl n12 0 1 1 11) vt .Ag) x ((t16 n (by omega)).trans g1) g3 (.of (hes.mono (fun id h => h) fun id h => t16 id (by have := h.1; omega)) (hss.mono (fun id h => ⟨by have := h.1; omega, h.2⟩) fun id h => t16 id (by have := h.1; omega)) .nil)
      | false =>
        obtain ⟨⟨b, s3⟩, h3, hm⟩ := Option.bind_eq_some_iff.1 (show ((Cc CY s2).bind fun p => bif p.1 then (expr f p.2).bind fun x => endP (.mk 6 [] Xd [x.1] [] []) x.2 else
            (Cc WX p.2).bind fun p => bif p.1 then (expr f p.2).bind fun x => endP (.mk 7 [] Xd [x.1] [] []) x.2 else (mQ f p.2).bind fun x => endP x.1 x.2) = some (e, s') from hm)
        rw [CG, show V.str 6 121437875889522 = sB CY from rfl]
        refine KO x.p x.lt h3 fun H8 n8 y => ?_
        have x := x.tr y
        have hn8 := y.le
        have g1 := y.get g1 (by omega) hb
        have g3 := y.get g3 (by omega) (by omega)
        cases b with
        | true =>
          obtain ⟨⟨e1, s4⟩, h4, hm⟩ := Option.bind_eq_some_iff.1 (show ((expr f s3).bind fun x => endP (.mk 6 [] Xd [x.1] [] []) x.2) = some (e, s') from hm)
          rw [CS]
          exact APe (P := .undef) x (by omega) g1 g3 h4 hm
        | false =>
          obtain ⟨⟨b, s4⟩, h4, hm⟩ := Option.bind_eq_some_iff.1 (show ((Cc WX s3).bind fun p => bif p.1 then (expr f p.2).bind fun x => endP (.mk 7 [] Xd [x.1] [] []) x.2 else (mQ f p.2).bind fun x => endP x.1 x.2) = some (e, s') from hm)
          rw [CG, show V.str 5 500068610672 = sB WX from rfl]
          refine KO x.p x.lt h4 fun H9 n9 y => ?_
          have x := x.tr y
          have hn9 := y.le
          have g1 := y.get g1 (by omega) hb
          have g3 := y.get g3 (by omega) (by omega)
          cases b with
          | true =>
            obtain ⟨⟨e1, s5⟩, h5, hm⟩ := Option.bind_eq_some_iff.1 (show ((expr f s4).bind fun x => endP (.mk 7 [] Xd [x.1] [] []) x.2) = some (e, s') from hm)
            rw [CS]
            exact APe (P := .undef) x (by omega) g1 g3 h5 hm
          | false =>
            obtain ⟨⟨e1, s5⟩, h5, hm⟩ := Option.bind_eq_some_iff.1 (show ((mQ f s4).bind fun x => endP x.1 x.2) = some (e, s') from hm)
            rw [CG]
            refine AIo x.p (by omega) (by omega) g3 h5 fun H10 n10 c y hle gb hx => ?_
            have x10 : Fr G pb H n H10 n10 s5 := ⟨⟨by omega, fun id hid hp => (y.f.same id (by omega) hp).trans (x.f.same id hid hp)⟩, y.p, hb⟩
            exact fin x10 (by omega) hm (y.get g1 (by omega) hb) gb hx
theorem ASN (f : Nat) : StC G pb EJ (sc f false) /\ StC G pb ES (sc f true) := by
 induction f with
 | zero => exact ⟨fun s H n s' e k _ _ hm _ => (by cases hm), fun s H n s' e k _ _ hm _ => (by cases hm)⟩
 | succ f ih => exact ⟨fun s H n s' e k h hb hm hk => AMz (f := f) ih.1 ih.2 s H n s' e k h hb hm hk, fun s H n s' e k h hb hm hk => AHO (f := f) ih.1 ih.2 s H n s' e k h hb hm hk⟩
end
end Go.PQ
namespace Go.PQ
open Go.Eng
set_option maxRecDepth 100000
def vaC (x : Va) : LV := [sB x.nm, sB x.ty.nm, .bool x.ty.arr]
def AF5 (G : AP) (H : Heap) (A : Nat -> Prop) (v : V) (xs : List Va) : Prop := El G H v 3 (xs.map vaC) /\ XF v = true /\ BK v = [v] /\ (∀ id, v.Ul = some id -> A id)
theorem AF5.mono {G : AP} {H H' : Heap} {A B : Nat -> Prop} {v : V} {xs : List Va} (h : AF5 G H A v xs) (hA : ∀ id, A id -> B id) (hs : ∀ id, A id -> T.get H' id = T.get H id) : AF5 G H' B v xs :=
 ⟨h.1.same fun id hid => hs id (h.2.2.2 id hid), h.2.1, h.2.2.1, fun id hid => hA id (h.2.2.2 id hid)⟩
def meZ : LV := [.int .i64 (.ofNat 0) 0, .int .i64 (.ofNat 0) 0, .str 0 0, .bool false, .Ag, .str 0 0, .bool false, .Ag]
def meC (line col : Nat) (nm : Bs) (st : Bool) (vp : V) (ty : Ty) (vb : V) : LV := [.int .i64 (.ofNat line) 0, .int .i64 (.ofNat col) 0, sB nm, .bool st, vp, sB ty.nm, .bool ty.arr, vb]
inductive qB (G : AP) (H : Heap) (A : Nat -> Prop) : LV -> Me -> Prop where
 | mk (line col : Nat) {nm : Bs} {st : Bool} {ty : Ty} {ps : List Va} {bd : List St} {vp vb : V} (hp : AF5 G H A vp ps) (hb : mX G H A vb bd) : qB G H A (meC line col nm st vp ty vb) ⟨nm, st, ps, ty, bd⟩
theorem qB.mono {G : AP} {H H' : Heap} {A B : Nat -> Prop} {c : LV} {m : Me} (hA : ∀ id, A id -> B id) (hs : ∀ id, A id -> T.get H' id = T.get H id) (h : qB G H A c m) : qB G H' B c m := by
 cases h with
 | mk line col hp hb => exact .mk line col (hp.mono hA hs) (hb.mono hA hs)
theorem qB.len {G : AP} {H : Heap} {A : Nat -> Prop} {c : LV} {m : Me} (h : qB G H A c m) : c.length = 8 := by cases h; rfl
theorem qB.ok {G : AP} {H : Heap} {A : Nat -> Prop} {c : LV} {m : Me} (h : qB G H A c m) : XF (.agg c) = true /\ (BK (.agg c)).length = 8 := ⟨rfl, h.len⟩
theorem APf {x y : V} {b : Bool} : BZ meZ [(0, 2, .c (.agg [x, y])), (3, 1, .c (.bool b))] = some (.agg [x, y, .str 0 0, .bool b, .Ag, .str 0 0, .bool false, .Ag]) := rfl
theorem AKf (l m : Bs) (b : Bool) : BZ [.str 0 0, .str 0 0, .bool false] [(0, 1, .c (sB l)), (1, 2, .c (.agg [sB m, .bool b]))] = some (.agg [sB l, sB m, .bool b]) := rfl
theorem ADX (t : Ty) : Bz (.agg (jw t)) (.agg (jw t)) = true := zO fun v hv => by simp [jw] at hv; rcases hv with rfl | rfl; exact ACw ..; exact AEG ..
theorem AFf {G : AP} {H : Heap} {m z : Nat} {v : V} {LS : Dk} (h : Gr G H m z v LS) : Bz v v = true := by
 cases h with
 | nil => rfl
 | NW => exact zS ..
section
variable {G : AP} {pb : Nat} {H : Heap} {n : Nat} {s s' : S} {k : KV}
theorem uU {m : Nat} {t : S} (h : (Ht m t).ok = true) : m <= 200 := by
 unfold Ht at h
 cases hd : decide (200 < m) with
 | false => have := of_decide_eq_false hd; omega
 | true =>
  rw [hd] at h
  exfalso
  unfold Fj at h
  cases ho : t.ok with
  | false => rw [ho] at h; simp [ho] at h
  | true => rw [ho] at h; cases h
theorem AAT {z bs m : Nat} {v : V} {c : LV} {LS : Dk} {P : KV} {Z : LV} (ho : Own G H m n z v LS) (hm : m <= n) (hz : 0 < z) (hc : c.length = z) (hok : XF (.agg c) = true) (hb : (LS.length + 1) * bs <= 140737488355328)
    (hk : ∀ v' H', Own G H' m (n + 2) z v' (LS ++ [c]) -> (∀ id, id < n -> v.Ul ≠ some id -> T.get H' id = T.get H id) -> (∀ id, v'.Ul = some id -> id = n + 1) -> P v' H' (n + 2)) :
    CX (Ah z 1 Z [(0, .c (.agg c))] E0) H n fun w H n => Yq z bs v w G H n P := by
  refine NJ (G := G) (vs := [.agg c]) rfl hz (fun v hv => by simp at hv; subst hv; exact ⟨hok, hc⟩) fun H6 f6 _ hel => ?_
  have ho6 := ho.kp f6
  refine yh ho6.gr (by omega) ho6.lo hel.2 hb ?_ (fun h => by cases h)
  intro v' H7 hgr hsame hlo
  refine hk v' H7 ⟨hgr, fun id hid => by have := hlo id hid; omega⟩ (fun id h1 h2 => (hsame id (by omega) h2).trans (f6.same id h1)) hlo
theorem AGu {f : Nat} {m : Me} (h : Vw G H pb s) (hb : pb < n) (hm : WG f s = some (m, s')) (hk : ∀ H' n' c, Fr G pb H n H' n' s' -> qB G H' (Rg n n') c m -> k (.agg c) H' n') : Runs F G RN [.ptr pb 0] H n k := by
  refine BO (s := Dz (F6 lfp G)) Lc (by obtain ⟨h, o⟩ := QJ BP G; rw [Lc] at h; cases h; exact o) ?_
  show F6 lfp G (Runs F G) (.ptr pb 0) H n k
  delta F6
  obtain ⟨⟨b, s1⟩, h1, hm⟩ := Option.bind_eq_some_iff.1 hm
  obtain ⟨s2, h2, hm⟩ := Option.bind_eq_some_iff.1 hm
  obtain ⟨⟨ty, s3⟩, h3, hm⟩ := Option.bind_eq_some_iff.1 hm
  obtain ⟨⟨nm, s4⟩, h4, hm⟩ := Option.bind_eq_some_iff.1 hm
  obtain ⟨s5, h5, hm⟩ := Option.bind_eq_some_iff.1 hm
  obtain ⟨⟨ps, s6⟩, h6, hm⟩ := Option.bind_eq_some_iff.1 hm
  obtain ⟨⟨bd, s7⟩, h7, hm⟩ := Option.bind_eq_some_iff.1 hm
  cases hm
  have x := Fr.refl h hb
  refine BA rfl fun H1 f1 g1 => ?_
  have x := x.al f1
  obtain ⟨v, tid, o, line, col, e0, ea, _, _, _, _, _, e5⟩ := x.p.tok
  refine AL (v := .ptr pb 0) rfl (AL (v := .ptr pb 0) rfl (AL e0 (AL ea (AL (v := .ptr tid (o + 3)) (Aj ..) (AL e5 ?_)))))
  refine BA rfl fun H2 f2 g2 => ?_
  have x := x.al f2
  have g1 := f2.get g1 (by omega)
  refine CJ (L := [.int .i64 (.ofNat line) 0, .int .i64 (.ofNat col) 0]) g2 rfl rfl (by omega) fun H3 g2 t3 => ?_
  have x := x.st (by omega) t3
  have g1 := (t3 n (by omega)).trans g1
  refine AL (Au (m := 2) g2 (by omega) rfl) ?_
  refine BA rfl fun H4 f4 g3 => ?_
  have x := x.al f4
  have g1 := f4.get g1 (by omega)
  have g2 := f4.get g2 (by omega)
  clear f4 t3 f2 f1 e0 ea e5
  rw [show V.str 6 109304575259763 = sB Ov from rfl]
  refine KO x.p x.lt h1 fun H5 n5 y => ?_
  have x := x.tr y
  have hn5 := y.le
  have g1 := y.get g1 (by omega) hb
  have g2 := y.get g2 (by omega) (by omega)
  have g3 := y.get g3 (by omega) (by omega)
  refine AL (Au (m := 2) g2 (by omega) rfl) (Dx (Ua ..) (AL APf ?_))
  refine CJ g3 rfl rfl (by omega) fun H6 g3 t6 => ?_
  have x := x.st (by omega) t6
  have g1 := (t6 n (by omega)).trans g1
  refine Iz (ws := [Df]) x.p x.lt rfl (by show 1 <= 1000; omega) h2 fun H7 n7 y => ?_
  have x := x.tr y
  have hn7 := y.le
  have g1 := y.get g1 (by omega) hb
  have g3 := y.get g3 (by omega) (by omega)
  refine AD0 x.p x.lt h3 fun H8 n8 y => ?_
  have x := x.tr y
  have hn8 := y.le
  have g1 := y.get g1 (by omega) hb
  have g3 := y.get g3 (by omega) (by omega)
  refine AL (v := .ptr (n + 1 + 1) 5) (by rw [Aj, Nat.zero_add]) ?_
  refine Dp g3 rfl rfl (by omega) (by show 5 + 2 <= 8; omega) fun H9 g3 t9 => ?_
  have x := x.st (by omega) t9
  have g1 := (t9 n (by omega)).trans g1
  refine XK x.p x.lt h4 fun H10 n10 y => ?_
  have x := x.tr y
  have hn10 := y.le
  have g1 := y.get g1 (by omega) hb
  have g3 := y.get g3 (by omega) (by omega)
  refine AL (v := .ptr (n + 1 + 1) 2) (by rw [Aj, Nat.zero_add]) ?_
  refine Dp g3 rfl rfl (by omega) (by show 2 + 1 <= 8; omega) fun H11 g3 t11 => ?_
  have x := x.st (by omega) t11
  have g1 := (t11 n (by omega)).trans g1
  have g3 : T.get H11 (n + 1 + 1) = some (one (meC line col nm b .Ag ty .Ag)) := g3
  refine Iz (ws := [IL]) x.p x.lt rfl (by show 1 <= 1000; omega) h5 fun H12 n12 y => ?_
  have x := x.tr y
  have hn12 := y.le
  have g1 := y.get g1 (by omega) hb
  have g3 := y.get g3 (by omega) (by omega)
  clear t6 t9 t11
  refine KY (J := fun g r => ∃ H' n' t v out, r = (.ptr pb 0, .ptr n 0, .ptr (n + 1 + 1) 0, H', n') /\ Fr G pb H n H' n' t /\ n12 <= n' /\ T.get H' n = some (one meZ) /\ T.get H' (n + 1 + 1) = some (one (meC line col nm b v ty .Ag)) /\ Own G H' n12 n' 3 v (out.map vaC) /\
      (t.ok = true -> out.length <= 200) /\ out.length <= 201 /\ dD g out t = some (ps, s6)) ?_ (m := f)
    ⟨H12, n12, s5, .Ag, [], rfl, x, Nat.le_refl _, g1, g3, dN, fun _ => Nat.zero_le _, Nat.zero_le _, h6⟩
  clear g1 g3 x
  rintro I g r ⟨H13, n13, t, v, out, rfl, x, hn13, g1, g3, ho, hle, hle2, hm⟩ ih
  show JH lfp G (Runs F G) k I (.ptr pb 0) (.ptr n 0) (.ptr (n + 1 + 1) 0) H13 n13
  delta JH
  cases g with
  | zero => cases hm
  | succ g =>
    have hm : (bif t.ok then (Cc Ik t).bind fun p => bif p.1 then some (out, p.2) else
      (bif decide (0 < out.length) then Ce [OM] p.2 else some p.2).bind fun s1 => (jU s1).bind fun t => (Hr 3 t.2).bind fun n => dD g (out ++ [⟨n.1, t.1⟩]) (Ht (out.length + 1) n.2)
      else some (out, t)) = some (ps, s6) := hm
    have fin : ∀ {H3 : Heap} {n3 : Nat} {t3 : S}, Fr G pb H13 n13 H3 n3 t3 -> some (out, t3) = some (ps, s6) -> FW lfp G (Runs F G) k (.ptr pb 0) (.ptr n 0) (.ptr (n + 1 + 1) 0) H3 n3 := by
      intro H14 n14 t3 y he
      cases he
      delta FW
      have hn14 := y.le
      have ho := ho.kx y.f (by omega)
      have x := x.tr y
      have g1 := y.get g1 (by omega) hb
      have g3 := y.get g3 (by omega) (by omega)
      refine qR (ASN f).1 x.p x.lt h7 fun H15 n15 vb y hss => ?_
      have hn15 := y.le
      have ho := ho.kx y.f (by omega)
      have x := x.tr y
      have g1 := y.get g1 (by omega) hb
      have g3 := y.get g3 (by omega) (by omega)
      obtain ⟨_, _, okb, vcb, _, _⟩ := id hss
      refine AL (v := .ptr (n + 1 + 1) 7) (by rw [Aj, Nat.zero_add]) ?_
      refine Dp g3 okb (by rw [vcb]; rfl) (by omega) (by show 7 + 1 <= 8; omega) fun H16 g3 t16 => ?_
      rw [vcb] at g3
      have x := x.st (by omega) t16
      have g1 := (t16 n (by omega)).trans g1
      have g3 : T.get H16 (n + 1 + 1) = some (one (meC line col nm b v ty vb)) := g3
      refine AL (Au (m := 8) g3 (by omega) rfl) ?_
      refine CJ g1 rfl rfl (by omega) fun H17 g1 t17 => ?_
      rw [BI (m := 8) g1 (by omega) rfl]
      simp only [go_sem]
      refine hk _ _ _ (x.st (Nat.le_refl _) t17) (.mk line col ⟨(ho.el (by omega)).same fun id hid => ?_, (Pm ho.gr).2.1, (Pm ho.gr).2.2, fun id hid => ⟨by have := ho.ge hid; omega, ho.lo id hid⟩⟩ (hss.mono (fun id h => ⟨by have := h.1; omega, h.2⟩) fun id h => ?_))
      · have := ho.ge hid; exact (t17 id (by omega)).trans (t16 id (by omega))
      · have := h.1; exact (t17 id (by omega)).trans (t16 id (by omega))
    rw [AQK]
    refine kU x.p x.lt (fun hf => fin (Fr.refl x.p x.lt) (by rw [hf] at hm; exact hm)) fun ht => ?_
    rw [ht, cond_true] at hm
    obtain ⟨⟨b2, t2⟩, h2, hm⟩ := Option.bind_eq_some_iff.1 hm
    refine ⟨b2, t2, h2, fun H14 n14 y => ?_⟩
    cases b2 with
    | true => exact fin y hm
    | false =>
      have hlen := hle ht
      have hm : ((bif decide (0 < out.length) then Ce [OM] t2 else some t2).bind fun s1 => (jU s1).bind fun t => (Hr 3 t.2).bind fun n => dD g (out ++ [⟨n.1, t.1⟩]) (Ht (out.length + 1) n.2)) = some (ps, s6) := hm
      obtain ⟨t3, h3, hm⟩ := Option.bind_eq_some_iff.1 hm
      obtain ⟨⟨pt, t4⟩, h4, hm⟩ := Option.bind_eq_some_iff.1 hm
      obtain ⟨⟨pn, t5⟩, h5, hm⟩ := Option.bind_eq_some_iff.1 hm
      have hm : dD g (out ++ [⟨pn, pt⟩]) (Ht (out.length + 1) t5) = some (ps, s6) := hm
      have hn14 := y.le
      have ho := ho.kx y.f (by omega)
      have x := x.tr y
      have g1 := y.get g1 (by omega) hb
      have g3 := y.get g3 (by omega) (by omega)
      have body : ∀ {H4 : Heap} {n4 : Nat}, Fr G pb H14 n14 H4 n4 t3 -> EG lfp G (Runs F G) k I (.ptr pb 0) (.ptr n 0) (.ptr (n + 1 + 1) 0) H4 n4 := by
        intro H15 n15 y
        delta EG
        have hn15 := y.le
        have ho := ho.kx y.f (by omega)
        have x := x.tr y
        have g1 := y.get g1 (by omega) hb
        have g3 := y.get g3 (by omega) (by omega)
        refine AD0 x.p x.lt h4 fun H16 n16 y => ?_
        have hn16 := y.le
        have ho := ho.kx y.f (by omega)
        have x := x.tr y
        have g1 := y.get g1 (by omega) hb
        have g3 := y.get g3 (by omega) (by omega)
        refine BA rfl fun H17 f17 g17 => ?_
        have hlo := ho.lo
        have ho := ho.kp f17
        have x := x.al f17
        have g1 := f17.get g1 (by omega)
        have g3 := f17.get g3 (by omega)
        refine CJ (L := jw pt) g17 rfl rfl (by omega) fun H18 g17 t18 => ?_
        have ho : Own G H18 n12 (n16 + 1) 3 v (out.map vaC) := ⟨ho.gr.mono fun id hid => t18 id (by have := hlo id hid; omega), ho.lo⟩
        have x := x.st (by omega) t18
        have g1 := (t18 n (by omega)).trans g1
        have g3 := (t18 (n + 1 + 1) (by omega)).trans g3
        refine AL (v := .ptr (n + 1 + 1) 4) (by rw [Aj, Nat.zero_add]) (AL (Ad (off := 4) g3 (v := v) rfl) (AL (Au (m := 2) g17 (by omega) rfl) ?_))
        refine XK x.p x.lt h5 fun H19 n19 y => ?_
        have hn19 := y.le
        have ho := ho.kx y.f (by omega)
        have x := x.tr y
        have g1 := y.get g1 (by omega) hb
        have g3 := y.get g3 (by omega) (by omega)
        have g17 := y.get g17 (by omega) (by omega)
        refine AL (Ad (off := 4) g3 (v := v) rfl) (Dx (AFf ho.gr) (AL (Au (m := 2) g17 (by omega) rfl) (Dx (ADX pt) (AL (AKf ..) ?_))))
        have hlo := ho.lo
        refine AAT (bs := 40) ho (by omega) (by omega) rfl rfl (by rw [List.length_map]; omega) fun v' H20 ho' hsame hnew => ?_
        have hlow : ∀ id, id < n12 -> T.get H20 id = T.get H19 id := fun id hid => hsame id (by omega) fun h => by have := ho.ge h; omega
        have x : Fr G pb H n H20 (n19 + 2) t5 := ⟨⟨by omega, fun id hid hp => (hlow id (by omega)).trans (x.f.same id hid hp)⟩, x.p.same fun id hid => hlow id (by omega), hb⟩
        have g1 := (hlow n (by omega)).trans g1
        have g3 := (hlow (n + 1 + 1) (by omega)).trans g3
        refine AL (v := .ptr (n + 1 + 1) 4) (by rw [Aj, Nat.zero_add]) ?_
        refine Dp g3 (Pm ho'.gr).2.1 (by rw [(Pm ho'.gr).2.2]; rfl) (by omega) (by show 4 + 1 <= 8; omega) fun H21 g3 t21 => ?_
        rw [(Pm ho'.gr).2.2] at g3
        have ho : Own G H21 n12 (n19 + 2) 3 v' (out.map vaC ++ [vaC ⟨pn, pt⟩]) := ⟨ho'.gr.mono fun id hid => t21 id (by have := ho'.ge hid; omega), ho'.lo⟩
        have x := x.st (by omega) t21
        have g1 := (t21 n (by omega)).trans g1
        have g3 : T.get H21 (n + 1 + 1) = some (one (meC line col nm b v' ty .Ag)) := g3
        refine AL (v := .ptr (n + 1 + 1) 4) (by rw [Aj, Nat.zero_add]) (AL (Ad (off := 4) g3 (v := v') rfl) ?_)
        rw [(ho.el (by omega)).len, BH, List.length_append, List.length_map]
        refine AAR x.p x.lt fun H22 n22 y => ?_
        have hn22 := y.le
        refine ih g _ (by omega) ⟨H22, n22, _, v', out ++ [⟨pn, pt⟩], rfl, x.tr y, by omega, y.get g1 (by omega) hb, y.get g3 (by omega) (by omega), ?_, fun h => by rw [List.length_append]; exact uU h, by rw [List.length_append]; show out.length + 1 <= 201; omega, hm⟩
        rw [List.map_append]
        exact ho.kx y.f (by omega)
      rw [cond_false]
      refine AL (v := .ptr (n + 1 + 1) 4) (by rw [Aj, Nat.zero_add]) (AL (Ad (off := 4) g3 (v := v) rfl) ?_)
      rw [(ho.el (by omega)).len, BH, List.length_map, jm, BH]
      cases hd : decide (0 < out.length) with
      | false =>
        rw [hd] at h3
        cases h3
        rw [CG]
        exact body (Fr.refl x.p x.lt)
      | true =>
        rw [hd] at h3
        have h3 : Ce [OM] t2 = some t3 := h3
        rw [CS]
        exact Iz (ws := [OM]) x.p x.lt rfl (by show 1 <= 1000; omega) h3 fun H15 n15 y => body y
end
end Go.PQ
namespace Go.PQ
open Go.Eng
set_option maxRecDepth 100000
inductive jM (G : AP) (H : Heap) (A : Nat -> Prop) : Dk -> List Me -> Prop where
 | nil : jM G H A [] []
 | cons {c : LV} {e : Me} {cs : Dk} {es : List Me} (h : qB G H A c e) (t : jM G H A cs es) : jM G H A (c :: cs) (e :: es)
theorem jM.mono {G : AP} {H H' : Heap} {A B : Nat -> Prop} (hA : ∀ id, A id -> B id) (hs : ∀ id, A id -> T.get H' id = T.get H id) : ∀ {cs : Dk} {es : List Me}, jM G H A cs es -> jM G H' B cs es
 | _, _, .nil => .nil
 | _, _, .cons h t => .cons (h.mono hA hs) (t.mono hA hs)
theorem jM.app {G : AP} {H : Heap} {A : Nat -> Prop} : ∀ {cs : Dk} {es : List Me} {cs' : Dk} {es' : List Me}, jM G H A cs es -> jM G H A cs' es' -> jM G H A (cs ++ cs') (es ++ es')
 | _, _, _, _, .nil, h => h
 | _, _, _, _, .cons h t, h' => .cons h (t.app h')
theorem jM.len {G : AP} {H : Heap} {A : Nat -> Prop} : ∀ {cs : Dk} {es : List Me}, jM G H A cs es -> cs.length = es.length
 | _, _, .nil => rfl
 | _, _, .cons h t => by simp [t.len]
def AJR (G : AP) (H : Heap) (A : Nat -> Prop) (v : V) (ms : List Me) : Prop := ∃ cs, El G H v 8 cs /\ XF v = true /\ BK v = [v] /\ (∀ id, v.Ul = some id -> A id) /\ jM G H A cs ms
theorem AJR.mono {G : AP} {H H' : Heap} {A B : Nat -> Prop} {v : V} {es : List Me} (h : AJR G H A v es) (hA : ∀ id, A id -> B id) (hs : ∀ id, A id -> T.get H' id = T.get H id) : AJR G H' B v es := by
 obtain ⟨cs, h1, h3, h4, h5, h6⟩ := h
 exact ⟨cs, h1.same fun id hid => hs id (h5 id hid), h3, h4, fun id hid => hA id (h5 id hid), h6.mono hA hs⟩
def clC (line col : Nat) (nm sup : Bs) (vf vm : V) : LV := [.int .i64 (.ofNat line) 0, .int .i64 (.ofNat col) 0, sB nm, sB sup, vf, vm]
def clZ : LV := [.int .i64 (.ofNat 0) 0, .int .i64 (.ofNat 0) 0, .str 0 0, .str 0 0, .Ag, .Ag]
inductive nJ (G : AP) (H : Heap) (A : Nat -> Prop) : LV -> Cl -> Prop where
 | mk (line col : Nat) {nm sup : Bs} {fs : List Va} {ms : List Me} {vf vm : V} (hp : 1 <= line) (hf : AF5 G H A vf fs) (hm : AJR G H A vm ms) : nJ G H A (clC line col nm sup vf vm) ⟨nm, sup, fs, ms⟩
theorem nJ.mono {G : AP} {H H' : Heap} {A B : Nat -> Prop} {c : LV} {m : Cl} (hA : ∀ id, A id -> B id) (hs : ∀ id, A id -> T.get H' id = T.get H id) (h : nJ G H A c m) : nJ G H' B c m := by
 cases h with
 | mk line col hp hf hm => exact .mk line col hp (hf.mono hA hs) (hm.mono hA hs)
theorem nJ.len {G : AP} {H : Heap} {A : Nat -> Prop} {c : LV} {m : Cl} (h : nJ G H A c m) : c.length = 6 := by cases h; rfl
theorem APk {x y : V} : BZ clZ [(0, 2, .c (.agg [x, y]))] = some (.agg [x, y, .str 0 0, .str 0 0, .Ag, .Ag]) := rfl
theorem AHW : BZ clZ [] = some (.agg clZ) := rfl
theorem AOD {id o l : Nat} : BZ [.Ag, .int .i64 (.ofNat 0) 0, .int .i64 (.ofNat 0) 0, .int .i64 (.ofNat 0) 0, .int .i64 (.ofNat 0) 0] [(0, 1, .c (.NW id o l 5))] = some (.agg [.NW id o l 5, .int .i64 (.ofNat 0) 0, .int .i64 (.ofNat 0) 0, .int .i64 (.ofNat 0) 0, .int .i64 (.ofNat 0) 0]) := rfl
section
variable {G : AP} {pb : Nat} {H : Heap} {n : Nat} {s s' : S} {k : KV}
theorem AKD {e : Nat} {t : S} (he : e ≠ 0) : (Fj e t).ok = false := by
 unfold Fj
 cases ho : t.ok with
 | false => exact ho
 | true => simp [S.ok, he]
theorem AOL {t t' : S} (h : Ko t = some t') : t'.ok = t.ok := by
 unfold Ko at h
 cases hd : decide (t.t.kind = 0) with
 | true => rw [hd] at h; cases h; rfl
 | false =>
  rw [hd, cond_false] at h
  cases hr : t.r with
  | nil => rw [hr] at h; cases h
  | cons a r => rw [hr] at h; cases h; rfl
theorem AJl {w : Bs} {t t' : S} (h : Ce [w] t = some t') (h' : t'.ok = true) : t.ok = true := by
 obtain ⟨⟨b, t1⟩, h1, h⟩ := Option.bind_eq_some_iff.1 (show ((Cc w t).bind fun p => some (bif p.1 then p.2 else Fj 21 p.2)) = some t' from h)
 unfold Cc at h1
 cases ho : O0 w t with
 | false =>
  rw [ho] at h1
  cases h1
  have h : Fj 21 t = t' := by simpa using h
  rw [<- h, AKD (by decide)] at h'
  cases h'
 | true =>
  unfold O0 at ho
  simp only [Bool.and_eq_true] at ho
  exact ho.1
def ClK (G : AP) (pb : Nat) (H : Heap) (n : Nat) (s' : S) (c : Cl) (k : KV) : Prop := ∀ H' n' l, Fr G pb H n H' n' s' -> nJ G H' (Rg n n') l c -> k (.agg l) H' n'
structure ClJ (G : AP) (pb : Nat) (H0 : Heap) (n0 m0 line col : Nat) (nm sup : Bs) (H : Heap) (n : Nat) (t : S) (fs : List Va) (ms : List Me) (vf vm : V) (cs : Dk) : Prop where
 x : Fr G pb H0 n0 H n t
 hn : m0 <= n
 g1 : T.get H n0 = some (one clZ)
 g2 : T.get H (n0 + 1) = some (one (clC line col nm sup vf vm))
 hf : Own G H m0 n 3 vf (fs.map vaC)
 hm : Own G H m0 n 8 vm cs
 ne : ∀ id, vf.Ul = some id -> vm.Ul ≠ some id
 hc : jM G H (fun id => m0 <= id /\ id < n /\ vf.Ul ≠ some id /\ vm.Ul ≠ some id) cs ms
theorem ClJ.fr {H0 H : Heap} {n0 m0 line col n n' : Nat} {nm sup : Bs} {H' : Heap} {t t' : S} {fs : List Va} {ms : List Me} {vf vm : V} {cs : Dk} (j : ClJ G pb H0 n0 m0 line col nm sup H n t fs ms vf vm cs) (y : Fr G pb H n H' n' t') (hm0 : n0 + 2 <= m0) :
    ClJ G pb H0 n0 m0 line col nm sup H' n' t' fs ms vf vm cs := by
  have hb := j.x.b
  have hn := j.hn
  have hn' := y.le
  exact ⟨j.x.tr y, by omega, y.get j.g1 (by omega) hb, y.get j.g2 (by omega) (by omega), j.hf.kx y.f (by omega), j.hm.kx y.f (by omega), j.ne,
    j.hc.mono (fun id h => ⟨h.1, by have := h.2.1; omega, h.2.2⟩) fun id h => y.f.same id h.2.1 (by have := h.1; omega)⟩
theorem ClJ.al {H0 H : Heap} {n0 m0 line col n n' : Nat} {nm sup : Bs} {H' : Heap} {t : S} {fs : List Va} {ms : List Me} {vf vm : V} {cs : Dk} (j : ClJ G pb H0 n0 m0 line col nm sup H n t fs ms vf vm cs) (f : Kp H n H' n') (hm0 : n0 + 2 <= m0) :
    ClJ G pb H0 n0 m0 line col nm sup H' n' t fs ms vf vm cs := j.fr ((Fr.refl j.x.p j.x.lt).al f) hm0
theorem ClJ.ARm {H0 H H1 H2 : Heap} {n0 m0 line col n : Nat} {nm sup : Bs} {t : S} {fs : List Va} {ms : List Me} {vf vm v' : V} {cs : Dk} {a : Va} (j : ClJ G pb H0 n0 m0 line col nm sup H n t fs ms vf vm cs) (hm0 : n0 + 2 <= m0)
    (ho : Own G H1 m0 (n + 2) 3 v' (fs.map vaC ++ [vaC a])) (hs : ∀ id, id < n -> vf.Ul ≠ some id -> T.get H1 id = T.get H id) (hw : ∀ id, v'.Ul = some id -> id = n + 1)
    (g2 : T.get H2 (n0 + 1) = some (one (clC line col nm sup v' vm))) (ht : ∀ i, i ≠ n0 + 1 -> T.get H2 i = T.get H1 i) : ClJ G pb H0 n0 m0 line col nm sup H2 (n + 2) t (fs ++ [a]) ms v' vm cs := by
  have hb := j.x.b
  have hn := j.hn
  have low : ∀ id, id < m0 -> id ≠ n0 + 1 -> T.get H2 id = T.get H id := fun id h1 h2 => (ht id h2).trans (hs id (by omega) fun h => by have := j.hf.ge h; omega)
  have hvm : ∀ id, vm.Ul = some id -> id < n := j.hm.lo
  refine ⟨⟨⟨by have := j.x.f.le; omega, fun id hid hp => (low id (by omega) (by omega)).trans (j.x.f.same id hid hp)⟩, j.x.p.same fun id hid => low id (by omega) (by omega), hb⟩, by omega, (low n0 (by omega) (by omega)).trans j.g1, g2, ?_,
    ⟨j.hm.gr.mono fun id hid => (ht id (by have := j.hm.ge hid; omega)).trans (hs id (hvm id hid) fun h => j.ne id h hid), j.hm.lo.mono (by omega)⟩, fun id h1 h2 => by have := hw id h1; have := hvm id h2; omega, ?_⟩
  · rw [List.map_append]
    exact ⟨ho.gr.mono fun id hid => ht id (by have := ho.ge hid; omega), ho.lo⟩
  · exact j.hc.mono (fun id h => ⟨h.1, by have := h.2.1; omega, fun h2 => by have := hw id h2; have := h.2.1; omega, h.2.2.2⟩) fun id h => (ht id (by have := h.1; omega)).trans (hs id h.2.1 h.2.2.1)
theorem ClJ.AS5 {H0 H H1 H2 : Heap} {n0 m0 line col n : Nat} {nm sup : Bs} {t : S} {fs : List Va} {ms : List Me} {vf vm v' : V} {cs : Dk} {c : LV} {e : Me} {A : Nat -> Prop} (j : ClJ G pb H0 n0 m0 line col nm sup H n t fs ms vf vm cs) (hm0 : n0 + 2 <= m0)
    (hx : qB G H A c e) (hA : ∀ id, A id -> m0 <= id /\ id < n /\ vf.Ul ≠ some id /\ vm.Ul ≠ some id)
    (ho : Own G H1 m0 (n + 2) 8 v' (cs ++ [c])) (hs : ∀ id, id < n -> vm.Ul ≠ some id -> T.get H1 id = T.get H id) (hw : ∀ id, v'.Ul = some id -> id = n + 1)
    (g2 : T.get H2 (n0 + 1) = some (one (clC line col nm sup vf v'))) (ht : ∀ i, i ≠ n0 + 1 -> T.get H2 i = T.get H1 i) : ClJ G pb H0 n0 m0 line col nm sup H2 (n + 2) t fs (ms ++ [e]) vf v' (cs ++ [c]) := by
  have hb := j.x.b
  have hn := j.hn
  have low : ∀ id, id < m0 -> id ≠ n0 + 1 -> T.get H2 id = T.get H id := fun id h1 h2 => (ht id h2).trans (hs id (by omega) fun h => by have := j.hm.ge h; omega)
  have hvf : ∀ id, vf.Ul = some id -> id < n := j.hf.lo
  have hx : qB G H (fun id => m0 <= id /\ id < n /\ vf.Ul ≠ some id /\ vm.Ul ≠ some id) c e := hx.mono hA fun _ _ => rfl
  refine ⟨⟨⟨by have := j.x.f.le; omega, fun id hid hp => (low id (by omega) (by omega)).trans (j.x.f.same id hid hp)⟩, j.x.p.same fun id hid => low id (by omega) (by omega), hb⟩, by omega, (low n0 (by omega) (by omega)).trans j.g1, g2,
    ⟨j.hf.gr.mono fun id hid => (ht id (by have := j.hf.ge hid; omega)).trans (hs id (hvf id hid) fun h => j.ne id hid h), j.hf.lo.mono (by omega)⟩, ⟨ho.gr.mono fun id hid => ht id (by have := ho.ge hid; omega), ho.lo⟩, fun id h1 h2 => by have := hw id h2; have := hvf id h1; omega, ?_⟩
  exact (j.hc.app (.cons hx .nil)).mono (fun id h => ⟨h.1, by have := h.2.1; omega, h.2.2.1, fun h2 => by have := hw id h2; have := h.2.1; omega⟩) fun id h => (ht id (by have := h.1; omega)).trans (hs id h.2.1 h.2.2.2)
theorem AJK {f : Nat} {c : Cl} (h : Vw G H pb s) (hb : pb < n) (hm : ACn f s = some (c, s')) (hk : ClK G pb H n s' c k) : Runs F G TV [.ptr pb 0] H n k := by
 refine BO (s := Dz (Gg lfp G)) MW (by obtain ⟨h, o⟩ := RG BP G; rw [MW] at h; cases h; exact o) ?_
 show Gg lfp G (Runs F G) (.ptr pb 0) H n k
 delta Gg
 obtain ⟨s1, h1, hm⟩ := Option.bind_eq_some_iff.1 hm
 obtain ⟨⟨nm, s2⟩, h2, hm⟩ := Option.bind_eq_some_iff.1 hm
 obtain ⟨⟨b, s3⟩, h3, hm⟩ := Option.bind_eq_some_iff.1 hm
 obtain ⟨⟨sup, s4⟩, h4, hm⟩ := Option.bind_eq_some_iff.1 hm
 obtain ⟨s5, h5, hm⟩ := Option.bind_eq_some_iff.1 hm
 obtain ⟨⟨⟨fs1, ms1⟩, s6⟩, h6, hm⟩ := Option.bind_eq_some_iff.1 hm
 have hm : some (Cl.mk nm sup fs1 ms1, bif s6.ok && !decide (s6.t.kind = 0) then Fj 21 s6 else s6) = some (c, s') := hm
 have x := Fr.refl h hb
 refine BA rfl fun H1 f1 g1 => ?_
 have x := x.al f1
 obtain ⟨v, tid, o, line, col, e0, ea, hline, _, _, _, _, e5⟩ := x.p.tok
 refine AL (v := .ptr pb 0) rfl (AL (v := .ptr pb 0) rfl (AL e0 (AL ea (AL (v := .ptr tid (o + 3)) (Aj ..) (AL e5 (AL APk ?_))))))
 refine BA rfl fun H2 f2 g2 => ?_
 have x := x.al f2
 have g1 := f2.get g1 (by omega)
 refine CJ g2 rfl rfl (by omega) fun H3 g2 t3 => ?_
 have x := x.st (by omega) t3
 have g1 := (t3 n (by omega)).trans g1
 clear t3 f2 f1 e0 ea e5
 refine Iz (ws := [Iw]) x.p x.lt rfl (by show 1 <= 1000; omega) h1 fun H4 n4 y => ?_
 have x := x.tr y
 have hn4 := y.le
 have g1 := y.get g1 (by omega) hb
 have g2 := y.get g2 (by omega) (by omega)
 refine XK x.p x.lt h2 fun H5 n5 y => ?_
 have x := x.tr y
 have hn5 := y.le
 have g1 := y.get g1 (by omega) hb
 have g2 := y.get g2 (by omega) (by omega)
 refine AL (v := .ptr (n + 1) 2) (by rw [Aj, Nat.zero_add]) ?_
 refine Dp g2 rfl rfl (by omega) (by show 2 + 1 <= 6; omega) fun H6 g2 t6 => ?_
 have x := x.st (by omega) t6
 have g1 := (t6 n (by omega)).trans g1
 rw [show V.str 7 32480047633037413 = sB dI from rfl]
 refine KO x.p x.lt h3 fun H7 n7 y => ?_
 have x := x.tr y
 have hn7 := y.le
 have g1 := y.get g1 (by omega) hb
 have g2 := y.get g2 (by omega) (by omega)
 have members : ∀ {H8 : Heap} {n8 : Nat}, Fr G pb H n H8 n8 s4 -> n + 2 <= n8 -> T.get H8 n = some (one clZ) -> T.get H8 (n + 1) = some (one (clC line col nm sup .Ag .Ag)) -> ET lfp G (Runs F G) k (.ptr pb 0) (.ptr n 0) (.ptr (n + 1) 0) H8 n8 := by
  intro H8 n8 x hn8 g1 g2
  delta ET
  refine Iz (ws := [G5]) x.p x.lt rfl (by show 1 <= 1000; omega) h5 fun H9 n9 y => ?_
  have x := x.tr y
  have hn9 := y.le
  have g1 := y.get g1 (by omega) hb
  have g2 := y.get g2 (by omega) (by omega)
  refine KY (J := fun g r => ∃ H' n' t fs ms vf vm cs, r = (.ptr pb 0, .ptr n 0, .ptr (n + 1) 0, H', n') /\ ClJ G pb H n n9 line col nm sup H' n' t fs ms vf vm cs /\ (t.ok = true -> fs.length <= 200 /\ ms.length <= 200) /\ fs.length <= 201 /\ ms.length <= 201 /\ FU f g fs ms t = some ((fs1, ms1), s6)) ?_ (m := f)
   ⟨H9, n9, s5, [], [], .Ag, .Ag, [], rfl, ⟨x, Nat.le_refl _, g1, g2, dN, dN, fun _ h => (by cases h), .nil⟩, fun _ => ⟨Nat.zero_le _, Nat.zero_le _⟩, Nat.zero_le _, Nat.zero_le _, h6⟩
  have hm9 : n + 2 <= n9 := by omega
  clear g1 g2 x y hn9 hn8
  rintro I g r ⟨H10, n10, t, fs, ms, vf, vm, cs, rfl, j, hle, hf1, hm1, hm6⟩ ih
  show Jy lfp G (Runs F G) k I (.ptr pb 0) (.ptr n 0) (.ptr (n + 1) 0) H10 n10
  delta Jy
  cases g with
  | zero => cases hm6
  | succ g =>
   have hm6 : (bif t.ok then (Cc m_rc t).bind fun p => bif p.1 then some ((fs, ms), p.2) else
    (Cc ND p.2).bind fun p => bif p.1 then (jU p.2).bind fun t => (Hr 3 t.2).bind fun n => (Ce [BQ] (Ht (fs.length + 1) n.2)).bind fun s1 => FU f g (fs ++ [⟨n.1, t.1⟩]) ms s1 else
    bif Oj [Ov, Df] p.2 then (WG f p.2).bind fun m => FU f g fs (ms ++ [m.1]) (Ht (ms.length + 1) m.2) else
    FU f g fs ms (Fj 21 p.2)
    else some ((fs, ms), t)) = some ((fs1, ms1), s6) := hm6
   have fin : ∀ {H3 : Heap} {n3 : Nat} {t3 : S}, Fr G pb H10 n10 H3 n3 t3 -> some ((fs, ms), t3) = some ((fs1, ms1), s6) -> GN lfp G (Runs F G) k (.ptr pb 0) (.ptr n 0) (.ptr (n + 1) 0) H3 n3 := by
    intro H14 n14 t3 y he
    cases he
    have j := j.fr y hm9
    delta GN
    have out : ∀ {H' : Heap} {n' : Nat}, Fr G pb H14 n14 H' n' s' -> EW lfp G (Runs F G) k (.ptr n 0) (.ptr (n + 1) 0) H' n' := by
     intro H15 n15 y
     have j := j.fr y hm9
     have hn := j.hn
     delta EW
     refine AL (Au (m := 6) j.g2 (by omega) rfl) ?_
     refine CJ j.g1 rfl rfl (by omega) fun H17 g1 t17 => ?_
     rw [BI (m := 6) g1 (by omega) rfl]
     simp only [go_sem]
     have ec : c = Cl.mk nm sup fs1 ms1 := by cases hm; rfl
     subst ec
     refine hk _ _ _ (j.x.st (Nat.le_refl _) t17) (.mk line col hline ⟨(j.hf.el (by omega)).same fun id hid => t17 id ?_, (Pm j.hf.gr).2.1, (Pm j.hf.gr).2.2, fun id hid => ⟨by have := j.hf.ge hid; omega, j.hf.lo id hid⟩⟩
      ⟨cs, (j.hm.el (by omega)).same fun id hid => t17 id ?_, (Pm j.hm.gr).2.1, (Pm j.hm.gr).2.2, fun id hid => ⟨by have := j.hm.ge hid; omega, j.hm.lo id hid⟩, j.hc.mono (fun id h => ⟨by have := h.1; omega, h.2.1⟩) fun id h => t17 id (by have := h.1; omega)⟩)
     ·have := j.hf.ge hid; omega
     ·have := j.hm.ge hid; omega
    refine AFA j.x.p ?_
    cases ho : s6.ok with
    | false =>
     rw [ho] at hm
     have hs : s' = s6 := by simp at hm; exact hm.2.symm
     subst hs
     simp only [go_sem]
     exact out (Fr.refl j.x.p j.x.lt)
    | true =>
     obtain ⟨v, tid, o, line, col, e0, e1, x1, x2, e2, e3, e4, e5⟩ := j.x.p.tok
     rw [ho] at hm
     simp only [go_sem, Nat.reduceAdd, Nat.add_zero, e0, e1, e3, eG]
     cases hd : decide (s6.t.kind = 0) with
     | true =>
      rw [hd] at hm
      have hs : s' = s6 := by simp at hm; exact hm.2.symm
      subst hs
      simp only [go_sem, Bool.not_true]
      exact out (Fr.refl j.x.p j.x.lt)
     | false =>
      rw [hd] at hm
      have hs : s' = Fj 21 s6 := by simp at hm; exact hm.2.symm
      subst hs
      simp only [go_sem, Bool.not_false]
      exact Ye j.x.p j.x.lt fun H15 n15 y => out y
   rw [AOl]
   refine kU j.x.p j.x.lt (fun hf => fin (Fr.refl j.x.p j.x.lt) (by rw [hf] at hm6; exact hm6)) fun ht => ?_
   rw [ht, cond_true] at hm6
   obtain ⟨⟨b2, t2⟩, h2, hm6⟩ := Option.bind_eq_some_iff.1 hm6
   refine ⟨b2, t2, h2, fun H11 n11 y => ?_⟩
   cases b2 with
   | true => exact fin y hm6
   | false =>
    rw [cond_false]
    obtain ⟨hlf, hlm⟩ := hle ht
    have j := j.fr y hm9
    clear y fin
    obtain ⟨⟨b3, t3⟩, h3, hm6⟩ := Option.bind_eq_some_iff.1 (show ((Cc ND t2).bind fun p => bif p.1 then (jU p.2).bind fun t => (Hr 3 t.2).bind fun n => (Ce [BQ] (Ht (fs.length + 1) n.2)).bind fun s1 => FU f g (fs ++ [⟨n.1, t.1⟩]) ms s1 else
     bif Oj [Ov, Df] p.2 then (WG f p.2).bind fun m => FU f g fs (ms ++ [m.1]) (Ht (ms.length + 1) m.2) else
     FU f g fs ms (Fj 21 p.2)) = some ((fs1, ms1), s6) from hm6)
    rw [show V.str 5 431315315046 = sB ND from rfl]
    refine KO j.x.p j.x.lt h3 fun H12 n12 y => ?_
    have j := j.fr y hm9
    cases b3 with
    | true =>
     obtain ⟨⟨pt, t4⟩, h4, hm6⟩ := Option.bind_eq_some_iff.1 (show ((jU t3).bind fun t => (Hr 3 t.2).bind fun n => (Ce [BQ] (Ht (fs.length + 1) n.2)).bind fun s1 => FU f g (fs ++ [⟨n.1, t.1⟩]) ms s1) = some ((fs1, ms1), s6) from hm6)
     obtain ⟨⟨pn, t5⟩, h5, hm6⟩ := Option.bind_eq_some_iff.1 hm6
     obtain ⟨t6, h6, hm6⟩ := Option.bind_eq_some_iff.1 hm6
     have hm6 : FU f g (fs ++ [⟨pn, pt⟩]) ms t6 = some ((fs1, ms1), s6) := hm6
     have h6 : Ce [BQ] (Ht (fs.length + 1) t5) = some t6 := h6
     rw [CS]
     refine AD0 j.x.p j.x.lt h4 fun H13 n13 y => ?_
     have j := j.fr y hm9
     have hn := j.hn
     refine BA rfl fun H14 f14 g14 => ?_
     refine CJ (L := jw pt) g14 rfl rfl (by omega) fun H15 g15 t15 => ?_
     have j := j.al (⟨f14.le, fun id hid => (t15 id (by omega)).trans (f14.same id hid)⟩ : Kp H13 n13 H15 (n13 + 1)) hm9
     refine AL (v := .ptr (n + 1) 4) (by rw [Aj, Nat.zero_add]) (AL (Ad (off := 4) j.g2 (v := vf) rfl) (AL (Au (m := 2) g15 (by omega) rfl) ?_))
     refine XK j.x.p j.x.lt h5 fun H16 n16 y => ?_
     have j := j.fr y hm9
     have hn16 := y.le
     have g15 := y.get g15 (by omega) (by omega)
     refine AL (Ad (off := 4) j.g2 (v := vf) rfl) (Dx (AFf j.hf.gr) (AL (Au (m := 2) g15 (by omega) rfl) (Dx (ADX pt) (AL (AKf ..) ?_))))
     have hj := j.hn
     refine AAT (bs := 40) j.hf (by omega) (by omega) rfl rfl (by rw [List.length_map]; omega) fun v' H17 ho hsame hnew => ?_
     have g2 := (hsame (n + 1) (by omega) fun h => by have := j.hf.ge h; omega).trans j.g2
     refine AL (v := .ptr (n + 1) 4) (by rw [Aj, Nat.zero_add]) ?_
     refine Dp g2 (Pm ho.gr).2.1 (by rw [(Pm ho.gr).2.2]; rfl) (by omega) (by show 4 + 1 <= 6; omega) fun H18 g2 t18 => ?_
     rw [(Pm ho.gr).2.2] at g2
     have j := j.ARm (a := ⟨pn, pt⟩) hm9 ho hsame hnew g2 t18
     refine AL (v := .ptr (n + 1) 4) (by rw [Aj, Nat.zero_add]) (AL (Ad (off := 4) j.g2 (v := v') rfl) ?_)
     rw [(j.hf.el (by omega)).len, BH, List.length_map, List.length_append]
     refine AAR j.x.p j.x.lt fun H19 n19 y => ?_
     have j := j.fr y hm9
     refine Iz (ws := [BQ]) j.x.p j.x.lt rfl (by show 1 <= 1000; omega) h6 fun H20 n20 y => ?_
     have j := j.fr y hm9
     have hok : t6.ok = true -> fs.length + 1 <= 200 := fun h => uU (t := t5) (AJl h6 h)
     exact ih g _ (by omega) ⟨H20, n20, t6, _, _, v', vm, cs, rfl, j, fun h => ⟨by rw [List.length_append]; exact hok h, hlm⟩, by rw [List.length_append]; show fs.length + 1 <= 201; omega, hm1, hm6⟩
    | false =>
     rw [CG]
     have hm6 : (bif Oj [Ov, Df] t3 then (WG f t3).bind fun m => FU f g fs (ms ++ [m.1]) (Ht (ms.length + 1) m.2) else FU f g fs ms (Fj 21 t3)) = some ((fs1, ms1), s6) := hm6
     refine eu (ws := [Ov, Df]) j.x.p j.x.lt rfl (by show 2 <= 1000; omega) fun H13 n13 y => ?_
     have j := j.fr y hm9
     cases hi : Oj [Ov, Df] t3 with
     | true =>
      rw [hi, cond_true] at hm6
      obtain ⟨⟨m, t4⟩, h4, hm6⟩ := Option.bind_eq_some_iff.1 hm6
      have hm6 : FU f g fs (ms ++ [m]) (Ht (ms.length + 1) t4) = some ((fs1, ms1), s6) := hm6
      rw [CS]
      refine AL (v := .ptr (n + 1) 5) (by rw [Aj, Nat.zero_add]) (AL (Ad (off := 5) j.g2 (v := vm) rfl) ?_)
      refine AGu j.x.p j.x.lt h4 fun H14 n14 l y hx => ?_
      have hlv : ∀ id, vf.Ul = some id -> id < n13 := j.hf.lo
      have hlw : ∀ id, vm.Ul = some id -> id < n13 := j.hm.lo
      have h13 := j.hn
      have j := j.fr y hm9
      refine AL (Ad (off := 5) j.g2 (v := vm) rfl) (Dx (AFf j.hm.gr) ?_)
      refine AAT (bs := 112) j.hm j.hn (by omega) hx.len rfl (by rw [j.hc.len]; omega) fun v' H17 ho hsame hnew => ?_
      have hj := j.hn
      have g2 := (hsame (n + 1) (by omega) fun h => by have := j.hm.ge h; omega).trans j.g2
      refine AL (v := .ptr (n + 1) 5) (by rw [Aj, Nat.zero_add]) ?_
      refine Dp g2 (Pm ho.gr).2.1 (by rw [(Pm ho.gr).2.2]; rfl) (by omega) (by show 5 + 1 <= 6; omega) fun H18 g2 t18 => ?_
      rw [(Pm ho.gr).2.2] at g2
      have j := j.AS5 hm9 hx (fun id h => ⟨by have := h.1; omega, h.2, fun h2 => by have := hlv id h2; have := h.1; omega, fun h2 => by have := hlw id h2; have := h.1; omega⟩) ho hsame hnew g2 t18
      refine AL (v := .ptr (n + 1) 5) (by rw [Aj, Nat.zero_add]) (AL (Ad (off := 5) j.g2 (v := v') rfl) ?_)
      rw [(j.hm.el (by omega)).len, BH, j.hc.len, List.length_append]
      refine AAR j.x.p j.x.lt fun H19 n19 y => ?_
      have j := j.fr y hm9
      exact ih g _ (by omega) ⟨H19, n19, _, _, _, vf, v', _, rfl, j, fun h => ⟨hlf, by rw [List.length_append]; exact uU h⟩, hf1, by rw [List.length_append]; show ms.length + 1 <= 201; omega, hm6⟩
     | false =>
      rw [hi, cond_false] at hm6
      rw [CG]
      refine Ye j.x.p j.x.lt fun H14 n14 y => ?_
      have j := j.fr y hm9
      exact ih g _ (by omega) ⟨H14, n14, _, _, _, vf, vm, _, rfl, j, fun _ => ⟨hlf, hlm⟩, hf1, hm1, hm6⟩
 cases b with
 | true =>
  rw [CS]
  have h4 : Hr 2 s3 = some (sup, s4) := h4
  refine XK x.p x.lt h4 fun H8 n8 y => ?_
  have x := x.tr y
  have hn8 := y.le
  have g1 := y.get g1 (by omega) hb
  have g2 := y.get g2 (by omega) (by omega)
  refine AL (v := .ptr (n + 1) 3) (by rw [Aj, Nat.zero_add]) ?_
  refine Dp g2 rfl rfl (by omega) (by show 3 + 1 <= 6; omega) fun H9 g2 t9 => ?_
  exact members (x.st (by omega) t9) (by omega) ((t9 n (by omega)).trans g1) g2
 | false =>
  rw [CG]
  cases h4
  exact members x (by omega) g1 g2
end
end Go.PQ
namespace Go.PQ
open Go.Eng
set_option maxRecDepth 100000
def Ze (e line col : Nat) : LV := [.int .i64 (.ofNat e) 0, .int .i64 (.ofNat line) 0, .int .i64 (.ofNat col) 0]
theorem zV (e line col : Nat) : Bz (.agg (Ze e line col)) (.agg (Ze e line col)) = true := zO fun v hv => by simp [Ze] at hv; rcases hv with rfl | rfl | rfl <;> exact nS ..
def gq (f : Nat) (s : Bs) : Option (Option Cl × Nat) := bif decide ((vZ s).1 = 0) then (MS f (vZ s).2).bind fun p => some (bif decide (p.2 = 0) then (some p.1, 0) else (none, p.2)) else some (none, (vZ s).1)
def ClO (G : AP) (H : Heap) (A : Nat -> Prop) (c : LV) : Option Cl -> Prop
 | none => c = clZ
 | some cl => nJ G H A c cl
def FtO (e : Nat) (ft : LV) : Prop := ∃ line col, ft = Ze e line col /\ (e ≠ 0 -> 1 <= line /\ 1 <= col) /\ (e = 0 -> line = 0 /\ col = 0)
theorem FtO.z : FtO 0 (Ze 0 0 0) := ⟨0, 0, rfl, fun h => absurd rfl h, fun _ => ⟨rfl, rfl⟩⟩
theorem AFl : BZ (Ze 0 0 0) [] = some (.agg (Ze 0 0 0)) := rfl
section
variable {G : AP} {H : Heap} {n : Nat} {s : Bs} {k : KV}
theorem AAF {f e : Nat} {o : Option Cl} (hG : TA G) (hm : gq f s = some (o, e)) (hk : ∀ H' n' c ft, Kp H n H' n' -> ClO G H' (Rg n n') c o -> FtO e ft -> k (.GK [.agg c, .agg ft]) H' n') : Runs F G XV [sB s] H n k := by
 refine BO (s := Dz (Ou lfp G)) Vu (by obtain ⟨h, o⟩ := bC BP G; rw [Vu] at h; cases h; exact o) ?_
 show Ou lfp G (Runs F G) (sB s) H n k
 delta Ou
 refine BA rfl fun H1 f1 g1 => ?_
 refine BA rfl fun H2 f2 g2 => ?_
 have g1 := f2.get g1 (by omega)
 have f2 := f1.trans f2
 refine AQW hG ?_
 intro H3 n3 v c f3 h0 h1
 have g1 := f3.get g1 (by omega)
 have g2 := f3.get g2 (by omega)
 have hn3 := f3.le
 have f2 := f2.trans f3
 unfold gq at hm
 simp only [mZ, lK, BH]
 cases he : decide ((vZ s).1 = 0) with
 | false =>
  rw [he] at hm
  cases hm
  have he := of_decide_eq_false he
  obtain ⟨line, col, x1, x2, rfl⟩ := h1 he
  refine BA rfl fun H4 f4 g4 => ?_
  refine CJ g4 rfl rfl (by omega) fun H5 g4 t5 => ?_
  have f45 : Kp H3 n3 H5 (n3 + 1) := ⟨f4.le, fun id hid => (t5 id (by omega)).trans (f4.same id hid)⟩
  have g1 := f45.get g1 (by omega)
  have g2 := f45.get g2 (by omega)
  have f2 := f2.trans f45
  refine AL (v := .ptr n3 0) (by rw [Aj]) (AL (Ad (off := 0) g4 (v := .int .i64 (.ofNat (vZ s).1) 0) rfl) ?_)
  rw [eG, BH, decide_eq_false he, Bool.not_false, CS]
  refine AL AHW (AL (Au (m := 3) g4 (by omega) rfl) ?_)
  refine CJ g1 rfl rfl (by omega) fun H6 g1 t6 => ?_
  have g4 := (t6 n3 (by omega)).trans g4
  have g2 := (t6 (n + 1) (by omega)).trans g2
  refine AL (Au (m := 3) g4 (by omega) rfl) (Dx (zV ..) ?_)
  refine CJ g2 rfl rfl (by omega) fun H7 g2 t7 => ?_
  have g1 := (t7 n (by omega)).trans g1
  rw [BI (m := 6) g1 (by omega) rfl, BI (m := 3) g2 (by omega) rfl]
  simp only [go_sem]
  exact hk _ _ _ _ ⟨by have := f2.le; omega, fun id hid => (t7 id (by omega)).trans ((t6 id (by omega)).trans (f2.same id hid))⟩ rfl ⟨line, col, rfl, fun _ => ⟨x1, x2⟩, fun h => absurd h he⟩
 | true =>
  rw [he, cond_true] at hm
  have he := of_decide_eq_true he
  obtain ⟨⟨cl, e1⟩, hp, hm⟩ := Option.bind_eq_some_iff.1 hm
  obtain ⟨⟨cs, tid, rfl, ht1, ht2, hel, htk⟩, rfl⟩ := h0 he
  refine BA rfl fun H4 f4 g4 => ?_
  refine CJ (L := Ze 0 0 0) g4 rfl rfl (by omega) fun H5 g4 t5 => ?_
  have f45 : Kp H3 n3 H5 (n3 + 1) := ⟨f4.le, fun id hid => (t5 id (by omega)).trans (f4.same id hid)⟩
  have g1 := f45.get g1 (by omega)
  have g2 := f45.get g2 (by omega)
  have hel := hel.kp (fun id hid => by cases fK hid; exact ht2) f45
  have f2 := f2.trans f45
  refine AL (v := .ptr n3 0) (by rw [Aj]) (AL (Ad (off := 0) g4 (v := .int .i64 (.ofNat 0) 0) rfl) ?_)
  rw [eG, BH, decide_eq_true rfl, Bool.not_true, CG]
  refine AL AOD ?_
  refine aA fun H6 f6 g6 => ?_
  have g1 := f6.get g1 (by omega)
  have g2 := f6.get g2 (by omega)
  have hel := hel.kp (fun id hid => by cases fK hid; omega) f6
  have f2 := f2.trans f6
  cases hl : (vZ s).2 with
  | nil => rw [hl] at hp; cases hp
  | cons t r =>
   rw [hl] at hp htk
   obtain ⟨⟨cl', s'⟩, hc, hp⟩ := Option.bind_eq_some_iff.1 (show ((ACn f ⟨t, r, 0, 0⟩).bind fun p => some (p.1, p.2.e)) = some (cl, e1) from hp)
   have hcl : cl' = cl := by cases hp; rfl
   have hce : s'.e = e1 := by cases hp; rfl
   subst hcl; subst hce
   have hpa : Vw G H6 (n3 + 1) ⟨t, r, 0, 0⟩ := .mk (s := ⟨t, r, 0, 0⟩) g6 hel htk (fun h => absurd rfl h) (by omega)
   refine AJK hpa (by omega) hc fun H7 n7 l y hx => ?_
   have hn7 := y.le
   have g1 := (y.f.same n (by omega) (by omega)).trans g1
   have g2 := (y.f.same (n + 1) (by omega) (by omega)).trans g2
   have f2 : Kp H n H7 n7 := ⟨by have := f2.le; omega, fun id hid => (y.f.same id (by omega) (by omega)).trans (f2.same id hid)⟩
   refine BA rfl fun H8 f8 g8 => ?_
   refine CJ g8 rfl hx.len (by omega) fun H9 g9 t9 => ?_
   have f9 : Kp H7 n7 H9 (n7 + 1) := ⟨f8.le, fun id hid => (t9 id (by omega)).trans (f8.same id hid)⟩
   have g1 := f9.get g1 (by omega)
   have g2 := f9.get g2 (by omega)
   have f2 := f2.trans f9
   have hx : nJ G H9 (Rg (n3 + 1 + 1) n7) l cl' := hx.mono (fun id h => h) fun id h => f9.same id h.2
   have p9 := y.p.kp f9 (by omega)
   refine AFA p9 ?_
   rw [Rn, BH]
   cases ho : s'.ok with
   | true =>
    have he0 : s'.e = 0 := of_decide_eq_true ho
    rw [he0] at hp
    have hm : some (some cl', 0) = some (o, e) := by rw [<- hm]; show _ = some (bif decide (s'.e = 0) then (some cl', 0) else (none, s'.e)); rw [he0]; rfl
    cases hm
    rw [Bool.not_true, CG]
    refine AL (Au (m := 6) g9 (by omega) hx.len) (AL AFl ?_)
    refine CJ g1 rfl hx.len (by omega) fun H10 g1 t10 => ?_
    have g2 := (t10 (n + 1) (by omega)).trans g2
    refine CJ g2 rfl rfl (by omega) fun H11 g2 t11 => ?_
    have g1 := (t11 n (by omega)).trans g1
    rw [BI (m := 6) g1 (by omega) hx.len, BI (m := 3) g2 (by omega) rfl]
    simp only [go_sem]
    exact hk _ _ _ _ ⟨by have := f2.le; omega, fun id hid => (t11 id (by omega)).trans ((t10 id (by omega)).trans (f2.same id hid))⟩
     (hx.mono (fun id h => ⟨by have := h.1; omega, by have := h.2; omega⟩) fun id h => (t11 id (by have := h.1; omega)).trans (t10 id (by have := h.1; omega))) FtO.z
   | false =>
    have he0 : s'.e ≠ 0 := of_decide_eq_false ho
    have hm : some (none, s'.e) = some (o, e) := by rw [<- hm]; show _ = some (bif decide (s'.e = 0) then (some cl', 0) else (none, s'.e)); rw [decide_eq_false he0]; rfl
    cases hm
    rw [Bool.not_false, CS]
    refine AL AHW (AL (v := .ptr (n3 + 1) 0) rfl (AL (v := .ptr (n3 + 1) 2) (by rw [Aj, Nat.zero_add]) ?_))
    cases p9 with
    | mk hg he ht hp hl =>
     rename_i tid' off line col cs'
     obtain ⟨x1, x2⟩ := hp he0
     refine AL (Je (m := 3) (o := 2) hg (by omega) (by show 2 + 3 <= 5; omega)) ?_
     refine CJ g1 rfl rfl (by omega) fun H10 g1 t10 => ?_
     have g2 := (t10 (n + 1) (by omega)).trans g2
     have hg := (t10 (n3 + 1) (by omega)).trans hg
     refine AL (Je (m := 3) (o := 2) hg (by omega) (by show 2 + 3 <= 5; omega)) (Dx (zV ..) ?_)
     refine CJ (L := Ze s'.e line col) g2 rfl rfl (by omega) fun H11 g2 t11 => ?_
     have g1 := (t11 n (by omega)).trans g1
     rw [BI (m := 6) g1 (by omega) rfl, BI (m := 3) g2 (by omega) rfl]
     simp only [go_sem]
     exact hk _ _ _ _ ⟨by have := f2.le; omega, fun id hid => (t11 id (by omega)).trans ((t10 id (by omega)).trans (f2.same id hid))⟩ rfl ⟨line, col, rfl, fun _ => ⟨x1, x2⟩, fun h => absurd h he0⟩
end
end Go.PQ
