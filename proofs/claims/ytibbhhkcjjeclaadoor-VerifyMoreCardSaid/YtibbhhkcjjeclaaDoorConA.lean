/- Part of a proof: texts LQA LQB LQC LQD LQE LQF LQG LQH LQI LQJ LQK LQL LQM LQN LQO LQP of the engine and what is proved with it; nothing is assumed. -/
import Derived.Test.YtibbhhkcjjeclaaDoorPlainR
import Derived.Test.YtibbhhkcjjeclaaDoorWalk
set_option linter.unusedVariables false
set_option linter.unusedSimpArgs false
noncomputable section
namespace Go.RL
open Go.Ba
set_option maxRecDepth 100000
theorem BK (b : Bool) : FB (.bool b) = some (.bool (!b)) := APP b
def upper (l c : Nat) : Bool := decide (0 < l) && (decide (65 <= c % 256) && decide (c % 256 <= 90))
def isClass (l c : Nat) (arr : Bool) : Bool := !arr && upper l c
theorem kF {G : AL} {l c : Nat} {H : Heap} {n : Nat} {k : KV} (hk : ∀ H' n', Kp H n H' n' -> k (.agg [.str l c, .bool false]) H' n') : Runs F G JF [.str l c] H n k := by
 refine BM (s := Jf (Zc lfp G)) lZ (by obtain ⟨h, o⟩ := yH BL G; rw [lZ] at h; cases h; exact o) ?_
 show Zc lfp G (Runs F G) (.str l c) H n k
 delta Zc
 simp only [go_sem, Nat.reduceAdd, show BO [.str 0 0, .bool false] [(0, 1, .c (.str l c))] = some (.agg [.str l c, .bool false]) from rfl]
 exact hk _ _ (((Kp.refl H n).new (m := n + 1) _ (Nat.le_refl _) (by omega)).new _ (Nat.le_refl _) (Nat.le_refl _))
theorem AKX (a b l c : Nat) : Dx (.one .str) true (.str a b) (.str l c) = some (.bool (!decide (a = l /\ b = c))) := by
 show ofB (Rx (some (band (Nat.beq a l) (Nat.beq b c))) fun b => some (Vd b)) = _
 have : band (Nat.beq a l) (Nat.beq b c) = decide (a = l /\ b = c) := by rw [BH, Bool.eq_iff_iff]; simp
 rw [this]; cases decide (a = l /\ b = c) <;> rfl
theorem ANt {l c : Nat} (h : 0 < l) : AG7 (.str l c) (.int .i64 (.ofNat 0) 0) = some (.int .u8 (.ofNat (c % 256)) 0) := by
 show BD (Nat.blt 0 l) (ES (AGN c 0) fun b => some (.int .u8 (.ofNat b) 0)) = _
 have : Nat.blt 0 l = true := by rw [Nat.blt_eq]; exact h
 rw [this, Cm]
 show some (V.int .u8 (.ofNat (c / 1 % 256)) 0) = _
 rw [Nat.div_one]
theorem AOb (q : IntKind) (a b : Nat) : B2.ev .geq (.int q (.ofNat a) 0) (.int q (.ofNat b) 0) = some (.bool (decide (b <= a))) := by
 show BD (band (keq q q) true) (wQ (ile (.ofNat b) (.ofNat a))) = _
 rw [Oh, gV, show band (keq q q) true = true by simp [LJ], show decide (Int.ofNat b <= Int.ofNat a) = decide (b <= a) by rw [decide_eq_decide]; show (b : Int) <= a ↔ _; omega]; rfl
theorem AE5 (q : IntKind) (a b : Nat) : B2.ev .leq (.int q (.ofNat a) 0) (.int q (.ofNat b) 0) = some (.bool (decide (a <= b))) := by
 show BD (band (keq q q) true) (wQ (ile (.ofNat a) (.ofNat b))) = _
 rw [Oh, gV, show band (keq q q) true = true by simp [LJ], show decide (Int.ofNat a <= Int.ofNat b) = decide (a <= b) by rw [decide_eq_decide]; show (a : Int) <= b ↔ _; omega]; rfl
theorem cZ {G : AL} {l c : Nat} {arr : Bool} (hl : l = 0 -> c = 0) {H : Heap} {n : Nat} {k : KV} (hk : ∀ H' n', Kp H n H' n' -> k (.bool (isClass l c arr)) H' n') : Runs F G Bh [.agg [.str l c, .bool arr]] H n k := by
 refine BM (s := Jf (J4 lfp G)) Qw (by obtain ⟨h, o⟩ := Wx BL G; rw [Qw] at h; cases h; exact o) ?_
 show J4 lfp G (Runs F G) (.agg [.str l c, .bool arr]) H n k
 delta J4
 simp only [go_sem, Nat.reduceAdd, BK]
 cases arr with
 | true =>
  simp only [go_sem, Nat.reduceAdd, Bool.not_true]
  exact hk _ _ ((Kp.refl H n).new _ (Nat.le_refl _) (by omega))
 | false =>
  simp only [go_sem, Nat.reduceAdd, Bool.not_false, AKX]
  by_cases h0 : l = 0 /\ c = 0
  ·simp only [h0, and_self, decide_true, Bool.not_true, go_sem]
   have : isClass l c false = false := by simp [isClass, upper, h0]
   rw [this] at hk
   exact hk _ _ ((Kp.refl H n).new _ (Nat.le_refl _) (by omega))
  ·have hl0 : 0 < l := by rcases Nat.eq_zero_or_pos l with h | h; exact absurd ⟨h, hl h⟩ h0; exact h
   simp only [h0, decide_false, Bool.not_false, go_sem, ANt hl0, AOb, AE5]
   have e : isClass l c false = (decide (65 <= c % 256) && decide (c % 256 <= 90)) := by simp [isClass, upper, hl0]
   rw [e] at hk
   cases h1 : decide (65 <= c % 256) with
   | false =>
    simp only [go_sem]
    rw [h1] at hk
    exact hk _ _ ((Kp.refl H n).new _ (Nat.le_refl _) (by omega))
   | true =>
    simp only [go_sem, ANt hl0, AE5]
    rw [h1] at hk
    exact hk _ _ ((Kp.refl H n).new _ (Nat.le_refl _) (by omega))
theorem ALH (l c : Nat) : Nu (.str l c) = some (.int .i64 (.ofNat l) 0) := rfl
def jX (l c : Nat) : Bool := decide (l = 3 /\ c = 7630441) || (decide (l = 4 /\ c = 1819242338) || (upper l c && decide (l <= 40)))
theorem lQ {G : AL} {l c : Nat} {arr : Bool} (hl : l = 0 -> c = 0) {H : Heap} {n : Nat} {k : KV} (hk : ∀ H' n', Kp H n H' n' -> k (.bool (jX l c)) H' n') : Runs F G OL [.agg [.str l c, .bool arr]] H n k := by
 refine BM (s := Jf (TY lfp G)) YO (by obtain ⟨h, o⟩ := jR BL G; rw [YO] at h; cases h; exact o) ?_
 show TY lfp G (Runs F G) (.agg [.str l c, .bool arr]) H n k
 delta TY
 unfold jX at hk
 have f1 : Kp H n (T.set H n (one [.str l c, .bool arr])) (n + 1) := (Kp.refl H n).new _ (Nat.le_refl _) (by omega)
 simp only [go_sem, AAK]
 cases h1 : decide (l = 3 /\ c = 7630441) with
 | true =>
  simp only [go_sem]
  rw [h1] at hk
  exact hk _ _ f1
 | false =>
  rw [h1] at hk
  simp only [go_sem, AAK]
  cases h2 : decide (l = 4 /\ c = 1819242338) with
  | true =>
   simp only [go_sem]
   rw [h2] at hk
   exact hk _ _ f1
  | false =>
   rw [h2] at hk
   simp only [go_sem]
   refine kF fun H1 n1 f2 => ?_
   refine cZ hl fun H2 n2 f3 => ?_
   have f4 := f1.trans (f2.trans f3)
   have e : isClass l c false = upper l c := by simp [isClass]
   rw [e]
   cases h3 : upper l c with
   | false =>
    simp only [go_sem]
    rw [h3] at hk
    exact hk _ _ f4
   | true =>
    rw [h3] at hk
    have hg : T.get H2 n = some (one [.str l c, .bool arr]) := by rw [f3.same n (by have := f2.le; omega), f2.same n (by omega), T.Ac]
    simp only [go_sem, AU (off := 0) hg (v := .str l c) rfl, ALH, AE5]
    exact hk _ _ f4
theorem AAf {G : AL} {l c : Nat} (hl : l = 0 -> c = 0) {H : Heap} {n : Nat} {k : KV} (hk : ∀ H' n', Kp H n H' n' -> k (.bool (upper l c && decide (l <= 40))) H' n') : Runs F G Sr [.str l c] H n k := by
 refine BM (s := Jf (PN lfp G)) V4 (by obtain ⟨h, o⟩ := Zn BL G; rw [V4] at h; cases h; exact o) ?_
 show PN lfp G (Runs F G) (.str l c) H n k
 delta PN
 refine kF fun H1 n1 f2 => ?_
 refine cZ hl fun H2 n2 f3 => ?_
 have e : isClass l c false = upper l c := by simp [isClass]
 rw [e]
 cases h3 : upper l c <;> simp only [go_sem, ALH, AE5] <;> rw [h3] at hk <;> exact hk _ _ (f2.trans f3)
abbrev St := Nat × Nat
def St.v (s : St) : V := .str s.1 s.2
def strs (xs : List St) : Df := xs.map fun s => [St.v s]
theorem Ie (xs : List St) : (strs xs).length = xs.length := List.length_map ..
theorem RU {xs : List St} {i : Nat} (h : i < xs.length) : (strs xs)[i]? = some [St.v xs[i]] := by simp [strs, h]
def yE (s : St) : List St -> Nat -> Int
 | [], _ => .negSucc 0
 | x :: xs, i => bif decide (s.1 = x.1 /\ s.2 = x.2) then .ofNat i else yE s xs (i + 1)
def aG (s : St) (xs : List St) : Bool := xs.any fun x => decide (s.1 = x.1 /\ s.2 = x.2)
theorem ACN (s : St) : ∀ (xs : List St) (i : Nat), decide ((0 : Int) <= yE s xs i) = aG s xs
 | [], _ => rfl
 | x :: xs, i => by
  unfold yE
  show _ = (decide (s.1 = x.1 /\ s.2 = x.2) || aG s xs)
  cases h : decide (s.1 = x.1 /\ s.2 = x.2) with
  | true => simp
  | false => simpa using ACN s xs (i + 1)
theorem BI {i m : Nat} : B2.ev .lss (.int .i64 (.ofNat i) 0) (.int .i64 (.ofNat m) 0) = some (.bool (decide (i < m))) := by
 rw [AKs]; congr 2; rw [decide_eq_decide]; show (i : Int) < m ↔ _; omega
theorem AJ7 {G : AL} {v : V} {xs : List St} {s : St} {H : Heap} {n : Nat} {k : KV} (h : El G H v 1 (strs xs)) (hb : xs.length < 9223372036854775808) (hk : k (.int .i64 (yE s xs 0) 0) H n) :
    Runs F G ML [v, s.v] H n k := by
  refine BM (s := Rf (DI lfp G)) GK (by obtain ⟨h, o⟩ := Kv BL G; rw [GK] at h; cases h; exact o) ?_
  show DI lfp G (Runs F G) v s.v H n k
  delta DI
  rw [h.len, BA, Ie]
  refine G7 (J := fun m st => ∃ i, m = xs.length - i /\ i <= xs.length /\ st = (v, s.v, .int .i64 (.ofNat xs.length) 0, .int .i64 (.ofNat i) 0, H, n) /\ k (.int .i64 (yE s (xs.drop i) i) 0) H n) ?_ (m := xs.length) ⟨0, rfl, Nat.zero_le _, rfl, hk⟩
  rintro I m st ⟨i, rfl, hi, rfl, hk⟩ ih
  show FD lfp G (Runs F G) k I v s.v (.int .i64 (.ofNat xs.length) 0) (.int .i64 (.ofNat i) 0) H n
  delta FD
  by_cases hlt : i < xs.length
  · obtain ⟨p, hp, hld⟩ := h.at (RU hlt)
    rw [List.drop_eq_getElem_cons hlt] at hk
    unfold yE at hk
    simp only [go_sem, BI, hlt, decide_true, hp, OG hld, St.v, AAK]
    cases he : decide (s.1 = xs[i].1 /\ s.2 = xs[i].2) with
    | true => simp only [go_sem]; rw [he] at hk; exact hk
    | false =>
      simp only [go_sem, DF (show i + 1 < 9223372036854775808 by omega)]
      rw [he] at hk
      exact ih _ _ (by omega) ⟨i + 1, rfl, hlt, rfl, hk⟩
  · simp only [go_sem, BI, hlt, decide_false]
    delta FC
    rw [List.drop_eq_nil_of_le (by omega)] at hk
    exact hk
theorem AE3 (a : Int) : B2.ev .geq (.int .i64 a 0) (.int .i64 (.ofNat 0) 0) = some (.bool (decide (0 <= a))) := by
 show BD (band (keq .i64 .i64) true) (wQ (ile (.ofNat 0) a)) = _
 rw [Oh, gV]; rfl
theorem iy {G : AL} {v : V} {xs : List St} {s : St} {H : Heap} {n : Nat} {k : KV} (h : El G H v 1 (strs xs)) (hb : xs.length < 9223372036854775808) (hk : k (.bool (aG s xs)) H n) :
    Runs F G Dl [v, s.v] H n k := by
  refine BM (s := Rf (Cc lfp G)) Ew (by obtain ⟨h, o⟩ := I4 BL G; rw [Ew] at h; cases h; exact o) ?_
  show Cc lfp G (Runs F G) v s.v H n k
  delta Cc
  refine AJ7 h hb ?_
  simp only [go_sem, AE3, ACN]
  exact hk
structure Ty where
 nm : St
 arr : Bool
def Ty.cells (t : Ty) : LV := [t.nm.v, .bool t.arr]
def Ty.v (t : Ty) : V := .agg t.cells
def Ty.is (a b : Ty) : Bool := decide (a.nm.1 = b.nm.1 /\ a.nm.2 = b.nm.2) && (a.arr == b.arr)
def tys (xs : List Ty) : Df := xs.map Ty.cells
theorem Ee (xs : List Ty) : (tys xs).length = xs.length := List.length_map ..
theorem Qp {xs : List Ty} {i : Nat} (h : i < xs.length) : (tys xs)[i]? = some xs[i].cells := by simp [tys, h]
theorem AOf (a b : St) : CK.eq .str a.v b.v = some (decide (a.1 = b.1 /\ a.2 = b.2)) := by
 show some (band (Nat.beq a.1 b.1) (Nat.beq a.2 b.2)) = _
 rw [show band (Nat.beq a.1 b.1) (Nat.beq a.2 b.2) = decide (a.1 = b.1 /\ a.2 = b.2) by rw [BH, Bool.eq_iff_iff]; simp]
theorem ANz (a b : Bool) : CK.eq .bool (.bool a) (.bool b) = some (a == b) := by cases a <;> cases b <;> rfl
theorem AHd (a b : Ty) : (EK.agg [.str, .bool]).eq a.v b.v = some (a.is b) :=
 show uP [.str, .bool] a.cells b.cells = _ from VA.2 ⟨_, _, AOf _ _, VA.2 ⟨_, true, ANz _ _, rfl, rfl⟩, by simp [Ty.is]⟩
theorem fE (a b : Ty) : Dx (.agg [.str, .bool]) false a.v b.v = some (.bool (a.is b)) := by
 show ofB (Rx ((EK.agg [.str, .bool]).eq a.v b.v) fun b => some b) = _
 rw [AHd]; cases a.is b <;> rfl
theorem ACc (a b : Ty) : Dx (.agg [.str, .bool]) true a.v b.v = some (.bool (!a.is b)) := by
 show ofB (Rx ((EK.agg [.str, .bool]).eq a.v b.v) fun b => some (Vd b)) = _
 rw [AHd]; cases a.is b <;> rfl
def jS : List Ty -> List Ty -> Bool
 | [], [] => true
 | a :: l, b :: r => a.is b && jS l r
 | _, _ => false
theorem zG : ∀ {l r : List Ty}, jS l r = true -> l.length = r.length
 | [], [], _ => rfl
 | a :: l, b :: r, h => by simp [jS] at h; simp [zG h.2]
 | [], _ :: _, h => by cases h
 | _ :: _, [], h => by cases h
theorem APK {i m : Nat} : Dx (.one .int) true (.int .i64 (.ofNat i) 0) (.int .i64 (.ofNat m) 0) = some (.bool (!decide (i = m))) := by
 rw [AIZ, show (Int.ofNat i == Int.ofNat m) = decide (i = m) by rw [Bool.eq_iff_iff]; simp; omega]
theorem AHn {G : AL} {v w : V} {xs ys : List Ty} {H : Heap} {n : Nat} {k : KV} (h : El G H v 2 (tys xs)) (h2 : El G H w 2 (tys ys)) (hb : xs.length < 9223372036854775808) (hk : k (.bool (jS xs ys)) H n) :
    Runs F G JU [v, w] H n k := by
  refine BM (s := Rf (CY lfp G)) Ef (by obtain ⟨h, o⟩ := Ip BL G; rw [Ef] at h; cases h; exact o) ?_
  show CY lfp G (Runs F G) v w H n k
  delta CY
  simp only [go_sem, h.len, h2.len, Ee, APK]
  by_cases hl : xs.length = ys.length
  · simp only [hl, decide_true, Bool.not_true, go_sem]
    refine G7 (J := fun m st => ∃ i, m = ys.length - i /\ i <= ys.length /\ st = (v, w, .int .i64 (.ofNat ys.length) 0, .int .i64 (.ofNat i) 0, H, n) /\ k (.bool (jS (xs.drop i) (ys.drop i))) H n) ?_ (m := ys.length) ⟨0, rfl, Nat.zero_le _, rfl, hk⟩
    rintro I m st ⟨i, rfl, hi, rfl, hk⟩ ih
    show EP lfp G (Runs F G) k I v w (.int .i64 (.ofNat ys.length) 0) (.int .i64 (.ofNat i) 0) H n
    delta EP
    by_cases hlt : i < ys.length
    · have hlt' : i < xs.length := by omega
      obtain ⟨p, hp, hld⟩ := h.at (Qp hlt')
      obtain ⟨p2, hp2, hld2⟩ := h2.at (Qp hlt)
      rw [List.drop_eq_getElem_cons hlt, List.drop_eq_getElem_cons hlt'] at hk
      unfold jS at hk
      have e := ACc xs[i] ys[i]
      unfold Ty.v at e
      simp only [go_sem, BI, hlt, decide_true, hp, hp2, CB hld, CB hld2, e]
      cases he : xs[i].is ys[i] with
      | false => rw [he] at hk; simp only [Bool.not_false, go_sem]; exact hk
      | true =>
        simp only [Bool.not_true, go_sem, DF (show i + 1 < 9223372036854775808 by omega)]
        rw [he] at hk
        exact ih _ _ (by omega) ⟨i + 1, rfl, hlt, rfl, hk⟩
    · simp only [go_sem, BI, hlt, decide_false]
      delta EO
      rw [List.drop_eq_nil_of_le (by omega), List.drop_eq_nil_of_le (by omega)] at hk
      exact hk
  · have : jS xs ys = false := by cases h : jS xs ys; rfl; exact absurd (zG h) hl
    rw [this] at hk
    simp only [hl, decide_false, Bool.not_false, go_sem]
    exact hk
def Lo (v : V) (n : Nat) : Prop := ∀ id, v.SQ = some id -> id < n
theorem _root_.Go.Ba.El.kp {G : AL} {H H' : Heap} {v : V} {z n n' : Nat} {LS : Df} (h : El G H v z LS) (hl : Lo v n) (f : Kp H n H' n') : El G H' v z LS := h.same fun id hid => f.same id (hl id hid)
theorem Lo.mono {v : V} {n n' : Nat} (h : Lo v n) (hn : n <= n') : Lo v n' := fun id hid => Nat.lt_of_lt_of_le (h id hid) hn
def findF (g : Ty -> Bool) : List Ty -> Nat -> Int
 | [], _ => .negSucc 0
 | x :: xs, i => bif g x then .ofNat i else findF g xs (i + 1)
theorem AB5 (g : Ty -> Bool) : ∀ (xs : List Ty) (i : Nat), decide ((0 : Int) <= findF g xs i) = xs.any g
 | [], _ => rfl
 | x :: xs, i => by
  unfold findF
  show _ = (g x || xs.any g)
  cases h : g x with
  | true => simp
  | false => simpa using AB5 g xs (i + 1)
theorem AB0 {G : AL} {v : V} {xs : List Ty} {p : Nat} {g : Ty -> Bool} {H : Heap} {n : Nat} {k : KV} (h : El G H v 2 (tys xs)) (hlo : Lo v n) (hb : xs.length < 9223372036854775808)
    (hg : ∀ t ∈ xs, ∀ {H n} {k : KV}, (∀ H' n', Kp H n H' n' -> k (.bool (g t)) H' n') -> Runs F G p [t.v] H n k)
    (hk : ∀ H' n', Kp H n H' n' -> k (.int .i64 (findF g xs 0) 0) H' n') :
    Runs F G G9 [v, .fn p [] []] H n k := by
  refine BM (s := Rf (Bl lfp G)) D6 (by obtain ⟨h, o⟩ := GZ BL G; rw [D6] at h; cases h; exact o) ?_
  show Bl lfp G (Runs F G) v (.fn p [] []) H n k
  delta Bl
  rw [h.len, BA, Ee]
  refine G7 (J := fun m st => ∃ i H2 n2, m = xs.length - i /\ i <= xs.length /\ st = (v, .fn p [] [], .int .i64 (.ofNat xs.length) 0, .int .i64 (.ofNat i) 0, H2, n2) /\ Kp H n H2 n2 /\ (∀ H' n', Kp H n H' n' -> k (.int .i64 (findF g (xs.drop i) i) 0) H' n')) ?_ (m := xs.length) ⟨0, H, n, rfl, Nat.zero_le _, rfl, Kp.refl _ _, hk⟩
  rintro I m st ⟨i, H2, n2, rfl, hi, rfl, f, hk⟩ ih
  show Di lfp G (Runs F G) k I v (.fn p [] []) (.int .i64 (.ofNat xs.length) 0) (.int .i64 (.ofNat i) 0) H2 n2
  delta Di
  by_cases hlt : i < xs.length
  · obtain ⟨q, hp, hld⟩ := (h.kp hlo f).at (Qp hlt)
    rw [List.drop_eq_getElem_cons hlt] at hk
    unfold findF at hk
    simp only [go_sem, BI, hlt, decide_true, hp, CB hld]
    show Runs F G p [xs[i].v] H2 n2 _
    refine hg _ (List.getElem_mem hlt) fun H3 n3 f3 => ?_
    cases he : g xs[i] with
    | true => simp only [go_sem]; rw [he] at hk; exact hk _ _ (f.trans f3)
    | false =>
      simp only [go_sem, DF (show i + 1 < 9223372036854775808 by omega)]
      rw [he] at hk
      exact ih _ _ (by omega) ⟨i + 1, _, _, rfl, hlt, rfl, f.trans f3, hk⟩
  · simp only [go_sem, BI, hlt, decide_false]
    delta Dj
    rw [List.drop_eq_nil_of_le (by omega)] at hk
    exact hk _ _ f
theorem sN {G : AL} {v : V} {xs : List Ty} {p : Nat} {g : Ty -> Bool} {H : Heap} {n : Nat} {k : KV} (h : El G H v 2 (tys xs)) (hlo : Lo v n) (hb : xs.length < 9223372036854775808)
    (hg : ∀ t ∈ xs, ∀ {H n} {k : KV}, (∀ H' n', Kp H n H' n' -> k (.bool (g t)) H' n') -> Runs F G p [t.v] H n k)
    (hk : ∀ H' n', Kp H n H' n' -> k (.bool (xs.any g)) H' n') :
    Runs F G Dh [v, .fn p [] []] H n k := by
  refine BM (s := Rf (BZ lfp G)) DX (by obtain ⟨h, o⟩ := FV BL G; rw [DX] at h; cases h; exact o) ?_
  show BZ lfp G (Runs F G) v (.fn p [] []) H n k
  delta BZ
  refine AB0 h hlo hb hg fun H' n' f => ?_
  simp only [go_sem, AE3, AB5]
  exact hk _ _ f
def St.ok (s : St) : Prop := s.1 = 0 -> s.2 = 0
def PI (s : St) : Bool := jX s.1 s.2
theorem zV {G : AL} {t : Ty} (ht : t.nm.ok) {H : Heap} {n : Nat} {k : KV} (hk : ∀ H' n', Kp H n H' n' -> k (.bool (!PI t.nm)) H' n') : Runs F G Ou [t.v] H n k := by
 refine BM (s := Jf (Gs lfp G)) OC (by obtain ⟨h, o⟩ := Tc BL G; rw [OC] at h; cases h; exact o) ?_
 show Gs lfp G (Runs F G) t.v H n k
 delta Gs
 simp only [Ty.v, Ty.cells, St.v, go_sem]
 refine lQ ht fun H1 n1 f => ?_
 simp only [BK, go_sem]
 exact hk _ _ (((Kp.refl H n).new (m := n + 1) _ (Nat.le_refl _) (by omega)).trans f)
theorem AFL {G : AL} {v : V} {xs : List Ty} {H : Heap} {n : Nat} {k : KV} (h : El G H v 2 (tys xs)) (hlo : Lo v n) (hb : xs.length < 9223372036854775808) (ho : ∀ t ∈ xs, t.nm.ok)
    (hk : ∀ H' n', Kp H n H' n' -> k (.bool (xs.any fun t => !PI t.nm)) H' n') : Runs F G Dh [v, .fn Ou [] []] H n k :=
  sN (p := Ou) h hlo hb (fun t ht {_ _ _} hk => zV (ho t ht) hk) hk
abbrev big : Nat := 9223372036854775808
structure wo where
 nm : St
 ty : Ty
def wo.cells (f : wo) : LV := [f.nm.v, f.ty.nm.v, .bool f.ty.arr]
structure Dc where
 nm : St
 st : Bool
 ps : List Ty
 ret : Ty
def Dc.cells (m : Dc) (v : V) : LV := [m.nm.v, .bool m.st, v, m.ret.nm.v, .bool m.ret.arr]
structure MK (G : AL) (H : Heap) (n : Nat) (v : V) (xs : List Ty) : Prop where
 el : El G H v 2 (tys xs)
 lo : Lo v n
 lt : xs.length < big
 ok : ∀ t ∈ xs, t.nm.ok
structure RY (G : AL) (H : Heap) (n : Nat) (v : V) (fs : List wo) : Prop where
 el : El G H v 3 (fs.map wo.cells)
 lo : Lo v n
 lt : fs.length < big
 ok : ∀ f ∈ fs, f.nm.ok /\ f.ty.nm.ok
structure Ji (G : AL) (H : Heap) (n : Nat) (v : V) (ms : List Dc) (ws : List V) : Prop where
 el : El G H v 5 (List.zipWith Dc.cells ms ws)
 lo : Lo v n
 lt : ms.length < big
 len : ws.length = ms.length
 at' : ∀ (i : Nat) (m : Dc) (w : V), ms[i]? = some m -> ws[i]? = some w -> MK G H n w m.ps
 ok : ∀ m ∈ ms, m.nm.ok /\ m.ret.nm.ok
section
variable {G : AL} {H H' : Heap} {n n' : Nat} {v : V}
theorem MK.kp {xs : List Ty} (h : MK G H n v xs) (f : Kp H n H' n') : MK G H' n' v xs := ⟨h.el.kp h.lo f, h.lo.mono f.le, h.lt, h.ok⟩
theorem RY.kp {xs : List wo} (h : RY G H n v xs) (f : Kp H n H' n') : RY G H' n' v xs := ⟨h.el.kp h.lo f, h.lo.mono f.le, h.lt, h.ok⟩
theorem Ji.kp {xs : List Dc} {ws : List V} (h : Ji G H n v xs ws) (f : Kp H n H' n') : Ji G H' n' v xs ws :=
 ⟨h.el.kp h.lo f, h.lo.mono f.le, h.lt, h.len, fun i m w a b => (h.at' i m w a b).kp f, h.ok⟩
theorem RY.len {xs : List wo} (h : RY G H n v xs) : lenV v = some (.int .i64 (.ofNat xs.length) 0) := by rw [h.el.len, List.length_map]
theorem MK.len {xs : List Ty} (h : MK G H n v xs) : lenV v = some (.int .i64 (.ofNat xs.length) 0) := by rw [h.el.len, Ee]
theorem Ji.len' {xs : List Dc} {ws : List V} (h : Ji G H n v xs ws) : lenV v = some (.int .i64 (.ofNat xs.length) 0) := by
 rw [h.el.len, List.length_zipWith, h.len, Nat.min_self]
theorem RY.at {xs : List wo} (h : RY G H n v xs) {i : Nat} (hi : i < xs.length) : ∃ p, Ai 3 v (.int .i64 (.ofNat i) 0) = some p /\ fF p G H 3 = some xs[i].cells :=
 h.el.at (by simp [hi])
theorem Ji.at {xs : List Dc} {ws : List V} (h : Ji G H n v xs ws) {i : Nat} (hi : i < xs.length) :
    ∃ p w, Ai 5 v (.int .i64 (.ofNat i) 0) = some p /\ fF p G H 5 = some (xs[i].cells w) /\ MK G H n w xs[i].ps := by
  have hw : i < ws.length := by rw [h.len]; exact hi
  obtain ⟨p, h1, h2⟩ := h.el.at (i := i) (c := xs[i].cells ws[i]) (by rw [List.getElem?_zipWith]; simp [hi, hw])
  exact ⟨p, ws[i], h1, h2, h.at' i _ _ (List.getElem?_eq_getElem hi) (List.getElem?_eq_getElem hw)⟩
end
def leS (a b : St) : Bool := Vd (slt b.1 b.2 a.1 a.2)
theorem ALF (a b : St) : B2.ev .leq a.v b.v = some (.bool (leS a b)) := by
 show wQ (Vd (slt b.1 b.2 a.1 a.2)) = _
 rw [Oh]; rfl
theorem FY (q : IntKind) (a b : Nat) : B2.ev .gtr (.int q (.ofNat a) 0) (.int q (.ofNat b) 0) = some (.bool (decide (b < a))) := by
 show BD (band (keq q q) true) (wQ (zZ (.ofNat b) (.ofNat a))) = _
 rw [Oh, SE, show band (keq q q) true = true by simp [LJ], show decide (Int.ofNat b < Int.ofNat a) = decide (b < a) by rw [decide_eq_decide]; show (b : Int) < a ↔ _; omega]; rfl
theorem WJ (s : St) : Nu s.v = some (.int .i64 (.ofNat s.1) 0) := rfl
def gX : St -> List wo -> Bool
 | _, [] => true
 | a, f :: fs => !(leS f.nm a) && (!(decide (40 < f.nm.1)) && (PI f.ty.nm && gX f.nm fs))
def RJ : St -> List Dc -> Bool
 | _, [] => true
 | a, m :: ms => !(leS m.nm a) && (!(decide (40 < m.nm.1)) && (PI m.ret.nm && (!(decide (200 < m.ps.length)) && (!(m.ps.any fun t => !PI t.nm) && RJ m.nm ms))))
theorem ABA {G : AL} {v : V} {ms : List Dc} {ws : List V} {H : Heap} {n : Nat} {k : KV} (h : Ji G H n v ms ws) {a : St}
    (hk : ∀ H' n', Kp H n H' n' -> k (.bool (RJ a ms)) H' n') :
    lfp (V × V × V × V × Heap × Nat) (Lj lfp G (Runs F G) k) (a.v, v, .int .i64 (.ofNat ms.length) 0, .int .i64 (.ofNat 0) 0, H, n) := by
  refine G7 (J := fun m st => ∃ i a H2 n2, m = ms.length - i /\ i <= ms.length /\ st = (St.v a, v, .int .i64 (.ofNat ms.length) 0, .int .i64 (.ofNat i) 0, H2, n2) /\ Kp H n H2 n2 /\ (∀ H' n', Kp H n H' n' -> k (.bool (RJ a (ms.drop i))) H' n')) ?_ (m := ms.length) ⟨0, a, H, n, rfl, Nat.zero_le _, rfl, Kp.refl _ _, hk⟩
  rintro I m st ⟨i, a, H2, n2, rfl, hi, rfl, f, hk⟩ ih
  show NQ lfp G (Runs F G) k I a.v v (.int .i64 (.ofNat ms.length) 0) (.int .i64 (.ofNat i) 0) H2 n2
  delta NQ
  by_cases hlt : i < ms.length
  · obtain ⟨q, w, hp, hld, hw⟩ := (h.kp f).at hlt
    have hok := h.ok _ (List.getElem_mem hlt)
    rw [List.drop_eq_getElem_cons hlt] at hk
    unfold RJ at hk
    generalize ms[i] = m at hok hld hw hk
    have hbig := h.lt
    unfold Dc.cells at hld
    simp only [go_sem, Nat.reduceAdd, BI, hlt, decide_true, hp, CB hld]
    have f2 : Kp H n (T.set (T.set H2 n2 (one [.str 0 0, .bool false, .Aa, .str 0 0, .bool false])) n2 (one [m.nm.v, .bool m.st, w, m.ret.nm.v, .bool m.ret.arr])) (n2 + 1) :=
      (f.new (m := n2 + 1) _ f.le (by omega)).new _ f.le (Nat.le_refl _)
    have hw := hw.kp (n' := n2 + 1) (H' := (T.set (T.set H2 n2 (one [.str 0 0, .bool false, .Aa, .str 0 0, .bool false])) n2 (one [m.nm.v, .bool m.st, w, m.ret.nm.v, .bool m.ret.arr]))) (((Kp.refl H2 n2).new (m := n2 + 1) _ (Nat.le_refl _) (by omega)).new _ (Nat.le_refl _) (Nat.le_refl _))
    have hg := T.Ac (T.set H2 n2 (one [.str 0 0, .bool false, .Aa, .str 0 0, .bool false])) n2 (one [m.nm.v, .bool m.st, w, m.ret.nm.v, .bool m.ret.arr])
    generalize T.set (T.set H2 n2 (one [.str 0 0, .bool false, .Aa, .str 0 0, .bool false])) n2 (one [m.nm.v, .bool m.st, w, m.ret.nm.v, .bool m.ret.arr]) = H3 at f2 hw hg ⊢
    simp only [go_sem, Nat.reduceAdd, AU (off := 0) hg (v := m.nm.v) rfl, ALF, WJ, FY]
    cases h1 : leS m.nm a with
    | true =>
      simp only [go_sem, AU (off := 0) hg (v := m.nm.v) rfl, WJ, FY]
      rw [h1] at hk
      exact hk _ _ f2
    | false =>
      simp only [go_sem, AU (off := 0) hg (v := m.nm.v) rfl, WJ, FY]
      rw [h1] at hk
      cases h2 : decide (40 < m.nm.1) with
      | true =>
        simp only [go_sem]
        rw [h2] at hk
        exact hk _ _ f2
      | false =>
        rw [h2] at hk
        have hl : Ae 2 (.ptr n2 3) G H3 = some (.agg [m.ret.nm.v, .bool m.ret.arr]) := FM hg (by omega) (by show 5 <= 5; omega)
        simp only [go_sem, Nat.reduceAdd, hl]
        refine lQ hok.2 fun H4 n4 f4 => ?_
        simp only [BK, go_sem]
        have f5 := f2.trans f4
        have hw := hw.kp f4
        have hg : T.get H4 n2 = _ := (f4.same n2 (by omega)).trans hg
        show _
        cases h3 : jX m.ret.nm.1 m.ret.nm.2 with
        | false =>
          simp only [Bool.not_false, go_sem]
          rw [show PI m.ret.nm = false from h3] at hk
          exact hk _ _ f5
        | true =>
          rw [show PI m.ret.nm = true from h3] at hk
          simp only [Bool.not_true, go_sem, AU (off := 2) hg (v := w) rfl, hw.len, FY]
          cases h4 : decide (200 < m.ps.length) with
          | true =>
            simp only [go_sem]
            rw [h4] at hk
            exact hk _ _ f5
          | false =>
            rw [h4] at hk
            simp only [go_sem, AU (off := 2) hg (v := w) rfl]
            refine AFL hw.el hw.lo hw.lt hw.ok fun H6 n6 f6 => ?_
            have hg : T.get H6 n2 = _ := (f6.same n2 (by have := f4.le; omega)).trans hg
            have f7 := f5.trans f6
            cases h5 : m.ps.any fun t => !PI t.nm with
            | true =>
              simp only [go_sem]
              rw [h5] at hk
              exact hk _ _ f7
            | false =>
              rw [h5] at hk
              simp only [go_sem, AU (off := 0) hg (v := m.nm.v) rfl, DF (show i + 1 < 9223372036854775808 by unfold big at hbig; omega)]
              exact ih _ _ (by omega) ⟨i + 1, m.nm, _, _, rfl, hlt, rfl, f7, hk⟩
  · simp only [go_sem, BI, hlt, decide_false]
    delta Nb
    rw [List.drop_eq_nil_of_le (by omega)] at hk
    exact hk _ _ f
theorem ACq {G : AL} {v w nm sp : V} {fs : List wo} {ms : List Dc} {ws : List V} {H : Heap} {n b : Nat} {k : KV} (h : RY G H n v fs) (h2 : Ji G H n w ms ws) {a : St}
    (hb : b < n) (hbx : T.get H b = some (one [nm, sp, v, w]))
    (hk : ∀ H' n', Kp H n H' n' -> k (.bool (gX a fs && RJ (0, 0) ms)) H' n') :
    lfp (V × V × V × V × V × Heap × Nat) (IB lfp G (Runs F G) k) (.ptr b 0, a.v, v, .int .i64 (.ofNat fs.length) 0, .int .i64 (.ofNat 0) 0, H, n) := by
  refine G7 (J := fun m st => ∃ i a H2 n2, m = fs.length - i /\ i <= fs.length /\ st = (.ptr b 0, St.v a, v, .int .i64 (.ofNat fs.length) 0, .int .i64 (.ofNat i) 0, H2, n2) /\ Kp H n H2 n2 /\ (∀ H' n', Kp H n H' n' -> k (.bool (gX a (fs.drop i) && RJ (0, 0) ms)) H' n')) ?_ (m := fs.length) ⟨0, a, H, n, rfl, Nat.zero_le _, rfl, Kp.refl _ _, hk⟩
  rintro I m st ⟨i, a, H2, n2, rfl, hi, rfl, f, hk⟩ ih
  show NW lfp G (Runs F G) k I (.ptr b 0) a.v v (.int .i64 (.ofNat fs.length) 0) (.int .i64 (.ofNat i) 0) H2 n2
  delta NW
  by_cases hlt : i < fs.length
  · obtain ⟨q, hp, hld⟩ := (h.kp f).at hlt
    have hok := h.ok _ (List.getElem_mem hlt)
    rw [List.drop_eq_getElem_cons hlt] at hk
    unfold gX at hk
    generalize fs[i] = m at hok hld hk
    have hbig := h.lt
    unfold wo.cells at hld
    simp only [go_sem, Nat.reduceAdd, BI, hlt, decide_true, hp, CB hld]
    have f2 : Kp H n (T.set (T.set H2 n2 (one [.str 0 0, .str 0 0, .bool false])) n2 (one [m.nm.v, m.ty.nm.v, .bool m.ty.arr])) (n2 + 1) :=
      (f.new (m := n2 + 1) _ f.le (by omega)).new _ f.le (Nat.le_refl _)
    have hg := T.Ac (T.set H2 n2 (one [.str 0 0, .str 0 0, .bool false])) n2 (one [m.nm.v, m.ty.nm.v, .bool m.ty.arr])
    generalize T.set (T.set H2 n2 (one [.str 0 0, .str 0 0, .bool false])) n2 (one [m.nm.v, m.ty.nm.v, .bool m.ty.arr]) = H3 at f2 hg ⊢
    simp only [go_sem, Nat.reduceAdd, AU (off := 0) hg (v := m.nm.v) rfl, ALF, WJ, FY]
    cases h1 : leS m.nm a with
    | true =>
      simp only [go_sem, AU (off := 0) hg (v := m.nm.v) rfl, WJ, FY]
      rw [h1] at hk
      exact hk _ _ f2
    | false =>
      simp only [go_sem, AU (off := 0) hg (v := m.nm.v) rfl, WJ, FY]
      rw [h1] at hk
      cases h2 : decide (40 < m.nm.1) with
      | true =>
        simp only [go_sem]
        rw [h2] at hk
        exact hk _ _ f2
      | false =>
        rw [h2] at hk
        have hl : Ae 2 (.ptr n2 1) G H3 = some (.agg [m.ty.nm.v, .bool m.ty.arr]) := FM hg (by omega) (by show 3 <= 3; omega)
        simp only [go_sem, Nat.reduceAdd, hl]
        refine lQ hok.2 fun H4 n4 f4 => ?_
        simp only [BK, go_sem]
        have f5 := f2.trans f4
        have hg : T.get H4 n2 = _ := (f4.same n2 (by omega)).trans hg
        show _
        cases h3 : jX m.ty.nm.1 m.ty.nm.2 with
        | false =>
          simp only [Bool.not_false, go_sem]
          rw [show PI m.ty.nm = false from h3] at hk
          exact hk _ _ f5
        | true =>
          rw [show PI m.ty.nm = true from h3] at hk
          simp only [Bool.not_true, go_sem, AU (off := 0) hg (v := m.nm.v) rfl, DF (show i + 1 < 9223372036854775808 by unfold big at hbig; omega)]
          exact ih _ _ (by omega) ⟨i + 1, m.nm, _, _, rfl, hlt, rfl, f5, hk⟩
  · simp only [go_sem, BI, hlt, decide_false]
    delta Na
    rw [List.drop_eq_nil_of_le (by omega)] at hk
    have hg : T.get H2 b = _ := (f.same b hb).trans hbx
    have h2 := h2.kp f
    simp only [go_sem, Nat.reduceAdd, AU (off := 3) hg (v := w) rfl, h2.len']
    exact ABA (a := (0, 0)) h2 fun H' n' f' => hk _ _ (f.trans f')
structure Fc where
 nm : St
 sup : St
 fs : List wo
 ms : List Dc
structure UK (G : AL) (H : Heap) (n : Nat) (L : LV) (c : Fc) (v w : V) (ws : List V) : Prop where
 is : L = [c.nm.v, c.sup.v, v, w]
 fs : RY G H n v c.fs
 ms : Ji G H n w c.ms ws
 ok : c.nm.ok /\ c.sup.ok
theorem UK.kp {G : AL} {H H' : Heap} {n n' : Nat} {L : LV} {c : Fc} {v w : V} {ws : List V} (h : UK G H n L c v w ws) (f : Kp H n H' n') : UK G H' n' L c v w ws := ⟨h.is, h.fs.kp f, h.ms.kp f, h.ok⟩
def fK (s : St) : Bool := upper s.1 s.2
def XK (c : Fc) : Bool :=
 fK c.nm && ((decide (c.sup.1 = 0 /\ c.sup.2 = 0) || fK c.sup) && (!(decide (200 < c.fs.length)) && (!(decide (200 < c.ms.length)) && (!(decide (40 < c.nm.1)) && (!(decide (40 < c.sup.1)) && (gX (0, 0) c.fs && RJ (0, 0) c.ms))))))
theorem neS (a b : St) : Dx (.one .str) true a.v b.v = some (.bool (!decide (a.1 = b.1 /\ a.2 = b.2))) := AKX ..
theorem ABa (s : St) : isClass s.1 s.2 false = fK s := by simp [isClass, fK]
theorem ng {G : AL} {L : LV} {c : Fc} {v w : V} {ws : List V} {H : Heap} {n : Nat} {k : KV} (h : UK G H n L c v w ws)
    (hk : ∀ H' n', Kp H n H' n' -> k (.bool (XK c)) H' n') : Runs F G RG [.agg L] H n k := by
  refine BM (s := Jf (JJ lfp G)) P6 (by obtain ⟨h, o⟩ := Vx BL G; rw [P6] at h; cases h; exact o) ?_
  show JJ lfp G (Runs F G) (.agg L) H n k
  obtain ⟨rfl, hf, hm, hn, hs⟩ := h
  delta JJ
  unfold XK at hk
  simp only [go_sem]
  have f1 : Kp H n (T.set H n (one [c.nm.v, c.sup.v, v, w])) (n + 1) := (Kp.refl H n).new _ (Nat.le_refl _) (by omega)
  have hg := T.Ac H n (one [c.nm.v, c.sup.v, v, w])
  generalize T.set H n (one [c.nm.v, c.sup.v, v, w]) = H1 at f1 hg ⊢
  refine kF fun H2 n2 f2 => ?_
  refine cZ hn fun H3 n3 f3 => ?_
  rw [ABa, BK]
  have f := f1.trans (f2.trans f3)
  have hg : T.get H3 n = _ := (f3.same n (by have := f2.le; omega)).trans ((f2.same n (by omega)).trans hg)
  have hlt : n < n3 := by have := f2.le; have := f3.le; omega
  clear f1 f2 f3
  have tail : ∀ H3 n3, Kp H n H3 n3 -> n < n3 -> T.get H3 n = some (one [c.nm.v, c.sup.v, v, w]) ->
      (∀ H' n', Kp H n H' n' -> k (.bool (!(decide (200 < c.fs.length)) && (!(decide (200 < c.ms.length)) && (!(decide (40 < c.nm.1)) && (!(decide (40 < c.sup.1)) && (gX (0, 0) c.fs && RJ (0, 0) c.ms)))))) H' n') ->
      (AP (AQ 2 (.ptr n 0)) fun v18=>
      AP (AZ v18 G H3) fun v19=>
      AP (lenV v19) fun v20=>
      AP (B2.ev .gtr v20 (.int .i64 (.ofNat 200) 0)) fun v22=>
      Af v22 false (AQ 3 (.ptr n 0)) fun v23=>
      Af v22 false (AZ v23 G H3) fun v24=>
      Af v22 false (lenV v24) fun v25=>
      Af v22 false (B2.ev .gtr v25 (.int .i64 (.ofNat 200) 0)) fun v26=>
      AP (Ar v22 (.bool true) v26) fun v27=>
      Af v27 false (AQ 0 (.ptr n 0)) fun v28=>
      Af v27 false (AZ v28 G H3) fun v29=>
      Af v27 false (Nu v29) fun v30=>
      Af v27 false (B2.ev .gtr v30 (.int .i64 (.ofNat 40) 0)) fun v31=>
      AP (Ar v27 (.bool true) v31) fun v32=>
      Af v32 false (AQ 1 (.ptr n 0)) fun v33=>
      Af v32 false (AZ v33 G H3) fun v34=>
      Af v32 false (Nu v34) fun v35=>
      Af v32 false (B2.ev .gtr v35 (.int .i64 (.ofNat 40) 0)) fun v36=>
      AP (Ar v32 (.bool true) v36) fun v37=>
      Ad v37 true (k (.bool false) H3 n3) (AP (AQ 2 (.ptr n 0)) fun v74=>
      AP (AZ v74 G H3) fun v75=>
      AP (lenV v75) fun v76=>
      lfp (V × V × V × V × V × Heap × Nat) (IB lfp G (Runs F G) k) (.ptr n 0, (.str 0 0), v75, v76, (.int .i64 (.ofNat 0) 0), H3, n3))) := by
    intro H3 n3 f hlt hg hk
    have hf := hf.kp f
    have hm := hm.kp f
    have e0 : AZ (.ptr n 0) G H3 = some c.nm.v := AU hg rfl
    have e1 : AZ (.ptr n 1) G H3 = some c.sup.v := AU hg rfl
    have e2 : AZ (.ptr n 2) G H3 = some v := AU hg rfl
    have e3 : AZ (.ptr n 3) G H3 = some w := AU hg rfl
    simp only [go_sem, Nat.reduceAdd, e2, hf.len, FY]
    cases h1 : decide (200 < c.fs.length) with
    | true => rw [h1] at hk; simp only [go_sem]; exact hk _ _ f
    | false =>
      rw [h1] at hk
      simp only [go_sem, Nat.reduceAdd, e3, hm.len', FY]
      cases h2 : decide (200 < c.ms.length) with
      | true => rw [h2] at hk; simp only [go_sem]; exact hk _ _ f
      | false =>
        rw [h2] at hk
        simp only [go_sem, Nat.reduceAdd, e0, WJ, FY]
        cases h3 : decide (40 < c.nm.1) with
        | true => rw [h3] at hk; simp only [go_sem]; exact hk _ _ f
        | false =>
          rw [h3] at hk
          simp only [go_sem, Nat.reduceAdd, e1, WJ, FY]
          cases h4 : decide (40 < c.sup.1) with
          | true => rw [h4] at hk; simp only [go_sem]; exact hk _ _ f
          | false =>
            rw [h4] at hk
            simp only [go_sem, Nat.reduceAdd, e2, hf.len]
            exact ACq (a := (0, 0)) hf hm hlt hg fun H' n' f' => hk _ _ (f.trans f')
  cases h1 : fK c.nm with
  | false =>
    rw [h1] at hk
    simp only [Bool.not_false, go_sem]
    exact hk _ _ f
  | true =>
    rw [h1] at hk
    have e1 : AZ (.ptr n 1) G H3 = some c.sup.v := AU hg rfl
    have e := neS c.sup (0, 0)
    unfold St.v at e
    simp only [Bool.not_true, go_sem, Nat.reduceAdd, e1]
    rw [show Dx (.one .str) true c.sup.v (.str 0 0) = _ from neS c.sup (0, 0)]
    cases h2 : decide (c.sup.1 = 0 /\ c.sup.2 = 0) with
    | true =>
      rw [h2] at hk
      simp only [Bool.not_true, go_sem]
      exact tail _ _ f hlt hg hk
    | false =>
      rw [h2] at hk
      simp only [Bool.not_false, go_sem, Nat.reduceAdd, e1]
      refine kF fun H4 n4 f4 => ?_
      refine cZ hs fun H5 n5 f5 => ?_
      rw [ABa, BK]
      have f' := f.trans (f4.trans f5)
      have hg : T.get H5 n = _ := (f5.same n (by have := f4.le; omega)).trans ((f4.same n (by omega)).trans hg)
      cases h3 : fK c.sup with
      | false =>
        rw [h3] at hk
        simp only [Bool.not_false, go_sem]
        exact hk _ _ f'
      | true =>
        rw [h3] at hk
        simp only [Bool.not_true, go_sem]
        exact tail _ _ f' (by have := f4.le; have := f5.le; omega) hg hk
theorem AGb {e c : Nat} {t : T LV} {i : Nat} {L : LV} (he : 0 < e) (hi : i < c) (ht : T.get t i = some L) (hL : L.length = e) : ldB e c t (i * e) e = some L := by
 unfold ldB
 have hdiv : i * e / e = i := Nat.mul_div_cancel _ he
 have hmod : i * e % e = 0 := Nat.mul_mod_left ..
 have hb : Nat.blt (Nat.div (i * e) e) c = true := by rw [Nat.blt_eq]; show i * e / e < c; omega
 rw [hb]
 show A8 (T.get t (Nat.div (i * e) e)) (ldC e (i * e) e) = _
 rw [show Nat.div (i * e) e = i from hdiv, ht, QY]
 have h1 := ACr (H := T.set .e 0 (one L)) (id := 0) (L := L) (off := 0) (m := e) (T.Ac ..) he (by omega)
 unfold YF at h1
 rw [T.Ac] at h1
 have h2 : ldB L.length 1 (T.set .e 0 L) 0 e = some ((L.drop 0).take e) := h1
 unfold ldB at h2
 rw [show Nat.blt (Nat.div 0 L.length) 1 = true by rw [Nat.blt_eq]; show 0 / L.length < 1; simp] at h2
 have h3 : A8 (T.get (T.set T.e 0 L) (Nat.div 0 L.length)) (ldC L.length 0 e) = some ((L.drop 0).take e) := h2
 rw [show Nat.div 0 L.length = 0 from Nat.zero_div _, T.Ac, QY] at h3
 rw [List.drop_zero, List.take_of_length_le (by omega), hL] at h3
 have : ldC e (i * e) e L = ldC e 0 e L := by
  unfold ldC
  rw [show Nat.mod (i * e) e = 0 from hmod, show Nat.mod 0 e = 0 from Nat.zero_mod _]
 rw [this]; exact h3
theorem nO {z : Nat} {Z L : LV} {H : Heap} {n : Nat} {P : KV} (hL : L.length = z) :
    BX (Au z 1 Z [(0, .c (.agg L))] E0) H n P = P (.sl n 0 1 1 z) (T.set H n (.arr z 1 (T.set (T.set .e 0 Z) 0 L))) (n + 1) := by
  subst hL
  show Ko (band (band true (band true (Nat.beq (len L) L.length))) true) (CV n fun n => P (.sl n 0 1 1 L.length) (T.set H n (.arr L.length 1 (T.set (T.set .e 0 Z) 0 L))) (Nat.succ n)) = _
  rw [len_eq, BG]
  have hb : band (band true (band true (Nat.beq L.length L.length))) true = true := by simp
  rw [hb]; rfl
theorem Yl {G : AL} {H : Heap} {n z : Nat} {Z L : LV} (hz : 0 < z) (hL : L.length = z) (h : T.get H n = some (.arr z 1 (T.set (T.set .e 0 Z) 0 L))) : El G H (.sl n 0 1 1 z) z [L] := by
 refine ⟨rfl, ?_⟩
 show (Bool.rec (motive := fun _ => Option Df) none (A8 (YF H n (0 * z) z) fun L => A8 (some []) fun LS => some (L :: LS)) (Nat.beq z z) : Option Df) = _
 have hl : YF H n (0 * z) z = some L := by
  unfold YF; rw [h]
  exact AGb hz (by omega) (by rw [T.Ac]) hL
 rw [hl, show Nat.beq z z = true by simp]
 rfl
theorem AMD {Z a b c d e : V} {H : Heap} {n : Nat} {P : KV} (h : ∀ v ∈ [a, b, c, d, e], U3 v = true /\ Am v = [v]) :
    BX (Au 1 5 [Z] [(0, .c a), (1, .c b), (2, .c c), (3, .c d), (4, .c e)] E0) H n P =
    P (.sl n 0 5 5 1) (T.set H n (.arr 1 5 (T.set (T.set (T.set (T.set (T.set (jv [Z] 5 .e) 0 [a]) 1 [b]) 2 [c]) 3 [d]) 4 [e]))) (n + 1) := by
  obtain ⟨ha, hb, hc, hd, he, -⟩ : (U3 a = true /\ Am a = [a]) /\ (U3 b = true /\ Am b = [b]) /\ (U3 c = true /\ Am c = [c]) /\ (U3 d = true /\ Am d = [d]) /\ (U3 e = true /\ Am e = [e]) /\ True := by simpa using h
  show Ko (band (band (U3 a) (band (Nat.blt 0 5) (Nat.beq (len (Am a)) 1))) (band (band (U3 b) (band (Nat.blt 1 5) (Nat.beq (len (Am b)) 1))) (band (band (U3 c) (band (Nat.blt 2 5) (Nat.beq (len (Am c)) 1))) (band (band (U3 d) (band (Nat.blt 3 5) (Nat.beq (len (Am d)) 1))) (band (band (U3 e) (band (Nat.blt 4 5) (Nat.beq (len (Am e)) 1))) true)))))
    (CV n fun n => P (.sl n 0 5 5 1) (T.set H n (.arr 1 5 (T.set (T.set (T.set (T.set (T.set (jv [Z] 5 .e) 0 (Am a)) 1 (Am b)) 2 (Am c)) 3 (Am d)) 4 (Am e)))) (Nat.succ n)) = _
  rw [ha.1, ha.2, hb.1, hb.2, hc.1, hc.2, hd.1, hd.2, he.1, he.2, BG]
  rfl
theorem AKO {G : AL} {H : Heap} {n : Nat} {Z a b c d e : V} (h : T.get H n = some (.arr 1 5 (T.set (T.set (T.set (T.set (T.set (jv [Z] 5 .e) 0 [a]) 1 [b]) 2 [c]) 3 [d]) 4 [e]))) :
    El G H (.sl n 0 5 5 1) 1 [[a], [b], [c], [d], [e]] := by
  refine ⟨rfl, ?_⟩
  show A8 (YF H n (0 * 1) 1) (fun L => A8 (A8 (YF H n (1 * 1) 1) fun L => A8 (A8 (YF H n (2 * 1) 1) fun L => A8 (A8 (YF H n (3 * 1) 1) fun L => A8 (A8 (YF H n (4 * 1) 1) fun L => A8 (some []) fun LS => some (L :: LS)) fun LS => some (L :: LS)) fun LS => some (L :: LS)) fun LS => some (L :: LS)) fun LS => some (L :: LS)) = _
  have hl : ∀ i v, i < 5 -> T.get (T.set (T.set (T.set (T.set (T.set (jv [Z] 5 .e) 0 [a]) 1 [b]) 2 [c]) 3 [d]) 4 [e]) i = some [v] -> YF H n (i * 1) 1 = some [v] := by
    intro i v hi hv
    unfold YF; rw [h]
    exact AGb (by omega) hi hv rfl
  rw [hl 0 a (by omega) rfl, hl 1 b (by omega) rfl, hl 2 c (by omega) rfl, hl 3 d (by omega) rfl, hl 4 e (by omega) rfl]
  rfl
def AA7 (m : Dc) : Bool := RJ (0, 0) [m]
theorem ADO (m : Dc) : XK ⟨(1, 65), (0, 0), [], [m]⟩ = AA7 m := by
 simp [XK, AA7, fK, upper, gX]
theorem APA {G : AL} {m : Dc} {w : V} {H : Heap} {n : Nat} {k : KV} (hw : MK G H n w m.ps) (hm : m.nm.ok /\ m.ret.nm.ok)
    (hk : ∀ H' n', Kp H n H' n' -> k (.bool (AA7 m)) H' n') : Runs F G pG [.agg (m.cells w)] H n k := by
  refine BM (s := Jf (Tj lfp G)) Yx (by obtain ⟨h, o⟩ := jw BL G; rw [Yx] at h; cases h; exact o) ?_
  show Tj lfp G (Runs F G) (.agg (m.cells w)) H n k
  delta Tj
  have f1 : Kp H n (T.set H n (one (m.cells w))) (n + 1) := (Kp.refl H n).new _ (Nat.le_refl _) (by omega)
  have hl : Ae 5 (.ptr n 0) G (T.set H n (one (m.cells w))) = some (.agg (m.cells w)) := Tn rfl (by omega)
  simp only [go_sem, Nat.reduceAdd, hl, nO (z := 5) (L := m.cells w) rfl]
  generalize T.set H n (one (m.cells w)) = H1 at f1 ⊢
  have f2 := f1.new (m := n + 1 + 1) (.arr 5 1 (T.set (T.set .e 0 [.str 0 0, .bool false, .Aa, .str 0 0, .bool false]) 0 (m.cells w))) (id := n + 1) (by omega) (by omega)
  have hg := T.Ac H1 (n + 1) (.arr 5 1 (T.set (T.set .e 0 [.str 0 0, .bool false, .Aa, .str 0 0, .bool false]) 0 (m.cells w)))
  generalize T.set H1 (n + 1) (.arr 5 1 (T.set (T.set .e 0 [.str 0 0, .bool false, .Aa, .str 0 0, .bool false]) 0 (m.cells w))) = H2 at f2 hg ⊢
  rw [show BO [.str 0 0, .str 0 0, .Aa, .Aa] [(0, 1, .c (.str 1 65)), (3, 1, .c (.sl (n + 1) 0 1 1 5))] = some (.agg [.str 1 65, .str 0 0, .Aa, .sl (n + 1) 0 1 1 5]) from rfl, BA]
  refine ng (c := ⟨(1, 65), (0, 0), [], [m]⟩) (v := .Aa) (w := .sl (n + 1) 0 1 1 5) (ws := [w]) ⟨rfl, ⟨⟨rfl, rfl⟩, (fun id h => by cases h), (by show 0 < big; decide), (fun f h => by cases h)⟩, ⟨Yl (by omega) rfl hg, (fun id h => by cases h; omega), (by show 1 < big; decide), rfl, ?_, ?_⟩, ?_⟩ fun H' n' f => ?_
  · intro i m' w' h1 h2
    cases i with
    | zero => simp at h1 h2; subst h1 h2; exact hw.kp f2
    | succ i => simp at h1
  · intro m' h; simp at h; subst h; exact hm
  · exact ⟨(fun h => by cases h), (fun h => rfl)⟩
  · rw [ADO]
    exact hk _ _ (f2.trans f)
structure PF where
 f : wo
 own : St
structure PM where
 m : Dc
 own : St
def PF.cells (p : PF) : LV := [p.f.nm.v, p.f.ty.nm.v, .bool p.f.ty.arr, p.own.v]
def PM.cells (p : PM) (w : V) : LV := [p.m.nm.v, .bool p.m.st, w, p.m.ret.nm.v, .bool p.m.ret.arr, p.own.v]
structure Pool where
 nums : List Int
 names : List St
 types : List Ty
 fields : List PF
 CO : List PM
structure Fz (G : AL) (H : Heap) (n : Nat) (p : Pool) (v0 v1 v2 v3 v4 : V) (ws : List V) : Prop where
 e0 : El G H v0 1 (p.nums.map fun a => [.int .i64 a 0])
 l0 : Lo v0 n
 b0 : p.nums.length < big
 e1 : El G H v1 1 (strs p.names)
 l1 : Lo v1 n
 b1 : p.names.length < big
 o1 : ∀ s ∈ p.names, s.ok
 t2 : MK G H n v2 p.types
 e3 : El G H v3 4 (p.fields.map PF.cells)
 l3 : Lo v3 n
 b3 : p.fields.length < big
 o3 : ∀ f ∈ p.fields, f.f.nm.ok /\ f.f.ty.nm.ok /\ f.own.ok
 e4 : El G H v4 6 (List.zipWith PM.cells p.CO ws)
 l4 : Lo v4 n
 b4 : p.CO.length < big
 qF : ws.length = p.CO.length
 at4 : ∀ (i : Nat) (m : PM) (w : V), p.CO[i]? = some m -> ws[i]? = some w -> MK G H n w m.m.ps
 o4 : ∀ m ∈ p.CO, m.m.nm.ok /\ m.m.ret.nm.ok /\ m.own.ok
theorem Fz.kp {G : AL} {H H' : Heap} {n n' : Nat} {p : Pool} {v0 v1 v2 v3 v4 : V} {ws : List V} (h : Fz G H n p v0 v1 v2 v3 v4 ws) (f : Kp H n H' n') : Fz G H' n' p v0 v1 v2 v3 v4 ws :=
 ⟨h.e0.kp h.l0 f, h.l0.mono f.le, h.b0, h.e1.kp h.l1 f, h.l1.mono f.le, h.b1, h.o1, h.t2.kp f, h.e3.kp h.l3 f, h.l3.mono f.le, h.b3, h.o3, h.e4.kp h.l4 f, h.l4.mono f.le, h.b4, h.qF,
  fun i m w a b => (h.at4 i m w a b).kp f, h.o4⟩
def XI (s : St) : Bool := upper s.1 s.2 && decide (s.1 <= 40)
def zQ (p : PM) : Bool := XI p.own && AA7 p.m
def ADt (p : PF) : Bool := XI p.own && (!decide (p.f.nm.1 = 0 /\ p.f.nm.2 = 0) && (!decide (40 < p.f.nm.1) && PI p.f.ty.nm))
theorem ABK {G : AL} {p : Pool} {v0 v1 v2 v3 v4 : V} {ws : List V} {H : Heap} {n : Nat} {k : KV} (h : Fz G H n p v0 v1 v2 v3 v4 ws)
    (hk : ∀ H' n', Kp H n H' n' -> k (.bool (p.CO.all zQ)) H' n') :
    lfp (V × V × V × Heap × Nat) (KH lfp G (Runs F G) k) (v4, .int .i64 (.ofNat p.CO.length) 0, .int .i64 (.ofNat 0) 0, H, n) := by
  refine G7 (J := fun m st => ∃ i H2 n2, m = p.CO.length - i /\ i <= p.CO.length /\ st = (v4, .int .i64 (.ofNat p.CO.length) 0, .int .i64 (.ofNat i) 0, H2, n2) /\ Kp H n H2 n2 /\ (∀ H' n', Kp H n H' n' -> k (.bool ((p.CO.drop i).all zQ)) H' n')) ?_ (m := p.CO.length) ⟨0, H, n, rfl, Nat.zero_le _, rfl, Kp.refl _ _, hk⟩
  rintro I m st ⟨i, H2, n2, rfl, hi, rfl, f, hk⟩ ih
  show LD lfp G (Runs F G) k I v4 (.int .i64 (.ofNat p.CO.length) 0) (.int .i64 (.ofNat i) 0) H2 n2
  delta LD
  by_cases hlt : i < p.CO.length
  · have hw : i < ws.length := by rw [h.qF]; exact hlt
    have h' := h.kp f
    obtain ⟨q, hp, hld⟩ := h'.e4.at (i := i) (c := p.CO[i].cells ws[i]) (by rw [List.getElem?_zipWith]; simp [hlt, hw])
    have hty := h'.at4 i _ _ (List.getElem?_eq_getElem hlt) (List.getElem?_eq_getElem hw)
    have hok := h.o4 _ (List.getElem_mem hlt)
    have hbig := h.b4
    rw [List.drop_eq_getElem_cons hlt, List.all_cons] at hk
    generalize p.CO[i] = m at hok hld hty hk
    generalize ws[i] = w at hld hty
    unfold PM.cells at hld
    simp only [go_sem, Nat.reduceAdd, BI, hlt, decide_true, hp, CB hld]
    have f2 : Kp H2 n2 (T.set (T.set H2 n2 (one [.str 0 0, .bool false, .Aa, .str 0 0, .bool false, .str 0 0])) n2 (one [m.m.nm.v, .bool m.m.st, w, m.m.ret.nm.v, .bool m.m.ret.arr, m.own.v])) (n2 + 1) :=
      ((Kp.refl _ _).new (m := n2 + 1) _ (Nat.le_refl _) (by omega)).new _ (Nat.le_refl _) (Nat.le_refl _)
    have hg := T.Ac (T.set H2 n2 (one [.str 0 0, .bool false, .Aa, .str 0 0, .bool false, .str 0 0])) n2 (one [m.m.nm.v, .bool m.m.st, w, m.m.ret.nm.v, .bool m.m.ret.arr, m.own.v])
    generalize T.set (T.set H2 n2 (one [.str 0 0, .bool false, .Aa, .str 0 0, .bool false, .str 0 0])) n2 (one [m.m.nm.v, .bool m.m.st, w, m.m.ret.nm.v, .bool m.m.ret.arr, m.own.v]) = H3 at f2 hg ⊢
    refine AAf hok.2.2 fun H4 n4 f4 => ?_
    rw [BK, show (upper m.own.1 m.own.2 && decide (m.own.1 <= 40)) = XI m.own from rfl]
    have hg : T.get H4 n2 = _ := (f4.same n2 (by omega)).trans hg
    unfold zQ at hk
    cases h1 : XI m.own with
    | false =>
      rw [h1] at hk
      simp only [Bool.not_false, go_sem]
      exact hk _ _ (f.trans (f2.trans f4))
    | true =>
      rw [h1] at hk
      have hl : Ae 5 (.ptr n2 0) G H4 = some (.agg (m.m.cells w)) := FM hg (by omega) (by show 5 <= 6; omega)
      simp only [Bool.not_true, go_sem, Nat.reduceAdd, hl]
      refine APA (hty.kp (f2.trans f4)) ⟨hok.1, hok.2.1⟩ fun H5 n5 f5 => ?_
      have f6 := f.trans ((f2.trans f4).trans f5)
      simp only [BK, go_sem]
      cases h2 : AA7 m.m with
      | false =>
        rw [h2] at hk
        simp only [Bool.not_false, go_sem]
        exact hk _ _ f6
      | true =>
        rw [h2] at hk
        simp only [Bool.not_true, go_sem, DF (show i + 1 < 9223372036854775808 by unfold big at hbig; omega)]
        exact ih _ _ (by omega) ⟨i + 1, _, _, rfl, hlt, rfl, f6, hk⟩
  · simp only [go_sem, BI, hlt, decide_false]
    delta NG
    rw [List.drop_eq_nil_of_le (by omega)] at hk
    exact hk _ _ f
theorem eqS (a b : St) : Dx (.one .str) false a.v b.v = some (.bool (decide (a.1 = b.1 /\ a.2 = b.2))) := AAK ..
theorem AAp {G : AL} {p : Pool} {v0 v1 v2 v3 v4 : V} {ws : List V} {H : Heap} {n b : Nat} {k : KV} (h : Fz G H n p v0 v1 v2 v3 v4 ws) (hb : b < n) (hbx : T.get H b = some (one [v0, v1, v2, v3, v4]))
    (hk : ∀ H' n', Kp H n H' n' -> k (.bool (p.fields.all ADt && p.CO.all zQ)) H' n') :
    lfp (V × V × V × V × Heap × Nat) (KU lfp G (Runs F G) k) (.ptr b 0, v3, .int .i64 (.ofNat p.fields.length) 0, .int .i64 (.ofNat 0) 0, H, n) := by
  refine G7 (J := fun m st => ∃ i H2 n2, m = p.fields.length - i /\ i <= p.fields.length /\ st = (.ptr b 0, v3, .int .i64 (.ofNat p.fields.length) 0, .int .i64 (.ofNat i) 0, H2, n2) /\ Kp H n H2 n2 /\ (∀ H' n', Kp H n H' n' -> k (.bool ((p.fields.drop i).all ADt && p.CO.all zQ)) H' n')) ?_ (m := p.fields.length) ⟨0, H, n, rfl, Nat.zero_le _, rfl, Kp.refl _ _, hk⟩
  rintro I m st ⟨i, H2, n2, rfl, hi, rfl, f, hk⟩ ih
  show LU lfp G (Runs F G) k I (.ptr b 0) v3 (.int .i64 (.ofNat p.fields.length) 0) (.int .i64 (.ofNat i) 0) H2 n2
  delta LU
  have h' := h.kp f
  by_cases hlt : i < p.fields.length
  · obtain ⟨q, hp, hld⟩ := h'.e3.at (i := i) (c := p.fields[i].cells) (by simp [hlt])
    have hok := h.o3 _ (List.getElem_mem hlt)
    have hbig := h.b3
    rw [List.drop_eq_getElem_cons hlt, List.all_cons] at hk
    generalize p.fields[i] = m at hok hld hk
    unfold PF.cells at hld
    simp only [go_sem, Nat.reduceAdd, BI, hlt, decide_true, hp, CB hld]
    have f2 : Kp H2 n2 (T.set (T.set H2 n2 (one [.str 0 0, .str 0 0, .bool false, .str 0 0])) n2 (one [m.f.nm.v, m.f.ty.nm.v, .bool m.f.ty.arr, m.own.v])) (n2 + 1) :=
      ((Kp.refl _ _).new (m := n2 + 1) _ (Nat.le_refl _) (by omega)).new _ (Nat.le_refl _) (Nat.le_refl _)
    have hg := T.Ac (T.set H2 n2 (one [.str 0 0, .str 0 0, .bool false, .str 0 0])) n2 (one [m.f.nm.v, m.f.ty.nm.v, .bool m.f.ty.arr, m.own.v])
    generalize T.set (T.set H2 n2 (one [.str 0 0, .str 0 0, .bool false, .str 0 0])) n2 (one [m.f.nm.v, m.f.ty.nm.v, .bool m.f.ty.arr, m.own.v]) = H3 at f2 hg ⊢
    refine AAf hok.2.2 fun H4 n4 f4 => ?_
    rw [BK, show (upper m.own.1 m.own.2 && decide (m.own.1 <= 40)) = XI m.own from rfl]
    have hg : T.get H4 n2 = _ := (f4.same n2 (by omega)).trans hg
    have e0 : AZ (.ptr n2 0) G H4 = some m.f.nm.v := AU hg rfl
    have f6 := f.trans (f2.trans f4)
    unfold ADt at hk
    cases h1 : XI m.own with
    | false =>
      rw [h1] at hk
      simp only [Bool.not_false, go_sem]
      exact hk _ _ f6
    | true =>
      rw [h1] at hk
      simp only [Bool.not_true, go_sem, Nat.reduceAdd, e0]
      rw [show Dx (.one .str) false m.f.nm.v (.str 0 0) = _ from eqS m.f.nm (0, 0)]
      cases h2 : decide (m.f.nm.1 = 0 /\ m.f.nm.2 = 0) with
      | true =>
        rw [h2] at hk
        simp only [go_sem]
        exact hk _ _ f6
      | false =>
        rw [h2] at hk
        simp only [go_sem, Nat.reduceAdd, e0, WJ, FY]
        cases h3 : decide (40 < m.f.nm.1) with
        | true =>
          rw [h3] at hk
          simp only [go_sem]
          exact hk _ _ f6
        | false =>
          rw [h3] at hk
          have hl : Ae 2 (.ptr n2 1) G H4 = some (.agg [m.f.ty.nm.v, .bool m.f.ty.arr]) := FM hg (by omega) (by show 3 <= 4; omega)
          simp only [go_sem, Nat.reduceAdd, hl]
          refine lQ hok.2.1 fun H5 n5 f5 => ?_
          have f7 := f6.trans f5
          simp only [BK, go_sem]
          show _
          cases h4 : jX m.f.ty.nm.1 m.f.ty.nm.2 with
          | false =>
            rw [show PI m.f.ty.nm = false from h4] at hk
            simp only [Bool.not_false, go_sem]
            exact hk _ _ f7
          | true =>
            rw [show PI m.f.ty.nm = true from h4] at hk
            simp only [Bool.not_true, go_sem, DF (show i + 1 < 9223372036854775808 by unfold big at hbig; omega)]
            exact ih _ _ (by omega) ⟨i + 1, _, _, rfl, hlt, rfl, f7, hk⟩
  · simp only [go_sem, BI, hlt, decide_false]
    delta NH
    rw [List.drop_eq_nil_of_le (by omega)] at hk
    have hg : T.get H2 b = _ := (f.same b hb).trans hbx
    have hl : lenV v4 = some (.int .i64 (.ofNat p.CO.length) 0) := by rw [h.e4.len, List.length_zipWith, h.qF, Nat.min_self]
    simp only [go_sem, Nat.reduceAdd, AU (off := 4) hg (v := v4) rfl, hl]
    exact ABK h' fun H' n' f' => hk _ _ (f.trans f')
theorem ACX {G : AL} {p : Pool} {v0 v1 v2 v3 v4 : V} {ws : List V} {H : Heap} {n b : Nat} {k : KV} (h : Fz G H n p v0 v1 v2 v3 v4 ws) (hb : b < n) (hbx : T.get H b = some (one [v0, v1, v2, v3, v4]))
    (hk : ∀ H' n', Kp H n H' n' -> k (.bool ((p.types.all fun t => PI t.nm) && (p.fields.all ADt && p.CO.all zQ))) H' n') :
    lfp (V × V × V × V × Heap × Nat) (J3 lfp G (Runs F G) k) (.ptr b 0, v2, .int .i64 (.ofNat p.types.length) 0, .int .i64 (.ofNat 0) 0, H, n) := by
  refine G7 (J := fun m st => ∃ i H2 n2, m = p.types.length - i /\ i <= p.types.length /\ st = (.ptr b 0, v2, .int .i64 (.ofNat p.types.length) 0, .int .i64 (.ofNat i) 0, H2, n2) /\ Kp H n H2 n2 /\ (∀ H' n', Kp H n H' n' -> k (.bool (((p.types.drop i).all fun t => PI t.nm) && (p.fields.all ADt && p.CO.all zQ))) H' n')) ?_ (m := p.types.length) ⟨0, H, n, rfl, Nat.zero_le _, rfl, Kp.refl _ _, hk⟩
  rintro I m st ⟨i, H2, n2, rfl, hi, rfl, f, hk⟩ ih
  show LG lfp G (Runs F G) k I (.ptr b 0) v2 (.int .i64 (.ofNat p.types.length) 0) (.int .i64 (.ofNat i) 0) H2 n2
  delta LG
  have h' := h.kp f
  by_cases hlt : i < p.types.length
  · obtain ⟨q, hp, hld⟩ := h'.t2.el.at (Qp hlt)
    have hok := h.t2.ok _ (List.getElem_mem hlt)
    have hbig := h.t2.lt
    rw [List.drop_eq_getElem_cons hlt, List.all_cons] at hk
    generalize p.types[i] = m at hok hld hk
    unfold Ty.cells at hld
    simp only [go_sem, Nat.reduceAdd, BI, hlt, decide_true, hp, CB hld]
    have f2 : Kp H2 n2 (T.set (T.set H2 n2 (one [.str 0 0, .bool false])) n2 (one [m.nm.v, .bool m.arr])) (n2 + 1) :=
      ((Kp.refl _ _).new (m := n2 + 1) _ (Nat.le_refl _) (by omega)).new _ (Nat.le_refl _) (Nat.le_refl _)
    refine lQ hok fun H5 n5 f5 => ?_
    have f7 := f.trans (f2.trans f5)
    simp only [BK, go_sem]
    show _
    cases h4 : jX m.nm.1 m.nm.2 with
    | false =>
      rw [show PI m.nm = false from h4] at hk
      simp only [Bool.not_false, go_sem]
      exact hk _ _ f7
    | true =>
      rw [show PI m.nm = true from h4] at hk
      simp only [Bool.not_true, go_sem, DF (show i + 1 < 9223372036854775808 by unfold big at hbig; omega)]
      exact ih _ _ (by omega) ⟨i + 1, _, _, rfl, hlt, rfl, f7, hk⟩
  · simp only [go_sem, BI, hlt, decide_false]
    delta NT
    rw [List.drop_eq_nil_of_le (by omega)] at hk
    have hg : T.get H2 b = _ := (f.same b hb).trans hbx
    have hl : lenV v3 = some (.int .i64 (.ofNat p.fields.length) 0) := by rw [h.e3.len, List.length_map]
    simp only [go_sem, Nat.reduceAdd, AU (off := 3) hg (v := v3) rfl, hl]
    exact AAp h' (Nat.lt_of_lt_of_le hb f.le) hg fun H' n' f' => hk _ _ (f.trans f')
def kH (p : Pool) : Bool := p.names.all XI && ((p.types.all fun t => PI t.nm) && (p.fields.all ADt && p.CO.all zQ))
theorem ABP {G : AL} {p : Pool} {v0 v1 v2 v3 v4 : V} {ws : List V} {H : Heap} {n b : Nat} {k : KV} (h : Fz G H n p v0 v1 v2 v3 v4 ws) (hb : b < n) (hbx : T.get H b = some (one [v0, v1, v2, v3, v4]))
    (hk : ∀ H' n', Kp H n H' n' -> k (.bool (kH p)) H' n') :
    lfp (V × V × V × V × Heap × Nat) (KJ lfp G (Runs F G) k) (.ptr b 0, v1, .int .i64 (.ofNat p.names.length) 0, .int .i64 (.ofNat 0) 0, H, n) := by
  refine G7 (J := fun m st => ∃ i H2 n2, m = p.names.length - i /\ i <= p.names.length /\ st = (.ptr b 0, v1, .int .i64 (.ofNat p.names.length) 0, .int .i64 (.ofNat i) 0, H2, n2) /\ Kp H n H2 n2 /\ (∀ H' n', Kp H n H' n' -> k (.bool ((p.names.drop i).all XI && ((p.types.all fun t => PI t.nm) && (p.fields.all ADt && p.CO.all zQ)))) H' n')) ?_ (m := p.names.length) ⟨0, H, n, rfl, Nat.zero_le _, rfl, Kp.refl _ _, hk⟩
  rintro I m st ⟨i, H2, n2, rfl, hi, rfl, f, hk⟩ ih
  show Ls lfp G (Runs F G) k I (.ptr b 0) v1 (.int .i64 (.ofNat p.names.length) 0) (.int .i64 (.ofNat i) 0) H2 n2
  delta Ls
  have h' := h.kp f
  by_cases hlt : i < p.names.length
  · obtain ⟨q, hp, hld⟩ := h'.e1.at (RU hlt)
    have hok := h.o1 _ (List.getElem_mem hlt)
    have hbig := h.b1
    rw [List.drop_eq_getElem_cons hlt, List.all_cons] at hk
    generalize p.names[i] = m at hok hld hk
    simp only [go_sem, Nat.reduceAdd, BI, hlt, decide_true, hp, OG hld]
    refine AAf hok fun H5 n5 f5 => ?_
    rw [BK, show (upper m.1 m.2 && decide (m.1 <= 40)) = XI m from rfl]
    have f7 := f.trans f5
    cases h4 : XI m with
    | false =>
      rw [h4] at hk
      simp only [Bool.not_false, go_sem]
      exact hk _ _ f7
    | true =>
      rw [h4] at hk
      simp only [Bool.not_true, go_sem, DF (show i + 1 < 9223372036854775808 by unfold big at hbig; omega)]
      exact ih _ _ (by omega) ⟨i + 1, _, _, rfl, hlt, rfl, f7, hk⟩
  · simp only [go_sem, BI, hlt, decide_false]
    delta NZ
    rw [List.drop_eq_nil_of_le (by omega)] at hk
    have hg : T.get H2 b = _ := (f.same b hb).trans hbx
    simp only [go_sem, Nat.reduceAdd, AU (off := 2) hg (v := v2) rfl, h'.t2.len]
    exact ACX h' (Nat.lt_of_lt_of_le hb f.le) hg fun H' n' f' => hk _ _ (f.trans f')
def cnts (p : Pool) : List Nat := [p.nums.length, p.names.length, p.types.length, p.fields.length, p.CO.length]
theorem ADU {G : AL} {p : Pool} {v v0 v1 v2 v3 v4 : V} {ws : List V} {H : Heap} {n b : Nat} {k : KV} (h : Fz G H n p v0 v1 v2 v3 v4 ws) (hb : b < n) (hbx : T.get H b = some (one [v0, v1, v2, v3, v4]))
    {xs : List Nat} (hv : El G H v 1 (xs.map fun (a : Nat) => [V.int .i64 (.ofNat a) 0])) (hx : xs.length < big)
    (hk : ∀ H' n', Kp H n H' n' -> k (.bool ((xs.all fun a => !decide (16384 < a)) && kH p)) H' n') :
    lfp (V × V × V × V × Heap × Nat) (KT lfp G (Runs F G) k) (.ptr b 0, v, .int .i64 (.ofNat xs.length) 0, .int .i64 (.ofNat 0) 0, H, n) := by
  refine G7 (J := fun m st => ∃ i, m = xs.length - i /\ i <= xs.length /\ st = (.ptr b 0, v, .int .i64 (.ofNat xs.length) 0, .int .i64 (.ofNat i) 0, H, n) /\ (∀ H' n', Kp H n H' n' -> k (.bool (((xs.drop i).all fun a => !decide (16384 < a)) && kH p)) H' n')) ?_ (m := xs.length) ⟨0, rfl, Nat.zero_le _, rfl, hk⟩
  rintro I m st ⟨i, rfl, hi, rfl, hk⟩ ih
  show LK lfp G (Runs F G) k I (.ptr b 0) v (.int .i64 (.ofNat xs.length) 0) (.int .i64 (.ofNat i) 0) H n
  delta LK
  by_cases hlt : i < xs.length
  · obtain ⟨q, hp, hld⟩ := hv.at (i := i) (c := [V.int .i64 (.ofNat xs[i]) 0]) (by simp [hlt])
    rw [List.drop_eq_getElem_cons hlt, List.all_cons] at hk
    generalize xs[i] = m at hld hk
    simp only [go_sem, Nat.reduceAdd, BI, hlt, decide_true, hp, OG hld, FY]
    cases h4 : decide (16384 < m) with
    | true =>
      rw [h4] at hk
      simp only [go_sem]
      exact hk _ _ (Kp.refl _ _)
    | false =>
      rw [h4] at hk
      simp only [go_sem, DF (show i + 1 < 9223372036854775808 by unfold big at hx; omega)]
      exact ih _ _ (by omega) ⟨i + 1, rfl, hlt, rfl, hk⟩
  · simp only [go_sem, BI, hlt, decide_false]
    delta NV
    rw [List.drop_eq_nil_of_le (by omega)] at hk
    have hl : lenV v1 = some (.int .i64 (.ofNat p.names.length) 0) := by rw [h.e1.len, Ie]
    simp only [go_sem, Nat.reduceAdd, AU (off := 1) hbx (v := v1) rfl, hl]
    exact ABP h hb hbx hk
def ADy (p : Pool) : Bool := (cnts p).all (fun a => !decide (16384 < a)) && kH p
theorem AB9 {G : AL} {p : Pool} {v0 v1 v2 v3 v4 : V} {ws : List V} {H : Heap} {n : Nat} {k : KV} (h : Fz G H n p v0 v1 v2 v3 v4 ws)
    (hk : ∀ H' n', Kp H n H' n' -> k (.bool (ADy p)) H' n') : Runs F G Vk [.agg [v0, v1, v2, v3, v4]] H n k := by
  refine BM (s := Jf (IQ lfp G)) Og (by obtain ⟨h, o⟩ := Um BL G; rw [Og] at h; cases h; exact o) ?_
  show IQ lfp G (Runs F G) (.agg [v0, v1, v2, v3, v4]) H n k
  delta IQ
  have l0 : lenV v0 = some (.int .i64 (.ofNat p.nums.length) 0) := by rw [h.e0.len, List.length_map]
  have l1 : lenV v1 = some (.int .i64 (.ofNat p.names.length) 0) := by rw [h.e1.len, Ie]
  have l3 : lenV v3 = some (.int .i64 (.ofNat p.fields.length) 0) := by rw [h.e3.len, List.length_map]
  have l4 : lenV v4 = some (.int .i64 (.ofNat p.CO.length) 0) := by rw [h.e4.len, List.length_zipWith, h.qF, Nat.min_self]
  simp only [go_sem, Nat.reduceAdd, l0, l1, h.t2.len, l3, l4]
  rw [AMD (by intro v hv; simp at hv; rcases hv with rfl | rfl | rfl | rfl | rfl <;> exact ⟨rfl, rfl⟩)]
  have f1 : Kp H n (T.set H n (one [v0, v1, v2, v3, v4])) (n + 1) := (Kp.refl H n).new _ (Nat.le_refl _) (by omega)
  have hg := T.Ac H n (one [v0, v1, v2, v3, v4])
  generalize T.set H n (one [v0, v1, v2, v3, v4]) = H1 at f1 hg ⊢
  generalize hB : (NR.arr 1 5 (T.set (T.set (T.set (T.set (T.set (jv [V.int .i64 (.ofNat 0) 0] 5 .e) 0 [V.int .i64 (.ofNat p.nums.length) 0]) 1 [V.int .i64 (.ofNat p.names.length) 0]) 2 [V.int .i64 (.ofNat p.types.length) 0]) 3 [V.int .i64 (.ofNat p.fields.length) 0]) 4 [V.int .i64 (.ofNat p.CO.length) 0])) = B
  have f2 := f1.new (m := n + 1 + 1) B (id := n + 1) (by omega) (by omega)
  have hg2 := T.Ac H1 (n + 1) B
  have hg : T.get (T.set H1 (n + 1) B) n = _ := (T.AY _ _ (by omega)).trans hg
  generalize T.set H1 (n + 1) B = H2 at f2 hg hg2 ⊢
  subst hB
  have he := AKO (G := G) hg2
  have hl : lenV (.sl (n + 1) 0 5 5 1) = some (.int .i64 (.ofNat 5) 0) := rfl
  simp only [go_sem, Nat.reduceAdd, hl]
  exact ADU (xs := cnts p) (h.kp f2) (by omega) hg he (by show 5 < big; decide) fun H' n' f => hk _ _ (f2.trans f)
def ACH : List Nat := [0, 110, 0, 108, 108, 0, 0, 0, 0, 0, 0, 0, 0, 0, 0, 0, 102, 102, 99, 116, 116, 116, 0, 99, 99, 109, 109, 106, 106, 0, 0, 0, 98]
def Xt (G : AL) : Prop := ∀ c, c < 33 -> G 0 (c * 2 + 1) 1 = some [V.int .i32 (.ofNat (ACH.getD c 0)) 0]
def known (c : Int) : Bool := decide (1 <= c) && decide (c <= 32)
def eG (c : Int) : Nat := bif known c then ACH.getD c.toNat 0 else 0
theorem AK3 (q : IntKind) (a b : Int) : B2.ev .geq (.int q a 0) (.int q b 0) = some (.bool (decide (b <= a))) := by
 show BD (band (keq q q) true) (wQ (ile b a)) = _
 rw [Oh, gV, show band (keq q q) true = true by simp [LJ]]; rfl
theorem AIC (q : IntKind) (a b : Int) : B2.ev .gtr (.int q a 0) (.int q b 0) = some (.bool (decide (b < a))) := by
 show BD (band (keq q q) true) (wQ (zZ b a)) = _
 rw [Oh, SE, show band (keq q q) true = true by simp [LJ]]; rfl
theorem ALr (q : IntKind) (a b : Int) : B2.ev .lss (.int q a 0) (.int q b 0) = some (.bool (decide (a < b))) := by
 show BD (band (keq q q) true) (wQ (zZ a b)) = _
 rw [Oh, SE, show band (keq q q) true = true by simp [LJ]]; rfl
theorem AEO {G : AL} {c : Int} {H : Heap} {n : Nat} {k : KV} (hk : k (.bool (known c)) H n) : Runs F G UH [.int .i64 c 0] H n k := by
 refine BM (s := Jf (MQ lfp G)) SK (by obtain ⟨h, o⟩ := Xk BL G; rw [SK] at h; cases h; exact o) ?_
 show MQ lfp G (Runs F G) (.int .i64 c 0) H n k
 delta MQ
 unfold known at hk
 simp only [go_sem, AK3, ABt]
 rw [show decide (Int.ofNat 1 <= c) = decide (1 <= c) from rfl]
 cases h : decide (1 <= c) with
 | false => rw [h] at hk; simp only [go_sem]; exact hk
 | true => rw [h] at hk; simp only [go_sem, ABt]; exact hk
theorem ADa {G : AL} (hG : Xt G) {c : Int} {H : Heap} {n : Nat} {k : KV} (hk : k (.int .i32 (.ofNat (eG c)) 0) H n) : Runs F G aX [.int .i64 c 0] H n k := by
 refine BM (s := Jf (OD lfp G)) UY (by obtain ⟨h, o⟩ := Y4 BL G; rw [UY] at h; cases h; exact o) ?_
 show OD lfp G (Runs F G) (.int .i64 c 0) H n k
 delta OD
 refine AEO ?_
 unfold eG at hk
 cases h : known c with
 | false => rw [h] at hk; simp only [BK, Bool.not_false, go_sem]; exact hk
 | true =>
  rw [h] at hk
  simp only [BK, Bool.not_true, go_sem]
  obtain ⟨m, rfl⟩ : ∃ m : Nat, c = .ofNat m := ⟨c.toNat, by simp [known] at h; show c = ((c.toNat : Nat) : Int); omega⟩
  have hm : m < 33 := by simp [known] at h; omega
  have hi : AEq 33 2 (.gptr 0 0) (.int .i64 (.ofNat m) 0) = some (.gptr 0 (m * 2)) := by
   show BD (Nat.blt m 33) (AQ (Nat.mul m 2) (.gptr 0 0)) = _
   rw [show Nat.blt m 33 = true by rw [Nat.blt_eq]; exact hm, show BD true (AQ (Nat.mul m 2) (.gptr 0 0)) = AQ (Nat.mul m 2) (.gptr 0 0) from rfl, AAH, Nat.zero_add]
   rfl
  have hl : AZ (.gptr 0 (m * 2 + 1)) G H = some (.int .i32 (.ofNat (ACH.getD m 0)) 0) := OG (hG m hm)
  simp only [go_sem, hi, hl]
  exact hk
structure Ins where
 code : Int
 arg : Int
def Ins.cells (i : Ins) : LV := [.int .i64 i.code 0, .int .i64 i.arg 0]
structure Bd where
 locals : Int
 stack : Int
 code : List Ins
def ADV (G : AL) (H0 : Heap) (n0 : Nat) (v : V) (g : Nat -> Int) : Prop :=
 ∃ f a c, v = .fn f a c /\ ∀ (q : Nat) {H : Heap} {n : Nat} {k : KV}, Kp H0 n0 H n -> k (.int .i64 (g q) 0) H n -> Runs F G f (cat a (cat [.int .i32 (.ofNat q) 0] c)) H n k
def Rn (g : Nat -> Int) (i : Ins) : Bool :=
 known i.code && bif decide (eG i.code = 0) then decide (i.arg = 0) else (decide (0 <= i.arg) && decide (i.arg < g (eG i.code)))
theorem AFn (q : IntKind) (a : Int) : GX (.int q a 0) (.int q a 0) = true := by
 show SI (.int q a 0) (.int q a 0) = true
 simp [SI, AB1, BH, LJ, QX]
theorem AMu (q : IntKind) (a : Int) (P : Prop) : lI (.bool true) true (some (.int q a 0)) (.int q a 0) P = P := by
 show Ko (GX (.int q a 0) (.int q a 0)) P = P
 rw [AFn]; rfl
theorem oU (x y : Nat) : Dx (.one .int) false (.int .i32 (.ofNat x) 0) (.int .i32 (.ofNat y) 0) = some (.bool (decide (x = y))) := by
 show ofB (Rx (some (ieq (.ofNat x) (.ofNat y))) fun b => some b) = _
 rw [QX, show (Int.ofNat x == Int.ofNat y) = decide (x = y) by rw [Bool.eq_iff_iff]; simp; omega]; cases decide (x = y) <;> rfl
theorem AQZ (x : Int) : Dx (.one .int) false (.int .i64 x 0) (.int .i64 (.ofNat 0) 0) = some (.bool (decide (x = 0))) := by
 rw [eq_i, show (x == Int.ofNat 0) = decide (x = 0) by rw [Bool.eq_iff_iff]; simp]
theorem AAw {G : AL} (hG : Xt G) {i : Ins} {v : V} {g : Nat -> Int} {H : Heap} {n : Nat} {k : KV} (hv : ADV G H n v g)
    (hk : ∀ H' n', Kp H n H' n' -> k (.bool (Rn g i)) H' n') : Runs F G YK [.agg i.cells, v] H n k := by
  refine BM (s := Rf (KW lfp G)) RV (by obtain ⟨h, o⟩ := Wl BL G; rw [RV] at h; cases h; exact o) ?_
  show KW lfp G (Runs F G) (.agg i.cells) v H n k
  delta KW
  unfold Rn at hk
  unfold Ins.cells
  have f1 : Kp H n (T.set H n (one [V.int .i64 i.code 0, .int .i64 i.arg 0])) (n + 1) := (Kp.refl H n).new _ (Nat.le_refl _) (by omega)
  have hg := T.Ac H n (one [V.int .i64 i.code 0, .int .i64 i.arg 0])
  simp only [go_sem]
  generalize T.set H n (one [V.int .i64 i.code 0, .int .i64 i.arg 0]) = H1 at f1 hg ⊢
  have e0 : AZ (.ptr n 0) G H1 = some (.int .i64 i.code 0) := AU hg rfl
  have e1 : AZ (.ptr n 1) G H1 = some (.int .i64 i.arg 0) := AU hg rfl
  refine AEO ?_
  simp only [BK]
  cases h : known i.code with
  | false =>
    rw [h] at hk
    simp only [Bool.not_false, go_sem]
    exact hk _ _ f1
  | true =>
    rw [h] at hk
    simp only [Bool.not_true, go_sem, Nat.reduceAdd, e0]
    refine ADa hG ?_
    simp only [go_sem, oU]
    cases h0 : decide (eG i.code = 0) with
    | true =>
      rw [h0] at hk
      simp only [go_sem, Nat.reduceAdd, e1, AQZ]
      exact hk _ _ f1
    | false =>
      rw [h0] at hk
      simp only [go_sem, Nat.reduceAdd, e1, AK3]
      rw [show decide (Int.ofNat 0 <= i.arg) = decide (0 <= i.arg) from rfl]
      cases h2 : decide (0 <= i.arg) with
      | false =>
        rw [h2] at hk
        simp only [go_sem]
        exact hk _ _ f1
      | true =>
        rw [h2] at hk
        obtain ⟨f, a, c, rfl, hf⟩ := hv
        simp only [go_sem, Nat.reduceAdd, e1]
        show Runs F G f (cat a (cat [_] c)) H1 (n + 1) _
        refine hf _ f1 ?_
        simp only [go_sem, e1, AMu, ALr]
        exact hk _ _ f1
structure Fl where
 face : Fc
 pool : Pool
 bodies : List Bd
def mny (p : Pool) (b : Bd) (q : Nat) : Int :=
 bif decide (q = 110) then p.nums.length else bif decide (q = 99) then p.names.length else bif decide (q = 116) then p.types.length else bif decide (q = 102) then p.fields.length else
 bif decide (q = 109) then p.CO.length else bif decide (q = 108) then b.locals else bif decide (q = 106) then b.code.length else 2
theorem AIw {G : AL} {p : Pool} {b : Bd} {c0 c1 c2 c3 v0 v1 v2 v3 v4 vb vc : V} {ws : List V} {H : Heap} {n i j : Nat} (hi : i < n) (hj : j < n) (h : Fz G H n p v0 v1 v2 v3 v4 ws)
    (hc : El G H vc 2 (b.code.map Ins.cells))
    (gi : T.get H i = some (one [c0, c1, c2, c3, v0, v1, v2, v3, v4, vb])) (gj : T.get H j = some (one [V.int .i64 b.locals 0, .int .i64 b.stack 0, vc])) :
    ADV G H n (.fn Oz [] [.ptr i 0, .ptr j 0]) (mny p b) := by
  refine ⟨_, _, _, rfl, fun q {H2 n2 k} f hk => ?_⟩
  have gi : T.get H2 i = _ := (f.same i hi).trans gi
  have gj : T.get H2 j = _ := (f.same j hj).trans gj
  show Runs F G Oz [.int .i32 (.ofNat q) 0, .ptr i 0, .ptr j 0] H2 n2 k
  refine BM (s := ar3 (Hq lfp G)) N7 (by obtain ⟨h, o⟩ := TW BL G; rw [N7] at h; cases h; exact o) ?_
  show Hq lfp G (Runs F G) (.int .i32 (.ofNat q) 0) (.ptr i 0) (.ptr j 0) H2 n2 k
  delta Hq
  have l0 : lenV v0 = some (.int .i64 (.ofNat p.nums.length) 0) := by rw [h.e0.len, List.length_map]
  have l1 : lenV v1 = some (.int .i64 (.ofNat p.names.length) 0) := by rw [h.e1.len, Ie]
  have l3 : lenV v3 = some (.int .i64 (.ofNat p.fields.length) 0) := by rw [h.e3.len, List.length_map]
  have l4 : lenV v4 = some (.int .i64 (.ofNat p.CO.length) 0) := by rw [h.e4.len, List.length_zipWith, h.qF, Nat.min_self]
  have lc : lenV vc = some (.int .i64 (.ofNat b.code.length) 0) := by rw [hc.len, List.length_map]
  have e4 : AZ (.ptr i 4) G H2 = some v0 := AU gi rfl
  have e5 : AZ (.ptr i 5) G H2 = some v1 := AU gi rfl
  have e6 : AZ (.ptr i 6) G H2 = some v2 := AU gi rfl
  have e7 : AZ (.ptr i 7) G H2 = some v3 := AU gi rfl
  have e8 : AZ (.ptr i 8) G H2 = some v4 := AU gi rfl
  have f0 : AZ (.ptr j 0) G H2 = some (.int .i64 b.locals 0) := AU gj rfl
  have f2 : AZ (.ptr j 2) G H2 = some vc := AU gj rfl
  unfold mny at hk
  simp only [go_sem, oU]
  cases h1 : decide (q = 110) with
  | true => rw [h1] at hk; simp only [go_sem, Nat.reduceAdd, e4, l0]; exact hk
  | false =>
    rw [h1] at hk; simp only [go_sem, oU]
    cases h2 : decide (q = 99) with
    | true => rw [h2] at hk; simp only [go_sem, Nat.reduceAdd, e5, l1]; exact hk
    | false =>
      rw [h2] at hk; simp only [go_sem, oU]
      cases h3 : decide (q = 116) with
      | true => rw [h3] at hk; simp only [go_sem, Nat.reduceAdd, e6, h.t2.len]; exact hk
      | false =>
        rw [h3] at hk; simp only [go_sem, oU]
        cases h4 : decide (q = 102) with
        | true => rw [h4] at hk; simp only [go_sem, Nat.reduceAdd, e7, l3]; exact hk
        | false =>
          rw [h4] at hk; simp only [go_sem, oU]
          cases h5 : decide (q = 109) with
          | true => rw [h5] at hk; simp only [go_sem, Nat.reduceAdd, e8, l4]; exact hk
          | false =>
            rw [h5] at hk; simp only [go_sem, oU]
            cases h6 : decide (q = 108) with
            | true => rw [h6] at hk; simp only [go_sem, Nat.reduceAdd, f0]; exact hk
            | false =>
              rw [h6] at hk; simp only [go_sem, oU]
              cases h7 : decide (q = 106) with
              | true => rw [h7] at hk; simp only [go_sem, Nat.reduceAdd, f2, lc]; exact hk
              | false => rw [h7] at hk; simp only [go_sem]; exact hk
theorem AD5 {G : AL} {p : Pool} {b : Bd} {c0 c1 c2 c3 v0 v1 v2 v3 v4 vb vc : V} {ws : List V} {H : Heap} {n : Nat} {k : KV} (h : Fz G H n p v0 v1 v2 v3 v4 ws)
    (hc : El G H vc 2 (b.code.map Ins.cells)) (hl : Lo vc n)
    (hk : ∀ H' n' v, Kp H n H' n' -> ADV G H' n' v (mny p b) -> k v H' n') :
    Runs F G WT [.agg [c0, c1, c2, c3, v0, v1, v2, v3, v4, vb], .agg [V.int .i64 b.locals 0, .int .i64 b.stack 0, vc]] H n k := by
  refine BM (s := Rf (JO lfp G)) QB (by obtain ⟨h, o⟩ := VT BL G; rw [QB] at h; cases h; exact o) ?_
  show JO lfp G (Runs F G) (.agg [c0, c1, c2, c3, v0, v1, v2, v3, v4, vb]) (.agg [V.int .i64 b.locals 0, .int .i64 b.stack 0, vc]) H n k
  delta JO
  simp only [go_sem]
  have f1 := ((Kp.refl H n).new (m := n + 1) (id := n) (one [c0, c1, c2, c3, v0, v1, v2, v3, v4, vb]) (Nat.le_refl _) (by omega)).new (m := n + 1 + 1) (id := n + 1) (one [V.int .i64 b.locals 0, .int .i64 b.stack 0, vc]) (by omega) (by omega)
  exact hk _ _ _ f1 (AIw (by omega) (by omega) (h.kp f1) (hc.kp hl f1) (by rw [T.AY _ _ (by omega), T.Ac]) (T.Ac ..))
def Bd.cells (b : Bd) (w : V) : LV := [.int .i64 b.locals 0, .int .i64 b.stack 0, w]
structure LZ (G : AL) (H : Heap) (n : Nat) (v : V) (is : List Ins) : Prop where
 el : El G H v 2 (is.map Ins.cells)
 lo : Lo v n
 lt : is.length < big
theorem LZ.kp {G : AL} {H H' : Heap} {n n' : Nat} {v : V} {is : List Ins} (h : LZ G H n v is) (f : Kp H n H' n') : LZ G H' n' v is := ⟨h.el.kp h.lo f, h.lo.mono f.le, h.lt⟩
structure GV (G : AL) (H : Heap) (n : Nat) (v : V) (bs : List Bd) (ws : List V) : Prop where
 el : El G H v 3 (List.zipWith Bd.cells bs ws)
 lo : Lo v n
 lt : bs.length < big
 len : ws.length = bs.length
 at' : ∀ (i : Nat) (b : Bd) (w : V), bs[i]? = some b -> ws[i]? = some w -> LZ G H n w b.code
theorem GV.kp {G : AL} {H H' : Heap} {n n' : Nat} {v : V} {bs : List Bd} {ws : List V} (h : GV G H n v bs ws) (f : Kp H n H' n') : GV G H' n' v bs ws :=
 ⟨h.el.kp h.lo f, h.lo.mono f.le, h.lt, h.len, fun i b w x y => (h.at' i b w x y).kp f⟩
theorem AFk (i : Ins) : GX (.agg i.cells) (.agg i.cells) = true := by
 show vU [V.int .i64 i.code 0, .int .i64 i.arg 0] [V.int .i64 i.code 0, .int .i64 i.arg 0] = true
 show band (SI _ _) (band (SI _ _) true) = true
 simp [SI, AB1, BH, LJ, QX]
theorem AC6 {G : AL} (hG : Xt G) {p : Pool} {b : Bd} {c0 c1 c2 c3 v0 v1 v2 v3 v4 vb vc x30 x31 x32 : V} {ws : List V} {H : Heap} {n i j : Nat} {k : KV} {ih24 : (V × V × V × V × Heap × Nat) -> Prop}
    (hi : i < n) (hj : j < n) (h : Fz G H n p v0 v1 v2 v3 v4 ws) (hc : LZ G H n vc b.code)
    (gi : T.get H i = some (one [c0, c1, c2, c3, v0, v1, v2, v3, v4, vb])) (gj : T.get H j = some (one (b.cells vc)))
    (hbad : b.code.all (Rn (mny p b)) = false -> ∀ H' n', Kp H n H' n' -> k (.bool false) H' n')
    (hok : b.code.all (Rn (mny p b)) = true -> ∀ H' n', Kp H n H' n' -> Dz lfp G (Runs F G) k ih24 (.ptr i 0) x30 x31 x32 H' n') :
    lfp (V × V × V × V × V × V × V × V × Heap × Nat) (J8 lfp G (Runs F G) k ih24) (.ptr i 0, .ptr j 0, x30, x31, x32, vc, .int .i64 (.ofNat b.code.length) 0, .int .i64 (.ofNat 0) 0, H, n) := by
  refine G7 (J := fun m st => ∃ e H2 n2, m = b.code.length - e /\ e <= b.code.length /\ st = (.ptr i 0, .ptr j 0, x30, x31, x32, vc, .int .i64 (.ofNat b.code.length) 0, .int .i64 (.ofNat e) 0, H2, n2) /\ Kp H n H2 n2 /\
    ((b.code.drop e).all (Rn (mny p b)) = false -> ∀ H' n', Kp H n H' n' -> k (.bool false) H' n') /\
    ((b.code.drop e).all (Rn (mny p b)) = true -> ∀ H' n', Kp H n H' n' -> Dz lfp G (Runs F G) k ih24 (.ptr i 0) x30 x31 x32 H' n')) ?_ (m := b.code.length) ⟨0, H, n, rfl, Nat.zero_le _, rfl, Kp.refl _ _, hbad, hok⟩
  rintro I m st ⟨e, H2, n2, rfl, he, rfl, f, hbad, hok⟩ ih
  show LP lfp G (Runs F G) k ih24 I (.ptr i 0) (.ptr j 0) x30 x31 x32 vc (.int .i64 (.ofNat b.code.length) 0) (.int .i64 (.ofNat e) 0) H2 n2
  delta LP
  by_cases hlt : e < b.code.length
  · have hc2 := hc.kp f
    obtain ⟨q, hp, hld⟩ := hc2.el.at (i := e) (c := b.code[e].cells) (by simp [hlt])
    have hbig := hc.lt
    rw [List.drop_eq_getElem_cons hlt, List.all_cons] at hbad hok
    generalize b.code[e] = s at hld hbad hok
    have hs := AFk s
    unfold Ins.cells at hld hs
    simp only [go_sem, Nat.reduceAdd, BI, hlt, decide_true, hp, CB hld]
    have f2 : Kp H2 n2 (T.set (T.set H2 n2 (one [.int .i64 (.ofNat 0) 0, .int .i64 (.ofNat 0) 0])) n2 (one [.int .i64 s.code 0, .int .i64 s.arg 0])) (n2 + 1) :=
      ((Kp.refl _ _).new (m := n2 + 1) _ (Nat.le_refl _) (by omega)).new _ (Nat.le_refl _) (Nat.le_refl _)
    have hg := T.Ac (T.set H2 n2 (one [.int .i64 (.ofNat 0) 0, .int .i64 (.ofNat 0) 0])) n2 (one [V.int .i64 s.code 0, .int .i64 s.arg 0])
    generalize T.set (T.set H2 n2 (one [.int .i64 (.ofNat 0) 0, .int .i64 (.ofNat 0) 0])) n2 (one [V.int .i64 s.code 0, .int .i64 s.arg 0]) = H3 at f2 hg ⊢
    have f3 := f.trans f2
    have gi3 : T.get H3 i = _ := (f3.same i hi).trans gi
    have gj3 : T.get H3 j = _ := (f3.same j hj).trans gj
    have e1 : Ae 2 (.ptr n2 0) G H3 = some (.agg [.int .i64 s.code 0, .int .i64 s.arg 0]) := D5 hg (by omega) rfl
    have e2 : Ae 10 (.ptr i 0) G H3 = some (.agg [c0, c1, c2, c3, v0, v1, v2, v3, v4, vb]) := D5 gi3 (by omega) rfl
    have e3 : Ae 3 (.ptr j 0) G H3 = some (.agg (b.cells vc)) := D5 gj3 (by omega) rfl
    simp only [go_sem, Nat.reduceAdd, e1, e2, e3]
    refine AD5 (h.kp f3) (hc.kp f3).el (hc.kp f3).lo fun H4 n4 v f4 hv => ?_
    have hg4 : T.get H4 n2 = _ := (f4.same n2 (by omega)).trans hg
    have e4 : Ae 2 (.ptr n2 0) G H4 = some (.agg [.int .i64 s.code 0, .int .i64 s.arg 0]) := D5 hg4 (by omega) rfl
    simp only [go_sem, e4, hs]
    refine AAw (i := s) hG hv fun H5 n5 f5 => ?_
    have f6 := f3.trans (f4.trans f5)
    simp only [BK, go_sem]
    cases h2 : Rn (mny p b) s with
    | false =>
      rw [h2] at hbad
      simp only [Bool.not_false, go_sem]
      exact hbad rfl _ _ f6
    | true =>
      rw [h2] at hbad hok
      simp only [Bool.not_true, go_sem, DF (show e + 1 < 9223372036854775808 by unfold big at hbig; omega)]
      exact ih _ _ (by omega) ⟨e + 1, _, _, rfl, hlt, rfl, f6, hbad, hok⟩
  · simp only [go_sem, BI, hlt, decide_false]
    rw [List.drop_eq_nil_of_le (by omega)] at hok
    exact hok rfl _ _ f
def least (m : Dc) : Nat := bif m.st then m.ps.length else m.ps.length + 1
def Xa (p : Pool) (m : Dc) (b : Bd) : Bool :=
 !decide (b.locals < least m) && (!decide ((401 : Int) < b.locals) && (!decide (b.stack < 0) && (!decide ((1000 : Int) < b.stack) && (!decide (b.code.length < 1) && (!decide (16384 < b.code.length) && b.code.all (Rn (mny p b)))))))
def O7 (p : Pool) : List Dc -> List Bd -> Bool
 | m :: ms, b :: bs => Xa p m b && O7 p ms bs
 | _, _ => true
theorem AD9 {G : AL} (hG : Xt G) {p : Pool} {m : Dc} {b : Bd} {c0 c1 c2 c3 v0 v1 v2 v3 v4 vb vc x30 x31 x32 : V} {ws : List V} {H : Heap} {n i j : Nat} {k : KV} {ih24 : (V × V × V × V × Heap × Nat) -> Prop}
    (hi : i < n) (hj : j < n) (h : Fz G H n p v0 v1 v2 v3 v4 ws) (hc : LZ G H n vc b.code)
    (gi : T.get H i = some (one [c0, c1, c2, c3, v0, v1, v2, v3, v4, vb])) (gj : T.get H j = some (one (b.cells vc)))
    (hbad : Xa p m b = false -> ∀ H' n', Kp H n H' n' -> k (.bool false) H' n')
    (hok : Xa p m b = true -> ∀ H' n', Kp H n H' n' -> Dz lfp G (Runs F G) k ih24 (.ptr i 0) x30 x31 x32 H' n') :
    Dy lfp G (Runs F G) k ih24 (.ptr i 0) (.ptr j 0) (.int .i64 (.ofNat (least m)) 0) x30 x31 x32 H n := by
  delta Dy
  unfold Xa at hbad hok
  unfold Bd.cells at gj
  have f0 : AZ (.ptr j 0) G H = some (.int .i64 b.locals 0) := AU gj rfl
  have f1 : AZ (.ptr j 1) G H = some (.int .i64 b.stack 0) := AU gj rfl
  have f2 : AZ (.ptr j 2) G H = some vc := AU gj rfl
  have lc : lenV vc = some (.int .i64 (.ofNat b.code.length) 0) := by rw [hc.el.len, List.length_map]
  simp only [go_sem, Nat.reduceAdd, f0, ALr]
  rw [show decide (b.locals < Int.ofNat (least m)) = decide (b.locals < least m) from rfl]
  cases h1 : decide (b.locals < least m) with
  | true => rw [h1] at hbad; simp only [go_sem]; exact hbad rfl _ _ (Kp.refl _ _)
  | false =>
    rw [h1] at hbad hok; simp only [go_sem, Nat.reduceAdd, f0, AIC]
    rw [show decide (Int.ofNat 401 < b.locals) = decide ((401 : Int) < b.locals) from rfl]
    cases h2 : decide ((401 : Int) < b.locals) with
    | true => rw [h2] at hbad; simp only [go_sem]; exact hbad rfl _ _ (Kp.refl _ _)
    | false =>
      rw [h2] at hbad hok; simp only [go_sem, Nat.reduceAdd, f1, ALr]
      rw [show decide (b.stack < Int.ofNat 0) = decide (b.stack < 0) from rfl]
      cases h3 : decide (b.stack < 0) with
      | true => rw [h3] at hbad; simp only [go_sem]; exact hbad rfl _ _ (Kp.refl _ _)
      | false =>
        rw [h3] at hbad hok; simp only [go_sem, Nat.reduceAdd, f1, AIC]
        rw [show decide (Int.ofNat 1000 < b.stack) = decide ((1000 : Int) < b.stack) from rfl]
        cases h4 : decide ((1000 : Int) < b.stack) with
        | true => rw [h4] at hbad; simp only [go_sem]; exact hbad rfl _ _ (Kp.refl _ _)
        | false =>
          rw [h4] at hbad hok; simp only [go_sem, Nat.reduceAdd, f2, lc, BI]
          cases h5 : decide (b.code.length < 1) with
          | true => rw [h5] at hbad; simp only [go_sem]; exact hbad rfl _ _ (Kp.refl _ _)
          | false =>
            rw [h5] at hbad hok; simp only [go_sem, Nat.reduceAdd, f2, lc, FY]
            cases h6 : decide (16384 < b.code.length) with
            | true => rw [h6] at hbad; simp only [go_sem]; exact hbad rfl _ _ (Kp.refl _ _)
            | false =>
              rw [h6] at hbad hok; simp only [go_sem, Nat.reduceAdd, f2, lc]
              exact AC6 hG hi hj h hc gi gj hbad hok
theorem AAC {G : AL} (hG : Xt G) {p : Pool} {c : Fc} {bs : List Bd} {vf vm v0 v1 v2 v3 v4 vb : V} {mws ws bws : List V} {H : Heap} {n i : Nat} {k : KV}
    (hi : i < n) (hm : Ji G H n vm c.ms mws) (h : Fz G H n p v0 v1 v2 v3 v4 ws) (hb : GV G H n vb bs bws) (hlen : bs.length = c.ms.length) (AD2 : ∀ m ∈ c.ms, m.ps.length <= 200)
    (gi : T.get H i = some (one [c.nm.v, c.sup.v, vf, vm, v0, v1, v2, v3, v4, vb]))
    (hk : ∀ H' n', Kp H n H' n' -> k (.bool (O7 p c.ms bs)) H' n') :
    lfp (V × V × V × V × Heap × Nat) (J7 lfp G (Runs F G) k) (.ptr i 0, vb, .int .i64 (.ofNat bs.length) 0, .int .i64 (.ofNat 0) 0, H, n) := by
  refine G7 (J := fun m st => ∃ e H2 n2, m = bs.length - e /\ e <= bs.length /\ st = (.ptr i 0, vb, .int .i64 (.ofNat bs.length) 0, .int .i64 (.ofNat e) 0, H2, n2) /\ Kp H n H2 n2 /\
    (∀ H' n', Kp H n H' n' -> k (.bool (O7 p (c.ms.drop e) (bs.drop e))) H' n')) ?_ (m := bs.length) ⟨0, H, n, rfl, Nat.zero_le _, rfl, Kp.refl _ _, hk⟩
  rintro I m st ⟨e, H2, n2, rfl, he, rfl, f, hk⟩ ih
  show LH lfp G (Runs F G) k I (.ptr i 0) vb (.int .i64 (.ofNat bs.length) 0) (.int .i64 (.ofNat e) 0) H2 n2
  delta LH
  by_cases hlt : e < bs.length
  · have hlt' : e < c.ms.length := by omega
    have hw : e < bws.length := by rw [hb.len]; exact hlt
    have hb2 := hb.kp f
    obtain ⟨q, hp, hld⟩ := hb2.el.at (i := e) (c := bs[e].cells bws[e]) (by rw [List.getElem?_zipWith]; simp [hlt, hw])
    have hcode := hb2.at' e _ _ (List.getElem?_eq_getElem hlt) (List.getElem?_eq_getElem hw)
    have hbig := hb.lt
    rw [List.drop_eq_getElem_cons hlt, List.drop_eq_getElem_cons hlt'] at hk
    unfold O7 at hk
    generalize bs[e] = b at hld hcode hk
    generalize bws[e] = w at hld hcode
    unfold Bd.cells at hld
    simp only [go_sem, Nat.reduceAdd, BI, hlt, decide_true, hp, CB hld]
    have f2 : Kp H2 n2 (T.set (T.set H2 n2 (one [.int .i64 (.ofNat 0) 0, .int .i64 (.ofNat 0) 0, .Aa])) n2 (one [.int .i64 b.locals 0, .int .i64 b.stack 0, w])) (n2 + 1) :=
      ((Kp.refl _ _).new (m := n2 + 1) _ (Nat.le_refl _) (by omega)).new _ (Nat.le_refl _) (Nat.le_refl _)
    have gj := T.Ac (T.set H2 n2 (one [.int .i64 (.ofNat 0) 0, .int .i64 (.ofNat 0) 0, .Aa])) n2 (one [V.int .i64 b.locals 0, .int .i64 b.stack 0, w])
    generalize T.set (T.set H2 n2 (one [.int .i64 (.ofNat 0) 0, .int .i64 (.ofNat 0) 0, .Aa])) n2 (one [V.int .i64 b.locals 0, .int .i64 b.stack 0, w]) = H3 at f2 gj ⊢
    have f3 := f.trans f2
    have gi3 : T.get H3 i = _ := (f3.same i hi).trans gi
    obtain ⟨q2, w2, hp2, hld2, hps⟩ := (hm.kp f3).at hlt'
    have hps2 := AD2 _ (List.getElem_mem hlt')
    generalize c.ms[e] = mt at hld2 hps hk hps2
    unfold Dc.cells at hld2
    have e3 : AZ (.ptr i 3) G H3 = some vm := AU gi3 rfl
    simp only [go_sem, Nat.reduceAdd, e3, hp2, CB hld2, hps.len]
    have f4 : Kp H3 (n2 + 1) (T.set (T.set H3 (n2 + 1) (one [.str 0 0, .bool false, .Aa, .str 0 0, .bool false])) (n2 + 1) (one [mt.nm.v, .bool mt.st, w2, mt.ret.nm.v, .bool mt.ret.arr])) (n2 + 1 + 1) :=
      ((Kp.refl _ _).new (m := n2 + 1 + 1) _ (Nat.le_refl _) (by omega)).new _ (Nat.le_refl _) (Nat.le_refl _)
    generalize T.set (T.set H3 (n2 + 1) (one [.str 0 0, .bool false, .Aa, .str 0 0, .bool false])) (n2 + 1) (one [mt.nm.v, .bool mt.st, w2, mt.ret.nm.v, .bool mt.ret.arr]) = H4 at f4 ⊢
    have f5 := f3.trans f4
    have gi4 : T.get H4 i = _ := (f5.same i hi).trans gi
    have gj4 : T.get H4 n2 = _ := (f4.same n2 (by omega)).trans gj
    have hgo : Dy lfp G (Runs F G) k I (.ptr i 0) (.ptr n2 0) (.int .i64 (.ofNat (least mt)) 0) vb (.int .i64 (.ofNat bs.length) 0) (.int .i64 (.ofNat e) 0) H4 (n2 + 1 + 1) := by
      refine AD9 hG (p := p) (m := mt) (b := b) (by have := f.le; omega) (by omega) (h.kp f5) (hcode.kp (f2.trans f4)) gi4 gj4 ?_ ?_
      · intro hbad H' n' f'
        rw [hbad] at hk
        exact hk _ _ (f5.trans f')
      · intro hok H' n' f'
        rw [hok] at hk
        delta Dz
        simp only [go_sem, DF (show e + 1 < 9223372036854775808 by unfold big at hbig; omega)]
        exact ih _ _ (by omega) ⟨e + 1, _, _, rfl, hlt, rfl, f5.trans f', hk⟩
    simp only [BK]
    unfold least at hgo
    cases hst : mt.st with
    | true => rw [hst] at hgo; simp only [Bool.not_true, go_sem]; exact hgo
    | false => rw [hst] at hgo; simp only [Bool.not_false, go_sem, DF (show mt.ps.length + 1 < 9223372036854775808 by omega)]; exact hgo
  · simp only [go_sem, BI, hlt, decide_false]
    delta Lu
    rw [List.drop_eq_nil_of_le (by omega), List.drop_eq_nil_of_le (by omega)] at hk
    exact hk _ _ f
theorem pR : ∀ {a : St} {ms : List Dc}, RJ a ms = true -> ∀ m ∈ ms, m.ps.length <= 200
 | _, [], _ => fun m hm => by cases hm
 | a, m :: ms, h => by
  simp [RJ] at h
  intro m' hm'
  rcases List.mem_cons.1 hm' with rfl | hm'
  ·omega
  ·exact pR h.2.2.2.2.2 m' hm'
theorem rZ {c : Fc} (h : XK c = true) : ∀ m ∈ c.ms, m.ps.length <= 200 := by
 simp [XK] at h
 exact pR h.2.2.2.2.2.2.2
structure VL (G : AL) (H : Heap) (n : Nat) (L : LV) (f : Fl) (vf vm v0 v1 v2 v3 v4 vb : V) (mws ws bws : List V) : Prop where
 is : L = [f.face.nm.v, f.face.sup.v, vf, vm, v0, v1, v2, v3, v4, vb]
 face : UK G H n [f.face.nm.v, f.face.sup.v, vf, vm] f.face vf vm mws
 pool : Fz G H n f.pool v0 v1 v2 v3 v4 ws
 bodies : GV G H n vb f.bodies bws
def KP (f : Fl) : Bool := XK f.face && (ADy f.pool && (decide (f.bodies.length = f.face.ms.length) && O7 f.pool f.face.ms f.bodies))
theorem AA6 {G : AL} (hG : Xt G) {L : LV} {f : Fl} {vf vm v0 v1 v2 v3 v4 vb : V} {mws ws bws : List V} {H : Heap} {n : Nat} {k : KV} (h : VL G H n L f vf vm v0 v1 v2 v3 v4 vb mws ws bws)
    (hk : ∀ H' n', Kp H n H' n' -> k (.bool (KP f)) H' n') : Runs F G Vf [.agg L] H n k := by
  refine BM (s := Jf (IL lfp G)) O1 (by obtain ⟨h, o⟩ := Uk BL G; rw [O1] at h; cases h; exact o) ?_
  show IL lfp G (Runs F G) (.agg L) H n k
  obtain ⟨rfl, hf, hp, hb⟩ := h
  delta IL
  unfold KP at hk
  simp only [go_sem]
  have f1 : Kp H n (T.set H n (one [f.face.nm.v, f.face.sup.v, vf, vm, v0, v1, v2, v3, v4, vb])) (n + 1) := (Kp.refl H n).new _ (Nat.le_refl _) (by omega)
  have hg := T.Ac H n (one [f.face.nm.v, f.face.sup.v, vf, vm, v0, v1, v2, v3, v4, vb])
  generalize T.set H n (one [f.face.nm.v, f.face.sup.v, vf, vm, v0, v1, v2, v3, v4, vb]) = H1 at f1 hg ⊢
  have e1 : Ae 4 (.ptr n 0) G H1 = some (.agg [f.face.nm.v, f.face.sup.v, vf, vm]) := FM hg (by omega) (by show 4 <= 10; omega)
  simp only [go_sem, e1]
  refine ng (hf.kp f1) fun H2 n2 f2 => ?_
  have hg : T.get H2 n = _ := (f2.same n (by omega)).trans hg
  have f3 := f1.trans f2
  simp only [BK]
  cases h1 : XK f.face with
  | false => rw [h1] at hk; simp only [Bool.not_false, go_sem]; exact hk _ _ f3
  | true =>
    rw [h1] at hk
    have e2 : Ae 5 (.ptr n 4) G H2 = some (.agg [v0, v1, v2, v3, v4]) := FM hg (by omega) (by show 9 <= 10; omega)
    simp only [Bool.not_true, go_sem, Nat.reduceAdd, e2]
    refine AB9 (hp.kp f3) fun H4 n4 f4 => ?_
    have hg : T.get H4 n = _ := (f4.same n (by have := f2.le; omega)).trans hg
    have f5 := f3.trans f4
    simp only [BK, go_sem]
    cases h2 : ADy f.pool with
    | false => rw [h2] at hk; simp only [Bool.not_false, go_sem]; exact hk _ _ f5
    | true =>
      rw [h2] at hk
      have e9 : AZ (.ptr n 9) G H4 = some vb := AU hg rfl
      have e3 : AZ (.ptr n 3) G H4 = some vm := AU hg rfl
      have lb : lenV vb = some (.int .i64 (.ofNat f.bodies.length) 0) := by rw [hb.el.len, List.length_zipWith, hb.len, Nat.min_self]
      have lm : lenV vm = some (.int .i64 (.ofNat f.face.ms.length) 0) := hf.ms.len'
      simp only [Bool.not_true, go_sem, Nat.reduceAdd, e9, e3, lb, lm, APK]
      cases h3 : decide (f.bodies.length = f.face.ms.length) with
      | false => rw [h3] at hk; simp only [Bool.not_false, go_sem]; exact hk _ _ f5
      | true =>
        rw [h3] at hk
        simp only [Bool.not_true, go_sem, Nat.reduceAdd, e9, lb]
        exact AAC hG (c := f.face) (by have := f2.le; have := f4.le; omega) (hf.ms.kp f5) (hp.kp f5) (hb.kp f5) (of_decide_eq_true h3) (rZ h1) hg fun H' n' f' => hk _ _ (f5.trans f')
end Go.RL
