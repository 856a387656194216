/- Part of a proof: texts LQA LQB LQC LQD LQE LQF LQG LQH LQI LQJ LQK LQL LQM LQN LQO LQP of the engine and what is proved with it; nothing is assumed. -/
import Derived.Test.YtibbhhkcjjeclaaDoorPlainR
import Derived.Test.YtibbhhkcjjeclaaDoorWalk
set_option linter.unusedVariables false
set_option linter.unusedSimpArgs false
/- Contracts, first part: names and types. -/
namespace Go.RL
open Go.Eng
set_option maxRecDepth 100000
/- guards whose test isn't known -/
theorem s_gB (b : Bool) (x : V) (P : V → Prop) : onG (.bool b) true (some x) P = P (bif b then x else .tup []) := by cases b <;> rfl
theorem s_gBf (b : Bool) (x : V) (P : V → Prop) : onG (.bool b) false (some x) P = P (bif b then .tup [] else x) := by cases b <;> rfl
theorem s_pickB (b : Bool) (x y : V) : pickV (.bool b) x y = some (bif b then x else y) := by cases b <;> rfl
theorem s_notB (b : Bool) : notV (.bool b) = some (.bool (!b)) := s_not b
def upper (l c : Nat) : Bool := decide (0 < l) && (decide (65 ≤ c % 256) && decide (c % 256 ≤ 90))
def isClass (l c : Nat) (arr : Bool) : Bool := !arr && upper l c
theorem Of_c {G : Roms} {l c : Nat} {H : Heap} {n : Nat} {k : KV} (hk : ∀ H' n', Kp H n H' n' → k (.agg [.str l c, .bool false]) H' n') : Runs F G n_ast_Of [.str l c] H n k := by
  refine runs_s (s := ar1 (s_ast_Of lfp G)) at_ast_Of (by obtain ⟨h, o⟩ := si_ast_Of lfp_ok G; rw [at_ast_Of] at h; cases h; exact o) ?_
  show s_ast_Of lfp G (Runs F G) (.str l c) H n k
  delta s_ast_Of
  simp only [go_sem, Nat.reduceAdd, show buildV [.str 0 0, .bool false] [(0, 1, .c (.str l c))] = some (.agg [.str l c, .bool false]) from rfl]
  exact hk _ _ (((Kp.refl H n).new (m := n + 1) _ (Nat.le_refl _) (by omega)).new _ (Nat.le_refl _) (Nat.le_refl _))
theorem ne_s (a b l c : Nat) : eqV (.one .str) true (.str a b) (.str l c) = some (.bool (!decide (a = l ∧ b = c))) := by
  show ofB (bbind (some (band (Nat.beq a l) (Nat.beq b c))) fun b => some (bnot b)) = _
  have : band (Nat.beq a l) (Nat.beq b c) = decide (a = l ∧ b = c) := by rw [band_eq, Bool.eq_iff_iff]; simp
  rw [this]; cases decide (a = l ∧ b = c) <;> rfl
theorem idx0 {l c : Nat} (h : 0 < l) : idxSV (.str l c) (.int .i64 (.ofNat 0) 0) = some (.int .u8 (.ofNat (c % 256)) 0) := by
  show guardO (Nat.blt 0 l) (forceN (sget c 0) fun b => some (.int .u8 (.ofNat b) 0)) = _
  have : Nat.blt 0 l = true := by rw [Nat.blt_eq]; exact h
  rw [this, forceN_eq]
  show some (V.int .u8 (.ofNat (c / 1 % 256)) 0) = _
  rw [Nat.div_one]
theorem geq_n (q : IntKind) (a b : Nat) : B2.ev .geq (.int q (.ofNat a) 0) (.int q (.ofNat b) 0) = some (.bool (decide (b ≤ a))) := by
  show guardO (band (keq q q) true) (mkB (ile (.ofNat b) (.ofNat a))) = _
  rw [mkB_eq, ile_eq, show band (keq q q) true = true by simp [keq_eq], show decide (Int.ofNat b ≤ Int.ofNat a) = decide (b ≤ a) by rw [decide_eq_decide]; show (b : Int) ≤ a ↔ _; omega]; rfl
theorem leq_n (q : IntKind) (a b : Nat) : B2.ev .leq (.int q (.ofNat a) 0) (.int q (.ofNat b) 0) = some (.bool (decide (a ≤ b))) := by
  show guardO (band (keq q q) true) (mkB (ile (.ofNat a) (.ofNat b))) = _
  rw [mkB_eq, ile_eq, show band (keq q q) true = true by simp [keq_eq], show decide (Int.ofNat a ≤ Int.ofNat b) = decide (a ≤ b) by rw [decide_eq_decide]; show (a : Int) ≤ b ↔ _; omega]; rfl
theorem Class_c {G : Roms} {l c : Nat} {arr : Bool} (hl : l = 0 → c = 0) {H : Heap} {n : Nat} {k : KV} (hk : ∀ H' n', Kp H n H' n' → k (.bool (isClass l c arr)) H' n') : Runs F G n_ast_Type_Class [.agg [.str l c, .bool arr]] H n k := by
  refine runs_s (s := ar1 (s_ast_Type_Class lfp G)) at_ast_Type_Class (by obtain ⟨h, o⟩ := si_ast_Type_Class lfp_ok G; rw [at_ast_Type_Class] at h; cases h; exact o) ?_
  show s_ast_Type_Class lfp G (Runs F G) (.agg [.str l c, .bool arr]) H n k
  delta s_ast_Type_Class
  simp only [go_sem, Nat.reduceAdd, s_notB]
  cases arr with
  | true =>
    simp only [go_sem, Nat.reduceAdd, Bool.not_true]
    exact hk _ _ ((Kp.refl H n).new _ (Nat.le_refl _) (by omega))
  | false =>
    simp only [go_sem, Nat.reduceAdd, Bool.not_false, ne_s]
    by_cases h0 : l = 0 ∧ c = 0
    · simp only [h0, and_self, decide_true, Bool.not_true, go_sem]
      have : isClass l c false = false := by simp [isClass, upper, h0]
      rw [this] at hk
      exact hk _ _ ((Kp.refl H n).new _ (Nat.le_refl _) (by omega))
    · have hl0 : 0 < l := by rcases Nat.eq_zero_or_pos l with h | h; exact absurd ⟨h, hl h⟩ h0; exact h
      simp only [h0, decide_false, Bool.not_false, go_sem, idx0 hl0, geq_n, leq_n]
      have e : isClass l c false = (decide (65 ≤ c % 256) && decide (c % 256 ≤ 90)) := by simp [isClass, upper, hl0]
      rw [e] at hk
      cases h1 : decide (65 ≤ c % 256) with
      | false =>
        simp only [go_sem]
        rw [h1] at hk
        exact hk _ _ ((Kp.refl H n).new _ (Nat.le_refl _) (by omega))
      | true =>
        simp only [go_sem, idx0 hl0, leq_n]
        rw [h1] at hk
        exact hk _ _ ((Kp.refl H n).new _ (Nat.le_refl _) (by omega))
theorem s_len (l c : Nat) : lenSV (.str l c) = some (.int .i64 (.ofNat l) 0) := rfl
def goodT (l c : Nat) : Bool := decide (l = 3 ∧ c = 7630441) || (decide (l = 4 ∧ c = 1819242338) || (upper l c && decide (l ≤ 40)))
theorem Good_c {G : Roms} {l c : Nat} {arr : Bool} (hl : l = 0 → c = 0) {H : Heap} {n : Nat} {k : KV} (hk : ∀ H' n', Kp H n H' n' → k (.bool (goodT l c)) H' n') : Runs F G n_face_Good [.agg [.str l c, .bool arr]] H n k := by
  refine runs_s (s := ar1 (s_face_Good lfp G)) at_face_Good (by obtain ⟨h, o⟩ := si_face_Good lfp_ok G; rw [at_face_Good] at h; cases h; exact o) ?_
  show s_face_Good lfp G (Runs F G) (.agg [.str l c, .bool arr]) H n k
  delta s_face_Good
  unfold goodT at hk
  have f1 : Kp H n (T.set H n (one [.str l c, .bool arr])) (n + 1) := (Kp.refl H n).new _ (Nat.le_refl _) (by omega)
  simp only [go_sem, eq_s]
  cases h1 : decide (l = 3 ∧ c = 7630441) with
  | true =>
    simp only [go_sem]
    rw [h1] at hk
    exact hk _ _ f1
  | false =>
    rw [h1] at hk
    simp only [go_sem, eq_s]
    cases h2 : decide (l = 4 ∧ c = 1819242338) with
    | true =>
      simp only [go_sem]
      rw [h2] at hk
      exact hk _ _ f1
    | false =>
      rw [h2] at hk
      simp only [go_sem]
      refine Of_c fun H1 n1 f2 => ?_
      refine Class_c hl fun H2 n2 f3 => ?_
      have f4 := f1.trans (f2.trans f3)
      have e : isClass l c false = upper l c := by simp [isClass]
      rw [e]
      cases h3 : upper l c with
      | false =>
        simp only [go_sem]
        rw [h3] at hk
        exact hk _ _ f4
      | true =>
        rw [h3] at hk
        have hg : T.get H2 n = some (one [.str l c, .bool arr]) := by rw [f3.same n (by have := f2.le; omega), f2.same n (by omega), T.get_set]
        simp only [go_sem, ld1_one (off := 0) hg (v := .str l c) rfl, s_len, leq_n]
        exact hk _ _ f4
theorem class_c {G : Roms} {l c : Nat} (hl : l = 0 → c = 0) {H : Heap} {n : Nat} {k : KV} (hk : ∀ H' n', Kp H n H' n' → k (.bool (upper l c && decide (l ≤ 40))) H' n') : Runs F G n_class_class [.str l c] H n k := by
  refine runs_s (s := ar1 (s_class_class lfp G)) at_class_class (by obtain ⟨h, o⟩ := si_class_class lfp_ok G; rw [at_class_class] at h; cases h; exact o) ?_
  show s_class_class lfp G (Runs F G) (.str l c) H n k
  delta s_class_class
  refine Of_c fun H1 n1 f2 => ?_
  refine Class_c hl fun H2 n2 f3 => ?_
  have e : isClass l c false = upper l c := by simp [isClass]
  rw [e]
  cases h3 : upper l c <;> simp only [go_sem, s_len, leq_n] <;> rw [h3] at hk <;> exact hk _ _ (f2.trans f3)
end Go.RL

/- Contracts, second part: slices of strings and of types. -/
namespace Go.RL
open Go.Eng
set_option maxRecDepth 100000
abbrev St := Nat × Nat
def St.v (s : St) : V := .str s.1 s.2
def strs (xs : List St) : LLV := xs.map fun s => [St.v s]
theorem strs_len (xs : List St) : (strs xs).length = xs.length := List.length_map ..
theorem strs_at {xs : List St} {i : Nat} (h : i < xs.length) : (strs xs)[i]? = some [St.v xs[i]] := by simp [strs, h]
def findS (s : St) : List St → Nat → Int
  | [], _ => .negSucc 0
  | x :: xs, i => bif decide (s.1 = x.1 ∧ s.2 = x.2) then .ofNat i else findS s xs (i + 1)
def hasS (s : St) (xs : List St) : Bool := xs.any fun x => decide (s.1 = x.1 ∧ s.2 = x.2)
theorem findS_ge (s : St) : ∀ (xs : List St) (i : Nat), decide ((0 : Int) ≤ findS s xs i) = hasS s xs
  | [], _ => rfl
  | x :: xs, i => by
    unfold findS
    show _ = (decide (s.1 = x.1 ∧ s.2 = x.2) || hasS s xs)
    cases h : decide (s.1 = x.1 ∧ s.2 = x.2) with
    | true => simp
    | false => simpa using findS_ge s xs (i + 1)
theorem lss_n {i m : Nat} : B2.ev .lss (.int .i64 (.ofNat i) 0) (.int .i64 (.ofNat m) 0) = some (.bool (decide (i < m))) := by
  rw [lss_i]; congr 2; rw [decide_eq_decide]; show (i : Int) < m ↔ _; omega
theorem Index_c {G : Roms} {v : V} {xs : List St} {s : St} {H : Heap} {n : Nat} {k : KV} (h : El G H v 1 (strs xs)) (hb : xs.length < 9223372036854775808) (hk : k (.int .i64 (findS s xs 0) 0) H n) :
    Runs F G n_slices_Index_string_string [v, s.v] H n k := by
  refine runs_s (s := ar2 (s_slices_Index_string_string lfp G)) at_slices_Index_string_string (by obtain ⟨h, o⟩ := si_slices_Index_string_string lfp_ok G; rw [at_slices_Index_string_string] at h; cases h; exact o) ?_
  show s_slices_Index_string_string lfp G (Runs F G) v s.v H n k
  delta s_slices_Index_string_string
  rw [h.len, s_onV, strs_len]
  refine lfp_rule (J := fun m st => ∃ i, m = xs.length - i ∧ i ≤ xs.length ∧ st = (v, s.v, .int .i64 (.ofNat xs.length) 0, .int .i64 (.ofNat i) 0, H, n) ∧ k (.int .i64 (findS s (xs.drop i) i) 0) H n) ?_ (m := xs.length) ⟨0, rfl, Nat.zero_le _, rfl, hk⟩
  rintro I m st ⟨i, rfl, hi, rfl, hk⟩ ih
  show s_slices_Index_string_string_l3 lfp G (Runs F G) k I v s.v (.int .i64 (.ofNat xs.length) 0) (.int .i64 (.ofNat i) 0) H n
  delta s_slices_Index_string_string_l3
  by_cases hlt : i < xs.length
  · obtain ⟨p, hp, hld⟩ := h.at (strs_at hlt)
    rw [List.drop_eq_getElem_cons hlt] at hk
    unfold findS at hk
    simp only [go_sem, lss_n, hlt, decide_true, hp, ld1_of hld, St.v, eq_s]
    cases he : decide (s.1 = xs[i].1 ∧ s.2 = xs[i].2) with
    | true => simp only [go_sem]; rw [he] at hk; exact hk
    | false =>
      simp only [go_sem, add_i (show i + 1 < 9223372036854775808 by omega)]
      rw [he] at hk
      exact ih _ _ (by omega) ⟨i + 1, rfl, hlt, rfl, hk⟩
  · simp only [go_sem, lss_n, hlt, decide_false]
    delta s_slices_Index_string_string_j1
    rw [List.drop_eq_nil_of_le (by omega)] at hk
    exact hk
theorem geq_z (a : Int) : B2.ev .geq (.int .i64 a 0) (.int .i64 (.ofNat 0) 0) = some (.bool (decide (0 ≤ a))) := by
  show guardO (band (keq .i64 .i64) true) (mkB (ile (.ofNat 0) a)) = _
  rw [mkB_eq, ile_eq]; rfl
theorem Contains_c {G : Roms} {v : V} {xs : List St} {s : St} {H : Heap} {n : Nat} {k : KV} (h : El G H v 1 (strs xs)) (hb : xs.length < 9223372036854775808) (hk : k (.bool (hasS s xs)) H n) :
    Runs F G n_slices_Contains_string_string [v, s.v] H n k := by
  refine runs_s (s := ar2 (s_slices_Contains_string_string lfp G)) at_slices_Contains_string_string (by obtain ⟨h, o⟩ := si_slices_Contains_string_string lfp_ok G; rw [at_slices_Contains_string_string] at h; cases h; exact o) ?_
  show s_slices_Contains_string_string lfp G (Runs F G) v s.v H n k
  delta s_slices_Contains_string_string
  refine Index_c h hb ?_
  simp only [go_sem, geq_z, findS_ge]
  exact hk
structure Ty where
  nm : St
  arr : Bool
def Ty.cells (t : Ty) : LV := [t.nm.v, .bool t.arr]
def Ty.v (t : Ty) : V := .agg t.cells
def Ty.is (a b : Ty) : Bool := decide (a.nm.1 = b.nm.1 ∧ a.nm.2 = b.nm.2) && (a.arr == b.arr)
def tys (xs : List Ty) : LLV := xs.map Ty.cells
theorem tys_len (xs : List Ty) : (tys xs).length = xs.length := List.length_map ..
theorem tys_at {xs : List Ty} {i : Nat} (h : i < xs.length) : (tys xs)[i]? = some xs[i].cells := by simp [tys, h]
theorem keq_s (a b : St) : CK.eq .str a.v b.v = some (decide (a.1 = b.1 ∧ a.2 = b.2)) := by
  show some (band (Nat.beq a.1 b.1) (Nat.beq a.2 b.2)) = _
  rw [show band (Nat.beq a.1 b.1) (Nat.beq a.2 b.2) = decide (a.1 = b.1 ∧ a.2 = b.2) by rw [band_eq, Bool.eq_iff_iff]; simp]
theorem keq_b (a b : Bool) : CK.eq .bool (.bool a) (.bool b) = some (a == b) := by cases a <;> cases b <;> rfl
theorem eq_tyK (a b : Ty) : (EK.agg [.str, .bool]).eq a.v b.v = some (a.is b) :=
  show veqL [.str, .bool] a.cells b.cells = _ from veqL_cons.2 ⟨_, _, keq_s _ _, veqL_cons.2 ⟨_, true, keq_b _ _, rfl, rfl⟩, by simp [Ty.is]⟩
theorem eq_ty (a b : Ty) : eqV (.agg [.str, .bool]) false a.v b.v = some (.bool (a.is b)) := by
  show ofB (bbind ((EK.agg [.str, .bool]).eq a.v b.v) fun b => some b) = _
  rw [eq_tyK]; cases a.is b <;> rfl
theorem ne_ty (a b : Ty) : eqV (.agg [.str, .bool]) true a.v b.v = some (.bool (!a.is b)) := by
  show ofB (bbind ((EK.agg [.str, .bool]).eq a.v b.v) fun b => some (bnot b)) = _
  rw [eq_tyK]; cases a.is b <;> rfl
def sameT : List Ty → List Ty → Bool
  | [], [] => true
  | a :: l, b :: r => a.is b && sameT l r
  | _, _ => false
theorem sameT_len : ∀ {l r : List Ty}, sameT l r = true → l.length = r.length
  | [], [], _ => rfl
  | a :: l, b :: r, h => by simp [sameT] at h; simp [sameT_len h.2]
  | [], _ :: _, h => by cases h
  | _ :: _, [], h => by cases h
theorem ne_n {i m : Nat} : eqV (.one .int) true (.int .i64 (.ofNat i) 0) (.int .i64 (.ofNat m) 0) = some (.bool (!decide (i = m))) := by
  rw [neq_i, show (Int.ofNat i == Int.ofNat m) = decide (i = m) by rw [Bool.eq_iff_iff]; simp; omega]
theorem EqualT_c {G : Roms} {v w : V} {xs ys : List Ty} {H : Heap} {n : Nat} {k : KV} (h : El G H v 2 (tys xs)) (h2 : El G H w 2 (tys ys)) (hb : xs.length < 9223372036854775808) (hk : k (.bool (sameT xs ys)) H n) :
    Runs F G n_slices_Equal_ast_Type_ast_Type [v, w] H n k := by
  refine runs_s (s := ar2 (s_slices_Equal_ast_Type_ast_Type lfp G)) at_slices_Equal_ast_Type_ast_Type (by obtain ⟨h, o⟩ := si_slices_Equal_ast_Type_ast_Type lfp_ok G; rw [at_slices_Equal_ast_Type_ast_Type] at h; cases h; exact o) ?_
  show s_slices_Equal_ast_Type_ast_Type lfp G (Runs F G) v w H n k
  delta s_slices_Equal_ast_Type_ast_Type
  simp only [go_sem, h.len, h2.len, tys_len, ne_n]
  by_cases hl : xs.length = ys.length
  · simp only [hl, decide_true, Bool.not_true, go_sem]
    refine lfp_rule (J := fun m st => ∃ i, m = ys.length - i ∧ i ≤ ys.length ∧ st = (v, w, .int .i64 (.ofNat ys.length) 0, .int .i64 (.ofNat i) 0, H, n) ∧ k (.bool (sameT (xs.drop i) (ys.drop i))) H n) ?_ (m := ys.length) ⟨0, rfl, Nat.zero_le _, rfl, hk⟩
    rintro I m st ⟨i, rfl, hi, rfl, hk⟩ ih
    show s_slices_Equal_ast_Type_ast_Type_l6 lfp G (Runs F G) k I v w (.int .i64 (.ofNat ys.length) 0) (.int .i64 (.ofNat i) 0) H n
    delta s_slices_Equal_ast_Type_ast_Type_l6
    by_cases hlt : i < ys.length
    · have hlt' : i < xs.length := by omega
      obtain ⟨p, hp, hld⟩ := h.at (tys_at hlt')
      obtain ⟨p2, hp2, hld2⟩ := h2.at (tys_at hlt)
      rw [List.drop_eq_getElem_cons hlt, List.drop_eq_getElem_cons hlt'] at hk
      unfold sameT at hk
      have e := ne_ty xs[i] ys[i]
      unfold Ty.v at e
      simp only [go_sem, lss_n, hlt, decide_true, hp, hp2, ldn_of hld, ldn_of hld2, e]
      cases he : xs[i].is ys[i] with
      | false => rw [he] at hk; simp only [Bool.not_false, go_sem]; exact hk
      | true =>
        simp only [Bool.not_true, go_sem, add_i (show i + 1 < 9223372036854775808 by omega)]
        rw [he] at hk
        exact ih _ _ (by omega) ⟨i + 1, rfl, hlt, rfl, hk⟩
    · simp only [go_sem, lss_n, hlt, decide_false]
      delta s_slices_Equal_ast_Type_ast_Type_j4
      rw [List.drop_eq_nil_of_le (by omega), List.drop_eq_nil_of_le (by omega)] at hk
      exact hk
  · have : sameT xs ys = false := by cases h : sameT xs ys; rfl; exact absurd (sameT_len h) hl
    rw [this] at hk
    simp only [hl, decide_false, Bool.not_false, go_sem]
    exact hk
end Go.RL

/- Contracts, third part: faces. -/
namespace Go.RL
open Go.Eng
set_option maxRecDepth 100000
/- a slice in memory below n -/
def Lo (v : V) (n : Nat) : Prop := ∀ id, v.sid = some id → id < n
theorem _root_.Go.Eng.El.kp {G : Roms} {H H' : Heap} {v : V} {z n n' : Nat} {LS : LLV} (h : El G H v z LS) (hl : Lo v n) (f : Kp H n H' n') : El G H' v z LS := h.same fun id hid => f.same id (hl id hid)
theorem Lo.mono {v : V} {n n' : Nat} (h : Lo v n) (hn : n ≤ n') : Lo v n' := fun id hid => Nat.lt_of_lt_of_le (h id hid) hn
def findF (g : Ty → Bool) : List Ty → Nat → Int
  | [], _ => .negSucc 0
  | x :: xs, i => bif g x then .ofNat i else findF g xs (i + 1)
theorem findF_ge (g : Ty → Bool) : ∀ (xs : List Ty) (i : Nat), decide ((0 : Int) ≤ findF g xs i) = xs.any g
  | [], _ => rfl
  | x :: xs, i => by
    unfold findF
    show _ = (g x || xs.any g)
    cases h : g x with
    | true => simp
    | false => simpa using findF_ge g xs (i + 1)
theorem IndexFunc_c {G : Roms} {v : V} {xs : List Ty} {p : Nat} {g : Ty → Bool} {H : Heap} {n : Nat} {k : KV} (h : El G H v 2 (tys xs)) (hlo : Lo v n) (hb : xs.length < 9223372036854775808)
    (hg : ∀ t ∈ xs, ∀ {H n} {k : KV}, (∀ H' n', Kp H n H' n' → k (.bool (g t)) H' n') → Runs F G p [t.v] H n k)
    (hk : ∀ H' n', Kp H n H' n' → k (.int .i64 (findF g xs 0) 0) H' n') :
    Runs F G n_slices_IndexFunc_ast_Type_ast_Type [v, .fn p [] []] H n k := by
  refine runs_s (s := ar2 (s_slices_IndexFunc_ast_Type_ast_Type lfp G)) at_slices_IndexFunc_ast_Type_ast_Type (by obtain ⟨h, o⟩ := si_slices_IndexFunc_ast_Type_ast_Type lfp_ok G; rw [at_slices_IndexFunc_ast_Type_ast_Type] at h; cases h; exact o) ?_
  show s_slices_IndexFunc_ast_Type_ast_Type lfp G (Runs F G) v (.fn p [] []) H n k
  delta s_slices_IndexFunc_ast_Type_ast_Type
  rw [h.len, s_onV, tys_len]
  refine lfp_rule (J := fun m st => ∃ i H2 n2, m = xs.length - i ∧ i ≤ xs.length ∧ st = (v, .fn p [] [], .int .i64 (.ofNat xs.length) 0, .int .i64 (.ofNat i) 0, H2, n2) ∧ Kp H n H2 n2 ∧ (∀ H' n', Kp H n H' n' → k (.int .i64 (findF g (xs.drop i) i) 0) H' n')) ?_ (m := xs.length) ⟨0, H, n, rfl, Nat.zero_le _, rfl, Kp.refl _ _, hk⟩
  rintro I m st ⟨i, H2, n2, rfl, hi, rfl, f, hk⟩ ih
  show s_slices_IndexFunc_ast_Type_ast_Type_l3 lfp G (Runs F G) k I v (.fn p [] []) (.int .i64 (.ofNat xs.length) 0) (.int .i64 (.ofNat i) 0) H2 n2
  delta s_slices_IndexFunc_ast_Type_ast_Type_l3
  by_cases hlt : i < xs.length
  · obtain ⟨q, hp, hld⟩ := (h.kp hlo f).at (tys_at hlt)
    rw [List.drop_eq_getElem_cons hlt] at hk
    unfold findF at hk
    simp only [go_sem, lss_n, hlt, decide_true, hp, ldn_of hld]
    show Runs F G p [xs[i].v] H2 n2 _
    refine hg _ (List.getElem_mem hlt) fun H3 n3 f3 => ?_
    cases he : g xs[i] with
    | true => simp only [go_sem]; rw [he] at hk; exact hk _ _ (f.trans f3)
    | false =>
      simp only [go_sem, add_i (show i + 1 < 9223372036854775808 by omega)]
      rw [he] at hk
      exact ih _ _ (by omega) ⟨i + 1, _, _, rfl, hlt, rfl, f.trans f3, hk⟩
  · simp only [go_sem, lss_n, hlt, decide_false]
    delta s_slices_IndexFunc_ast_Type_ast_Type_j1
    rw [List.drop_eq_nil_of_le (by omega)] at hk
    exact hk _ _ f
theorem ContainsFunc_c {G : Roms} {v : V} {xs : List Ty} {p : Nat} {g : Ty → Bool} {H : Heap} {n : Nat} {k : KV} (h : El G H v 2 (tys xs)) (hlo : Lo v n) (hb : xs.length < 9223372036854775808)
    (hg : ∀ t ∈ xs, ∀ {H n} {k : KV}, (∀ H' n', Kp H n H' n' → k (.bool (g t)) H' n') → Runs F G p [t.v] H n k)
    (hk : ∀ H' n', Kp H n H' n' → k (.bool (xs.any g)) H' n') :
    Runs F G n_slices_ContainsFunc_ast_Type_ast_Type [v, .fn p [] []] H n k := by
  refine runs_s (s := ar2 (s_slices_ContainsFunc_ast_Type_ast_Type lfp G)) at_slices_ContainsFunc_ast_Type_ast_Type (by obtain ⟨h, o⟩ := si_slices_ContainsFunc_ast_Type_ast_Type lfp_ok G; rw [at_slices_ContainsFunc_ast_Type_ast_Type] at h; cases h; exact o) ?_
  show s_slices_ContainsFunc_ast_Type_ast_Type lfp G (Runs F G) v (.fn p [] []) H n k
  delta s_slices_ContainsFunc_ast_Type_ast_Type
  refine IndexFunc_c h hlo hb hg fun H' n' f => ?_
  simp only [go_sem, geq_z, findF_ge]
  exact hk _ _ f
/- a string as Go has it: no letters, no number -/
def St.ok (s : St) : Prop := s.1 = 0 → s.2 = 0
def goodS (s : St) : Bool := goodT s.1 s.2
theorem FaceRight1_c {G : Roms} {t : Ty} (ht : t.nm.ok) {H : Heap} {n : Nat} {k : KV} (hk : ∀ H' n', Kp H n H' n' → k (.bool (!goodS t.nm)) H' n') : Runs F G n_face_Face_Right_1 [t.v] H n k := by
  refine runs_s (s := ar1 (s_face_Face_Right_1 lfp G)) at_face_Face_Right_1 (by obtain ⟨h, o⟩ := si_face_Face_Right_1 lfp_ok G; rw [at_face_Face_Right_1] at h; cases h; exact o) ?_
  show s_face_Face_Right_1 lfp G (Runs F G) t.v H n k
  delta s_face_Face_Right_1
  simp only [Ty.v, Ty.cells, St.v, go_sem]
  refine Good_c ht fun H1 n1 f => ?_
  simp only [s_notB, go_sem]
  exact hk _ _ (((Kp.refl H n).new (m := n + 1) _ (Nat.le_refl _) (by omega)).trans f)
theorem FaceBad_c {G : Roms} {v : V} {xs : List Ty} {H : Heap} {n : Nat} {k : KV} (h : El G H v 2 (tys xs)) (hlo : Lo v n) (hb : xs.length < 9223372036854775808) (ho : ∀ t ∈ xs, t.nm.ok)
    (hk : ∀ H' n', Kp H n H' n' → k (.bool (xs.any fun t => !goodS t.nm)) H' n') : Runs F G n_slices_ContainsFunc_ast_Type_ast_Type [v, .fn n_face_Face_Right_1 [] []] H n k :=
  ContainsFunc_c (p := n_face_Face_Right_1) h hlo hb (fun t ht {_ _ _} hk => FaceRight1_c (ho t ht) hk) hk
end Go.RL

/- Contracts, fourth part: what faces are made of, and whether they are right. -/
namespace Go.RL
open Go.Eng
set_option maxRecDepth 100000
abbrev big : Nat := 9223372036854775808
structure Fld where
  nm : St
  ty : Ty
def Fld.cells (f : Fld) : LV := [f.nm.v, f.ty.nm.v, .bool f.ty.arr]
structure Meth where
  nm : St
  st : Bool
  ps : List Ty
  ret : Ty
def Meth.cells (m : Meth) (v : V) : LV := [m.nm.v, .bool m.st, v, m.ret.nm.v, .bool m.ret.arr]
structure TysAt (G : Roms) (H : Heap) (n : Nat) (v : V) (xs : List Ty) : Prop where
  el : El G H v 2 (tys xs)
  lo : Lo v n
  lt : xs.length < big
  ok : ∀ t ∈ xs, t.nm.ok
structure FldsAt (G : Roms) (H : Heap) (n : Nat) (v : V) (fs : List Fld) : Prop where
  el : El G H v 3 (fs.map Fld.cells)
  lo : Lo v n
  lt : fs.length < big
  ok : ∀ f ∈ fs, f.nm.ok ∧ f.ty.nm.ok
structure MethsAt (G : Roms) (H : Heap) (n : Nat) (v : V) (ms : List Meth) (ws : List V) : Prop where
  el : El G H v 5 (List.zipWith Meth.cells ms ws)
  lo : Lo v n
  lt : ms.length < big
  len : ws.length = ms.length
  at' : ∀ (i : Nat) (m : Meth) (w : V), ms[i]? = some m → ws[i]? = some w → TysAt G H n w m.ps
  ok : ∀ m ∈ ms, m.nm.ok ∧ m.ret.nm.ok
section
variable {G : Roms} {H H' : Heap} {n n' : Nat} {v : V}
theorem TysAt.kp {xs : List Ty} (h : TysAt G H n v xs) (f : Kp H n H' n') : TysAt G H' n' v xs := ⟨h.el.kp h.lo f, h.lo.mono f.le, h.lt, h.ok⟩
theorem FldsAt.kp {xs : List Fld} (h : FldsAt G H n v xs) (f : Kp H n H' n') : FldsAt G H' n' v xs := ⟨h.el.kp h.lo f, h.lo.mono f.le, h.lt, h.ok⟩
theorem MethsAt.kp {xs : List Meth} {ws : List V} (h : MethsAt G H n v xs ws) (f : Kp H n H' n') : MethsAt G H' n' v xs ws :=
  ⟨h.el.kp h.lo f, h.lo.mono f.le, h.lt, h.len, fun i m w a b => (h.at' i m w a b).kp f, h.ok⟩
theorem FldsAt.len {xs : List Fld} (h : FldsAt G H n v xs) : lenV v = some (.int .i64 (.ofNat xs.length) 0) := by rw [h.el.len, List.length_map]
theorem TysAt.len {xs : List Ty} (h : TysAt G H n v xs) : lenV v = some (.int .i64 (.ofNat xs.length) 0) := by rw [h.el.len, tys_len]
theorem MethsAt.len' {xs : List Meth} {ws : List V} (h : MethsAt G H n v xs ws) : lenV v = some (.int .i64 (.ofNat xs.length) 0) := by
  rw [h.el.len, List.length_zipWith, h.len, Nat.min_self]
theorem FldsAt.at {xs : List Fld} (h : FldsAt G H n v xs) {i : Nat} (hi : i < xs.length) : ∃ p, iaddrV 3 v (.int .i64 (.ofNat i) 0) = some p ∧ ldP p G H 3 = some xs[i].cells :=
  h.el.at (by simp [hi])
theorem MethsAt.at {xs : List Meth} {ws : List V} (h : MethsAt G H n v xs ws) {i : Nat} (hi : i < xs.length) :
    ∃ p w, iaddrV 5 v (.int .i64 (.ofNat i) 0) = some p ∧ ldP p G H 5 = some (xs[i].cells w) ∧ TysAt G H n w xs[i].ps := by
  have hw : i < ws.length := by rw [h.len]; exact hi
  obtain ⟨p, h1, h2⟩ := h.el.at (i := i) (c := xs[i].cells ws[i]) (by rw [List.getElem?_zipWith]; simp [hi, hw])
  exact ⟨p, ws[i], h1, h2, h.at' i _ _ (List.getElem?_eq_getElem hi) (List.getElem?_eq_getElem hw)⟩
end
/- strings in order -/
noncomputable def leS (a b : St) : Bool := bnot (slt b.1 b.2 a.1 a.2)
theorem leq_s (a b : St) : B2.ev .leq a.v b.v = some (.bool (leS a b)) := by
  show mkB (bnot (slt b.1 b.2 a.1 a.2)) = _
  rw [mkB_eq]; rfl
theorem gtr_n (q : IntKind) (a b : Nat) : B2.ev .gtr (.int q (.ofNat a) 0) (.int q (.ofNat b) 0) = some (.bool (decide (b < a))) := by
  show guardO (band (keq q q) true) (mkB (ilt (.ofNat b) (.ofNat a))) = _
  rw [mkB_eq, ilt_eq, show band (keq q q) true = true by simp [keq_eq], show decide (Int.ofNat b < Int.ofNat a) = decide (b < a) by rw [decide_eq_decide]; show (b : Int) < a ↔ _; omega]; rfl
theorem lenS (s : St) : lenSV s.v = some (.int .i64 (.ofNat s.1) 0) := rfl
end Go.RL

/- Contracts, fifth part: whether a face is right. -/
namespace Go.RL
open Go.Eng
set_option maxRecDepth 100000
noncomputable def fldsOk : St → List Fld → Bool
  | _, [] => true
  | a, f :: fs => !(leS f.nm a) && (!(decide (40 < f.nm.1)) && (goodS f.ty.nm && fldsOk f.nm fs))
noncomputable def methsOk : St → List Meth → Bool
  | _, [] => true
  | a, m :: ms => !(leS m.nm a) && (!(decide (40 < m.nm.1)) && (goodS m.ret.nm && (!(decide (200 < m.ps.length)) && (!(m.ps.any fun t => !goodS t.nm) && methsOk m.nm ms))))
theorem FaceMeths_c {G : Roms} {v : V} {ms : List Meth} {ws : List V} {H : Heap} {n : Nat} {k : KV} (h : MethsAt G H n v ms ws) {a : St}
    (hk : ∀ H' n', Kp H n H' n' → k (.bool (methsOk a ms)) H' n') :
    lfp (V × V × V × V × Heap × Nat) (s_face_Face_Right_l43b lfp G (Runs F G) k) (a.v, v, .int .i64 (.ofNat ms.length) 0, .int .i64 (.ofNat 0) 0, H, n) := by
  refine lfp_rule (J := fun m st => ∃ i a H2 n2, m = ms.length - i ∧ i ≤ ms.length ∧ st = (St.v a, v, .int .i64 (.ofNat ms.length) 0, .int .i64 (.ofNat i) 0, H2, n2) ∧ Kp H n H2 n2 ∧ (∀ H' n', Kp H n H' n' → k (.bool (methsOk a (ms.drop i))) H' n')) ?_ (m := ms.length) ⟨0, a, H, n, rfl, Nat.zero_le _, rfl, Kp.refl _ _, hk⟩
  rintro I m st ⟨i, a, H2, n2, rfl, hi, rfl, f, hk⟩ ih
  show s_face_Face_Right_l43 lfp G (Runs F G) k I a.v v (.int .i64 (.ofNat ms.length) 0) (.int .i64 (.ofNat i) 0) H2 n2
  delta s_face_Face_Right_l43
  by_cases hlt : i < ms.length
  · obtain ⟨q, w, hp, hld, hw⟩ := (h.kp f).at hlt
    have hok := h.ok _ (List.getElem_mem hlt)
    rw [List.drop_eq_getElem_cons hlt] at hk
    unfold methsOk at hk
    generalize ms[i] = m at hok hld hw hk
    have hbig := h.lt
    unfold Meth.cells at hld
    simp only [go_sem, Nat.reduceAdd, lss_n, hlt, decide_true, hp, ldn_of hld]
    have f2 : Kp H n (T.set (T.set H2 n2 (one [.str 0 0, .bool false, .nils, .str 0 0, .bool false])) n2 (one [m.nm.v, .bool m.st, w, m.ret.nm.v, .bool m.ret.arr])) (n2 + 1) :=
      (f.new (m := n2 + 1) _ f.le (by omega)).new _ f.le (Nat.le_refl _)
    have hw := hw.kp (n' := n2 + 1) (H' := (T.set (T.set H2 n2 (one [.str 0 0, .bool false, .nils, .str 0 0, .bool false])) n2 (one [m.nm.v, .bool m.st, w, m.ret.nm.v, .bool m.ret.arr]))) (((Kp.refl H2 n2).new (m := n2 + 1) _ (Nat.le_refl _) (by omega)).new _ (Nat.le_refl _) (Nat.le_refl _))
    have hg := T.get_set (T.set H2 n2 (one [.str 0 0, .bool false, .nils, .str 0 0, .bool false])) n2 (one [m.nm.v, .bool m.st, w, m.ret.nm.v, .bool m.ret.arr])
    generalize T.set (T.set H2 n2 (one [.str 0 0, .bool false, .nils, .str 0 0, .bool false])) n2 (one [m.nm.v, .bool m.st, w, m.ret.nm.v, .bool m.ret.arr]) = H3 at f2 hw hg ⊢
    simp only [go_sem, Nat.reduceAdd, ld1_one (off := 0) hg (v := m.nm.v) rfl, leq_s, lenS, gtr_n]
    cases h1 : leS m.nm a with
    | true =>
      simp only [go_sem, ld1_one (off := 0) hg (v := m.nm.v) rfl, lenS, gtr_n]
      rw [h1] at hk
      exact hk _ _ f2
    | false =>
      simp only [go_sem, ld1_one (off := 0) hg (v := m.nm.v) rfl, lenS, gtr_n]
      rw [h1] at hk
      cases h2 : decide (40 < m.nm.1) with
      | true =>
        simp only [go_sem]
        rw [h2] at hk
        exact hk _ _ f2
      | false =>
        rw [h2] at hk
        have hl : ldnV 2 (.ptr n2 3) G H3 = some (.agg [m.ret.nm.v, .bool m.ret.arr]) := ldn_one hg (by omega) (by show 5 ≤ 5; omega)
        simp only [go_sem, Nat.reduceAdd, hl]
        refine Good_c hok.2 fun H4 n4 f4 => ?_
        simp only [s_notB, go_sem]
        have f5 := f2.trans f4
        have hw := hw.kp f4
        have hg : T.get H4 n2 = _ := (f4.same n2 (by omega)).trans hg
        show _
        cases h3 : goodT m.ret.nm.1 m.ret.nm.2 with
        | false =>
          simp only [Bool.not_false, go_sem]
          rw [show goodS m.ret.nm = false from h3] at hk
          exact hk _ _ f5
        | true =>
          rw [show goodS m.ret.nm = true from h3] at hk
          simp only [Bool.not_true, go_sem, ld1_one (off := 2) hg (v := w) rfl, hw.len, gtr_n]
          cases h4 : decide (200 < m.ps.length) with
          | true =>
            simp only [go_sem]
            rw [h4] at hk
            exact hk _ _ f5
          | false =>
            rw [h4] at hk
            simp only [go_sem, ld1_one (off := 2) hg (v := w) rfl]
            refine FaceBad_c hw.el hw.lo hw.lt hw.ok fun H6 n6 f6 => ?_
            have hg : T.get H6 n2 = _ := (f6.same n2 (by have := f4.le; omega)).trans hg
            have f7 := f5.trans f6
            cases h5 : m.ps.any fun t => !goodS t.nm with
            | true =>
              simp only [go_sem]
              rw [h5] at hk
              exact hk _ _ f7
            | false =>
              rw [h5] at hk
              simp only [go_sem, ld1_one (off := 0) hg (v := m.nm.v) rfl, add_i (show i + 1 < 9223372036854775808 by unfold big at hbig; omega)]
              exact ih _ _ (by omega) ⟨i + 1, m.nm, _, _, rfl, hlt, rfl, f7, hk⟩
  · simp only [go_sem, lss_n, hlt, decide_false]
    delta s_face_Face_Right_j39
    rw [List.drop_eq_nil_of_le (by omega)] at hk
    exact hk _ _ f
theorem FaceFlds_c {G : Roms} {v w nm sp : V} {fs : List Fld} {ms : List Meth} {ws : List V} {H : Heap} {n b : Nat} {k : KV} (h : FldsAt G H n v fs) (h2 : MethsAt G H n w ms ws) {a : St}
    (hb : b < n) (hbx : T.get H b = some (one [nm, sp, v, w]))
    (hk : ∀ H' n', Kp H n H' n' → k (.bool (fldsOk a fs && methsOk (0, 0) ms)) H' n') :
    lfp (V × V × V × V × V × Heap × Nat) (s_face_Face_Right_l77b lfp G (Runs F G) k) (.ptr b 0, a.v, v, .int .i64 (.ofNat fs.length) 0, .int .i64 (.ofNat 0) 0, H, n) := by
  refine lfp_rule (J := fun m st => ∃ i a H2 n2, m = fs.length - i ∧ i ≤ fs.length ∧ st = (.ptr b 0, St.v a, v, .int .i64 (.ofNat fs.length) 0, .int .i64 (.ofNat i) 0, H2, n2) ∧ Kp H n H2 n2 ∧ (∀ H' n', Kp H n H' n' → k (.bool (fldsOk a (fs.drop i) && methsOk (0, 0) ms)) H' n')) ?_ (m := fs.length) ⟨0, a, H, n, rfl, Nat.zero_le _, rfl, Kp.refl _ _, hk⟩
  rintro I m st ⟨i, a, H2, n2, rfl, hi, rfl, f, hk⟩ ih
  show s_face_Face_Right_l77 lfp G (Runs F G) k I (.ptr b 0) a.v v (.int .i64 (.ofNat fs.length) 0) (.int .i64 (.ofNat i) 0) H2 n2
  delta s_face_Face_Right_l77
  by_cases hlt : i < fs.length
  · obtain ⟨q, hp, hld⟩ := (h.kp f).at hlt
    have hok := h.ok _ (List.getElem_mem hlt)
    rw [List.drop_eq_getElem_cons hlt] at hk
    unfold fldsOk at hk
    generalize fs[i] = m at hok hld hk
    have hbig := h.lt
    unfold Fld.cells at hld
    simp only [go_sem, Nat.reduceAdd, lss_n, hlt, decide_true, hp, ldn_of hld]
    have f2 : Kp H n (T.set (T.set H2 n2 (one [.str 0 0, .str 0 0, .bool false])) n2 (one [m.nm.v, m.ty.nm.v, .bool m.ty.arr])) (n2 + 1) :=
      (f.new (m := n2 + 1) _ f.le (by omega)).new _ f.le (Nat.le_refl _)
    have hg := T.get_set (T.set H2 n2 (one [.str 0 0, .str 0 0, .bool false])) n2 (one [m.nm.v, m.ty.nm.v, .bool m.ty.arr])
    generalize T.set (T.set H2 n2 (one [.str 0 0, .str 0 0, .bool false])) n2 (one [m.nm.v, m.ty.nm.v, .bool m.ty.arr]) = H3 at f2 hg ⊢
    simp only [go_sem, Nat.reduceAdd, ld1_one (off := 0) hg (v := m.nm.v) rfl, leq_s, lenS, gtr_n]
    cases h1 : leS m.nm a with
    | true =>
      simp only [go_sem, ld1_one (off := 0) hg (v := m.nm.v) rfl, lenS, gtr_n]
      rw [h1] at hk
      exact hk _ _ f2
    | false =>
      simp only [go_sem, ld1_one (off := 0) hg (v := m.nm.v) rfl, lenS, gtr_n]
      rw [h1] at hk
      cases h2 : decide (40 < m.nm.1) with
      | true =>
        simp only [go_sem]
        rw [h2] at hk
        exact hk _ _ f2
      | false =>
        rw [h2] at hk
        have hl : ldnV 2 (.ptr n2 1) G H3 = some (.agg [m.ty.nm.v, .bool m.ty.arr]) := ldn_one hg (by omega) (by show 3 ≤ 3; omega)
        simp only [go_sem, Nat.reduceAdd, hl]
        refine Good_c hok.2 fun H4 n4 f4 => ?_
        simp only [s_notB, go_sem]
        have f5 := f2.trans f4
        have hg : T.get H4 n2 = _ := (f4.same n2 (by omega)).trans hg
        show _
        cases h3 : goodT m.ty.nm.1 m.ty.nm.2 with
        | false =>
          simp only [Bool.not_false, go_sem]
          rw [show goodS m.ty.nm = false from h3] at hk
          exact hk _ _ f5
        | true =>
          rw [show goodS m.ty.nm = true from h3] at hk
          simp only [Bool.not_true, go_sem, ld1_one (off := 0) hg (v := m.nm.v) rfl, add_i (show i + 1 < 9223372036854775808 by unfold big at hbig; omega)]
          exact ih _ _ (by omega) ⟨i + 1, m.nm, _, _, rfl, hlt, rfl, f5, hk⟩
  · simp only [go_sem, lss_n, hlt, decide_false]
    delta s_face_Face_Right_j38
    rw [List.drop_eq_nil_of_le (by omega)] at hk
    have hg : T.get H2 b = _ := (f.same b hb).trans hbx
    have h2 := h2.kp f
    simp only [go_sem, Nat.reduceAdd, ld1_one (off := 3) hg (v := w) rfl, h2.len']
    exact FaceMeths_c (a := (0, 0)) h2 fun H' n' f' => hk _ _ (f.trans f')
structure Fc where
  nm : St
  sup : St
  fs : List Fld
  ms : List Meth
/- a face: four cells -/
structure FaceAt (G : Roms) (H : Heap) (n : Nat) (L : LV) (c : Fc) (v w : V) (ws : List V) : Prop where
  is : L = [c.nm.v, c.sup.v, v, w]
  fs : FldsAt G H n v c.fs
  ms : MethsAt G H n w c.ms ws
  ok : c.nm.ok ∧ c.sup.ok
theorem FaceAt.kp {G : Roms} {H H' : Heap} {n n' : Nat} {L : LV} {c : Fc} {v w : V} {ws : List V} (h : FaceAt G H n L c v w ws) (f : Kp H n H' n') : FaceAt G H' n' L c v w ws := ⟨h.is, h.fs.kp f, h.ms.kp f, h.ok⟩
def classS (s : St) : Bool := upper s.1 s.2
noncomputable def faceOk (c : Fc) : Bool :=
  classS c.nm && ((decide (c.sup.1 = 0 ∧ c.sup.2 = 0) || classS c.sup) && (!(decide (200 < c.fs.length)) && (!(decide (200 < c.ms.length)) && (!(decide (40 < c.nm.1)) && (!(decide (40 < c.sup.1)) && (fldsOk (0, 0) c.fs && methsOk (0, 0) c.ms))))))
end Go.RL

/- Contracts, sixth part: whether a face is right, as a whole. -/
namespace Go.RL
open Go.Eng
set_option maxRecDepth 100000
theorem neS (a b : St) : eqV (.one .str) true a.v b.v = some (.bool (!decide (a.1 = b.1 ∧ a.2 = b.2))) := ne_s ..
theorem isClassF (s : St) : isClass s.1 s.2 false = classS s := by simp [isClass, classS]
theorem FaceRight_c {G : Roms} {L : LV} {c : Fc} {v w : V} {ws : List V} {H : Heap} {n : Nat} {k : KV} (h : FaceAt G H n L c v w ws)
    (hk : ∀ H' n', Kp H n H' n' → k (.bool (faceOk c)) H' n') : Runs F G n_face_Face_Right [.agg L] H n k := by
  refine runs_s (s := ar1 (s_face_Face_Right lfp G)) at_face_Face_Right (by obtain ⟨h, o⟩ := si_face_Face_Right lfp_ok G; rw [at_face_Face_Right] at h; cases h; exact o) ?_
  show s_face_Face_Right lfp G (Runs F G) (.agg L) H n k
  obtain ⟨rfl, hf, hm, hn, hs⟩ := h
  delta s_face_Face_Right
  unfold faceOk at hk
  simp only [go_sem]
  have f1 : Kp H n (T.set H n (one [c.nm.v, c.sup.v, v, w])) (n + 1) := (Kp.refl H n).new _ (Nat.le_refl _) (by omega)
  have hg := T.get_set H n (one [c.nm.v, c.sup.v, v, w])
  generalize T.set H n (one [c.nm.v, c.sup.v, v, w]) = H1 at f1 hg ⊢
  refine Of_c fun H2 n2 f2 => ?_
  refine Class_c hn fun H3 n3 f3 => ?_
  rw [isClassF, s_notB]
  have f := f1.trans (f2.trans f3)
  have hg : T.get H3 n = _ := (f3.same n (by have := f2.le; omega)).trans ((f2.same n (by omega)).trans hg)
  have hlt : n < n3 := by have := f2.le; have := f3.le; omega
  clear f1 f2 f3
  /- what is behind the two tests of names -/
  have tail : ∀ H3 n3, Kp H n H3 n3 → n < n3 → T.get H3 n = some (one [c.nm.v, c.sup.v, v, w]) →
      (∀ H' n', Kp H n H' n' → k (.bool (!(decide (200 < c.fs.length)) && (!(decide (200 < c.ms.length)) && (!(decide (40 < c.nm.1)) && (!(decide (40 < c.sup.1)) && (fldsOk (0, 0) c.fs && methsOk (0, 0) c.ms)))))) H' n') →
      (onV (paddV 2 (.ptr n 0)) fun v18=>
      onV (ld1V v18 G H3) fun v19=>
      onV (lenV v19) fun v20=>
      onV (B2.ev .gtr v20 (.int .i64 (.ofNat 200) 0)) fun v22=>
      onG v22 false (paddV 3 (.ptr n 0)) fun v23=>
      onG v22 false (ld1V v23 G H3) fun v24=>
      onG v22 false (lenV v24) fun v25=>
      onG v22 false (B2.ev .gtr v25 (.int .i64 (.ofNat 200) 0)) fun v26=>
      onV (pickV v22 (.bool true) v26) fun v27=>
      onG v27 false (paddV 0 (.ptr n 0)) fun v28=>
      onG v27 false (ld1V v28 G H3) fun v29=>
      onG v27 false (lenSV v29) fun v30=>
      onG v27 false (B2.ev .gtr v30 (.int .i64 (.ofNat 40) 0)) fun v31=>
      onV (pickV v27 (.bool true) v31) fun v32=>
      onG v32 false (paddV 1 (.ptr n 0)) fun v33=>
      onG v32 false (ld1V v33 G H3) fun v34=>
      onG v32 false (lenSV v34) fun v35=>
      onG v32 false (B2.ev .gtr v35 (.int .i64 (.ofNat 40) 0)) fun v36=>
      onV (pickV v32 (.bool true) v36) fun v37=>
      onTst v37 true (k (.bool false) H3 n3) (onV (paddV 2 (.ptr n 0)) fun v74=>
      onV (ld1V v74 G H3) fun v75=>
      onV (lenV v75) fun v76=>
      lfp (V × V × V × V × V × Heap × Nat) (s_face_Face_Right_l77b lfp G (Runs F G) k) (.ptr n 0, (.str 0 0), v75, v76, (.int .i64 (.ofNat 0) 0), H3, n3))) := by
    intro H3 n3 f hlt hg hk
    have hf := hf.kp f
    have hm := hm.kp f
    have e0 : ld1V (.ptr n 0) G H3 = some c.nm.v := ld1_one hg rfl
    have e1 : ld1V (.ptr n 1) G H3 = some c.sup.v := ld1_one hg rfl
    have e2 : ld1V (.ptr n 2) G H3 = some v := ld1_one hg rfl
    have e3 : ld1V (.ptr n 3) G H3 = some w := ld1_one hg rfl
    simp only [go_sem, Nat.reduceAdd, e2, hf.len, gtr_n]
    cases h1 : decide (200 < c.fs.length) with
    | true => rw [h1] at hk; simp only [go_sem]; exact hk _ _ f
    | false =>
      rw [h1] at hk
      simp only [go_sem, Nat.reduceAdd, e3, hm.len', gtr_n]
      cases h2 : decide (200 < c.ms.length) with
      | true => rw [h2] at hk; simp only [go_sem]; exact hk _ _ f
      | false =>
        rw [h2] at hk
        simp only [go_sem, Nat.reduceAdd, e0, lenS, gtr_n]
        cases h3 : decide (40 < c.nm.1) with
        | true => rw [h3] at hk; simp only [go_sem]; exact hk _ _ f
        | false =>
          rw [h3] at hk
          simp only [go_sem, Nat.reduceAdd, e1, lenS, gtr_n]
          cases h4 : decide (40 < c.sup.1) with
          | true => rw [h4] at hk; simp only [go_sem]; exact hk _ _ f
          | false =>
            rw [h4] at hk
            simp only [go_sem, Nat.reduceAdd, e2, hf.len]
            exact FaceFlds_c (a := (0, 0)) hf hm hlt hg fun H' n' f' => hk _ _ (f.trans f')
  cases h1 : classS c.nm with
  | false =>
    rw [h1] at hk
    simp only [Bool.not_false, go_sem]
    exact hk _ _ f
  | true =>
    rw [h1] at hk
    have e1 : ld1V (.ptr n 1) G H3 = some c.sup.v := ld1_one hg rfl
    have e := neS c.sup (0, 0)
    unfold St.v at e
    simp only [Bool.not_true, go_sem, Nat.reduceAdd, e1]
    rw [show eqV (.one .str) true c.sup.v (.str 0 0) = _ from neS c.sup (0, 0)]
    cases h2 : decide (c.sup.1 = 0 ∧ c.sup.2 = 0) with
    | true =>
      rw [h2] at hk
      simp only [Bool.not_true, go_sem]
      exact tail _ _ f hlt hg hk
    | false =>
      rw [h2] at hk
      simp only [Bool.not_false, go_sem, Nat.reduceAdd, e1]
      refine Of_c fun H4 n4 f4 => ?_
      refine Class_c hs fun H5 n5 f5 => ?_
      rw [isClassF, s_notB]
      have f' := f.trans (f4.trans f5)
      have hg : T.get H5 n = _ := (f5.same n (by have := f4.le; omega)).trans ((f4.same n (by omega)).trans hg)
      cases h3 : classS c.sup with
      | false =>
        rw [h3] at hk
        simp only [Bool.not_false, go_sem]
        exact hk _ _ f'
      | true =>
        rw [h3] at hk
        simp only [Bool.not_true, go_sem]
        exact tail _ _ f' (by have := f4.le; have := f5.le; omega) hg hk
end Go.RL

/- Contracts, seventh part: arrays made in memory; pools. -/
namespace Go.RL
open Go.Eng
set_option maxRecDepth 100000
theorem ldB_at {e c : Nat} {t : T LV} {i : Nat} {L : LV} (he : 0 < e) (hi : i < c) (ht : T.get t i = some L) (hL : L.length = e) : ldB e c t (i * e) e = some L := by
  unfold ldB
  have hdiv : i * e / e = i := Nat.mul_div_cancel _ he
  have hmod : i * e % e = 0 := Nat.mul_mod_left ..
  have hb : Nat.blt (Nat.div (i * e) e) c = true := by rw [Nat.blt_eq]; show i * e / e < c; omega
  rw [hb]
  show gbind (T.get t (Nat.div (i * e) e)) (ldC e (i * e) e) = _
  rw [show Nat.div (i * e) e = i from hdiv, ht, s_gbind]
  have h1 := ld_one (H := T.set .e 0 (one L)) (id := 0) (L := L) (off := 0) (m := e) (T.get_set ..) he (by omega)
  unfold ldH at h1
  rw [T.get_set] at h1
  have h2 : ldB L.length 1 (T.set .e 0 L) 0 e = some ((L.drop 0).take e) := h1
  unfold ldB at h2
  rw [show Nat.blt (Nat.div 0 L.length) 1 = true by rw [Nat.blt_eq]; show 0 / L.length < 1; simp] at h2
  have h3 : gbind (T.get (T.set T.e 0 L) (Nat.div 0 L.length)) (ldC L.length 0 e) = some ((L.drop 0).take e) := h2
  rw [show Nat.div 0 L.length = 0 from Nat.zero_div _, T.get_set, s_gbind] at h3
  rw [List.drop_zero, List.take_of_length_le (by omega), hL] at h3
  have : ldC e (i * e) e L = ldC e 0 e L := by
    unfold ldC
    rw [show Nat.mod (i * e) e = 0 from hmod, show Nat.mod 0 e = 0 from Nat.zero_mod _]
  rw [this]; exact h3
theorem s_bsl1 {z : Nat} {Z L : LV} {H : Heap} {n : Nat} {P : KV} (hL : L.length = z) :
    onA (aBslice z 1 Z [(0, .c (.agg L))] E0) H n P = P (.sl n 0 1 1 z) (T.set H n (.arr z 1 (T.set (T.set .e 0 Z) 0 L))) (n + 1) := by
  subst hL
  show onB (band (band true (band true (Nat.beq (len L) L.length))) true) (forceP n fun n => P (.sl n 0 1 1 L.length) (T.set H n (.arr L.length 1 (T.set (T.set .e 0 Z) 0 L))) (Nat.succ n)) = _
  rw [len_eq, forceP_eq]
  have hb : band (band true (band true (Nat.beq L.length L.length))) true = true := by simp
  rw [hb]; rfl
theorem El_bsl1 {G : Roms} {H : Heap} {n z : Nat} {Z L : LV} (hz : 0 < z) (hL : L.length = z) (h : T.get H n = some (.arr z 1 (T.set (T.set .e 0 Z) 0 L))) : El G H (.sl n 0 1 1 z) z [L] := by
  refine ⟨rfl, ?_⟩
  show (Bool.rec (motive := fun _ => Option LLV) none (gbind (ldH H n (0 * z) z) fun L => gbind (some []) fun LS => some (L :: LS)) (Nat.beq z z) : Option LLV) = _
  have hl : ldH H n (0 * z) z = some L := by
    unfold ldH; rw [h]
    exact ldB_at hz (by omega) (by rw [T.get_set]) hL
  rw [hl, show Nat.beq z z = true by simp]
  rfl
theorem s_bsl5 {Z a b c d e : V} {H : Heap} {n : Nat} {P : KV} (h : ∀ v ∈ [a, b, c, d, e], okC v = true ∧ vcells v = [v]) :
    onA (aBslice 1 5 [Z] [(0, .c a), (1, .c b), (2, .c c), (3, .c d), (4, .c e)] E0) H n P =
    P (.sl n 0 5 5 1) (T.set H n (.arr 1 5 (T.set (T.set (T.set (T.set (T.set (repT [Z] 5 .e) 0 [a]) 1 [b]) 2 [c]) 3 [d]) 4 [e]))) (n + 1) := by
  obtain ⟨ha, hb, hc, hd, he, -⟩ : (okC a = true ∧ vcells a = [a]) ∧ (okC b = true ∧ vcells b = [b]) ∧ (okC c = true ∧ vcells c = [c]) ∧ (okC d = true ∧ vcells d = [d]) ∧ (okC e = true ∧ vcells e = [e]) ∧ True := by simpa using h
  show onB (band (band (okC a) (band (Nat.blt 0 5) (Nat.beq (len (vcells a)) 1))) (band (band (okC b) (band (Nat.blt 1 5) (Nat.beq (len (vcells b)) 1))) (band (band (okC c) (band (Nat.blt 2 5) (Nat.beq (len (vcells c)) 1))) (band (band (okC d) (band (Nat.blt 3 5) (Nat.beq (len (vcells d)) 1))) (band (band (okC e) (band (Nat.blt 4 5) (Nat.beq (len (vcells e)) 1))) true)))))
    (forceP n fun n => P (.sl n 0 5 5 1) (T.set H n (.arr 1 5 (T.set (T.set (T.set (T.set (T.set (repT [Z] 5 .e) 0 (vcells a)) 1 (vcells b)) 2 (vcells c)) 3 (vcells d)) 4 (vcells e)))) (Nat.succ n)) = _
  rw [ha.1, ha.2, hb.1, hb.2, hc.1, hc.2, hd.1, hd.2, he.1, he.2, forceP_eq]
  rfl
theorem El_bsl5 {G : Roms} {H : Heap} {n : Nat} {Z a b c d e : V} (h : T.get H n = some (.arr 1 5 (T.set (T.set (T.set (T.set (T.set (repT [Z] 5 .e) 0 [a]) 1 [b]) 2 [c]) 3 [d]) 4 [e]))) :
    El G H (.sl n 0 5 5 1) 1 [[a], [b], [c], [d], [e]] := by
  refine ⟨rfl, ?_⟩
  show gbind (ldH H n (0 * 1) 1) (fun L => gbind (gbind (ldH H n (1 * 1) 1) fun L => gbind (gbind (ldH H n (2 * 1) 1) fun L => gbind (gbind (ldH H n (3 * 1) 1) fun L => gbind (gbind (ldH H n (4 * 1) 1) fun L => gbind (some []) fun LS => some (L :: LS)) fun LS => some (L :: LS)) fun LS => some (L :: LS)) fun LS => some (L :: LS)) fun LS => some (L :: LS)) = _
  have hl : ∀ i v, i < 5 → T.get (T.set (T.set (T.set (T.set (T.set (repT [Z] 5 .e) 0 [a]) 1 [b]) 2 [c]) 3 [d]) 4 [e]) i = some [v] → ldH H n (i * 1) 1 = some [v] := by
    intro i v hi hv
    unfold ldH; rw [h]
    exact ldB_at (by omega) hi hv rfl
  rw [hl 0 a (by omega) rfl, hl 1 b (by omega) rfl, hl 2 c (by omega) rfl, hl 3 d (by omega) rfl, hl 4 e (by omega) rfl]
  rfl
end Go.RL

/- Contracts, eighth part: signatures, pools. -/
namespace Go.RL
open Go.Eng
set_option maxRecDepth 100000
noncomputable def sigOk (m : Meth) : Bool := methsOk (0, 0) [m]
theorem faceOk_sig (m : Meth) : faceOk ⟨(1, 65), (0, 0), [], [m]⟩ = sigOk m := by
  simp [faceOk, sigOk, classS, upper, fldsOk]
theorem sig_c {G : Roms} {m : Meth} {w : V} {H : Heap} {n : Nat} {k : KV} (hw : TysAt G H n w m.ps) (hm : m.nm.ok ∧ m.ret.nm.ok)
    (hk : ∀ H' n', Kp H n H' n' → k (.bool (sigOk m)) H' n') : Runs F G n_class_sig [.agg (m.cells w)] H n k := by
  refine runs_s (s := ar1 (s_class_sig lfp G)) at_class_sig (by obtain ⟨h, o⟩ := si_class_sig lfp_ok G; rw [at_class_sig] at h; cases h; exact o) ?_
  show s_class_sig lfp G (Runs F G) (.agg (m.cells w)) H n k
  delta s_class_sig
  have f1 : Kp H n (T.set H n (one (m.cells w))) (n + 1) := (Kp.refl H n).new _ (Nat.le_refl _) (by omega)
  have hl : ldnV 5 (.ptr n 0) G (T.set H n (one (m.cells w))) = some (.agg (m.cells w)) := w_ldn rfl (by omega)
  simp only [go_sem, Nat.reduceAdd, hl, s_bsl1 (z := 5) (L := m.cells w) rfl]
  generalize T.set H n (one (m.cells w)) = H1 at f1 ⊢
  have f2 := f1.new (m := n + 1 + 1) (.arr 5 1 (T.set (T.set .e 0 [.str 0 0, .bool false, .nils, .str 0 0, .bool false]) 0 (m.cells w))) (id := n + 1) (by omega) (by omega)
  have hg := T.get_set H1 (n + 1) (.arr 5 1 (T.set (T.set .e 0 [.str 0 0, .bool false, .nils, .str 0 0, .bool false]) 0 (m.cells w)))
  generalize T.set H1 (n + 1) (.arr 5 1 (T.set (T.set .e 0 [.str 0 0, .bool false, .nils, .str 0 0, .bool false]) 0 (m.cells w))) = H2 at f2 hg ⊢
  rw [show buildV [.str 0 0, .str 0 0, .nils, .nils] [(0, 1, .c (.str 1 65)), (3, 1, .c (.sl (n + 1) 0 1 1 5))] = some (.agg [.str 1 65, .str 0 0, .nils, .sl (n + 1) 0 1 1 5]) from rfl, s_onV]
  refine FaceRight_c (c := ⟨(1, 65), (0, 0), [], [m]⟩) (v := .nils) (w := .sl (n + 1) 0 1 1 5) (ws := [w]) ⟨rfl, ⟨⟨rfl, rfl⟩, (fun id h => by cases h), (by show 0 < big; decide), (fun f h => by cases h)⟩, ⟨El_bsl1 (by omega) rfl hg, (fun id h => by cases h; omega), (by show 1 < big; decide), rfl, ?_, ?_⟩, ?_⟩ fun H' n' f => ?_
  · intro i m' w' h1 h2
    cases i with
    | zero => simp at h1 h2; subst h1 h2; exact hw.kp f2
    | succ i => simp at h1
  · intro m' h; simp at h; subst h; exact hm
  · exact ⟨(fun h => by cases h), (fun h => rfl)⟩
  · rw [faceOk_sig]
    exact hk _ _ (f2.trans f)
end Go.RL

/- Contracts, ninth part: pools. -/
namespace Go.RL
open Go.Eng
set_option maxRecDepth 100000
structure PF where
  f : Fld
  own : St
structure PM where
  m : Meth
  own : St
def PF.cells (p : PF) : LV := [p.f.nm.v, p.f.ty.nm.v, .bool p.f.ty.arr, p.own.v]
def PM.cells (p : PM) (w : V) : LV := [p.m.nm.v, .bool p.m.st, w, p.m.ret.nm.v, .bool p.m.ret.arr, p.own.v]
structure Pool where
  nums : List Int
  names : List St
  types : List Ty
  fields : List PF
  meths : List PM
structure PoolAt (G : Roms) (H : Heap) (n : Nat) (p : Pool) (v0 v1 v2 v3 v4 : V) (ws : List V) : Prop where
  e0 : El G H v0 1 (p.nums.map fun a => [.int .i64 a 0])
  l0 : Lo v0 n
  b0 : p.nums.length < big
  e1 : El G H v1 1 (strs p.names)
  l1 : Lo v1 n
  b1 : p.names.length < big
  o1 : ∀ s ∈ p.names, s.ok
  t2 : TysAt G H n v2 p.types
  e3 : El G H v3 4 (p.fields.map PF.cells)
  l3 : Lo v3 n
  b3 : p.fields.length < big
  o3 : ∀ f ∈ p.fields, f.f.nm.ok ∧ f.f.ty.nm.ok ∧ f.own.ok
  e4 : El G H v4 6 (List.zipWith PM.cells p.meths ws)
  l4 : Lo v4 n
  b4 : p.meths.length < big
  len4 : ws.length = p.meths.length
  at4 : ∀ (i : Nat) (m : PM) (w : V), p.meths[i]? = some m → ws[i]? = some w → TysAt G H n w m.m.ps
  o4 : ∀ m ∈ p.meths, m.m.nm.ok ∧ m.m.ret.nm.ok ∧ m.own.ok
theorem PoolAt.kp {G : Roms} {H H' : Heap} {n n' : Nat} {p : Pool} {v0 v1 v2 v3 v4 : V} {ws : List V} (h : PoolAt G H n p v0 v1 v2 v3 v4 ws) (f : Kp H n H' n') : PoolAt G H' n' p v0 v1 v2 v3 v4 ws :=
  ⟨h.e0.kp h.l0 f, h.l0.mono f.le, h.b0, h.e1.kp h.l1 f, h.l1.mono f.le, h.b1, h.o1, h.t2.kp f, h.e3.kp h.l3 f, h.l3.mono f.le, h.b3, h.o3, h.e4.kp h.l4 f, h.l4.mono f.le, h.b4, h.len4,
    fun i m w a b => (h.at4 i m w a b).kp f, h.o4⟩
def classN (s : St) : Bool := upper s.1 s.2 && decide (s.1 ≤ 40)
noncomputable def pmOk (p : PM) : Bool := classN p.own && sigOk p.m
def pfOk (p : PF) : Bool := classN p.own && (!decide (p.f.nm.1 = 0 ∧ p.f.nm.2 = 0) && (!decide (40 < p.f.nm.1) && goodS p.f.ty.nm))
theorem PoolMeths_c {G : Roms} {p : Pool} {v0 v1 v2 v3 v4 : V} {ws : List V} {H : Heap} {n : Nat} {k : KV} (h : PoolAt G H n p v0 v1 v2 v3 v4 ws)
    (hk : ∀ H' n', Kp H n H' n' → k (.bool (p.meths.all pmOk)) H' n') :
    lfp (V × V × V × Heap × Nat) (s_class_Pool_right_l10b lfp G (Runs F G) k) (v4, .int .i64 (.ofNat p.meths.length) 0, .int .i64 (.ofNat 0) 0, H, n) := by
  refine lfp_rule (J := fun m st => ∃ i H2 n2, m = p.meths.length - i ∧ i ≤ p.meths.length ∧ st = (v4, .int .i64 (.ofNat p.meths.length) 0, .int .i64 (.ofNat i) 0, H2, n2) ∧ Kp H n H2 n2 ∧ (∀ H' n', Kp H n H' n' → k (.bool ((p.meths.drop i).all pmOk)) H' n')) ?_ (m := p.meths.length) ⟨0, H, n, rfl, Nat.zero_le _, rfl, Kp.refl _ _, hk⟩
  rintro I m st ⟨i, H2, n2, rfl, hi, rfl, f, hk⟩ ih
  show s_class_Pool_right_l10 lfp G (Runs F G) k I v4 (.int .i64 (.ofNat p.meths.length) 0) (.int .i64 (.ofNat i) 0) H2 n2
  delta s_class_Pool_right_l10
  by_cases hlt : i < p.meths.length
  · have hw : i < ws.length := by rw [h.len4]; exact hlt
    have h' := h.kp f
    obtain ⟨q, hp, hld⟩ := h'.e4.at (i := i) (c := p.meths[i].cells ws[i]) (by rw [List.getElem?_zipWith]; simp [hlt, hw])
    have hty := h'.at4 i _ _ (List.getElem?_eq_getElem hlt) (List.getElem?_eq_getElem hw)
    have hok := h.o4 _ (List.getElem_mem hlt)
    have hbig := h.b4
    rw [List.drop_eq_getElem_cons hlt, List.all_cons] at hk
    generalize p.meths[i] = m at hok hld hty hk
    generalize ws[i] = w at hld hty
    unfold PM.cells at hld
    simp only [go_sem, Nat.reduceAdd, lss_n, hlt, decide_true, hp, ldn_of hld]
    have f2 : Kp H2 n2 (T.set (T.set H2 n2 (one [.str 0 0, .bool false, .nils, .str 0 0, .bool false, .str 0 0])) n2 (one [m.m.nm.v, .bool m.m.st, w, m.m.ret.nm.v, .bool m.m.ret.arr, m.own.v])) (n2 + 1) :=
      ((Kp.refl _ _).new (m := n2 + 1) _ (Nat.le_refl _) (by omega)).new _ (Nat.le_refl _) (Nat.le_refl _)
    have hg := T.get_set (T.set H2 n2 (one [.str 0 0, .bool false, .nils, .str 0 0, .bool false, .str 0 0])) n2 (one [m.m.nm.v, .bool m.m.st, w, m.m.ret.nm.v, .bool m.m.ret.arr, m.own.v])
    generalize T.set (T.set H2 n2 (one [.str 0 0, .bool false, .nils, .str 0 0, .bool false, .str 0 0])) n2 (one [m.m.nm.v, .bool m.m.st, w, m.m.ret.nm.v, .bool m.m.ret.arr, m.own.v]) = H3 at f2 hg ⊢
    refine class_c hok.2.2 fun H4 n4 f4 => ?_
    rw [s_notB, show (upper m.own.1 m.own.2 && decide (m.own.1 ≤ 40)) = classN m.own from rfl]
    have hg : T.get H4 n2 = _ := (f4.same n2 (by omega)).trans hg
    unfold pmOk at hk
    cases h1 : classN m.own with
    | false =>
      rw [h1] at hk
      simp only [Bool.not_false, go_sem]
      exact hk _ _ (f.trans (f2.trans f4))
    | true =>
      rw [h1] at hk
      have hl : ldnV 5 (.ptr n2 0) G H4 = some (.agg (m.m.cells w)) := ldn_one hg (by omega) (by show 5 ≤ 6; omega)
      simp only [Bool.not_true, go_sem, Nat.reduceAdd, hl]
      refine sig_c (hty.kp (f2.trans f4)) ⟨hok.1, hok.2.1⟩ fun H5 n5 f5 => ?_
      have f6 := f.trans ((f2.trans f4).trans f5)
      simp only [s_notB, go_sem]
      cases h2 : sigOk m.m with
      | false =>
        rw [h2] at hk
        simp only [Bool.not_false, go_sem]
        exact hk _ _ f6
      | true =>
        rw [h2] at hk
        simp only [Bool.not_true, go_sem, add_i (show i + 1 < 9223372036854775808 by unfold big at hbig; omega)]
        exact ih _ _ (by omega) ⟨i + 1, _, _, rfl, hlt, rfl, f6, hk⟩
  · simp only [go_sem, lss_n, hlt, decide_false]
    delta s_class_Pool_right_j6
    rw [List.drop_eq_nil_of_le (by omega)] at hk
    exact hk _ _ f
end Go.RL

/- Contracts, tenth part: pools, on. -/
namespace Go.RL
open Go.Eng
set_option maxRecDepth 100000
theorem eqS (a b : St) : eqV (.one .str) false a.v b.v = some (.bool (decide (a.1 = b.1 ∧ a.2 = b.2))) := eq_s ..
theorem PoolFields_c {G : Roms} {p : Pool} {v0 v1 v2 v3 v4 : V} {ws : List V} {H : Heap} {n b : Nat} {k : KV} (h : PoolAt G H n p v0 v1 v2 v3 v4 ws) (hb : b < n) (hbx : T.get H b = some (one [v0, v1, v2, v3, v4]))
    (hk : ∀ H' n', Kp H n H' n' → k (.bool (p.fields.all pfOk && p.meths.all pmOk)) H' n') :
    lfp (V × V × V × V × Heap × Nat) (s_class_Pool_right_l29b lfp G (Runs F G) k) (.ptr b 0, v3, .int .i64 (.ofNat p.fields.length) 0, .int .i64 (.ofNat 0) 0, H, n) := by
  refine lfp_rule (J := fun m st => ∃ i H2 n2, m = p.fields.length - i ∧ i ≤ p.fields.length ∧ st = (.ptr b 0, v3, .int .i64 (.ofNat p.fields.length) 0, .int .i64 (.ofNat i) 0, H2, n2) ∧ Kp H n H2 n2 ∧ (∀ H' n', Kp H n H' n' → k (.bool ((p.fields.drop i).all pfOk && p.meths.all pmOk)) H' n')) ?_ (m := p.fields.length) ⟨0, H, n, rfl, Nat.zero_le _, rfl, Kp.refl _ _, hk⟩
  rintro I m st ⟨i, H2, n2, rfl, hi, rfl, f, hk⟩ ih
  show s_class_Pool_right_l29 lfp G (Runs F G) k I (.ptr b 0) v3 (.int .i64 (.ofNat p.fields.length) 0) (.int .i64 (.ofNat i) 0) H2 n2
  delta s_class_Pool_right_l29
  have h' := h.kp f
  by_cases hlt : i < p.fields.length
  · obtain ⟨q, hp, hld⟩ := h'.e3.at (i := i) (c := p.fields[i].cells) (by simp [hlt])
    have hok := h.o3 _ (List.getElem_mem hlt)
    have hbig := h.b3
    rw [List.drop_eq_getElem_cons hlt, List.all_cons] at hk
    generalize p.fields[i] = m at hok hld hk
    unfold PF.cells at hld
    simp only [go_sem, Nat.reduceAdd, lss_n, hlt, decide_true, hp, ldn_of hld]
    have f2 : Kp H2 n2 (T.set (T.set H2 n2 (one [.str 0 0, .str 0 0, .bool false, .str 0 0])) n2 (one [m.f.nm.v, m.f.ty.nm.v, .bool m.f.ty.arr, m.own.v])) (n2 + 1) :=
      ((Kp.refl _ _).new (m := n2 + 1) _ (Nat.le_refl _) (by omega)).new _ (Nat.le_refl _) (Nat.le_refl _)
    have hg := T.get_set (T.set H2 n2 (one [.str 0 0, .str 0 0, .bool false, .str 0 0])) n2 (one [m.f.nm.v, m.f.ty.nm.v, .bool m.f.ty.arr, m.own.v])
    generalize T.set (T.set H2 n2 (one [.str 0 0, .str 0 0, .bool false, .str 0 0])) n2 (one [m.f.nm.v, m.f.ty.nm.v, .bool m.f.ty.arr, m.own.v]) = H3 at f2 hg ⊢
    refine class_c hok.2.2 fun H4 n4 f4 => ?_
    rw [s_notB, show (upper m.own.1 m.own.2 && decide (m.own.1 ≤ 40)) = classN m.own from rfl]
    have hg : T.get H4 n2 = _ := (f4.same n2 (by omega)).trans hg
    have e0 : ld1V (.ptr n2 0) G H4 = some m.f.nm.v := ld1_one hg rfl
    have f6 := f.trans (f2.trans f4)
    unfold pfOk at hk
    cases h1 : classN m.own with
    | false =>
      rw [h1] at hk
      simp only [Bool.not_false, go_sem]
      exact hk _ _ f6
    | true =>
      rw [h1] at hk
      simp only [Bool.not_true, go_sem, Nat.reduceAdd, e0]
      rw [show eqV (.one .str) false m.f.nm.v (.str 0 0) = _ from eqS m.f.nm (0, 0)]
      cases h2 : decide (m.f.nm.1 = 0 ∧ m.f.nm.2 = 0) with
      | true =>
        rw [h2] at hk
        simp only [go_sem]
        exact hk _ _ f6
      | false =>
        rw [h2] at hk
        simp only [go_sem, Nat.reduceAdd, e0, lenS, gtr_n]
        cases h3 : decide (40 < m.f.nm.1) with
        | true =>
          rw [h3] at hk
          simp only [go_sem]
          exact hk _ _ f6
        | false =>
          rw [h3] at hk
          have hl : ldnV 2 (.ptr n2 1) G H4 = some (.agg [m.f.ty.nm.v, .bool m.f.ty.arr]) := ldn_one hg (by omega) (by show 3 ≤ 4; omega)
          simp only [go_sem, Nat.reduceAdd, hl]
          refine Good_c hok.2.1 fun H5 n5 f5 => ?_
          have f7 := f6.trans f5
          simp only [s_notB, go_sem]
          show _
          cases h4 : goodT m.f.ty.nm.1 m.f.ty.nm.2 with
          | false =>
            rw [show goodS m.f.ty.nm = false from h4] at hk
            simp only [Bool.not_false, go_sem]
            exact hk _ _ f7
          | true =>
            rw [show goodS m.f.ty.nm = true from h4] at hk
            simp only [Bool.not_true, go_sem, add_i (show i + 1 < 9223372036854775808 by unfold big at hbig; omega)]
            exact ih _ _ (by omega) ⟨i + 1, _, _, rfl, hlt, rfl, f7, hk⟩
  · simp only [go_sem, lss_n, hlt, decide_false]
    delta s_class_Pool_right_j5
    rw [List.drop_eq_nil_of_le (by omega)] at hk
    have hg : T.get H2 b = _ := (f.same b hb).trans hbx
    have hl : lenV v4 = some (.int .i64 (.ofNat p.meths.length) 0) := by rw [h.e4.len, List.length_zipWith, h.len4, Nat.min_self]
    simp only [go_sem, Nat.reduceAdd, ld1_one (off := 4) hg (v := v4) rfl, hl]
    exact PoolMeths_c h' fun H' n' f' => hk _ _ (f.trans f')
theorem PoolTypes_c {G : Roms} {p : Pool} {v0 v1 v2 v3 v4 : V} {ws : List V} {H : Heap} {n b : Nat} {k : KV} (h : PoolAt G H n p v0 v1 v2 v3 v4 ws) (hb : b < n) (hbx : T.get H b = some (one [v0, v1, v2, v3, v4]))
    (hk : ∀ H' n', Kp H n H' n' → k (.bool ((p.types.all fun t => goodS t.nm) && (p.fields.all pfOk && p.meths.all pmOk))) H' n') :
    lfp (V × V × V × V × Heap × Nat) (s_class_Pool_right_l60b lfp G (Runs F G) k) (.ptr b 0, v2, .int .i64 (.ofNat p.types.length) 0, .int .i64 (.ofNat 0) 0, H, n) := by
  refine lfp_rule (J := fun m st => ∃ i H2 n2, m = p.types.length - i ∧ i ≤ p.types.length ∧ st = (.ptr b 0, v2, .int .i64 (.ofNat p.types.length) 0, .int .i64 (.ofNat i) 0, H2, n2) ∧ Kp H n H2 n2 ∧ (∀ H' n', Kp H n H' n' → k (.bool (((p.types.drop i).all fun t => goodS t.nm) && (p.fields.all pfOk && p.meths.all pmOk))) H' n')) ?_ (m := p.types.length) ⟨0, H, n, rfl, Nat.zero_le _, rfl, Kp.refl _ _, hk⟩
  rintro I m st ⟨i, H2, n2, rfl, hi, rfl, f, hk⟩ ih
  show s_class_Pool_right_l60 lfp G (Runs F G) k I (.ptr b 0) v2 (.int .i64 (.ofNat p.types.length) 0) (.int .i64 (.ofNat i) 0) H2 n2
  delta s_class_Pool_right_l60
  have h' := h.kp f
  by_cases hlt : i < p.types.length
  · obtain ⟨q, hp, hld⟩ := h'.t2.el.at (tys_at hlt)
    have hok := h.t2.ok _ (List.getElem_mem hlt)
    have hbig := h.t2.lt
    rw [List.drop_eq_getElem_cons hlt, List.all_cons] at hk
    generalize p.types[i] = m at hok hld hk
    unfold Ty.cells at hld
    simp only [go_sem, Nat.reduceAdd, lss_n, hlt, decide_true, hp, ldn_of hld]
    have f2 : Kp H2 n2 (T.set (T.set H2 n2 (one [.str 0 0, .bool false])) n2 (one [m.nm.v, .bool m.arr])) (n2 + 1) :=
      ((Kp.refl _ _).new (m := n2 + 1) _ (Nat.le_refl _) (by omega)).new _ (Nat.le_refl _) (Nat.le_refl _)
    refine Good_c hok fun H5 n5 f5 => ?_
    have f7 := f.trans (f2.trans f5)
    simp only [s_notB, go_sem]
    show _
    cases h4 : goodT m.nm.1 m.nm.2 with
    | false =>
      rw [show goodS m.nm = false from h4] at hk
      simp only [Bool.not_false, go_sem]
      exact hk _ _ f7
    | true =>
      rw [show goodS m.nm = true from h4] at hk
      simp only [Bool.not_true, go_sem, add_i (show i + 1 < 9223372036854775808 by unfold big at hbig; omega)]
      exact ih _ _ (by omega) ⟨i + 1, _, _, rfl, hlt, rfl, f7, hk⟩
  · simp only [go_sem, lss_n, hlt, decide_false]
    delta s_class_Pool_right_j4
    rw [List.drop_eq_nil_of_le (by omega)] at hk
    have hg : T.get H2 b = _ := (f.same b hb).trans hbx
    have hl : lenV v3 = some (.int .i64 (.ofNat p.fields.length) 0) := by rw [h.e3.len, List.length_map]
    simp only [go_sem, Nat.reduceAdd, ld1_one (off := 3) hg (v := v3) rfl, hl]
    exact PoolFields_c h' (Nat.lt_of_lt_of_le hb f.le) hg fun H' n' f' => hk _ _ (f.trans f')
end Go.RL

/- Contracts, eleventh part: pools, to their end. -/
namespace Go.RL
open Go.Eng
set_option maxRecDepth 100000
noncomputable def poolRest (p : Pool) : Bool := p.names.all classN && ((p.types.all fun t => goodS t.nm) && (p.fields.all pfOk && p.meths.all pmOk))
theorem PoolNames_c {G : Roms} {p : Pool} {v0 v1 v2 v3 v4 : V} {ws : List V} {H : Heap} {n b : Nat} {k : KV} (h : PoolAt G H n p v0 v1 v2 v3 v4 ws) (hb : b < n) (hbx : T.get H b = some (one [v0, v1, v2, v3, v4]))
    (hk : ∀ H' n', Kp H n H' n' → k (.bool (poolRest p)) H' n') :
    lfp (V × V × V × V × Heap × Nat) (s_class_Pool_right_l73b lfp G (Runs F G) k) (.ptr b 0, v1, .int .i64 (.ofNat p.names.length) 0, .int .i64 (.ofNat 0) 0, H, n) := by
  refine lfp_rule (J := fun m st => ∃ i H2 n2, m = p.names.length - i ∧ i ≤ p.names.length ∧ st = (.ptr b 0, v1, .int .i64 (.ofNat p.names.length) 0, .int .i64 (.ofNat i) 0, H2, n2) ∧ Kp H n H2 n2 ∧ (∀ H' n', Kp H n H' n' → k (.bool ((p.names.drop i).all classN && ((p.types.all fun t => goodS t.nm) && (p.fields.all pfOk && p.meths.all pmOk)))) H' n')) ?_ (m := p.names.length) ⟨0, H, n, rfl, Nat.zero_le _, rfl, Kp.refl _ _, hk⟩
  rintro I m st ⟨i, H2, n2, rfl, hi, rfl, f, hk⟩ ih
  show s_class_Pool_right_l73 lfp G (Runs F G) k I (.ptr b 0) v1 (.int .i64 (.ofNat p.names.length) 0) (.int .i64 (.ofNat i) 0) H2 n2
  delta s_class_Pool_right_l73
  have h' := h.kp f
  by_cases hlt : i < p.names.length
  · obtain ⟨q, hp, hld⟩ := h'.e1.at (strs_at hlt)
    have hok := h.o1 _ (List.getElem_mem hlt)
    have hbig := h.b1
    rw [List.drop_eq_getElem_cons hlt, List.all_cons] at hk
    generalize p.names[i] = m at hok hld hk
    simp only [go_sem, Nat.reduceAdd, lss_n, hlt, decide_true, hp, ld1_of hld]
    refine class_c hok fun H5 n5 f5 => ?_
    rw [s_notB, show (upper m.1 m.2 && decide (m.1 ≤ 40)) = classN m from rfl]
    have f7 := f.trans f5
    cases h4 : classN m with
    | false =>
      rw [h4] at hk
      simp only [Bool.not_false, go_sem]
      exact hk _ _ f7
    | true =>
      rw [h4] at hk
      simp only [Bool.not_true, go_sem, add_i (show i + 1 < 9223372036854775808 by unfold big at hbig; omega)]
      exact ih _ _ (by omega) ⟨i + 1, _, _, rfl, hlt, rfl, f7, hk⟩
  · simp only [go_sem, lss_n, hlt, decide_false]
    delta s_class_Pool_right_j3
    rw [List.drop_eq_nil_of_le (by omega)] at hk
    have hg : T.get H2 b = _ := (f.same b hb).trans hbx
    simp only [go_sem, Nat.reduceAdd, ld1_one (off := 2) hg (v := v2) rfl, h'.t2.len]
    exact PoolTypes_c h' (Nat.lt_of_lt_of_le hb f.le) hg fun H' n' f' => hk _ _ (f.trans f')
def cnts (p : Pool) : List Nat := [p.nums.length, p.names.length, p.types.length, p.fields.length, p.meths.length]
theorem PoolCnts_c {G : Roms} {p : Pool} {v v0 v1 v2 v3 v4 : V} {ws : List V} {H : Heap} {n b : Nat} {k : KV} (h : PoolAt G H n p v0 v1 v2 v3 v4 ws) (hb : b < n) (hbx : T.get H b = some (one [v0, v1, v2, v3, v4]))
    {xs : List Nat} (hv : El G H v 1 (xs.map fun (a : Nat) => [V.int .i64 (.ofNat a) 0])) (hx : xs.length < big)
    (hk : ∀ H' n', Kp H n H' n' → k (.bool ((xs.all fun a => !decide (16384 < a)) && poolRest p)) H' n') :
    lfp (V × V × V × V × Heap × Nat) (s_class_Pool_right_l97b lfp G (Runs F G) k) (.ptr b 0, v, .int .i64 (.ofNat xs.length) 0, .int .i64 (.ofNat 0) 0, H, n) := by
  refine lfp_rule (J := fun m st => ∃ i, m = xs.length - i ∧ i ≤ xs.length ∧ st = (.ptr b 0, v, .int .i64 (.ofNat xs.length) 0, .int .i64 (.ofNat i) 0, H, n) ∧ (∀ H' n', Kp H n H' n' → k (.bool (((xs.drop i).all fun a => !decide (16384 < a)) && poolRest p)) H' n')) ?_ (m := xs.length) ⟨0, rfl, Nat.zero_le _, rfl, hk⟩
  rintro I m st ⟨i, rfl, hi, rfl, hk⟩ ih
  show s_class_Pool_right_l97 lfp G (Runs F G) k I (.ptr b 0) v (.int .i64 (.ofNat xs.length) 0) (.int .i64 (.ofNat i) 0) H n
  delta s_class_Pool_right_l97
  by_cases hlt : i < xs.length
  · obtain ⟨q, hp, hld⟩ := hv.at (i := i) (c := [V.int .i64 (.ofNat xs[i]) 0]) (by simp [hlt])
    rw [List.drop_eq_getElem_cons hlt, List.all_cons] at hk
    generalize xs[i] = m at hld hk
    simp only [go_sem, Nat.reduceAdd, lss_n, hlt, decide_true, hp, ld1_of hld, gtr_n]
    cases h4 : decide (16384 < m) with
    | true =>
      rw [h4] at hk
      simp only [go_sem]
      exact hk _ _ (Kp.refl _ _)
    | false =>
      rw [h4] at hk
      simp only [go_sem, add_i (show i + 1 < 9223372036854775808 by unfold big at hx; omega)]
      exact ih _ _ (by omega) ⟨i + 1, rfl, hlt, rfl, hk⟩
  · simp only [go_sem, lss_n, hlt, decide_false]
    delta s_class_Pool_right_j2
    rw [List.drop_eq_nil_of_le (by omega)] at hk
    have hl : lenV v1 = some (.int .i64 (.ofNat p.names.length) 0) := by rw [h.e1.len, strs_len]
    simp only [go_sem, Nat.reduceAdd, ld1_one (off := 1) hbx (v := v1) rfl, hl]
    exact PoolNames_c h hb hbx hk
noncomputable def poolOk (p : Pool) : Bool := (cnts p).all (fun a => !decide (16384 < a)) && poolRest p
theorem PoolRight_c {G : Roms} {p : Pool} {v0 v1 v2 v3 v4 : V} {ws : List V} {H : Heap} {n : Nat} {k : KV} (h : PoolAt G H n p v0 v1 v2 v3 v4 ws)
    (hk : ∀ H' n', Kp H n H' n' → k (.bool (poolOk p)) H' n') : Runs F G n_class_Pool_right [.agg [v0, v1, v2, v3, v4]] H n k := by
  refine runs_s (s := ar1 (s_class_Pool_right lfp G)) at_class_Pool_right (by obtain ⟨h, o⟩ := si_class_Pool_right lfp_ok G; rw [at_class_Pool_right] at h; cases h; exact o) ?_
  show s_class_Pool_right lfp G (Runs F G) (.agg [v0, v1, v2, v3, v4]) H n k
  delta s_class_Pool_right
  have l0 : lenV v0 = some (.int .i64 (.ofNat p.nums.length) 0) := by rw [h.e0.len, List.length_map]
  have l1 : lenV v1 = some (.int .i64 (.ofNat p.names.length) 0) := by rw [h.e1.len, strs_len]
  have l3 : lenV v3 = some (.int .i64 (.ofNat p.fields.length) 0) := by rw [h.e3.len, List.length_map]
  have l4 : lenV v4 = some (.int .i64 (.ofNat p.meths.length) 0) := by rw [h.e4.len, List.length_zipWith, h.len4, Nat.min_self]
  simp only [go_sem, Nat.reduceAdd, l0, l1, h.t2.len, l3, l4]
  rw [s_bsl5 (by intro v hv; simp at hv; rcases hv with rfl | rfl | rfl | rfl | rfl <;> exact ⟨rfl, rfl⟩)]
  have f1 : Kp H n (T.set H n (one [v0, v1, v2, v3, v4])) (n + 1) := (Kp.refl H n).new _ (Nat.le_refl _) (by omega)
  have hg := T.get_set H n (one [v0, v1, v2, v3, v4])
  generalize T.set H n (one [v0, v1, v2, v3, v4]) = H1 at f1 hg ⊢
  generalize hB : (Blk.arr 1 5 (T.set (T.set (T.set (T.set (T.set (repT [V.int .i64 (.ofNat 0) 0] 5 .e) 0 [V.int .i64 (.ofNat p.nums.length) 0]) 1 [V.int .i64 (.ofNat p.names.length) 0]) 2 [V.int .i64 (.ofNat p.types.length) 0]) 3 [V.int .i64 (.ofNat p.fields.length) 0]) 4 [V.int .i64 (.ofNat p.meths.length) 0])) = B
  have f2 := f1.new (m := n + 1 + 1) B (id := n + 1) (by omega) (by omega)
  have hg2 := T.get_set H1 (n + 1) B
  have hg : T.get (T.set H1 (n + 1) B) n = _ := (T.get_set_ne _ _ (by omega)).trans hg
  generalize T.set H1 (n + 1) B = H2 at f2 hg hg2 ⊢
  subst hB
  have he := El_bsl5 (G := G) hg2
  have hl : lenV (.sl (n + 1) 0 5 5 1) = some (.int .i64 (.ofNat 5) 0) := rfl
  simp only [go_sem, Nat.reduceAdd, hl]
  exact PoolCnts_c (xs := cnts p) (h.kp f2) (by omega) hg he (by show 5 < big; decide) fun H' n' f => hk _ _ (f2.trans f)
end Go.RL

/- Contracts, twelfth part: instructions. -/
namespace Go.RL
open Go.Eng
set_option maxRecDepth 100000
def poolL : List Nat := [0, 110, 0, 108, 108, 0, 0, 0, 0, 0, 0, 0, 0, 0, 0, 0, 102, 102, 99, 116, 116, 116, 0, 99, 99, 109, 109, 106, 106, 0, 0, 0, 98]
def OpTab (G : Roms) : Prop := ∀ c, c < 33 → G 0 (c * 2 + 1) 1 = some [V.int .i32 (.ofNat (poolL.getD c 0)) 0]
def known (c : Int) : Bool := decide (1 ≤ c) && decide (c ≤ 32)
def poolN (c : Int) : Nat := bif known c then poolL.getD c.toNat 0 else 0
theorem geq_i (q : IntKind) (a b : Int) : B2.ev .geq (.int q a 0) (.int q b 0) = some (.bool (decide (b ≤ a))) := by
  show guardO (band (keq q q) true) (mkB (ile b a)) = _
  rw [mkB_eq, ile_eq, show band (keq q q) true = true by simp [keq_eq]]; rfl
theorem gtr_i (q : IntKind) (a b : Int) : B2.ev .gtr (.int q a 0) (.int q b 0) = some (.bool (decide (b < a))) := by
  show guardO (band (keq q q) true) (mkB (ilt b a)) = _
  rw [mkB_eq, ilt_eq, show band (keq q q) true = true by simp [keq_eq]]; rfl
theorem lssI (q : IntKind) (a b : Int) : B2.ev .lss (.int q a 0) (.int q b 0) = some (.bool (decide (a < b))) := by
  show guardO (band (keq q q) true) (mkB (ilt a b)) = _
  rw [mkB_eq, ilt_eq, show band (keq q q) true = true by simp [keq_eq]]; rfl
theorem Known_c {G : Roms} {c : Int} {H : Heap} {n : Nat} {k : KV} (hk : k (.bool (known c)) H n) : Runs F G n_op_Code_Known [.int .i64 c 0] H n k := by
  refine runs_s (s := ar1 (s_op_Code_Known lfp G)) at_op_Code_Known (by obtain ⟨h, o⟩ := si_op_Code_Known lfp_ok G; rw [at_op_Code_Known] at h; cases h; exact o) ?_
  show s_op_Code_Known lfp G (Runs F G) (.int .i64 c 0) H n k
  delta s_op_Code_Known
  unfold known at hk
  simp only [go_sem, geq_i, leq_i]
  rw [show decide (Int.ofNat 1 ≤ c) = decide (1 ≤ c) from rfl]
  cases h : decide (1 ≤ c) with
  | false => rw [h] at hk; simp only [go_sem]; exact hk
  | true => rw [h] at hk; simp only [go_sem, leq_i]; exact hk
theorem CodePool_c {G : Roms} (hG : OpTab G) {c : Int} {H : Heap} {n : Nat} {k : KV} (hk : k (.int .i32 (.ofNat (poolN c)) 0) H n) : Runs F G n_op_Code_Pool [.int .i64 c 0] H n k := by
  refine runs_s (s := ar1 (s_op_Code_Pool lfp G)) at_op_Code_Pool (by obtain ⟨h, o⟩ := si_op_Code_Pool lfp_ok G; rw [at_op_Code_Pool] at h; cases h; exact o) ?_
  show s_op_Code_Pool lfp G (Runs F G) (.int .i64 c 0) H n k
  delta s_op_Code_Pool
  refine Known_c ?_
  unfold poolN at hk
  cases h : known c with
  | false => rw [h] at hk; simp only [s_notB, Bool.not_false, go_sem]; exact hk
  | true =>
    rw [h] at hk
    simp only [s_notB, Bool.not_true, go_sem]
    obtain ⟨m, rfl⟩ : ∃ m : Nat, c = .ofNat m := ⟨c.toNat, by simp [known] at h; show c = ((c.toNat : Nat) : Int); omega⟩
    have hm : m < 33 := by simp [known] at h; omega
    have hi : iaddrAV 33 2 (.gptr 0 0) (.int .i64 (.ofNat m) 0) = some (.gptr 0 (m * 2)) := by
      show guardO (Nat.blt m 33) (paddV (Nat.mul m 2) (.gptr 0 0)) = _
      rw [show Nat.blt m 33 = true by rw [Nat.blt_eq]; exact hm, show guardO true (paddV (Nat.mul m 2) (.gptr 0 0)) = paddV (Nat.mul m 2) (.gptr 0 0) from rfl, s_paddg, Nat.zero_add]
      rfl
    have hl : ld1V (.gptr 0 (m * 2 + 1)) G H = some (.int .i32 (.ofNat (poolL.getD m 0)) 0) := ld1_of (hG m hm)
    simp only [go_sem, hi, hl]
    exact hk
end Go.RL

/- Contracts, thirteenth part: how many there are of a kind; instructions that are right. -/
namespace Go.RL
open Go.Eng
set_option maxRecDepth 100000
structure Ins where
  code : Int
  arg : Int
def Ins.cells (i : Ins) : LV := [.int .i64 i.code 0, .int .i64 i.arg 0]
structure Bd where
  locals : Int
  stack : Int
  code : List Ins
/- a function that tells how many there are -/
def ManyIs (G : Roms) (H0 : Heap) (n0 : Nat) (v : V) (g : Nat → Int) : Prop :=
  ∃ f a c, v = .fn f a c ∧ ∀ (q : Nat) {H : Heap} {n : Nat} {k : KV}, Kp H0 n0 H n → k (.int .i64 (g q) 0) H n → Runs F G f (cat a (cat [.int .i32 (.ofNat q) 0] c)) H n k
def insOk (g : Nat → Int) (i : Ins) : Bool :=
  known i.code && bif decide (poolN i.code = 0) then decide (i.arg = 0) else (decide (0 ≤ i.arg) && decide (i.arg < g (poolN i.code)))
theorem vsame_int (q : IntKind) (a : Int) : vsame (.int q a 0) (.int q a 0) = true := by
  show vsame1 (.int q a 0) (.int q a 0) = true
  simp [vsame1, smInt, band_eq, keq_eq, ieq_eq]
theorem re_int (q : IntKind) (a : Int) (P : Prop) : onRe (.bool true) true (some (.int q a 0)) (.int q a 0) P = P := by
  show onB (vsame (.int q a 0) (.int q a 0)) P = P
  rw [vsame_int]; rfl
theorem eq_32 (x y : Nat) : eqV (.one .int) false (.int .i32 (.ofNat x) 0) (.int .i32 (.ofNat y) 0) = some (.bool (decide (x = y))) := by
  show ofB (bbind (some (ieq (.ofNat x) (.ofNat y))) fun b => some b) = _
  rw [ieq_eq, show (Int.ofNat x == Int.ofNat y) = decide (x = y) by rw [Bool.eq_iff_iff]; simp; omega]; cases decide (x = y) <;> rfl
theorem eq_0 (x : Int) : eqV (.one .int) false (.int .i64 x 0) (.int .i64 (.ofNat 0) 0) = some (.bool (decide (x = 0))) := by
  rw [eq_i, show (x == Int.ofNat 0) = decide (x = 0) by rw [Bool.eq_iff_iff]; simp]
theorem InstrRight_c {G : Roms} (hG : OpTab G) {i : Ins} {v : V} {g : Nat → Int} {H : Heap} {n : Nat} {k : KV} (hv : ManyIs G H n v g)
    (hk : ∀ H' n', Kp H n H' n' → k (.bool (insOk g i)) H' n') : Runs F G n_op_Instr_Right [.agg i.cells, v] H n k := by
  refine runs_s (s := ar2 (s_op_Instr_Right lfp G)) at_op_Instr_Right (by obtain ⟨h, o⟩ := si_op_Instr_Right lfp_ok G; rw [at_op_Instr_Right] at h; cases h; exact o) ?_
  show s_op_Instr_Right lfp G (Runs F G) (.agg i.cells) v H n k
  delta s_op_Instr_Right
  unfold insOk at hk
  unfold Ins.cells
  have f1 : Kp H n (T.set H n (one [V.int .i64 i.code 0, .int .i64 i.arg 0])) (n + 1) := (Kp.refl H n).new _ (Nat.le_refl _) (by omega)
  have hg := T.get_set H n (one [V.int .i64 i.code 0, .int .i64 i.arg 0])
  simp only [go_sem]
  generalize T.set H n (one [V.int .i64 i.code 0, .int .i64 i.arg 0]) = H1 at f1 hg ⊢
  have e0 : ld1V (.ptr n 0) G H1 = some (.int .i64 i.code 0) := ld1_one hg rfl
  have e1 : ld1V (.ptr n 1) G H1 = some (.int .i64 i.arg 0) := ld1_one hg rfl
  refine Known_c ?_
  simp only [s_notB]
  cases h : known i.code with
  | false =>
    rw [h] at hk
    simp only [Bool.not_false, go_sem]
    exact hk _ _ f1
  | true =>
    rw [h] at hk
    simp only [Bool.not_true, go_sem, Nat.reduceAdd, e0]
    refine CodePool_c hG ?_
    simp only [go_sem, eq_32]
    cases h0 : decide (poolN i.code = 0) with
    | true =>
      rw [h0] at hk
      simp only [go_sem, Nat.reduceAdd, e1, eq_0]
      exact hk _ _ f1
    | false =>
      rw [h0] at hk
      simp only [go_sem, Nat.reduceAdd, e1, geq_i]
      rw [show decide (Int.ofNat 0 ≤ i.arg) = decide (0 ≤ i.arg) from rfl]
      cases h2 : decide (0 ≤ i.arg) with
      | false =>
        rw [h2] at hk
        simp only [go_sem]
        exact hk _ _ f1
      | true =>
        rw [h2] at hk
        obtain ⟨f, a, c, rfl, hf⟩ := hv
        simp only [go_sem, Nat.reduceAdd, e1]
        show Runs F G f (cat a (cat [_] c)) H1 (n + 1) _
        refine hf _ f1 ?_
        simp only [go_sem, e1, re_int, lssI]
        exact hk _ _ f1
end Go.RL

/- Contracts, fourteenth part: files: how many of a kind. -/
namespace Go.RL
open Go.Eng
set_option maxRecDepth 100000
structure Fl where
  face : Fc
  pool : Pool
  bodies : List Bd
def mny (p : Pool) (b : Bd) (q : Nat) : Int :=
  bif decide (q = 110) then p.nums.length else bif decide (q = 99) then p.names.length else bif decide (q = 116) then p.types.length else bif decide (q = 102) then p.fields.length else
  bif decide (q = 109) then p.meths.length else bif decide (q = 108) then b.locals else bif decide (q = 106) then b.code.length else 2
theorem many_is {G : Roms} {p : Pool} {b : Bd} {c0 c1 c2 c3 v0 v1 v2 v3 v4 vb vc : V} {ws : List V} {H : Heap} {n i j : Nat} (hi : i < n) (hj : j < n) (h : PoolAt G H n p v0 v1 v2 v3 v4 ws)
    (hc : El G H vc 2 (b.code.map Ins.cells)) 
    (gi : T.get H i = some (one [c0, c1, c2, c3, v0, v1, v2, v3, v4, vb])) (gj : T.get H j = some (one [V.int .i64 b.locals 0, .int .i64 b.stack 0, vc])) :
    ManyIs G H n (.fn n_class_File_many_1 [] [.ptr i 0, .ptr j 0]) (mny p b) := by
  refine ⟨_, _, _, rfl, fun q {H2 n2 k} f hk => ?_⟩
  have gi : T.get H2 i = _ := (f.same i hi).trans gi
  have gj : T.get H2 j = _ := (f.same j hj).trans gj
  show Runs F G n_class_File_many_1 [.int .i32 (.ofNat q) 0, .ptr i 0, .ptr j 0] H2 n2 k
  refine runs_s (s := ar3 (s_class_File_many_1 lfp G)) at_class_File_many_1 (by obtain ⟨h, o⟩ := si_class_File_many_1 lfp_ok G; rw [at_class_File_many_1] at h; cases h; exact o) ?_
  show s_class_File_many_1 lfp G (Runs F G) (.int .i32 (.ofNat q) 0) (.ptr i 0) (.ptr j 0) H2 n2 k
  delta s_class_File_many_1
  have l0 : lenV v0 = some (.int .i64 (.ofNat p.nums.length) 0) := by rw [h.e0.len, List.length_map]
  have l1 : lenV v1 = some (.int .i64 (.ofNat p.names.length) 0) := by rw [h.e1.len, strs_len]
  have l3 : lenV v3 = some (.int .i64 (.ofNat p.fields.length) 0) := by rw [h.e3.len, List.length_map]
  have l4 : lenV v4 = some (.int .i64 (.ofNat p.meths.length) 0) := by rw [h.e4.len, List.length_zipWith, h.len4, Nat.min_self]
  have lc : lenV vc = some (.int .i64 (.ofNat b.code.length) 0) := by rw [hc.len, List.length_map]
  have e4 : ld1V (.ptr i 4) G H2 = some v0 := ld1_one gi rfl
  have e5 : ld1V (.ptr i 5) G H2 = some v1 := ld1_one gi rfl
  have e6 : ld1V (.ptr i 6) G H2 = some v2 := ld1_one gi rfl
  have e7 : ld1V (.ptr i 7) G H2 = some v3 := ld1_one gi rfl
  have e8 : ld1V (.ptr i 8) G H2 = some v4 := ld1_one gi rfl
  have f0 : ld1V (.ptr j 0) G H2 = some (.int .i64 b.locals 0) := ld1_one gj rfl
  have f2 : ld1V (.ptr j 2) G H2 = some vc := ld1_one gj rfl
  unfold mny at hk
  simp only [go_sem, eq_32]
  cases h1 : decide (q = 110) with
  | true => rw [h1] at hk; simp only [go_sem, Nat.reduceAdd, e4, l0]; exact hk
  | false =>
    rw [h1] at hk; simp only [go_sem, eq_32]
    cases h2 : decide (q = 99) with
    | true => rw [h2] at hk; simp only [go_sem, Nat.reduceAdd, e5, l1]; exact hk
    | false =>
      rw [h2] at hk; simp only [go_sem, eq_32]
      cases h3 : decide (q = 116) with
      | true => rw [h3] at hk; simp only [go_sem, Nat.reduceAdd, e6, h.t2.len]; exact hk
      | false =>
        rw [h3] at hk; simp only [go_sem, eq_32]
        cases h4 : decide (q = 102) with
        | true => rw [h4] at hk; simp only [go_sem, Nat.reduceAdd, e7, l3]; exact hk
        | false =>
          rw [h4] at hk; simp only [go_sem, eq_32]
          cases h5 : decide (q = 109) with
          | true => rw [h5] at hk; simp only [go_sem, Nat.reduceAdd, e8, l4]; exact hk
          | false =>
            rw [h5] at hk; simp only [go_sem, eq_32]
            cases h6 : decide (q = 108) with
            | true => rw [h6] at hk; simp only [go_sem, Nat.reduceAdd, f0]; exact hk
            | false =>
              rw [h6] at hk; simp only [go_sem, eq_32]
              cases h7 : decide (q = 106) with
              | true => rw [h7] at hk; simp only [go_sem, Nat.reduceAdd, f2, lc]; exact hk
              | false => rw [h7] at hk; simp only [go_sem]; exact hk
theorem FileMany_c {G : Roms} {p : Pool} {b : Bd} {c0 c1 c2 c3 v0 v1 v2 v3 v4 vb vc : V} {ws : List V} {H : Heap} {n : Nat} {k : KV} (h : PoolAt G H n p v0 v1 v2 v3 v4 ws)
    (hc : El G H vc 2 (b.code.map Ins.cells)) (hl : Lo vc n)
    (hk : ∀ H' n' v, Kp H n H' n' → ManyIs G H' n' v (mny p b) → k v H' n') :
    Runs F G n_class_File_many [.agg [c0, c1, c2, c3, v0, v1, v2, v3, v4, vb], .agg [V.int .i64 b.locals 0, .int .i64 b.stack 0, vc]] H n k := by
  refine runs_s (s := ar2 (s_class_File_many lfp G)) at_class_File_many (by obtain ⟨h, o⟩ := si_class_File_many lfp_ok G; rw [at_class_File_many] at h; cases h; exact o) ?_
  show s_class_File_many lfp G (Runs F G) (.agg [c0, c1, c2, c3, v0, v1, v2, v3, v4, vb]) (.agg [V.int .i64 b.locals 0, .int .i64 b.stack 0, vc]) H n k
  delta s_class_File_many
  simp only [go_sem]
  have f1 := ((Kp.refl H n).new (m := n + 1) (id := n) (one [c0, c1, c2, c3, v0, v1, v2, v3, v4, vb]) (Nat.le_refl _) (by omega)).new (m := n + 1 + 1) (id := n + 1) (one [V.int .i64 b.locals 0, .int .i64 b.stack 0, vc]) (by omega) (by omega)
  exact hk _ _ _ f1 (many_is (by omega) (by omega) (h.kp f1) (hc.kp hl f1) (by rw [T.get_set_ne _ _ (by omega), T.get_set]) (T.get_set ..))
end Go.RL

/- Contracts, fifteenth part: files: their bodies. -/
namespace Go.RL
open Go.Eng
set_option maxRecDepth 100000
def Bd.cells (b : Bd) (w : V) : LV := [.int .i64 b.locals 0, .int .i64 b.stack 0, w]
structure CodeAt (G : Roms) (H : Heap) (n : Nat) (v : V) (is : List Ins) : Prop where
  el : El G H v 2 (is.map Ins.cells)
  lo : Lo v n
  lt : is.length < big
theorem CodeAt.kp {G : Roms} {H H' : Heap} {n n' : Nat} {v : V} {is : List Ins} (h : CodeAt G H n v is) (f : Kp H n H' n') : CodeAt G H' n' v is := ⟨h.el.kp h.lo f, h.lo.mono f.le, h.lt⟩
structure BodiesAt (G : Roms) (H : Heap) (n : Nat) (v : V) (bs : List Bd) (ws : List V) : Prop where
  el : El G H v 3 (List.zipWith Bd.cells bs ws)
  lo : Lo v n
  lt : bs.length < big
  len : ws.length = bs.length
  at' : ∀ (i : Nat) (b : Bd) (w : V), bs[i]? = some b → ws[i]? = some w → CodeAt G H n w b.code
theorem BodiesAt.kp {G : Roms} {H H' : Heap} {n n' : Nat} {v : V} {bs : List Bd} {ws : List V} (h : BodiesAt G H n v bs ws) (f : Kp H n H' n') : BodiesAt G H' n' v bs ws :=
  ⟨h.el.kp h.lo f, h.lo.mono f.le, h.lt, h.len, fun i b w x y => (h.at' i b w x y).kp f⟩
theorem vsame_ins (i : Ins) : vsame (.agg i.cells) (.agg i.cells) = true := by
  show vsameL [V.int .i64 i.code 0, .int .i64 i.arg 0] [V.int .i64 i.code 0, .int .i64 i.arg 0] = true
  show band (vsame1 _ _) (band (vsame1 _ _) true) = true
  simp [vsame1, smInt, band_eq, keq_eq, ieq_eq]
/- the loop over a body's instructions -/
theorem FileCode_c {G : Roms} (hG : OpTab G) {p : Pool} {b : Bd} {c0 c1 c2 c3 v0 v1 v2 v3 v4 vb vc x30 x31 x32 : V} {ws : List V} {H : Heap} {n i j : Nat} {k : KV} {ih24 : (V × V × V × V × Heap × Nat) → Prop}
    (hi : i < n) (hj : j < n) (h : PoolAt G H n p v0 v1 v2 v3 v4 ws) (hc : CodeAt G H n vc b.code)
    (gi : T.get H i = some (one [c0, c1, c2, c3, v0, v1, v2, v3, v4, vb])) (gj : T.get H j = some (one (b.cells vc)))
    (hbad : b.code.all (insOk (mny p b)) = false → ∀ H' n', Kp H n H' n' → k (.bool false) H' n')
    (hok : b.code.all (insOk (mny p b)) = true → ∀ H' n', Kp H n H' n' → s_class_File_Right_j26 lfp G (Runs F G) k ih24 (.ptr i 0) x30 x31 x32 H' n') :
    lfp (V × V × V × V × V × V × V × V × Heap × Nat) (s_class_File_Right_l71b lfp G (Runs F G) k ih24) (.ptr i 0, .ptr j 0, x30, x31, x32, vc, .int .i64 (.ofNat b.code.length) 0, .int .i64 (.ofNat 0) 0, H, n) := by
  refine lfp_rule (J := fun m st => ∃ e H2 n2, m = b.code.length - e ∧ e ≤ b.code.length ∧ st = (.ptr i 0, .ptr j 0, x30, x31, x32, vc, .int .i64 (.ofNat b.code.length) 0, .int .i64 (.ofNat e) 0, H2, n2) ∧ Kp H n H2 n2 ∧
    ((b.code.drop e).all (insOk (mny p b)) = false → ∀ H' n', Kp H n H' n' → k (.bool false) H' n') ∧
    ((b.code.drop e).all (insOk (mny p b)) = true → ∀ H' n', Kp H n H' n' → s_class_File_Right_j26 lfp G (Runs F G) k ih24 (.ptr i 0) x30 x31 x32 H' n')) ?_ (m := b.code.length) ⟨0, H, n, rfl, Nat.zero_le _, rfl, Kp.refl _ _, hbad, hok⟩
  rintro I m st ⟨e, H2, n2, rfl, he, rfl, f, hbad, hok⟩ ih
  show s_class_File_Right_l71 lfp G (Runs F G) k ih24 I (.ptr i 0) (.ptr j 0) x30 x31 x32 vc (.int .i64 (.ofNat b.code.length) 0) (.int .i64 (.ofNat e) 0) H2 n2
  delta s_class_File_Right_l71
  by_cases hlt : e < b.code.length
  · have hc2 := hc.kp f
    obtain ⟨q, hp, hld⟩ := hc2.el.at (i := e) (c := b.code[e].cells) (by simp [hlt])
    have hbig := hc.lt
    rw [List.drop_eq_getElem_cons hlt, List.all_cons] at hbad hok
    generalize b.code[e] = s at hld hbad hok
    have hs := vsame_ins s
    unfold Ins.cells at hld hs
    simp only [go_sem, Nat.reduceAdd, lss_n, hlt, decide_true, hp, ldn_of hld]
    have f2 : Kp H2 n2 (T.set (T.set H2 n2 (one [.int .i64 (.ofNat 0) 0, .int .i64 (.ofNat 0) 0])) n2 (one [.int .i64 s.code 0, .int .i64 s.arg 0])) (n2 + 1) :=
      ((Kp.refl _ _).new (m := n2 + 1) _ (Nat.le_refl _) (by omega)).new _ (Nat.le_refl _) (Nat.le_refl _)
    have hg := T.get_set (T.set H2 n2 (one [.int .i64 (.ofNat 0) 0, .int .i64 (.ofNat 0) 0])) n2 (one [V.int .i64 s.code 0, .int .i64 s.arg 0])
    generalize T.set (T.set H2 n2 (one [.int .i64 (.ofNat 0) 0, .int .i64 (.ofNat 0) 0])) n2 (one [V.int .i64 s.code 0, .int .i64 s.arg 0]) = H3 at f2 hg ⊢
    have f3 := f.trans f2
    have gi3 : T.get H3 i = _ := (f3.same i hi).trans gi
    have gj3 : T.get H3 j = _ := (f3.same j hj).trans gj
    have e1 : ldnV 2 (.ptr n2 0) G H3 = some (.agg [.int .i64 s.code 0, .int .i64 s.arg 0]) := ldn_all hg (by omega) rfl
    have e2 : ldnV 10 (.ptr i 0) G H3 = some (.agg [c0, c1, c2, c3, v0, v1, v2, v3, v4, vb]) := ldn_all gi3 (by omega) rfl
    have e3 : ldnV 3 (.ptr j 0) G H3 = some (.agg (b.cells vc)) := ldn_all gj3 (by omega) rfl
    simp only [go_sem, Nat.reduceAdd, e1, e2, e3]
    refine FileMany_c (h.kp f3) (hc.kp f3).el (hc.kp f3).lo fun H4 n4 v f4 hv => ?_
    have hg4 : T.get H4 n2 = _ := (f4.same n2 (by omega)).trans hg
    have e4 : ldnV 2 (.ptr n2 0) G H4 = some (.agg [.int .i64 s.code 0, .int .i64 s.arg 0]) := ldn_all hg4 (by omega) rfl
    simp only [go_sem, e4, hs]
    refine InstrRight_c (i := s) hG hv fun H5 n5 f5 => ?_
    have f6 := f3.trans (f4.trans f5)
    simp only [s_notB, go_sem]
    cases h2 : insOk (mny p b) s with
    | false =>
      rw [h2] at hbad
      simp only [Bool.not_false, go_sem]
      exact hbad rfl _ _ f6
    | true =>
      rw [h2] at hbad hok
      simp only [Bool.not_true, go_sem, add_i (show e + 1 < 9223372036854775808 by unfold big at hbig; omega)]
      exact ih _ _ (by omega) ⟨e + 1, _, _, rfl, hlt, rfl, f6, hbad, hok⟩
  · simp only [go_sem, lss_n, hlt, decide_false]
    rw [List.drop_eq_nil_of_le (by omega)] at hok
    exact hok rfl _ _ f
end Go.RL

/- Contracts, sixteenth part: files that are right. -/
namespace Go.RL
open Go.Eng
set_option maxRecDepth 100000
def least (m : Meth) : Nat := bif m.st then m.ps.length else m.ps.length + 1
def bodyOk (p : Pool) (m : Meth) (b : Bd) : Bool :=
  !decide (b.locals < least m) && (!decide ((401 : Int) < b.locals) && (!decide (b.stack < 0) && (!decide ((1000 : Int) < b.stack) && (!decide (b.code.length < 1) && (!decide (16384 < b.code.length) && b.code.all (insOk (mny p b)))))))
def bodiesOk (p : Pool) : List Meth → List Bd → Bool
  | m :: ms, b :: bs => bodyOk p m b && bodiesOk p ms bs
  | _, _ => true
theorem FileBody_c {G : Roms} (hG : OpTab G) {p : Pool} {m : Meth} {b : Bd} {c0 c1 c2 c3 v0 v1 v2 v3 v4 vb vc x30 x31 x32 : V} {ws : List V} {H : Heap} {n i j : Nat} {k : KV} {ih24 : (V × V × V × V × Heap × Nat) → Prop}
    (hi : i < n) (hj : j < n) (h : PoolAt G H n p v0 v1 v2 v3 v4 ws) (hc : CodeAt G H n vc b.code)
    (gi : T.get H i = some (one [c0, c1, c2, c3, v0, v1, v2, v3, v4, vb])) (gj : T.get H j = some (one (b.cells vc)))
    (hbad : bodyOk p m b = false → ∀ H' n', Kp H n H' n' → k (.bool false) H' n')
    (hok : bodyOk p m b = true → ∀ H' n', Kp H n H' n' → s_class_File_Right_j26 lfp G (Runs F G) k ih24 (.ptr i 0) x30 x31 x32 H' n') :
    s_class_File_Right_j42 lfp G (Runs F G) k ih24 (.ptr i 0) (.ptr j 0) (.int .i64 (.ofNat (least m)) 0) x30 x31 x32 H n := by
  delta s_class_File_Right_j42
  unfold bodyOk at hbad hok
  unfold Bd.cells at gj
  have f0 : ld1V (.ptr j 0) G H = some (.int .i64 b.locals 0) := ld1_one gj rfl
  have f1 : ld1V (.ptr j 1) G H = some (.int .i64 b.stack 0) := ld1_one gj rfl
  have f2 : ld1V (.ptr j 2) G H = some vc := ld1_one gj rfl
  have lc : lenV vc = some (.int .i64 (.ofNat b.code.length) 0) := by rw [hc.el.len, List.length_map]
  simp only [go_sem, Nat.reduceAdd, f0, lssI]
  rw [show decide (b.locals < Int.ofNat (least m)) = decide (b.locals < least m) from rfl]
  cases h1 : decide (b.locals < least m) with
  | true => rw [h1] at hbad; simp only [go_sem]; exact hbad rfl _ _ (Kp.refl _ _)
  | false =>
    rw [h1] at hbad hok; simp only [go_sem, Nat.reduceAdd, f0, gtr_i]
    rw [show decide (Int.ofNat 401 < b.locals) = decide ((401 : Int) < b.locals) from rfl]
    cases h2 : decide ((401 : Int) < b.locals) with
    | true => rw [h2] at hbad; simp only [go_sem]; exact hbad rfl _ _ (Kp.refl _ _)
    | false =>
      rw [h2] at hbad hok; simp only [go_sem, Nat.reduceAdd, f1, lssI]
      rw [show decide (b.stack < Int.ofNat 0) = decide (b.stack < 0) from rfl]
      cases h3 : decide (b.stack < 0) with
      | true => rw [h3] at hbad; simp only [go_sem]; exact hbad rfl _ _ (Kp.refl _ _)
      | false =>
        rw [h3] at hbad hok; simp only [go_sem, Nat.reduceAdd, f1, gtr_i]
        rw [show decide (Int.ofNat 1000 < b.stack) = decide ((1000 : Int) < b.stack) from rfl]
        cases h4 : decide ((1000 : Int) < b.stack) with
        | true => rw [h4] at hbad; simp only [go_sem]; exact hbad rfl _ _ (Kp.refl _ _)
        | false =>
          rw [h4] at hbad hok; simp only [go_sem, Nat.reduceAdd, f2, lc, lss_n]
          cases h5 : decide (b.code.length < 1) with
          | true => rw [h5] at hbad; simp only [go_sem]; exact hbad rfl _ _ (Kp.refl _ _)
          | false =>
            rw [h5] at hbad hok; simp only [go_sem, Nat.reduceAdd, f2, lc, gtr_n]
            cases h6 : decide (16384 < b.code.length) with
            | true => rw [h6] at hbad; simp only [go_sem]; exact hbad rfl _ _ (Kp.refl _ _)
            | false =>
              rw [h6] at hbad hok; simp only [go_sem, Nat.reduceAdd, f2, lc]
              exact FileCode_c hG hi hj h hc gi gj hbad hok
theorem FileBodies_c {G : Roms} (hG : OpTab G) {p : Pool} {c : Fc} {bs : List Bd} {vf vm v0 v1 v2 v3 v4 vb : V} {mws ws bws : List V} {H : Heap} {n i : Nat} {k : KV}
    (hi : i < n) (hm : MethsAt G H n vm c.ms mws) (h : PoolAt G H n p v0 v1 v2 v3 v4 ws) (hb : BodiesAt G H n vb bs bws) (hlen : bs.length = c.ms.length) (h200 : ∀ m ∈ c.ms, m.ps.length ≤ 200)
    (gi : T.get H i = some (one [c.nm.v, c.sup.v, vf, vm, v0, v1, v2, v3, v4, vb]))
    (hk : ∀ H' n', Kp H n H' n' → k (.bool (bodiesOk p c.ms bs)) H' n') :
    lfp (V × V × V × V × Heap × Nat) (s_class_File_Right_l24b lfp G (Runs F G) k) (.ptr i 0, vb, .int .i64 (.ofNat bs.length) 0, .int .i64 (.ofNat 0) 0, H, n) := by
  refine lfp_rule (J := fun m st => ∃ e H2 n2, m = bs.length - e ∧ e ≤ bs.length ∧ st = (.ptr i 0, vb, .int .i64 (.ofNat bs.length) 0, .int .i64 (.ofNat e) 0, H2, n2) ∧ Kp H n H2 n2 ∧
    (∀ H' n', Kp H n H' n' → k (.bool (bodiesOk p (c.ms.drop e) (bs.drop e))) H' n')) ?_ (m := bs.length) ⟨0, H, n, rfl, Nat.zero_le _, rfl, Kp.refl _ _, hk⟩
  rintro I m st ⟨e, H2, n2, rfl, he, rfl, f, hk⟩ ih
  show s_class_File_Right_l24 lfp G (Runs F G) k I (.ptr i 0) vb (.int .i64 (.ofNat bs.length) 0) (.int .i64 (.ofNat e) 0) H2 n2
  delta s_class_File_Right_l24
  by_cases hlt : e < bs.length
  · have hlt' : e < c.ms.length := by omega
    have hw : e < bws.length := by rw [hb.len]; exact hlt
    have hb2 := hb.kp f
    obtain ⟨q, hp, hld⟩ := hb2.el.at (i := e) (c := bs[e].cells bws[e]) (by rw [List.getElem?_zipWith]; simp [hlt, hw])
    have hcode := hb2.at' e _ _ (List.getElem?_eq_getElem hlt) (List.getElem?_eq_getElem hw)
    have hbig := hb.lt
    rw [List.drop_eq_getElem_cons hlt, List.drop_eq_getElem_cons hlt'] at hk
    unfold bodiesOk at hk
    generalize bs[e] = b at hld hcode hk
    generalize bws[e] = w at hld hcode
    unfold Bd.cells at hld
    simp only [go_sem, Nat.reduceAdd, lss_n, hlt, decide_true, hp, ldn_of hld]
    have f2 : Kp H2 n2 (T.set (T.set H2 n2 (one [.int .i64 (.ofNat 0) 0, .int .i64 (.ofNat 0) 0, .nils])) n2 (one [.int .i64 b.locals 0, .int .i64 b.stack 0, w])) (n2 + 1) :=
      ((Kp.refl _ _).new (m := n2 + 1) _ (Nat.le_refl _) (by omega)).new _ (Nat.le_refl _) (Nat.le_refl _)
    have gj := T.get_set (T.set H2 n2 (one [.int .i64 (.ofNat 0) 0, .int .i64 (.ofNat 0) 0, .nils])) n2 (one [V.int .i64 b.locals 0, .int .i64 b.stack 0, w])
    generalize T.set (T.set H2 n2 (one [.int .i64 (.ofNat 0) 0, .int .i64 (.ofNat 0) 0, .nils])) n2 (one [V.int .i64 b.locals 0, .int .i64 b.stack 0, w]) = H3 at f2 gj ⊢
    have f3 := f.trans f2
    have gi3 : T.get H3 i = _ := (f3.same i hi).trans gi
    obtain ⟨q2, w2, hp2, hld2, hps⟩ := (hm.kp f3).at hlt'
    have hps2 := h200 _ (List.getElem_mem hlt')
    generalize c.ms[e] = mt at hld2 hps hk hps2
    unfold Meth.cells at hld2
    have e3 : ld1V (.ptr i 3) G H3 = some vm := ld1_one gi3 rfl
    simp only [go_sem, Nat.reduceAdd, e3, hp2, ldn_of hld2, hps.len]
    have f4 : Kp H3 (n2 + 1) (T.set (T.set H3 (n2 + 1) (one [.str 0 0, .bool false, .nils, .str 0 0, .bool false])) (n2 + 1) (one [mt.nm.v, .bool mt.st, w2, mt.ret.nm.v, .bool mt.ret.arr])) (n2 + 1 + 1) :=
      ((Kp.refl _ _).new (m := n2 + 1 + 1) _ (Nat.le_refl _) (by omega)).new _ (Nat.le_refl _) (Nat.le_refl _)
    generalize T.set (T.set H3 (n2 + 1) (one [.str 0 0, .bool false, .nils, .str 0 0, .bool false])) (n2 + 1) (one [mt.nm.v, .bool mt.st, w2, mt.ret.nm.v, .bool mt.ret.arr]) = H4 at f4 ⊢
    have f5 := f3.trans f4
    have gi4 : T.get H4 i = _ := (f5.same i hi).trans gi
    have gj4 : T.get H4 n2 = _ := (f4.same n2 (by omega)).trans gj
    have hgo : s_class_File_Right_j42 lfp G (Runs F G) k I (.ptr i 0) (.ptr n2 0) (.int .i64 (.ofNat (least mt)) 0) vb (.int .i64 (.ofNat bs.length) 0) (.int .i64 (.ofNat e) 0) H4 (n2 + 1 + 1) := by
      refine FileBody_c hG (p := p) (m := mt) (b := b) (by have := f.le; omega) (by omega) (h.kp f5) (hcode.kp (f2.trans f4)) gi4 gj4 ?_ ?_
      · intro hbad H' n' f'
        rw [hbad] at hk
        exact hk _ _ (f5.trans f')
      · intro hok H' n' f'
        rw [hok] at hk
        delta s_class_File_Right_j26
        simp only [go_sem, add_i (show e + 1 < 9223372036854775808 by unfold big at hbig; omega)]
        exact ih _ _ (by omega) ⟨e + 1, _, _, rfl, hlt, rfl, f5.trans f', hk⟩
    simp only [s_notB]
    unfold least at hgo
    cases hst : mt.st with
    | true => rw [hst] at hgo; simp only [Bool.not_true, go_sem]; exact hgo
    | false => rw [hst] at hgo; simp only [Bool.not_false, go_sem, add_i (show mt.ps.length + 1 < 9223372036854775808 by omega)]; exact hgo
  · simp only [go_sem, lss_n, hlt, decide_false]
    delta s_class_File_Right_j20
    rw [List.drop_eq_nil_of_le (by omega), List.drop_eq_nil_of_le (by omega)] at hk
    exact hk _ _ f
theorem methsOk_200 : ∀ {a : St} {ms : List Meth}, methsOk a ms = true → ∀ m ∈ ms, m.ps.length ≤ 200
  | _, [], _ => fun m hm => by cases hm
  | a, m :: ms, h => by
    simp [methsOk] at h
    intro m' hm'
    rcases List.mem_cons.1 hm' with rfl | hm'
    · omega
    · exact methsOk_200 h.2.2.2.2.2 m' hm'
theorem faceOk_200 {c : Fc} (h : faceOk c = true) : ∀ m ∈ c.ms, m.ps.length ≤ 200 := by
  simp [faceOk] at h
  exact methsOk_200 h.2.2.2.2.2.2.2
/- a file: ten cells -/
structure FileAt (G : Roms) (H : Heap) (n : Nat) (L : LV) (f : Fl) (vf vm v0 v1 v2 v3 v4 vb : V) (mws ws bws : List V) : Prop where
  is : L = [f.face.nm.v, f.face.sup.v, vf, vm, v0, v1, v2, v3, v4, vb]
  face : FaceAt G H n [f.face.nm.v, f.face.sup.v, vf, vm] f.face vf vm mws
  pool : PoolAt G H n f.pool v0 v1 v2 v3 v4 ws
  bodies : BodiesAt G H n vb f.bodies bws
noncomputable def fileOk (f : Fl) : Bool := faceOk f.face && (poolOk f.pool && (decide (f.bodies.length = f.face.ms.length) && bodiesOk f.pool f.face.ms f.bodies))
theorem FileRight_c {G : Roms} (hG : OpTab G) {L : LV} {f : Fl} {vf vm v0 v1 v2 v3 v4 vb : V} {mws ws bws : List V} {H : Heap} {n : Nat} {k : KV} (h : FileAt G H n L f vf vm v0 v1 v2 v3 v4 vb mws ws bws)
    (hk : ∀ H' n', Kp H n H' n' → k (.bool (fileOk f)) H' n') : Runs F G n_class_File_Right [.agg L] H n k := by
  refine runs_s (s := ar1 (s_class_File_Right lfp G)) at_class_File_Right (by obtain ⟨h, o⟩ := si_class_File_Right lfp_ok G; rw [at_class_File_Right] at h; cases h; exact o) ?_
  show s_class_File_Right lfp G (Runs F G) (.agg L) H n k
  obtain ⟨rfl, hf, hp, hb⟩ := h
  delta s_class_File_Right
  unfold fileOk at hk
  simp only [go_sem]
  have f1 : Kp H n (T.set H n (one [f.face.nm.v, f.face.sup.v, vf, vm, v0, v1, v2, v3, v4, vb])) (n + 1) := (Kp.refl H n).new _ (Nat.le_refl _) (by omega)
  have hg := T.get_set H n (one [f.face.nm.v, f.face.sup.v, vf, vm, v0, v1, v2, v3, v4, vb])
  generalize T.set H n (one [f.face.nm.v, f.face.sup.v, vf, vm, v0, v1, v2, v3, v4, vb]) = H1 at f1 hg ⊢
  have e1 : ldnV 4 (.ptr n 0) G H1 = some (.agg [f.face.nm.v, f.face.sup.v, vf, vm]) := ldn_one hg (by omega) (by show 4 ≤ 10; omega)
  simp only [go_sem, e1]
  refine FaceRight_c (hf.kp f1) fun H2 n2 f2 => ?_
  have hg : T.get H2 n = _ := (f2.same n (by omega)).trans hg
  have f3 := f1.trans f2
  simp only [s_notB]
  cases h1 : faceOk f.face with
  | false => rw [h1] at hk; simp only [Bool.not_false, go_sem]; exact hk _ _ f3
  | true =>
    rw [h1] at hk
    have e2 : ldnV 5 (.ptr n 4) G H2 = some (.agg [v0, v1, v2, v3, v4]) := ldn_one hg (by omega) (by show 9 ≤ 10; omega)
    simp only [Bool.not_true, go_sem, Nat.reduceAdd, e2]
    refine PoolRight_c (hp.kp f3) fun H4 n4 f4 => ?_
    have hg : T.get H4 n = _ := (f4.same n (by have := f2.le; omega)).trans hg
    have f5 := f3.trans f4
    simp only [s_notB, go_sem]
    cases h2 : poolOk f.pool with
    | false => rw [h2] at hk; simp only [Bool.not_false, go_sem]; exact hk _ _ f5
    | true =>
      rw [h2] at hk
      have e9 : ld1V (.ptr n 9) G H4 = some vb := ld1_one hg rfl
      have e3 : ld1V (.ptr n 3) G H4 = some vm := ld1_one hg rfl
      have lb : lenV vb = some (.int .i64 (.ofNat f.bodies.length) 0) := by rw [hb.el.len, List.length_zipWith, hb.len, Nat.min_self]
      have lm : lenV vm = some (.int .i64 (.ofNat f.face.ms.length) 0) := hf.ms.len'
      simp only [Bool.not_true, go_sem, Nat.reduceAdd, e9, e3, lb, lm, ne_n]
      cases h3 : decide (f.bodies.length = f.face.ms.length) with
      | false => rw [h3] at hk; simp only [Bool.not_false, go_sem]; exact hk _ _ f5
      | true =>
        rw [h3] at hk
        simp only [Bool.not_true, go_sem, Nat.reduceAdd, e9, lb]
        exact FileBodies_c hG (c := f.face) (by have := f2.le; have := f4.le; omega) (hf.ms.kp f5) (hp.kp f5) (hb.kp f5) (of_decide_eq_true h3) (faceOk_200 h1) hg fun H' n' f' => hk _ _ (f5.trans f')
end Go.RL

