/- Part of a proof: texts VUG VUH VUI VUJ VUK VUM VUL of the engine and what is proved with it; nothing is assumed. -/
import Derived.Test.YtibbhhkcjjeclaaDoorConE
import Derived.Test.YtibbhhkcjjeclaaDoorConB
import Derived.Test.YtibbhhkcjjeclaaDoorConA
set_option linter.unusedVariables false
set_option linter.unusedSimpArgs false
namespace Go.RL
open Go.Ba
set_option maxRecDepth 100000
def KY (xs : List Int) : List Ins := xs.map fun x => xg (qC x)
def aB (xs : List Int) : Df := xs.map fun x => [.int .i64 x 0]
section
variable {G : AL} {H : Heap} {n : Nat} {k : KV}
theorem ALj {ih41 : (V × V × V × V × V × V × V × V × V × V × Heap × Nat) -> Prop} {a0 a2 a3 a4 a12 a13 a14 a15 a16 a52 a53 a54 v : V} {nb : Nat} {xs : List Int} {code : List Ins} (h4 : El G H a4 1 (aB xs)) (hl : Lo a4 nb) (hx : xs.length <= 20) (hc : code.length <= 60) (hn : nb <= n)
    (hv : Sk H 2 (fun id => nb <= id /\ id < n) v (code.map Ins.cells))
    (hk : ∀ H' n' v', n <= n' -> (∀ id, id < nb -> T.get H' id = T.get H id) -> Sk H' 2 (fun id => nb <= id /\ id < n') v' ((code ++ KY xs).map Ins.cells) -> Dp lfp G (Runs F G) k ih41 a0 a2 a3 a4 a12 a13 a14 a15 a16 v' a52 a53 a54 H' n') :
    lfp _ (IC lfp G (Runs F G) k ih41) (a0, a2, a3, a4, a12, a13, a14, a15, a16, v, a52, a53, a54, a4, .int .i64 (.ofNat xs.length) 0, .int .i64 (.ofNat 0) 0, H, n) := by
  refine BR (N := xs.length) (J := fun j st => ∃ H' n' v', st = (a0, a2, a3, a4, a12, a13, a14, a15, a16, v', a52, a53, a54, a4, .int .i64 (.ofNat xs.length) 0, .int .i64 (.ofNat j) 0, H', n') /\ n <= n' /\ (∀ id, id < nb -> T.get H' id = T.get H id) /\ j <= xs.length /\ Sk H' 2 (fun id => nb <= id /\ id < n') v' ((code ++ KY (xs.take j)).map Ins.cells)) ?_ ?_ ⟨H, n, v, rfl, Nat.le_refl _, fun _ _ => rfl, Nat.zero_le _, by simpa [KY] using hv⟩
  · rintro I j st hj ⟨H1, n1, v1, rfl, hn1, s1, hjl, hv1⟩ ih
    show Dq lfp G (Runs F G) k ih41 I a0 a2 a3 a4 a12 a13 a14 a15 a16 v1 a52 a53 a54 a4 (.int .i64 (.ofNat xs.length) 0) (.int .i64 (.ofNat j) 0) H1 n1
    delta Dq
    have h41 := h4.same fun id hid => s1 id (hl id hid)
    obtain ⟨p, hp, hld⟩ := h41.at (i := j) (c := [.int .i64 xs[j] 0]) (by simp [aB, hj])
    simp only [go_sem, BI, hj, decide_true, hp, OG hld]
    refine xP (G := G) (vs := [.int .i64 (.ofNat 5) 0, .int .i64 (.ofNat 31) 0, .int .i64 (.ofNat 2) 0, .int .i64 (.ofNat 29) 0, .int .i64 (.ofNat 14) 0, .int .i64 (.ofNat 30) 0]) rfl (by omega) (fun w hw => by simp only [List.mem_cons, List.not_mem_nil, or_false] at hw; rcases hw with rfl | rfl | rfl | rfl | rfl | rfl <;> exact ⟨rfl, rfl⟩) fun H2 f2 _ hel => ?_
    obtain ⟨q1, q2, q3, q4⟩ := AFA xs[j]
    obtain ⟨p6, hp6, hld6⟩ := hel.at (i := qC xs[j]) (c := [.int .i64 (.ofNat (AFD.getD (qC xs[j]) 0)) 0]) (by
      have : ∀ i, i < 6 -> (List.map Am [V.int .i64 (.ofNat 5) 0, .int .i64 (.ofNat 31) 0, .int .i64 (.ofNat 2) 0, .int .i64 (.ofNat 29) 0, .int .i64 (.ofNat 14) 0, .int .i64 (.ofNat 30) 0])[i]? = some [V.int .i64 (.ofNat (AFD.getD i 0)) 0] := fun i h => by
        obtain rfl | rfl | rfl | rfl | rfl | rfl : i = 0 ∨ i = 1 ∨ i = 2 ∨ i = 3 ∨ i = 4 ∨ i = 5 := by omega
        all_goals rfl
      exact this _ q4)
    rw [q1, BA, q2, BA, q3, BA, hp6, BA, OG hld6, BA, show BO [.int .i64 (.ofNat 0) 0, .int .i64 (.ofNat 0) 0] [(0, 1, .c (.int .i64 (.ofNat (AFD.getD (qC xs[j]) 0)) 0))] = some (.agg (xg (qC xs[j])).cells) from rfl, BA]
    have hv2 := hv1.mono (B := fun id => nb <= id /\ id < n1) (H' := H2) (fun _ h => h) fun id h => f2.same id h.2
    have hlen : ((code ++ KY (xs.take j)).map Ins.cells).length <= 80 := by simp [KY]; omega
    refine hv2.app (m := 0) (c := .agg (xg (qC xs[j])).cells) (fun id hid => by have := hv2.own hid; omega) (by omega) rfl rfl (by omega) fun v' H3 hv' hsame hid => ?_
    rw [DF (show j + 1 < 9223372036854775808 by omega), BA]
    refine ih _ ⟨H3, _, v', rfl, by omega, fun id h => ?_, by omega, ?_⟩
    · rw [hsame id (by omega) (fun e => by have := hv2.own e; omega), f2.same id (by omega), s1 id h]
    · have e : (code ++ KY (xs.take (j + 1))).map Ins.cells = (code ++ KY (xs.take j)).map Ins.cells ++ [Am (.agg (xg (qC xs[j])).cells)] := by
        have e1 : KY (xs.take (j + 1)) = KY (xs.take j) ++ [xg (qC xs[j])] := by
          unfold KY; rw [List.take_succ_eq_append_getElem hj, List.map_append]; rfl
        rw [e1, <- List.append_assoc]
        exact List.map_append
      rw [e]
      exact hv' _ ⟨by omega, by omega⟩
  · rintro I st ⟨H1, n1, v1, rfl, hn1, s1, hjl, hv1⟩
    show Dq lfp G (Runs F G) k ih41 I a0 a2 a3 a4 a12 a13 a14 a15 a16 v1 a52 a53 a54 a4 (.int .i64 (.ofNat xs.length) 0) (.int .i64 (.ofNat xs.length) 0) H1 n1
    delta Dq
    simp only [go_sem, BI, Nat.lt_irrefl, decide_false]
    rw [List.take_length] at hv1
    exact hk _ _ _ hn1 s1 hv1
end
theorem AGZ (q : IntKind) (a b : Int) : AI1 (.int q a 0) (.int q b 0) = some (.int q (min a b) 0) := by
 have e : AI1 (.int q a 0) (.int q b 0) = some (.int q (Bool.rec a b (zZ b a)) 0) := by cases q <;> rfl
 rw [e, SE]
 congr 2
 by_cases h : b < a
 ·rw [decide_eq_true h]; show b = _; omega
 ·rw [decide_eq_false h]; show a = _; omega
theorem AE6 {H : Heap} {n b off : Nat} {L : LV} {v : V} {P : KV} (g : T.get H b = some (one L)) (hv : U3 v = true) (hc : Am v = [v]) (ho : off < L.length)
    (h : ∀ H', T.get H' b = some (one (L.take off ++ ([v] ++ L.drop (off + 1)))) -> (∀ j, j ≠ b -> T.get H' j = T.get H j) -> P .undef H' n) : CQ 1 (.ptr b off) v H n P := by
  rw [jl g hv (by rw [hc]; rfl) (by omega) (by omega), hc]
  exact h _ (T.Ac ..) fun j hj => T.AY _ _ (by omega)
theorem AKn (t : Int) : ∃ y : Nat, y <= 31 /\ B2.ev .and (.int .i64 t 0) (.int .i64 (.ofNat 31) 0) = some (.int .i64 (.ofNat y) 0) := by
 refine ⟨wz t 31, (yX t (by omega)).2, ?_⟩
 show BD true (Oa (AHV .i64 t (.ofNat 31)) fun m => some (.int .i64 m 0)) = _
 rw [yJ t (by omega)]; rfl
theorem AHw {x : Int} {y : Nat} (h0 : 0 <= x) (h : x + y < 9223372036854775808) : B2.ev .add (.int .i64 x 0) (.int .i64 (.ofNat y) 0) = some (.int .i64 (x + y) 0) := by
 show some (V.int .i64 (Xo .i64 (uO x (.ofNat y))) 0) = _
 rw [Qx, bJ, show x + Int.ofNat y = x + (y : Int) from rfl, U9 (by omega) (by omega)]
theorem ALC {G : AL} {H : Heap} {z m : Nat} {v : V} {LS : Df} {A : Nat -> Prop} (h : Gr G H m z v LS) (ha : ∀ id, v.SQ = some id -> A id) : Sk H z A v LS := by
 cases h with
 | nil => exact .nil
 | NY hg hc ht hid => exact .NY hg hc ht (ha _ rfl)
theorem AI2 {G : AL} {H : Heap} {n : Nat} {c : Int} {k : KV} (hk : ∀ b, k (.bool b) H n) : Runs F G KC [.int .i64 c 0] H n k := by
 refine BM (s := Jf (GU lfp G)) MN (by obtain ⟨h, o⟩ := UG BL G; rw [MN] at h; cases h; exact o) ?_
 show GU lfp G (Runs F G) (.int .i64 c 0) H n k
 delta GU
 simp only [ACy, BA]
 cases decide (c = Int.ofNat 27) with
 | true =>
  repeat (first | with_reducible refine vO ?_ | with_reducible refine vG ?_)
  exact hk _
 | false =>
  simp only [go_sem, ACy]; exact hk _
structure Bds (G : AL) (H : Heap) (n nb : Nat) (v : V) (bs : List Bd) (ws : List V) : Prop where
 sk : Sk H 3 (fun id => nb <= id /\ id < n) v (List.zipWith Bd.cells bs ws)
 len : ws.length = bs.length
 at' : ∀ (i : Nat) (b : Bd) (w : V), bs[i]? = some b -> ws[i]? = some w -> LZ G H n w b.code /\ ∀ id, w.SQ = some id -> nb <= id /\ v.SQ ≠ some id
theorem Bds.mono {G : AL} {H H' : Heap} {n n' nb : Nat} {v : V} {bs : List Bd} {ws : List V} (h : Bds G H n nb v bs ws) (hn : n <= n') (hs : ∀ id, id < n -> T.get H' id = T.get H id) : Bds G H' n' nb v bs ws :=
 ⟨h.sk.mono (fun id hid => ⟨hid.1, by omega⟩) fun id hid => hs id hid.2, h.len, fun i b w x y => by
  obtain ⟨hc, hd⟩ := h.at' i b w x y
  exact ⟨⟨hc.el.same fun id hid => hs id (hc.lo id hid), hc.lo.mono hn, hc.lt⟩, hd⟩⟩
theorem Bds.app {G : AL} {H : Heap} {n nb : Nat} {v w : V} {bs : List Bd} {ws : List V} {b : Bd} {P : KV} {Z : LV} (h : Bds G H n nb v bs ws) (hw : LZ G H n w b.code) (hne : ∀ id, w.SQ = some id -> nb <= id /\ v.SQ ≠ some id) (hnb : nb <= n) (hb : bs.length <= 1000)
    (hk : ∀ v' H', Bds G H' (n + 2) nb v' (bs ++ [b]) (ws ++ [w]) -> (∀ id, id < nb -> T.get H' id = T.get H id) -> P v' H' (n + 2)) :
    BX (Au 3 1 Z [(0, .c (.agg (b.cells w)))] E0) H n fun w' H n => TU 3 40 v w' G H n P := by
  have hl : (List.zipWith Bd.cells bs ws).length <= 1000 := by rw [List.length_zipWith]; omega
  refine h.sk.app (G := G) (m := 0) (fun id hid => (h.sk.own hid).2) (by omega) rfl rfl (by omega) fun v' H' hv hs hid => ?_
  refine hk v' H' ⟨?_, by simp [h.len], fun i b' w' x y => ?_⟩ fun id hlt => hs id (by omega) fun e => by have := h.sk.own e; omega
  · have e : List.zipWith Bd.cells (bs ++ [b]) (ws ++ [w]) = List.zipWith Bd.cells bs ws ++ [Am (.agg (b.cells w))] := by
      rw [List.zipWith_append h.len.symm]; rfl
    rw [e]
    exact hv _ ⟨by omega, by omega⟩
  · have key : LZ G H n w' b'.code /\ ∀ id, w'.SQ = some id -> nb <= id /\ v.SQ ≠ some id := by
      by_cases hi : i < bs.length
      · rw [List.getElem?_append_left hi] at x
        rw [List.getElem?_append_left (by rw [h.len]; exact hi)] at y
        exact h.at' i b' w' x y
      · rw [List.getElem?_append_right (by omega)] at x
        rw [List.getElem?_append_right (by rw [h.len]; omega), h.len] at y
        have hz : i - bs.length = 0 := by
          have := (List.getElem?_eq_some_iff.1 x).1; simp at this; omega
        rw [hz] at x y
        cases x; cases y
        exact ⟨hw, hne⟩
    obtain ⟨hc, hd⟩ := key
    exact ⟨⟨hc.el.same fun id hid' => hs id (hc.lo id hid') (hd id hid').2, hc.lo.mono (by omega), hc.lt⟩, fun id hid' => ⟨(hd id hid').1, fun e => by
      rw [hid] at e; have := hc.lo id hid'; cases e; omega⟩⟩
section
variable {G : AL} {H : Heap} {n : Nat} {k : KV}
theorem AON (hG : U6 G) {ih41 : (V × V × V × V × V × V × V × V × V × V × Heap × Nat) -> Prop} {a0 a2 a3 a4 a12 a13 a14 a52 a53 wc v : V} {j B nb : Nat} {l s : Int} {xs : List Int} {code code' : List Ins} {bs : List Bd} {ws : List V} (h4 : lenV a4 = some (.int .i64 (.ofNat xs.length) 0)) (hx : xs.length <= 20) (hj : j < 1000)
    (g : T.get H B = some (one [.int .i64 l 0, .int .i64 s 0, wc])) (hB : nb <= B /\ B < n) (hwc : El G H wc 2 (code.map Ins.cells)) (hc0 : 0 < code.length) (hc : code.length <= 60)
    (hb : Bds G H n nb a14 bs ws) (hbB : a14.SQ ≠ some B) (hbl : bs.length <= 1000) (hw : ∀ (i : Nat) (b : Bd) (w : V), bs[i]? = some b -> ws[i]? = some w -> w.SQ ≠ some B) (hv : LZ G H n v code') (hvB : v.SQ ≠ some B) (hok : U3 v = true /\ Am v = [v]) (hvn : ∀ id, v.SQ = some id -> nb <= id /\ a14.SQ ≠ some id) (hnb : nb <= n)
    (hT : ∀ H' n', k (.bool true) H' n')
    (hk : ∀ H' n' v', n <= n' -> (∀ id, id < nb -> T.get H' id = T.get H id) -> Bds G H' n' nb v' (bs ++ [⟨l, s, code'⟩]) (ws ++ [v]) -> ih41 (a0, a2, a3, a4, a12, a13, v', a52, a53, .int .i64 (.ofNat (j + 1)) 0, H', n')) :
    Dp lfp G (Runs F G) k ih41 a0 a2 a3 a4 a12 a13 a14 (.int .i64 (.ofNat j) 0) (.ptr B 0) v a52 a53 (.int .i64 (.ofNat j) 0) H n := by
  delta Dp
  have fin : (AP (AQ 2 (.ptr B 0)) fun v85=> CQ 1 v85 v H n fun v86 H n=> AP (Ae 3 (.ptr B 0) G H) fun v87=>
      BX (Au 3 1 [(.int .i64 (.ofNat 0) 0), (.int .i64 (.ofNat 0) 0), .Aa] [(0, .c v87)] E0) H n fun v88 H n=> TU 3 40 a14 v88 G H n fun v89 H n=>
      Ez lfp G (Runs F G) k ih41 a0 a2 a3 a4 a12 a13 v89 a52 a53 (.int .i64 (.ofNat j) 0) H n) := by
    rw [Zj, BA]
    refine AE6 g hok.1 hok.2 (by show 2 < 3; omega) fun H1 g1 s1 => ?_
    rw [D5 (m := 3) g1 (by omega) rfl, BA]
    have hb1 : Bds G H1 n nb a14 bs ws := ⟨hb.sk.ABJ (fun id hid => hb.sk.own hid) fun id hid => s1 id fun e => hbB (by rw [hid, e]), hb.len, fun i b w x y => by
      obtain ⟨hc, hd⟩ := hb.at' i b w x y
      exact ⟨⟨hc.el.same fun id hid => s1 id fun e => hw i b w x y (by rw [hid, e]), hc.lo, hc.lt⟩, hd⟩⟩
    refine hb1.app (b := ⟨l, s, code'⟩) (w := v) ⟨hv.el.same fun id hid => s1 id fun e => hvB (by rw [hid, e]), hv.lo, hv.lt⟩ hvn hnb hbl fun v' H2 h2 s2 => ?_
    delta Ez
    rw [DF (by omega), BA]
    exact hk _ _ _ (by omega) (fun id hid => (s2 id hid).trans (s1 id (by omega))) h2
  rw [h4, BA, FY, BA]
  cases hd : decide (0 < xs.length) with
  | false =>
    repeat (first | with_reducible refine AQF ?_ | with_reducible refine AQm ?_ | with_reducible refine vO ?_ | with_reducible refine vG ?_)
    simp only [go_sem]
    exact fin
  | true =>
    simp only [go_sem, ADR, Nat.zero_le, decide_true, Nat.reduceAdd, AU (off := 2) g (v := wc) rfl, hwc.len, List.length_map, AHW (show 1 <= code.length by omega) (by omega)]
    have hlt : code.length - 1 < code.length := by omega
    obtain ⟨p, hp, hld⟩ := hwc.at (i := code.length - 1) (c := (code[code.length - 1]'hlt).cells) (by rw [List.getElem?_map, List.getElem?_eq_getElem hlt]; rfl)
    obtain ⟨p', hp', hld'⟩ := YJ hG (o := 0) (x := .int .i64 (code[code.length - 1]'hlt).code 0) hld rfl rfl
    rw [hp]
    simp only [go_sem, hp', hld']
    refine AI2 fun r => ?_
    cases r with
    | false =>
      simp only [go_sem, BK, Bool.not_false]
      exact hT _ _
    | true =>
      simp only [go_sem, BK, Bool.not_true]
      exact fin
end
structure AOD (b : Bd) : Prop where
 l0 : 0 <= b.locals
 l1 : b.locals <= 401
 s0 : 0 <= b.stack
 s1 : b.stack <= 1000
 c0 : 0 < b.code.length
 c1 : b.code.length <= 60
section
variable {G : AL} {H : Heap} {n : Nat} {k : KV}
theorem APB (hG : U6 G) {a0 a2 a3 a4 a12 a13 v vb : V} {nb x y : Nat} {xs : List Int} {bs : List Bd} {bws : List V} (h4 : El G H a4 1 (aB xs)) (l4 : Lo a4 nb) (hx : xs.length <= 20) (hbs : GV G H nb vb bs bws)
    (hin : ∀ b ∈ bs, AOD b) (hbl : bs.length <= 900) (hn : nb <= n) (hx2 : B2.ev .and a2 (.int .i64 (.ofNat 31) 0) = some (.int .i64 (.ofNat x) 0)) (hx31 : x <= 31) (hy2 : B2.ev .and a3 (.int .i64 (.ofNat 31) 0) = some (.int .i64 (.ofNat y) 0)) (hy31 : y <= 31)
    (hv : Bds G H n nb v [] []) (hT : ∀ H' n', k (.bool true) H' n')
    (hk : ∀ H' n' v' ws, n <= n' -> (∀ id, id < nb -> T.get H' id = T.get H id) -> Bds G H' n' nb v' (bs.map (Rl x y (KY xs))) ws -> Du lfp G (Runs F G) k a0 a12 a13 v' H' n') :
    lfp (V × V × V × V × V × V × V × V × V × V × Heap × Nat) (IG lfp G (Runs F G) k) (a0, a2, a3, a4, a12, a13, v, vb, .int .i64 (.ofNat bs.length) 0, .int .i64 (.ofNat 0) 0, H, n) := by
  refine BR (N := bs.length) (J := fun j st => ∃ H' n' v' ws, st = (a0, a2, a3, a4, a12, a13, v', vb, .int .i64 (.ofNat bs.length) 0, .int .i64 (.ofNat j) 0, H', n') /\ n <= n' /\ (∀ id, id < nb -> T.get H' id = T.get H id) /\ Bds G H' n' nb v' ((bs.map (Rl x y (KY xs))).take j) ws) ?_ ?_ ⟨H, n, v, [], rfl, Nat.le_refl _, fun _ _ => rfl, hv⟩
  · rintro I j st hj ⟨H1, n1, v1, ws, rfl, hn1, s1, hb1⟩ ih
    show Dv lfp G (Runs F G) k I a0 a2 a3 a4 a12 a13 v1 vb (.int .i64 (.ofNat bs.length) 0) (.int .i64 (.ofNat j) 0) H1 n1
    delta Dv
    have hjw : j < bws.length := by rw [hbs.len]; exact hj
    have hbi := hin _ (List.getElem_mem hj)
    have hbe := List.getElem?_eq_getElem hj
    obtain ⟨p, hp, hld⟩ := (hbs.el.same fun id hid => s1 id (hbs.lo id hid)).at (i := j) (c := bs[j].cells bws[j]) (by rw [List.getElem?_zipWith]; simp [hj, hjw])
    have hc := hbs.at' j _ _ hbe (List.getElem?_eq_getElem hjw)
    have htk : (bs.map (Rl x y (KY xs))).take (j + 1) = (bs.map (Rl x y (KY xs))).take j ++ [Rl x y (KY xs) bs[j]] := by
      rw [List.take_succ_eq_append_getElem (by simpa using hj), List.getElem_map]
    generalize bs[j] = b at hld hc hbi htk
    generalize bws[j] = wc at hld hc
    obtain ⟨bl, bst, code⟩ := b
    obtain ⟨q1, q2, q3, q4, q5, q6⟩ := hbi
    simp only at q1 q2 q3 q4 q5 q6 hc
    rw [AHp, decide_eq_true hj, BA, zx, hp, BA, CB hld, BA]
    refine Ld rfl fun H2 f2 g2 => ?_
    rw [show Bd.cells ⟨bl, bst, code⟩ wc = [.int .i64 bl 0, .int .i64 bst 0, wc] from rfl, EF (m := 3) g2 (by omega) rfl rfl]
    have g3 := T.Ac H2 n1 (one [.int .i64 bl 0, .int .i64 bst 0, wc])
    have s3 : ∀ id, id < n1 -> T.get (T.set H2 n1 (one [.int .i64 bl 0, .int .i64 bst 0, wc])) id = T.get H1 id := fun id hid => by rw [T.AY _ _ (by omega), f2.same id hid]
    generalize T.set H2 n1 (one [.int .i64 bl 0, .int .i64 bst 0, wc]) = H3 at g3 s3
    rw [Zj, BA, AU (off := 0 + 1) g3 (v := .int .i64 bst 0) rfl, BA, hx2, BA, AHw q3 (by omega), BA, AGZ, BA, Zj, BA]
    refine AE6 g3 rfl rfl (by show 0 + 1 < 3; omega) fun H4 g4 s4 => ?_
    have g4 : T.get H4 n1 = some (one [.int .i64 bl 0, .int .i64 (min 1000 (bst + x)) 0, wc]) := g4
    rw [Zj, BA, AU (off := 0 + 0) g4 (v := .int .i64 bl 0) rfl, BA, hy2, BA, AHw q1 (by omega), BA, AGZ, BA, BA]
    refine AE6 g4 rfl rfl (by show 0 + 0 < 3; omega) fun H5 g5 s5 => ?_
    have g5 : T.get H5 n1 = some (one [.int .i64 (min 401 (bl + y)) 0, .int .i64 (min 1000 (bst + x)) 0, wc]) := g5
    have s5 : ∀ id, id < n1 -> T.get H5 id = T.get H1 id := fun id hid => by rw [s5 id (by omega), s4 id (by omega), s3 id hid]
    refine xP (G := G) (vs := []) rfl (by omega) (fun w hw => by cases hw) fun H6 f6 hg6 _ => ?_
    obtain ⟨t6, hg6⟩ := hg6
    have g6 := (f6.same n1 (by omega)).trans g5
    have s6 : ∀ id, id < n1 -> T.get H6 id = T.get H1 id := fun id hid => by rw [f6.same id (by omega), s5 id hid]
    rw [BA, AU (off := 0 + 2) g6 (v := wc) rfl, BA]
    have hc6 : El G H6 wc 2 (code.map Ins.cells) := hc.el.same fun id hid => by have := hc.lo id hid; rw [s6 id (by omega), s1 id this]
    have h46 : El G H6 a4 1 (aB xs) := h4.same fun id hid => by have := l4 id hid; rw [s6 id (by omega), s1 id this]
    obtain ⟨i0, rest, rfl⟩ : ∃ i0 rest, code = i0 :: rest := by
      cases code with
      | nil => simp at q5
      | cons a l => exact ⟨a, l, rfl⟩
    have hlen : (List.map Ins.cells (i0 :: rest)).length <= 60 := by rw [List.length_map]; exact q6
    refine qY (t := .e) (a := i0.cells) (NS := rest.map Ins.cells) (by omega) hc6.2 (by have : (i0.cells :: List.map Ins.cells rest).length <= 60 := hlen; omega) fun v7 H7 hgr7 s7 hid7 => ?_
    have h47 : El G H7 a4 1 (aB xs) := h46.same fun id hid => by have := l4 id hid; exact s7 id (by omega)
    rw [h47.len, BA, show (aB xs).length = xs.length by unfold aB; rw [List.length_map]]
    have l1 : Lo a4 (n1 + 1) := fun id hid => by have := l4 id hid; omega
    refine ALj (nb := n1 + 1) (code := i0 :: rest) h47 l1 hx q6 (by omega) (ALC hgr7 fun id hid => ⟨by have := hid7 id hid; omega, by have := hid7 id hid; omega⟩) fun H8 n8 v8 hn8 s8 hv8 => ?_
    have low : ∀ id, id < n1 -> T.get H8 id = T.get H1 id := fun id hid => by rw [s8 id (by omega), s7 id (by omega), s6 id hid]
    have g8 : T.get H8 n1 = some (one [.int .i64 (min 401 (bl + y)) 0, .int .i64 (min 1000 (bst + x)) 0, wc]) := by rw [s8 n1 (by omega), s7 n1 (by omega), g6]
    have hv1 : ∀ id, v1.SQ = some id -> id < n1 := fun id hid => (hb1.sk.own hid).2
    have h48 : El G H8 a4 1 (aB xs) := h4.same fun id hid => by have := l4 id hid; rw [low id (by omega), s1 id this]
    refine AON (nb := nb) (bs := (bs.map (Rl x y (KY xs))).take j) (ws := ws) (code := i0 :: rest) (code' := (i0 :: rest) ++ KY xs) (xs := xs) hG (by rw [h48.len]; unfold aB; rw [List.length_map]) hx (by omega) g8 ⟨by omega, by omega⟩
      (hc.el.same fun id hid => by have := hc.lo id hid; rw [low id (by omega), s1 id this]) q5 q6 (hb1.mono (by omega) low) (fun e => by have := hv1 _ e; omega) (by rw [List.length_take, List.length_map]; omega)
      (fun i b w h1 h2 e => by have := (hb1.at' i b w h1 h2).1.lo _ e; omega) ⟨hv8.el (by omega), fun id hid => (hv8.own hid).2, by rw [List.length_append]; unfold KY; rw [List.length_map]; unfold big; omega⟩
      (fun e => by have := (hv8.own e).1; omega) ⟨hv8.ok.1, hv8.ok.2.1⟩ (fun id hid => ⟨by have := (hv8.own hid).1; omega, fun e => by have := (hv8.own hid).1; have := hv1 _ e; omega⟩) (by omega) hT fun H9 n9 v9 hn9 s9 hb9 => ?_
    exact ih _ ⟨H9, n9, v9, ws ++ [v8], rfl, by omega, fun id hid => by rw [s9 id hid, low id (by omega), s1 id hid], by rw [htk]; exact hb9⟩
  · rintro I st ⟨H1, n1, v1, ws, rfl, hn1, s1, hb1⟩
    show Dv lfp G (Runs F G) k I a0 a2 a3 a4 a12 a13 v1 vb (.int .i64 (.ofNat bs.length) 0) (.int .i64 (.ofNat bs.length) 0) H1 n1
    delta Dv
    rw [AHp, decide_eq_false (Nat.lt_irrefl _), BA, AD7]
    rw [List.take_of_length_le (by simp)] at hb1
    exact hk _ _ _ _ hn1 s1 hb1
end
theorem Bds.bodies {G : AL} {H : Heap} {n nb : Nat} {v : V} {bs : List Bd} {ws : List V} (h : Bds G H n nb v bs ws) (hl : bs.length <= 1000) : GV G H n v bs ws :=
 ⟨h.sk.el (by omega), fun id hid => (h.sk.own hid).2, by unfold big; omega, h.len, fun i b w x y => (h.at' i b w x y).1⟩
theorem AGV : Dx (.agg [.int, .str, .str, .int]) false (.agg (V6 none)) (.agg [.int .i64 (.ofNat 0) 0, .str 0 0, .str 0 0, .int .i64 (.ofNat 0) 0]) = some (.bool true) := rfl
section
variable {G : AL} {H : Heap} {n : Nat} {k : KV}
theorem ANs (hG : U6 G) (hO : Xt G) {v0 v vf vm p0 p1 p2 p3 p4 vb : V} {fls : List Fl} {f : Fl} {idx B nb na : Nat} {bs : List Bd} {mws ws bws vws : List V} (hf : ∀ H n, N9 G H n v0 fls) (hl8 : fls.length <= 8) (hi : fls[idx]? = some f)
    (hfa : VL G H na [f.face.nm.v, f.face.sup.v, vf, vm, p0, p1, p2, p3, p4, vb] f vf vm p0 p1 p2 p3 p4 vb mws ws bws) (hna : na <= B) (hB : B < nb) (hnb : nb <= n)
    (g : T.get H B = some (one [f.face.nm.v, f.face.sup.v, vf, vm, p0, p1, p2, p3, p4, vb])) (hb : Bds G H n nb v bs vws) (hbl : bs.length <= 900) (hwB : ∀ (i : Nat) (b : Bd) (w : V), bs[i]? = some b -> vws[i]? = some w -> w.SQ ≠ some B)
    (hres : Io (fls.set idx ⟨f.face, f.pool, bs⟩) = 0 /\ ∀ R', YZ (fls.set idx ⟨f.face, f.pool, bs⟩) R' -> Jb R' (Ns (fls.set idx ⟨f.face, f.pool, bs⟩)) (EH (fls.set idx ⟨f.face, f.pool, bs⟩)) = none)
    (hT : ∀ H' n', k (.bool true) H' n') :
    Du lfp G (Runs F G) k v0 (.int .i64 (.ofNat idx) 0) (.ptr B 0) v H n := by
  delta Du
  have hidx := (List.getElem?_eq_some_iff.1 hi).1
  rw [Zj, BA]
  refine AE6 g hb.sk.ok.1 hb.sk.ok.2.1 (by show 0 + 9 < 10; omega) fun H1 g1 s1 => ?_
  have g1 : T.get H1 B = some (one [f.face.nm.v, f.face.sup.v, vf, vm, p0, p1, p2, p3, p4, v]) := g1
  have hb1 : GV G H1 n v bs vws := Bds.bodies (nb := nb) ⟨hb.sk.mono (fun id hid => hid) fun id hid => s1 id (by omega), hb.len, fun i b w x y => by
      obtain ⟨hc, hd⟩ := hb.at' i b w x y
      exact ⟨⟨hc.el.same fun id hid => s1 id fun e => hwB i b w x y (by rw [hid, e]), hc.lo, hc.lt⟩, hd⟩⟩ (by omega)
  have f1 : Kp H na H1 n := ⟨by omega, fun id hid => s1 id (by omega)⟩
  refine xP (G := G) (vs := []) rfl (by omega) (fun w hw => by cases hw) fun H2 f2 hg2 _ => ?_
  obtain ⟨⟨LS, hel, hLS, hfv⟩, -, -⟩ := hf H2 (n + 1)
  obtain ⟨L0, LR, rfl⟩ : ∃ L0 LR, LS = L0 :: LR := by
    cases LS with
    | nil => simp at hLS; omega
    | cons a l => exact ⟨a, l, rfl⟩
  refine qY (t := .e) (a := L0) (NS := LR) (by omega) hel.2 (by omega) fun v3 H3 hgr3 s3 hid3 => ?_
  have sk3 : Sk H3 10 (fun id => n <= id) v3 (L0 :: LR) := ALC hgr3 fun id hid => by have := hid3 id hid; omega
  have g3 : T.get H3 B = some (one [f.face.nm.v, f.face.sup.v, vf, vm, p0, p1, p2, p3, p4, v]) := by rw [s3 B (by omega), f2.same B (by omega), g1]
  rw [D5 (m := 10) g3 (by omega) rfl, BA]
  refine sk3.put (by omega) (by rw [hLS]; exact hidx) rfl rfl fun H4 sk4 s4 => ?_
  have k4 : Kp H1 n H4 (n + 2) := ⟨by omega, fun id hid => by
    rw [s4 id fun e => by have := hid3 id e; omega, s3 id (by omega), f2.same id hid]⟩
  have k24 : Ke G H2 (n + 1) H4 (n + 2) := ⟨by omega, fun w z MS hlo hel => hel.same fun id hid => by
    have := hlo id hid
    rw [s4 id fun e => by have := hid3 id e; omega, s3 id (by omega)]⟩
  have Y8 : Ui G H4 (n + 2) (.agg [f.face.nm.v, f.face.sup.v, vf, vm, p0, p1, p2, p3, p4, v]) ⟨f.face, f.pool, bs⟩ := by
    have := (hfa.ke f1.ke).ke k4.ke
    exact ⟨_, vf, vm, p0, p1, p2, p3, p4, v, mws, ws, vws, ⟨rfl, this.face, this.pool, hb1.ke k4.ke⟩, rfl⟩
  have hfs : N9 G H4 (n + 2) v3 (fls.set idx ⟨f.face, f.pool, bs⟩) := by
    refine ⟨⟨_, sk4.el (by omega), by simp only [List.length_set]; exact hLS, fun i L f' h1 h2 => ?_⟩, fun id hid => by have := hid3 id hid; omega, by rw [List.length_set]; unfold big; omega⟩
    by_cases e : idx = i
    · subst e
      rw [List.getElem?_set_self (by rw [hLS]; exact hidx)] at h1
      rw [List.getElem?_set_self hidx] at h2
      cases h1; cases h2
      exact Y8
    · rw [List.getElem?_set_ne e] at h1 h2
      exact (hfv i L f' h1 h2).ke k24
  obtain ⟨R, hR⟩ := ABu hres.1
  refine rG hG hO (R := R) hfs (fun _ => hR) (fun _ H5 n5 _ => ?_) fun h => absurd hres.1 h
  rw [hres.2 R hR, show BO [.int .i64 (.ofNat 0) 0, .str 0 0, .str 0 0, .int .i64 (.ofNat 0) 0] [] = some (.agg [.int .i64 (.ofNat 0) 0, .str 0 0, .str 0 0, .int .i64 (.ofNat 0) 0]) from rfl, BA, AGV, BA]
  exact hT _ _
end
noncomputable def AAm (G : AL) : AL := fun b off m =>
 Bool.rec (motive := fun _ => Option LV) (G b off m) (some [.int .i32 (.ofNat (ACH.getD (off / 2) 0)) 0]) (band (Nat.beq b 0) (band (Nat.beq m 1) (band (Nat.beq (off % 2) 1) (Nat.ble off 65))))
theorem AGY {G : AL} (hO : Xt G) : AAm G = G := by
 funext b off m
 unfold AAm
 cases hb : band (Nat.beq b 0) (band (Nat.beq m 1) (band (Nat.beq (off % 2) 1) (Nat.ble off 65))) with
 | false => rfl
 | true =>
  simp only [BH, Bool.and_eq_true, beq_iff, Nat.ble_eq] at hb
  obtain ⟨rfl, rfl, h1, h2⟩ := hb
  have := hO (off / 2) (by omega)
  rw [show off / 2 * 2 + 1 = off by omega] at this
  exact this.symm
theorem ADB (G : AL) : ANA (FS (lpF 300) (AAm G)) 300 SS [] .e 0 isT = True := by kernel_rfl
theorem AH9 {G : AL} (hO : Xt G) {k : KV} (hk : ∀ H' n', k (.bool true) H' n') : Runs F G SS [] .e 0 k := by
 have h := ADB G
 rw [AGY hO] at h
 exact AF1 (k := isT) (fun v H n hv => by have := AJq hv; subst this; exact hk H n) (AFC (ANo (ANI 300) G) 300 _ _ _ _ _ (of_eq_true h))
theorem AAF {G : AL} (hG : U6 G) (hO : Xt G) {v0 v4 : V} {fls : List Fl} {xs : List Int} (hf : ∀ H n, N9 G H n v0 fls) (h4 : ∀ H, El G H v4 1 (aB xs)) (l4 : ∀ n, Lo v4 n) {a1 a2 a3 : Int} {k : KV} (hk : ∀ H' n', k (.bool true) H' n') :
    Runs F G Yh [v0, .int .i64 a1 0, .int .i64 a2 0, .int .i64 a3 0, v4] .e 0 k := by
  refine BM (s := ar5 (Ep lfp G)) KZ (by obtain ⟨h, o⟩ := QM BL G; rw [KZ] at h; cases h; exact o) ?_
  show Ep lfp G (Runs F G) v0 (.int .i64 a1 0) (.int .i64 a2 0) (.int .i64 a3 0) v4 .e 0 k
  delta Ep
  refine AH9 hO fun H0 n0 => ?_
  simp only [go_sem, BK, Bool.not_true]
  refine AHi (hf H0 n0) fun r H1 n1 _ hfew => ?_
  cases r with
  | false =>
    simp only [BK, Bool.not_false]
    rw [BA]
    repeat (first | with_reducible refine vO ?_ | with_reducible refine vG ?_)
    simp only [go_sem]; exact hk _ _
  | true =>
  obtain ⟨hl8, hc60⟩ := hfew rfl
  simp only [BK, Bool.not_true, go_sem, (hf H1 n1).len, AKy]
  cases h0 : decide (fls.length = 0) with
  | true =>
    repeat (first | with_reducible refine vO ?_ | with_reducible refine vG ?_)
    simp only [go_sem]; exact hk _ _
  | false =>
  have h0 : 0 < fls.length := by have := of_decide_eq_false h0; omega
  have hl4 : ∀ H, lenV v4 = some (.int .i64 (.ofNat xs.length) 0) := fun H => by rw [(h4 H).len]; unfold aB; rw [List.length_map]
  simp only [go_sem, hl4 H1, ADF]
  cases hx : decide (20 < xs.length) with
  | true => simp only [go_sem]; exact hk _ _
  | false =>
  have hx : xs.length <= 20 := by have := of_decide_eq_false hx; omega
  simp only [go_sem]
  obtain ⟨R, hR⟩ : ∃ R, Io fls = 0 -> YZ fls R := by
    by_cases h : Io fls = 0
    · obtain ⟨R, hR⟩ := ABu h; exact ⟨R, fun _ => hR⟩
    · exact ⟨fun _ _ => 0, fun e => absurd e h⟩
  refine rG hG hO (R := R) (hf H1 n1) hR (fun hlk H2 n2 _ => ?_) fun hlk H2 n2 _ => ?_
  · have hR := hR hlk
    rw [EF (m := 4) (T.Ac ..) (by omega) rfl (AAP _), T.set_set]
    have g4 := T.Ac H2 n2 (one (V6 (Jb R (Ns fls) (EH fls))))
    generalize T.set H2 n2 (one (V6 (Jb R (Ns fls) (EH fls)))) = H4 at g4
    cases hres : Jb R (Ns fls) (EH fls) with
    | some p =>
      obtain ⟨s, y, r⟩ := p
      rw [hres] at g4
      rw [AU (off := 0) g4 (v := .int .i64 (.ofNat 31) 0) rfl, BA, AHM, BA, show (!decide (31 = 0)) = true from rfl, zx]
      exact hk _ _
    | none =>
    rw [hres] at g4
    rw [AU (off := 0) g4 (v := .int .i64 (.ofNat 0) 0) rfl, BA, AHM, BA, show (!decide (0 = 0)) = false from rfl, AD7]
    rw [AO1 a1 (m := 255) (by omega), BA, AN9 _ h0, BA]
    have hidx : wz a1 255 % fls.length < fls.length := Nat.mod_lt _ h0
    generalize wz a1 255 % fls.length = idx at hidx
    obtain ⟨p, vf, vm, p0, p1, p2, p3, p4, vb, mws, ws, bws, hp, hld, hfa⟩ := (hf H4 (n2 + 1)).at hidx
    have hie := List.getElem?_eq_getElem hidx
    have hmem := List.getElem_mem hidx
    generalize fls[idx] = f at hld hfa hie hmem
    rw [hp, BA, CB hld, BA]
    rw [EF (m := 10) (T.Ac ..) (by omega) rfl rfl, T.set_set]
    have g6 := T.Ac H4 (n2 + 1) (one [f.face.nm.v, f.face.sup.v, vf, vm, p0, p1, p2, p3, p4, vb])
    have k6 : Kp H4 (n2 + 1) (T.set H4 (n2 + 1) (one [f.face.nm.v, f.face.sup.v, vf, vm, p0, p1, p2, p3, p4, vb])) (n2 + 1 + 1) := ⟨by omega, fun id hid => by rw [T.AY _ _ (by omega)]⟩
    generalize T.set H4 (n2 + 1) (one [f.face.nm.v, f.face.sup.v, vf, vm, p0, p1, p2, p3, p4, vb]) = H6 at g6 k6
    refine xP (G := G) (vs := []) rfl (by omega) (fun w hw => by cases hw) fun H7 f7 hg7 _ => ?_
    obtain ⟨t7, hg7⟩ := hg7
    have g7 := (f7.same (n2 + 1) (by omega)).trans g6
    have k7 := k6.trans f7
    have hb7 := (hfa.bodies.kp k7)
    have lb : lenV vb = some (.int .i64 (.ofNat f.bodies.length) 0) := by rw [hb7.el.len, List.length_zipWith, hb7.len, Nat.min_self]
    rw [AU (off := 9) g7 (v := vb) rfl, BA, lb, BA]
    obtain ⟨x, hx31, hx2⟩ := AKn a2
    obtain ⟨y, hy31, hy2⟩ := AKn a3
    obtain ⟨l1, l2, l3⟩ := Kt hlk
    obtain ⟨e1, e2⟩ := SX (VJ _ _ l2 f hmem)
    have hok := VJ _ _ l2 f hmem
    have AD2 : f.face.ms.length <= 200 := by
      have := hok
      unfold KP at this
      rw [Bool.and_eq_true] at this
      have := this.1
      simp [XK] at this
      exact this.2.2.2.1
    have hbn : f.bodies.length <= 200 := by omega
    have hin : ∀ b ∈ f.bodies, AOD b := fun b hb => by
      obtain ⟨j, hj⟩ := List.mem_iff_getElem?.1 hb
      have hlt := (List.getElem?_eq_some_iff.1 hj).1
      have q := e2 j _ b (List.getElem?_eq_getElem (by omega)) hj
      have q1 := q.lo
      exact ⟨by omega, q.hi, q.s0, q.s1, q.c0, hc60 f hmem b hb⟩
    have hbox : T.get H7 (n2 + 1) = some (one [f.face.nm.v, f.face.sup.v, vf, vm, p0, p1, p2, p3, p4, vb]) := g7
    refine APB (nb := n2 + 1 + 1) (bws := bws) hG (h4 H7) (l4 _) hx (hfa.bodies.kp (⟨by omega, k7.same⟩ : Kp H4 (n2 + 1) H7 (n2 + 1 + 1))) hin (by omega) (by omega) hx2 hx31 hy2 hy31
      ⟨.emp hg7 ⟨by omega, by omega⟩, rfl, fun i b w h => by simp at h⟩ hk fun H8 n8 v8 vws hn8 s8 hb8 => ?_
    refine ANs (nb := n2 + 1 + 1) (na := n2 + 1) (B := n2 + 1) (H := H8) hG hO hf hl8 hie (hfa.ke (⟨Nat.le_refl _, fun id hid => by rw [s8 id (by omega), k7.same id hid]⟩ : Kp H4 (n2 + 1) H8 (n2 + 1)).ke) (Nat.le_refl _) (by omega) (by omega)
      (by rw [s8 _ (by omega)]; exact hbox) hb8 (by rw [List.length_map]; omega) ?_ ?_ hk
    · intro i b w h1 h2 e
      have := ((hb8.at' i b w h1 h2).2 _ e).1
      omega
    · exact AC2 hlk hR hres hie ⟨rfl, rfl, rfl⟩ (by omega) (by omega) (fun b hb => hc60 f hmem b hb) (by unfold KY; rw [List.length_map]; exact hx) fun i hi g => by
        unfold KY at hi
        obtain ⟨z, -, rfl⟩ := List.mem_map.1 hi
        exact AJj (AFA z).2.2.2 g
  · rw [EF (m := 4) (T.Ac ..) (by omega) rfl rfl, AU (off := 0) (T.Ac ..) (v := .int .i64 (Io fls) 0) rfl, BA, AD8, BA,
      show decide (Io fls = Int.ofNat 0) = false from decide_eq_false fun h => hlk h, Bool.not_false, zx]
    exact hk _ _
end Go.RL
