/- Part of a proof: texts En60 En61 En62 En63 En64 En65 En66 of the engine and what is proved with it; nothing is assumed. -/
import Derived.Test.YtibbhhkcjjeclaaDoorEngF
import Derived.Attr
import Derived.Test.YtibbhhkcjjeclaaDoorEngE
set_option linter.unusedVariables false
set_option linter.unusedSimpArgs false
namespace Go.Ba
section
variable {G : AL} {H : Heap} {id off m : Nat} {L : LV} {v : V}
theorem AU (h : T.get H id = some (one L)) (hl : L[off]? = some v) : AZ (.ptr id off) G H = some v := by
 obtain ⟨hlt, he⟩ := List.getElem?_eq_some_iff.1 hl
 rw [ABG, bZ, ACr h (by omega) (by omega), AAA, gQ]
 rw [List.getElem?_take]
 simp [hl]
theorem FM (h : T.get H id = some (one L)) (hm : 0 < m) (hl : off + m <= L.length) : Ae m (.ptr id off) G H = some (.agg ((L.drop off).take m)) := by
 rw [AEy, bZ, ACr h hm hl, AAA]
theorem jl {n : Nat} {k : KV} (h : T.get H id = some (one L)) (hv : U3 v = true) (hn : (Am v).length = m) (hm : 0 < m) (hl : off + m <= L.length) :
    CQ m (.ptr id off) v H n k = k .undef (T.set H id (one (L.take off ++ (Am v ++ L.drop (off + m))))) n := by
  have hs : stP (.ptr id off) H m (Am v) = some (T.set H id (one (L.take off ++ (Am v ++ L.drop (off + m))))) := AMJ h hm hn hl
  unfold CQ
  rw [hv, len_eq, hn]
  have hb : band true (Nat.beq m m) = true := by simp
  rw [hb, hs]; rfl
theorem D5 (h : T.get H id = some (one L)) (hm : 0 < m) (hl : L.length = m) : Ae m (.ptr id 0) G H = some (.agg L) := by
 rw [FM h hm (by omega), List.drop_zero, List.take_of_length_le (by omega)]
theorem EF {n : Nat} {k : KV} {L' : LV} (h : T.get H id = some (one L)) (hm : 0 < m) (hl : L.length = m) (hn : L'.length = m) :
    CQ m (.ptr id 0) (.agg L') H n k = k .undef (T.set H id (one L')) n := by
  rw [jl h (by rfl) (by exact hn) hm (by omega)]
  have : L.take 0 ++ (Am (.agg L') ++ L.drop (0 + m)) = L' := by
    show [] ++ (L' ++ L.drop (0 + m)) = L'
    rw [List.drop_eq_nil_of_le (by omega)]; simp
  rw [this]
theorem AFg : Bj [] G H = some [] := rfl
theorem zO {rest : List wJ} : Bj (.t v :: rest) G H = A8 (Bj rest G H) fun vs => some (v :: vs) := rfl
theorem Bg {rest : List wJ} (h : T.get H id = some (one L)) (hm : 0 < m) (hl : L.length = m) : Bj (.cn (.ptr id 0) m :: rest) G H = A8 (Bj rest G H) fun vs => some (.agg L :: vs) := by
 show A8 (Ae m (.ptr id 0) G H) (fun v => A8 (Bj rest G H) fun vs => some (v :: vs)) = _
 rw [D5 h hm hl]; rfl
end
structure SL (G : AL) (v : V) (z : Nat) (LS : Df) : Prop where
 mk' ::
 is : (v = .Aa /\ LS = []) ∨ ∃ b off cap, v = .rsl b off LS.length cap z /\ ∀ i c, LS[i]? = some c -> c.length = z /\ G b (off + i * z) z = some c
theorem SL.len {G : AL} {v : V} {z : Nat} {LS : Df} (h : SL G v z LS) : lenV v = some (.int .i64 (.ofNat LS.length) 0) := by
 rcases h.is with ⟨rfl, rfl⟩ | ⟨b, off, cap, rfl, _⟩ <;> rfl
theorem SL.at {G : AL} {v : V} {z : Nat} {LS : Df} (h : SL G v z LS) {i : Nat} {c : LV} (hi : LS[i]? = some c) :
    ∃ p, Ai z v (.int .i64 (.ofNat i) 0) = some p /\ (∀ H, Ae z p G H = some (.agg c)) /\ c.length = z := by
  obtain ⟨hlt, _⟩ := List.getElem?_eq_some_iff.1 hi
  rcases h.is with ⟨rfl, rfl⟩ | ⟨b, off, cap, rfl, hG⟩
  · simp at hlt
  · obtain ⟨hz, hg⟩ := hG i c hi
    refine ⟨.gptr b (off + i * z), ?_, fun H => ?_, hz⟩
    · show BD (Nat.blt i LS.length) (ES (Nat.add off (Nat.mul i z)) fun o => some (.gptr b o)) = _
      have : Nat.blt i LS.length = true := by rw [Nat.blt_eq]; exact hlt
      rw [this, Cm]; rfl
    · show QG (G b (off + i * z) z) (fun L => some (.agg L)) = _
      rw [hg]; rfl
theorem QY {α β : Type} (a : α) (f : α -> Option β) : A8 (some a) f = f a := rfl
theorem APV (a : V) : Kr [a] = a := rfl
theorem AN0 (a b : V) (l : LV) : Kr (a :: b :: l) = .II (a :: b :: l) := rfl
theorem AAK (a b l c : Nat) : Dx (.one .str) false (.str a b) (.str l c) = some (.bool (decide (a = l /\ b = c))) := by
 show ofB (Rx (some (band (Nat.beq a l) (Nat.beq b c))) fun b => some b) = _
 have : band (Nat.beq a l) (Nat.beq b c) = decide (a = l /\ b = c) := by rw [BH, Bool.eq_iff_iff]; simp
 rw [this]; cases decide (a = l /\ b = c) <;> rfl
theorem DF {i : Nat} (h : i + 1 < 9223372036854775808) : B2.ev .add (.int .i64 (.ofNat i) 0) (.int .i64 (.ofNat 1) 0) = some (.int .i64 (.ofNat (i + 1)) 0) := by
 show some (V.int .i64 (Xo .i64 (uO (.ofNat i) (.ofNat 1))) 0) = _
 rw [Qx, bJ, U9 (by simp; omega) (by simp; omega)]; rfl
structure Kp (H : Heap) (n : Nat) (H' : Heap) (n' : Nat) : Prop where
 le : n <= n'
 same : ∀ id, id < n -> T.get H' id = T.get H id
theorem Kp.refl (H : Heap) (n : Nat) : Kp H n H n := ⟨Nat.le_refl _, fun _ _ => rfl⟩
theorem Kp.trans {H H' H'' : Heap} {n n' n'' : Nat} (a : Kp H n H' n') (b : Kp H' n' H'' n'') : Kp H n H'' n'' := ⟨Nat.le_trans a.le b.le, fun id h => (b.same id (Nat.lt_of_lt_of_le h a.le)).trans (a.same id h)⟩
theorem Kp.new {H0 H : Heap} {n0 n id : Nat} (a : Kp H0 n0 H n) (b : NR) (h : n0 <= id) {m : Nat} (hm : n <= m) : Kp H0 n0 (T.set H id b) m :=
 ⟨Nat.le_trans a.le hm, fun j hj => by rw [T.AY _ _ (by omega)]; exact a.same j hj⟩
theorem G7 {σ : Type} {b : (σ -> Prop) -> σ -> Prop} {J : Nat -> σ -> Prop} (h : ∀ I m s, J m s -> (∀ m' s', m' < m -> J m' s' -> I s') -> b I s) {m : Nat} {s : σ} (h0 : J m s) : lfp σ b s := by
 intro I hI
 induction m using Nat.strongRecOn generalizing s with
 | _ m ih => exact hI s (h I m s h0 fun m' s' hlt hs => ih m' hlt hs)
section
variable {G : AL} {H : Heap} {i j o m n : Nat} {L L' : LV} {v w : V} {k : KV} {b : NR}
theorem AI8 {z : Nat} {P : KV} (h : L.length = z) : BX (Ag z [L] E0) H n P = P (.ptr n 0) (T.set H n (one L)) (n + 1) := JQ h
theorem VP (h : L[o]? = some v) : AZ (.ptr i o) G (T.set H i (one L)) = some v := AU (T.Ac ..) h
theorem ALP : AZ (.ptr i 0) G (T.set H i (one (v :: L))) = some v := VP rfl
theorem Tn (hl : L.length = m) (h : 0 < m) : Ae m (.ptr i 0) G (T.set H i (one L)) = some (.agg L) := D5 (T.Ac ..) h hl
theorem AM5 (h : i ≠ j) : AZ (.ptr i o) G (T.set H j b) = AZ (.ptr i o) G H := by
 rw [ABG, ABG, bZ, bZ]; unfold YF; rw [T.AY _ _ (Ne.symm h)]
theorem ALz (h : i ≠ j) : Ae m (.ptr i o) G (T.set H j b) = Ae m (.ptr i o) G H := by
 rw [AEy, AEy, bZ, bZ]; unfold YF; rw [T.AY _ _ (Ne.symm h)]
theorem Ya (hl : L.length = m) (h : 0 < m) (hn : L'.length = m) : CQ m (.ptr i 0) (.agg L') (T.set H i (one L)) n k = k .undef (T.set (T.set H i (one L)) i (one L')) n := EF (T.Ac ..) h hl hn
end
theorem AIl (L : LV) : U3 (.agg L) = true := rfl
theorem AI7 (l c : Nat) : U3 (.str l c) = true := rfl
theorem AJ1 (k : IntKind) (a : Int) (s : Nat) : U3 (.int k a s) = true := rfl
theorem AIH (b : Bool) : U3 (.bool b) = true := rfl
theorem AM6 (L : LV) : Am (.agg L) = L := rfl
theorem ALZ (l c : Nat) : Am (.str l c) = [.str l c] := rfl
theorem AMv (k : IntKind) (a : Int) (s : Nat) : Am (.int k a s) = [.int k a s] := rfl
theorem AJd (b : Bool) : Am (.bool b) = [.bool b] := rfl
theorem ANM (L : LV) (H : Heap) (n : Nat) (P : KV) : BX (DU (.agg L)) H n P = P (.ptr n 0) (T.set H n (one L)) (n + 1) := Xw rfl
theorem AMH (l c : Nat) (H : Heap) (n : Nat) (P : KV) : BX (DU (.str l c)) H n P = P (.ptr n 0) (T.set H n (one [.str l c])) (n + 1) := Xw rfl
theorem ANP (q : IntKind) (a : Int) (s : Nat) (H : Heap) (n : Nat) (P : KV) : BX (DU (.int q a s)) H n P = P (.ptr n 0) (T.set H n (one [.int q a s])) (n + 1) := Xw rfl
theorem AMK (b : Bool) (H : Heap) (n : Nat) (P : KV) : BX (DU (.bool b)) H n P = P (.ptr n 0) (T.set H n (one [.bool b])) (n + 1) := Xw rfl
theorem AM7  (H : Heap) (n : Nat) (P : KV) : BX (DU .Aa) H n P = P (.ptr n 0) (T.set H n (one [.Aa])) (n + 1) := Xw rfl
theorem ALa (b o l c z : Nat) (H : Heap) (n : Nat) (P : KV) : BX (DU (.rsl b o l c z)) H n P = P (.ptr n 0) (T.set H n (one [.rsl b o l c z])) (n + 1) := Xw rfl
theorem ANQ (b o l c z : Nat) (H : Heap) (n : Nat) (P : KV) : BX (DU (.sl b o l c z)) H n P = P (.ptr n 0) (T.set H n (one [.sl b o l c z])) (n + 1) := Xw rfl
theorem AMU (b o l z : Nat) (H : Heap) (n : Nat) (P : KV) : BX (DU (.NY b o l z)) H n P = P (.ptr n 0) (T.set H n (one [.NY b o l z])) (n + 1) := Xw rfl
theorem ANE (i o : Nat) (H : Heap) (n : Nat) (P : KV) : BX (DU (.ptr i o)) H n P = P (.ptr n 0) (T.set H n (one [.ptr i o])) (n + 1) := Xw rfl
theorem AM1 (i o : Nat) (H : Heap) (n : Nat) (P : KV) : BX (DU (.gptr i o)) H n P = P (.ptr n 0) (T.set H n (one [.gptr i o])) (n + 1) := Xw rfl
theorem ALb  (H : Heap) (n : Nat) (P : KV) : BX (DU .KQ) H n P = P (.ptr n 0) (T.set H n (one [.KQ])) (n + 1) := Xw rfl
theorem AMy (i : Nat) (H : Heap) (n : Nat) (P : KV) : BX (DU (.map i)) H n P = P (.ptr n 0) (T.set H n (one [.map i])) (n + 1) := Xw rfl
theorem AQY (n : Nat) : n ≠ n + 1 := by omega
theorem AP9 (n : Nat) : n + 1 ≠ n := by omega
theorem AQs (n : Nat) : n ≠ n + 1 + 1 := by omega
theorem AP6 (n : Nat) : n + 1 + 1 ≠ n := by omega
theorem AQw (n : Nat) : n ≠ n + 1 + 1 + 1 := by omega
theorem AQb (n : Nat) : n + 1 + 1 + 1 ≠ n := by omega
theorem AQy (n : Nat) : n ≠ n + 1 + 1 + 1 + 1 := by omega
theorem AQv (n : Nat) : n + 1 + 1 + 1 + 1 ≠ n := by omega
theorem AQ4 (n : Nat) : n ≠ n + 1 + 1 + 1 + 1 + 1 := by omega
theorem AQ9 (n : Nat) : n + 1 + 1 + 1 + 1 + 1 ≠ n := by omega
theorem AQQ (n : Nat) : n ≠ n + 1 + 1 + 1 + 1 + 1 + 1 := by omega
theorem AQ6 (n : Nat) : n + 1 + 1 + 1 + 1 + 1 + 1 ≠ n := by omega
theorem AQi (n : Nat) : n ≠ n + 1 + 1 + 1 + 1 + 1 + 1 + 1 := by omega
theorem AQ3 (n : Nat) : n + 1 + 1 + 1 + 1 + 1 + 1 + 1 ≠ n := by omega
theorem AP7 (n : Nat) : n ≠ n + 1 + 1 + 1 + 1 + 1 + 1 + 1 + 1 := by omega
theorem AQl (n : Nat) : n + 1 + 1 + 1 + 1 + 1 + 1 + 1 + 1 ≠ n := by omega
theorem AQc (n : Nat) : n ≠ n + 1 + 1 + 1 + 1 + 1 + 1 + 1 + 1 + 1 := by omega
theorem AQE (n : Nat) : n + 1 + 1 + 1 + 1 + 1 + 1 + 1 + 1 + 1 ≠ n := by omega
theorem AOE (n : Nat) : n ≠ n + 1 + 1 + 1 + 1 + 1 + 1 + 1 + 1 + 1 + 1 := by omega
theorem APZ (n : Nat) : n + 1 + 1 + 1 + 1 + 1 + 1 + 1 + 1 + 1 + 1 ≠ n := by omega
theorem AN8 (n : Nat) : n ≠ n + 1 + 1 + 1 + 1 + 1 + 1 + 1 + 1 + 1 + 1 + 1 := by omega
theorem AOU (n : Nat) : n + 1 + 1 + 1 + 1 + 1 + 1 + 1 + 1 + 1 + 1 + 1 ≠ n := by omega
theorem AOG (n : Nat) : n ≠ n + 1 + 1 + 1 + 1 + 1 + 1 + 1 + 1 + 1 + 1 + 1 + 1 := by omega
theorem ANq (n : Nat) : n + 1 + 1 + 1 + 1 + 1 + 1 + 1 + 1 + 1 + 1 + 1 + 1 ≠ n := by omega
theorem AOC (n : Nat) : n ≠ n + 1 + 1 + 1 + 1 + 1 + 1 + 1 + 1 + 1 + 1 + 1 + 1 + 1 := by omega
theorem APi (n : Nat) : n + 1 + 1 + 1 + 1 + 1 + 1 + 1 + 1 + 1 + 1 + 1 + 1 + 1 ≠ n := by omega
theorem APU (n : Nat) : n ≠ n + 1 + 1 + 1 + 1 + 1 + 1 + 1 + 1 + 1 + 1 + 1 + 1 + 1 + 1 := by omega
theorem APm (n : Nat) : n + 1 + 1 + 1 + 1 + 1 + 1 + 1 + 1 + 1 + 1 + 1 + 1 + 1 + 1 ≠ n := by omega
theorem AIs {G : AL} {H : Heap} {i : Nat} {L : LV} {v : V} : AZ (.ptr i 0) G (T.set H i (one (v :: L))) = some v := VP rfl
theorem AJw {G : AL} {H : Heap} {i : Nat} {L : LV} {a0 v : V} : AZ (.ptr i 1) G (T.set H i (one (a0 :: v :: L))) = some v := VP rfl
theorem AJL {G : AL} {H : Heap} {i : Nat} {L : LV} {a0 a1 v : V} : AZ (.ptr i 2) G (T.set H i (one (a0 :: a1 :: v :: L))) = some v := VP rfl
theorem AJP {G : AL} {H : Heap} {i : Nat} {L : LV} {a0 a1 a2 v : V} : AZ (.ptr i 3) G (T.set H i (one (a0 :: a1 :: a2 :: v :: L))) = some v := VP rfl
theorem AKF {G : AL} {H : Heap} {i : Nat} {L : LV} {a0 a1 a2 a3 v : V} : AZ (.ptr i 4) G (T.set H i (one (a0 :: a1 :: a2 :: a3 :: v :: L))) = some v := VP rfl
theorem AJX {G : AL} {H : Heap} {i : Nat} {L : LV} {a0 a1 a2 a3 a4 v : V} : AZ (.ptr i 5) G (T.set H i (one (a0 :: a1 :: a2 :: a3 :: a4 :: v :: L))) = some v := VP rfl
theorem AJl {G : AL} {H : Heap} {i : Nat} {L : LV} {a0 a1 a2 a3 a4 a5 v : V} : AZ (.ptr i 6) G (T.set H i (one (a0 :: a1 :: a2 :: a3 :: a4 :: a5 :: v :: L))) = some v := VP rfl
theorem AKa {G : AL} {H : Heap} {i : Nat} {L : LV} {a0 a1 a2 a3 a4 a5 a6 v : V} : AZ (.ptr i 7) G (T.set H i (one (a0 :: a1 :: a2 :: a3 :: a4 :: a5 :: a6 :: v :: L))) = some v := VP rfl
theorem AKS {G : AL} {H : Heap} {i : Nat} {L : LV} {a0 a1 a2 a3 a4 a5 a6 a7 v : V} : AZ (.ptr i 8) G (T.set H i (one (a0 :: a1 :: a2 :: a3 :: a4 :: a5 :: a6 :: a7 :: v :: L))) = some v := VP rfl
theorem AJG {G : AL} {H : Heap} {i : Nat} {L : LV} {a0 a1 a2 a3 a4 a5 a6 a7 a8 v : V} : AZ (.ptr i 9) G (T.set H i (one (a0 :: a1 :: a2 :: a3 :: a4 :: a5 :: a6 :: a7 :: a8 :: v :: L))) = some v := VP rfl
theorem AGj {G : AL} {H : Heap} {i : Nat} {L : LV} {a0 a1 a2 a3 a4 a5 a6 a7 a8 a9 v : V} : AZ (.ptr i 10) G (T.set H i (one (a0 :: a1 :: a2 :: a3 :: a4 :: a5 :: a6 :: a7 :: a8 :: a9 :: v :: L))) = some v := VP rfl
theorem AHC {G : AL} {H : Heap} {i : Nat} {L : LV} {a0 a1 a2 a3 a4 a5 a6 a7 a8 a9 a10 v : V} : AZ (.ptr i 11) G (T.set H i (one (a0 :: a1 :: a2 :: a3 :: a4 :: a5 :: a6 :: a7 :: a8 :: a9 :: a10 :: v :: L))) = some v := VP rfl
theorem AIV {G : AL} {H : Heap} {i : Nat} {L : LV} {a0 a1 a2 a3 a4 a5 a6 a7 a8 a9 a10 a11 v : V} : AZ (.ptr i 12) G (T.set H i (one (a0 :: a1 :: a2 :: a3 :: a4 :: a5 :: a6 :: a7 :: a8 :: a9 :: a10 :: a11 :: v :: L))) = some v := VP rfl
theorem AGP {G : AL} {H : Heap} {i : Nat} {L : LV} {a0 a1 a2 a3 a4 a5 a6 a7 a8 a9 a10 a11 a12 v : V} : AZ (.ptr i 13) G (T.set H i (one (a0 :: a1 :: a2 :: a3 :: a4 :: a5 :: a6 :: a7 :: a8 :: a9 :: a10 :: a11 :: a12 :: v :: L))) = some v := VP rfl
theorem AOv (a0 : V) (H : Heap) (n : Nat) (P : KV) : BX (Ag 1 [[a0]] E0) H n P = P (.ptr n 0) (T.set H n (one [a0])) (n + 1) := JQ rfl
theorem APo (a0 : V) {G : AL} {H : Heap} {i : Nat} : Ae 1 (.ptr i 0) G (T.set H i (one [a0])) = some (.agg [a0]) := Tn rfl (by omega)
theorem AMi (a0 b0 : V) {H : Heap} {i n : Nat} {k : KV} : CQ 1 (.ptr i 0) (.agg [b0]) (T.set H i (one [a0])) n k = k .undef (T.set (T.set H i (one [a0])) i (one [b0])) n := Ya rfl (by omega) rfl
theorem APQ (a0 : V) {G : AL} {H : Heap} {i : Nat} {r : List wJ} : Bj (.cn (.ptr i 0) 1 :: r) G (T.set H i (one [a0])) = A8 (Bj r G (T.set H i (one [a0]))) fun vs => some (.agg [a0] :: vs) := Bg (T.Ac ..) (by omega) rfl
theorem AOj (a0 a1 : V) (H : Heap) (n : Nat) (P : KV) : BX (Ag 2 [[a0, a1]] E0) H n P = P (.ptr n 0) (T.set H n (one [a0, a1])) (n + 1) := JQ rfl
theorem APR (a0 a1 : V) {G : AL} {H : Heap} {i : Nat} : Ae 2 (.ptr i 0) G (T.set H i (one [a0, a1])) = some (.agg [a0, a1]) := Tn rfl (by omega)
theorem AMW (a0 a1 b0 b1 : V) {H : Heap} {i n : Nat} {k : KV} : CQ 2 (.ptr i 0) (.agg [b0, b1]) (T.set H i (one [a0, a1])) n k = k .undef (T.set (T.set H i (one [a0, a1])) i (one [b0, b1])) n := Ya rfl (by omega) rfl
theorem APS (a0 a1 : V) {G : AL} {H : Heap} {i : Nat} {r : List wJ} : Bj (.cn (.ptr i 0) 2 :: r) G (T.set H i (one [a0, a1])) = A8 (Bj r G (T.set H i (one [a0, a1]))) fun vs => some (.agg [a0, a1] :: vs) := Bg (T.Ac ..) (by omega) rfl
theorem AOo (a0 a1 a2 : V) (H : Heap) (n : Nat) (P : KV) : BX (Ag 3 [[a0, a1, a2]] E0) H n P = P (.ptr n 0) (T.set H n (one [a0, a1, a2])) (n + 1) := JQ rfl
theorem AOr (a0 a1 a2 : V) {G : AL} {H : Heap} {i : Nat} : Ae 3 (.ptr i 0) G (T.set H i (one [a0, a1, a2])) = some (.agg [a0, a1, a2]) := Tn rfl (by omega)
theorem ANW (a0 a1 a2 b0 b1 b2 : V) {H : Heap} {i n : Nat} {k : KV} : CQ 3 (.ptr i 0) (.agg [b0, b1, b2]) (T.set H i (one [a0, a1, a2])) n k = k .undef (T.set (T.set H i (one [a0, a1, a2])) i (one [b0, b1, b2])) n := Ya rfl (by omega) rfl
theorem APN (a0 a1 a2 : V) {G : AL} {H : Heap} {i : Nat} {r : List wJ} : Bj (.cn (.ptr i 0) 3 :: r) G (T.set H i (one [a0, a1, a2])) = A8 (Bj r G (T.set H i (one [a0, a1, a2]))) fun vs => some (.agg [a0, a1, a2] :: vs) := Bg (T.Ac ..) (by omega) rfl
theorem AOx (a0 a1 a2 a3 : V) (H : Heap) (n : Nat) (P : KV) : BX (Ag 4 [[a0, a1, a2, a3]] E0) H n P = P (.ptr n 0) (T.set H n (one [a0, a1, a2, a3])) (n + 1) := JQ rfl
theorem AO4 (a0 a1 a2 a3 : V) {G : AL} {H : Heap} {i : Nat} : Ae 4 (.ptr i 0) G (T.set H i (one [a0, a1, a2, a3])) = some (.agg [a0, a1, a2, a3]) := Tn rfl (by omega)
theorem AMa (a0 a1 a2 a3 b0 b1 b2 b3 : V) {H : Heap} {i n : Nat} {k : KV} : CQ 4 (.ptr i 0) (.agg [b0, b1, b2, b3]) (T.set H i (one [a0, a1, a2, a3])) n k = k .undef (T.set (T.set H i (one [a0, a1, a2, a3])) i (one [b0, b1, b2, b3])) n := Ya rfl (by omega) rfl
theorem AN3 (a0 a1 a2 a3 : V) {G : AL} {H : Heap} {i : Nat} {r : List wJ} : Bj (.cn (.ptr i 0) 4 :: r) G (T.set H i (one [a0, a1, a2, a3])) = A8 (Bj r G (T.set H i (one [a0, a1, a2, a3]))) fun vs => some (.agg [a0, a1, a2, a3] :: vs) := Bg (T.Ac ..) (by omega) rfl
theorem APs (a0 a1 a2 a3 a4 : V) (H : Heap) (n : Nat) (P : KV) : BX (Ag 5 [[a0, a1, a2, a3, a4]] E0) H n P = P (.ptr n 0) (T.set H n (one [a0, a1, a2, a3, a4])) (n + 1) := JQ rfl
theorem AOa (a0 a1 a2 a3 a4 : V) {G : AL} {H : Heap} {i : Nat} : Ae 5 (.ptr i 0) G (T.set H i (one [a0, a1, a2, a3, a4])) = some (.agg [a0, a1, a2, a3, a4]) := Tn rfl (by omega)
theorem ALp (a0 a1 a2 a3 a4 b0 b1 b2 b3 b4 : V) {H : Heap} {i n : Nat} {k : KV} : CQ 5 (.ptr i 0) (.agg [b0, b1, b2, b3, b4]) (T.set H i (one [a0, a1, a2, a3, a4])) n k = k .undef (T.set (T.set H i (one [a0, a1, a2, a3, a4])) i (one [b0, b1, b2, b3, b4])) n := Ya rfl (by omega) rfl
theorem ANy (a0 a1 a2 a3 a4 : V) {G : AL} {H : Heap} {i : Nat} {r : List wJ} : Bj (.cn (.ptr i 0) 5 :: r) G (T.set H i (one [a0, a1, a2, a3, a4])) = A8 (Bj r G (T.set H i (one [a0, a1, a2, a3, a4]))) fun vs => some (.agg [a0, a1, a2, a3, a4] :: vs) := Bg (T.Ac ..) (by omega) rfl
theorem APf (a0 a1 a2 a3 a4 a5 : V) (H : Heap) (n : Nat) (P : KV) : BX (Ag 6 [[a0, a1, a2, a3, a4, a5]] E0) H n P = P (.ptr n 0) (T.set H n (one [a0, a1, a2, a3, a4, a5])) (n + 1) := JQ rfl
theorem APM (a0 a1 a2 a3 a4 a5 : V) {G : AL} {H : Heap} {i : Nat} : Ae 6 (.ptr i 0) G (T.set H i (one [a0, a1, a2, a3, a4, a5])) = some (.agg [a0, a1, a2, a3, a4, a5]) := Tn rfl (by omega)
theorem ALe (a0 a1 a2 a3 a4 a5 b0 b1 b2 b3 b4 b5 : V) {H : Heap} {i n : Nat} {k : KV} : CQ 6 (.ptr i 0) (.agg [b0, b1, b2, b3, b4, b5]) (T.set H i (one [a0, a1, a2, a3, a4, a5])) n k = k .undef (T.set (T.set H i (one [a0, a1, a2, a3, a4, a5])) i (one [b0, b1, b2, b3, b4, b5])) n := Ya rfl (by omega) rfl
theorem AOi (a0 a1 a2 a3 a4 a5 : V) {G : AL} {H : Heap} {i : Nat} {r : List wJ} : Bj (.cn (.ptr i 0) 6 :: r) G (T.set H i (one [a0, a1, a2, a3, a4, a5])) = A8 (Bj r G (T.set H i (one [a0, a1, a2, a3, a4, a5]))) fun vs => some (.agg [a0, a1, a2, a3, a4, a5] :: vs) := Bg (T.Ac ..) (by omega) rfl
theorem APb (a0 a1 a2 a3 a4 a5 a6 : V) (H : Heap) (n : Nat) (P : KV) : BX (Ag 7 [[a0, a1, a2, a3, a4, a5, a6]] E0) H n P = P (.ptr n 0) (T.set H n (one [a0, a1, a2, a3, a4, a5, a6])) (n + 1) := JQ rfl
theorem AOW (a0 a1 a2 a3 a4 a5 a6 : V) {G : AL} {H : Heap} {i : Nat} : Ae 7 (.ptr i 0) G (T.set H i (one [a0, a1, a2, a3, a4, a5, a6])) = some (.agg [a0, a1, a2, a3, a4, a5, a6]) := Tn rfl (by omega)
theorem ALM (a0 a1 a2 a3 a4 a5 a6 b0 b1 b2 b3 b4 b5 b6 : V) {H : Heap} {i n : Nat} {k : KV} : CQ 7 (.ptr i 0) (.agg [b0, b1, b2, b3, b4, b5, b6]) (T.set H i (one [a0, a1, a2, a3, a4, a5, a6])) n k = k .undef (T.set (T.set H i (one [a0, a1, a2, a3, a4, a5, a6])) i (one [b0, b1, b2, b3, b4, b5, b6])) n := Ya rfl (by omega) rfl
theorem APG (a0 a1 a2 a3 a4 a5 a6 : V) {G : AL} {H : Heap} {i : Nat} {r : List wJ} : Bj (.cn (.ptr i 0) 7 :: r) G (T.set H i (one [a0, a1, a2, a3, a4, a5, a6])) = A8 (Bj r G (T.set H i (one [a0, a1, a2, a3, a4, a5, a6]))) fun vs => some (.agg [a0, a1, a2, a3, a4, a5, a6] :: vs) := Bg (T.Ac ..) (by omega) rfl
theorem AOH (a0 a1 a2 a3 a4 a5 a6 a7 : V) (H : Heap) (n : Nat) (P : KV) : BX (Ag 8 [[a0, a1, a2, a3, a4, a5, a6, a7]] E0) H n P = P (.ptr n 0) (T.set H n (one [a0, a1, a2, a3, a4, a5, a6, a7])) (n + 1) := JQ rfl
theorem APH (a0 a1 a2 a3 a4 a5 a6 a7 : V) {G : AL} {H : Heap} {i : Nat} : Ae 8 (.ptr i 0) G (T.set H i (one [a0, a1, a2, a3, a4, a5, a6, a7])) = some (.agg [a0, a1, a2, a3, a4, a5, a6, a7]) := Tn rfl (by omega)
theorem ALu (a0 a1 a2 a3 a4 a5 a6 a7 b0 b1 b2 b3 b4 b5 b6 b7 : V) {H : Heap} {i n : Nat} {k : KV} : CQ 8 (.ptr i 0) (.agg [b0, b1, b2, b3, b4, b5, b6, b7]) (T.set H i (one [a0, a1, a2, a3, a4, a5, a6, a7])) n k = k .undef (T.set (T.set H i (one [a0, a1, a2, a3, a4, a5, a6, a7])) i (one [b0, b1, b2, b3, b4, b5, b6, b7])) n := Ya rfl (by omega) rfl
theorem ANm (a0 a1 a2 a3 a4 a5 a6 a7 : V) {G : AL} {H : Heap} {i : Nat} {r : List wJ} : Bj (.cn (.ptr i 0) 8 :: r) G (T.set H i (one [a0, a1, a2, a3, a4, a5, a6, a7])) = A8 (Bj r G (T.set H i (one [a0, a1, a2, a3, a4, a5, a6, a7]))) fun vs => some (.agg [a0, a1, a2, a3, a4, a5, a6, a7] :: vs) := Bg (T.Ac ..) (by omega) rfl
theorem APr (a0 a1 a2 a3 a4 a5 a6 a7 a8 : V) (H : Heap) (n : Nat) (P : KV) : BX (Ag 9 [[a0, a1, a2, a3, a4, a5, a6, a7, a8]] E0) H n P = P (.ptr n 0) (T.set H n (one [a0, a1, a2, a3, a4, a5, a6, a7, a8])) (n + 1) := JQ rfl
theorem APe (a0 a1 a2 a3 a4 a5 a6 a7 a8 : V) {G : AL} {H : Heap} {i : Nat} : Ae 9 (.ptr i 0) G (T.set H i (one [a0, a1, a2, a3, a4, a5, a6, a7, a8])) = some (.agg [a0, a1, a2, a3, a4, a5, a6, a7, a8]) := Tn rfl (by omega)
theorem ANR (a0 a1 a2 a3 a4 a5 a6 a7 a8 b0 b1 b2 b3 b4 b5 b6 b7 b8 : V) {H : Heap} {i n : Nat} {k : KV} : CQ 9 (.ptr i 0) (.agg [b0, b1, b2, b3, b4, b5, b6, b7, b8]) (T.set H i (one [a0, a1, a2, a3, a4, a5, a6, a7, a8])) n k = k .undef (T.set (T.set H i (one [a0, a1, a2, a3, a4, a5, a6, a7, a8])) i (one [b0, b1, b2, b3, b4, b5, b6, b7, b8])) n := Ya rfl (by omega) rfl
theorem AN7 (a0 a1 a2 a3 a4 a5 a6 a7 a8 : V) {G : AL} {H : Heap} {i : Nat} {r : List wJ} : Bj (.cn (.ptr i 0) 9 :: r) G (T.set H i (one [a0, a1, a2, a3, a4, a5, a6, a7, a8])) = A8 (Bj r G (T.set H i (one [a0, a1, a2, a3, a4, a5, a6, a7, a8]))) fun vs => some (.agg [a0, a1, a2, a3, a4, a5, a6, a7, a8] :: vs) := Bg (T.Ac ..) (by omega) rfl
theorem ALo (a0 a1 a2 a3 a4 a5 a6 a7 a8 a9 : V) (H : Heap) (n : Nat) (P : KV) : BX (Ag 10 [[a0, a1, a2, a3, a4, a5, a6, a7, a8, a9]] E0) H n P = P (.ptr n 0) (T.set H n (one [a0, a1, a2, a3, a4, a5, a6, a7, a8, a9])) (n + 1) := JQ rfl
theorem AMk (a0 a1 a2 a3 a4 a5 a6 a7 a8 a9 : V) {G : AL} {H : Heap} {i : Nat} : Ae 10 (.ptr i 0) G (T.set H i (one [a0, a1, a2, a3, a4, a5, a6, a7, a8, a9])) = some (.agg [a0, a1, a2, a3, a4, a5, a6, a7, a8, a9]) := Tn rfl (by omega)
theorem AJR (a0 a1 a2 a3 a4 a5 a6 a7 a8 a9 b0 b1 b2 b3 b4 b5 b6 b7 b8 b9 : V) {H : Heap} {i n : Nat} {k : KV} : CQ 10 (.ptr i 0) (.agg [b0, b1, b2, b3, b4, b5, b6, b7, b8, b9]) (T.set H i (one [a0, a1, a2, a3, a4, a5, a6, a7, a8, a9])) n k = k .undef (T.set (T.set H i (one [a0, a1, a2, a3, a4, a5, a6, a7, a8, a9])) i (one [b0, b1, b2, b3, b4, b5, b6, b7, b8, b9])) n := Ya rfl (by omega) rfl
theorem AM9 (a0 a1 a2 a3 a4 a5 a6 a7 a8 a9 : V) {G : AL} {H : Heap} {i : Nat} {r : List wJ} : Bj (.cn (.ptr i 0) 10 :: r) G (T.set H i (one [a0, a1, a2, a3, a4, a5, a6, a7, a8, a9])) = A8 (Bj r G (T.set H i (one [a0, a1, a2, a3, a4, a5, a6, a7, a8, a9]))) fun vs => some (.agg [a0, a1, a2, a3, a4, a5, a6, a7, a8, a9] :: vs) := Bg (T.Ac ..) (by omega) rfl
theorem AMG (a0 a1 a2 a3 a4 a5 a6 a7 a8 a9 a10 : V) (H : Heap) (n : Nat) (P : KV) : BX (Ag 11 [[a0, a1, a2, a3, a4, a5, a6, a7, a8, a9, a10]] E0) H n P = P (.ptr n 0) (T.set H n (one [a0, a1, a2, a3, a4, a5, a6, a7, a8, a9, a10])) (n + 1) := JQ rfl
theorem ALc (a0 a1 a2 a3 a4 a5 a6 a7 a8 a9 a10 : V) {G : AL} {H : Heap} {i : Nat} : Ae 11 (.ptr i 0) G (T.set H i (one [a0, a1, a2, a3, a4, a5, a6, a7, a8, a9, a10])) = some (.agg [a0, a1, a2, a3, a4, a5, a6, a7, a8, a9, a10]) := Tn rfl (by omega)
theorem AIm (a0 a1 a2 a3 a4 a5 a6 a7 a8 a9 a10 b0 b1 b2 b3 b4 b5 b6 b7 b8 b9 b10 : V) {H : Heap} {i n : Nat} {k : KV} : CQ 11 (.ptr i 0) (.agg [b0, b1, b2, b3, b4, b5, b6, b7, b8, b9, b10]) (T.set H i (one [a0, a1, a2, a3, a4, a5, a6, a7, a8, a9, a10])) n k = k .undef (T.set (T.set H i (one [a0, a1, a2, a3, a4, a5, a6, a7, a8, a9, a10])) i (one [b0, b1, b2, b3, b4, b5, b6, b7, b8, b9, b10])) n := Ya rfl (by omega) rfl
theorem ANV (a0 a1 a2 a3 a4 a5 a6 a7 a8 a9 a10 : V) {G : AL} {H : Heap} {i : Nat} {r : List wJ} : Bj (.cn (.ptr i 0) 11 :: r) G (T.set H i (one [a0, a1, a2, a3, a4, a5, a6, a7, a8, a9, a10])) = A8 (Bj r G (T.set H i (one [a0, a1, a2, a3, a4, a5, a6, a7, a8, a9, a10]))) fun vs => some (.agg [a0, a1, a2, a3, a4, a5, a6, a7, a8, a9, a10] :: vs) := Bg (T.Ac ..) (by omega) rfl
theorem ALf (a0 a1 a2 a3 a4 a5 a6 a7 a8 a9 a10 a11 : V) (H : Heap) (n : Nat) (P : KV) : BX (Ag 12 [[a0, a1, a2, a3, a4, a5, a6, a7, a8, a9, a10, a11]] E0) H n P = P (.ptr n 0) (T.set H n (one [a0, a1, a2, a3, a4, a5, a6, a7, a8, a9, a10, a11])) (n + 1) := JQ rfl
theorem ALI (a0 a1 a2 a3 a4 a5 a6 a7 a8 a9 a10 a11 : V) {G : AL} {H : Heap} {i : Nat} : Ae 12 (.ptr i 0) G (T.set H i (one [a0, a1, a2, a3, a4, a5, a6, a7, a8, a9, a10, a11])) = some (.agg [a0, a1, a2, a3, a4, a5, a6, a7, a8, a9, a10, a11]) := Tn rfl (by omega)
theorem AIt (a0 a1 a2 a3 a4 a5 a6 a7 a8 a9 a10 a11 b0 b1 b2 b3 b4 b5 b6 b7 b8 b9 b10 b11 : V) {H : Heap} {i n : Nat} {k : KV} : CQ 12 (.ptr i 0) (.agg [b0, b1, b2, b3, b4, b5, b6, b7, b8, b9, b10, b11]) (T.set H i (one [a0, a1, a2, a3, a4, a5, a6, a7, a8, a9, a10, a11])) n k = k .undef (T.set (T.set H i (one [a0, a1, a2, a3, a4, a5, a6, a7, a8, a9, a10, a11])) i (one [b0, b1, b2, b3, b4, b5, b6, b7, b8, b9, b10, b11])) n := Ya rfl (by omega) rfl
theorem AL4 (a0 a1 a2 a3 a4 a5 a6 a7 a8 a9 a10 a11 : V) {G : AL} {H : Heap} {i : Nat} {r : List wJ} : Bj (.cn (.ptr i 0) 12 :: r) G (T.set H i (one [a0, a1, a2, a3, a4, a5, a6, a7, a8, a9, a10, a11])) = A8 (Bj r G (T.set H i (one [a0, a1, a2, a3, a4, a5, a6, a7, a8, a9, a10, a11]))) fun vs => some (.agg [a0, a1, a2, a3, a4, a5, a6, a7, a8, a9, a10, a11] :: vs) := Bg (T.Ac ..) (by omega) rfl
theorem AMb (a0 a1 a2 a3 a4 a5 a6 a7 a8 a9 a10 a11 a12 : V) (H : Heap) (n : Nat) (P : KV) : BX (Ag 13 [[a0, a1, a2, a3, a4, a5, a6, a7, a8, a9, a10, a11, a12]] E0) H n P = P (.ptr n 0) (T.set H n (one [a0, a1, a2, a3, a4, a5, a6, a7, a8, a9, a10, a11, a12])) (n + 1) := JQ rfl
theorem AMq (a0 a1 a2 a3 a4 a5 a6 a7 a8 a9 a10 a11 a12 : V) {G : AL} {H : Heap} {i : Nat} : Ae 13 (.ptr i 0) G (T.set H i (one [a0, a1, a2, a3, a4, a5, a6, a7, a8, a9, a10, a11, a12])) = some (.agg [a0, a1, a2, a3, a4, a5, a6, a7, a8, a9, a10, a11, a12]) := Tn rfl (by omega)
theorem AI0 (a0 a1 a2 a3 a4 a5 a6 a7 a8 a9 a10 a11 a12 b0 b1 b2 b3 b4 b5 b6 b7 b8 b9 b10 b11 b12 : V) {H : Heap} {i n : Nat} {k : KV} : CQ 13 (.ptr i 0) (.agg [b0, b1, b2, b3, b4, b5, b6, b7, b8, b9, b10, b11, b12]) (T.set H i (one [a0, a1, a2, a3, a4, a5, a6, a7, a8, a9, a10, a11, a12])) n k = k .undef (T.set (T.set H i (one [a0, a1, a2, a3, a4, a5, a6, a7, a8, a9, a10, a11, a12])) i (one [b0, b1, b2, b3, b4, b5, b6, b7, b8, b9, b10, b11, b12])) n := Ya rfl (by omega) rfl
theorem AMF (a0 a1 a2 a3 a4 a5 a6 a7 a8 a9 a10 a11 a12 : V) {G : AL} {H : Heap} {i : Nat} {r : List wJ} : Bj (.cn (.ptr i 0) 13 :: r) G (T.set H i (one [a0, a1, a2, a3, a4, a5, a6, a7, a8, a9, a10, a11, a12])) = A8 (Bj r G (T.set H i (one [a0, a1, a2, a3, a4, a5, a6, a7, a8, a9, a10, a11, a12]))) fun vs => some (.agg [a0, a1, a2, a3, a4, a5, a6, a7, a8, a9, a10, a11, a12] :: vs) := Bg (T.Ac ..) (by omega) rfl
theorem ALl (a0 a1 a2 a3 a4 a5 a6 a7 a8 a9 a10 a11 a12 a13 : V) (H : Heap) (n : Nat) (P : KV) : BX (Ag 14 [[a0, a1, a2, a3, a4, a5, a6, a7, a8, a9, a10, a11, a12, a13]] E0) H n P = P (.ptr n 0) (T.set H n (one [a0, a1, a2, a3, a4, a5, a6, a7, a8, a9, a10, a11, a12, a13])) (n + 1) := JQ rfl
theorem AMg (a0 a1 a2 a3 a4 a5 a6 a7 a8 a9 a10 a11 a12 a13 : V) {G : AL} {H : Heap} {i : Nat} : Ae 14 (.ptr i 0) G (T.set H i (one [a0, a1, a2, a3, a4, a5, a6, a7, a8, a9, a10, a11, a12, a13])) = some (.agg [a0, a1, a2, a3, a4, a5, a6, a7, a8, a9, a10, a11, a12, a13]) := Tn rfl (by omega)
theorem AJS (a0 a1 a2 a3 a4 a5 a6 a7 a8 a9 a10 a11 a12 a13 b0 b1 b2 b3 b4 b5 b6 b7 b8 b9 b10 b11 b12 b13 : V) {H : Heap} {i n : Nat} {k : KV} : CQ 14 (.ptr i 0) (.agg [b0, b1, b2, b3, b4, b5, b6, b7, b8, b9, b10, b11, b12, b13]) (T.set H i (one [a0, a1, a2, a3, a4, a5, a6, a7, a8, a9, a10, a11, a12, a13])) n k = k .undef (T.set (T.set H i (one [a0, a1, a2, a3, a4, a5, a6, a7, a8, a9, a10, a11, a12, a13])) i (one [b0, b1, b2, b3, b4, b5, b6, b7, b8, b9, b10, b11, b12, b13])) n := Ya rfl (by omega) rfl
theorem AL7 (a0 a1 a2 a3 a4 a5 a6 a7 a8 a9 a10 a11 a12 a13 : V) {G : AL} {H : Heap} {i : Nat} {r : List wJ} : Bj (.cn (.ptr i 0) 14 :: r) G (T.set H i (one [a0, a1, a2, a3, a4, a5, a6, a7, a8, a9, a10, a11, a12, a13])) = A8 (Bj r G (T.set H i (one [a0, a1, a2, a3, a4, a5, a6, a7, a8, a9, a10, a11, a12, a13]))) fun vs => some (.agg [a0, a1, a2, a3, a4, a5, a6, a7, a8, a9, a10, a11, a12, a13] :: vs) := Bg (T.Ac ..) (by omega) rfl
theorem AMP (a0 a1 a2 a3 a4 a5 a6 a7 a8 a9 a10 a11 a12 a13 a14 : V) (H : Heap) (n : Nat) (P : KV) : BX (Ag 15 [[a0, a1, a2, a3, a4, a5, a6, a7, a8, a9, a10, a11, a12, a13, a14]] E0) H n P = P (.ptr n 0) (T.set H n (one [a0, a1, a2, a3, a4, a5, a6, a7, a8, a9, a10, a11, a12, a13, a14])) (n + 1) := JQ rfl
theorem AL6 (a0 a1 a2 a3 a4 a5 a6 a7 a8 a9 a10 a11 a12 a13 a14 : V) {G : AL} {H : Heap} {i : Nat} : Ae 15 (.ptr i 0) G (T.set H i (one [a0, a1, a2, a3, a4, a5, a6, a7, a8, a9, a10, a11, a12, a13, a14])) = some (.agg [a0, a1, a2, a3, a4, a5, a6, a7, a8, a9, a10, a11, a12, a13, a14]) := Tn rfl (by omega)
theorem AI9 (a0 a1 a2 a3 a4 a5 a6 a7 a8 a9 a10 a11 a12 a13 a14 b0 b1 b2 b3 b4 b5 b6 b7 b8 b9 b10 b11 b12 b13 b14 : V) {H : Heap} {i n : Nat} {k : KV} : CQ 15 (.ptr i 0) (.agg [b0, b1, b2, b3, b4, b5, b6, b7, b8, b9, b10, b11, b12, b13, b14]) (T.set H i (one [a0, a1, a2, a3, a4, a5, a6, a7, a8, a9, a10, a11, a12, a13, a14])) n k = k .undef (T.set (T.set H i (one [a0, a1, a2, a3, a4, a5, a6, a7, a8, a9, a10, a11, a12, a13, a14])) i (one [b0, b1, b2, b3, b4, b5, b6, b7, b8, b9, b10, b11, b12, b13, b14])) n := Ya rfl (by omega) rfl
theorem ALV (a0 a1 a2 a3 a4 a5 a6 a7 a8 a9 a10 a11 a12 a13 a14 : V) {G : AL} {H : Heap} {i : Nat} {r : List wJ} : Bj (.cn (.ptr i 0) 15 :: r) G (T.set H i (one [a0, a1, a2, a3, a4, a5, a6, a7, a8, a9, a10, a11, a12, a13, a14])) = A8 (Bj r G (T.set H i (one [a0, a1, a2, a3, a4, a5, a6, a7, a8, a9, a10, a11, a12, a13, a14]))) fun vs => some (.agg [a0, a1, a2, a3, a4, a5, a6, a7, a8, a9, a10, a11, a12, a13, a14] :: vs) := Bg (T.Ac ..) (by omega) rfl
attribute [go_sem] ANM AMH ANP AMK AM7 ALa ANQ AMU ANE AM1 ALb AMy AI8 ALP Tn AM5 ALz Ya BA UA Rt zx AD7 AO2 ANu AOt APq AP8 AN1 AOX APD AOy AQO AIp AIr Zj AAH AKg AMM AMC AL5 QY APV AN0 AFg zO AIl AI7 AJ1 AIH AM6 ALZ AMv AJd
attribute [go_sem] ne_eq AQY AP9 AQs AP6 AQw AQb AQy AQv AQ4 AQ9 AQQ AQ6 AQi AQ3 AP7 AQl AQc AQE AOE APZ AN8 AOU AOG ANq AOC APi APU APm AIs AJw AJL AJP AKF AJX AJl AKa AKS AJG AGj AHC AIV AGP not_false_eq_true List.length_cons List.length_nil Nat.zero_add
attribute [go_sem] AOv APo AMi APQ AOj APR AMW APS AOo AOr ANW APN AOx AO4 AMa AN3 APs AOa ALp ANy APf APM ALe AOi APb AOW ALM APG AOH APH ALu ANm APr APe ANR AN7 ALo AMk AJR AM9 AMG ALc AIm ANV ALf ALI AIt AL4 AMb AMq AI0 AMF ALl AMg AJS AL7 AMP AL6 AI9 ALV
theorem SN {H : Heap} {id z : Nat} : ∀ (n o : Nat) {LS : Df}, Bc H id z n o = some LS -> LS.length = n /\ ∀ i c, LS[i]? = some c -> YF H id ((o + i) * z) z = some c
 | 0, o, LS, h => by cases h; exact ⟨rfl, fun i c hc => by simp at hc⟩
 | n + 1, o, LS, h => by
  have h' : A8 (YF H id (Nat.mul o z) z) (fun L => A8 (Bc H id z n (Nat.succ o)) fun LS => some (L :: LS)) = some LS := h
  rw [BJ] at h'
  obtain ⟨L, hL, h'⟩ := h'
  rw [BJ] at h'
  obtain ⟨LS', hLS, h'⟩ := h'
  cases h'
  obtain ⟨h1, h2⟩ := SN n (o + 1) hLS
  refine ⟨by simp [h1], fun i c hc => ?_⟩
  cases i with
  | zero => simp at hc; subst hc; exact hL
  | succ i => simp at hc; rw [show o + (i + 1) = o + 1 + i by omega]; exact h2 i c hc
theorem jF {G : AL} {b z : Nat} : ∀ (n o : Nat) {LS : Df}, Z7 G b z n o = some LS -> LS.length = n /\ ∀ i c, LS[i]? = some c -> G b (o + i * z) z = some c
 | 0, o, LS, h => by cases h; exact ⟨rfl, fun i c hc => by simp at hc⟩
 | n + 1, o, LS, h => by
  have h' : A8 (G b o z) (fun L => A8 (Z7 G b z n (Nat.add o z)) fun LS => some (L :: LS)) = some LS := h
  rw [BJ] at h'
  obtain ⟨L, hL, h'⟩ := h'
  rw [BJ] at h'
  obtain ⟨LS', hLS, h'⟩ := h'
  cases h'
  obtain ⟨h1, h2⟩ := jF n (o + z) hLS
  refine ⟨by simp [h1], fun i c hc => ?_⟩
  cases i with
  | zero => simp at hc; subst hc; simpa using hL
  | succ i => simp at hc; rw [show o + (i + 1) * z = o + z + i * z by rw [Nat.add_mul]; omega]; exact h2 i c hc
def El (G : AL) (H : Heap) (v : V) (z : Nat) (LS : Df) : Prop := isStr v = false /\ elems v G H z = some LS
theorem El.len {G : AL} {H : Heap} {v : V} {z : Nat} {LS : Df} (h : El G H v z LS) : lenV v = some (.int .i64 (.ofNat LS.length) 0) := by
 obtain ⟨hs, h⟩ := h
 cases v <;> try (cases h; done)
 ·cases hs
 ·cases h; rfl
 ·rename_i id off n c e
  cases hb : Nat.beq e z with
  | false => have h' : (Bool.rec (motive := fun _ => Option Df) none (Bc H id z n off) (Nat.beq e z) : Option Df) = some LS := h; rw [hb] at h'; cases h'
  | true =>
   have h' : (Bool.rec (motive := fun _ => Option Df) none (Bc H id z n off) (Nat.beq e z) : Option Df) = some LS := h
   rw [hb] at h'; rw [(SN _ _ h').1]; rfl
 ·rename_i id off n e
  cases hb : Nat.beq e z with
  | false => have h' : (Bool.rec (motive := fun _ => Option Df) none (Bc H id z n off) (Nat.beq e z) : Option Df) = some LS := h; rw [hb] at h'; cases h'
  | true =>
   have h' : (Bool.rec (motive := fun _ => Option Df) none (Bc H id z n off) (Nat.beq e z) : Option Df) = some LS := h
   rw [hb] at h'; rw [(SN _ _ h').1]; rfl
 ·rw [(jF _ _ h).1]; rfl
theorem El.at {G : AL} {H : Heap} {v : V} {z : Nat} {LS : Df} (h : El G H v z LS) {i : Nat} {c : LV} (hi : LS[i]? = some c) :
    ∃ p, Ai z v (.int .i64 (.ofNat i) 0) = some p /\ fF p G H z = some c := by
  obtain ⟨hs, h⟩ := h
  obtain ⟨hlt, _⟩ := List.getElem?_eq_some_iff.1 hi
  cases v <;> try (cases h; done)
  · cases hs
  · cases h; simp at hlt
  · rename_i id off n cp e
    have h' : (Bool.rec (motive := fun _ => Option Df) none (Bc H id z n off) (Nat.beq e z) : Option Df) = some LS := h
    cases hb : Nat.beq e z with
    | false => rw [hb] at h'; cases h'
    | true =>
      rw [hb] at h'
      obtain ⟨h1, h2⟩ := SN _ _ h'
      refine ⟨.ptr id ((off + i) * z), ?_, h2 i c hi⟩
      show BD (band (Nat.beq e z) (Nat.blt i n)) (ES (Nat.mul (Nat.add off i) z) fun o => some (.ptr id o)) = _
      rw [hb, show Nat.blt i n = true by rw [Nat.blt_eq]; omega, Cm]; rfl
  · rename_i id off n e
    have h' : (Bool.rec (motive := fun _ => Option Df) none (Bc H id z n off) (Nat.beq e z) : Option Df) = some LS := h
    cases hb : Nat.beq e z with
    | false => rw [hb] at h'; cases h'
    | true =>
      rw [hb] at h'
      obtain ⟨h1, h2⟩ := SN _ _ h'
      refine ⟨.ptr id ((off + i) * z), ?_, h2 i c hi⟩
      show BD (band (Nat.beq e z) (Nat.blt i n)) (ES (Nat.mul (Nat.add off i) z) fun o => some (.ptr id o)) = _
      rw [hb, show Nat.blt i n = true by rw [Nat.blt_eq]; omega, Cm]; rfl
  · rename_i b off n cp e
    obtain ⟨h1, h2⟩ := jF _ _ h
    refine ⟨.gptr b (off + i * z), ?_, h2 i c hi⟩
    show BD (Nat.blt i n) (ES (Nat.add off (Nat.mul i z)) fun o => some (.gptr b o)) = _
    rw [show Nat.blt i n = true by rw [Nat.blt_eq]; omega, Cm]; rfl
theorem CB {G : AL} {H : Heap} {p : V} {z : Nat} {c : LV} (h : fF p G H z = some c) : Ae z p G H = some (.agg c) := by rw [AEy, h]; rfl
theorem OG {G : AL} {H : Heap} {p v : V} (h : fF p G H 1 = some [v]) : AZ p G H = some v := by rw [ABG, h]; rfl
noncomputable def V.SQ (v : V) : Option Nat := match v with | .sl id .. => some id | .NY id .. => some id | _ => none
theorem El.same {G : AL} {H H' : Heap} {v : V} {z : Nat} {LS : Df} (h : El G H v z LS) (hs : ∀ id, v.SQ = some id -> T.get H' id = T.get H id) : El G H' v z LS := by
 refine ⟨h.1, ?_⟩
 have hB : ∀ id, v.SQ = some id -> ∀ n o, Bc H' id z n o = Bc H id z n o := by
  intro id hid n
  induction n with
  | zero => intro o; rfl
  | succ n ih =>
   intro o
   show A8 (YF H' id (Nat.mul o z) z) (fun L => A8 (Bc H' id z n (Nat.succ o)) fun LS => some (L :: LS)) = A8 (YF H id (Nat.mul o z) z) (fun L => A8 (Bc H id z n (Nat.succ o)) fun LS => some (L :: LS))
   rw [ih]; unfold YF; rw [hs id hid]
 have h2 := h.2
 cases v <;> try exact h2
 ·rename_i id off n c e
  show (Bool.rec (motive := fun _ => Option Df) none (Bc H' id z n off) (Nat.beq e z) : Option Df) = some LS
  rw [hB id rfl]; exact h2
 ·rename_i id off n e
  show (Bool.rec (motive := fun _ => Option Df) none (Bc H' id z n off) (Nat.beq e z) : Option Df) = some LS
  rw [hB id rfl]; exact h2
theorem T.lg {α : Type} (a b : α) : ∀ (p : P2) (t : T α), T.X3 b p (T.X3 a p t) = T.X3 b p t
 | .h, t => rfl
 | .z p, t => by show T.n t.val (T.X3 b p (T.X3 a p t.left)) t.right = T.n t.val (T.X3 b p t.left) t.right; rw [T.lg a b p]
 | .o p, t => by show T.n t.val t.left (T.X3 b p (T.X3 a p t.right)) = T.n t.val t.left (T.X3 b p t.right); rw [T.lg a b p]
theorem T.set_set {α : Type} (t : T α) (k : Nat) (a b : α) : T.set (T.set t k a) k b = T.set t k b := T.lg ..
theorem Kp.get {H H' : Heap} {n n' id : Nat} {b : NR} (f : Kp H n H' n') (h : T.get H id = some b) (hi : id < n) : T.get H' id = some b := (f.same id hi).trans h
theorem Kp.set {H0 H : Heap} {n0 n id : Nat} (a : Kp H0 n0 H n) (b : NR) (h : n0 <= id) : Kp H0 n0 (T.set H id b) n := a.new b h (Nat.le_refl _)
theorem BR {σ : Type} {b : (σ -> Prop) -> σ -> Prop} {N : Nat} {J : Nat -> σ -> Prop} (hs : ∀ I i s, i < N -> J i s -> (∀ s', J (i + 1) s' -> I s') -> b I s) (he : ∀ I s, J N s -> b I s) {s : σ} (h0 : J 0 s) : lfp σ b s := by
 refine G7 (J := fun m s => ∃ i, m = N - i /\ i <= N /\ J i s) ?_ (m := N) ⟨0, rfl, Nat.zero_le _, h0⟩
 rintro I m s ⟨i, rfl, hi, hj⟩ ih
 rcases Nat.lt_or_ge i N with h | h
 ·exact hs I i s h hj fun s' hj' => ih _ s' (by omega) ⟨i + 1, rfl, h, hj'⟩
 ·have : i = N := by omega
  subst this; exact he I s hj
section
variable {H : Heap} {n z : Nat} {L : LV} {P : KV}
theorem ANn {v : V} (hv : U3 v = true) (h : ∀ H', Kp H n H' (n + 1) -> T.get H' n = some (one (Am v)) -> P (.ptr n 0) H' (n + 1)) : BX (DU v) H n P := by
 rw [Xw hv]; exact h _ ((Kp.refl H n).new _ (Nat.le_refl _) (by omega)) (T.Ac ..)
theorem Iu (h : ∀ H', Kp H n H' (n + 1) -> T.get H' n = some (one L) -> P (.ptr n 0) H' (n + 1)) : BX (DU (.agg L)) H n P := ANn rfl h
theorem Ld (hL : L.length = z) (h : ∀ H', Kp H n H' (n + 1) -> T.get H' n = some (one L) -> P (.ptr n 0) H' (n + 1)) : BX (Ag z [L] E0) H n P := by
 rw [JQ hL]; exact h _ ((Kp.refl H n).new _ (Nat.le_refl _) (by omega)) (T.Ac ..)
theorem Tv {L' : LV} (hL : L.length = z) (hL' : L'.length = z) (hz : 0 < z) (h : ∀ H', Kp H n H' (n + 1) -> T.get H' n = some (one L') -> P .undef H' (n + 1)) :
    CQ z (.ptr n 0) (.agg L') (T.set H n (one L)) (n + 1) P := by
  rw [Ya hL hz hL', T.set_set]; exact h _ ((Kp.refl H n).new _ (Nat.le_refl _) (by omega)) (T.Ac ..)
theorem uf {i o m : Nat} {L : LV} {v : V} (hg : T.get H i = some (one L)) (hv : U3 v = true) (hn : (Am v).length = m) (hm : 0 < m) (hl : o + m <= L.length)
    (h : ∀ H', T.get H' i = some (one (L.take o ++ (Am v ++ L.drop (o + m)))) -> (∀ j, j ≠ i -> T.get H' j = T.get H j) -> P .undef H' n) : CQ m (.ptr i o) v H n P := by
  rw [jl hg hv hn hm hl]; exact h _ (T.Ac ..) fun j hj => T.AY _ _ (Ne.symm hj)
end
theorem jh {H : Heap} {id e c i : Nat} {t : T LV} (hg : T.get H id = some (.arr e c t)) (he : 0 < e) (hi : i < c) : YF H id (i * e) e = T.get t i := by
 unfold YF; rw [hg]
 show ldB e c t (i * e) e = _
 unfold ldB
 have hdiv : i * e / e = i := Nat.mul_div_cancel _ he
 have hmod : i * e % e = 0 := Nat.mul_mod_left ..
 have hb : Nat.blt (Nat.div (i * e) e) c = true := by rw [Nat.blt_eq]; show i * e / e < c; omega
 rw [hb]
 show A8 (T.get t (Nat.div (i * e) e)) (ldC e (i * e) e) = _
 rw [show Nat.div (i * e) e = i from hdiv]
 cases h : T.get t i with
 | none => rfl
 | some L =>
  show ldC e (i * e) e L = _
  unfold ldC
  rw [show Nat.mod (i * e) e = 0 from hmod, show band (Nat.beq e e) (Nat.beq 0 0) = true by simp]
theorem YA {H : Heap} {id z : Nat} : ∀ (n o : Nat) (LS : Df), LS.length = n -> (∀ i c, LS[i]? = some c -> YF H id ((o + i) * z) z = some c) -> Bc H id z n o = some LS
 | 0, o, LS, hl, _ => by cases LS with | nil => rfl | cons a l => simp at hl
 | n + 1, o, LS, hl, h => by
  cases LS with
  | nil => simp at hl
  | cons a l =>
   show A8 (YF H id (Nat.mul o z) z) (fun L => A8 (Bc H id z n (Nat.succ o)) fun LS => some (L :: LS)) = _
   have h0 := h 0 a rfl
   rw [show Nat.mul o z = (o + 0) * z from rfl, h0, QY, YA n (o + 1) l (by simpa using hl) fun i c hc => by
    have := h (i + 1) c (by simpa using hc); rwa [show o + (i + 1) = o + 1 + i by omega] at this]
   rfl
inductive Gr (G : AL) (H : Heap) (m : Nat) (z : Nat) : V -> Df -> Prop where
 | nil : Gr G H m z .Aa []
 | NY {id c : Nat} {t : T LV} {LS : Df} (hg : T.get H id = some (.arr z c t)) (hc : LS.length <= c) (ht : ∀ i L, LS[i]? = some L -> T.get t i = some L) (hid : m <= id) : Gr G H m z (.NY id 0 LS.length z) LS
theorem Cj (z : Nat) : Nat.beq z z = true := by simp
theorem Gr.el {G : AL} {H : Heap} {m z : Nat} {v : V} {LS : Df} (h : Gr G H m z v LS) (hz : 0 < z) : El G H v z LS := by
 cases h with
 | nil => exact ⟨rfl, rfl⟩
 | NY hg hc ht hid =>
  rename_i id c t
  refine ⟨rfl, ?_⟩
  show (Bool.rec (motive := fun _ => Option Df) none (Bc H id z LS.length 0) (Nat.beq z z) : Option Df) = some LS
  rw [Cj]
  exact YA _ _ _ rfl fun i L hi => by
   have hlt := (List.getElem?_eq_some_iff.1 hi).1
   rw [Nat.zero_add, jh hg hz (by omega)]; exact ht i L hi
theorem Gr.mono {G : AL} {H H' : Heap} {m z : Nat} {v : V} {LS : Df} (h : Gr G H m z v LS) (hs : ∀ id, v.SQ = some id -> T.get H' id = T.get H id) : Gr G H' m z v LS := by
 cases h with
 | nil => exact .nil
 | NY hg hc ht hid => exact .NY (hs _ rfl ▸ hg) hc ht hid
theorem Gr.lo {G : AL} {H : Heap} {m z : Nat} {v : V} {LS : Df} (h : Gr G H m z v LS) {id : Nat} (hid : v.SQ = some id) : m <= id /\ ∃ c t, T.get H id = some (.arr z c t) := by
 cases h with
 | nil => cases hid
 | NY hg hc ht hi => cases hid; exact ⟨hi, _, _, hg⟩
theorem VD {a b : Nat} (h : a * b <= 140737488355328) : OH a b = true := by unfold OH; rw [Nat.ble_eq]; exact h
theorem ABf {id ln z bs c n : Nat} {t : T LV} {NS : Df} {H : Heap} {k : KV} (hr : OH (ln + NS.length) bs = true) (hc : ln <= c) :
    Ws id 0 ln z bs NS H n k (.arr z c t) = k (.NY n 0 (ln + NS.length) z) (T.set (T.set H id .dead) n (.arr z (ln + NS.length) (EL NS ln t))) (n + 1) := by
  show CV (Nat.add ln (len NS)) (fun need => Ko (band (OH need bs) (band (Nat.beq z z) (Nat.ble (Nat.add 0 ln) c))) (CV n fun n => k (.NY n 0 need z) (T.set (T.set H id .dead) n (.arr z need (EL NS ln t))) (Nat.succ n))) = _
  rw [BG, BG, len_eq]
  show Ko (band (OH (ln + NS.length) bs) (band (Nat.beq z z) (Nat.ble (Nat.add 0 ln) c))) (k (.NY n 0 (ln + NS.length) z) (T.set (T.set H id .dead) n (.arr z (ln + NS.length) (EL NS ln t))) (n + 1)) = _
  rw [hr, Cj, show Nat.ble (Nat.add 0 ln) c = true by rw [Nat.ble_eq]; show 0 + ln <= c; omega]
  rfl
theorem Gr.app {G : AL} {H : Heap} {m n z bs : Nat} {v w : V} {LS NS : Df} {k : KV} (h : Gr G H m z v LS) (hm : m <= n) (hn : ∀ id, v.SQ = some id -> id < n) (hw : elems w G H z = some NS)
    (hb : (LS.length + NS.length) * bs <= 140737488355328)
    (hk : ∀ v' H', Gr G H' m z v' (LS ++ NS) -> (∀ id, id < n -> v.SQ ≠ some id -> T.get H' id = T.get H id) -> (∀ id, v'.SQ = some id -> id < n + 1) -> k v' H' (n + 1))
    (hk0 : NS = [] -> k v H n) : TU z bs v w G H n k := by
  unfold TU
  rw [hw, UA]
  cases h with
  | nil =>
    cases NS with
    | nil => exact hk0 rfl
    | cons a NS =>
      show Ir z bs [] (a :: NS) H n k
      unfold Ir
      rw [BG, BG, len_eq, len_eq, show OH (Nat.add ([] : Df).length (a :: NS).length) bs = true from VD hb, Rt]
      have e : Nat.add ([] : Df).length (a :: NS).length = (a :: NS).length := Nat.zero_add _
      rw [e]
      refine hk _ _ ?_ (fun id hid _ => T.AY _ _ (by omega)) (fun id hid => by cases hid; omega)
      refine .NY (LS := a :: NS) (T.Ac ..) (Nat.le_refl _) (fun i L hi => ?_) hm
      show T.get (EL (a :: NS) 0 .e) i = some L
      have hlt := (List.getElem?_eq_some_iff.1 hi).1
      rw [EM, if_pos ⟨Nat.zero_le _, by omega⟩]; exact hi
  | NY hg hc ht hid =>
    rename_i id c t
    show Ko (Nat.beq z z) _
    rw [Cj, Rt]
    cases NS with
    | nil => exact hk0 rfl
    | cons a NS =>
      show Gp (T.get H id) (fun b => Ws id 0 LS.length z bs (a :: NS) H n k b)
      rw [hg, UA]
      rw [ABf (VD hb) hc, show LS.length + (a :: NS).length = (LS ++ a :: NS).length by rw [List.length_append]]
      refine hk _ _ ?_ (fun j hj hne => ?_) (fun j hj => by cases hj; omega)
      · refine .NY (LS := LS ++ a :: NS) (T.Ac ..) (Nat.le_refl _) (fun i L hi => ?_) hm
        rw [EM]
        by_cases hlt : i < LS.length
        · rw [if_neg (by omega)]
          rw [List.getElem?_append_left hlt] at hi
          exact ht i L hi
        · rw [List.getElem?_append_right (by omega)] at hi
          have hlt2 := (List.getElem?_eq_some_iff.1 hi).1
          rw [if_pos ⟨by omega, by omega⟩]; exact hi
      · rw [T.AY _ _ (by omega), T.AY _ _ (by intro e; subst e; exact hne rfl)]
def Zf (H : Heap) (id : Nat) (ps : List ((Nat × Nat) × V)) : Prop := ∃ es ck, T.get H id = some (.map es ck) /\ es.map (fun e => (e.1, e.2.1)) = ps.map fun p => (V.str p.1.1 p.1.2, p.2)
def DT {α : Type} (ps : List ((Nat × Nat) × α)) (s : Nat × Nat) : Option α := (ps.find? fun p => decide (p.1 = s)).map (·.2)
theorem ckS (a b l c : Nat) : CK.str.eq (.str a b) (.str l c) = some (decide ((a, b) = (l, c))) := by
 show some (band (Nat.beq a l) (Nat.beq b c)) = _
 congr 1; rw [BH, Bool.eq_iff_iff]; simp
theorem mX : ∀ (es : ME) (ps : List ((Nat × Nat) × V)) (s : Nat × Nat) (i : Nat), es.map (fun e => (e.1, e.2.1)) = ps.map (fun p => (V.str p.1.1 p.1.2, p.2)) ->
    Zl .str (.str s.1 s.2) es i = some ((DT ps s).map fun v => (i + (ps.findIdx fun p => decide (p.1 = s)), v))
  | [], ps, s, i, h => by
    cases ps with
    | nil => rfl
    | cons p ps => simp at h
  | e :: es, ps, s, i, h => by
    cases ps with
    | nil => simp at h
    | cons p ps =>
      simp only [List.map_cons, List.cons.injEq, Prod.mk.injEq] at h
      obtain ⟨⟨h1, h2⟩, h3⟩ := h
      show A8 (CK.str.eq e.1 (.str s.1 s.2)) (fun r => Bool.rec (Zl .str (.str s.1 s.2) es (Nat.succ i)) (some (some (i, e.2.1))) r) = _
      rw [h1, ckS, QY, mX es ps s (i + 1) h3]
      by_cases hp : p.1 = s
      · have hd : decide ((p.1.1, p.1.2) = (s.1, s.2)) = true := decide_eq_true hp
        rw [hd]
        unfold DT
        simp [hp, List.findIdx_cons, h2]
      · have hd : decide ((p.1.1, p.1.2) = (s.1, s.2)) = false := decide_eq_false hp
        rw [hd]
        unfold DT
        simp only [List.find?_cons, hp, decide_false, List.findIdx_cons, cond_false]
        show some (Option.map (fun v => (i + 1 + List.findIdx (fun p => decide (p.fst = s)) ps, v)) _) = _
        congr 2; funext v; congr 1; omega
theorem AEC {H : Heap} {id : Nat} {es : ME} {ck : Nat} (h : T.get H id = some (.map es ck)) (f : ME -> Nat -> Option V) : OO H (.map id) f = f es ck := by
 show (Option.rec (motive := fun _ => (ME -> Nat -> Option V) -> Option V) (fun _ => none) AN2 (T.get H id) f : Option V) = _
 rw [h]; rfl
def AKj (z : V) : Option V -> V
 | some v => .II [v, .bool true]
 | none => .II [z, .bool false]
theorem sO {H : Heap} {id : Nat} {ps : List ((Nat × Nat) × V)} (h : Zf H id ps) (z : V) (s : Nat × Nat) :
    tZ .str true z (.map id) (.str s.1 s.2) H = some (AKj z (DT ps s)) := by
  obtain ⟨es, ck, hg, he⟩ := h
  unfold tZ
  rw [AEC hg, mX es ps s 0 he, QY]
  cases DT ps s <;> rfl
def Qd {α : Type} (s : Nat × Nat) (v : α) : List ((Nat × Nat) × α) -> List ((Nat × Nat) × α)
 | [] => [(s, v)]
 | p :: ps => if p.1 = s then (s, v) :: ps else p :: Qd s v ps
theorem Qy {α : Type} (s : Nat × Nat) (v : α) : ∀ (ps : List ((Nat × Nat) × α)) (t : Nat × Nat), DT (Qd s v ps) t = if s = t then some v else DT ps t
 | [], t => by
  unfold Qd DT
  by_cases h : s = t <;> simp [h]
 | p :: ps, t => by
  have ih := Qy s v ps t
  unfold Qd
  by_cases h : p.1 = s
  ·rw [if_pos h]
   by_cases h2 : s = t
   ·simp [DT, h2]
   ·have h3 : ¬ p.1 = t := by rw [h]; exact h2
    simp [DT, h2, h3]
  ·rw [if_neg h]
   by_cases h2 : p.1 = t
   ·have h3 : ¬ s = t := by intro e; exact h (h2.trans e.symm)
    simp [DT, h2, h3]
   ·unfold DT at ih ⊢
    simp only [List.find?_cons, h2, decide_false]
    exact ih
theorem AAg {H : Heap} {id : Nat} {ps : List ((Nat × Nat) × V)} (h : Zf H id ps) (s : Nat × Nat) (v : V) {n : Nat} {k : KV}
    (hk : ∀ H', Zf H' id (Qd s v ps) -> (∀ j, j ≠ id -> T.get H' j = T.get H j) -> k .undef H' n) : AKh .str (.map id) (.str s.1 s.2) v H n k := by
  obtain ⟨es, ck, hg, he⟩ := h
  show Gp (T.get H id) (fun b => Gp (ALE b (ADh .str (.str s.1 s.2) v)) fun b => k .undef (T.set H id b) n)
  rw [hg, UA]
  show Gp (ADh .str (.str s.1 s.2) v es ck) _
  unfold ADh
  rw [mX es ps s 0 he, QY]
  have key : ∀ (es : ME) (ps : List ((Nat × Nat) × V)), es.map (fun e => (e.1, e.2.1)) = ps.map (fun p => (V.str p.1.1 p.1.2, p.2)) ->
      match DT ps s with
      | none => (cat es [(V.str s.1 s.2, v, ck)]).map (fun e => (e.1, e.2.1)) = (Qd s v ps).map (fun p => (V.str p.1.1 p.1.2, p.2))
      | some _ => ∃ e, nth es (ps.findIdx fun p => decide (p.1 = s)) = some e /\ (Yf (e.1, v, e.2.2) es (ps.findIdx fun p => decide (p.1 = s))).map (fun e => (e.1, e.2.1)) = (Qd s v ps).map (fun p => (V.str p.1.1 p.1.2, p.2)) := by
    intro es
    induction es with
    | nil => intro ps h; cases ps with
      | nil => rfl
      | cons p ps => simp at h
    | cons e es ih =>
      intro ps h
      cases ps with
      | nil => simp at h
      | cons p ps =>
        simp only [List.map_cons, List.cons.injEq, Prod.mk.injEq] at h
        obtain ⟨⟨h1, h2⟩, h3⟩ := h
        have ih := ih ps h3
        by_cases hp : p.1 = s
        · have : DT (p :: ps) s = some p.2 := by simp [DT, hp]
          rw [this]
          refine ⟨e, by simp [List.findIdx_cons, hp], ?_⟩
          simp only [Qd, hp, if_true, List.findIdx_cons, decide_true, cond_true]
          show ((e.1, v, e.2.2) :: es).map (fun e => (e.1, e.2.1)) = _
          simp only [List.map_cons, h1, hp, h3]
        · have : DT (p :: ps) s = DT ps s := by simp [DT, hp]
          rw [this]
          cases hl : DT ps s with
          | none =>
            rw [hl] at ih
            simp only [Qd, hp, if_false]
            show ((e :: cat es [(V.str s.1 s.2, v, ck)]).map fun e => (e.1, e.2.1)) = _
            simp only [List.map_cons, h1, h2]
            rw [show List.map (fun e => (e.fst, e.snd.fst)) (cat es [(V.str s.1 s.2, v, ck)]) = _ from ih]
          | some x =>
            rw [hl] at ih
            obtain ⟨e', he', hs⟩ := ih
            refine ⟨e', ?_, ?_⟩
            · simp only [List.findIdx_cons, hp, decide_false, cond_false]; exact he'
            · simp only [List.findIdx_cons, hp, decide_false, cond_false, Qd, if_false]
              show (e :: Yf (e'.1, v, e'.2.2) es _).map (fun e => (e.1, e.2.1)) = _
              simp only [List.map_cons, h1, h2]
              rw [show List.map (fun e => (e.fst, e.snd.fst)) (Yf (e'.1, v, e'.2.2) es (List.findIdx (fun p => decide (p.fst = s)) ps)) = _ from hs]
  have key := key es ps he
  cases hl : DT ps s with
  | none =>
    rw [hl] at key
    show Gp (some (.map (cat es [(V.str s.1 s.2, v, ck)]) (Nat.succ ck))) (fun b => k .undef (T.set H id b) n)
    rw [UA]
    exact hk _ ⟨_, _, T.Ac .., key⟩ fun j hj => T.AY _ _ (Ne.symm hj)
  | some x =>
    rw [hl] at key
    obtain ⟨e, he', hs⟩ := key
    show Gp (A8 (nth es (0 + ps.findIdx fun p => decide (p.1 = s))) fun e => some (.map (Yf (e.1, v, e.2.2) es (0 + ps.findIdx fun p => decide (p.1 = s))) ck)) (fun b => k .undef (T.set H id b) n)
    rw [Nat.zero_add, he', QY, UA]
    exact hk _ ⟨_, _, T.Ac .., hs⟩ fun j hj => T.AY _ _ (Ne.symm hj)
def U6 (G : AL) : Prop := ∀ b o z L, G b o z = some L -> L.length = z /\ ∀ i m, 0 < m -> i + m <= z -> G b (o + i) m = some ((L.drop i).take m)
theorem AG5 (e off m : Nat) (L : LV) : ldC e off m L = if m = e /\ off % e = 0 then some L else if off % e + m <= e then some ((L.drop (off % e)).take m) else none := by
 have e1 : ldC e off m L = Bool.rec (motive := fun _ => Option LV) (Bool.rec none (some (Uf m (aS (off % e) L))) (Nat.ble (off % e + m) e)) (some L) (band (Nat.beq m e) (Nat.beq (off % e) 0)) := rfl
 rw [e1, Vs, Zz]
 by_cases h : m = e /\ off % e = 0
 ·have hb : band (Nat.beq m e) (Nat.beq (off % e) 0) = true := by simp only [BH, Bool.and_eq_true, beq_iff]; exact h
  rw [if_pos h, hb]
 ·have hb : band (Nat.beq m e) (Nat.beq (off % e) 0) = false := by rw [Bool.eq_false_iff]; intro hc; simp only [BH, Bool.and_eq_true, beq_iff] at hc; exact h hc
  rw [if_neg h, hb]
  by_cases h2 : off % e + m <= e
  ·rw [if_pos h2, show Nat.ble (off % e + m) e = true by rw [Nat.ble_eq]; exact h2]
  ·rw [if_neg h2, show Nat.ble (off % e + m) e = false by rw [Bool.eq_false_iff]; intro hc; rw [Nat.ble_eq] at hc; exact h2 hc]
theorem AHm {e cnt off m : Nat} {t : T LV} {c : LV} (h : ldB e cnt t off m = some c) : ∃ L, off / e < cnt /\ T.get t (off / e) = some L /\ ldC e off m L = some c := by
 unfold ldB at h
 rw [BJ] at h
 obtain ⟨L, h1, h2⟩ := h
 cases hb : Nat.blt (Nat.div off e) cnt with
 | false => rw [hb] at h1; cases h1
 | true => rw [hb] at h1; exact ⟨L, by rw [Nat.blt_eq] at hb; exact hb, h1, h2⟩
theorem AI4 {H : Heap} {id off z o m : Nat} {c : LV} (h : YF H id off z = some c) (hc : c.length = z) (hm : 0 < m) (ho : o + m <= z) : YF H id (off + o) m = some ((c.drop o).take m) := by
 unfold YF at h ⊢
 cases hb : T.get H id with
 | none => rw [hb] at h; cases h
 | some b =>
  rw [hb] at h
  cases b with
  | map _ _ => cases h
  | dead => cases h
  | arr e cnt t =>
   have h' : ldB e cnt t off z = some c := h
   show ldB e cnt t (off + o) m = _
   obtain ⟨L, h1, h2, h3⟩ := AHm h'
   rw [AG5] at h3
   have key : off % e + z <= e /\ c = (L.drop (off % e)).take z /\ (z = e /\ off % e = 0 -> c = L) := by
    by_cases hh : z = e /\ off % e = 0
    ·rw [if_pos hh] at h3
     cases h3
     rw [hh.2, List.drop_zero, List.take_of_length_le (by omega)]
     exact ⟨by omega, rfl, fun _ => rfl⟩
    ·rw [if_neg hh] at h3
     by_cases h4 : off % e + z <= e
     ·rw [if_pos h4] at h3; exact ⟨h4, (Option.some.inj h3).symm, fun h => absurd h hh⟩
     ·rw [if_neg h4] at h3; cases h3
   obtain ⟨hle, hcc, hcl⟩ := key
   have he : 0 < e := by omega
   have hlt : off % e + o < e := by omega
   have hoff : off + o = e * (off / e) + (off % e + o) := by have := Nat.div_add_mod off e; omega
   have hd : (off + o) / e = off / e := by rw [hoff, Nat.mul_add_div he, Nat.div_eq_of_lt hlt]; omega
   have hmo : (off + o) % e = off % e + o := by rw [hoff, Nat.mul_add_mod, Nat.mod_eq_of_lt hlt]
   unfold ldB
   rw [show Nat.div (off + o) e = off / e from hd, show Nat.blt (off / e) cnt = true by rw [Nat.blt_eq]; exact h1]
   show A8 (T.get t (off / e)) (ldC e (off + o) m) = _
   rw [h2, QY, AG5, hmo]
   have hL : z <= (L.drop (off % e)).length := by rw [hcc, List.length_take] at hc; omega
   by_cases hh : m = e /\ off % e + o = 0
   ·rw [if_pos hh, <- hcl ⟨by omega, by omega⟩, show o = 0 by omega, List.drop_zero, List.take_of_length_le (by omega)]
   ·rw [if_neg hh, if_pos (by omega), hcc, List.drop_take, List.take_take, List.drop_drop, Nat.min_eq_left (by omega)]
theorem AKH {G : AL} (hG : U6 G) {H : Heap} {p : V} {z o m : Nat} {c : LV} (h : fF p G H z = some c) (hc : c.length = z) (hm : 0 < m) (ho : o + m <= z) :
    ∃ p', AQ o p = some p' /\ fF p' G H m = some ((c.drop o).take m) := by
  cases p <;> try (cases h; done)
  · rename_i id off; exact ⟨_, Zj .., AI4 h hc hm ho⟩
  · rename_i b off; exact ⟨_, AAH .., (hG b off z c h).2 o m hm ho⟩
theorem YJ {G : AL} (hG : U6 G) {H : Heap} {p : V} {z o : Nat} {c : LV} {x : V} (h : fF p G H z = some c) (hc : c.length = z) (ho : c[o]? = some x) :
    ∃ p', AQ o p = some p' /\ AZ p' G H = some x := by
  obtain ⟨hlt, he⟩ := List.getElem?_eq_some_iff.1 ho
  obtain ⟨p', h1, h2⟩ := AKH hG h hc (o := o) (m := 1) (by omega) (by omega)
  refine ⟨p', h1, ?_⟩
  rw [ABG, h2, AAA, gQ, List.getElem?_take]
  simp [ho]
theorem AJF {G : AL} {H : Heap} {n id m z bs : Nat} {t : T LV} {w : V} {LS NS : Df} {k : KV} (hz : 0 < z) (hb : T.get H id = some (.arr z m t)) (hid : id < n) (h : elems (.sl id 0 m m z) G H z = some LS)
    (hw : elems w G H z = some NS) (hr : (m + NS.length) * bs <= 140737488355328)
    (hk : ∀ v' H' n', El G H' v' z (LS ++ NS) -> (∀ j, j < n -> T.get H' j = T.get H j) -> n <= n' -> (∀ j, v'.SQ = some j -> j < n') -> k v' H' n') : TU z bs (.sl id 0 m m z) w G H n k := by
  unfold TU
  rw [hw, UA]
  have h2 : (Bool.rec (motive := fun _ => Option Df) none (Bc H id z m 0) (Nat.beq z z) : Option Df) = some LS := h
  rw [Cj] at h2
  have h2 : Bc H id z m 0 = some LS := h2
  obtain ⟨hl, hat⟩ := SN _ _ h2
  have e0 : zh (.sl id 0 m m z) G z bs NS H n k = Bool.rec (motive := fun _ => Prop) (Gp (Bc H id z m 0) fun OS => Ir z bs OS NS H n k) (Gp (T.get H id) fun b => eU id 0 m m z (m + NS.length) NS H n k b) (Nat.ble (m + NS.length) m) := by
    show Ko (Nat.beq z z) (CV (Nat.add m (len NS)) fun need => Bool.rec (motive := fun _ => Prop) (Gp (Bc H id z m 0) fun OS => Ir z bs OS NS H n k) (Gp (T.get H id) fun b => eU id 0 m m z need NS H n k b) (Nat.ble need m)) = _
    rw [Cj, Rt, BG, len_eq]; rfl
  rw [e0]
  by_cases hN : NS.length = 0
  · have : NS = [] := List.length_eq_zero_iff.1 hN
    subst this
    rw [show Nat.ble (m + ([] : Df).length) m = true by rw [Nat.ble_eq]; exact Nat.le_refl _]
    show Gp (T.get H id) (fun b => eU id 0 m m z (m + 0) [] H n k b)
    rw [hb, UA]
    show Ko (band (Nat.beq z z) (Nat.ble (Nat.add 0 (m + 0)) m)) (k (.sl id 0 (m + 0) m z) (T.set H id (.arr z m t)) n)
    rw [Cj, show Nat.ble (Nat.add 0 (m + 0)) m = true by rw [Nat.ble_eq]; show 0 + m <= m; omega]
    have hs : ∀ j, T.get (T.set H id (.arr z m t)) j = T.get H j := fun j => by
      rw [T.MB]; split
      · rename_i e; subst e; exact hb.symm
      · rfl
    rw [List.append_nil] at hk
    exact hk _ _ _ ((show El G H (.sl id 0 m m z) z LS from ⟨rfl, h⟩).same fun j _ => hs j) (fun j _ => hs j) (Nat.le_refl _) (fun j hj => by cases hj; exact hid)
  · rw [show Nat.ble (m + NS.length) m = false by rw [Bool.eq_false_iff]; intro hc; rw [Nat.ble_eq] at hc; omega]
    show Gp (Bc H id z m 0) (fun OS => Ir z bs OS NS H n k)
    rw [h2, UA]
    show CV (Nat.add (len LS) (len NS)) (fun need => Ko (OH need bs) (CV n fun n => k (.NY n 0 need z) (T.set H n (.arr z need (EL NS (len LS) (EL LS 0 .e)))) (Nat.succ n)))
    rw [BG, BG, len_eq, len_eq, show OH (Nat.add LS.length NS.length) bs = true from VD (by rw [hl]; exact hr), Rt]
    have e : Nat.add LS.length NS.length = (LS ++ NS).length := by rw [List.length_append]; rfl
    rw [e]
    refine hk _ _ _ (Gr.el (m := n) (.NY (LS := LS ++ NS) (T.Ac ..) (Nat.le_refl _) (fun i L hi => ?_) (Nat.le_refl _)) hz) (fun j hj => T.AY _ _ (by omega)) (by omega) (fun j hj => by cases hj; omega)
    rw [EM, EM]
    by_cases hlt : i < LS.length
    · rw [if_neg (by omega), if_pos ⟨Nat.zero_le _, by omega⟩]
      rw [List.getElem?_append_left hlt] at hi
      exact hi
    · rw [List.getElem?_append_right (by omega)] at hi
      have hlt2 := (List.getElem?_eq_some_iff.1 hi).1
      rw [if_pos ⟨by omega, by omega⟩]; exact hi
theorem AEI {H : Heap} {n : Nat} {P : KV} : BX (vg E0) H n P = P (.map n) (T.set H n (.map [] 0)) (n + 1) := by
 show CV n (fun n => P (.map n) (T.set H n (.map [] 0)) (Nat.succ n)) = _
 rw [BG]
theorem AEA {m : Nat} (h : m + 1 < 9223372036854775808) : B2.ev .sub (.int .i64 (.ofNat (m + 1)) 0) (.int .i64 (.ofNat 1) 0) = some (.int .i64 (.ofNat m) 0) := by
 show some (V.int .i64 (Xo .i64 (uO (.ofNat (m + 1)) (Int.neg (.ofNat 1)))) 0) = _
 rw [Qx, bJ]
 have e : Int.ofNat (m + 1) + Int.neg (Int.ofNat 1) = Int.ofNat m := by show ((m + 1 : Nat) : Int) + -((1 : Nat) : Int) = (m : Int); omega
 rw [e, U9 (by show (-9223372036854775808 : Int) <= (m : Int); omega) (by show (m : Int) < 9223372036854775808; omega)]
end Go.Ba
namespace Go.Ba
open Go.ChangeShapes Go.WideShapes Go.RowKit
inductive Sh where
 | int (k : IntKind) | bool | str | sl (z : Nat) (t : Sh) | st (l : List Sh)
def RSl (v : V) (n : Nat) : Prop := (v = .Aa /\ n = 0) ∨ ∃ b o c, v = .rsl b o n c 0 /\ n <= c /\ c <= maxLen
mutual
def Fits (G : AL) : Sh -> LV -> Prop
 | .int k, vs => ∃ n, vs = [.int k n 0]
 | .bool, vs => ∃ b, vs = [.bool b]
 | .str, vs => ∃ s : List UInt8, s.length <= maxLen /\ vs = [.str s.length (enc s)]
 | .sl z t, vs => ∃ v LS, vs = [v] /\ RSl v LS.length /\ (∀ H, El G H v z LS) /\ LS.length <= maxLen /\ ∀ L ∈ LS, L.length = z /\ Fits G t L
 | .st ts, vs => WZ G ts vs
def WZ (G : AL) : List Sh -> LV -> Prop
 | [], vs => vs = []
 | t :: ts, vs => ∃ L vs', vs = L ++ vs' /\ Fits G t L /\ WZ G ts vs'
end
def Yo (P : Program) : Nat -> TypeId -> Option Sh
 | 0, _ => none
 | d + 1, t => match P.underlying t with
  | some (.int k) => some (.int k)
  | some .bool => some .bool
  | some .string => some .str
  | some (.slice e) => if P.cellsOf e = 0 then none else (Yo P d e).map (.sl (P.cellsOf e))
  | some (.struct fs) => if ak 0 (fs.toList.map fun f => (f.offset, P.cellsOf f.type)) (P.cellsOf t) = true then (fs.toList.mapM fun f => Yo P d f.type).map .st else none
  | _ => none
theorem ADw {W : World} {b o n : Nat} {L : LV} (h : Nc W b o n = some L) : L.length = n := by
 unfold Nc at h
 split at h
 ·cases h; simp
 ·cases h
theorem ACt (W : World) : U6 (Nc W) := by
 intro b o z L h
 refine ⟨ADw h, fun i m hm hi => ?_⟩
 unfold Nc at h ⊢
 split at h
 ·rename_i hc
  cases h
  rw [if_pos]
  ·congr 1
   apply List.ext_getElem?
   intro j
   rw [List.getElem?_take]
   by_cases hj : j < m
   ·rw [if_pos hj, List.getElem?_drop, List.getElem?_map, List.getElem?_map, List.getElem?_range hj, List.getElem?_range (by omega), Option.map_some, Option.map_some, Nat.add_assoc]
   ·rw [if_neg hj, List.getElem?_eq_none (by simp; omega)]
  ·intro j hj
   have := hc (i + j) (by omega)
   rwa [<- Nat.add_assoc] at this
 ·cases h
theorem yc {G : AL} {b z : Nat} : ∀ (n o : Nat) (LS : Df), LS.length = n -> (∀ i c, LS[i]? = some c -> G b (o + i * z) z = some c) -> Z7 G b z n o = some LS
 | 0, o, LS, hl, _ => by cases LS with | nil => rfl | cons a l => simp at hl
 | n + 1, o, LS, hl, h => by
  cases LS with
  | nil => simp at hl
  | cons a l =>
   show A8 (G b o z) (fun L => A8 (Z7 G b z n (Nat.add o z)) fun LS => some (L :: LS)) = _
   have h0 := h 0 a rfl
   rw [Nat.zero_mul, Nat.add_zero] at h0
   rw [h0, QY, show Nat.add o z = o + z from rfl, yc n (o + z) l (by simpa using hl) fun i c hc => by
    have := h (i + 1) c (by simpa using hc); rwa [show o + (i + 1) * z = o + z + i * z by rw [Nat.add_mul]; omega] at this]
   rfl
theorem ANK {G : AL} {H : Heap} {b o c z : Nat} {LS : Df} (h : ∀ i L, LS[i]? = some L -> G b (o + i * z) z = some L) {e : Nat} : El G H (.rsl b o LS.length c e) z LS :=
 ⟨rfl, yc _ _ _ rfl h⟩
theorem kT {G : AL} : ∀ {ts : List Sh} {ls : List LV}, ADS (fun t l => Fits G t l) ts ls -> WZ G ts ls.flatten
 | _, _, .nil => rfl
 | _, _, .cons h t => ⟨_, _, by simp, h, kT t⟩
theorem zA {α β γ : Type} {f : α -> Option β} {R : β -> γ -> Prop} {g : α -> γ} : ∀ {l : List α} {r : List β}, l.mapM f = some r -> (∀ a b, a ∈ l -> f a = some b -> R b (g a)) -> ADS R r (l.map g)
 | [], r, h, _ => by simp at h; subst h; exact .nil
 | a :: l, r, h, hR => by
  rw [List.mapM_cons] at h
  cases hfa : f a with
  | none => rw [hfa] at h; cases h
  | some b =>
   rw [hfa] at h
   cases hr : l.mapM f with
   | none => simp [hr] at h
   | some r' =>
    simp [hr] at h; subst h
    exact .cons (hR a b (List.mem_cons_self ..) hfa) (zA hr fun a b ha hb => hR a b (List.mem_cons_of_mem _ ha) hb)
theorem lq {w : World} {base n : Nat} {a : Addr} {cs : List Value} (h : w.cells? base a n = some cs) : cs.length = n /\ ∀ j u, cs[j]? = some u -> w.cell? (a.add j) = some u := by
 unfold World.cells? at h
 split at h
 ·have hl := mapM_some_length h
  refine ⟨by simpa using hl, fun j u hj => ?_⟩
  have hlt : j < n := by have := (List.getElem?_eq_some_iff.1 hj).1; simp at hl; omega
  have := mapM_some_get h j j (by rw [List.getElem?_range hlt])
  rw [this, hj]
 ·cases h
theorem AKN {a : Addr} (h : a.spot = none) (k : Nat) : a.add k = ⟨a.block, a.off + k, none⟩ := by
 obtain ⟨b, o, s⟩ := a; cases h; exact add_lit b o k
theorem cell_spot {w : World} {a : Addr} {u : Value} (h : w.cell? a = some u) : a.spot = none := by
 unfold World.cell? at h
 split at h
 ·split at h
  ·cases h
  ·rename_i hs; cases hc : a.spot <;> simp_all
 ·cases h
theorem bf {P : Program} {w : World} {H : Type} {enc' : TypeId × Value -> H} {held : Bool} : ∀ (fuel : Nat) {t : TypeId} {cs : List Value} {x : DataW H × List MemPlace} {m : Nat} {sh : Sh}, DataW.trod enc' P w 0 (fun _ => true) held fuel t cs = some x -> Yo P m t = some sh ->
    Fits (Nc w) sh (cs.map o8) /\ (∀ u ∈ cs, u.oneCell' = true)
  | 0, _, _, _, _, _, h, _ => by simp [DataW.trod] at h
  | fuel + 1, t, cs, x, 0, sh, h, hs => by cases hs
  | fuel + 1, t, cs, x, m + 1, sh, h, hs => by
    simp only [Yo] at hs
    split at hs
    · rename_i k hu
      obtain ⟨i, rfl, e, _⟩ := DataW.trod_int hu h
      cases hs
      exact ⟨⟨i, rfl⟩, fun u hu => by simp at hu; subst hu; rfl⟩
    · rename_i hu
      obtain ⟨i, rfl, e⟩ := DataW.trod_bool hu h
      cases hs
      exact ⟨⟨i, rfl⟩, fun u hu => by simp at hu; subst hu; rfl⟩
    · rename_i hu
      obtain ⟨s, rfl, e, hle⟩ := DataW.trod_string hu h
      cases hs
      exact ⟨⟨s.data.toList, by simpa using hle, rfl⟩, fun u hu => by simp at hu; subst hu; rfl⟩
    · rename_i e hu
      split at hs
      · cases hs
      rename_i hz
      cases hsh : Yo P m e with
      | none => rw [hsh] at hs; cases hs
      | some sh' =>
      rw [hsh] at hs
      cases hs
      rcases DataW.trod_slice hu h with ⟨rfl, _⟩ | ⟨a, len, cap, elems, rest, n, hn, rfl, _, _, hle, hcap, hlen, hel, hsp, _⟩
      · refine ⟨⟨.Aa, [], ?_, .inl ⟨rfl, rfl⟩, fun H => ⟨rfl, rfl⟩, Nat.zero_le _, fun L hL => by cases hL⟩, fun u hu => by simp at hu; subst hu; rfl⟩
        simp [o8]
      · have hn' : fuel = n := by omega
        subst hn'
        obtain ⟨hrl, hrest⟩ := hsp rfl
        refine ⟨?_, fun u hu => by simp at hu; subst hu; rfl⟩
        have each : ∀ i, i < cap -> ∃ cs', w.cells? 0 (a.add (i * P.cellsOf e)) (P.cellsOf e) = some cs' /\ (i < len -> Fits (Nc w) sh' (cs'.map o8) /\ ∀ u ∈ cs', u.oneCell' = true) := by
          intro i hi
          by_cases hil : i < len
          · have h1 := hel i hil
            rw [List.getElem?_eq_getElem (by omega)] at h1
            cases hc : w.cells? 0 (a.add (i * P.cellsOf e)) (P.cellsOf e) with
            | none => rw [hc] at h1; cases h1
            | some cs' =>
              rw [hc] at h1
              exact ⟨cs', rfl, fun _ => bf fuel h1 hsh⟩
          · have h1 := hrest (i - len) (by omega)
            rw [List.getElem?_eq_getElem (by omega), show len + (i - len) = i by omega] at h1
            cases hc : w.cells? 0 (a.add (i * P.cellsOf e)) (P.cellsOf e) with
            | none => rw [hc] at h1; cases h1
            | some cs' => exact ⟨cs', rfl, fun h => absurd h hil⟩
        have hspot : cap = 0 ∨ a.spot = none := by
          rcases Nat.eq_zero_or_pos cap with h0 | h0
          · exact .inl h0
          · obtain ⟨cs', hc, _⟩ := each 0 h0
            obtain ⟨hl, hg⟩ := lq hc
            have h0 := hg 0 _ (List.getElem?_eq_getElem (by omega))
            have := cell_spot h0
            simp only [Nat.zero_mul] at this
            unfold Addr.add at this
            simp only [if_true] at this
            exact .inr this
        have htv : o8 (.slice (some a) len cap) = .rsl a.block a.off len cap 0 := by
          simp only [o8]; rw [if_pos ⟨hle, hspot⟩]
        let LS : Df := (List.range len).map fun i => ((w.cells? 0 (a.add (i * P.cellsOf e)) (P.cellsOf e)).getD []).map o8
        have hLS : LS.length = len := by simp [LS]
        have get : ∀ i L, LS[i]? = some L -> i < len /\ ∃ cs', w.cells? 0 (a.add (i * P.cellsOf e)) (P.cellsOf e) = some cs' /\ L = cs'.map o8 := by
          intro i L hi
          have hlt := (List.getElem?_eq_some_iff.1 hi).1
          rw [hLS] at hlt
          simp only [LS, List.getElem?_map, List.getElem?_range hlt, Option.map_some, Option.some.injEq] at hi
          obtain ⟨cs', hc, _⟩ := each i (by omega)
          rw [hc] at hi
          exact ⟨hlt, cs', hc, hi.symm⟩
        refine ⟨.rsl a.block a.off len cap 0, LS, by simp [htv], .inr ⟨_, _, _, by rw [hLS], by omega, hcap⟩, fun H => ?_, by omega, ?_⟩
        · rw [<- hLS]
          refine ANK fun i L hi => ?_
          obtain ⟨hlt, cs', hc, rfl⟩ := get i L hi
          obtain ⟨hl, hg⟩ := lq hc
          have hsn : a.spot = none := by rcases hspot with h | h; omega; exact h
          obtain ⟨cs2, hc2, hf⟩ := each i (by omega)
          rw [hc] at hc2; cases hc2
          refine nP hl (hf hlt).2 fun j u hj => ?_
          have := hg j u hj
          rw [AKN hsn, add_lit] at this
          exact this
        · intro L hL
          obtain ⟨i, hi⟩ := List.mem_iff_getElem?.1 hL
          obtain ⟨hlt, cs', hc, rfl⟩ := get i L hi
          obtain ⟨cs2, hc2, hf⟩ := each i (by omega)
          rw [hc] at hc2; cases hc2
          exact ⟨by simp [(lq hc).1], (hf hlt).1⟩
    · rename_i fs hu
      split at hs
      · rename_i hcon
        cases hm : fs.toList.mapM (fun f => Yo P m f.type) with
        | none => rw [hm] at hs; cases hs
        | some shs =>
        rw [hm] at hs
        cases hs
        obtain ⟨xs, n', hfe, e, hlen, hxl, hel⟩ := DataW.trod_struct hu h
        have hfe' : fuel = n' := by omega
        subst hfe'
        have hflat := XC cs _ 0 (by rw [hlen]; exact hcon)
        simp only [List.drop_zero, List.map_map] at hflat
        have each : ∀ (f : Field) (sh : Sh), f ∈ fs.toList -> Yo P m f.type = some sh -> Fits (Nc w) sh (((cs.drop f.offset).take (P.cellsOf f.type)).map o8) /\ ∀ u ∈ (cs.drop f.offset).take (P.cellsOf f.type), u.oneCell' = true := by
          intro f sh hf hsh
          obtain ⟨i, hi⟩ := List.mem_iff_getElem?.1 hf
          have h1 := hel i f (by simpa using hi)
          have hil : i < xs.length := by rw [hxl]; simpa using (List.getElem?_eq_some_iff.1 hi).1
          rw [List.getElem?_eq_getElem hil] at h1
          exact bf fuel h1 hsh
        constructor
        · show WZ (Nc w) shs _
          have := kT (zA (R := fun t l => Fits (Nc w) t l) (g := fun f => ((cs.drop f.offset).take (P.cellsOf f.type)).map o8) hm fun f b hf hb => (each f b hf hb).1)
          have e2 : cs.map o8 = (fs.toList.map fun f => ((cs.drop f.offset).take (P.cellsOf f.type)).map o8).flatten := by
            conv => lhs; rw [hflat]
            rw [List.map_flatten, List.map_map]; rfl
          rw [e2]; exact this
        · intro u hu'
          rw [hflat] at hu'
          obtain ⟨l, hl, hul⟩ := List.mem_flatten.1 hu'
          obtain ⟨f, hf, rfl⟩ := List.mem_map.1 hl
          obtain ⟨sh', hsh'⟩ := jP hm f hf
          exact (each f sh' hf hsh').2 u hul
      · cases hs
    · cases hs
def AGu : V -> Bool
 | .int _ _ b => Nat.beq b 0
 | .bool _ => true
 | .str _ _ => true
 | _ => false
theorem AME {ρ : Loc} {v : V} {u : Value} (h : AX ρ v u) (hp : AGu v = true) : o8 u = v := by
 cases v <;> try (cases hp; done)
 ·rename_i k n s
  have : s = 0 := Nat.eq_of_beq_eq_true hp
  subst this
  simp only [AX] at h; subst h; rfl
 ·simp only [AX] at h; subst h; rfl
 ·simp only [AX] at h
  obtain ⟨s, rfl, h1, h2⟩ := h
  subst h1; subst h2; rfl
theorem ADX {W : World} {g : Nat} {cs : List Value} {tab : LV} (hc : ∀ i, W.cell? ⟨g, i, none⟩ = cs[i]?) (hr : BU (fun _ => none) tab cs) (h1 : ∀ u ∈ cs, u.oneCell' = true) (hp : tab.all AGu = true) {o n : Nat} (hl : o + n <= tab.length) :
    Nc W g o n = some ((tab.drop o).take n) := by
  obtain ⟨hlen, hget⟩ := (Xf tab cs).1 hr
  rw [nP (cs := (cs.drop o).take n) (by simp; omega) (fun u hu => h1 u (List.mem_of_mem_drop (List.mem_of_mem_take hu))) fun j u hj => ?_]
  · congr 1
    apply List.ext_getElem?
    intro j
    rw [List.getElem?_map, List.getElem?_take, List.getElem?_take]
    by_cases hj : j < n
    · rw [if_pos hj, if_pos hj, List.getElem?_drop, List.getElem?_drop]
      have hlt : o + j < tab.length := by omega
      rw [List.getElem?_eq_getElem hlt, List.getElem?_eq_getElem (by omega), Option.map_some]
      congr 1
      exact AME (hget _ _ _ (List.getElem?_eq_getElem hlt) (List.getElem?_eq_getElem (by omega))) (List.all_eq_true.1 hp _ (List.getElem_mem hlt))
    · rw [if_neg hj, if_neg hj]; rfl
  · rw [List.getElem?_take] at hj
    split at hj
    · rw [List.getElem?_drop] at hj; rw [hc]; exact hj
    · cases hj
end Go.Ba
namespace Go.Ba
section
variable {e : Option V} {P : V -> Prop} {Q : KV} {t : KV -> Prop} {H : Heap} {n : Nat} {a b : V}
theorem vO (h : P (.II [])) : Af (.bool true) false e P := h
theorem AQF (h : P (.II [])) : Af (.bool false) true e P := h
theorem vG (h : P a) : AP (Ar (.bool true) a b) P := h
theorem AQm (h : P b) : AP (Ar (.bool false) a b) P := h
end
end Go.Ba
