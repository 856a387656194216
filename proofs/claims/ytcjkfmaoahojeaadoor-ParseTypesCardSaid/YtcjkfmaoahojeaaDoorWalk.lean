/- Part of a proof: texts En60 En61 En62 En63 En64 En65 En66 En67 En68 En69 En70 of the engine and what is proved with it; nothing is assumed. -/
import Derived.Test.YtcjkfmaoahojeaaDoorEngF
import Derived.Attr
import Derived.Test.YtcjkfmaoahojeaaDoorEngE
set_option linter.unusedVariables false
set_option linter.unusedSimpArgs false
namespace Go.Eng
section
variable {G : AP} {H : Heap} {id off m : Nat} {L : LV} {v : V}
theorem Ad (h : T.get H id = some (one L)) (hl : L[off]? = some v) : Aa (.ptr id off) G H = some v := by
 obtain ⟨hlt, he⟩ := List.getElem?_eq_some_iff.1 hl
 rw [oM, dU, AGd h (by omega) (by omega), zf, Yo]
 rw [List.getElem?_take]
 simp [hl]
theorem AD2 (h : T.get H id = some (one L)) (hm : 0 < m) (hl : off + m <= L.length) : Az m (.ptr id off) G H = some (.agg ((L.drop off).take m)) := by
 rw [wS, dU, AGd h hm hl, zf]
theorem NQ {n : Nat} {k : KV} (h : T.get H id = some (one L)) (hv : XF v = true) (hn : (BK v).length = m) (hm : 0 < m) (hl : off + m <= L.length) :
    Bd m (.ptr id off) v H n k = k .undef (T.set H id (one (L.take off ++ (BK v ++ L.drop (off + m))))) n := by
  have hs : stP (.ptr id off) H m (BK v) = some (T.set H id (one (L.take off ++ (BK v ++ L.drop (off + m))))) := AMr h hm hn hl
  unfold Bd
  rw [hv, len_eq, hn]
  have hb : band true (Nat.beq m m) = true := by simp
  rw [hb, hs]; rfl
theorem Au (h : T.get H id = some (one L)) (hm : 0 < m) (hl : L.length = m) : Az m (.ptr id 0) G H = some (.agg L) := by
 rw [AD2 h hm (by omega), List.drop_zero, List.take_of_length_le (by omega)]
theorem U0 {n : Nat} {k : KV} {L' : LV} (h : T.get H id = some (one L)) (hm : 0 < m) (hl : L.length = m) (hn : L'.length = m) :
    Bd m (.ptr id 0) (.agg L') H n k = k .undef (T.set H id (one L')) n := by
  rw [NQ h (by rfl) (by exact hn) hm (by omega)]
  have : L.take 0 ++ (BK (.agg L') ++ L.drop (0 + m)) = L' := by
    show [] ++ (L' ++ L.drop (0 + m)) = L'
    rw [List.drop_eq_nil_of_le (by omega)]; simp
  rw [this]
theorem AEe : BN [] G H = some [] := rfl
theorem AJT {rest : List vF} : BN (.t v :: rest) G H = BG (BN rest G H) fun vs => some (v :: vs) := rfl
theorem BI {rest : List vF} (h : T.get H id = some (one L)) (hm : 0 < m) (hl : L.length = m) : BN (.cn (.ptr id 0) m :: rest) G H = BG (BN rest G H) fun vs => some (.agg L :: vs) := by
 show BG (Az m (.ptr id 0) G H) (fun v => BG (BN rest G H) fun vs => some (v :: vs)) = _
 rw [Au h hm hl]; rfl
end
structure SL (G : AP) (v : V) (z : Nat) (LS : Dk) : Prop where
 mk' ::
 is : (v = .Ag /\ LS = []) ∨ ∃ b off cap, v = .rsl b off LS.length cap z /\ ∀ i c, LS[i]? = some c -> c.length = z /\ G b (off + i * z) z = some c
theorem SL.len {G : AP} {v : V} {z : Nat} {LS : Dk} (h : SL G v z LS) : lenV v = some (.int .i64 (.ofNat LS.length) 0) := by
 rcases h.is with ⟨rfl, rfl⟩ | ⟨b, off, cap, rfl, _⟩ <;> rfl
theorem SL.at {G : AP} {v : V} {z : Nat} {LS : Dk} (h : SL G v z LS) {i : Nat} {c : LV} (hi : LS[i]? = some c) :
    ∃ p, BU z v (.int .i64 (.ofNat i) 0) = some p /\ (∀ H, Az z p G H = some (.agg c)) /\ c.length = z := by
  obtain ⟨hlt, _⟩ := List.getElem?_eq_some_iff.1 hi
  rcases h.is with ⟨rfl, rfl⟩ | ⟨b, off, cap, rfl, hG⟩
  · simp at hlt
  · obtain ⟨hz, hg⟩ := hG i c hi
    refine ⟨.gptr b (off + i * z), ?_, fun H => ?_, hz⟩
    · show Aq (Nat.blt i LS.length) (CQ (Nat.add off (Nat.mul i z)) fun o => some (.gptr b o)) = _
      have : Nat.blt i LS.length = true := by rw [Nat.blt_eq]; exact hlt
      rw [this, BJ]; rfl
    · show Ku (G b (off + i * z) z) (fun L => some (.agg L)) = _
      rw [hg]; rfl
theorem O7 {α β : Type} (a : α) (f : α -> Option β) : BG (some a) f = f a := rfl
theorem APT (a : V) : Eh [a] = a := rfl
theorem AOQ (a b : V) (l : LV) : Eh (a :: b :: l) = .GK (a :: b :: l) := rfl
theorem ATM (a b l c : Nat) : Ig (.one .str) false (.str a b) (.str l c) = some (.bool (decide (a = l /\ b = c))) := by
 show ofB (WL (some (band (Nat.beq a l) (Nat.beq b c))) fun b => some b) = _
 have : band (Nat.beq a l) (Nat.beq b c) = decide (a = l /\ b = c) := by rw [BR, Bool.eq_iff_iff]; simp
 rw [this]; cases decide (a = l /\ b = c) <;> rfl
theorem ATu {i : Nat} (h : i + 1 < 9223372036854775808) : B2.ev .add (.int .i64 (.ofNat i) 0) (.int .i64 (.ofNat 1) 0) = some (.int .i64 (.ofNat (i + 1)) 0) := by
 show some (V.int .i64 (PY .i64 (vT (.ofNat i) (.ofNat 1))) 0) = _
 rw [Qh, dQ, VG (by simp; omega) (by simp; omega)]; rfl
structure Kp (H : Heap) (n : Nat) (H' : Heap) (n' : Nat) : Prop where
 le : n <= n'
 same : ∀ id, id < n -> T.get H' id = T.get H id
theorem Kp.refl (H : Heap) (n : Nat) : Kp H n H n := ⟨Nat.le_refl _, fun _ _ => rfl⟩
theorem Kp.trans {H H' H'' : Heap} {n n' n'' : Nat} (a : Kp H n H' n') (b : Kp H' n' H'' n'') : Kp H n H'' n'' := ⟨Nat.le_trans a.le b.le, fun id h => (b.same id (Nat.lt_of_lt_of_le h a.le)).trans (a.same id h)⟩
theorem Kp.new {H0 H : Heap} {n0 n id : Nat} (a : Kp H0 n0 H n) (b : Np) (h : n0 <= id) {m : Nat} (hm : n <= m) : Kp H0 n0 (T.set H id b) m :=
 ⟨Nat.le_trans a.le hm, fun j hj => by rw [T.Am _ _ (by omega)]; exact a.same j hj⟩
theorem KY {σ : Type} {b : (σ -> Prop) -> σ -> Prop} {J : Nat -> σ -> Prop} (h : ∀ I m s, J m s -> (∀ m' s', m' < m -> J m' s' -> I s') -> b I s) {m : Nat} {s : σ} (h0 : J m s) : lfp σ b s := by
 intro I hI
 induction m using Nat.strongRecOn generalizing s with
 | _ m ih => exact hI s (h I m s h0 fun m' s' hlt hs => ih m' hlt hs)
end Go.Eng
namespace Go.Eng
section
variable {G : AP} {H : Heap} {i j o m n : Nat} {L L' : LV} {v w : V} {k : KV} {b : Np}
theorem AU1 {P : KV} (h : XF v = true) : CX (JC v) H n P = P (.ptr n 0) (T.set H n (one (BK v))) (n + 1) := VP h
theorem AJA {z : Nat} {P : KV} (h : L.length = z) : CX (Ai z [L] E0) H n P = P (.ptr n 0) (T.set H n (one L)) (n + 1) := JW h
theorem VK (h : L[o]? = some v) : Aa (.ptr i o) G (T.set H i (one L)) = some v := Ad (T.Ap ..) h
theorem ALl : Aa (.ptr i 0) G (T.set H i (one (v :: L))) = some v := VK rfl
theorem Ud (hl : L.length = m) (h : 0 < m) : Az m (.ptr i 0) G (T.set H i (one L)) = some (.agg L) := Au (T.Ap ..) h hl
theorem T.AQ1 {α : Type} {t t' : T α} (h : T.DI .h t = T.DI .h t') : True := trivial
theorem AMh (h : i ≠ j) : Aa (.ptr i o) G (T.set H j b) = Aa (.ptr i o) G H := by
 rw [oM, oM, dU, dU]; unfold ZI; rw [T.Am _ _ (Ne.symm h)]
theorem AL9 (h : i ≠ j) : Az m (.ptr i o) G (T.set H j b) = Az m (.ptr i o) G H := by
 rw [wS, wS, dU, dU]; unfold ZI; rw [T.Am _ _ (Ne.symm h)]
theorem aI (hl : L.length = m) (h : 0 < m) (hn : L'.length = m) : Bd m (.ptr i 0) (.agg L') (T.set H i (one L)) n k = k .undef (T.set (T.set H i (one L)) i (one L')) n := U0 (T.Ap ..) h hl hn
end
theorem AJS (L : LV) : XF (.agg L) = true := rfl
theorem AII (l c : Nat) : XF (.str l c) = true := rfl
theorem AIw (k : IntKind) (a : Int) (s : Nat) : XF (.int k a s) = true := rfl
theorem AHa (b : Bool) : XF (.bool b) = true := rfl
theorem ALu (L : LV) : BK (.agg L) = L := rfl
theorem ALS (l c : Nat) : BK (.str l c) = [.str l c] := rfl
theorem ALM (k : IntKind) (a : Int) (s : Nat) : BK (.int k a s) = [.int k a s] := rfl
theorem AKI (b : Bool) : BK (.bool b) = [.bool b] := rfl
theorem ALz (L : LV) (H : Heap) (n : Nat) (P : KV) : CX (JC (.agg L)) H n P = P (.ptr n 0) (T.set H n (one L)) (n + 1) := VP rfl
theorem ALk (l c : Nat) (H : Heap) (n : Nat) (P : KV) : CX (JC (.str l c)) H n P = P (.ptr n 0) (T.set H n (one [.str l c])) (n + 1) := VP rfl
theorem AUk {i o m : Nat} {H : Heap} {L : LV} {n : Nat} {k : KV} (l c : Nat) (h : o < L.length) : Bd 1 (.ptr i o) (.str l c) (T.set H i (one L)) n k = k .undef (T.set (T.set H i (one L)) i (one (L.take o ++ ([.str l c] ++ L.drop (o + 1))))) n := NQ (T.Ap ..) rfl rfl (by omega) (by omega)
theorem AME (q : IntKind) (a : Int) (s : Nat) (H : Heap) (n : Nat) (P : KV) : CX (JC (.int q a s)) H n P = P (.ptr n 0) (T.set H n (one [.int q a s])) (n + 1) := VP rfl
theorem AUm {i o m : Nat} {H : Heap} {L : LV} {n : Nat} {k : KV} (q : IntKind) (a : Int) (s : Nat) (h : o < L.length) : Bd 1 (.ptr i o) (.int q a s) (T.set H i (one L)) n k = k .undef (T.set (T.set H i (one L)) i (one (L.take o ++ ([.int q a s] ++ L.drop (o + 1))))) n := NQ (T.Ap ..) rfl rfl (by omega) (by omega)
theorem ANN (b : Bool) (H : Heap) (n : Nat) (P : KV) : CX (JC (.bool b)) H n P = P (.ptr n 0) (T.set H n (one [.bool b])) (n + 1) := VP rfl
theorem AUz {i o m : Nat} {H : Heap} {L : LV} {n : Nat} {k : KV} (b : Bool) (h : o < L.length) : Bd 1 (.ptr i o) (.bool b) (T.set H i (one L)) n k = k .undef (T.set (T.set H i (one L)) i (one (L.take o ++ ([.bool b] ++ L.drop (o + 1))))) n := NQ (T.Ap ..) rfl rfl (by omega) (by omega)
theorem AKt  (H : Heap) (n : Nat) (P : KV) : CX (JC .Ag) H n P = P (.ptr n 0) (T.set H n (one [.Ag])) (n + 1) := VP rfl
theorem AVP {i o m : Nat} {H : Heap} {L : LV} {n : Nat} {k : KV}  (h : o < L.length) : Bd 1 (.ptr i o) .Ag (T.set H i (one L)) n k = k .undef (T.set (T.set H i (one L)) i (one (L.take o ++ ([.Ag] ++ L.drop (o + 1))))) n := NQ (T.Ap ..) rfl rfl (by omega) (by omega)
theorem ALI (b o l c z : Nat) (H : Heap) (n : Nat) (P : KV) : CX (JC (.rsl b o l c z)) H n P = P (.ptr n 0) (T.set H n (one [.rsl b o l c z])) (n + 1) := VP rfl
theorem ATx {i o m : Nat} {H : Heap} {L : LV} {n : Nat} {k : KV} (b o l c z : Nat) (h : o < L.length) : Bd 1 (.ptr i o) (.rsl b o l c z) (T.set H i (one L)) n k = k .undef (T.set (T.set H i (one L)) i (one (L.take o ++ ([.rsl b o l c z] ++ L.drop (o + 1))))) n := NQ (T.Ap ..) rfl rfl (by omega) (by omega)
theorem ALX (b o l c z : Nat) (H : Heap) (n : Nat) (P : KV) : CX (JC (.sl b o l c z)) H n P = P (.ptr n 0) (T.set H n (one [.sl b o l c z])) (n + 1) := VP rfl
theorem AU4 {i o m : Nat} {H : Heap} {L : LV} {n : Nat} {k : KV} (b o l c z : Nat) (h : o < L.length) : Bd 1 (.ptr i o) (.sl b o l c z) (T.set H i (one L)) n k = k .undef (T.set (T.set H i (one L)) i (one (L.take o ++ ([.sl b o l c z] ++ L.drop (o + 1))))) n := NQ (T.Ap ..) rfl rfl (by omega) (by omega)
theorem AM3 (b o l z : Nat) (H : Heap) (n : Nat) (P : KV) : CX (JC (.NW b o l z)) H n P = P (.ptr n 0) (T.set H n (one [.NW b o l z])) (n + 1) := VP rfl
theorem AUK {i o m : Nat} {H : Heap} {L : LV} {n : Nat} {k : KV} (b o l z : Nat) (h : o < L.length) : Bd 1 (.ptr i o) (.NW b o l z) (T.set H i (one L)) n k = k .undef (T.set (T.set H i (one L)) i (one (L.take o ++ ([.NW b o l z] ++ L.drop (o + 1))))) n := NQ (T.Ap ..) rfl rfl (by omega) (by omega)
theorem ALV (i o : Nat) (H : Heap) (n : Nat) (P : KV) : CX (JC (.ptr i o)) H n P = P (.ptr n 0) (T.set H n (one [.ptr i o])) (n + 1) := VP rfl
theorem AUO {i o m : Nat} {H : Heap} {L : LV} {n : Nat} {k : KV} (i o : Nat) (h : o < L.length) : Bd 1 (.ptr i o) (.ptr i o) (T.set H i (one L)) n k = k .undef (T.set (T.set H i (one L)) i (one (L.take o ++ ([.ptr i o] ++ L.drop (o + 1))))) n := NQ (T.Ap ..) rfl rfl (by omega) (by omega)
theorem AMP (i o : Nat) (H : Heap) (n : Nat) (P : KV) : CX (JC (.gptr i o)) H n P = P (.ptr n 0) (T.set H n (one [.gptr i o])) (n + 1) := VP rfl
theorem AVN {i o m : Nat} {H : Heap} {L : LV} {n : Nat} {k : KV} (i o : Nat) (h : o < L.length) : Bd 1 (.ptr i o) (.gptr i o) (T.set H i (one L)) n k = k .undef (T.set (T.set H i (one L)) i (one (L.take o ++ ([.gptr i o] ++ L.drop (o + 1))))) n := NQ (T.Ap ..) rfl rfl (by omega) (by omega)
theorem AKz  (H : Heap) (n : Nat) (P : KV) : CX (JC .ABP) H n P = P (.ptr n 0) (T.set H n (one [.ABP])) (n + 1) := VP rfl
theorem AUt {i o m : Nat} {H : Heap} {L : LV} {n : Nat} {k : KV}  (h : o < L.length) : Bd 1 (.ptr i o) .ABP (T.set H i (one L)) n k = k .undef (T.set (T.set H i (one L)) i (one (L.take o ++ ([.ABP] ++ L.drop (o + 1))))) n := NQ (T.Ap ..) rfl rfl (by omega) (by omega)
theorem AMf (i : Nat) (H : Heap) (n : Nat) (P : KV) : CX (JC (.map i)) H n P = P (.ptr n 0) (T.set H n (one [.map i])) (n + 1) := VP rfl
theorem ATY {i o m : Nat} {H : Heap} {L : LV} {n : Nat} {k : KV} (i : Nat) (h : o < L.length) : Bd 1 (.ptr i o) (.map i) (T.set H i (one L)) n k = k .undef (T.set (T.set H i (one L)) i (one (L.take o ++ ([.map i] ++ L.drop (o + 1))))) n := NQ (T.Ap ..) rfl rfl (by omega) (by omega)
theorem ATU (n : Nat) : n ≠ n + 1 := by omega
theorem ASZ (n : Nat) : n + 1 ≠ n := by omega
theorem ASW (n : Nat) : n ≠ n + 1 + 1 := by omega
theorem ASt (n : Nat) : n + 1 + 1 ≠ n := by omega
theorem AS1 (n : Nat) : n ≠ n + 1 + 1 + 1 := by omega
theorem ASE (n : Nat) : n + 1 + 1 + 1 ≠ n := by omega
theorem ASG (n : Nat) : n ≠ n + 1 + 1 + 1 + 1 := by omega
theorem ARZ (n : Nat) : n + 1 + 1 + 1 + 1 ≠ n := by omega
theorem ATV (n : Nat) : n ≠ n + 1 + 1 + 1 + 1 + 1 := by omega
theorem ARd (n : Nat) : n + 1 + 1 + 1 + 1 + 1 ≠ n := by omega
theorem AR5 (n : Nat) : n ≠ n + 1 + 1 + 1 + 1 + 1 + 1 := by omega
theorem ARQ (n : Nat) : n + 1 + 1 + 1 + 1 + 1 + 1 ≠ n := by omega
theorem ASH (n : Nat) : n ≠ n + 1 + 1 + 1 + 1 + 1 + 1 + 1 := by omega
theorem ASY (n : Nat) : n + 1 + 1 + 1 + 1 + 1 + 1 + 1 ≠ n := by omega
theorem ARt (n : Nat) : n ≠ n + 1 + 1 + 1 + 1 + 1 + 1 + 1 + 1 := by omega
theorem ARs (n : Nat) : n + 1 + 1 + 1 + 1 + 1 + 1 + 1 + 1 ≠ n := by omega
theorem ASb (n : Nat) : n ≠ n + 1 + 1 + 1 + 1 + 1 + 1 + 1 + 1 + 1 := by omega
theorem ASL (n : Nat) : n + 1 + 1 + 1 + 1 + 1 + 1 + 1 + 1 + 1 ≠ n := by omega
theorem APa (n : Nat) : n ≠ n + 1 + 1 + 1 + 1 + 1 + 1 + 1 + 1 + 1 + 1 := by omega
theorem APC (n : Nat) : n + 1 + 1 + 1 + 1 + 1 + 1 + 1 + 1 + 1 + 1 ≠ n := by omega
theorem APv (n : Nat) : n ≠ n + 1 + 1 + 1 + 1 + 1 + 1 + 1 + 1 + 1 + 1 + 1 := by omega
theorem AO4 (n : Nat) : n + 1 + 1 + 1 + 1 + 1 + 1 + 1 + 1 + 1 + 1 + 1 ≠ n := by omega
theorem APg (n : Nat) : n ≠ n + 1 + 1 + 1 + 1 + 1 + 1 + 1 + 1 + 1 + 1 + 1 + 1 := by omega
theorem APK (n : Nat) : n + 1 + 1 + 1 + 1 + 1 + 1 + 1 + 1 + 1 + 1 + 1 + 1 ≠ n := by omega
theorem APn (n : Nat) : n ≠ n + 1 + 1 + 1 + 1 + 1 + 1 + 1 + 1 + 1 + 1 + 1 + 1 + 1 := by omega
theorem AP0 (n : Nat) : n + 1 + 1 + 1 + 1 + 1 + 1 + 1 + 1 + 1 + 1 + 1 + 1 + 1 ≠ n := by omega
theorem AN2 (n : Nat) : n ≠ n + 1 + 1 + 1 + 1 + 1 + 1 + 1 + 1 + 1 + 1 + 1 + 1 + 1 + 1 := by omega
theorem AOX (n : Nat) : n + 1 + 1 + 1 + 1 + 1 + 1 + 1 + 1 + 1 + 1 + 1 + 1 + 1 + 1 ≠ n := by omega
theorem AJM {G : AP} {H : Heap} {i : Nat} {L : LV} {v : V} : Aa (.ptr i 0) G (T.set H i (one (v :: L))) = some v := VK rfl
theorem AJg {G : AP} {H : Heap} {i : Nat} {L : LV} {a0 v : V} : Aa (.ptr i 1) G (T.set H i (one (a0 :: v :: L))) = some v := VK rfl
theorem AID {G : AP} {H : Heap} {i : Nat} {L : LV} {a0 a1 v : V} : Aa (.ptr i 2) G (T.set H i (one (a0 :: a1 :: v :: L))) = some v := VK rfl
theorem AJu {G : AP} {H : Heap} {i : Nat} {L : LV} {a0 a1 a2 v : V} : Aa (.ptr i 3) G (T.set H i (one (a0 :: a1 :: a2 :: v :: L))) = some v := VK rfl
theorem AIH {G : AP} {H : Heap} {i : Nat} {L : LV} {a0 a1 a2 a3 v : V} : Aa (.ptr i 4) G (T.set H i (one (a0 :: a1 :: a2 :: a3 :: v :: L))) = some v := VK rfl
theorem AJ0 {G : AP} {H : Heap} {i : Nat} {L : LV} {a0 a1 a2 a3 a4 v : V} : Aa (.ptr i 5) G (T.set H i (one (a0 :: a1 :: a2 :: a3 :: a4 :: v :: L))) = some v := VK rfl
theorem AIg {G : AP} {H : Heap} {i : Nat} {L : LV} {a0 a1 a2 a3 a4 a5 v : V} : Aa (.ptr i 6) G (T.set H i (one (a0 :: a1 :: a2 :: a3 :: a4 :: a5 :: v :: L))) = some v := VK rfl
theorem AJU {G : AP} {H : Heap} {i : Nat} {L : LV} {a0 a1 a2 a3 a4 a5 a6 v : V} : Aa (.ptr i 7) G (T.set H i (one (a0 :: a1 :: a2 :: a3 :: a4 :: a5 :: a6 :: v :: L))) = some v := VK rfl
theorem AJ2 {G : AP} {H : Heap} {i : Nat} {L : LV} {a0 a1 a2 a3 a4 a5 a6 a7 v : V} : Aa (.ptr i 8) G (T.set H i (one (a0 :: a1 :: a2 :: a3 :: a4 :: a5 :: a6 :: a7 :: v :: L))) = some v := VK rfl
theorem AIY {G : AP} {H : Heap} {i : Nat} {L : LV} {a0 a1 a2 a3 a4 a5 a6 a7 a8 v : V} : Aa (.ptr i 9) G (T.set H i (one (a0 :: a1 :: a2 :: a3 :: a4 :: a5 :: a6 :: a7 :: a8 :: v :: L))) = some v := VK rfl
theorem AHg {G : AP} {H : Heap} {i : Nat} {L : LV} {a0 a1 a2 a3 a4 a5 a6 a7 a8 a9 v : V} : Aa (.ptr i 10) G (T.set H i (one (a0 :: a1 :: a2 :: a3 :: a4 :: a5 :: a6 :: a7 :: a8 :: a9 :: v :: L))) = some v := VK rfl
theorem AGE {G : AP} {H : Heap} {i : Nat} {L : LV} {a0 a1 a2 a3 a4 a5 a6 a7 a8 a9 a10 v : V} : Aa (.ptr i 11) G (T.set H i (one (a0 :: a1 :: a2 :: a3 :: a4 :: a5 :: a6 :: a7 :: a8 :: a9 :: a10 :: v :: L))) = some v := VK rfl
theorem AFp {G : AP} {H : Heap} {i : Nat} {L : LV} {a0 a1 a2 a3 a4 a5 a6 a7 a8 a9 a10 a11 v : V} : Aa (.ptr i 12) G (T.set H i (one (a0 :: a1 :: a2 :: a3 :: a4 :: a5 :: a6 :: a7 :: a8 :: a9 :: a10 :: a11 :: v :: L))) = some v := VK rfl
theorem AGT {G : AP} {H : Heap} {i : Nat} {L : LV} {a0 a1 a2 a3 a4 a5 a6 a7 a8 a9 a10 a11 a12 v : V} : Aa (.ptr i 13) G (T.set H i (one (a0 :: a1 :: a2 :: a3 :: a4 :: a5 :: a6 :: a7 :: a8 :: a9 :: a10 :: a11 :: a12 :: v :: L))) = some v := VK rfl
theorem APx (a0 : V) (H : Heap) (n : Nat) (P : KV) : CX (Ai 1 [[a0]] E0) H n P = P (.ptr n 0) (T.set H n (one [a0])) (n + 1) := JW rfl
theorem AOo (a0 : V) {G : AP} {H : Heap} {i : Nat} : Az 1 (.ptr i 0) G (T.set H i (one [a0])) = some (.agg [a0]) := Ud rfl (by omega)
theorem ALx (a0 b0 : V) {H : Heap} {i n : Nat} {k : KV} : Bd 1 (.ptr i 0) (.agg [b0]) (T.set H i (one [a0])) n k = k .undef (T.set (T.set H i (one [a0])) i (one [b0])) n := aI rfl (by omega) rfl
theorem AOM (a0 : V) {G : AP} {H : Heap} {i : Nat} {r : List vF} : BN (.cn (.ptr i 0) 1 :: r) G (T.set H i (one [a0])) = BG (BN r G (T.set H i (one [a0]))) fun vs => some (.agg [a0] :: vs) := BI (T.Ap ..) (by omega) rfl
theorem AOI (a0 a1 : V) (H : Heap) (n : Nat) (P : KV) : CX (Ai 2 [[a0, a1]] E0) H n P = P (.ptr n 0) (T.set H n (one [a0, a1])) (n + 1) := JW rfl
theorem AOE (a0 a1 : V) {G : AP} {H : Heap} {i : Nat} : Az 2 (.ptr i 0) G (T.set H i (one [a0, a1])) = some (.agg [a0, a1]) := Ud rfl (by omega)
theorem AMR (a0 a1 b0 b1 : V) {H : Heap} {i n : Nat} {k : KV} : Bd 2 (.ptr i 0) (.agg [b0, b1]) (T.set H i (one [a0, a1])) n k = k .undef (T.set (T.set H i (one [a0, a1])) i (one [b0, b1])) n := aI rfl (by omega) rfl
theorem APQ (a0 a1 : V) {G : AP} {H : Heap} {i : Nat} {r : List vF} : BN (.cn (.ptr i 0) 2 :: r) G (T.set H i (one [a0, a1])) = BG (BN r G (T.set H i (one [a0, a1]))) fun vs => some (.agg [a0, a1] :: vs) := BI (T.Ap ..) (by omega) rfl
theorem AP4 (a0 a1 a2 : V) (H : Heap) (n : Nat) (P : KV) : CX (Ai 3 [[a0, a1, a2]] E0) H n P = P (.ptr n 0) (T.set H n (one [a0, a1, a2])) (n + 1) := JW rfl
theorem APl (a0 a1 a2 : V) {G : AP} {H : Heap} {i : Nat} : Az 3 (.ptr i 0) G (T.set H i (one [a0, a1, a2])) = some (.agg [a0, a1, a2]) := Ud rfl (by omega)
theorem ANg (a0 a1 a2 b0 b1 b2 : V) {H : Heap} {i n : Nat} {k : KV} : Bd 3 (.ptr i 0) (.agg [b0, b1, b2]) (T.set H i (one [a0, a1, a2])) n k = k .undef (T.set (T.set H i (one [a0, a1, a2])) i (one [b0, b1, b2])) n := aI rfl (by omega) rfl
theorem AOw (a0 a1 a2 : V) {G : AP} {H : Heap} {i : Nat} {r : List vF} : BN (.cn (.ptr i 0) 3 :: r) G (T.set H i (one [a0, a1, a2])) = BG (BN r G (T.set H i (one [a0, a1, a2]))) fun vs => some (.agg [a0, a1, a2] :: vs) := BI (T.Ap ..) (by omega) rfl
theorem AQL (a0 a1 a2 a3 : V) (H : Heap) (n : Nat) (P : KV) : CX (Ai 4 [[a0, a1, a2, a3]] E0) H n P = P (.ptr n 0) (T.set H n (one [a0, a1, a2, a3])) (n + 1) := JW rfl
theorem APV (a0 a1 a2 a3 : V) {G : AP} {H : Heap} {i : Nat} : Az 4 (.ptr i 0) G (T.set H i (one [a0, a1, a2, a3])) = some (.agg [a0, a1, a2, a3]) := Ud rfl (by omega)
theorem ALn (a0 a1 a2 a3 b0 b1 b2 b3 : V) {H : Heap} {i n : Nat} {k : KV} : Bd 4 (.ptr i 0) (.agg [b0, b1, b2, b3]) (T.set H i (one [a0, a1, a2, a3])) n k = k .undef (T.set (T.set H i (one [a0, a1, a2, a3])) i (one [b0, b1, b2, b3])) n := aI rfl (by omega) rfl
theorem AOb (a0 a1 a2 a3 : V) {G : AP} {H : Heap} {i : Nat} {r : List vF} : BN (.cn (.ptr i 0) 4 :: r) G (T.set H i (one [a0, a1, a2, a3])) = BG (BN r G (T.set H i (one [a0, a1, a2, a3]))) fun vs => some (.agg [a0, a1, a2, a3] :: vs) := BI (T.Ap ..) (by omega) rfl
theorem AQV (a0 a1 a2 a3 a4 : V) (H : Heap) (n : Nat) (P : KV) : CX (Ai 5 [[a0, a1, a2, a3, a4]] E0) H n P = P (.ptr n 0) (T.set H n (one [a0, a1, a2, a3, a4])) (n + 1) := JW rfl
theorem APD (a0 a1 a2 a3 a4 : V) {G : AP} {H : Heap} {i : Nat} : Az 5 (.ptr i 0) G (T.set H i (one [a0, a1, a2, a3, a4])) = some (.agg [a0, a1, a2, a3, a4]) := Ud rfl (by omega)
theorem AMj (a0 a1 a2 a3 a4 b0 b1 b2 b3 b4 : V) {H : Heap} {i n : Nat} {k : KV} : Bd 5 (.ptr i 0) (.agg [b0, b1, b2, b3, b4]) (T.set H i (one [a0, a1, a2, a3, a4])) n k = k .undef (T.set (T.set H i (one [a0, a1, a2, a3, a4])) i (one [b0, b1, b2, b3, b4])) n := aI rfl (by omega) rfl
theorem AN3 (a0 a1 a2 a3 a4 : V) {G : AP} {H : Heap} {i : Nat} {r : List vF} : BN (.cn (.ptr i 0) 5 :: r) G (T.set H i (one [a0, a1, a2, a3, a4])) = BG (BN r G (T.set H i (one [a0, a1, a2, a3, a4]))) fun vs => some (.agg [a0, a1, a2, a3, a4] :: vs) := BI (T.Ap ..) (by omega) rfl
theorem AOi (a0 a1 a2 a3 a4 a5 : V) (H : Heap) (n : Nat) (P : KV) : CX (Ai 6 [[a0, a1, a2, a3, a4, a5]] E0) H n P = P (.ptr n 0) (T.set H n (one [a0, a1, a2, a3, a4, a5])) (n + 1) := JW rfl
theorem AQI (a0 a1 a2 a3 a4 a5 : V) {G : AP} {H : Heap} {i : Nat} : Az 6 (.ptr i 0) G (T.set H i (one [a0, a1, a2, a3, a4, a5])) = some (.agg [a0, a1, a2, a3, a4, a5]) := Ud rfl (by omega)
theorem AM1 (a0 a1 a2 a3 a4 a5 b0 b1 b2 b3 b4 b5 : V) {H : Heap} {i n : Nat} {k : KV} : Bd 6 (.ptr i 0) (.agg [b0, b1, b2, b3, b4, b5]) (T.set H i (one [a0, a1, a2, a3, a4, a5])) n k = k .undef (T.set (T.set H i (one [a0, a1, a2, a3, a4, a5])) i (one [b0, b1, b2, b3, b4, b5])) n := aI rfl (by omega) rfl
theorem AOT (a0 a1 a2 a3 a4 a5 : V) {G : AP} {H : Heap} {i : Nat} {r : List vF} : BN (.cn (.ptr i 0) 6 :: r) G (T.set H i (one [a0, a1, a2, a3, a4, a5])) = BG (BN r G (T.set H i (one [a0, a1, a2, a3, a4, a5]))) fun vs => some (.agg [a0, a1, a2, a3, a4, a5] :: vs) := BI (T.Ap ..) (by omega) rfl
theorem AN4 (a0 a1 a2 a3 a4 a5 a6 : V) (H : Heap) (n : Nat) (P : KV) : CX (Ai 7 [[a0, a1, a2, a3, a4, a5, a6]] E0) H n P = P (.ptr n 0) (T.set H n (one [a0, a1, a2, a3, a4, a5, a6])) (n + 1) := JW rfl
theorem APt (a0 a1 a2 a3 a4 a5 a6 : V) {G : AP} {H : Heap} {i : Nat} : Az 7 (.ptr i 0) G (T.set H i (one [a0, a1, a2, a3, a4, a5, a6])) = some (.agg [a0, a1, a2, a3, a4, a5, a6]) := Ud rfl (by omega)
theorem AMS (a0 a1 a2 a3 a4 a5 a6 b0 b1 b2 b3 b4 b5 b6 : V) {H : Heap} {i n : Nat} {k : KV} : Bd 7 (.ptr i 0) (.agg [b0, b1, b2, b3, b4, b5, b6]) (T.set H i (one [a0, a1, a2, a3, a4, a5, a6])) n k = k .undef (T.set (T.set H i (one [a0, a1, a2, a3, a4, a5, a6])) i (one [b0, b1, b2, b3, b4, b5, b6])) n := aI rfl (by omega) rfl
theorem AOh (a0 a1 a2 a3 a4 a5 a6 : V) {G : AP} {H : Heap} {i : Nat} {r : List vF} : BN (.cn (.ptr i 0) 7 :: r) G (T.set H i (one [a0, a1, a2, a3, a4, a5, a6])) = BG (BN r G (T.set H i (one [a0, a1, a2, a3, a4, a5, a6]))) fun vs => some (.agg [a0, a1, a2, a3, a4, a5, a6] :: vs) := BI (T.Ap ..) (by omega) rfl
theorem AOa (a0 a1 a2 a3 a4 a5 a6 a7 : V) (H : Heap) (n : Nat) (P : KV) : CX (Ai 8 [[a0, a1, a2, a3, a4, a5, a6, a7]] E0) H n P = P (.ptr n 0) (T.set H n (one [a0, a1, a2, a3, a4, a5, a6, a7])) (n + 1) := JW rfl
theorem AOO (a0 a1 a2 a3 a4 a5 a6 a7 : V) {G : AP} {H : Heap} {i : Nat} : Az 8 (.ptr i 0) G (T.set H i (one [a0, a1, a2, a3, a4, a5, a6, a7])) = some (.agg [a0, a1, a2, a3, a4, a5, a6, a7]) := Ud rfl (by omega)
theorem ANV (a0 a1 a2 a3 a4 a5 a6 a7 b0 b1 b2 b3 b4 b5 b6 b7 : V) {H : Heap} {i n : Nat} {k : KV} : Bd 8 (.ptr i 0) (.agg [b0, b1, b2, b3, b4, b5, b6, b7]) (T.set H i (one [a0, a1, a2, a3, a4, a5, a6, a7])) n k = k .undef (T.set (T.set H i (one [a0, a1, a2, a3, a4, a5, a6, a7])) i (one [b0, b1, b2, b3, b4, b5, b6, b7])) n := aI rfl (by omega) rfl
theorem APP (a0 a1 a2 a3 a4 a5 a6 a7 : V) {G : AP} {H : Heap} {i : Nat} {r : List vF} : BN (.cn (.ptr i 0) 8 :: r) G (T.set H i (one [a0, a1, a2, a3, a4, a5, a6, a7])) = BG (BN r G (T.set H i (one [a0, a1, a2, a3, a4, a5, a6, a7]))) fun vs => some (.agg [a0, a1, a2, a3, a4, a5, a6, a7] :: vs) := BI (T.Ap ..) (by omega) rfl
theorem AQH (a0 a1 a2 a3 a4 a5 a6 a7 a8 : V) (H : Heap) (n : Nat) (P : KV) : CX (Ai 9 [[a0, a1, a2, a3, a4, a5, a6, a7, a8]] E0) H n P = P (.ptr n 0) (T.set H n (one [a0, a1, a2, a3, a4, a5, a6, a7, a8])) (n + 1) := JW rfl
theorem AQB (a0 a1 a2 a3 a4 a5 a6 a7 a8 : V) {G : AP} {H : Heap} {i : Nat} : Az 9 (.ptr i 0) G (T.set H i (one [a0, a1, a2, a3, a4, a5, a6, a7, a8])) = some (.agg [a0, a1, a2, a3, a4, a5, a6, a7, a8]) := Ud rfl (by omega)
theorem ALd (a0 a1 a2 a3 a4 a5 a6 a7 a8 b0 b1 b2 b3 b4 b5 b6 b7 b8 : V) {H : Heap} {i n : Nat} {k : KV} : Bd 9 (.ptr i 0) (.agg [b0, b1, b2, b3, b4, b5, b6, b7, b8]) (T.set H i (one [a0, a1, a2, a3, a4, a5, a6, a7, a8])) n k = k .undef (T.set (T.set H i (one [a0, a1, a2, a3, a4, a5, a6, a7, a8])) i (one [b0, b1, b2, b3, b4, b5, b6, b7, b8])) n := aI rfl (by omega) rfl
theorem AP7 (a0 a1 a2 a3 a4 a5 a6 a7 a8 : V) {G : AP} {H : Heap} {i : Nat} {r : List vF} : BN (.cn (.ptr i 0) 9 :: r) G (T.set H i (one [a0, a1, a2, a3, a4, a5, a6, a7, a8])) = BG (BN r G (T.set H i (one [a0, a1, a2, a3, a4, a5, a6, a7, a8]))) fun vs => some (.agg [a0, a1, a2, a3, a4, a5, a6, a7, a8] :: vs) := BI (T.Ap ..) (by omega) rfl
theorem AL7 (a0 a1 a2 a3 a4 a5 a6 a7 a8 a9 : V) (H : Heap) (n : Nat) (P : KV) : CX (Ai 10 [[a0, a1, a2, a3, a4, a5, a6, a7, a8, a9]] E0) H n P = P (.ptr n 0) (T.set H n (one [a0, a1, a2, a3, a4, a5, a6, a7, a8, a9])) (n + 1) := JW rfl
theorem AMy (a0 a1 a2 a3 a4 a5 a6 a7 a8 a9 : V) {G : AP} {H : Heap} {i : Nat} : Az 10 (.ptr i 0) G (T.set H i (one [a0, a1, a2, a3, a4, a5, a6, a7, a8, a9])) = some (.agg [a0, a1, a2, a3, a4, a5, a6, a7, a8, a9]) := Ud rfl (by omega)
theorem AI5 (a0 a1 a2 a3 a4 a5 a6 a7 a8 a9 b0 b1 b2 b3 b4 b5 b6 b7 b8 b9 : V) {H : Heap} {i n : Nat} {k : KV} : Bd 10 (.ptr i 0) (.agg [b0, b1, b2, b3, b4, b5, b6, b7, b8, b9]) (T.set H i (one [a0, a1, a2, a3, a4, a5, a6, a7, a8, a9])) n k = k .undef (T.set (T.set H i (one [a0, a1, a2, a3, a4, a5, a6, a7, a8, a9])) i (one [b0, b1, b2, b3, b4, b5, b6, b7, b8, b9])) n := aI rfl (by omega) rfl
theorem AMe (a0 a1 a2 a3 a4 a5 a6 a7 a8 a9 : V) {G : AP} {H : Heap} {i : Nat} {r : List vF} : BN (.cn (.ptr i 0) 10 :: r) G (T.set H i (one [a0, a1, a2, a3, a4, a5, a6, a7, a8, a9])) = BG (BN r G (T.set H i (one [a0, a1, a2, a3, a4, a5, a6, a7, a8, a9]))) fun vs => some (.agg [a0, a1, a2, a3, a4, a5, a6, a7, a8, a9] :: vs) := BI (T.Ap ..) (by omega) rfl
theorem ANe (a0 a1 a2 a3 a4 a5 a6 a7 a8 a9 a10 : V) (H : Heap) (n : Nat) (P : KV) : CX (Ai 11 [[a0, a1, a2, a3, a4, a5, a6, a7, a8, a9, a10]] E0) H n P = P (.ptr n 0) (T.set H n (one [a0, a1, a2, a3, a4, a5, a6, a7, a8, a9, a10])) (n + 1) := JW rfl
theorem ANJ (a0 a1 a2 a3 a4 a5 a6 a7 a8 a9 a10 : V) {G : AP} {H : Heap} {i : Nat} : Az 11 (.ptr i 0) G (T.set H i (one [a0, a1, a2, a3, a4, a5, a6, a7, a8, a9, a10])) = some (.agg [a0, a1, a2, a3, a4, a5, a6, a7, a8, a9, a10]) := Ud rfl (by omega)
theorem AJY (a0 a1 a2 a3 a4 a5 a6 a7 a8 a9 a10 b0 b1 b2 b3 b4 b5 b6 b7 b8 b9 b10 : V) {H : Heap} {i n : Nat} {k : KV} : Bd 11 (.ptr i 0) (.agg [b0, b1, b2, b3, b4, b5, b6, b7, b8, b9, b10]) (T.set H i (one [a0, a1, a2, a3, a4, a5, a6, a7, a8, a9, a10])) n k = k .undef (T.set (T.set H i (one [a0, a1, a2, a3, a4, a5, a6, a7, a8, a9, a10])) i (one [b0, b1, b2, b3, b4, b5, b6, b7, b8, b9, b10])) n := aI rfl (by omega) rfl
theorem AK4 (a0 a1 a2 a3 a4 a5 a6 a7 a8 a9 a10 : V) {G : AP} {H : Heap} {i : Nat} {r : List vF} : BN (.cn (.ptr i 0) 11 :: r) G (T.set H i (one [a0, a1, a2, a3, a4, a5, a6, a7, a8, a9, a10])) = BG (BN r G (T.set H i (one [a0, a1, a2, a3, a4, a5, a6, a7, a8, a9, a10]))) fun vs => some (.agg [a0, a1, a2, a3, a4, a5, a6, a7, a8, a9, a10] :: vs) := BI (T.Ap ..) (by omega) rfl
theorem AMM (a0 a1 a2 a3 a4 a5 a6 a7 a8 a9 a10 a11 : V) (H : Heap) (n : Nat) (P : KV) : CX (Ai 12 [[a0, a1, a2, a3, a4, a5, a6, a7, a8, a9, a10, a11]] E0) H n P = P (.ptr n 0) (T.set H n (one [a0, a1, a2, a3, a4, a5, a6, a7, a8, a9, a10, a11])) (n + 1) := JW rfl
theorem ANB (a0 a1 a2 a3 a4 a5 a6 a7 a8 a9 a10 a11 : V) {G : AP} {H : Heap} {i : Nat} : Az 12 (.ptr i 0) G (T.set H i (one [a0, a1, a2, a3, a4, a5, a6, a7, a8, a9, a10, a11])) = some (.agg [a0, a1, a2, a3, a4, a5, a6, a7, a8, a9, a10, a11]) := Ud rfl (by omega)
theorem AJa (a0 a1 a2 a3 a4 a5 a6 a7 a8 a9 a10 a11 b0 b1 b2 b3 b4 b5 b6 b7 b8 b9 b10 b11 : V) {H : Heap} {i n : Nat} {k : KV} : Bd 12 (.ptr i 0) (.agg [b0, b1, b2, b3, b4, b5, b6, b7, b8, b9, b10, b11]) (T.set H i (one [a0, a1, a2, a3, a4, a5, a6, a7, a8, a9, a10, a11])) n k = k .undef (T.set (T.set H i (one [a0, a1, a2, a3, a4, a5, a6, a7, a8, a9, a10, a11])) i (one [b0, b1, b2, b3, b4, b5, b6, b7, b8, b9, b10, b11])) n := aI rfl (by omega) rfl
theorem AMp (a0 a1 a2 a3 a4 a5 a6 a7 a8 a9 a10 a11 : V) {G : AP} {H : Heap} {i : Nat} {r : List vF} : BN (.cn (.ptr i 0) 12 :: r) G (T.set H i (one [a0, a1, a2, a3, a4, a5, a6, a7, a8, a9, a10, a11])) = BG (BN r G (T.set H i (one [a0, a1, a2, a3, a4, a5, a6, a7, a8, a9, a10, a11]))) fun vs => some (.agg [a0, a1, a2, a3, a4, a5, a6, a7, a8, a9, a10, a11] :: vs) := BI (T.Ap ..) (by omega) rfl
theorem ALe (a0 a1 a2 a3 a4 a5 a6 a7 a8 a9 a10 a11 a12 : V) (H : Heap) (n : Nat) (P : KV) : CX (Ai 13 [[a0, a1, a2, a3, a4, a5, a6, a7, a8, a9, a10, a11, a12]] E0) H n P = P (.ptr n 0) (T.set H n (one [a0, a1, a2, a3, a4, a5, a6, a7, a8, a9, a10, a11, a12])) (n + 1) := JW rfl
theorem ALo (a0 a1 a2 a3 a4 a5 a6 a7 a8 a9 a10 a11 a12 : V) {G : AP} {H : Heap} {i : Nat} : Az 13 (.ptr i 0) G (T.set H i (one [a0, a1, a2, a3, a4, a5, a6, a7, a8, a9, a10, a11, a12])) = some (.agg [a0, a1, a2, a3, a4, a5, a6, a7, a8, a9, a10, a11, a12]) := Ud rfl (by omega)
theorem AIE (a0 a1 a2 a3 a4 a5 a6 a7 a8 a9 a10 a11 a12 b0 b1 b2 b3 b4 b5 b6 b7 b8 b9 b10 b11 b12 : V) {H : Heap} {i n : Nat} {k : KV} : Bd 13 (.ptr i 0) (.agg [b0, b1, b2, b3, b4, b5, b6, b7, b8, b9, b10, b11, b12]) (T.set H i (one [a0, a1, a2, a3, a4, a5, a6, a7, a8, a9, a10, a11, a12])) n k = k .undef (T.set (T.set H i (one [a0, a1, a2, a3, a4, a5, a6, a7, a8, a9, a10, a11, a12])) i (one [b0, b1, b2, b3, b4, b5, b6, b7, b8, b9, b10, b11, b12])) n := aI rfl (by omega) rfl
theorem ALK (a0 a1 a2 a3 a4 a5 a6 a7 a8 a9 a10 a11 a12 : V) {G : AP} {H : Heap} {i : Nat} {r : List vF} : BN (.cn (.ptr i 0) 13 :: r) G (T.set H i (one [a0, a1, a2, a3, a4, a5, a6, a7, a8, a9, a10, a11, a12])) = BG (BN r G (T.set H i (one [a0, a1, a2, a3, a4, a5, a6, a7, a8, a9, a10, a11, a12]))) fun vs => some (.agg [a0, a1, a2, a3, a4, a5, a6, a7, a8, a9, a10, a11, a12] :: vs) := BI (T.Ap ..) (by omega) rfl
theorem AK5 (a0 a1 a2 a3 a4 a5 a6 a7 a8 a9 a10 a11 a12 a13 : V) (H : Heap) (n : Nat) (P : KV) : CX (Ai 14 [[a0, a1, a2, a3, a4, a5, a6, a7, a8, a9, a10, a11, a12, a13]] E0) H n P = P (.ptr n 0) (T.set H n (one [a0, a1, a2, a3, a4, a5, a6, a7, a8, a9, a10, a11, a12, a13])) (n + 1) := JW rfl
theorem AL8 (a0 a1 a2 a3 a4 a5 a6 a7 a8 a9 a10 a11 a12 a13 : V) {G : AP} {H : Heap} {i : Nat} : Az 14 (.ptr i 0) G (T.set H i (one [a0, a1, a2, a3, a4, a5, a6, a7, a8, a9, a10, a11, a12, a13])) = some (.agg [a0, a1, a2, a3, a4, a5, a6, a7, a8, a9, a10, a11, a12, a13]) := Ud rfl (by omega)
theorem AIp (a0 a1 a2 a3 a4 a5 a6 a7 a8 a9 a10 a11 a12 a13 b0 b1 b2 b3 b4 b5 b6 b7 b8 b9 b10 b11 b12 b13 : V) {H : Heap} {i n : Nat} {k : KV} : Bd 14 (.ptr i 0) (.agg [b0, b1, b2, b3, b4, b5, b6, b7, b8, b9, b10, b11, b12, b13]) (T.set H i (one [a0, a1, a2, a3, a4, a5, a6, a7, a8, a9, a10, a11, a12, a13])) n k = k .undef (T.set (T.set H i (one [a0, a1, a2, a3, a4, a5, a6, a7, a8, a9, a10, a11, a12, a13])) i (one [b0, b1, b2, b3, b4, b5, b6, b7, b8, b9, b10, b11, b12, b13])) n := aI rfl (by omega) rfl
theorem ALq (a0 a1 a2 a3 a4 a5 a6 a7 a8 a9 a10 a11 a12 a13 : V) {G : AP} {H : Heap} {i : Nat} {r : List vF} : BN (.cn (.ptr i 0) 14 :: r) G (T.set H i (one [a0, a1, a2, a3, a4, a5, a6, a7, a8, a9, a10, a11, a12, a13])) = BG (BN r G (T.set H i (one [a0, a1, a2, a3, a4, a5, a6, a7, a8, a9, a10, a11, a12, a13]))) fun vs => some (.agg [a0, a1, a2, a3, a4, a5, a6, a7, a8, a9, a10, a11, a12, a13] :: vs) := BI (T.Ap ..) (by omega) rfl
theorem ALh (a0 a1 a2 a3 a4 a5 a6 a7 a8 a9 a10 a11 a12 a13 a14 : V) (H : Heap) (n : Nat) (P : KV) : CX (Ai 15 [[a0, a1, a2, a3, a4, a5, a6, a7, a8, a9, a10, a11, a12, a13, a14]] E0) H n P = P (.ptr n 0) (T.set H n (one [a0, a1, a2, a3, a4, a5, a6, a7, a8, a9, a10, a11, a12, a13, a14])) (n + 1) := JW rfl
theorem AM4 (a0 a1 a2 a3 a4 a5 a6 a7 a8 a9 a10 a11 a12 a13 a14 : V) {G : AP} {H : Heap} {i : Nat} : Az 15 (.ptr i 0) G (T.set H i (one [a0, a1, a2, a3, a4, a5, a6, a7, a8, a9, a10, a11, a12, a13, a14])) = some (.agg [a0, a1, a2, a3, a4, a5, a6, a7, a8, a9, a10, a11, a12, a13, a14]) := Ud rfl (by omega)
theorem AIz (a0 a1 a2 a3 a4 a5 a6 a7 a8 a9 a10 a11 a12 a13 a14 b0 b1 b2 b3 b4 b5 b6 b7 b8 b9 b10 b11 b12 b13 b14 : V) {H : Heap} {i n : Nat} {k : KV} : Bd 15 (.ptr i 0) (.agg [b0, b1, b2, b3, b4, b5, b6, b7, b8, b9, b10, b11, b12, b13, b14]) (T.set H i (one [a0, a1, a2, a3, a4, a5, a6, a7, a8, a9, a10, a11, a12, a13, a14])) n k = k .undef (T.set (T.set H i (one [a0, a1, a2, a3, a4, a5, a6, a7, a8, a9, a10, a11, a12, a13, a14])) i (one [b0, b1, b2, b3, b4, b5, b6, b7, b8, b9, b10, b11, b12, b13, b14])) n := aI rfl (by omega) rfl
theorem AMB (a0 a1 a2 a3 a4 a5 a6 a7 a8 a9 a10 a11 a12 a13 a14 : V) {G : AP} {H : Heap} {i : Nat} {r : List vF} : BN (.cn (.ptr i 0) 15 :: r) G (T.set H i (one [a0, a1, a2, a3, a4, a5, a6, a7, a8, a9, a10, a11, a12, a13, a14])) = BG (BN r G (T.set H i (one [a0, a1, a2, a3, a4, a5, a6, a7, a8, a9, a10, a11, a12, a13, a14]))) fun vs => some (.agg [a0, a1, a2, a3, a4, a5, a6, a7, a8, a9, a10, a11, a12, a13, a14] :: vs) := BI (T.Ap ..) (by omega) rfl
attribute [go_sem] ALz ALk AME ANN AKt ALI ALX AM3 ALV AMP AKz AMf AJA ALl Ud AMh AL9 aI BH WW aK CS CG AKL APr AOq AOr AR1 AQD AOk AOZ AQQ ASg Y6 AJP Aj yO AJN mZ lK AK9 O7 APT AOQ AEe AJT AJS AII AIw AHa ALu ALS ALM AKI
attribute [go_sem] ne_eq ATU ASZ ASW ASt AS1 ASE ASG ARZ ATV ARd AR5 ARQ ASH ASY ARt ARs ASb ASL APa APC APv AO4 APg APK APn AP0 AN2 AOX AJM AJg AID AJu AIH AJ0 AIg AJU AJ2 AIY AHg AGE AFp AGT not_false_eq_true List.length_cons List.length_nil Nat.zero_add
attribute [go_sem] APx AOo ALx AOM AOI AOE AMR APQ AP4 APl ANg AOw AQL APV ALn AOb AQV APD AMj AN3 AOi AQI AM1 AOT AN4 APt AMS AOh AOa AOO ANV APP AQH AQB ALd AP7 AL7 AMy AI5 AMe ANe ANJ AJY AK4 AMM ANB AJa AMp ALe ALo AIE ALK AK5 AL8 AIp ALq ALh AM4 AIz AMB
end Go.Eng
namespace Go.Eng
theorem Nc {H : Heap} {id z : Nat} : ∀ (n o : Nat) {LS : Dk}, CV H id z n o = some LS -> LS.length = n /\ ∀ i c, LS[i]? = some c -> ZI H id ((o + i) * z) z = some c
 | 0, o, LS, h => by cases h; exact ⟨rfl, fun i c hc => by simp at hc⟩
 | n + 1, o, LS, h => by
  have h' : BG (ZI H id (Nat.mul o z) z) (fun L => BG (CV H id z n (Nat.succ o)) fun LS => some (L :: LS)) = some LS := h
  rw [BM] at h'
  obtain ⟨L, hL, h'⟩ := h'
  rw [BM] at h'
  obtain ⟨LS', hLS, h'⟩ := h'
  cases h'
  obtain ⟨h1, h2⟩ := Nc n (o + 1) hLS
  refine ⟨by simp [h1], fun i c hc => ?_⟩
  cases i with
  | zero => simp at hc; subst hc; exact hL
  | succ i => simp at hc; rw [show o + (i + 1) = o + 1 + i by omega]; exact h2 i c hc
theorem iK {G : AP} {b z : Nat} : ∀ (n o : Nat) {LS : Dk}, bZ G b z n o = some LS -> LS.length = n /\ ∀ i c, LS[i]? = some c -> G b (o + i * z) z = some c
 | 0, o, LS, h => by cases h; exact ⟨rfl, fun i c hc => by simp at hc⟩
 | n + 1, o, LS, h => by
  have h' : BG (G b o z) (fun L => BG (bZ G b z n (Nat.add o z)) fun LS => some (L :: LS)) = some LS := h
  rw [BM] at h'
  obtain ⟨L, hL, h'⟩ := h'
  rw [BM] at h'
  obtain ⟨LS', hLS, h'⟩ := h'
  cases h'
  obtain ⟨h1, h2⟩ := iK n (o + z) hLS
  refine ⟨by simp [h1], fun i c hc => ?_⟩
  cases i with
  | zero => simp at hc; subst hc; simpa using hL
  | succ i => simp at hc; rw [show o + (i + 1) * z = o + z + i * z by rw [Nat.add_mul]; omega]; exact h2 i c hc
def El (G : AP) (H : Heap) (v : V) (z : Nat) (LS : Dk) : Prop := isStr v = false /\ elems v G H z = some LS
theorem El.len {G : AP} {H : Heap} {v : V} {z : Nat} {LS : Dk} (h : El G H v z LS) : lenV v = some (.int .i64 (.ofNat LS.length) 0) := by
 obtain ⟨hs, h⟩ := h
 cases v <;> try (cases h; done)
 ·cases hs
 ·cases h; rfl
 ·rename_i id off n c e
  cases hb : Nat.beq e z with
  | false => have h' : (Bool.rec (motive := fun _ => Option Dk) none (CV H id z n off) (Nat.beq e z) : Option Dk) = some LS := h; rw [hb] at h'; cases h'
  | true =>
   have h' : (Bool.rec (motive := fun _ => Option Dk) none (CV H id z n off) (Nat.beq e z) : Option Dk) = some LS := h
   rw [hb] at h'; rw [(Nc _ _ h').1]; rfl
 ·rename_i id off n e
  cases hb : Nat.beq e z with
  | false => have h' : (Bool.rec (motive := fun _ => Option Dk) none (CV H id z n off) (Nat.beq e z) : Option Dk) = some LS := h; rw [hb] at h'; cases h'
  | true =>
   have h' : (Bool.rec (motive := fun _ => Option Dk) none (CV H id z n off) (Nat.beq e z) : Option Dk) = some LS := h
   rw [hb] at h'; rw [(Nc _ _ h').1]; rfl
 ·rw [(iK _ _ h).1]; rfl
theorem El.at {G : AP} {H : Heap} {v : V} {z : Nat} {LS : Dk} (h : El G H v z LS) {i : Nat} {c : LV} (hi : LS[i]? = some c) :
    ∃ p, BU z v (.int .i64 (.ofNat i) 0) = some p /\ lH p G H z = some c := by
  obtain ⟨hs, h⟩ := h
  obtain ⟨hlt, _⟩ := List.getElem?_eq_some_iff.1 hi
  cases v <;> try (cases h; done)
  · cases hs
  · cases h; simp at hlt
  · rename_i id off n cp e
    have h' : (Bool.rec (motive := fun _ => Option Dk) none (CV H id z n off) (Nat.beq e z) : Option Dk) = some LS := h
    cases hb : Nat.beq e z with
    | false => rw [hb] at h'; cases h'
    | true =>
      rw [hb] at h'
      obtain ⟨h1, h2⟩ := Nc _ _ h'
      refine ⟨.ptr id ((off + i) * z), ?_, h2 i c hi⟩
      show Aq (band (Nat.beq e z) (Nat.blt i n)) (CQ (Nat.mul (Nat.add off i) z) fun o => some (.ptr id o)) = _
      rw [hb, show Nat.blt i n = true by rw [Nat.blt_eq]; omega, BJ]; rfl
  · rename_i id off n e
    have h' : (Bool.rec (motive := fun _ => Option Dk) none (CV H id z n off) (Nat.beq e z) : Option Dk) = some LS := h
    cases hb : Nat.beq e z with
    | false => rw [hb] at h'; cases h'
    | true =>
      rw [hb] at h'
      obtain ⟨h1, h2⟩ := Nc _ _ h'
      refine ⟨.ptr id ((off + i) * z), ?_, h2 i c hi⟩
      show Aq (band (Nat.beq e z) (Nat.blt i n)) (CQ (Nat.mul (Nat.add off i) z) fun o => some (.ptr id o)) = _
      rw [hb, show Nat.blt i n = true by rw [Nat.blt_eq]; omega, BJ]; rfl
  · rename_i b off n cp e
    obtain ⟨h1, h2⟩ := iK _ _ h
    refine ⟨.gptr b (off + i * z), ?_, h2 i c hi⟩
    show Aq (Nat.blt i n) (CQ (Nat.add off (Nat.mul i z)) fun o => some (.gptr b o)) = _
    rw [show Nat.blt i n = true by rw [Nat.blt_eq]; omega, BJ]; rfl
theorem yH {G : AP} {H : Heap} {p : V} {z : Nat} {c : LV} (h : lH p G H z = some c) : Az z p G H = some (.agg c) := by rw [wS, h]; rfl
theorem Y0 {G : AP} {H : Heap} {p v : V} (h : lH p G H 1 = some [v]) : Aa p G H = some v := by rw [oM, h]; rfl
noncomputable def V.Ul (v : V) : Option Nat := match v with | .sl id .. => some id | .NW id .. => some id | _ => none
theorem El.same {G : AP} {H H' : Heap} {v : V} {z : Nat} {LS : Dk} (h : El G H v z LS) (hs : ∀ id, v.Ul = some id -> T.get H' id = T.get H id) : El G H' v z LS := by
 refine ⟨h.1, ?_⟩
 have hB : ∀ id, v.Ul = some id -> ∀ n o, CV H' id z n o = CV H id z n o := by
  intro id hid n
  induction n with
  | zero => intro o; rfl
  | succ n ih =>
   intro o
   show BG (ZI H' id (Nat.mul o z) z) (fun L => BG (CV H' id z n (Nat.succ o)) fun LS => some (L :: LS)) = BG (ZI H id (Nat.mul o z) z) (fun L => BG (CV H id z n (Nat.succ o)) fun LS => some (L :: LS))
   rw [ih]; unfold ZI; rw [hs id hid]
 have h2 := h.2
 cases v <;> try exact h2
 ·rename_i id off n c e
  show (Bool.rec (motive := fun _ => Option Dk) none (CV H' id z n off) (Nat.beq e z) : Option Dk) = some LS
  rw [hB id rfl]; exact h2
 ·rename_i id off n e
  show (Bool.rec (motive := fun _ => Option Dk) none (CV H' id z n off) (Nat.beq e z) : Option Dk) = some LS
  rw [hB id rfl]; exact h2
end Go.Eng
namespace Go.Eng
theorem T.mY {α : Type} (a b : α) : ∀ (p : P2) (t : T α), T.Ia b p (T.Ia a p t) = T.Ia b p t
 | .h, t => rfl
 | .z p, t => by show T.n t.val (T.Ia b p (T.Ia a p t.left)) t.right = T.n t.val (T.Ia b p t.left) t.right; rw [T.mY a b p]
 | .o p, t => by show T.n t.val t.left (T.Ia b p (T.Ia a p t.right)) = T.n t.val t.left (T.Ia b p t.right); rw [T.mY a b p]
theorem T.set_set {α : Type} (t : T α) (k : Nat) (a b : α) : T.set (T.set t k a) k b = T.set t k b := T.mY ..
theorem Kp.get {H H' : Heap} {n n' id : Nat} {b : Np} (f : Kp H n H' n') (h : T.get H id = some b) (hi : id < n) : T.get H' id = some b := (f.same id hi).trans h
theorem Kp.set {H0 H : Heap} {n0 n id : Nat} (a : Kp H0 n0 H n) (b : Np) (h : n0 <= id) : Kp H0 n0 (T.set H id b) n := a.new b h (Nat.le_refl _)
theorem Kp.le1 {H0 H : Heap} {n0 n m : Nat} (a : Kp H0 n0 H n) (h : n <= m) : Kp H0 n0 H m := ⟨Nat.le_trans a.le h, a.same⟩
theorem VF {σ : Type} {b : (σ -> Prop) -> σ -> Prop} {N : Nat} {J : Nat -> σ -> Prop} (hs : ∀ I i s, i < N -> J i s -> (∀ s', J (i + 1) s' -> I s') -> b I s) (he : ∀ I s, J N s -> b I s) {s : σ} (h0 : J 0 s) : lfp σ b s := by
 refine KY (J := fun m s => ∃ i, m = N - i /\ i <= N /\ J i s) ?_ (m := N) ⟨0, rfl, Nat.zero_le _, h0⟩
 rintro I m s ⟨i, rfl, hi, hj⟩ ih
 rcases Nat.lt_or_ge i N with h | h
 ·exact hs I i s h hj fun s' hj' => ih _ s' (by omega) ⟨i + 1, rfl, h, hj'⟩
 ·have : i = N := by omega
  subst this; exact he I s hj
section
variable {H : Heap} {n z : Nat} {L : LV} {P : KV}
theorem AES {v : V} (hv : XF v = true) (h : ∀ H', Kp H n H' (n + 1) -> T.get H' n = some (one (BK v)) -> P (.ptr n 0) H' (n + 1)) : CX (JC v) H n P := by
 rw [VP hv]; exact h _ ((Kp.refl H n).new _ (Nat.le_refl _) (by omega)) (T.Ap ..)
theorem aA (h : ∀ H', Kp H n H' (n + 1) -> T.get H' n = some (one L) -> P (.ptr n 0) H' (n + 1)) : CX (JC (.agg L)) H n P := AES rfl h
theorem BA (hL : L.length = z) (h : ∀ H', Kp H n H' (n + 1) -> T.get H' n = some (one L) -> P (.ptr n 0) H' (n + 1)) : CX (Ai z [L] E0) H n P := by
 rw [JW hL]; exact h _ ((Kp.refl H n).new _ (Nat.le_refl _) (by omega)) (T.Ap ..)
theorem AP5 {L' : LV} (hL : L.length = z) (hL' : L'.length = z) (hz : 0 < z) (h : ∀ H', Kp H n H' (n + 1) -> T.get H' n = some (one L') -> P .undef H' (n + 1)) :
    Bd z (.ptr n 0) (.agg L') (T.set H n (one L)) (n + 1) P := by
  rw [aI hL hz hL', T.set_set]; exact h _ ((Kp.refl H n).new _ (Nat.le_refl _) (by omega)) (T.Ap ..)
theorem ARk {v w : V} (hv : XF w = true) (hw : BK w = [w]) (h : ∀ H', Kp H n H' (n + 1) -> T.get H' n = some (one [w]) -> P .undef H' (n + 1)) :
    Bd 1 (.ptr n 0) w (T.set H n (one [v])) (n + 1) P := by
  rw [NQ (T.Ap ..) hv (by rw [hw]; rfl) (by omega) (by show 0 + 1 <= 1; omega), T.set_set, hw]; exact h _ ((Kp.refl H n).new _ (Nat.le_refl _) (by omega)) (T.Ap ..)
theorem Dp {i o m : Nat} {L : LV} {v : V} (hg : T.get H i = some (one L)) (hv : XF v = true) (hn : (BK v).length = m) (hm : 0 < m) (hl : o + m <= L.length)
    (h : ∀ H', T.get H' i = some (one (L.take o ++ (BK v ++ L.drop (o + m)))) -> (∀ j, j ≠ i -> T.get H' j = T.get H j) -> P .undef H' n) : Bd m (.ptr i o) v H n P := by
  rw [NQ hg hv hn hm hl]; exact h _ (T.Ap ..) fun j hj => T.Am _ _ (Ne.symm hj)
end
theorem qX {H : Heap} {id e c i : Nat} {t : T LV} (hg : T.get H id = some (.arr e c t)) (he : 0 < e) (hi : i < c) : ZI H id (i * e) e = T.get t i := by
 unfold ZI; rw [hg]
 show ldB e c t (i * e) e = _
 unfold ldB
 have hdiv : i * e / e = i := Nat.mul_div_cancel _ he
 have hmod : i * e % e = 0 := Nat.mul_mod_left ..
 have hb : Nat.blt (Nat.div (i * e) e) c = true := by rw [Nat.blt_eq]; show i * e / e < c; omega
 rw [hb]
 show BG (T.get t (Nat.div (i * e) e)) (ldC e (i * e) e) = _
 rw [show Nat.div (i * e) e = i from hdiv]
 cases h : T.get t i with
 | none => rfl
 | some L =>
  show ldC e (i * e) e L = _
  unfold ldC
  rw [show Nat.mod (i * e) e = 0 from hmod, show band (Nat.beq e e) (Nat.beq 0 0) = true by simp]
theorem dO {H : Heap} {id z : Nat} : ∀ (n o : Nat) (LS : Dk), LS.length = n -> (∀ i c, LS[i]? = some c -> ZI H id ((o + i) * z) z = some c) -> CV H id z n o = some LS
 | 0, o, LS, hl, _ => by cases LS with | nil => rfl | cons a l => simp at hl
 | n + 1, o, LS, hl, h => by
  cases LS with
  | nil => simp at hl
  | cons a l =>
   show BG (ZI H id (Nat.mul o z) z) (fun L => BG (CV H id z n (Nat.succ o)) fun LS => some (L :: LS)) = _
   have h0 := h 0 a rfl
   rw [show Nat.mul o z = (o + 0) * z from rfl, h0, O7, dO n (o + 1) l (by simpa using hl) fun i c hc => by
    have := h (i + 1) c (by simpa using hc); rwa [show o + (i + 1) = o + 1 + i by omega] at this]
   rfl
inductive Gr (G : AP) (H : Heap) (m : Nat) (z : Nat) : V -> Dk -> Prop where
 | nil : Gr G H m z .Ag []
 | NW {id c : Nat} {t : T LV} {LS : Dk} (hg : T.get H id = some (.arr z c t)) (hc : LS.length <= c) (ht : ∀ i L, LS[i]? = some L -> T.get t i = some L) (hid : m <= id) : Gr G H m z (.NW id 0 LS.length z) LS
theorem Dy (z : Nat) : Nat.beq z z = true := by simp
theorem Gr.el {G : AP} {H : Heap} {m z : Nat} {v : V} {LS : Dk} (h : Gr G H m z v LS) (hz : 0 < z) : El G H v z LS := by
 cases h with
 | nil => exact ⟨rfl, rfl⟩
 | NW hg hc ht hid =>
  rename_i id c t
  refine ⟨rfl, ?_⟩
  show (Bool.rec (motive := fun _ => Option Dk) none (CV H id z LS.length 0) (Nat.beq z z) : Option Dk) = some LS
  rw [Dy]
  exact dO _ _ _ rfl fun i L hi => by
   have hlt := (List.getElem?_eq_some_iff.1 hi).1
   rw [Nat.zero_add, qX hg hz (by omega)]; exact ht i L hi
theorem Gr.mono {G : AP} {H H' : Heap} {m z : Nat} {v : V} {LS : Dk} (h : Gr G H m z v LS) (hs : ∀ id, v.Ul = some id -> T.get H' id = T.get H id) : Gr G H' m z v LS := by
 cases h with
 | nil => exact .nil
 | NW hg hc ht hid => exact .NW (hs _ rfl ▸ hg) hc ht hid
theorem Gr.lo {G : AP} {H : Heap} {m z : Nat} {v : V} {LS : Dk} (h : Gr G H m z v LS) {id : Nat} (hid : v.Ul = some id) : m <= id /\ ∃ c t, T.get H id = some (.arr z c t) := by
 cases h with
 | nil => cases hid
 | NW hg hc ht hi => cases hid; exact ⟨hi, _, _, hg⟩
theorem VI {a b : Nat} (h : a * b <= 140737488355328) : ML a b = true := by unfold ML; rw [Nat.ble_eq]; exact h
theorem ABi {id ln z bs c n : Nat} {t : T LV} {NS : Dk} {H : Heap} {k : KV} (hr : ML (ln + NS.length) bs = true) (hc : ln <= c) :
    WA id 0 ln z bs NS H n k (.arr z c t) = k (.NW n 0 (ln + NS.length) z) (T.set (T.set H id .dead) n (.arr z (ln + NS.length) (ED NS ln t))) (n + 1) := by
  show Cj (Nat.add ln (len NS)) (fun need => Fa (band (ML need bs) (band (Nat.beq z z) (Nat.ble (Nat.add 0 ln) c))) (Cj n fun n => k (.NW n 0 need z) (T.set (T.set H id .dead) n (.arr z need (ED NS ln t))) (Nat.succ n))) = _
  rw [BL, BL, len_eq]
  show Fa (band (ML (ln + NS.length) bs) (band (Nat.beq z z) (Nat.ble (Nat.add 0 ln) c))) (k (.NW n 0 (ln + NS.length) z) (T.set (T.set H id .dead) n (.arr z (ln + NS.length) (ED NS ln t))) (n + 1)) = _
  rw [hr, Dy, show Nat.ble (Nat.add 0 ln) c = true by rw [Nat.ble_eq]; show 0 + ln <= c; omega]
  rfl
theorem Gr.app {G : AP} {H : Heap} {m n z bs : Nat} {v w : V} {LS NS : Dk} {k : KV} (h : Gr G H m z v LS) (hm : m <= n) (hn : ∀ id, v.Ul = some id -> id < n) (hw : elems w G H z = some NS)
    (hb : (LS.length + NS.length) * bs <= 140737488355328)
    (hk : ∀ v' H', Gr G H' m z v' (LS ++ NS) -> (∀ id, id < n -> v.Ul ≠ some id -> T.get H' id = T.get H id) -> (∀ id, v'.Ul = some id -> id < n + 1) -> k v' H' (n + 1))
    (hk0 : NS = [] -> k v H n) : Yq z bs v w G H n k := by
  unfold Yq
  rw [hw, WW]
  cases h with
  | nil =>
    cases NS with
    | nil => exact hk0 rfl
    | cons a NS =>
      show La z bs [] (a :: NS) H n k
      unfold La
      rw [BL, BL, len_eq, len_eq, show ML (Nat.add ([] : Dk).length (a :: NS).length) bs = true from VI hb, aK]
      have e : Nat.add ([] : Dk).length (a :: NS).length = (a :: NS).length := Nat.zero_add _
      rw [e]
      refine hk _ _ ?_ (fun id hid _ => T.Am _ _ (by omega)) (fun id hid => by cases hid; omega)
      refine .NW (LS := a :: NS) (T.Ap ..) (Nat.le_refl _) (fun i L hi => ?_) hm
      show T.get (ED (a :: NS) 0 .e) i = some L
      have hlt := (List.getElem?_eq_some_iff.1 hi).1
      rw [Dv, if_pos ⟨Nat.zero_le _, by omega⟩]; exact hi
  | NW hg hc ht hid =>
    rename_i id c t
    show Fa (Nat.beq z z) _
    rw [Dy, aK]
    cases NS with
    | nil => exact hk0 rfl
    | cons a NS =>
      show Es (T.get H id) (fun b => WA id 0 LS.length z bs (a :: NS) H n k b)
      rw [hg, WW]
      rw [ABi (VI hb) hc, show LS.length + (a :: NS).length = (LS ++ a :: NS).length by rw [List.length_append]]
      refine hk _ _ ?_ (fun j hj hne => ?_) (fun j hj => by cases hj; omega)
      · refine .NW (LS := LS ++ a :: NS) (T.Ap ..) (Nat.le_refl _) (fun i L hi => ?_) hm
        rw [Dv]
        by_cases hlt : i < LS.length
        · rw [if_neg (by omega)]
          rw [List.getElem?_append_left hlt] at hi
          exact ht i L hi
        · rw [List.getElem?_append_right (by omega)] at hi
          have hlt2 := (List.getElem?_eq_some_iff.1 hi).1
          rw [if_pos ⟨by omega, by omega⟩]; exact hi
      · rw [T.Am _ _ (by omega), T.Am _ _ (by intro e; subst e; exact hne rfl)]
def AGx (H : Heap) (id : Nat) (ps : List ((Nat × Nat) × V)) : Prop := ∃ es ck, T.get H id = some (.map es ck) /\ es.map (fun e => (e.1, e.2.1)) = ps.map fun p => (V.str p.1.1 p.1.2, p.2)
def wH {α : Type} (ps : List ((Nat × Nat) × α)) (s : Nat × Nat) : Option α := (ps.find? fun p => decide (p.1 = s)).map (·.2)
theorem ckS (a b l c : Nat) : CK.str.eq (.str a b) (.str l c) = some (decide ((a, b) = (l, c))) := by
 show some (band (Nat.beq a l) (Nat.beq b c)) = _
 congr 1; rw [BR, Bool.eq_iff_iff]; simp
theorem nM : ∀ (es : ME) (ps : List ((Nat × Nat) × V)) (s : Nat × Nat) (i : Nat), es.map (fun e => (e.1, e.2.1)) = ps.map (fun p => (V.str p.1.1 p.1.2, p.2)) ->
    bQ .str (.str s.1 s.2) es i = some ((wH ps s).map fun v => (i + (ps.findIdx fun p => decide (p.1 = s)), v))
  | [], ps, s, i, h => by
    cases ps with
    | nil => rfl
    | cons p ps => simp at h
  | e :: es, ps, s, i, h => by
    cases ps with
    | nil => simp at h
    | cons p ps =>
      simp only [List.map_cons, List.cons.injEq, Prod.mk.injEq] at h
      obtain ⟨⟨h1, h2⟩, h3⟩ := h
      show BG (CK.str.eq e.1 (.str s.1 s.2)) (fun r => Bool.rec (bQ .str (.str s.1 s.2) es (Nat.succ i)) (some (some (i, e.2.1))) r) = _
      rw [h1, ckS, O7, nM es ps s (i + 1) h3]
      by_cases hp : p.1 = s
      · have hd : decide ((p.1.1, p.1.2) = (s.1, s.2)) = true := decide_eq_true hp
        rw [hd]
        unfold wH
        simp [hp, List.findIdx_cons, h2]
      · have hd : decide ((p.1.1, p.1.2) = (s.1, s.2)) = false := decide_eq_false hp
        rw [hd]
        unfold wH
        simp only [List.find?_cons, hp, decide_false, List.findIdx_cons, cond_false]
        show some (Option.map (fun v => (i + 1 + List.findIdx (fun p => decide (p.fst = s)) ps, v)) _) = _
        congr 2; funext v; congr 1; omega
theorem ACu {H : Heap} {id : Nat} {es : ME} {ck : Nat} (h : T.get H id = some (.map es ck)) (f : ME -> Nat -> Option V) : NR H (.map id) f = f es ck := by
 show (Option.rec (motive := fun _ => (ME -> Nat -> Option V) -> Option V) (fun _ => none) AOW (T.get H id) f : Option V) = _
 rw [h]; rfl
def APm (z : V) : Option V -> V
 | some v => .GK [v, .bool true]
 | none => .GK [z, .bool false]
theorem APB {H : Heap} {id : Nat} {ps : List ((Nat × Nat) × V)} (h : AGx H id ps) (z : V) (s : Nat × Nat) :
    AGo .str true z (.map id) (.str s.1 s.2) H = some (APm z (wH ps s)) := by
  obtain ⟨es, ck, hg, he⟩ := h
  unfold AGo
  rw [ACu hg, nM es ps s 0 he, O7]
  cases wH ps s <;> rfl
def dh {α : Type} (s : Nat × Nat) (v : α) : List ((Nat × Nat) × α) -> List ((Nat × Nat) × α)
 | [] => [(s, v)]
 | p :: ps => if p.1 = s then (s, v) :: ps else p :: dh s v ps
theorem AGt {α : Type} (s : Nat × Nat) (v : α) : ∀ (ps : List ((Nat × Nat) × α)) (t : Nat × Nat), wH (dh s v ps) t = if s = t then some v else wH ps t
 | [], t => by
  unfold dh wH
  by_cases h : s = t <;> simp [h]
 | p :: ps, t => by
  have ih := AGt s v ps t
  unfold dh
  by_cases h : p.1 = s
  ·rw [if_pos h]
   by_cases h2 : s = t
   ·simp [wH, h2]
   ·have h3 : ¬ p.1 = t := by rw [h]; exact h2
    simp [wH, h2, h3]
  ·rw [if_neg h]
   by_cases h2 : p.1 = t
   ·have h3 : ¬ s = t := by intro e; exact h (h2.trans e.symm)
    simp [wH, h2, h3]
   ·unfold wH at ih ⊢
    simp only [List.find?_cons, h2, decide_false]
    exact ih
theorem AQ4 {H : Heap} {id : Nat} {ps : List ((Nat × Nat) × V)} (h : AGx H id ps) (s : Nat × Nat) (v : V) {n : Nat} {k : KV}
    (hk : ∀ H', AGx H' id (dh s v ps) -> (∀ j, j ≠ id -> T.get H' j = T.get H j) -> k .undef H' n) : AOs .str (.map id) (.str s.1 s.2) v H n k := by
  obtain ⟨es, ck, hg, he⟩ := h
  show Es (T.get H id) (fun b => Es (AKj b (ACg .str (.str s.1 s.2) v)) fun b => k .undef (T.set H id b) n)
  rw [hg, WW]
  show Es (ACg .str (.str s.1 s.2) v es ck) _
  unfold ACg
  rw [nM es ps s 0 he, O7]
  have key : ∀ (es : ME) (ps : List ((Nat × Nat) × V)), es.map (fun e => (e.1, e.2.1)) = ps.map (fun p => (V.str p.1.1 p.1.2, p.2)) ->
      match wH ps s with
      | none => (cat es [(V.str s.1 s.2, v, ck)]).map (fun e => (e.1, e.2.1)) = (dh s v ps).map (fun p => (V.str p.1.1 p.1.2, p.2))
      | some _ => ∃ e, nth es (ps.findIdx fun p => decide (p.1 = s)) = some e /\ (YS (e.1, v, e.2.2) es (ps.findIdx fun p => decide (p.1 = s))).map (fun e => (e.1, e.2.1)) = (dh s v ps).map (fun p => (V.str p.1.1 p.1.2, p.2)) := by
    intro es
    induction es with
    | nil => intro ps h; cases ps with
      | nil => rfl
      | cons p ps => simp at h
    | cons e es ih =>
      intro ps h
      cases ps with
      | nil => simp at h
      | cons p ps =>
        simp only [List.map_cons, List.cons.injEq, Prod.mk.injEq] at h
        obtain ⟨⟨h1, h2⟩, h3⟩ := h
        have ih := ih ps h3
        by_cases hp : p.1 = s
        · have : wH (p :: ps) s = some p.2 := by simp [wH, hp]
          rw [this]
          refine ⟨e, by simp [List.findIdx_cons, hp], ?_⟩
          simp only [dh, hp, if_true, List.findIdx_cons, decide_true, cond_true]
          show ((e.1, v, e.2.2) :: es).map (fun e => (e.1, e.2.1)) = _
          simp only [List.map_cons, h1, hp, h3]
        · have : wH (p :: ps) s = wH ps s := by simp [wH, hp]
          rw [this]
          cases hl : wH ps s with
          | none =>
            rw [hl] at ih
            simp only [dh, hp, if_false]
            show ((e :: cat es [(V.str s.1 s.2, v, ck)]).map fun e => (e.1, e.2.1)) = _
            simp only [List.map_cons, h1, h2]
            rw [show List.map (fun e => (e.fst, e.snd.fst)) (cat es [(V.str s.1 s.2, v, ck)]) = _ from ih]
          | some x =>
            rw [hl] at ih
            obtain ⟨e', he', hs⟩ := ih
            refine ⟨e', ?_, ?_⟩
            · simp only [List.findIdx_cons, hp, decide_false, cond_false]; exact he'
            · simp only [List.findIdx_cons, hp, decide_false, cond_false, dh, if_false]
              show (e :: YS (e'.1, v, e'.2.2) es _).map (fun e => (e.1, e.2.1)) = _
              simp only [List.map_cons, h1, h2]
              rw [show List.map (fun e => (e.fst, e.snd.fst)) (YS (e'.1, v, e'.2.2) es (List.findIdx (fun p => decide (p.fst = s)) ps)) = _ from hs]
  have key := key es ps he
  cases hl : wH ps s with
  | none =>
    rw [hl] at key
    show Es (some (.map (cat es [(V.str s.1 s.2, v, ck)]) (Nat.succ ck))) (fun b => k .undef (T.set H id b) n)
    rw [WW]
    exact hk _ ⟨_, _, T.Ap .., key⟩ fun j hj => T.Am _ _ (Ne.symm hj)
  | some x =>
    rw [hl] at key
    obtain ⟨e, he', hs⟩ := key
    show Es (BG (nth es (0 + ps.findIdx fun p => decide (p.1 = s))) fun e => some (.map (YS (e.1, v, e.2.2) es (0 + ps.findIdx fun p => decide (p.1 = s))) ck)) (fun b => k .undef (T.set H id b) n)
    rw [Nat.zero_add, he', O7, WW]
    exact hk _ ⟨_, _, T.Ap .., hs⟩ fun j hj => T.Am _ _ (Ne.symm hj)
end Go.Eng
namespace Go.Eng
def ABN (G : AP) : Prop := ∀ b o z L, G b o z = some L -> L.length = z /\ ∀ i m, 0 < m -> i + m <= z -> G b (o + i) m = some ((L.drop i).take m)
theorem AFv (e off m : Nat) (L : LV) : ldC e off m L = if m = e /\ off % e = 0 then some L else if off % e + m <= e then some ((L.drop (off % e)).take m) else none := by
 have e1 : ldC e off m L = Bool.rec (motive := fun _ => Option LV) (Bool.rec none (some (TT m (YA (off % e) L))) (Nat.ble (off % e + m) e)) (some L) (band (Nat.beq m e) (Nat.beq (off % e) 0)) := rfl
 rw [e1, Vr, XZ]
 by_cases h : m = e /\ off % e = 0
 ·have hb : band (Nat.beq m e) (Nat.beq (off % e) 0) = true := by simp only [BR, Bool.and_eq_true, beq_iff]; exact h
  rw [if_pos h, hb]
 ·have hb : band (Nat.beq m e) (Nat.beq (off % e) 0) = false := by rw [Bool.eq_false_iff]; intro hc; simp only [BR, Bool.and_eq_true, beq_iff] at hc; exact h hc
  rw [if_neg h, hb]
  by_cases h2 : off % e + m <= e
  ·rw [if_pos h2, show Nat.ble (off % e + m) e = true by rw [Nat.ble_eq]; exact h2]
  ·rw [if_neg h2, show Nat.ble (off % e + m) e = false by rw [Bool.eq_false_iff]; intro hc; rw [Nat.ble_eq] at hc; exact h2 hc]
theorem AHP {e cnt off m : Nat} {t : T LV} {c : LV} (h : ldB e cnt t off m = some c) : ∃ L, off / e < cnt /\ T.get t (off / e) = some L /\ ldC e off m L = some c := by
 unfold ldB at h
 rw [BM] at h
 obtain ⟨L, h1, h2⟩ := h
 cases hb : Nat.blt (Nat.div off e) cnt with
 | false => rw [hb] at h1; cases h1
 | true => rw [hb] at h1; exact ⟨L, by rw [Nat.blt_eq] at hb; exact hb, h1, h2⟩
theorem AED {H : Heap} {id off z o m : Nat} {c : LV} (h : ZI H id off z = some c) (hc : c.length = z) (hm : 0 < m) (ho : o + m <= z) : ZI H id (off + o) m = some ((c.drop o).take m) := by
 unfold ZI at h ⊢
 cases hb : T.get H id with
 | none => rw [hb] at h; cases h
 | some b =>
  rw [hb] at h
  cases b with
  | map _ _ => cases h
  | dead => cases h
  | arr e cnt t =>
   have h' : ldB e cnt t off z = some c := h
   show ldB e cnt t (off + o) m = _
   obtain ⟨L, h1, h2, h3⟩ := AHP h'
   rw [AFv] at h3
   have key : off % e + z <= e /\ c = (L.drop (off % e)).take z /\ (z = e /\ off % e = 0 -> c = L) := by
    by_cases hh : z = e /\ off % e = 0
    ·rw [if_pos hh] at h3
     cases h3
     rw [hh.2, List.drop_zero, List.take_of_length_le (by omega)]
     exact ⟨by omega, rfl, fun _ => rfl⟩
    ·rw [if_neg hh] at h3
     by_cases h4 : off % e + z <= e
     ·rw [if_pos h4] at h3; exact ⟨h4, (Option.some.inj h3).symm, fun h => absurd h hh⟩
     ·rw [if_neg h4] at h3; cases h3
   obtain ⟨hle, hcc, hcl⟩ := key
   have he : 0 < e := by omega
   have hlt : off % e + o < e := by omega
   have hoff : off + o = e * (off / e) + (off % e + o) := by have := Nat.div_add_mod off e; omega
   have hd : (off + o) / e = off / e := by rw [hoff, Nat.mul_add_div he, Nat.div_eq_of_lt hlt]; omega
   have hmo : (off + o) % e = off % e + o := by rw [hoff, Nat.mul_add_mod, Nat.mod_eq_of_lt hlt]
   unfold ldB
   rw [show Nat.div (off + o) e = off / e from hd, show Nat.blt (off / e) cnt = true by rw [Nat.blt_eq]; exact h1]
   show BG (T.get t (off / e)) (ldC e (off + o) m) = _
   rw [h2, O7, AFv, hmo]
   have hL : z <= (L.drop (off % e)).length := by rw [hcc, List.length_take] at hc; omega
   by_cases hh : m = e /\ off % e + o = 0
   ·rw [if_pos hh, <- hcl ⟨by omega, by omega⟩, show o = 0 by omega, List.drop_zero, List.take_of_length_le (by omega)]
   ·rw [if_neg hh, if_pos (by omega), hcc, List.drop_take, List.take_take, List.drop_drop, Nat.min_eq_left (by omega)]
theorem ADp {G : AP} (hG : ABN G) {H : Heap} {p : V} {z o m : Nat} {c : LV} (h : lH p G H z = some c) (hc : c.length = z) (hm : 0 < m) (ho : o + m <= z) :
    ∃ p', AX o p = some p' /\ lH p' G H m = some ((c.drop o).take m) := by
  cases p <;> try (cases h; done)
  · rename_i id off; exact ⟨_, Aj .., AED h hc hm ho⟩
  · rename_i b off; exact ⟨_, yO .., (hG b off z c h).2 o m hm ho⟩
theorem AFg {G : AP} (hG : ABN G) {H : Heap} {p : V} {z o : Nat} {c : LV} {x : V} (h : lH p G H z = some c) (hc : c.length = z) (ho : c[o]? = some x) :
    ∃ p', AX o p = some p' /\ Aa p' G H = some x := by
  obtain ⟨hlt, he⟩ := List.getElem?_eq_some_iff.1 ho
  obtain ⟨p', h1, h2⟩ := ADp hG h hc (o := o) (m := 1) (by omega) (by omega)
  refine ⟨p', h1, ?_⟩
  rw [oM, h2, zf, Yo, List.getElem?_take]
  simp [ho]
theorem ARP {G : AP} {H : Heap} {n id m z bs : Nat} {t : T LV} {w : V} {LS NS : Dk} {k : KV} (hz : 0 < z) (hb : T.get H id = some (.arr z m t)) (hid : id < n) (h : elems (.sl id 0 m m z) G H z = some LS)
    (hw : elems w G H z = some NS) (hr : (m + NS.length) * bs <= 140737488355328)
    (hk : ∀ v' H' n', El G H' v' z (LS ++ NS) -> (∀ j, j < n -> T.get H' j = T.get H j) -> n <= n' -> (∀ j, v'.Ul = some j -> j < n') -> k v' H' n') : Yq z bs (.sl id 0 m m z) w G H n k := by
  unfold Yq
  rw [hw, WW]
  have h2 : (Bool.rec (motive := fun _ => Option Dk) none (CV H id z m 0) (Nat.beq z z) : Option Dk) = some LS := h
  rw [Dy] at h2
  have h2 : CV H id z m 0 = some LS := h2
  obtain ⟨hl, hat⟩ := Nc _ _ h2
  have e0 : ABr (.sl id 0 m m z) G z bs NS H n k = Bool.rec (motive := fun _ => Prop) (Es (CV H id z m 0) fun OS => La z bs OS NS H n k) (Es (T.get H id) fun b => pU id 0 m m z (m + NS.length) NS H n k b) (Nat.ble (m + NS.length) m) := by
    show Fa (Nat.beq z z) (Cj (Nat.add m (len NS)) fun need => Bool.rec (motive := fun _ => Prop) (Es (CV H id z m 0) fun OS => La z bs OS NS H n k) (Es (T.get H id) fun b => pU id 0 m m z need NS H n k b) (Nat.ble need m)) = _
    rw [Dy, aK, BL, len_eq]; rfl
  rw [e0]
  by_cases hN : NS.length = 0
  · have : NS = [] := List.length_eq_zero_iff.1 hN
    subst this
    rw [show Nat.ble (m + ([] : Dk).length) m = true by rw [Nat.ble_eq]; exact Nat.le_refl _]
    show Es (T.get H id) (fun b => pU id 0 m m z (m + 0) [] H n k b)
    rw [hb, WW]
    show Fa (band (Nat.beq z z) (Nat.ble (Nat.add 0 (m + 0)) m)) (k (.sl id 0 (m + 0) m z) (T.set H id (.arr z m t)) n)
    rw [Dy, show Nat.ble (Nat.add 0 (m + 0)) m = true by rw [Nat.ble_eq]; show 0 + m <= m; omega]
    have hs : ∀ j, T.get (T.set H id (.arr z m t)) j = T.get H j := fun j => by
      rw [T.LJ]; split
      · rename_i e; subst e; exact hb.symm
      · rfl
    rw [List.append_nil] at hk
    exact hk _ _ _ ((show El G H (.sl id 0 m m z) z LS from ⟨rfl, h⟩).same fun j _ => hs j) (fun j _ => hs j) (Nat.le_refl _) (fun j hj => by cases hj; exact hid)
  · rw [show Nat.ble (m + NS.length) m = false by rw [Bool.eq_false_iff]; intro hc; rw [Nat.ble_eq] at hc; omega]
    show Es (CV H id z m 0) (fun OS => La z bs OS NS H n k)
    rw [h2, WW]
    show Cj (Nat.add (len LS) (len NS)) (fun need => Fa (ML need bs) (Cj n fun n => k (.NW n 0 need z) (T.set H n (.arr z need (ED NS (len LS) (ED LS 0 .e)))) (Nat.succ n)))
    rw [BL, BL, len_eq, len_eq, show ML (Nat.add LS.length NS.length) bs = true from VI (by rw [hl]; exact hr), aK]
    have e : Nat.add LS.length NS.length = (LS ++ NS).length := by rw [List.length_append]; rfl
    rw [e]
    refine hk _ _ _ (Gr.el (m := n) (.NW (LS := LS ++ NS) (T.Ap ..) (Nat.le_refl _) (fun i L hi => ?_) (Nat.le_refl _)) hz) (fun j hj => T.Am _ _ (by omega)) (by omega) (fun j hj => by cases hj; omega)
    rw [Dv, Dv]
    by_cases hlt : i < LS.length
    · rw [if_neg (by omega), if_pos ⟨Nat.zero_le _, by omega⟩]
      rw [List.getElem?_append_left hlt] at hi
      exact hi
    · rw [List.getElem?_append_right (by omega)] at hi
      have hlt2 := (List.getElem?_eq_some_iff.1 hi).1
      rw [if_pos ⟨by omega, by omega⟩]; exact hi
theorem AQa {H : Heap} {n : Nat} {P : KV} : CX (ACW E0) H n P = P (.map n) (T.set H n (.map [] 0)) (n + 1) := by
 show Cj n (fun n => P (.map n) (T.set H n (.map [] 0)) (Nat.succ n)) = _
 rw [BL]
theorem ALp {m : Nat} (h : m + 1 < 9223372036854775808) : B2.ev .sub (.int .i64 (.ofNat (m + 1)) 0) (.int .i64 (.ofNat 1) 0) = some (.int .i64 (.ofNat m) 0) := by
 show some (V.int .i64 (PY .i64 (vT (.ofNat (m + 1)) (Int.neg (.ofNat 1)))) 0) = _
 rw [Qh, dQ]
 have e : Int.ofNat (m + 1) + Int.neg (Int.ofNat 1) = Int.ofNat m := by show ((m + 1 : Nat) : Int) + -((1 : Nat) : Int) = (m : Int); omega
 rw [e, VG (by show (-9223372036854775808 : Int) <= (m : Int); omega) (by show (m : Int) < 9223372036854775808; omega)]
end Go.Eng
namespace Go.Eng
open Go.ChangeShapes Go.WideShapes Go.RowKit
inductive Sh where
 | int (k : IntKind) | bool | str | sl (z : Nat) (t : Sh) | st (l : List Sh)
def RSl (v : V) (n : Nat) : Prop := (v = .Ag /\ n = 0) ∨ ∃ b o c, v = .rsl b o n c 0 /\ n <= c /\ c <= maxLen
mutual
def Fits (G : AP) : Sh -> LV -> Prop
 | .int k, vs => ∃ n, vs = [.int k n 0]
 | .bool, vs => ∃ b, vs = [.bool b]
 | .str, vs => ∃ s : List UInt8, s.length <= maxLen /\ vs = [.str s.length (enc s)]
 | .sl z t, vs => ∃ v LS, vs = [v] /\ RSl v LS.length /\ (∀ H, El G H v z LS) /\ LS.length <= maxLen /\ ∀ L ∈ LS, L.length = z /\ Fits G t L
 | .st ts, vs => ADV G ts vs
def ADV (G : AP) : List Sh -> LV -> Prop
 | [], vs => vs = []
 | t :: ts, vs => ∃ L vs', vs = L ++ vs' /\ Fits G t L /\ ADV G ts vs'
end
def iY (P : Program) : Nat -> TypeId -> Option Sh
 | 0, _ => none
 | d + 1, t => match P.underlying t with
  | some (.int k) => some (.int k)
  | some .bool => some .bool
  | some .string => some .str
  | some (.slice e) => if P.cellsOf e = 0 then none else (iY P d e).map (.sl (P.cellsOf e))
  | some (.struct fs) => if bW 0 (fs.toList.map fun f => (f.offset, P.cellsOf f.type)) (P.cellsOf t) = true then (fs.toList.mapM fun f => iY P d f.type).map .st else none
  | _ => none
theorem ACq {W : World} {b o n : Nat} {L : LV} (h : MK W b o n = some L) : L.length = n := by
 unfold MK at h
 split at h
 ·cases h; simp
 ·cases h
theorem AB2 (W : World) : ABN (MK W) := by
 intro b o z L h
 refine ⟨ACq h, fun i m hm hi => ?_⟩
 unfold MK at h ⊢
 split at h
 ·rename_i hc
  cases h
  rw [if_pos]
  ·congr 1
   apply List.ext_getElem?
   intro j
   rw [List.getElem?_take]
   by_cases hj : j < m
   ·rw [if_pos hj, List.getElem?_drop, List.getElem?_map, List.getElem?_map, List.getElem?_range hj, List.getElem?_range (by omega), Option.map_some, Option.map_some, Nat.add_assoc]
   ·rw [if_neg hj, List.getElem?_eq_none (by simp; omega)]
  ·intro j hj
   have := hc (i + j) (by omega)
   rwa [<- Nat.add_assoc] at this
 ·cases h
theorem wJ {G : AP} {b z : Nat} : ∀ (n o : Nat) (LS : Dk), LS.length = n -> (∀ i c, LS[i]? = some c -> G b (o + i * z) z = some c) -> bZ G b z n o = some LS
 | 0, o, LS, hl, _ => by cases LS with | nil => rfl | cons a l => simp at hl
 | n + 1, o, LS, hl, h => by
  cases LS with
  | nil => simp at hl
  | cons a l =>
   show BG (G b o z) (fun L => BG (bZ G b z n (Nat.add o z)) fun LS => some (L :: LS)) = _
   have h0 := h 0 a rfl
   rw [Nat.zero_mul, Nat.add_zero] at h0
   rw [h0, O7, show Nat.add o z = o + z from rfl, wJ n (o + z) l (by simpa using hl) fun i c hc => by
    have := h (i + 1) c (by simpa using hc); rwa [show o + (i + 1) * z = o + z + i * z by rw [Nat.add_mul]; omega] at this]
   rfl
theorem ALw {G : AP} {H : Heap} {b o c z : Nat} {LS : Dk} (h : ∀ i L, LS[i]? = some L -> G b (o + i * z) z = some L) {e : Nat} : El G H (.rsl b o LS.length c e) z LS :=
 ⟨rfl, wJ _ _ _ rfl h⟩
theorem jP {G : AP} : ∀ {ts : List Sh} {ls : List LV}, ACc (fun t l => Fits G t l) ts ls -> ADV G ts ls.flatten
 | _, _, .nil => rfl
 | _, _, .cons h t => ⟨_, _, by simp, h, jP t⟩
theorem xK {α β γ : Type} {f : α -> Option β} {R : β -> γ -> Prop} {g : α -> γ} : ∀ {l : List α} {r : List β}, l.mapM f = some r -> (∀ a b, a ∈ l -> f a = some b -> R b (g a)) -> ACc R r (l.map g)
 | [], r, h, _ => by simp at h; subst h; exact .nil
 | a :: l, r, h, hR => by
  rw [List.mapM_cons] at h
  cases hfa : f a with
  | none => rw [hfa] at h; cases h
  | some b =>
   rw [hfa] at h
   cases hr : l.mapM f with
   | none => simp [hr] at h
   | some r' =>
    simp [hr] at h; subst h
    exact .cons (hR a b (List.mem_cons_self ..) hfa) (xK hr fun a b ha hb => hR a b (List.mem_cons_of_mem _ ha) hb)
theorem mP {w : World} {base n : Nat} {a : Addr} {cs : List Value} (h : w.cells? base a n = some cs) : cs.length = n /\ ∀ j u, cs[j]? = some u -> w.cell? (a.add j) = some u := by
 unfold World.cells? at h
 split at h
 ·have hl := mapM_some_length h
  refine ⟨by simpa using hl, fun j u hj => ?_⟩
  have hlt : j < n := by have := (List.getElem?_eq_some_iff.1 hj).1; simp at hl; omega
  have := mapM_some_get h j j (by rw [List.getElem?_range hlt])
  rw [this, hj]
 ·cases h
theorem AJo {a : Addr} (h : a.spot = none) (k : Nat) : a.add k = ⟨a.block, a.off + k, none⟩ := by
 obtain ⟨b, o, s⟩ := a; cases h; exact add_lit b o k
theorem cell_spot {w : World} {a : Addr} {u : Value} (h : w.cell? a = some u) : a.spot = none := by
 unfold World.cell? at h
 split at h
 ·split at h
  ·cases h
  ·rename_i hs; cases hc : a.spot <;> simp_all
 ·cases h
theorem wR {P : Program} {w : World} {H : Type} {enc' : TypeId × Value -> H} {held : Bool} : ∀ (fuel : Nat) {t : TypeId} {cs : List Value} {x : DataW H × List MemPlace} {m : Nat} {sh : Sh}, DataW.trod enc' P w 0 (fun _ => true) held fuel t cs = some x -> iY P m t = some sh ->
    Fits (MK w) sh (cs.map toV) /\ (∀ u ∈ cs, u.oneCell' = true)
  | 0, _, _, _, _, _, h, _ => by simp [DataW.trod] at h
  | fuel + 1, t, cs, x, 0, sh, h, hs => by cases hs
  | fuel + 1, t, cs, x, m + 1, sh, h, hs => by
    simp only [iY] at hs
    split at hs
    · rename_i k hu
      obtain ⟨i, rfl, e, _⟩ := DataW.trod_int hu h
      cases hs
      exact ⟨⟨i, rfl⟩, fun u hu => by simp at hu; subst hu; rfl⟩
    · rename_i hu
      obtain ⟨i, rfl, e⟩ := DataW.trod_bool hu h
      cases hs
      exact ⟨⟨i, rfl⟩, fun u hu => by simp at hu; subst hu; rfl⟩
    · rename_i hu
      obtain ⟨s, rfl, e, hle⟩ := DataW.trod_string hu h
      cases hs
      exact ⟨⟨s.data.toList, by simpa using hle, rfl⟩, fun u hu => by simp at hu; subst hu; rfl⟩
    · rename_i e hu
      split at hs
      · cases hs
      rename_i hz
      cases hsh : iY P m e with
      | none => rw [hsh] at hs; cases hs
      | some sh' =>
      rw [hsh] at hs
      cases hs
      rcases DataW.trod_slice hu h with ⟨rfl, _⟩ | ⟨a, len, cap, elems, rest, n, hn, rfl, _, _, hle, hcap, hlen, hel, hsp, _⟩
      · refine ⟨⟨.Ag, [], ?_, .inl ⟨rfl, rfl⟩, fun H => ⟨rfl, rfl⟩, Nat.zero_le _, fun L hL => by cases hL⟩, fun u hu => by simp at hu; subst hu; rfl⟩
        simp [toV]
      · have hn' : fuel = n := by omega
        subst hn'
        obtain ⟨hrl, hrest⟩ := hsp rfl
        refine ⟨?_, fun u hu => by simp at hu; subst hu; rfl⟩
        have each : ∀ i, i < cap -> ∃ cs', w.cells? 0 (a.add (i * P.cellsOf e)) (P.cellsOf e) = some cs' /\ (i < len -> Fits (MK w) sh' (cs'.map toV) /\ ∀ u ∈ cs', u.oneCell' = true) := by
          intro i hi
          by_cases hil : i < len
          · have h1 := hel i hil
            rw [List.getElem?_eq_getElem (by omega)] at h1
            cases hc : w.cells? 0 (a.add (i * P.cellsOf e)) (P.cellsOf e) with
            | none => rw [hc] at h1; cases h1
            | some cs' =>
              rw [hc] at h1
              exact ⟨cs', rfl, fun _ => wR fuel h1 hsh⟩
          · have h1 := hrest (i - len) (by omega)
            rw [List.getElem?_eq_getElem (by omega), show len + (i - len) = i by omega] at h1
            cases hc : w.cells? 0 (a.add (i * P.cellsOf e)) (P.cellsOf e) with
            | none => rw [hc] at h1; cases h1
            | some cs' => exact ⟨cs', rfl, fun h => absurd h hil⟩
        have hspot : cap = 0 ∨ a.spot = none := by
          rcases Nat.eq_zero_or_pos cap with h0 | h0
          · exact .inl h0
          · obtain ⟨cs', hc, _⟩ := each 0 h0
            obtain ⟨hl, hg⟩ := mP hc
            have h0 := hg 0 _ (List.getElem?_eq_getElem (by omega))
            have := cell_spot h0
            simp only [Nat.zero_mul] at this
            unfold Addr.add at this
            simp only [if_true] at this
            exact .inr this
        have htv : toV (.slice (some a) len cap) = .rsl a.block a.off len cap 0 := by
          simp only [toV]; rw [if_pos ⟨hle, hspot⟩]
        let LS : Dk := (List.range len).map fun i => ((w.cells? 0 (a.add (i * P.cellsOf e)) (P.cellsOf e)).getD []).map toV
        have hLS : LS.length = len := by simp [LS]
        have get : ∀ i L, LS[i]? = some L -> i < len /\ ∃ cs', w.cells? 0 (a.add (i * P.cellsOf e)) (P.cellsOf e) = some cs' /\ L = cs'.map toV := by
          intro i L hi
          have hlt := (List.getElem?_eq_some_iff.1 hi).1
          rw [hLS] at hlt
          simp only [LS, List.getElem?_map, List.getElem?_range hlt, Option.map_some, Option.some.injEq] at hi
          obtain ⟨cs', hc, _⟩ := each i (by omega)
          rw [hc] at hi
          exact ⟨hlt, cs', hc, hi.symm⟩
        refine ⟨.rsl a.block a.off len cap 0, LS, by simp [htv], .inr ⟨_, _, _, by rw [hLS], by omega, hcap⟩, fun H => ?_, by omega, ?_⟩
        · rw [<- hLS]
          refine ALw fun i L hi => ?_
          obtain ⟨hlt, cs', hc, rfl⟩ := get i L hi
          obtain ⟨hl, hg⟩ := mP hc
          have hsn : a.spot = none := by rcases hspot with h | h; omega; exact h
          obtain ⟨cs2, hc2, hf⟩ := each i (by omega)
          rw [hc] at hc2; cases hc2
          refine oG hl (hf hlt).2 fun j u hj => ?_
          have := hg j u hj
          rw [AJo hsn, add_lit] at this
          exact this
        · intro L hL
          obtain ⟨i, hi⟩ := List.mem_iff_getElem?.1 hL
          obtain ⟨hlt, cs', hc, rfl⟩ := get i L hi
          obtain ⟨cs2, hc2, hf⟩ := each i (by omega)
          rw [hc] at hc2; cases hc2
          exact ⟨by simp [(mP hc).1], (hf hlt).1⟩
    · rename_i fs hu
      split at hs
      · rename_i hcon
        cases hm : fs.toList.mapM (fun f => iY P m f.type) with
        | none => rw [hm] at hs; cases hs
        | some shs =>
        rw [hm] at hs
        cases hs
        obtain ⟨xs, n', hfe, e, hlen, hxl, hel⟩ := DataW.trod_struct hu h
        have hfe' : fuel = n' := by omega
        subst hfe'
        have hflat := WB cs _ 0 (by rw [hlen]; exact hcon)
        simp only [List.drop_zero, List.map_map] at hflat
        have each : ∀ (f : Field) (sh : Sh), f ∈ fs.toList -> iY P m f.type = some sh -> Fits (MK w) sh (((cs.drop f.offset).take (P.cellsOf f.type)).map toV) /\ ∀ u ∈ (cs.drop f.offset).take (P.cellsOf f.type), u.oneCell' = true := by
          intro f sh hf hsh
          obtain ⟨i, hi⟩ := List.mem_iff_getElem?.1 hf
          have h1 := hel i f (by simpa using hi)
          have hil : i < xs.length := by rw [hxl]; simpa using (List.getElem?_eq_some_iff.1 hi).1
          rw [List.getElem?_eq_getElem hil] at h1
          exact wR fuel h1 hsh
        constructor
        · show ADV (MK w) shs _
          have := jP (xK (R := fun t l => Fits (MK w) t l) (g := fun f => ((cs.drop f.offset).take (P.cellsOf f.type)).map toV) hm fun f b hf hb => (each f b hf hb).1)
          have e2 : cs.map toV = (fs.toList.map fun f => ((cs.drop f.offset).take (P.cellsOf f.type)).map toV).flatten := by
            conv => lhs; rw [hflat]
            rw [List.map_flatten, List.map_map]; rfl
          rw [e2]; exact this
        · intro u hu'
          rw [hflat] at hu'
          obtain ⟨l, hl, hul⟩ := List.mem_flatten.1 hu'
          obtain ⟨f, hf, rfl⟩ := List.mem_map.1 hl
          obtain ⟨sh', hsh'⟩ := jS hm f hf
          exact (each f sh' hf hsh').2 u hul
      · cases hs
    · cases hs
def AGV : V -> Bool
 | .int _ _ b => Nat.beq b 0
 | .bool _ => true
 | .str _ _ => true
 | _ => false
theorem ANK {ρ : Loc} {v : V} {u : Value} (h : AV ρ v u) (hp : AGV v = true) : toV u = v := by
 cases v <;> try (cases hp; done)
 ·rename_i k n s
  have : s = 0 := Nat.eq_of_beq_eq_true hp
  subst this
  simp only [AV] at h; subst h; rfl
 ·simp only [AV] at h; subst h; rfl
 ·simp only [AV] at h
  obtain ⟨s, rfl, h1, h2⟩ := h
  subst h1; subst h2; rfl
theorem rD {W : World} {g : Nat} {cs : List Value} {tab : LV} (hc : ∀ i, W.cell? ⟨g, i, none⟩ = cs[i]?) (hr : Bf (fun _ => none) tab cs) (h1 : ∀ u ∈ cs, u.oneCell' = true) (hp : tab.all AGV = true) {o n : Nat} (hl : o + n <= tab.length) :
    MK W g o n = some ((tab.drop o).take n) := by
  obtain ⟨hlen, hget⟩ := (Xi tab cs).1 hr
  rw [oG (cs := (cs.drop o).take n) (by simp; omega) (fun u hu => h1 u (List.mem_of_mem_drop (List.mem_of_mem_take hu))) fun j u hj => ?_]
  · congr 1
    apply List.ext_getElem?
    intro j
    rw [List.getElem?_map, List.getElem?_take, List.getElem?_take]
    by_cases hj : j < n
    · rw [if_pos hj, if_pos hj, List.getElem?_drop, List.getElem?_drop]
      have hlt : o + j < tab.length := by omega
      rw [List.getElem?_eq_getElem hlt, List.getElem?_eq_getElem (by omega), Option.map_some]
      congr 1
      exact ANK (hget _ _ _ (List.getElem?_eq_getElem hlt) (List.getElem?_eq_getElem (by omega))) (List.all_eq_true.1 hp _ (List.getElem_mem hlt))
    · rw [if_neg hj, if_neg hj]; rfl
  · rw [List.getElem?_take] at hj
    split at hj
    · rw [List.getElem?_drop] at hj; rw [hc]; exact hj
    · cases hj
end Go.Eng
namespace Go.Eng
section
variable {e : Option V} {P : V -> Prop} {Q : KV} {t : KV -> Prop} {H : Heap} {n : Nat} {a b : V}
theorem AKu (h : P (.GK [])) : Bq (.bool true) false e P := h
theorem AEi (h : P (.GK [])) : Bq (.bool false) true e P := h
theorem AUp (h : Q (.GK []) H n) : Og (.bool true) false t H n Q := h
theorem AVD (h : Q (.GK []) H n) : Og (.bool false) true t H n Q := h
theorem AN7 (h : P a) : AU (Dc (.bool true) a b) P := h
theorem AEY (h : P b) : AU (Dc (.bool false) a b) P := h
end
end Go.Eng
namespace Go.Eng
def sB (l : List UInt8) : V := .str l.length (enc l)
theorem aj (l : List UInt8) : V9 (sB l) = some (.int .i64 (.ofNat l.length) 0) := rfl
theorem xg {l : List UInt8} {i : Nat} (h : i < l.length) : F8 (sB l) (.int .i64 (.ofNat i) 0) = some (.int .u8 (.ofNat (l[i]).toNat) 0) := by
 show Aq (Nat.blt i l.length) (CQ (AEu (enc l) i) fun b => some (.int .u8 (.ofNat b) 0)) = _
 rw [show Nat.blt i l.length = true by rw [Nat.blt_eq]; exact h, BJ, uG l i h]; rfl
theorem AHh {l : List UInt8} {a b : Nat} (h1 : a <= b) (h2 : b <= l.length) : RF (sB l) E0 (some (.c (.int .i64 (.ofNat a) 0))) (some (.c (.int .i64 (.ofNat b) 0))) = some (sB ((l.drop a).take (b - a))) := by
 show Aq (band (Nat.ble a b) (Nat.ble b l.length)) (CQ (b - a) fun d => CQ (AFk (enc l) a b) fun c => CQ 0 fun _ => some (.str d c)) = _
 rw [show Nat.ble a b = true by rw [Nat.ble_eq]; exact h1, show Nat.ble b l.length = true by rw [Nat.ble_eq]; exact h2, BJ, BJ, BJ, jq]
 have : ((l.drop a).take (b - a)).length = b - a := by rw [List.length_take, List.length_drop]; omega
 show some (V.str (b - a) (enc ((l.drop a).take (b - a)))) = _
 unfold sB; rw [this]
theorem ADB {l : List UInt8} {a : Nat} (h : a <= l.length) : RF (sB l) E0 (some (.c (.int .i64 (.ofNat a) 0))) none = some (sB (l.drop a)) := by
 show Aq (band (Nat.ble a l.length) (Nat.ble l.length l.length)) (CQ (l.length - a) fun d => CQ (AFk (enc l) a l.length) fun c => CQ 0 fun _ => some (.str d c)) = _
 rw [show Nat.ble a l.length = true by rw [Nat.ble_eq]; exact h, show Nat.ble l.length l.length = true by rw [Nat.ble_eq]; exact Nat.le_refl _, BJ, BJ, BJ, jq]
 have e : (l.drop a).take (l.length - a) = l.drop a := List.take_of_length_le (by rw [List.length_drop]; omega)
 rw [e]
 have : (l.drop a).length = l.length - a := by rw [List.length_drop]
 show some (V.str (l.length - a) (enc (l.drop a))) = _
 unfold sB; rw [this]
theorem ASz {l : List UInt8} {b : Nat} (h : b <= l.length) : RF (sB l) E0 none (some (.c (.int .i64 (.ofNat b) 0))) = some (sB (l.take b)) := by
 show Aq (band (Nat.ble 0 b) (Nat.ble b l.length)) (CQ (b - 0) fun d => CQ (AFk (enc l) 0 b) fun c => CQ 0 fun _ => some (.str d c)) = _
 rw [show Nat.ble 0 b = true by rw [Nat.ble_eq]; omega, show Nat.ble b l.length = true by rw [Nat.ble_eq]; exact h, BJ, BJ, BJ, jq]
 have : ((l.drop 0).take (b - 0)).length = b - 0 := by rw [List.length_take, List.length_drop]; omega
 show some (V.str (b - 0) (enc ((l.drop 0).take (b - 0)))) = _
 unfold sB; rw [List.drop_zero, Nat.sub_zero, show (l.take b).length = b by rw [List.length_take]; omega]
theorem AFy (a b : List UInt8) : (a.length = b.length /\ enc a = enc b) ↔ a = b := ⟨fun h => yx a b h.1 h.2, fun h => by subst h; exact ⟨rfl, rfl⟩⟩
theorem AE9 (a b : List UInt8) : Ig (.one .str) false (sB a) (sB b) = some (.bool (decide (a = b))) := by
 unfold sB; rw [ATM]; congr 2; rw [decide_eq_decide]; exact AFy a b
theorem AS2 (a b : List UInt8) : Ig (.one .str) true (sB a) (sB b) = some (.bool (!decide (a = b))) := by
 show ofB (WL (some (band (Nat.beq a.length b.length) (Nat.beq (enc a) (enc b)))) fun b => some (UL b)) = _
 have : band (Nat.beq a.length b.length) (Nat.beq (enc a) (enc b)) = decide (a = b) := by rw [BR, Bool.eq_iff_iff, decide_eq_true_iff, <- AFy]; simp
 rw [this]; cases decide (a = b) <;> rfl
theorem Qx {a b : List UInt8} (h : a.length + b.length < 9223372036854775808) : B2.ev .add (sB a) (sB b) = some (sB (a ++ b)) := by
 show Aq (Nat.blt (a.length + b.length) 9223372036854775808) (CQ (a.length + b.length) fun n => CQ (ANT a.length (enc a) (enc b)) fun e => some (.str n e)) = _
 rw [show Nat.blt (a.length + b.length) 9223372036854775808 = true by rw [Nat.blt_eq]; exact h, BJ, BJ, ABm]
 unfold sB; rw [List.length_append]; rfl
theorem ASw (l : List UInt8) : XF (sB l) = true := rfl
theorem AU3 (l : List UInt8) : BK (sB l) = [sB l] := rfl
theorem ARy (l : List UInt8) (H : Heap) (n : Nat) (P : KV) : CX (JC (sB l)) H n P = P (.ptr n 0) (T.set H n (one [sB l])) (n + 1) := VP rfl
def kJ (b : Nat) : List UInt8 -> Nat -> Int
 | [], _ => .negSucc 0
 | c :: l, i => bif decide (c.toNat = b) then .ofNat i else kJ b l (i + 1)
theorem og (b : Nat) : ∀ (l : List UInt8) (i : Nat), Wu b l.length (enc l) i = kJ b l i
 | [], i => rfl
 | c :: l, i => by
  have ha : c.toNat < 256 := c.toNat_lt
  have e1 : enc (c :: l) % 256 = c.toNat := by simp only [enc]; omega
  have e2 : enc (c :: l) / 256 = enc l := by simp only [enc]; omega
  have e : Wu b (c :: l).length (enc (c :: l)) i = Bool.rec (Wu b l.length (enc (c :: l) / 256) (i + 1)) (.ofNat i) (Nat.beq (enc (c :: l) % 256) b) := rfl
  rw [e, e1, e2, og b l (i + 1)]
  rw [show kJ b (c :: l) i = bif decide (c.toNat = b) then .ofNat i else kJ b l (i + 1) from rfl]
  by_cases h : c.toNat = b
  ·rw [show Nat.beq c.toNat b = true by rw [beq_iff]; exact h]; simp [h]
  ·rw [show Nat.beq c.toNat b = false by rw [Bool.eq_false_iff]; intro hc; rw [beq_iff] at hc; exact h hc]; simp [h]
theorem ATR {l : List UInt8} {b : Nat} (hb : b < 256) : AC8 (sB l) (.int .u8 (.ofNat b) 0) = some (.int .i64 (kJ b l 0) 0) := by
 show Aq true (Aq (Nat.blt b 256) (Iy (Wu b l.length (enc l) 0) fun i => some (.int .i64 i 0))) = _
 rw [show Nat.blt b 256 = true by rw [Nat.blt_eq]; exact hb, og]; rfl
def MN (l : List UInt8) : Dk := l.map fun c => [.int .u8 (.ofNat c.toNat) 0]
theorem ug : ∀ l : List UInt8, PW l.length (enc l) = MN l
 | [] => rfl
 | c :: l => by
  have ha : c.toNat < 256 := c.toNat_lt
  have e1 : enc (c :: l) % 256 = c.toNat := by simp only [enc]; omega
  have e2 : enc (c :: l) / 256 = enc l := by simp only [enc]; omega
  show [V.int .u8 (.ofNat (enc (c :: l) % 256)) 0] :: PW l.length (enc (c :: l) / 256) = _
  rw [e1, e2, ug l]; rfl
theorem AJ3 {G : AP} {l : List UInt8} {H : Heap} {n : Nat} {k : KV} (h : ∀ H' v, Kp H n H' (n + 1) -> El G H' v 1 (MN l) -> k v H' (n + 1)) : AMY (sB l) H n k := by
 show Cj n fun n => k (.NW n 0 l.length 1) (T.set H n (.arr 1 l.length (ED (PW l.length (enc l)) 0 .e))) (Nat.succ n)
 rw [BL, ug]
 have hl : (MN l).length = l.length := List.length_map ..
 refine h _ _ ((Kp.refl H n).new _ (Nat.le_refl _) (by omega)) ?_
 rw [<- hl]
 refine Gr.el (m := n) (.NW (LS := MN l) (T.Ap ..) (Nat.le_refl _) (fun i L hi => ?_) (Nat.le_refl _)) (by omega)
 have hlt := (List.getElem?_eq_some_iff.1 hi).1
 rw [Dv, if_pos ⟨Nat.zero_le _, by omega⟩]; exact hi
end Go.Eng
namespace Go.Eng
theorem AVt (b : Bool) (x : V) (P : V -> Prop) : Bq (.bool b) true (some x) P = P (bif b then x else .GK []) := by cases b <;> rfl
theorem AVQ (b : Bool) (x : V) (P : V -> Prop) : Bq (.bool b) false (some x) P = P (bif b then .GK [] else x) := by cases b <;> rfl
theorem AQZ (b : Bool) (x y : V) : Dc (.bool b) x y = some (bif b then x else y) := by cases b <;> rfl
theorem Rn (b : Bool) : XI (.bool b) = some (.bool (!b)) := APd b
theorem ZJ (q : IntKind) (a b : Nat) : B2.ev .geq (.int q (.ofNat a) 0) (.int q (.ofNat b) 0) = some (.bool (decide (b <= a))) := by
 show Aq (band (keq q q) true) (mkB (ile (.ofNat b) (.ofNat a))) = _
 rw [Z8, ACD, show band (keq q q) true = true by simp [Rf], show decide (Int.ofNat b <= Int.ofNat a) = decide (b <= a) by rw [decide_eq_decide]; show (b : Int) <= a ↔ _; omega]; rfl
theorem o9 (q : IntKind) (a b : Nat) : B2.ev .leq (.int q (.ofNat a) 0) (.int q (.ofNat b) 0) = some (.bool (decide (a <= b))) := by
 show Aq (band (keq q q) true) (mkB (ile (.ofNat a) (.ofNat b))) = _
 rw [Z8, ACD, show band (keq q q) true = true by simp [Rf], show decide (Int.ofNat a <= Int.ofNat b) = decide (a <= b) by rw [decide_eq_decide]; show (a : Int) <= b ↔ _; omega]; rfl
theorem jm (q : IntKind) (a b : Nat) : B2.ev .gtr (.int q (.ofNat a) 0) (.int q (.ofNat b) 0) = some (.bool (decide (b < a))) := by
 show Aq (band (keq q q) true) (mkB (ilt (.ofNat b) (.ofNat a))) = _
 rw [Z8, Yg, show band (keq q q) true = true by simp [Rf], show decide (Int.ofNat b < Int.ofNat a) = decide (b < a) by rw [decide_eq_decide]; show (b : Int) < a ↔ _; omega]; rfl
theorem Q8 (q : IntKind) (a b : Nat) : B2.ev .lss (.int q (.ofNat a) 0) (.int q (.ofNat b) 0) = some (.bool (decide (a < b))) := by
 show Aq (band (keq q q) true) (mkB (ilt (.ofNat a) (.ofNat b))) = _
 rw [Z8, Yg, show band (keq q q) true = true by simp [Rf], show decide (Int.ofNat a < Int.ofNat b) = decide (a < b) by rw [decide_eq_decide]; show (a : Int) < b ↔ _; omega]; rfl
theorem AOC (q : IntKind) (x y : Int) : Ig (.one .int) false (.int q x 0) (.int q y 0) = some (.bool (decide (x = y))) := by
 have e : Ig (.one .int) false (.int q x 0) (.int q y 0) = ofB (WL (some (ieq x y)) fun b => some b) := by cases q <;> rfl
 rw [e, Qg, show (x == y) = decide (x = y) by rw [Bool.eq_iff_iff]; simp]; cases decide (x = y) <;> rfl
theorem APS (q : IntKind) (x y : Int) : Ig (.one .int) true (.int q x 0) (.int q y 0) = some (.bool (!decide (x = y))) := by
 have e : Ig (.one .int) true (.int q x 0) (.int q y 0) = ofB (WL (some (ieq x y)) fun b => some (UL b)) := by cases q <;> rfl
 rw [e, Qg, show (x == y) = decide (x = y) by rw [Bool.eq_iff_iff]; simp]; cases decide (x = y) <;> rfl
theorem Xq (q : IntKind) (x y : Nat) : Ig (.one .int) false (.int q (.ofNat x) 0) (.int q (.ofNat y) 0) = some (.bool (decide (x = y))) := by
 rw [AOC]; congr 2; rw [decide_eq_decide]; show (x : Int) = y ↔ _; omega
theorem eG (q : IntKind) (x y : Nat) : Ig (.one .int) true (.int q (.ofNat x) 0) (.int q (.ofNat y) 0) = some (.bool (!decide (x = y))) := by
 rw [APS]; congr 3; rw [decide_eq_decide]; show (x : Int) = y ↔ _; omega
theorem AHE (t : Int) {m : Nat} (hm : m < 9223372036854775808) : B2.ev .and (.int .i64 t 0) (.int .i64 (.ofNat m) 0) = some (.int .i64 (.ofNat (qH t m)) 0) := by
 show Aq true (Iy (AFT .i64 t (.ofNat m)) fun m => some (.int .i64 m 0)) = _
 rw [wK t hm]; rfl
theorem APM (u : Nat) {m : Nat} (hm : 0 < m) : B2.ev .rem (.int .i64 (.ofNat u) 0) (.int .i64 (.ofNat m) 0) = some (.int .i64 (.ofNat (u % m)) 0) := by
 show Aq (band true (band true (UL (ieq (.ofNat m) 0)))) (mkN .i64 (Int.tmod (.ofNat u) (.ofNat m)) 0) = _
 have : ieq (.ofNat m) 0 = false := by rw [Qg]; simp; omega
 rw [this]
 show Iy (Int.tmod (.ofNat u) (.ofNat m)) (fun m => some (.int .i64 m 0)) = _
 rw [Jo]; rfl
theorem Kq {a b : Nat} (h : a + b < 9223372036854775808) : B2.ev .add (.int .i64 (.ofNat a) 0) (.int .i64 (.ofNat b) 0) = some (.int .i64 (.ofNat (a + b)) 0) := by
 show some (V.int .i64 (PY .i64 (vT (.ofNat a) (.ofNat b))) 0) = _
 rw [Qh, dQ, VG (by simp; omega) (by simp; omega)]; rfl
theorem xE {a b : Nat} (hb : b <= a) (h : a < 9223372036854775808) : B2.ev .sub (.int .i64 (.ofNat a) 0) (.int .i64 (.ofNat b) 0) = some (.int .i64 (.ofNat (a - b)) 0) := by
 show some (V.int .i64 (PY .i64 (vT (.ofNat a) (Int.neg (.ofNat b)))) 0) = _
 rw [Qh, dQ]
 have e : Int.ofNat a + Int.neg (Int.ofNat b) = Int.ofNat (a - b) := by show (a : Int) + -(b : Int) = ((a - b : Nat) : Int); omega
 rw [e, VG (by show (-9223372036854775808 : Int) <= ((a - b : Nat) : Int); omega) (by show ((a - b : Nat) : Int) < 9223372036854775808; omega)]
theorem qw {d : V} {f : Nat} {a c args : List V} {H : Heap} {n : Nat} {k : KV} : lN d (.fn f a c) args H n k = k (.GK (.fn f (cat a args) c :: cZ d)) H n := rfl
theorem dW {f : Nat} {a c args : List V} {call : AQ} {H : Heap} {n : Nat} {k : KV} : Vl (.fn f a c) args call H n k = call f (cat a (cat args c)) H n k := rfl
def Lo (v : V) (n : Nat) : Prop := ∀ id, v.Ul = some id -> id < n
theorem El.kp {G : AP} {H H' : Heap} {v : V} {z n n' : Nat} {LS : Dk} (h : El G H v z LS) (hl : Lo v n) (f : Kp H n H' n') : El G H' v z LS := h.same fun id hid => f.same id (hl id hid)
theorem Lo.mono {v : V} {n n' : Nat} (h : Lo v n) (hn : n <= n') : Lo v n' := fun id hid => Nat.lt_of_lt_of_le (h id hid) hn
theorem AMm {n : Nat} : Lo .Ag n := fun _ h => by cases h
theorem AB9 {G : AP} {H : Heap} {z : Nat} : El G H .Ag z [] := ⟨rfl, rfl⟩
structure Kx (b : Nat) (H : Heap) (n : Nat) (H' : Heap) (n' : Nat) : Prop where
 le : n <= n'
 same : ∀ id, id < n -> id ≠ b -> T.get H' id = T.get H id
section
variable {b : Nat} {H H' H'' : Heap} {n n' n'' : Nat}
theorem Kx.refl (b : Nat) (H : Heap) (n : Nat) : Kx b H n H n := ⟨Nat.le_refl _, fun _ _ _ => rfl⟩
theorem Kx.trans (x : Kx b H n H' n') (y : Kx b H' n' H'' n'') : Kx b H n H'' n'' := ⟨Nat.le_trans x.le y.le, fun id h hb => (y.same id (Nat.lt_of_lt_of_le h x.le) hb).trans (x.same id h hb)⟩
theorem Kx.get {id : Nat} {B : Np} (f : Kx b H n H' n') (h : T.get H id = some B) (hi : id < n) (hb : id ≠ b) : T.get H' id = some B := (f.same id hi hb).trans h
theorem Kp.kx (f : Kp H n H' n') : Kx b H n H' n' := ⟨f.le, fun id h _ => f.same id h⟩
theorem Kx.set (B : Np) : Kx b H n (T.set H b B) n := ⟨Nat.le_refl _, fun _ _ h => T.Am _ _ (Ne.symm h)⟩
theorem Kx.low {m : Nat} (f : Kx b H n H' n') (hm : m <= n) : Kx b H m H' n' := ⟨Nat.le_trans hm f.le, fun id h hb => f.same id (Nat.lt_of_lt_of_le h hm) hb⟩
theorem Kx.kp {m : Nat} (f : Kx b H n H' n') (hm : m <= b) (h2 : m <= n) : Kp H m H' n' := ⟨Nat.le_trans h2 f.le, fun id h => f.same id (by omega) (by omega)⟩
theorem El.kx {G : AP} {v : V} {z : Nat} {LS : Dk} (h : El G H v z LS) (hl : Lo v n) (hb : v.Ul ≠ some b) (f : Kx b H n H' n') : El G H' v z LS := h.same fun id hid => f.same id (hl id hid) fun e => hb (e ▸ hid)
end
structure Own (G : AP) (H : Heap) (m n : Nat) (z : Nat) (v : V) (LS : Dk) : Prop where
 gr : Gr G H m z v LS
 lo : Lo v n
section
variable {G : AP} {H H' : Heap} {m n n' b z : Nat} {v : V} {LS : Dk}
theorem Own.el (h : Own G H m n z v LS) (hz : 0 < z) : El G H v z LS := h.gr.el hz
theorem Own.ge (h : Own G H m n z v LS) {id : Nat} (hid : v.Ul = some id) : m <= id := (h.gr.lo hid).1
theorem Own.kx (h : Own G H m n z v LS) (f : Kx b H n H' n') (hb : b < m) : Own G H' m n' z v LS :=
 ⟨h.gr.mono fun id hid => f.same id (h.lo id hid) (by have := (h.gr.lo hid).1; omega), h.lo.mono f.le⟩
theorem Own.kp (h : Own G H m n z v LS) (f : Kp H n H' n') : Own G H' m n' z v LS := ⟨h.gr.mono fun id hid => f.same id (h.lo id hid), h.lo.mono f.le⟩
theorem dN : Own G H m n z .Ag [] := ⟨.nil, AMm⟩
end
def qx : Nat -> List V -> List (Nat × X)
 | _, [] => []
 | i, v :: vs => (i, .c v) :: qx (i + 1) vs
theorem AR2 {e c i : Nat} {t : T LV} {L : LV} (he : 0 < e) (hi : i < c) (h : T.get t i = some L) {H : Heap} {id : Nat} (hg : T.get H id = some (.arr e c t)) : ZI H id (i * e) e = some L := (qX hg he hi).trans h
theorem uJ {z m : Nat} : ∀ (vs : List V) (i : Nat), i + vs.length <= m -> (∀ v ∈ vs, XF v = true /\ (BK v).length = z) -> OD (qx i vs) E0 z m = true
 | [], _, _, _ => rfl
 | v :: vs, i, h, hv => by
  show band (band (XF v) (band (Nat.blt i m) (Nat.beq (len (BK v)) z))) (OD (qx (i + 1) vs) E0 z m) = true
  obtain ⟨h1, h2⟩ := hv v (List.mem_cons_self ..)
  rw [h1, len_eq, h2, show Nat.blt i m = true by rw [Nat.blt_eq]; simp at h; omega, Dy, uJ vs (i + 1) (by simp at h; omega) fun w hw => hv w (List.mem_cons_of_mem _ hw)]; rfl
theorem xM : ∀ (vs : List V) (i : Nat) (t : T LV) (j : Nat), T.get (Vh (qx i vs) E0 t) j = if i <= j /\ j < i + vs.length then (vs[j - i]?).map BK else T.get t j
 | [], i, t, j => by rw [if_neg (by simp)]; rfl
 | v :: vs, i, t, j => by
  show T.get (Vh (qx (i + 1) vs) E0 (T.set t i (BK v))) j = _
  rw [xM vs (i + 1)]
  by_cases h1 : i + 1 <= j /\ j < i + 1 + vs.length
  ·rw [if_pos h1, if_pos (by rw [List.length_cons]; omega)]
   rw [show j - i = (j - (i + 1)) + 1 by omega, List.getElem?_cons_succ]
  ·rw [if_neg h1, T.LJ]
   by_cases h2 : i = j
   ·subst h2; rw [if_pos (by simp)]; simp
   ·rw [if_neg h2, if_neg (by rw [List.length_cons]; omega)]
theorem NJ {G : AP} {z m : Nat} {Z : LV} {vs : List V} {H : Heap} {n : Nat} {P : KV} (hm : vs.length = m) (hz : 0 < z) (hv : ∀ v ∈ vs, XF v = true /\ (BK v).length = z)
    (h : ∀ H', Kp H n H' (n + 1) -> (∃ t, T.get H' n = some (.arr z m t)) -> El G H' (.sl n 0 m m z) z (vs.map BK) -> P (.sl n 0 m m z) H' (n + 1)) : CX (Ah z m Z (qx 0 vs) E0) H n P := by
  show Fa (OD (qx 0 vs) E0 z m) (Cj n fun n => P (.sl n 0 m m z) (T.set H n (.arr z m (Vh (qx 0 vs) E0 (ACx Z m .e)))) (Nat.succ n))
  rw [uJ vs 0 (by omega) hv, aK, BL]
  refine h _ ((Kp.refl H n).new _ (Nat.le_refl _) (by omega)) ⟨_, T.Ap ..⟩ ⟨rfl, ?_⟩
  show (Bool.rec (motive := fun _ => Option Dk) none (CV _ n z m 0) (Nat.beq z z) : Option Dk) = _
  rw [Dy]
  refine dO _ _ _ (by simp [hm]) fun i c hc => ?_
  have hlt : i < m := by have := (List.getElem?_eq_some_iff.1 hc).1; simp at this; omega
  rw [Nat.zero_add, qX (T.Ap ..) hz hlt, xM, if_pos ⟨by omega, by omega⟩, Nat.sub_zero]
  simpa using hc
theorem AJZ {id o m z : Nat} : zU z (.NW id o (m + 1) z) E0 (some (.c (.int .i64 (.ofNat 1) 0))) none none = some (.NW id (o + 1) m z) := by
 show Aq (Nat.beq z z) (Aq (band (Nat.ble 1 (m + 1)) (Nat.ble (m + 1) (m + 1))) (f3 (o + 1) (m + 1 - 1) 0 fun o d _ => .NW id o d z)) = _
 rw [Dy, show Nat.ble 1 (m + 1) = true by rw [Nat.ble_eq]; omega, show Nat.ble (m + 1) (m + 1) = true by rw [Nat.ble_eq]; omega]
 show CQ (o + 1) (fun a => CQ (m + 1 - 1) fun b => CQ 0 fun _ => some (.NW id a b z)) = _
 rw [BJ, BJ, BJ]; rfl
theorem AGk {G : AP} {H : Heap} {id o m z : Nat} {LS : Dk} (h : El G H (.NW id o m z) z LS) : CV H id z m o = some LS := by
 have h2 : (Bool.rec (motive := fun _ => Option Dk) none (CV H id z m o) (Nat.beq z z) : Option Dk) = some LS := h.2
 rw [Dy] at h2; exact h2
theorem AMN {G : AP} {H : Heap} {id o m z : Nat} {LS : Dk} (h : CV H id z m o = some LS) : El G H (.NW id o m z) z LS := by
 refine ⟨rfl, ?_⟩
 show (Bool.rec (motive := fun _ => Option Dk) none (CV H id z m o) (Nat.beq z z) : Option Dk) = some LS
 rw [Dy]; exact h
theorem AGl {G : AP} {H : Heap} {id o m z : Nat} {L : LV} {LS : Dk} (h : El G H (.NW id o (m + 1) z) z (L :: LS)) : El G H (.NW id (o + 1) m z) z LS := by
 have h2 := AGk h
 have h3 : BG (ZI H id (Nat.mul o z) z) (fun L => BG (CV H id z m (Nat.succ o)) fun LS => some (L :: LS)) = some (L :: LS) := h2
 rw [BM] at h3
 obtain ⟨L', _, h3⟩ := h3
 rw [BM] at h3
 obtain ⟨LS', h4, h3⟩ := h3
 cases h3
 exact AMN h4
inductive Pw {α β : Type} (R : α -> β -> Prop) : List α -> List β -> Prop where
 | nil : Pw R [] []
 | cons {a b l m} (h : R a b) (t : Pw R l m) : Pw R (a :: l) (b :: m)
section
variable {α β : Type} {R S : α -> β -> Prop}
theorem Pw.len : ∀ {l : List α} {m : List β}, Pw R l m -> l.length = m.length
 | _, _, .nil => rfl
 | _, _, .cons _ t => by simp [t.len]
theorem Pw.app : ∀ {l l' : List α} {m m' : List β}, Pw R l m -> Pw R l' m' -> Pw R (l ++ l') (m ++ m')
 | _, _, _, _, .nil, h => h
 | _, _, _, _, .cons h t, h' => .cons h (t.app h')
theorem Pw.imp (f : ∀ a b, R a b -> S a b) : ∀ {l : List α} {m : List β}, Pw R l m -> Pw S l m
 | _, _, .nil => .nil
 | _, _, .cons h t => .cons (f _ _ h) (t.imp f)
theorem Pw.at : ∀ {l : List α} {m : List β} (_ : Pw R l m) {i : Nat} {b : β}, m[i]? = some b -> ∃ a, l[i]? = some a /\ R a b
 | _, _, .nil, i, b, h => by simp at h
 | _, _, .cons h t, 0, b, hb => by simp at hb; subst hb; exact ⟨_, rfl, h⟩
 | _, _, .cons h t, i + 1, b, hb => by simp at hb; simpa using t.at hb
end
end Go.Eng
namespace Go.Eng
theorem AIq {H : Heap} {id e c i : Nat} {t : T LV} {L new : LV} (hg : T.get H id = some (.arr e c t)) (he : 0 < e) (hi : i < c) (ht : T.get t i = some L) : stH H id (i * e) e new = some (T.set H id (.arr e c (T.set t i new))) := by
 unfold stH
 rw [hg]
 show BG (stB e c t (i * e) e new) _ = _
 unfold stB
 have hd : Nat.div (i * e) e = i := Nat.mul_div_cancel i he
 have hm : Nat.mod (i * e) e = 0 := Nat.mul_mod_left i e
 rw [hd, show Nat.blt i c = true by rw [Nat.blt_eq]; exact hi]
 show BG (BG (T.get t i) (vO new e c t (i * e) e)) _ = _
 rw [ht, O7]
 unfold vO
 rw [hd, hm, Dy]
 rfl
theorem APw {H : Heap} {id e c i n : Nat} {t : T LV} {L : LV} {v : V} {P : KV} (hg : T.get H id = some (.arr e c t)) (he : 0 < e) (hi : i < c) (ht : T.get t i = some L) (hv : XF v = true) (hn : (BK v).length = e)
    (h : ∀ H', T.get H' id = some (.arr e c (T.set t i (BK v))) -> (∀ j, j ≠ id -> T.get H' j = T.get H j) -> P .undef H' n) : Bd e (.ptr id (i * e)) v H n P := by
  unfold Bd
  rw [hv, len_eq, hn, Dy, show stP (.ptr id (i * e)) H e (BK v) = stH H id (i * e) e (BK v) from rfl, AIq hg he hi ht]
  exact h _ (T.Ap ..) fun j hj => T.Am _ _ (Ne.symm hj)
theorem APO {id o m c z i : Nat} {q : IntKind} (h : i < m) : BU z (.sl id o m c z) (.int q (.ofNat i) 0) = some (.ptr id ((o + i) * z)) := by
 show Aq (band (Nat.beq z z) (Nat.blt i m)) (CQ (Nat.mul (Nat.add o i) z) fun o => some (.ptr id o)) = _
 rw [Dy, show Nat.blt i m = true by rw [Nat.blt_eq]; exact h, BJ]; rfl
theorem ASl {id o m z i : Nat} {q : IntKind} (h : i < m) : BU z (.NW id o m z) (.int q (.ofNat i) 0) = some (.ptr id ((o + i) * z)) := by
 show Aq (band (Nat.beq z z) (Nat.blt i m)) (CQ (Nat.mul (Nat.add o i) z) fun o => some (.ptr id o)) = _
 rw [Dy, show Nat.blt i m = true by rw [Nat.blt_eq]; exact h, BJ]; rfl
def dn : Nat -> Nat -> List UInt8
 | 0, _ => []
 | l + 1, x => dn l (x / 10) ++ [UInt8.ofNat (48 + x % 10)]
def nZ : Nat -> Nat -> Nat
 | 0, _ => 1
 | f + 1, x => if x < 10 then 1 else nZ f (x / 10) + 1
def U5 (x : Nat) : List UInt8 := dn (nZ 20 x) x
theorem SV : ∀ l x, (dn l x).length = l
 | 0, _ => rfl
 | l + 1, x => by unfold dn; rw [List.length_append, SV]; rfl
theorem ADl : ∀ (l x p : Nat), p < l -> (dn l x)[p]? = some (UInt8.ofNat (48 + x / 10 ^ (l - 1 - p) % 10))
 | 0, _, _, h => by omega
 | l + 1, x, p, h => by
  unfold dn
  by_cases hp : p < l
  ·rw [List.getElem?_append_left (by rw [SV]; exact hp), ADl l (x / 10) p hp, Nat.div_div_eq_div_mul]
   congr 5
   rw [show l + 1 - 1 - p = (l - 1 - p) + 1 by omega, Nat.pow_succ, Nat.mul_comm]
  ·obtain rfl : p = l := by omega
   rw [List.getElem?_append_right (by rw [SV]; omega), SV, Nat.sub_self, show p + 1 - 1 - p = 0 by omega]
   simp
theorem YW : ∀ f x, 1 <= nZ f x
 | 0, _ => Nat.le_refl 1
 | f + 1, x => by unfold nZ; split <;> omega
theorem dP : ∀ (f x d : Nat), x < 10 ^ f -> 1 <= d -> (d = nZ f x ↔ (x < 10 ^ d /\ (d = 1 ∨ 10 ^ (d - 1) <= x)))
 | 0, x, d, h, hd => by
  have : x = 0 := by simp at h; exact h
  subst this
  unfold nZ
  constructor
  ·rintro rfl; exact ⟨by decide, .inl rfl⟩
  ·rintro ⟨_, h | h⟩
   ·exact h
   ·have : 0 < 10 ^ (d - 1) := Nat.pow_pos (by decide); omega
 | f + 1, x, d, h, hd => by
  unfold nZ
  by_cases hx : x < 10
  ·rw [if_pos hx]
   constructor
   ·rintro rfl; exact ⟨hx, .inl rfl⟩
   ·rintro ⟨_, h | h⟩
    ·exact h
    ·by_cases h1 : d = 1
     ·exact h1
     ·have : 10 ^ 1 <= 10 ^ (d - 1) := Nat.pow_le_pow_right (by decide) (by omega)
      omega
  ·rw [if_neg hx]
   have hdiv : x / 10 < 10 ^ f := by rw [Nat.div_lt_iff_lt_mul (by decide)]; rw [Nat.pow_succ] at h; exact h
   by_cases h1 : d = 1
   ·subst h1
    have := YW f (x / 10)
    constructor
    ·intro h; omega
    ·rintro ⟨h, _⟩; omega
   ·have ih := dP f (x / 10) (d - 1) hdiv (by omega)
    have e1 : d = nZ f (x / 10) + 1 ↔ d - 1 = nZ f (x / 10) := by omega
    rw [e1, ih]
    obtain ⟨k, rfl⟩ : ∃ k, d = k + 2 := ⟨d - 2, by omega⟩
    have e2 : k + 2 - 1 = k + 1 := by omega
    have e3 : k + 1 - 1 = k := by omega
    rw [e2, e3]
    have p2 : x / 10 < 10 ^ (k + 1) ↔ x < 10 ^ (k + 2) := by rw [Nat.div_lt_iff_lt_mul (by decide), <- Nat.pow_succ]
    have p1 : 10 ^ k <= x / 10 ↔ 10 ^ (k + 1) <= x := by rw [Nat.le_div_iff_mul_le (by decide), <- Nat.pow_succ]
    rw [p2, p1]
    constructor
    ·rintro ⟨a, b | b⟩
     ·have hk : k = 0 := by omega
      subst hk
      exact ⟨a, .inr (by simpa using Nat.not_lt.1 hx)⟩
     ·exact ⟨a, .inr b⟩
    ·rintro ⟨a, b | b⟩
     ·omega
     ·exact ⟨a, .inr b⟩
end Go.Eng
namespace Go.Eng
def AEc : IntKind -> Nat
 | .u8 => 256 | .u32 => 4294967296 | .u64 => 18446744073709551616 | .i64 => 9223372036854775808 | _ => 0
theorem AIO {q : IntKind} {a : Nat} (h : a < AEc q) : inr q (.ofNat a) = true := by
 cases q <;> first | (exact absurd h (Nat.not_lt_zero a)) | (show Nat.blt a _ = true; rw [Nat.blt_eq]; exact h)
theorem ji {q : IntKind} {a : Nat} (h : a < AEc q) : PY q (.ofNat a) = .ofNat a := by
 unfold PY; rw [AIO h]
theorem AA8 (q : IntKind) : keq q q = true := by cases q <;> rfl
theorem AK0 {q : IntKind} {a b : Nat} (h : a + b < AEc q) : B2.ev .add (.int q (.ofNat a) 0) (.int q (.ofNat b) 0) = some (.int q (.ofNat (a + b)) 0) := by
 have e : B2.ev .add (.int q (.ofNat a) 0) (.int q (.ofNat b) 0) = some (V.int q (PY q (vT (.ofNat a) (.ofNat b))) 0) := by cases q <;> rfl
 rw [e, dQ, show (Int.ofNat a + Int.ofNat b) = Int.ofNat (a + b) from rfl, ji h]
theorem ACE {q : IntKind} {a b : Nat} (h : a * b < AEc q) : B2.ev .mul (.int q (.ofNat a) 0) (.int q (.ofNat b) 0) = some (.int q (.ofNat (a * b)) 0) := by
 have e : B2.ev .mul (.int q (.ofNat a) 0) (.int q (.ofNat b) 0) = some (V.int q (PY q (Int.mul (.ofNat a) (.ofNat b))) 0) := by cases q <;> rfl
 rw [e, show Int.mul (Int.ofNat a) (Int.ofNat b) = Int.ofNat (a * b) from rfl, ji h]
theorem ADA {q : IntKind} (a : Nat) {m : Nat} (hm : 0 < m) : B2.ev .rem (.int q (.ofNat a) 0) (.int q (.ofNat m) 0) = some (.int q (.ofNat (a % m)) 0) := by
 have : ieq (.ofNat m) 0 = false := by rw [Qg]; simp; omega
 show Aq (band (keq q q) (band true (UL (ieq (.ofNat m) 0)))) (mkN q (Int.tmod (.ofNat a) (.ofNat m)) 0) = _
 rw [this, AA8]
 show Iy (Int.tmod (.ofNat a) (.ofNat m)) (fun m => some (.int q m 0)) = _
 rw [Jo]; rfl
theorem ACV {q : IntKind} {a m : Nat} (ha : a < AEc q) (hm : 0 < m) : B2.ev .quo (.int q (.ofNat a) 0) (.int q (.ofNat m) 0) = some (.int q (.ofNat (a / m)) 0) := by
 have : ieq (.ofNat m) 0 = false := by rw [Qg]; simp; omega
 show Aq (band (keq q q) (band true (UL (ieq (.ofNat m) 0)))) (mkI q (Int.tdiv (.ofNat a) (.ofNat m)) 0) = _
 rw [this, AA8]
 show mkI q (Int.tdiv (.ofNat a) (.ofNat m)) 0 = _
 rw [show Int.tdiv (Int.ofNat a) (Int.ofNat m) = Int.ofNat (a / m) from rfl]
 show some (V.int q (PY q (.ofNat (a / m))) 0) = _
 rw [ji (Nat.lt_of_le_of_lt (Nat.div_le_self ..) ha)]
theorem cvq {q r : IntKind} {a : Nat} (h : a < AEc q) : V6 q (.int r (.ofNat a) 0) = some (.int q (.ofNat a) 0) := by
 show some (V.int q (PY q (.ofNat a)) 0) = _
 rw [ji h]
theorem AH2 {q r : IntKind} {a b : Nat} (hb : b <= o7 q) : B2.ev .shr (.int q (.ofNat a) 0) (.int r (.ofNat b) 0) = some (.int q (.ofNat (a / 2 ^ b)) 0) := by
 show Aq (band (UL (ilt (.ofNat b) 0)) true) (Iy (AMb (.ofNat a) (Nat.min (Int.toNat (.ofNat b)) (o7 q))) fun m => some (.int q m 0)) = _
 rw [show ilt (.ofNat b) 0 = false from rfl, Jo, show Nat.min (Int.toNat (.ofNat b)) (o7 q) = b from Nat.min_eq_left hb]
 show some (V.int q (Int.fdiv (a : Int) ((2 ^ b : Nat) : Int)) 0) = _
 rw [<- Int.ofNat_fdiv]; rfl
theorem AXC (a : Int) : V6 .u64 (.int .i64 a 0) = some (.int .u64 (IntKind.wrap .u64 a) 0) := by
 show mkI .u64 a 0 = _
 rw [vK]
theorem AUa (a : Int) {m : Nat} (hm : 0 < m) : B2.ev .rem (.int .u64 (IntKind.wrap .u64 a) 0) (.int .u64 (.ofNat m) 0) = some (.int .u64 (.ofNat (umod a m)) 0) := by
 show Aq (band true (band true (UL (ieq (.ofNat m) 0)))) (mkN .u64 (Int.tmod (IntKind.wrap .u64 a) (.ofNat m)) 0) = _
 have : ieq (.ofNat m) 0 = false := by rw [Qg]; simp; omega
 rw [this]
 show Iy (Int.tmod (IntKind.wrap .u64 a) (.ofNat m)) (fun m => some (.int .u64 m 0)) = _
 rw [Jo]
 exact congrArg (fun z => some (V.int .u64 z 0)) (umod_eq a m)
theorem ALa {l : List UInt8} {i : Nat} {q : IntKind} (h : i < l.length) : F8 (sB l) (.int q (.ofNat i) 0) = some (.int .u8 (.ofNat (l[i]).toNat) 0) := by
 show Aq (Nat.blt i l.length) (CQ (AEu (enc l) i) fun b => some (.int .u8 (.ofNat b) 0)) = _
 rw [show Nat.blt i l.length = true by rw [Nat.blt_eq]; exact h, BJ, uG l i h]; rfl
theorem AG4 {x : Nat} (h : x < 256) : Go.Eng.byteOf (.int .u8 (.ofNat x) 0) = some x := by
 show Bool.rec (motive := fun _ => Option Nat) none (some x) (band true (band (Nat.blt x 256) true)) = _
 rw [show Nat.blt x 256 = true by rw [Nat.blt_eq]; exact h]; rfl
theorem pF : ∀ l : List UInt8, jY (MN l) = some (enc l)
 | [] => rfl
 | c :: l => by
  show BG (Go.Eng.byteOf (.int .u8 (.ofNat c.toNat) 0)) (fun m => BG (jY (MN l)) fun e => some (m + 256 * e)) = _
  rw [AG4 c.toNat_lt, O7, pF l]; rfl
theorem AGg {G : AP} {H : Heap} {v : V} {l : List UInt8} (h : El G H v 1 (MN l)) : ACe v G H = some (sB l) := by
 unfold ACe
 rw [h.1, h.2, O7, pF, O7]
 show CQ (len (MN l)) (fun a => CQ (enc l) fun b => CQ 0 fun _ => some (.str a b)) = _
 rw [BJ, BJ, BJ, len_eq]
 show some (V.str (MN l).length (enc l)) = _
 rw [show (MN l).length = l.length from List.length_map ..]; rfl
theorem AEE {id n a b : Nat} {q r : IntKind} (h1 : a <= b) (h2 : b <= n) : oV n 1 (.ptr id 0) (some (.c (.int q (.ofNat a) 0))) (some (.c (.int r (.ofNat b) 0))) = some (.sl id a (b - a) (n - a) 1) := by
 show Aq (band (Nat.beq (Nat.mod 0 1) 0) (band (Nat.ble a b) (Nat.ble b n))) (f3 (Nat.add (Nat.div 0 1) a) (Nat.sub b a) (Nat.sub n a) fun x y c => .sl id x y c 1) = _
 rw [show Nat.ble a b = true by rw [Nat.ble_eq]; exact h1, show Nat.ble b n = true by rw [Nat.ble_eq]; exact h2]
 show CQ (0 / 1 + a) (fun x => CQ (b - a) fun y => CQ (n - a) fun c => some (.sl id x y c 1)) = _
 rw [BJ, BJ, BJ, Nat.zero_div, Nat.zero_add]
end Go.Eng
