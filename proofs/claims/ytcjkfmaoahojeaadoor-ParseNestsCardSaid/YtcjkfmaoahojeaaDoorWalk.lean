/- Part of a proof: texts En60 En61 En62 En63 En64 En65 En66 En67 En68 of the engine and what is proved with it; nothing is assumed. -/
import Derived.Test.YtcjkfmaoahojeaaDoorEngF
import Derived.Attr
import Derived.Test.YtcjkfmaoahojeaaDoorEngE
set_option linter.unusedVariables false
set_option linter.unusedSimpArgs false
/- The engine, part 60: how plain functions of values are walked, with memory that isn't known. -/
namespace Go.Eng
section
variable {G : Roms} {H : Heap} {id off m : Nat} {L : LV} {v : V}
theorem ld1_one (h : T.get H id = some (one L)) (hl : L[off]? = some v) : ld1V (.ptr id off) G H = some v := by
  obtain ⟨hlt, he⟩ := List.getElem?_eq_some_iff.1 hl
  rw [s_ld1, ldP_ptr, ld_one h (by omega) (by omega), s_lbind, nth_eq]
  rw [List.getElem?_take]
  simp [hl]
theorem ldn_one (h : T.get H id = some (one L)) (hm : 0 < m) (hl : off + m ≤ L.length) : ldnV m (.ptr id off) G H = some (.agg ((L.drop off).take m)) := by
  rw [s_ldn, ldP_ptr, ld_one h hm hl, s_lbind]
theorem stV_one {n : Nat} {k : KV} (h : T.get H id = some (one L)) (hv : okC v = true) (hn : (vcells v).length = m) (hm : 0 < m) (hl : off + m ≤ L.length) :
    stV m (.ptr id off) v H n k = k .undef (T.set H id (one (L.take off ++ (vcells v ++ L.drop (off + m))))) n := by
  have hs : stP (.ptr id off) H m (vcells v) = some (T.set H id (one (L.take off ++ (vcells v ++ L.drop (off + m))))) := st_one h hm hn hl
  unfold stV
  rw [hv, len_eq, hn]
  have hb : band true (Nat.beq m m) = true := by simp
  rw [hb, hs]; rfl
theorem ldn_all (h : T.get H id = some (one L)) (hm : 0 < m) (hl : L.length = m) : ldnV m (.ptr id 0) G H = some (.agg L) := by
  rw [ldn_one h hm (by omega), List.drop_zero, List.take_of_length_le (by omega)]
theorem stV_all {n : Nat} {k : KV} {L' : LV} (h : T.get H id = some (one L)) (hm : 0 < m) (hl : L.length = m) (hn : L'.length = m) :
    stV m (.ptr id 0) (.agg L') H n k = k .undef (T.set H id (one L')) n := by
  rw [stV_one h (by rfl) (by exact hn) hm (by omega)]
  have : L.take 0 ++ (vcells (.agg L') ++ L.drop (0 + m)) = L' := by
    show [] ++ (L' ++ L.drop (0 + m)) = L'
    rw [List.drop_eq_nil_of_le (by omega)]; simp
  rw [this]
theorem getVs_nil : getVs [] G H = some [] := rfl
theorem getVs_t {rest : List AVr} : getVs (.t v :: rest) G H = gbind (getVs rest G H) fun vs => some (v :: vs) := rfl
theorem getVs_cn {rest : List AVr} (h : T.get H id = some (one L)) (hm : 0 < m) (hl : L.length = m) : getVs (.cn (.ptr id 0) m :: rest) G H = gbind (getVs rest G H) fun vs => some (.agg L :: vs) := by
  show gbind (ldnV m (.ptr id 0) G H) (fun v => gbind (getVs rest G H) fun vs => some (v :: vs)) = _
  rw [ldn_all h hm hl]; rfl
end
/- slices of memory that was there -/
structure SL (G : Roms) (v : V) (z : Nat) (LS : LLV) : Prop where
  mk' ::
  is : (v = .nils ∧ LS = []) ∨ ∃ b off cap, v = .rsl b off LS.length cap z ∧ ∀ i c, LS[i]? = some c → c.length = z ∧ G b (off + i * z) z = some c
theorem SL.len {G : Roms} {v : V} {z : Nat} {LS : LLV} (h : SL G v z LS) : lenV v = some (.int .i64 (.ofNat LS.length) 0) := by
  rcases h.is with ⟨rfl, rfl⟩ | ⟨b, off, cap, rfl, _⟩ <;> rfl
theorem SL.at {G : Roms} {v : V} {z : Nat} {LS : LLV} (h : SL G v z LS) {i : Nat} {c : LV} (hi : LS[i]? = some c) :
    ∃ p, iaddrV z v (.int .i64 (.ofNat i) 0) = some p ∧ (∀ H, ldnV z p G H = some (.agg c)) ∧ c.length = z := by
  obtain ⟨hlt, _⟩ := List.getElem?_eq_some_iff.1 hi
  rcases h.is with ⟨rfl, rfl⟩ | ⟨b, off, cap, rfl, hG⟩
  · simp at hlt
  · obtain ⟨hz, hg⟩ := hG i c hi
    refine ⟨.gptr b (off + i * z), ?_, fun H => ?_, hz⟩
    · show guardO (Nat.blt i LS.length) (forceN (Nat.add off (Nat.mul i z)) fun o => some (.gptr b o)) = _
      have : Nat.blt i LS.length = true := by rw [Nat.blt_eq]; exact hlt
      rw [this, forceN_eq]; rfl
    · show lbind (G b (off + i * z) z) (fun L => some (.agg L)) = _
      rw [hg]; rfl
theorem s_gbind {α β : Type} (a : α) (f : α → Option β) : gbind (some a) f = f a := rfl
theorem oneV1 (a : V) : oneV [a] = a := rfl
theorem oneV2 (a b : V) (l : LV) : oneV (a :: b :: l) = .tup (a :: b :: l) := rfl
theorem eq_s (a b l c : Nat) : eqV (.one .str) false (.str a b) (.str l c) = some (.bool (decide (a = l ∧ b = c))) := by
  show ofB (bbind (some (band (Nat.beq a l) (Nat.beq b c))) fun b => some b) = _
  have : band (Nat.beq a l) (Nat.beq b c) = decide (a = l ∧ b = c) := by rw [band_eq, Bool.eq_iff_iff]; simp
  rw [this]; cases decide (a = l ∧ b = c) <;> rfl
theorem add_i {i : Nat} (h : i + 1 < 9223372036854775808) : B2.ev .add (.int .i64 (.ofNat i) 0) (.int .i64 (.ofNat 1) 0) = some (.int .i64 (.ofNat (i + 1)) 0) := by
  show some (V.int .i64 (wrapI .i64 (iadd (.ofNat i) (.ofNat 1))) 0) = _
  rw [wrapI_eq, iadd_eq, wrap64_id (by simp; omega) (by simp; omega)]; rfl
/- what was there stays -/
structure Kp (H : Heap) (n : Nat) (H' : Heap) (n' : Nat) : Prop where
  le : n ≤ n'
  same : ∀ id, id < n → T.get H' id = T.get H id
theorem Kp.refl (H : Heap) (n : Nat) : Kp H n H n := ⟨Nat.le_refl _, fun _ _ => rfl⟩
theorem Kp.trans {H H' H'' : Heap} {n n' n'' : Nat} (a : Kp H n H' n') (b : Kp H' n' H'' n'') : Kp H n H'' n'' := ⟨Nat.le_trans a.le b.le, fun id h => (b.same id (Nat.lt_of_lt_of_le h a.le)).trans (a.same id h)⟩
theorem Kp.new {H0 H : Heap} {n0 n id : Nat} (a : Kp H0 n0 H n) (b : Blk) (h : n0 ≤ id) {m : Nat} (hm : n ≤ m) : Kp H0 n0 (T.set H id b) m :=
  ⟨Nat.le_trans a.le hm, fun j hj => by rw [T.get_set_ne _ _ (by omega)]; exact a.same j hj⟩
/- loops: by a measure -/
theorem lfp_rule {σ : Type} {b : (σ → Prop) → σ → Prop} {J : Nat → σ → Prop} (h : ∀ I m s, J m s → (∀ m' s', m' < m → J m' s' → I s') → b I s) {m : Nat} {s : σ} (h0 : J m s) : lfp σ b s := by
  intro I hI
  induction m using Nat.strongRecOn generalizing s with
  | _ m ih => exact hI s (h I m s h0 fun m' s' hlt hs => ih m' hlt hs)
end Go.Eng

/- The engine, part 61: steps as rewriting. -/
namespace Go.Eng
section
variable {G : Roms} {H : Heap} {i j o m n : Nat} {L L' : LV} {v w : V} {k : KV} {b : Blk}
theorem w_box {P : KV} (h : okC v = true) : onA (aBoxV v) H n P = P (.ptr n 0) (T.set H n (one (vcells v))) (n + 1) := s_box h
theorem w_alloc {z : Nat} {P : KV} (h : L.length = z) : onA (aAlloc z [L] E0) H n P = P (.ptr n 0) (T.set H n (one L)) (n + 1) := s_alloc h
theorem w_ld1 (h : L[o]? = some v) : ld1V (.ptr i o) G (T.set H i (one L)) = some v := ld1_one (T.get_set ..) h
theorem w_ld1h : ld1V (.ptr i 0) G (T.set H i (one (v :: L))) = some v := w_ld1 rfl
theorem w_ldn (hl : L.length = m) (h : 0 < m) : ldnV m (.ptr i 0) G (T.set H i (one L)) = some (.agg L) := ldn_all (T.get_set ..) h hl
theorem T.one_ext {α : Type} {t t' : T α} (h : T.getp .h t = T.getp .h t') : True := trivial
theorem ld1_ne (h : i ≠ j) : ld1V (.ptr i o) G (T.set H j b) = ld1V (.ptr i o) G H := by
  rw [s_ld1, s_ld1, ldP_ptr, ldP_ptr]; unfold ldH; rw [T.get_set_ne _ _ (Ne.symm h)]
theorem ldn_ne (h : i ≠ j) : ldnV m (.ptr i o) G (T.set H j b) = ldnV m (.ptr i o) G H := by
  rw [s_ldn, s_ldn, ldP_ptr, ldP_ptr]; unfold ldH; rw [T.get_set_ne _ _ (Ne.symm h)]
theorem w_st (hl : L.length = m) (h : 0 < m) (hn : L'.length = m) : stV m (.ptr i 0) (.agg L') (T.set H i (one L)) n k = k .undef (T.set (T.set H i (one L)) i (one L')) n := stV_all (T.get_set ..) h hl hn
end
theorem okC_agg (L : LV) : okC (.agg L) = true := rfl
theorem okC_str (l c : Nat) : okC (.str l c) = true := rfl
theorem okC_int (k : IntKind) (a : Int) (s : Nat) : okC (.int k a s) = true := rfl
theorem okC_bool (b : Bool) : okC (.bool b) = true := rfl
theorem vc_agg (L : LV) : vcells (.agg L) = L := rfl
theorem vc_str (l c : Nat) : vcells (.str l c) = [.str l c] := rfl
theorem vc_int (k : IntKind) (a : Int) (s : Nat) : vcells (.int k a s) = [.int k a s] := rfl
theorem vc_bool (b : Bool) : vcells (.bool b) = [.bool b] := rfl
theorem w_boxA (L : LV) (H : Heap) (n : Nat) (P : KV) : onA (aBoxV (.agg L)) H n P = P (.ptr n 0) (T.set H n (one L)) (n + 1) := s_box rfl
theorem w_boxS (l c : Nat) (H : Heap) (n : Nat) (P : KV) : onA (aBoxV (.str l c)) H n P = P (.ptr n 0) (T.set H n (one [.str l c])) (n + 1) := s_box rfl
theorem w_stS {i o m : Nat} {H : Heap} {L : LV} {n : Nat} {k : KV} (l c : Nat) (h : o < L.length) : stV 1 (.ptr i o) (.str l c) (T.set H i (one L)) n k = k .undef (T.set (T.set H i (one L)) i (one (L.take o ++ ([.str l c] ++ L.drop (o + 1))))) n := stV_one (T.get_set ..) rfl rfl (by omega) (by omega)
theorem w_boxI (q : IntKind) (a : Int) (s : Nat) (H : Heap) (n : Nat) (P : KV) : onA (aBoxV (.int q a s)) H n P = P (.ptr n 0) (T.set H n (one [.int q a s])) (n + 1) := s_box rfl
theorem w_stI {i o m : Nat} {H : Heap} {L : LV} {n : Nat} {k : KV} (q : IntKind) (a : Int) (s : Nat) (h : o < L.length) : stV 1 (.ptr i o) (.int q a s) (T.set H i (one L)) n k = k .undef (T.set (T.set H i (one L)) i (one (L.take o ++ ([.int q a s] ++ L.drop (o + 1))))) n := stV_one (T.get_set ..) rfl rfl (by omega) (by omega)
theorem w_boxB (b : Bool) (H : Heap) (n : Nat) (P : KV) : onA (aBoxV (.bool b)) H n P = P (.ptr n 0) (T.set H n (one [.bool b])) (n + 1) := s_box rfl
theorem w_stB {i o m : Nat} {H : Heap} {L : LV} {n : Nat} {k : KV} (b : Bool) (h : o < L.length) : stV 1 (.ptr i o) (.bool b) (T.set H i (one L)) n k = k .undef (T.set (T.set H i (one L)) i (one (L.take o ++ ([.bool b] ++ L.drop (o + 1))))) n := stV_one (T.get_set ..) rfl rfl (by omega) (by omega)
theorem w_boxN  (H : Heap) (n : Nat) (P : KV) : onA (aBoxV .nils) H n P = P (.ptr n 0) (T.set H n (one [.nils])) (n + 1) := s_box rfl
theorem w_stN {i o m : Nat} {H : Heap} {L : LV} {n : Nat} {k : KV}  (h : o < L.length) : stV 1 (.ptr i o) .nils (T.set H i (one L)) n k = k .undef (T.set (T.set H i (one L)) i (one (L.take o ++ ([.nils] ++ L.drop (o + 1))))) n := stV_one (T.get_set ..) rfl rfl (by omega) (by omega)
theorem w_boxR (b o l c z : Nat) (H : Heap) (n : Nat) (P : KV) : onA (aBoxV (.rsl b o l c z)) H n P = P (.ptr n 0) (T.set H n (one [.rsl b o l c z])) (n + 1) := s_box rfl
theorem w_stR {i o m : Nat} {H : Heap} {L : LV} {n : Nat} {k : KV} (b o l c z : Nat) (h : o < L.length) : stV 1 (.ptr i o) (.rsl b o l c z) (T.set H i (one L)) n k = k .undef (T.set (T.set H i (one L)) i (one (L.take o ++ ([.rsl b o l c z] ++ L.drop (o + 1))))) n := stV_one (T.get_set ..) rfl rfl (by omega) (by omega)
theorem w_boxL (b o l c z : Nat) (H : Heap) (n : Nat) (P : KV) : onA (aBoxV (.sl b o l c z)) H n P = P (.ptr n 0) (T.set H n (one [.sl b o l c z])) (n + 1) := s_box rfl
theorem w_stL {i o m : Nat} {H : Heap} {L : LV} {n : Nat} {k : KV} (b o l c z : Nat) (h : o < L.length) : stV 1 (.ptr i o) (.sl b o l c z) (T.set H i (one L)) n k = k .undef (T.set (T.set H i (one L)) i (one (L.take o ++ ([.sl b o l c z] ++ L.drop (o + 1))))) n := stV_one (T.get_set ..) rfl rfl (by omega) (by omega)
theorem w_boxG (b o l z : Nat) (H : Heap) (n : Nat) (P : KV) : onA (aBoxV (.gsl b o l z)) H n P = P (.ptr n 0) (T.set H n (one [.gsl b o l z])) (n + 1) := s_box rfl
theorem w_stG {i o m : Nat} {H : Heap} {L : LV} {n : Nat} {k : KV} (b o l z : Nat) (h : o < L.length) : stV 1 (.ptr i o) (.gsl b o l z) (T.set H i (one L)) n k = k .undef (T.set (T.set H i (one L)) i (one (L.take o ++ ([.gsl b o l z] ++ L.drop (o + 1))))) n := stV_one (T.get_set ..) rfl rfl (by omega) (by omega)
theorem w_boxP (i o : Nat) (H : Heap) (n : Nat) (P : KV) : onA (aBoxV (.ptr i o)) H n P = P (.ptr n 0) (T.set H n (one [.ptr i o])) (n + 1) := s_box rfl
theorem w_stP {i o m : Nat} {H : Heap} {L : LV} {n : Nat} {k : KV} (i o : Nat) (h : o < L.length) : stV 1 (.ptr i o) (.ptr i o) (T.set H i (one L)) n k = k .undef (T.set (T.set H i (one L)) i (one (L.take o ++ ([.ptr i o] ++ L.drop (o + 1))))) n := stV_one (T.get_set ..) rfl rfl (by omega) (by omega)
theorem w_boxQ (i o : Nat) (H : Heap) (n : Nat) (P : KV) : onA (aBoxV (.gptr i o)) H n P = P (.ptr n 0) (T.set H n (one [.gptr i o])) (n + 1) := s_box rfl
theorem w_stQ {i o m : Nat} {H : Heap} {L : LV} {n : Nat} {k : KV} (i o : Nat) (h : o < L.length) : stV 1 (.ptr i o) (.gptr i o) (T.set H i (one L)) n k = k .undef (T.set (T.set H i (one L)) i (one (L.take o ++ ([.gptr i o] ++ L.drop (o + 1))))) n := stV_one (T.get_set ..) rfl rfl (by omega) (by omega)
theorem w_boxZ  (H : Heap) (n : Nat) (P : KV) : onA (aBoxV .nilp) H n P = P (.ptr n 0) (T.set H n (one [.nilp])) (n + 1) := s_box rfl
theorem w_stZ {i o m : Nat} {H : Heap} {L : LV} {n : Nat} {k : KV}  (h : o < L.length) : stV 1 (.ptr i o) .nilp (T.set H i (one L)) n k = k .undef (T.set (T.set H i (one L)) i (one (L.take o ++ ([.nilp] ++ L.drop (o + 1))))) n := stV_one (T.get_set ..) rfl rfl (by omega) (by omega)
theorem w_boxM (i : Nat) (H : Heap) (n : Nat) (P : KV) : onA (aBoxV (.map i)) H n P = P (.ptr n 0) (T.set H n (one [.map i])) (n + 1) := s_box rfl
theorem w_stM {i o m : Nat} {H : Heap} {L : LV} {n : Nat} {k : KV} (i : Nat) (h : o < L.length) : stV 1 (.ptr i o) (.map i) (T.set H i (one L)) n k = k .undef (T.set (T.set H i (one L)) i (one (L.take o ++ ([.map i] ++ L.drop (o + 1))))) n := stV_one (T.get_set ..) rfl rfl (by omega) (by omega)
theorem ne_1 (n : Nat) : n ≠ n + 1 := by omega
theorem en_1 (n : Nat) : n + 1 ≠ n := by omega
theorem ne_2 (n : Nat) : n ≠ n + 1 + 1 := by omega
theorem en_2 (n : Nat) : n + 1 + 1 ≠ n := by omega
theorem ne_3 (n : Nat) : n ≠ n + 1 + 1 + 1 := by omega
theorem en_3 (n : Nat) : n + 1 + 1 + 1 ≠ n := by omega
theorem ne_4 (n : Nat) : n ≠ n + 1 + 1 + 1 + 1 := by omega
theorem en_4 (n : Nat) : n + 1 + 1 + 1 + 1 ≠ n := by omega
theorem ne_5 (n : Nat) : n ≠ n + 1 + 1 + 1 + 1 + 1 := by omega
theorem en_5 (n : Nat) : n + 1 + 1 + 1 + 1 + 1 ≠ n := by omega
theorem ne_6 (n : Nat) : n ≠ n + 1 + 1 + 1 + 1 + 1 + 1 := by omega
theorem en_6 (n : Nat) : n + 1 + 1 + 1 + 1 + 1 + 1 ≠ n := by omega
theorem ne_7 (n : Nat) : n ≠ n + 1 + 1 + 1 + 1 + 1 + 1 + 1 := by omega
theorem en_7 (n : Nat) : n + 1 + 1 + 1 + 1 + 1 + 1 + 1 ≠ n := by omega
theorem ne_8 (n : Nat) : n ≠ n + 1 + 1 + 1 + 1 + 1 + 1 + 1 + 1 := by omega
theorem en_8 (n : Nat) : n + 1 + 1 + 1 + 1 + 1 + 1 + 1 + 1 ≠ n := by omega
theorem ne_9 (n : Nat) : n ≠ n + 1 + 1 + 1 + 1 + 1 + 1 + 1 + 1 + 1 := by omega
theorem en_9 (n : Nat) : n + 1 + 1 + 1 + 1 + 1 + 1 + 1 + 1 + 1 ≠ n := by omega
theorem ne_10 (n : Nat) : n ≠ n + 1 + 1 + 1 + 1 + 1 + 1 + 1 + 1 + 1 + 1 := by omega
theorem en_10 (n : Nat) : n + 1 + 1 + 1 + 1 + 1 + 1 + 1 + 1 + 1 + 1 ≠ n := by omega
theorem ne_11 (n : Nat) : n ≠ n + 1 + 1 + 1 + 1 + 1 + 1 + 1 + 1 + 1 + 1 + 1 := by omega
theorem en_11 (n : Nat) : n + 1 + 1 + 1 + 1 + 1 + 1 + 1 + 1 + 1 + 1 + 1 ≠ n := by omega
theorem ne_12 (n : Nat) : n ≠ n + 1 + 1 + 1 + 1 + 1 + 1 + 1 + 1 + 1 + 1 + 1 + 1 := by omega
theorem en_12 (n : Nat) : n + 1 + 1 + 1 + 1 + 1 + 1 + 1 + 1 + 1 + 1 + 1 + 1 ≠ n := by omega
theorem ne_13 (n : Nat) : n ≠ n + 1 + 1 + 1 + 1 + 1 + 1 + 1 + 1 + 1 + 1 + 1 + 1 + 1 := by omega
theorem en_13 (n : Nat) : n + 1 + 1 + 1 + 1 + 1 + 1 + 1 + 1 + 1 + 1 + 1 + 1 + 1 ≠ n := by omega
theorem ne_14 (n : Nat) : n ≠ n + 1 + 1 + 1 + 1 + 1 + 1 + 1 + 1 + 1 + 1 + 1 + 1 + 1 + 1 := by omega
theorem en_14 (n : Nat) : n + 1 + 1 + 1 + 1 + 1 + 1 + 1 + 1 + 1 + 1 + 1 + 1 + 1 + 1 ≠ n := by omega
theorem w_ld1_0 {G : Roms} {H : Heap} {i : Nat} {L : LV} {v : V} : ld1V (.ptr i 0) G (T.set H i (one (v :: L))) = some v := w_ld1 rfl
theorem w_ld1_1 {G : Roms} {H : Heap} {i : Nat} {L : LV} {a0 v : V} : ld1V (.ptr i 1) G (T.set H i (one (a0 :: v :: L))) = some v := w_ld1 rfl
theorem w_ld1_2 {G : Roms} {H : Heap} {i : Nat} {L : LV} {a0 a1 v : V} : ld1V (.ptr i 2) G (T.set H i (one (a0 :: a1 :: v :: L))) = some v := w_ld1 rfl
theorem w_ld1_3 {G : Roms} {H : Heap} {i : Nat} {L : LV} {a0 a1 a2 v : V} : ld1V (.ptr i 3) G (T.set H i (one (a0 :: a1 :: a2 :: v :: L))) = some v := w_ld1 rfl
theorem w_ld1_4 {G : Roms} {H : Heap} {i : Nat} {L : LV} {a0 a1 a2 a3 v : V} : ld1V (.ptr i 4) G (T.set H i (one (a0 :: a1 :: a2 :: a3 :: v :: L))) = some v := w_ld1 rfl
theorem w_ld1_5 {G : Roms} {H : Heap} {i : Nat} {L : LV} {a0 a1 a2 a3 a4 v : V} : ld1V (.ptr i 5) G (T.set H i (one (a0 :: a1 :: a2 :: a3 :: a4 :: v :: L))) = some v := w_ld1 rfl
theorem w_ld1_6 {G : Roms} {H : Heap} {i : Nat} {L : LV} {a0 a1 a2 a3 a4 a5 v : V} : ld1V (.ptr i 6) G (T.set H i (one (a0 :: a1 :: a2 :: a3 :: a4 :: a5 :: v :: L))) = some v := w_ld1 rfl
theorem w_ld1_7 {G : Roms} {H : Heap} {i : Nat} {L : LV} {a0 a1 a2 a3 a4 a5 a6 v : V} : ld1V (.ptr i 7) G (T.set H i (one (a0 :: a1 :: a2 :: a3 :: a4 :: a5 :: a6 :: v :: L))) = some v := w_ld1 rfl
theorem w_ld1_8 {G : Roms} {H : Heap} {i : Nat} {L : LV} {a0 a1 a2 a3 a4 a5 a6 a7 v : V} : ld1V (.ptr i 8) G (T.set H i (one (a0 :: a1 :: a2 :: a3 :: a4 :: a5 :: a6 :: a7 :: v :: L))) = some v := w_ld1 rfl
theorem w_ld1_9 {G : Roms} {H : Heap} {i : Nat} {L : LV} {a0 a1 a2 a3 a4 a5 a6 a7 a8 v : V} : ld1V (.ptr i 9) G (T.set H i (one (a0 :: a1 :: a2 :: a3 :: a4 :: a5 :: a6 :: a7 :: a8 :: v :: L))) = some v := w_ld1 rfl
theorem w_ld1_10 {G : Roms} {H : Heap} {i : Nat} {L : LV} {a0 a1 a2 a3 a4 a5 a6 a7 a8 a9 v : V} : ld1V (.ptr i 10) G (T.set H i (one (a0 :: a1 :: a2 :: a3 :: a4 :: a5 :: a6 :: a7 :: a8 :: a9 :: v :: L))) = some v := w_ld1 rfl
theorem w_ld1_11 {G : Roms} {H : Heap} {i : Nat} {L : LV} {a0 a1 a2 a3 a4 a5 a6 a7 a8 a9 a10 v : V} : ld1V (.ptr i 11) G (T.set H i (one (a0 :: a1 :: a2 :: a3 :: a4 :: a5 :: a6 :: a7 :: a8 :: a9 :: a10 :: v :: L))) = some v := w_ld1 rfl
theorem w_ld1_12 {G : Roms} {H : Heap} {i : Nat} {L : LV} {a0 a1 a2 a3 a4 a5 a6 a7 a8 a9 a10 a11 v : V} : ld1V (.ptr i 12) G (T.set H i (one (a0 :: a1 :: a2 :: a3 :: a4 :: a5 :: a6 :: a7 :: a8 :: a9 :: a10 :: a11 :: v :: L))) = some v := w_ld1 rfl
theorem w_ld1_13 {G : Roms} {H : Heap} {i : Nat} {L : LV} {a0 a1 a2 a3 a4 a5 a6 a7 a8 a9 a10 a11 a12 v : V} : ld1V (.ptr i 13) G (T.set H i (one (a0 :: a1 :: a2 :: a3 :: a4 :: a5 :: a6 :: a7 :: a8 :: a9 :: a10 :: a11 :: a12 :: v :: L))) = some v := w_ld1 rfl
theorem w_al1 (a0 : V) (H : Heap) (n : Nat) (P : KV) : onA (aAlloc 1 [[a0]] E0) H n P = P (.ptr n 0) (T.set H n (one [a0])) (n + 1) := s_alloc rfl
theorem w_ln1 (a0 : V) {G : Roms} {H : Heap} {i : Nat} : ldnV 1 (.ptr i 0) G (T.set H i (one [a0])) = some (.agg [a0]) := w_ldn rfl (by omega)
theorem w_stA1 (a0 b0 : V) {H : Heap} {i n : Nat} {k : KV} : stV 1 (.ptr i 0) (.agg [b0]) (T.set H i (one [a0])) n k = k .undef (T.set (T.set H i (one [a0])) i (one [b0])) n := w_st rfl (by omega) rfl
theorem w_cn1 (a0 : V) {G : Roms} {H : Heap} {i : Nat} {r : List AVr} : getVs (.cn (.ptr i 0) 1 :: r) G (T.set H i (one [a0])) = gbind (getVs r G (T.set H i (one [a0]))) fun vs => some (.agg [a0] :: vs) := getVs_cn (T.get_set ..) (by omega) rfl
theorem w_al2 (a0 a1 : V) (H : Heap) (n : Nat) (P : KV) : onA (aAlloc 2 [[a0, a1]] E0) H n P = P (.ptr n 0) (T.set H n (one [a0, a1])) (n + 1) := s_alloc rfl
theorem w_ln2 (a0 a1 : V) {G : Roms} {H : Heap} {i : Nat} : ldnV 2 (.ptr i 0) G (T.set H i (one [a0, a1])) = some (.agg [a0, a1]) := w_ldn rfl (by omega)
theorem w_stA2 (a0 a1 b0 b1 : V) {H : Heap} {i n : Nat} {k : KV} : stV 2 (.ptr i 0) (.agg [b0, b1]) (T.set H i (one [a0, a1])) n k = k .undef (T.set (T.set H i (one [a0, a1])) i (one [b0, b1])) n := w_st rfl (by omega) rfl
theorem w_cn2 (a0 a1 : V) {G : Roms} {H : Heap} {i : Nat} {r : List AVr} : getVs (.cn (.ptr i 0) 2 :: r) G (T.set H i (one [a0, a1])) = gbind (getVs r G (T.set H i (one [a0, a1]))) fun vs => some (.agg [a0, a1] :: vs) := getVs_cn (T.get_set ..) (by omega) rfl
theorem w_al3 (a0 a1 a2 : V) (H : Heap) (n : Nat) (P : KV) : onA (aAlloc 3 [[a0, a1, a2]] E0) H n P = P (.ptr n 0) (T.set H n (one [a0, a1, a2])) (n + 1) := s_alloc rfl
theorem w_ln3 (a0 a1 a2 : V) {G : Roms} {H : Heap} {i : Nat} : ldnV 3 (.ptr i 0) G (T.set H i (one [a0, a1, a2])) = some (.agg [a0, a1, a2]) := w_ldn rfl (by omega)
theorem w_stA3 (a0 a1 a2 b0 b1 b2 : V) {H : Heap} {i n : Nat} {k : KV} : stV 3 (.ptr i 0) (.agg [b0, b1, b2]) (T.set H i (one [a0, a1, a2])) n k = k .undef (T.set (T.set H i (one [a0, a1, a2])) i (one [b0, b1, b2])) n := w_st rfl (by omega) rfl
theorem w_cn3 (a0 a1 a2 : V) {G : Roms} {H : Heap} {i : Nat} {r : List AVr} : getVs (.cn (.ptr i 0) 3 :: r) G (T.set H i (one [a0, a1, a2])) = gbind (getVs r G (T.set H i (one [a0, a1, a2]))) fun vs => some (.agg [a0, a1, a2] :: vs) := getVs_cn (T.get_set ..) (by omega) rfl
theorem w_al4 (a0 a1 a2 a3 : V) (H : Heap) (n : Nat) (P : KV) : onA (aAlloc 4 [[a0, a1, a2, a3]] E0) H n P = P (.ptr n 0) (T.set H n (one [a0, a1, a2, a3])) (n + 1) := s_alloc rfl
theorem w_ln4 (a0 a1 a2 a3 : V) {G : Roms} {H : Heap} {i : Nat} : ldnV 4 (.ptr i 0) G (T.set H i (one [a0, a1, a2, a3])) = some (.agg [a0, a1, a2, a3]) := w_ldn rfl (by omega)
theorem w_stA4 (a0 a1 a2 a3 b0 b1 b2 b3 : V) {H : Heap} {i n : Nat} {k : KV} : stV 4 (.ptr i 0) (.agg [b0, b1, b2, b3]) (T.set H i (one [a0, a1, a2, a3])) n k = k .undef (T.set (T.set H i (one [a0, a1, a2, a3])) i (one [b0, b1, b2, b3])) n := w_st rfl (by omega) rfl
theorem w_cn4 (a0 a1 a2 a3 : V) {G : Roms} {H : Heap} {i : Nat} {r : List AVr} : getVs (.cn (.ptr i 0) 4 :: r) G (T.set H i (one [a0, a1, a2, a3])) = gbind (getVs r G (T.set H i (one [a0, a1, a2, a3]))) fun vs => some (.agg [a0, a1, a2, a3] :: vs) := getVs_cn (T.get_set ..) (by omega) rfl
theorem w_al5 (a0 a1 a2 a3 a4 : V) (H : Heap) (n : Nat) (P : KV) : onA (aAlloc 5 [[a0, a1, a2, a3, a4]] E0) H n P = P (.ptr n 0) (T.set H n (one [a0, a1, a2, a3, a4])) (n + 1) := s_alloc rfl
theorem w_ln5 (a0 a1 a2 a3 a4 : V) {G : Roms} {H : Heap} {i : Nat} : ldnV 5 (.ptr i 0) G (T.set H i (one [a0, a1, a2, a3, a4])) = some (.agg [a0, a1, a2, a3, a4]) := w_ldn rfl (by omega)
theorem w_stA5 (a0 a1 a2 a3 a4 b0 b1 b2 b3 b4 : V) {H : Heap} {i n : Nat} {k : KV} : stV 5 (.ptr i 0) (.agg [b0, b1, b2, b3, b4]) (T.set H i (one [a0, a1, a2, a3, a4])) n k = k .undef (T.set (T.set H i (one [a0, a1, a2, a3, a4])) i (one [b0, b1, b2, b3, b4])) n := w_st rfl (by omega) rfl
theorem w_cn5 (a0 a1 a2 a3 a4 : V) {G : Roms} {H : Heap} {i : Nat} {r : List AVr} : getVs (.cn (.ptr i 0) 5 :: r) G (T.set H i (one [a0, a1, a2, a3, a4])) = gbind (getVs r G (T.set H i (one [a0, a1, a2, a3, a4]))) fun vs => some (.agg [a0, a1, a2, a3, a4] :: vs) := getVs_cn (T.get_set ..) (by omega) rfl
theorem w_al6 (a0 a1 a2 a3 a4 a5 : V) (H : Heap) (n : Nat) (P : KV) : onA (aAlloc 6 [[a0, a1, a2, a3, a4, a5]] E0) H n P = P (.ptr n 0) (T.set H n (one [a0, a1, a2, a3, a4, a5])) (n + 1) := s_alloc rfl
theorem w_ln6 (a0 a1 a2 a3 a4 a5 : V) {G : Roms} {H : Heap} {i : Nat} : ldnV 6 (.ptr i 0) G (T.set H i (one [a0, a1, a2, a3, a4, a5])) = some (.agg [a0, a1, a2, a3, a4, a5]) := w_ldn rfl (by omega)
theorem w_stA6 (a0 a1 a2 a3 a4 a5 b0 b1 b2 b3 b4 b5 : V) {H : Heap} {i n : Nat} {k : KV} : stV 6 (.ptr i 0) (.agg [b0, b1, b2, b3, b4, b5]) (T.set H i (one [a0, a1, a2, a3, a4, a5])) n k = k .undef (T.set (T.set H i (one [a0, a1, a2, a3, a4, a5])) i (one [b0, b1, b2, b3, b4, b5])) n := w_st rfl (by omega) rfl
theorem w_cn6 (a0 a1 a2 a3 a4 a5 : V) {G : Roms} {H : Heap} {i : Nat} {r : List AVr} : getVs (.cn (.ptr i 0) 6 :: r) G (T.set H i (one [a0, a1, a2, a3, a4, a5])) = gbind (getVs r G (T.set H i (one [a0, a1, a2, a3, a4, a5]))) fun vs => some (.agg [a0, a1, a2, a3, a4, a5] :: vs) := getVs_cn (T.get_set ..) (by omega) rfl
theorem w_al7 (a0 a1 a2 a3 a4 a5 a6 : V) (H : Heap) (n : Nat) (P : KV) : onA (aAlloc 7 [[a0, a1, a2, a3, a4, a5, a6]] E0) H n P = P (.ptr n 0) (T.set H n (one [a0, a1, a2, a3, a4, a5, a6])) (n + 1) := s_alloc rfl
theorem w_ln7 (a0 a1 a2 a3 a4 a5 a6 : V) {G : Roms} {H : Heap} {i : Nat} : ldnV 7 (.ptr i 0) G (T.set H i (one [a0, a1, a2, a3, a4, a5, a6])) = some (.agg [a0, a1, a2, a3, a4, a5, a6]) := w_ldn rfl (by omega)
theorem w_stA7 (a0 a1 a2 a3 a4 a5 a6 b0 b1 b2 b3 b4 b5 b6 : V) {H : Heap} {i n : Nat} {k : KV} : stV 7 (.ptr i 0) (.agg [b0, b1, b2, b3, b4, b5, b6]) (T.set H i (one [a0, a1, a2, a3, a4, a5, a6])) n k = k .undef (T.set (T.set H i (one [a0, a1, a2, a3, a4, a5, a6])) i (one [b0, b1, b2, b3, b4, b5, b6])) n := w_st rfl (by omega) rfl
theorem w_cn7 (a0 a1 a2 a3 a4 a5 a6 : V) {G : Roms} {H : Heap} {i : Nat} {r : List AVr} : getVs (.cn (.ptr i 0) 7 :: r) G (T.set H i (one [a0, a1, a2, a3, a4, a5, a6])) = gbind (getVs r G (T.set H i (one [a0, a1, a2, a3, a4, a5, a6]))) fun vs => some (.agg [a0, a1, a2, a3, a4, a5, a6] :: vs) := getVs_cn (T.get_set ..) (by omega) rfl
theorem w_al8 (a0 a1 a2 a3 a4 a5 a6 a7 : V) (H : Heap) (n : Nat) (P : KV) : onA (aAlloc 8 [[a0, a1, a2, a3, a4, a5, a6, a7]] E0) H n P = P (.ptr n 0) (T.set H n (one [a0, a1, a2, a3, a4, a5, a6, a7])) (n + 1) := s_alloc rfl
theorem w_ln8 (a0 a1 a2 a3 a4 a5 a6 a7 : V) {G : Roms} {H : Heap} {i : Nat} : ldnV 8 (.ptr i 0) G (T.set H i (one [a0, a1, a2, a3, a4, a5, a6, a7])) = some (.agg [a0, a1, a2, a3, a4, a5, a6, a7]) := w_ldn rfl (by omega)
theorem w_stA8 (a0 a1 a2 a3 a4 a5 a6 a7 b0 b1 b2 b3 b4 b5 b6 b7 : V) {H : Heap} {i n : Nat} {k : KV} : stV 8 (.ptr i 0) (.agg [b0, b1, b2, b3, b4, b5, b6, b7]) (T.set H i (one [a0, a1, a2, a3, a4, a5, a6, a7])) n k = k .undef (T.set (T.set H i (one [a0, a1, a2, a3, a4, a5, a6, a7])) i (one [b0, b1, b2, b3, b4, b5, b6, b7])) n := w_st rfl (by omega) rfl
theorem w_cn8 (a0 a1 a2 a3 a4 a5 a6 a7 : V) {G : Roms} {H : Heap} {i : Nat} {r : List AVr} : getVs (.cn (.ptr i 0) 8 :: r) G (T.set H i (one [a0, a1, a2, a3, a4, a5, a6, a7])) = gbind (getVs r G (T.set H i (one [a0, a1, a2, a3, a4, a5, a6, a7]))) fun vs => some (.agg [a0, a1, a2, a3, a4, a5, a6, a7] :: vs) := getVs_cn (T.get_set ..) (by omega) rfl
theorem w_al9 (a0 a1 a2 a3 a4 a5 a6 a7 a8 : V) (H : Heap) (n : Nat) (P : KV) : onA (aAlloc 9 [[a0, a1, a2, a3, a4, a5, a6, a7, a8]] E0) H n P = P (.ptr n 0) (T.set H n (one [a0, a1, a2, a3, a4, a5, a6, a7, a8])) (n + 1) := s_alloc rfl
theorem w_ln9 (a0 a1 a2 a3 a4 a5 a6 a7 a8 : V) {G : Roms} {H : Heap} {i : Nat} : ldnV 9 (.ptr i 0) G (T.set H i (one [a0, a1, a2, a3, a4, a5, a6, a7, a8])) = some (.agg [a0, a1, a2, a3, a4, a5, a6, a7, a8]) := w_ldn rfl (by omega)
theorem w_stA9 (a0 a1 a2 a3 a4 a5 a6 a7 a8 b0 b1 b2 b3 b4 b5 b6 b7 b8 : V) {H : Heap} {i n : Nat} {k : KV} : stV 9 (.ptr i 0) (.agg [b0, b1, b2, b3, b4, b5, b6, b7, b8]) (T.set H i (one [a0, a1, a2, a3, a4, a5, a6, a7, a8])) n k = k .undef (T.set (T.set H i (one [a0, a1, a2, a3, a4, a5, a6, a7, a8])) i (one [b0, b1, b2, b3, b4, b5, b6, b7, b8])) n := w_st rfl (by omega) rfl
theorem w_cn9 (a0 a1 a2 a3 a4 a5 a6 a7 a8 : V) {G : Roms} {H : Heap} {i : Nat} {r : List AVr} : getVs (.cn (.ptr i 0) 9 :: r) G (T.set H i (one [a0, a1, a2, a3, a4, a5, a6, a7, a8])) = gbind (getVs r G (T.set H i (one [a0, a1, a2, a3, a4, a5, a6, a7, a8]))) fun vs => some (.agg [a0, a1, a2, a3, a4, a5, a6, a7, a8] :: vs) := getVs_cn (T.get_set ..) (by omega) rfl
theorem w_al10 (a0 a1 a2 a3 a4 a5 a6 a7 a8 a9 : V) (H : Heap) (n : Nat) (P : KV) : onA (aAlloc 10 [[a0, a1, a2, a3, a4, a5, a6, a7, a8, a9]] E0) H n P = P (.ptr n 0) (T.set H n (one [a0, a1, a2, a3, a4, a5, a6, a7, a8, a9])) (n + 1) := s_alloc rfl
theorem w_ln10 (a0 a1 a2 a3 a4 a5 a6 a7 a8 a9 : V) {G : Roms} {H : Heap} {i : Nat} : ldnV 10 (.ptr i 0) G (T.set H i (one [a0, a1, a2, a3, a4, a5, a6, a7, a8, a9])) = some (.agg [a0, a1, a2, a3, a4, a5, a6, a7, a8, a9]) := w_ldn rfl (by omega)
theorem w_stA10 (a0 a1 a2 a3 a4 a5 a6 a7 a8 a9 b0 b1 b2 b3 b4 b5 b6 b7 b8 b9 : V) {H : Heap} {i n : Nat} {k : KV} : stV 10 (.ptr i 0) (.agg [b0, b1, b2, b3, b4, b5, b6, b7, b8, b9]) (T.set H i (one [a0, a1, a2, a3, a4, a5, a6, a7, a8, a9])) n k = k .undef (T.set (T.set H i (one [a0, a1, a2, a3, a4, a5, a6, a7, a8, a9])) i (one [b0, b1, b2, b3, b4, b5, b6, b7, b8, b9])) n := w_st rfl (by omega) rfl
theorem w_cn10 (a0 a1 a2 a3 a4 a5 a6 a7 a8 a9 : V) {G : Roms} {H : Heap} {i : Nat} {r : List AVr} : getVs (.cn (.ptr i 0) 10 :: r) G (T.set H i (one [a0, a1, a2, a3, a4, a5, a6, a7, a8, a9])) = gbind (getVs r G (T.set H i (one [a0, a1, a2, a3, a4, a5, a6, a7, a8, a9]))) fun vs => some (.agg [a0, a1, a2, a3, a4, a5, a6, a7, a8, a9] :: vs) := getVs_cn (T.get_set ..) (by omega) rfl
theorem w_al11 (a0 a1 a2 a3 a4 a5 a6 a7 a8 a9 a10 : V) (H : Heap) (n : Nat) (P : KV) : onA (aAlloc 11 [[a0, a1, a2, a3, a4, a5, a6, a7, a8, a9, a10]] E0) H n P = P (.ptr n 0) (T.set H n (one [a0, a1, a2, a3, a4, a5, a6, a7, a8, a9, a10])) (n + 1) := s_alloc rfl
theorem w_ln11 (a0 a1 a2 a3 a4 a5 a6 a7 a8 a9 a10 : V) {G : Roms} {H : Heap} {i : Nat} : ldnV 11 (.ptr i 0) G (T.set H i (one [a0, a1, a2, a3, a4, a5, a6, a7, a8, a9, a10])) = some (.agg [a0, a1, a2, a3, a4, a5, a6, a7, a8, a9, a10]) := w_ldn rfl (by omega)
theorem w_stA11 (a0 a1 a2 a3 a4 a5 a6 a7 a8 a9 a10 b0 b1 b2 b3 b4 b5 b6 b7 b8 b9 b10 : V) {H : Heap} {i n : Nat} {k : KV} : stV 11 (.ptr i 0) (.agg [b0, b1, b2, b3, b4, b5, b6, b7, b8, b9, b10]) (T.set H i (one [a0, a1, a2, a3, a4, a5, a6, a7, a8, a9, a10])) n k = k .undef (T.set (T.set H i (one [a0, a1, a2, a3, a4, a5, a6, a7, a8, a9, a10])) i (one [b0, b1, b2, b3, b4, b5, b6, b7, b8, b9, b10])) n := w_st rfl (by omega) rfl
theorem w_cn11 (a0 a1 a2 a3 a4 a5 a6 a7 a8 a9 a10 : V) {G : Roms} {H : Heap} {i : Nat} {r : List AVr} : getVs (.cn (.ptr i 0) 11 :: r) G (T.set H i (one [a0, a1, a2, a3, a4, a5, a6, a7, a8, a9, a10])) = gbind (getVs r G (T.set H i (one [a0, a1, a2, a3, a4, a5, a6, a7, a8, a9, a10]))) fun vs => some (.agg [a0, a1, a2, a3, a4, a5, a6, a7, a8, a9, a10] :: vs) := getVs_cn (T.get_set ..) (by omega) rfl
theorem w_al12 (a0 a1 a2 a3 a4 a5 a6 a7 a8 a9 a10 a11 : V) (H : Heap) (n : Nat) (P : KV) : onA (aAlloc 12 [[a0, a1, a2, a3, a4, a5, a6, a7, a8, a9, a10, a11]] E0) H n P = P (.ptr n 0) (T.set H n (one [a0, a1, a2, a3, a4, a5, a6, a7, a8, a9, a10, a11])) (n + 1) := s_alloc rfl
theorem w_ln12 (a0 a1 a2 a3 a4 a5 a6 a7 a8 a9 a10 a11 : V) {G : Roms} {H : Heap} {i : Nat} : ldnV 12 (.ptr i 0) G (T.set H i (one [a0, a1, a2, a3, a4, a5, a6, a7, a8, a9, a10, a11])) = some (.agg [a0, a1, a2, a3, a4, a5, a6, a7, a8, a9, a10, a11]) := w_ldn rfl (by omega)
theorem w_stA12 (a0 a1 a2 a3 a4 a5 a6 a7 a8 a9 a10 a11 b0 b1 b2 b3 b4 b5 b6 b7 b8 b9 b10 b11 : V) {H : Heap} {i n : Nat} {k : KV} : stV 12 (.ptr i 0) (.agg [b0, b1, b2, b3, b4, b5, b6, b7, b8, b9, b10, b11]) (T.set H i (one [a0, a1, a2, a3, a4, a5, a6, a7, a8, a9, a10, a11])) n k = k .undef (T.set (T.set H i (one [a0, a1, a2, a3, a4, a5, a6, a7, a8, a9, a10, a11])) i (one [b0, b1, b2, b3, b4, b5, b6, b7, b8, b9, b10, b11])) n := w_st rfl (by omega) rfl
theorem w_cn12 (a0 a1 a2 a3 a4 a5 a6 a7 a8 a9 a10 a11 : V) {G : Roms} {H : Heap} {i : Nat} {r : List AVr} : getVs (.cn (.ptr i 0) 12 :: r) G (T.set H i (one [a0, a1, a2, a3, a4, a5, a6, a7, a8, a9, a10, a11])) = gbind (getVs r G (T.set H i (one [a0, a1, a2, a3, a4, a5, a6, a7, a8, a9, a10, a11]))) fun vs => some (.agg [a0, a1, a2, a3, a4, a5, a6, a7, a8, a9, a10, a11] :: vs) := getVs_cn (T.get_set ..) (by omega) rfl
theorem w_al13 (a0 a1 a2 a3 a4 a5 a6 a7 a8 a9 a10 a11 a12 : V) (H : Heap) (n : Nat) (P : KV) : onA (aAlloc 13 [[a0, a1, a2, a3, a4, a5, a6, a7, a8, a9, a10, a11, a12]] E0) H n P = P (.ptr n 0) (T.set H n (one [a0, a1, a2, a3, a4, a5, a6, a7, a8, a9, a10, a11, a12])) (n + 1) := s_alloc rfl
theorem w_ln13 (a0 a1 a2 a3 a4 a5 a6 a7 a8 a9 a10 a11 a12 : V) {G : Roms} {H : Heap} {i : Nat} : ldnV 13 (.ptr i 0) G (T.set H i (one [a0, a1, a2, a3, a4, a5, a6, a7, a8, a9, a10, a11, a12])) = some (.agg [a0, a1, a2, a3, a4, a5, a6, a7, a8, a9, a10, a11, a12]) := w_ldn rfl (by omega)
theorem w_stA13 (a0 a1 a2 a3 a4 a5 a6 a7 a8 a9 a10 a11 a12 b0 b1 b2 b3 b4 b5 b6 b7 b8 b9 b10 b11 b12 : V) {H : Heap} {i n : Nat} {k : KV} : stV 13 (.ptr i 0) (.agg [b0, b1, b2, b3, b4, b5, b6, b7, b8, b9, b10, b11, b12]) (T.set H i (one [a0, a1, a2, a3, a4, a5, a6, a7, a8, a9, a10, a11, a12])) n k = k .undef (T.set (T.set H i (one [a0, a1, a2, a3, a4, a5, a6, a7, a8, a9, a10, a11, a12])) i (one [b0, b1, b2, b3, b4, b5, b6, b7, b8, b9, b10, b11, b12])) n := w_st rfl (by omega) rfl
theorem w_cn13 (a0 a1 a2 a3 a4 a5 a6 a7 a8 a9 a10 a11 a12 : V) {G : Roms} {H : Heap} {i : Nat} {r : List AVr} : getVs (.cn (.ptr i 0) 13 :: r) G (T.set H i (one [a0, a1, a2, a3, a4, a5, a6, a7, a8, a9, a10, a11, a12])) = gbind (getVs r G (T.set H i (one [a0, a1, a2, a3, a4, a5, a6, a7, a8, a9, a10, a11, a12]))) fun vs => some (.agg [a0, a1, a2, a3, a4, a5, a6, a7, a8, a9, a10, a11, a12] :: vs) := getVs_cn (T.get_set ..) (by omega) rfl
theorem w_al14 (a0 a1 a2 a3 a4 a5 a6 a7 a8 a9 a10 a11 a12 a13 : V) (H : Heap) (n : Nat) (P : KV) : onA (aAlloc 14 [[a0, a1, a2, a3, a4, a5, a6, a7, a8, a9, a10, a11, a12, a13]] E0) H n P = P (.ptr n 0) (T.set H n (one [a0, a1, a2, a3, a4, a5, a6, a7, a8, a9, a10, a11, a12, a13])) (n + 1) := s_alloc rfl
theorem w_ln14 (a0 a1 a2 a3 a4 a5 a6 a7 a8 a9 a10 a11 a12 a13 : V) {G : Roms} {H : Heap} {i : Nat} : ldnV 14 (.ptr i 0) G (T.set H i (one [a0, a1, a2, a3, a4, a5, a6, a7, a8, a9, a10, a11, a12, a13])) = some (.agg [a0, a1, a2, a3, a4, a5, a6, a7, a8, a9, a10, a11, a12, a13]) := w_ldn rfl (by omega)
theorem w_stA14 (a0 a1 a2 a3 a4 a5 a6 a7 a8 a9 a10 a11 a12 a13 b0 b1 b2 b3 b4 b5 b6 b7 b8 b9 b10 b11 b12 b13 : V) {H : Heap} {i n : Nat} {k : KV} : stV 14 (.ptr i 0) (.agg [b0, b1, b2, b3, b4, b5, b6, b7, b8, b9, b10, b11, b12, b13]) (T.set H i (one [a0, a1, a2, a3, a4, a5, a6, a7, a8, a9, a10, a11, a12, a13])) n k = k .undef (T.set (T.set H i (one [a0, a1, a2, a3, a4, a5, a6, a7, a8, a9, a10, a11, a12, a13])) i (one [b0, b1, b2, b3, b4, b5, b6, b7, b8, b9, b10, b11, b12, b13])) n := w_st rfl (by omega) rfl
theorem w_cn14 (a0 a1 a2 a3 a4 a5 a6 a7 a8 a9 a10 a11 a12 a13 : V) {G : Roms} {H : Heap} {i : Nat} {r : List AVr} : getVs (.cn (.ptr i 0) 14 :: r) G (T.set H i (one [a0, a1, a2, a3, a4, a5, a6, a7, a8, a9, a10, a11, a12, a13])) = gbind (getVs r G (T.set H i (one [a0, a1, a2, a3, a4, a5, a6, a7, a8, a9, a10, a11, a12, a13]))) fun vs => some (.agg [a0, a1, a2, a3, a4, a5, a6, a7, a8, a9, a10, a11, a12, a13] :: vs) := getVs_cn (T.get_set ..) (by omega) rfl
theorem w_al15 (a0 a1 a2 a3 a4 a5 a6 a7 a8 a9 a10 a11 a12 a13 a14 : V) (H : Heap) (n : Nat) (P : KV) : onA (aAlloc 15 [[a0, a1, a2, a3, a4, a5, a6, a7, a8, a9, a10, a11, a12, a13, a14]] E0) H n P = P (.ptr n 0) (T.set H n (one [a0, a1, a2, a3, a4, a5, a6, a7, a8, a9, a10, a11, a12, a13, a14])) (n + 1) := s_alloc rfl
theorem w_ln15 (a0 a1 a2 a3 a4 a5 a6 a7 a8 a9 a10 a11 a12 a13 a14 : V) {G : Roms} {H : Heap} {i : Nat} : ldnV 15 (.ptr i 0) G (T.set H i (one [a0, a1, a2, a3, a4, a5, a6, a7, a8, a9, a10, a11, a12, a13, a14])) = some (.agg [a0, a1, a2, a3, a4, a5, a6, a7, a8, a9, a10, a11, a12, a13, a14]) := w_ldn rfl (by omega)
theorem w_stA15 (a0 a1 a2 a3 a4 a5 a6 a7 a8 a9 a10 a11 a12 a13 a14 b0 b1 b2 b3 b4 b5 b6 b7 b8 b9 b10 b11 b12 b13 b14 : V) {H : Heap} {i n : Nat} {k : KV} : stV 15 (.ptr i 0) (.agg [b0, b1, b2, b3, b4, b5, b6, b7, b8, b9, b10, b11, b12, b13, b14]) (T.set H i (one [a0, a1, a2, a3, a4, a5, a6, a7, a8, a9, a10, a11, a12, a13, a14])) n k = k .undef (T.set (T.set H i (one [a0, a1, a2, a3, a4, a5, a6, a7, a8, a9, a10, a11, a12, a13, a14])) i (one [b0, b1, b2, b3, b4, b5, b6, b7, b8, b9, b10, b11, b12, b13, b14])) n := w_st rfl (by omega) rfl
theorem w_cn15 (a0 a1 a2 a3 a4 a5 a6 a7 a8 a9 a10 a11 a12 a13 a14 : V) {G : Roms} {H : Heap} {i : Nat} {r : List AVr} : getVs (.cn (.ptr i 0) 15 :: r) G (T.set H i (one [a0, a1, a2, a3, a4, a5, a6, a7, a8, a9, a10, a11, a12, a13, a14])) = gbind (getVs r G (T.set H i (one [a0, a1, a2, a3, a4, a5, a6, a7, a8, a9, a10, a11, a12, a13, a14]))) fun vs => some (.agg [a0, a1, a2, a3, a4, a5, a6, a7, a8, a9, a10, a11, a12, a13, a14] :: vs) := getVs_cn (T.get_set ..) (by omega) rfl
attribute [go_sem] w_boxA w_boxS w_boxI w_boxB w_boxN w_boxR w_boxL w_boxG w_boxP w_boxQ w_boxZ w_boxM w_alloc w_ld1h w_ldn ld1_ne ldn_ne w_st s_onV s_onO s_onB s_tstT s_tstF s_gTT s_gFF s_gTF s_gFT s_gS s_tTT s_tFF s_tTF s_tFT s_tS s_pickT s_pickF s_padd s_paddg s_nilck s_ext0 s_ext1 s_ext2 s_gbind oneV1 oneV2 getVs_nil getVs_t okC_agg okC_str okC_int okC_bool vc_agg vc_str vc_int vc_bool
attribute [go_sem] ne_eq ne_1 en_1 ne_2 en_2 ne_3 en_3 ne_4 en_4 ne_5 en_5 ne_6 en_6 ne_7 en_7 ne_8 en_8 ne_9 en_9 ne_10 en_10 ne_11 en_11 ne_12 en_12 ne_13 en_13 ne_14 en_14 w_ld1_0 w_ld1_1 w_ld1_2 w_ld1_3 w_ld1_4 w_ld1_5 w_ld1_6 w_ld1_7 w_ld1_8 w_ld1_9 w_ld1_10 w_ld1_11 w_ld1_12 w_ld1_13 not_false_eq_true List.length_cons List.length_nil Nat.zero_add
attribute [go_sem] w_al1 w_ln1 w_stA1 w_cn1 w_al2 w_ln2 w_stA2 w_cn2 w_al3 w_ln3 w_stA3 w_cn3 w_al4 w_ln4 w_stA4 w_cn4 w_al5 w_ln5 w_stA5 w_cn5 w_al6 w_ln6 w_stA6 w_cn6 w_al7 w_ln7 w_stA7 w_cn7 w_al8 w_ln8 w_stA8 w_cn8 w_al9 w_ln9 w_stA9 w_cn9 w_al10 w_ln10 w_stA10 w_cn10 w_al11 w_ln11 w_stA11 w_cn11 w_al12 w_ln12 w_stA12 w_cn12 w_al13 w_ln13 w_stA13 w_cn13 w_al14 w_ln14 w_stA14 w_cn14 w_al15 w_ln15 w_stA15 w_cn15
end Go.Eng

/- The engine, part 62: slices by their elements, wherever they lie. -/
namespace Go.Eng
theorem elemsB_get {H : Heap} {id z : Nat} : ∀ (n o : Nat) {LS : LLV}, elemsB H id z n o = some LS → LS.length = n ∧ ∀ i c, LS[i]? = some c → ldH H id ((o + i) * z) z = some c
  | 0, o, LS, h => by cases h; exact ⟨rfl, fun i c hc => by simp at hc⟩
  | n + 1, o, LS, h => by
    have h' : gbind (ldH H id (Nat.mul o z) z) (fun L => gbind (elemsB H id z n (Nat.succ o)) fun LS => some (L :: LS)) = some LS := h
    rw [gbind_some] at h'
    obtain ⟨L, hL, h'⟩ := h'
    rw [gbind_some] at h'
    obtain ⟨LS', hLS, h'⟩ := h'
    cases h'
    obtain ⟨h1, h2⟩ := elemsB_get n (o + 1) hLS
    refine ⟨by simp [h1], fun i c hc => ?_⟩
    cases i with
    | zero => simp at hc; subst hc; exact hL
    | succ i => simp at hc; rw [show o + (i + 1) = o + 1 + i by omega]; exact h2 i c hc
theorem elemsG_get {G : Roms} {b z : Nat} : ∀ (n o : Nat) {LS : LLV}, elemsG G b z n o = some LS → LS.length = n ∧ ∀ i c, LS[i]? = some c → G b (o + i * z) z = some c
  | 0, o, LS, h => by cases h; exact ⟨rfl, fun i c hc => by simp at hc⟩
  | n + 1, o, LS, h => by
    have h' : gbind (G b o z) (fun L => gbind (elemsG G b z n (Nat.add o z)) fun LS => some (L :: LS)) = some LS := h
    rw [gbind_some] at h'
    obtain ⟨L, hL, h'⟩ := h'
    rw [gbind_some] at h'
    obtain ⟨LS', hLS, h'⟩ := h'
    cases h'
    obtain ⟨h1, h2⟩ := elemsG_get n (o + z) hLS
    refine ⟨by simp [h1], fun i c hc => ?_⟩
    cases i with
    | zero => simp at hc; subst hc; simpa using hL
    | succ i => simp at hc; rw [show o + (i + 1) * z = o + z + i * z by rw [Nat.add_mul]; omega]; exact h2 i c hc
/- a slice, by its elements -/
def El (G : Roms) (H : Heap) (v : V) (z : Nat) (LS : LLV) : Prop := isStr v = false ∧ elems v G H z = some LS
theorem El.len {G : Roms} {H : Heap} {v : V} {z : Nat} {LS : LLV} (h : El G H v z LS) : lenV v = some (.int .i64 (.ofNat LS.length) 0) := by
  obtain ⟨hs, h⟩ := h
  cases v <;> try (cases h; done)
  · cases hs
  · cases h; rfl
  · rename_i id off n c e
    cases hb : Nat.beq e z with
    | false => have h' : (Bool.rec (motive := fun _ => Option LLV) none (elemsB H id z n off) (Nat.beq e z) : Option LLV) = some LS := h; rw [hb] at h'; cases h'
    | true =>
      have h' : (Bool.rec (motive := fun _ => Option LLV) none (elemsB H id z n off) (Nat.beq e z) : Option LLV) = some LS := h
      rw [hb] at h'; rw [(elemsB_get _ _ h').1]; rfl
  · rename_i id off n e
    cases hb : Nat.beq e z with
    | false => have h' : (Bool.rec (motive := fun _ => Option LLV) none (elemsB H id z n off) (Nat.beq e z) : Option LLV) = some LS := h; rw [hb] at h'; cases h'
    | true =>
      have h' : (Bool.rec (motive := fun _ => Option LLV) none (elemsB H id z n off) (Nat.beq e z) : Option LLV) = some LS := h
      rw [hb] at h'; rw [(elemsB_get _ _ h').1]; rfl
  · rw [(elemsG_get _ _ h).1]; rfl
theorem El.at {G : Roms} {H : Heap} {v : V} {z : Nat} {LS : LLV} (h : El G H v z LS) {i : Nat} {c : LV} (hi : LS[i]? = some c) :
    ∃ p, iaddrV z v (.int .i64 (.ofNat i) 0) = some p ∧ ldP p G H z = some c := by
  obtain ⟨hs, h⟩ := h
  obtain ⟨hlt, _⟩ := List.getElem?_eq_some_iff.1 hi
  cases v <;> try (cases h; done)
  · cases hs
  · cases h; simp at hlt
  · rename_i id off n cp e
    have h' : (Bool.rec (motive := fun _ => Option LLV) none (elemsB H id z n off) (Nat.beq e z) : Option LLV) = some LS := h
    cases hb : Nat.beq e z with
    | false => rw [hb] at h'; cases h'
    | true =>
      rw [hb] at h'
      obtain ⟨h1, h2⟩ := elemsB_get _ _ h'
      refine ⟨.ptr id ((off + i) * z), ?_, h2 i c hi⟩
      show guardO (band (Nat.beq e z) (Nat.blt i n)) (forceN (Nat.mul (Nat.add off i) z) fun o => some (.ptr id o)) = _
      rw [hb, show Nat.blt i n = true by rw [Nat.blt_eq]; omega, forceN_eq]; rfl
  · rename_i id off n e
    have h' : (Bool.rec (motive := fun _ => Option LLV) none (elemsB H id z n off) (Nat.beq e z) : Option LLV) = some LS := h
    cases hb : Nat.beq e z with
    | false => rw [hb] at h'; cases h'
    | true =>
      rw [hb] at h'
      obtain ⟨h1, h2⟩ := elemsB_get _ _ h'
      refine ⟨.ptr id ((off + i) * z), ?_, h2 i c hi⟩
      show guardO (band (Nat.beq e z) (Nat.blt i n)) (forceN (Nat.mul (Nat.add off i) z) fun o => some (.ptr id o)) = _
      rw [hb, show Nat.blt i n = true by rw [Nat.blt_eq]; omega, forceN_eq]; rfl
  · rename_i b off n cp e
    obtain ⟨h1, h2⟩ := elemsG_get _ _ h
    refine ⟨.gptr b (off + i * z), ?_, h2 i c hi⟩
    show guardO (Nat.blt i n) (forceN (Nat.add off (Nat.mul i z)) fun o => some (.gptr b o)) = _
    rw [show Nat.blt i n = true by rw [Nat.blt_eq]; omega, forceN_eq]; rfl
theorem ldn_of {G : Roms} {H : Heap} {p : V} {z : Nat} {c : LV} (h : ldP p G H z = some c) : ldnV z p G H = some (.agg c) := by rw [s_ldn, h]; rfl
theorem ld1_of {G : Roms} {H : Heap} {p v : V} (h : ldP p G H 1 = some [v]) : ld1V p G H = some v := by rw [s_ld1, h]; rfl
/- the block a slice lies in -/
noncomputable def V.sid (v : V) : Option Nat := match v with | .sl id .. => some id | .gsl id .. => some id | _ => none
theorem El.same {G : Roms} {H H' : Heap} {v : V} {z : Nat} {LS : LLV} (h : El G H v z LS) (hs : ∀ id, v.sid = some id → T.get H' id = T.get H id) : El G H' v z LS := by
  refine ⟨h.1, ?_⟩
  have hB : ∀ id, v.sid = some id → ∀ n o, elemsB H' id z n o = elemsB H id z n o := by
    intro id hid n
    induction n with
    | zero => intro o; rfl
    | succ n ih =>
      intro o
      show gbind (ldH H' id (Nat.mul o z) z) (fun L => gbind (elemsB H' id z n (Nat.succ o)) fun LS => some (L :: LS)) = gbind (ldH H id (Nat.mul o z) z) (fun L => gbind (elemsB H id z n (Nat.succ o)) fun LS => some (L :: LS))
      rw [ih]; unfold ldH; rw [hs id hid]
  have h2 := h.2
  cases v <;> try exact h2
  · rename_i id off n c e
    show (Bool.rec (motive := fun _ => Option LLV) none (elemsB H' id z n off) (Nat.beq e z) : Option LLV) = some LS
    rw [hB id rfl]; exact h2
  · rename_i id off n e
    show (Bool.rec (motive := fun _ => Option LLV) none (elemsB H' id z n off) (Nat.beq e z) : Option LLV) = some LS
    rw [hB id rfl]; exact h2
end Go.Eng

/- The engine, part 63: what is laid anew, ranges, maps by strings, appending. -/
namespace Go.Eng
theorem T.setp_setp {α : Type} (a b : α) : ∀ (p : P2) (t : T α), T.setp b p (T.setp a p t) = T.setp b p t
  | .h, t => rfl
  | .z p, t => by show T.n t.val (T.setp b p (T.setp a p t.left)) t.right = T.n t.val (T.setp b p t.left) t.right; rw [T.setp_setp a b p]
  | .o p, t => by show T.n t.val t.left (T.setp b p (T.setp a p t.right)) = T.n t.val t.left (T.setp b p t.right); rw [T.setp_setp a b p]
theorem T.set_set {α : Type} (t : T α) (k : Nat) (a b : α) : T.set (T.set t k a) k b = T.set t k b := T.setp_setp ..
theorem Kp.get {H H' : Heap} {n n' id : Nat} {b : Blk} (f : Kp H n H' n') (h : T.get H id = some b) (hi : id < n) : T.get H' id = some b := (f.same id hi).trans h
theorem Kp.set {H0 H : Heap} {n0 n id : Nat} (a : Kp H0 n0 H n) (b : Blk) (h : n0 ≤ id) : Kp H0 n0 (T.set H id b) n := a.new b h (Nat.le_refl _)
theorem Kp.le1 {H0 H : Heap} {n0 n m : Nat} (a : Kp H0 n0 H n) (h : n ≤ m) : Kp H0 n0 H m := ⟨Nat.le_trans a.le h, a.same⟩
/- a range -/
theorem lfp_range {σ : Type} {b : (σ → Prop) → σ → Prop} {N : Nat} {J : Nat → σ → Prop} (hs : ∀ I i s, i < N → J i s → (∀ s', J (i + 1) s' → I s') → b I s) (he : ∀ I s, J N s → b I s) {s : σ} (h0 : J 0 s) : lfp σ b s := by
  refine lfp_rule (J := fun m s => ∃ i, m = N - i ∧ i ≤ N ∧ J i s) ?_ (m := N) ⟨0, rfl, Nat.zero_le _, h0⟩
  rintro I m s ⟨i, rfl, hi, hj⟩ ih
  rcases Nat.lt_or_ge i N with h | h
  · exact hs I i s h hj fun s' hj' => ih _ s' (by omega) ⟨i + 1, rfl, h, hj'⟩
  · have : i = N := by omega
    subst this; exact he I s hj
/- what is laid anew -/
section
variable {H : Heap} {n z : Nat} {L : LV} {P : KV}
theorem a_box {v : V} (hv : okC v = true) (h : ∀ H', Kp H n H' (n + 1) → T.get H' n = some (one (vcells v)) → P (.ptr n 0) H' (n + 1)) : onA (aBoxV v) H n P := by
  rw [s_box hv]; exact h _ ((Kp.refl H n).new _ (Nat.le_refl _) (by omega)) (T.get_set ..)
theorem a_boxA (h : ∀ H', Kp H n H' (n + 1) → T.get H' n = some (one L) → P (.ptr n 0) H' (n + 1)) : onA (aBoxV (.agg L)) H n P := a_box rfl h
theorem a_alloc (hL : L.length = z) (h : ∀ H', Kp H n H' (n + 1) → T.get H' n = some (one L) → P (.ptr n 0) H' (n + 1)) : onA (aAlloc z [L] E0) H n P := by
  rw [s_alloc hL]; exact h _ ((Kp.refl H n).new _ (Nat.le_refl _) (by omega)) (T.get_set ..)
/- a box laid and filled -/
theorem a_lay {L' : LV} (hL : L.length = z) (hL' : L'.length = z) (hz : 0 < z) (h : ∀ H', Kp H n H' (n + 1) → T.get H' n = some (one L') → P .undef H' (n + 1)) :
    stV z (.ptr n 0) (.agg L') (T.set H n (one L)) (n + 1) P := by
  rw [w_st hL hz hL', T.set_set]; exact h _ ((Kp.refl H n).new _ (Nat.le_refl _) (by omega)) (T.get_set ..)
theorem a_lay1 {v w : V} (hv : okC w = true) (hw : vcells w = [w]) (h : ∀ H', Kp H n H' (n + 1) → T.get H' n = some (one [w]) → P .undef H' (n + 1)) :
    stV 1 (.ptr n 0) w (T.set H n (one [v])) (n + 1) P := by
  rw [stV_one (T.get_set ..) hv (by rw [hw]; rfl) (by omega) (by show 0 + 1 ≤ 1; omega), T.set_set, hw]; exact h _ ((Kp.refl H n).new _ (Nat.le_refl _) (by omega)) (T.get_set ..)
/- a part of a box is written -/
theorem a_put {i o m : Nat} {L : LV} {v : V} (hg : T.get H i = some (one L)) (hv : okC v = true) (hn : (vcells v).length = m) (hm : 0 < m) (hl : o + m ≤ L.length)
    (h : ∀ H', T.get H' i = some (one (L.take o ++ (vcells v ++ L.drop (o + m)))) → (∀ j, j ≠ i → T.get H' j = T.get H j) → P .undef H' n) : stV m (.ptr i o) v H n P := by
  rw [stV_one hg hv hn hm hl]; exact h _ (T.get_set ..) fun j hj => T.get_set_ne _ _ (Ne.symm hj)
end
/- arrays of elements -/
theorem ldH_arr {H : Heap} {id e c i : Nat} {t : T LV} (hg : T.get H id = some (.arr e c t)) (he : 0 < e) (hi : i < c) : ldH H id (i * e) e = T.get t i := by
  unfold ldH; rw [hg]
  show ldB e c t (i * e) e = _
  unfold ldB
  have hdiv : i * e / e = i := Nat.mul_div_cancel _ he
  have hmod : i * e % e = 0 := Nat.mul_mod_left ..
  have hb : Nat.blt (Nat.div (i * e) e) c = true := by rw [Nat.blt_eq]; show i * e / e < c; omega
  rw [hb]
  show gbind (T.get t (Nat.div (i * e) e)) (ldC e (i * e) e) = _
  rw [show Nat.div (i * e) e = i from hdiv]
  cases h : T.get t i with
  | none => rfl
  | some L =>
    show ldC e (i * e) e L = _
    unfold ldC
    rw [show Nat.mod (i * e) e = 0 from hmod, show band (Nat.beq e e) (Nat.beq 0 0) = true by simp]
theorem elemsB_mk {H : Heap} {id z : Nat} : ∀ (n o : Nat) (LS : LLV), LS.length = n → (∀ i c, LS[i]? = some c → ldH H id ((o + i) * z) z = some c) → elemsB H id z n o = some LS
  | 0, o, LS, hl, _ => by cases LS with | nil => rfl | cons a l => simp at hl
  | n + 1, o, LS, hl, h => by
    cases LS with
    | nil => simp at hl
    | cons a l =>
      show gbind (ldH H id (Nat.mul o z) z) (fun L => gbind (elemsB H id z n (Nat.succ o)) fun LS => some (L :: LS)) = _
      have h0 := h 0 a rfl
      rw [show Nat.mul o z = (o + 0) * z from rfl, h0, s_gbind, elemsB_mk n (o + 1) l (by simpa using hl) fun i c hc => by
        have := h (i + 1) c (by simpa using hc); rwa [show o + (i + 1) = o + 1 + i by omega] at this]
      rfl
/- a slice that grows, of one's own -/
inductive Gr (G : Roms) (H : Heap) (m : Nat) (z : Nat) : V → LLV → Prop where
  | nil : Gr G H m z .nils []
  | gsl {id c : Nat} {t : T LV} {LS : LLV} (hg : T.get H id = some (.arr z c t)) (hc : LS.length ≤ c) (ht : ∀ i L, LS[i]? = some L → T.get t i = some L) (hid : m ≤ id) : Gr G H m z (.gsl id 0 LS.length z) LS
theorem beq_self' (z : Nat) : Nat.beq z z = true := by simp
theorem Gr.el {G : Roms} {H : Heap} {m z : Nat} {v : V} {LS : LLV} (h : Gr G H m z v LS) (hz : 0 < z) : El G H v z LS := by
  cases h with
  | nil => exact ⟨rfl, rfl⟩
  | gsl hg hc ht hid =>
    rename_i id c t
    refine ⟨rfl, ?_⟩
    show (Bool.rec (motive := fun _ => Option LLV) none (elemsB H id z LS.length 0) (Nat.beq z z) : Option LLV) = some LS
    rw [beq_self']
    exact elemsB_mk _ _ _ rfl fun i L hi => by
      have hlt := (List.getElem?_eq_some_iff.1 hi).1
      rw [Nat.zero_add, ldH_arr hg hz (by omega)]; exact ht i L hi
theorem Gr.mono {G : Roms} {H H' : Heap} {m z : Nat} {v : V} {LS : LLV} (h : Gr G H m z v LS) (hs : ∀ id, v.sid = some id → T.get H' id = T.get H id) : Gr G H' m z v LS := by
  cases h with
  | nil => exact .nil
  | gsl hg hc ht hid => exact .gsl (hs _ rfl ▸ hg) hc ht hid
theorem Gr.lo {G : Roms} {H : Heap} {m z : Nat} {v : V} {LS : LLV} (h : Gr G H m z v LS) {id : Nat} (hid : v.sid = some id) : m ≤ id ∧ ∃ c t, T.get H id = some (.arr z c t) := by
  cases h with
  | nil => cases hid
  | gsl hg hc ht hi => cases hid; exact ⟨hi, _, _, hg⟩
theorem roomOk_of {a b : Nat} (h : a * b ≤ 140737488355328) : roomOk a b = true := by unfold roomOk; rw [Nat.ble_eq]; exact h
theorem appMove0 {id ln z bs c n : Nat} {t : T LV} {NS : LLV} {H : Heap} {k : KV} (hr : roomOk (ln + NS.length) bs = true) (hc : ln ≤ c) :
    appMove id 0 ln z bs NS H n k (.arr z c t) = k (.gsl n 0 (ln + NS.length) z) (T.set (T.set H id .dead) n (.arr z (ln + NS.length) (setEs NS ln t))) (n + 1) := by
  show forceP (Nat.add ln (len NS)) (fun need => onB (band (roomOk need bs) (band (Nat.beq z z) (Nat.ble (Nat.add 0 ln) c))) (forceP n fun n => k (.gsl n 0 need z) (T.set (T.set H id .dead) n (.arr z need (setEs NS ln t))) (Nat.succ n))) = _
  rw [forceP_eq, forceP_eq, len_eq]
  show onB (band (roomOk (ln + NS.length) bs) (band (Nat.beq z z) (Nat.ble (Nat.add 0 ln) c))) (k (.gsl n 0 (ln + NS.length) z) (T.set (T.set H id .dead) n (.arr z (ln + NS.length) (setEs NS ln t))) (n + 1)) = _
  rw [hr, beq_self', show Nat.ble (Nat.add 0 ln) c = true by rw [Nat.ble_eq]; show 0 + ln ≤ c; omega]
  rfl
theorem Gr.app {G : Roms} {H : Heap} {m n z bs : Nat} {v w : V} {LS NS : LLV} {k : KV} (h : Gr G H m z v LS) (hm : m ≤ n) (hn : ∀ id, v.sid = some id → id < n) (hw : elems w G H z = some NS)
    (hb : (LS.length + NS.length) * bs ≤ 140737488355328)
    (hk : ∀ v' H', Gr G H' m z v' (LS ++ NS) → (∀ id, id < n → v.sid ≠ some id → T.get H' id = T.get H id) → (∀ id, v'.sid = some id → id < n + 1) → k v' H' (n + 1))
    (hk0 : NS = [] → k v H n) : appV z bs v w G H n k := by
  unfold appV
  rw [hw, s_onO]
  cases h with
  | nil =>
    cases NS with
    | nil => exact hk0 rfl
    | cons a NS =>
      show appNew z bs [] (a :: NS) H n k
      unfold appNew
      rw [forceP_eq, forceP_eq, len_eq, len_eq, show roomOk (Nat.add ([] : LLV).length (a :: NS).length) bs = true from roomOk_of hb, s_onB]
      have e : Nat.add ([] : LLV).length (a :: NS).length = (a :: NS).length := Nat.zero_add _
      rw [e]
      refine hk _ _ ?_ (fun id hid _ => T.get_set_ne _ _ (by omega)) (fun id hid => by cases hid; omega)
      refine .gsl (LS := a :: NS) (T.get_set ..) (Nat.le_refl _) (fun i L hi => ?_) hm
      show T.get (setEs (a :: NS) 0 .e) i = some L
      have hlt := (List.getElem?_eq_some_iff.1 hi).1
      rw [setEs_get, if_pos ⟨Nat.zero_le _, by omega⟩]; exact hi
  | gsl hg hc ht hid =>
    rename_i id c t
    show onB (Nat.beq z z) _
    rw [beq_self', s_onB]
    cases NS with
    | nil => exact hk0 rfl
    | cons a NS =>
      show onO (T.get H id) (fun b => appMove id 0 LS.length z bs (a :: NS) H n k b)
      rw [hg, s_onO]
      rw [appMove0 (roomOk_of hb) hc, show LS.length + (a :: NS).length = (LS ++ a :: NS).length by rw [List.length_append]]
      refine hk _ _ ?_ (fun j hj hne => ?_) (fun j hj => by cases hj; omega)
      · refine .gsl (LS := LS ++ a :: NS) (T.get_set ..) (Nat.le_refl _) (fun i L hi => ?_) hm
        rw [setEs_get]
        by_cases hlt : i < LS.length
        · rw [if_neg (by omega)]
          rw [List.getElem?_append_left hlt] at hi
          exact ht i L hi
        · rw [List.getElem?_append_right (by omega)] at hi
          have hlt2 := (List.getElem?_eq_some_iff.1 hi).1
          rw [if_pos ⟨by omega, by omega⟩]; exact hi
      · rw [T.get_set_ne _ _ (by omega), T.get_set_ne _ _ (by intro e; subst e; exact hne rfl)]
/- maps whose keys are strings -/
def MapIs (H : Heap) (id : Nat) (ps : List ((Nat × Nat) × V)) : Prop := ∃ es ck, T.get H id = some (.map es ck) ∧ es.map (fun e => (e.1, e.2.1)) = ps.map fun p => (V.str p.1.1 p.1.2, p.2)
def lkp {α : Type} (ps : List ((Nat × Nat) × α)) (s : Nat × Nat) : Option α := (ps.find? fun p => decide (p.1 = s)).map (·.2)
theorem ckS (a b l c : Nat) : CK.str.eq (.str a b) (.str l c) = some (decide ((a, b) = (l, c))) := by
  show some (band (Nat.beq a l) (Nat.beq b c)) = _
  congr 1; rw [band_eq, Bool.eq_iff_iff]; simp
theorem findK_str : ∀ (es : ME) (ps : List ((Nat × Nat) × V)) (s : Nat × Nat) (i : Nat), es.map (fun e => (e.1, e.2.1)) = ps.map (fun p => (V.str p.1.1 p.1.2, p.2)) →
    findK .str (.str s.1 s.2) es i = some ((lkp ps s).map fun v => (i + (ps.findIdx fun p => decide (p.1 = s)), v))
  | [], ps, s, i, h => by
    cases ps with
    | nil => rfl
    | cons p ps => simp at h
  | e :: es, ps, s, i, h => by
    cases ps with
    | nil => simp at h
    | cons p ps =>
      simp only [List.map_cons, List.cons.injEq, Prod.mk.injEq] at h
      obtain ⟨⟨h1, h2⟩, h3⟩ := h
      show gbind (CK.str.eq e.1 (.str s.1 s.2)) (fun r => Bool.rec (findK .str (.str s.1 s.2) es (Nat.succ i)) (some (some (i, e.2.1))) r) = _
      rw [h1, ckS, s_gbind, findK_str es ps s (i + 1) h3]
      by_cases hp : p.1 = s
      · have hd : decide ((p.1.1, p.1.2) = (s.1, s.2)) = true := decide_eq_true hp
        rw [hd]
        unfold lkp
        simp [hp, List.findIdx_cons, h2]
      · have hd : decide ((p.1.1, p.1.2) = (s.1, s.2)) = false := decide_eq_false hp
        rw [hd]
        unfold lkp
        simp only [List.find?_cons, hp, decide_false, List.findIdx_cons, cond_false]
        show some (Option.map (fun v => (i + 1 + List.findIdx (fun p => decide (p.fst = s)) ps, v)) _) = _
        congr 2; funext v; congr 1; omega
theorem withMap_is {H : Heap} {id : Nat} {es : ME} {ck : Nat} (h : T.get H id = some (.map es ck)) (f : ME → Nat → Option V) : withMap H (.map id) f = f es ck := by
  show (Option.rec (motive := fun _ => (ME → Nat → Option V) → Option V) (fun _ => none) mapB (T.get H id) f : Option V) = _
  rw [h]; rfl
def lookP (z : V) : Option V → V
  | some v => .tup [v, .bool true]
  | none => .tup [z, .bool false]
theorem look_map {H : Heap} {id : Nat} {ps : List ((Nat × Nat) × V)} (h : MapIs H id ps) (z : V) (s : Nat × Nat) :
    lookV .str true z (.map id) (.str s.1 s.2) H = some (lookP z (lkp ps s)) := by
  obtain ⟨es, ck, hg, he⟩ := h
  unfold lookV
  rw [withMap_is hg, findK_str es ps s 0 he, s_gbind]
  cases lkp ps s <;> rfl
/- a map with one more, or one turned -/
def put1 {α : Type} (s : Nat × Nat) (v : α) : List ((Nat × Nat) × α) → List ((Nat × Nat) × α)
  | [] => [(s, v)]
  | p :: ps => if p.1 = s then (s, v) :: ps else p :: put1 s v ps
theorem lkp_put1 {α : Type} (s : Nat × Nat) (v : α) : ∀ (ps : List ((Nat × Nat) × α)) (t : Nat × Nat), lkp (put1 s v ps) t = if s = t then some v else lkp ps t
  | [], t => by
    unfold put1 lkp
    by_cases h : s = t <;> simp [h]
  | p :: ps, t => by
    have ih := lkp_put1 s v ps t
    unfold put1
    by_cases h : p.1 = s
    · rw [if_pos h]
      by_cases h2 : s = t
      · simp [lkp, h2]
      · have h3 : ¬ p.1 = t := by rw [h]; exact h2
        simp [lkp, h2, h3]
    · rw [if_neg h]
      by_cases h2 : p.1 = t
      · have h3 : ¬ s = t := by intro e; exact h (h2.trans e.symm)
        simp [lkp, h2, h3]
      · unfold lkp at ih ⊢
        simp only [List.find?_cons, h2, decide_false]
        exact ih
theorem upd_map {H : Heap} {id : Nat} {ps : List ((Nat × Nat) × V)} (h : MapIs H id ps) (s : Nat × Nat) (v : V) {n : Nat} {k : KV}
    (hk : ∀ H', MapIs H' id (put1 s v ps) → (∀ j, j ≠ id → T.get H' j = T.get H j) → k .undef H' n) : updV .str (.map id) (.str s.1 s.2) v H n k := by
  obtain ⟨es, ck, hg, he⟩ := h
  show onO (T.get H id) (fun b => onO (mapBP b (updM .str (.str s.1 s.2) v)) fun b => k .undef (T.set H id b) n)
  rw [hg, s_onO]
  show onO (updM .str (.str s.1 s.2) v es ck) _
  unfold updM
  rw [findK_str es ps s 0 he, s_gbind]
  have key : ∀ (es : ME) (ps : List ((Nat × Nat) × V)), es.map (fun e => (e.1, e.2.1)) = ps.map (fun p => (V.str p.1.1 p.1.2, p.2)) →
      match lkp ps s with
      | none => (cat es [(V.str s.1 s.2, v, ck)]).map (fun e => (e.1, e.2.1)) = (put1 s v ps).map (fun p => (V.str p.1.1 p.1.2, p.2))
      | some _ => ∃ e, nth es (ps.findIdx fun p => decide (p.1 = s)) = some e ∧ (setnth (e.1, v, e.2.2) es (ps.findIdx fun p => decide (p.1 = s))).map (fun e => (e.1, e.2.1)) = (put1 s v ps).map (fun p => (V.str p.1.1 p.1.2, p.2)) := by
    intro es
    induction es with
    | nil => intro ps h; cases ps with
      | nil => rfl
      | cons p ps => simp at h
    | cons e es ih =>
      intro ps h
      cases ps with
      | nil => simp at h
      | cons p ps =>
        simp only [List.map_cons, List.cons.injEq, Prod.mk.injEq] at h
        obtain ⟨⟨h1, h2⟩, h3⟩ := h
        have ih := ih ps h3
        by_cases hp : p.1 = s
        · have : lkp (p :: ps) s = some p.2 := by simp [lkp, hp]
          rw [this]
          refine ⟨e, by simp [List.findIdx_cons, hp], ?_⟩
          simp only [put1, hp, if_true, List.findIdx_cons, decide_true, cond_true]
          show ((e.1, v, e.2.2) :: es).map (fun e => (e.1, e.2.1)) = _
          simp only [List.map_cons, h1, hp, h3]
        · have : lkp (p :: ps) s = lkp ps s := by simp [lkp, hp]
          rw [this]
          cases hl : lkp ps s with
          | none =>
            rw [hl] at ih
            simp only [put1, hp, if_false]
            show ((e :: cat es [(V.str s.1 s.2, v, ck)]).map fun e => (e.1, e.2.1)) = _
            simp only [List.map_cons, h1, h2]
            rw [show List.map (fun e => (e.fst, e.snd.fst)) (cat es [(V.str s.1 s.2, v, ck)]) = _ from ih]
          | some x =>
            rw [hl] at ih
            obtain ⟨e', he', hs⟩ := ih
            refine ⟨e', ?_, ?_⟩
            · simp only [List.findIdx_cons, hp, decide_false, cond_false]; exact he'
            · simp only [List.findIdx_cons, hp, decide_false, cond_false, put1, if_false]
              show (e :: setnth (e'.1, v, e'.2.2) es _).map (fun e => (e.1, e.2.1)) = _
              simp only [List.map_cons, h1, h2]
              rw [show List.map (fun e => (e.fst, e.snd.fst)) (setnth (e'.1, v, e'.2.2) es (List.findIdx (fun p => decide (p.fst = s)) ps)) = _ from hs]
  have key := key es ps he
  cases hl : lkp ps s with
  | none =>
    rw [hl] at key
    show onO (some (.map (cat es [(V.str s.1 s.2, v, ck)]) (Nat.succ ck))) (fun b => k .undef (T.set H id b) n)
    rw [s_onO]
    exact hk _ ⟨_, _, T.get_set .., key⟩ fun j hj => T.get_set_ne _ _ (Ne.symm hj)
  | some x =>
    rw [hl] at key
    obtain ⟨e, he', hs⟩ := key
    show onO (gbind (nth es (0 + ps.findIdx fun p => decide (p.1 = s))) fun e => some (.map (setnth (e.1, v, e.2.2) es (0 + ps.findIdx fun p => decide (p.1 = s))) ck)) (fun b => k .undef (T.set H id b) n)
    rw [Nat.zero_add, he', s_gbind, s_onO]
    exact hk _ ⟨_, _, T.get_set .., hs⟩ fun j hj => T.get_set_ne _ _ (Ne.symm hj)
end Go.Eng

/- The engine, part 64: parts of elements. -/
namespace Go.Eng
/- memory that was there: what is known of a piece is known of its parts -/
def GSub (G : Roms) : Prop := ∀ b o z L, G b o z = some L → L.length = z ∧ ∀ i m, 0 < m → i + m ≤ z → G b (o + i) m = some ((L.drop i).take m)
theorem ldC_eq (e off m : Nat) (L : LV) : ldC e off m L = if m = e ∧ off % e = 0 then some L else if off % e + m ≤ e then some ((L.drop (off % e)).take m) else none := by
  have e1 : ldC e off m L = Bool.rec (motive := fun _ => Option LV) (Bool.rec none (some (takeL m (dropL (off % e) L))) (Nat.ble (off % e + m) e)) (some L) (band (Nat.beq m e) (Nat.beq (off % e) 0)) := rfl
  rw [e1, takeL_eq, dropL_eq]
  by_cases h : m = e ∧ off % e = 0
  · have hb : band (Nat.beq m e) (Nat.beq (off % e) 0) = true := by simp only [band_eq, Bool.and_eq_true, beq_iff]; exact h
    rw [if_pos h, hb]
  · have hb : band (Nat.beq m e) (Nat.beq (off % e) 0) = false := by rw [Bool.eq_false_iff]; intro hc; simp only [band_eq, Bool.and_eq_true, beq_iff] at hc; exact h hc
    rw [if_neg h, hb]
    by_cases h2 : off % e + m ≤ e
    · rw [if_pos h2, show Nat.ble (off % e + m) e = true by rw [Nat.ble_eq]; exact h2]
    · rw [if_neg h2, show Nat.ble (off % e + m) e = false by rw [Bool.eq_false_iff]; intro hc; rw [Nat.ble_eq] at hc; exact h2 hc]
theorem ldB_some {e cnt off m : Nat} {t : T LV} {c : LV} (h : ldB e cnt t off m = some c) : ∃ L, off / e < cnt ∧ T.get t (off / e) = some L ∧ ldC e off m L = some c := by
  unfold ldB at h
  rw [gbind_some] at h
  obtain ⟨L, h1, h2⟩ := h
  cases hb : Nat.blt (Nat.div off e) cnt with
  | false => rw [hb] at h1; cases h1
  | true => rw [hb] at h1; exact ⟨L, by rw [Nat.blt_eq] at hb; exact hb, h1, h2⟩
theorem ldH_sub {H : Heap} {id off z o m : Nat} {c : LV} (h : ldH H id off z = some c) (hc : c.length = z) (hm : 0 < m) (ho : o + m ≤ z) : ldH H id (off + o) m = some ((c.drop o).take m) := by
  unfold ldH at h ⊢
  cases hb : T.get H id with
  | none => rw [hb] at h; cases h
  | some b =>
    rw [hb] at h
    cases b with
    | map _ _ => cases h
    | dead => cases h
    | arr e cnt t =>
      have h' : ldB e cnt t off z = some c := h
      show ldB e cnt t (off + o) m = _
      obtain ⟨L, h1, h2, h3⟩ := ldB_some h'
      rw [ldC_eq] at h3
      have key : off % e + z ≤ e ∧ c = (L.drop (off % e)).take z ∧ (z = e ∧ off % e = 0 → c = L) := by
        by_cases hh : z = e ∧ off % e = 0
        · rw [if_pos hh] at h3
          cases h3
          rw [hh.2, List.drop_zero, List.take_of_length_le (by omega)]
          exact ⟨by omega, rfl, fun _ => rfl⟩
        · rw [if_neg hh] at h3
          by_cases h4 : off % e + z ≤ e
          · rw [if_pos h4] at h3; exact ⟨h4, (Option.some.inj h3).symm, fun h => absurd h hh⟩
          · rw [if_neg h4] at h3; cases h3
      obtain ⟨hle, hcc, hcl⟩ := key
      have he : 0 < e := by omega
      have hlt : off % e + o < e := by omega
      have hoff : off + o = e * (off / e) + (off % e + o) := by have := Nat.div_add_mod off e; omega
      have hd : (off + o) / e = off / e := by rw [hoff, Nat.mul_add_div he, Nat.div_eq_of_lt hlt]; omega
      have hmo : (off + o) % e = off % e + o := by rw [hoff, Nat.mul_add_mod, Nat.mod_eq_of_lt hlt]
      unfold ldB
      rw [show Nat.div (off + o) e = off / e from hd, show Nat.blt (off / e) cnt = true by rw [Nat.blt_eq]; exact h1]
      show gbind (T.get t (off / e)) (ldC e (off + o) m) = _
      rw [h2, s_gbind, ldC_eq, hmo]
      have hL : z ≤ (L.drop (off % e)).length := by rw [hcc, List.length_take] at hc; omega
      by_cases hh : m = e ∧ off % e + o = 0
      · rw [if_pos hh, ← hcl ⟨by omega, by omega⟩, show o = 0 by omega, List.drop_zero, List.take_of_length_le (by omega)]
      · rw [if_neg hh, if_pos (by omega), hcc, List.drop_take, List.take_take, List.drop_drop, Nat.min_eq_left (by omega)]
theorem ldP_sub {G : Roms} (hG : GSub G) {H : Heap} {p : V} {z o m : Nat} {c : LV} (h : ldP p G H z = some c) (hc : c.length = z) (hm : 0 < m) (ho : o + m ≤ z) :
    ∃ p', paddV o p = some p' ∧ ldP p' G H m = some ((c.drop o).take m) := by
  cases p <;> try (cases h; done)
  · rename_i id off; exact ⟨_, s_padd .., ldH_sub h hc hm ho⟩
  · rename_i b off; exact ⟨_, s_paddg .., (hG b off z c h).2 o m hm ho⟩
theorem ldP_sub1 {G : Roms} (hG : GSub G) {H : Heap} {p : V} {z o : Nat} {c : LV} {x : V} (h : ldP p G H z = some c) (hc : c.length = z) (ho : c[o]? = some x) :
    ∃ p', paddV o p = some p' ∧ ld1V p' G H = some x := by
  obtain ⟨hlt, he⟩ := List.getElem?_eq_some_iff.1 ho
  obtain ⟨p', h1, h2⟩ := ldP_sub hG h hc (o := o) (m := 1) (by omega) (by omega)
  refine ⟨p', h1, ?_⟩
  rw [s_ld1, h2, s_lbind, nth_eq, List.getElem?_take]
  simp [ho]
/- appending to what was written out -/
theorem lit_app {G : Roms} {H : Heap} {n id m z bs : Nat} {t : T LV} {w : V} {LS NS : LLV} {k : KV} (hz : 0 < z) (hb : T.get H id = some (.arr z m t)) (hid : id < n) (h : elems (.sl id 0 m m z) G H z = some LS)
    (hw : elems w G H z = some NS) (hr : (m + NS.length) * bs ≤ 140737488355328)
    (hk : ∀ v' H' n', El G H' v' z (LS ++ NS) → (∀ j, j < n → T.get H' j = T.get H j) → n ≤ n' → (∀ j, v'.sid = some j → j < n') → k v' H' n') : appV z bs (.sl id 0 m m z) w G H n k := by
  unfold appV
  rw [hw, s_onO]
  have h2 : (Bool.rec (motive := fun _ => Option LLV) none (elemsB H id z m 0) (Nat.beq z z) : Option LLV) = some LS := h
  rw [beq_self'] at h2
  have h2 : elemsB H id z m 0 = some LS := h2
  obtain ⟨hl, hat⟩ := elemsB_get _ _ h2
  have e0 : appE (.sl id 0 m m z) G z bs NS H n k = Bool.rec (motive := fun _ => Prop) (onO (elemsB H id z m 0) fun OS => appNew z bs OS NS H n k) (onO (T.get H id) fun b => appIn id 0 m m z (m + NS.length) NS H n k b) (Nat.ble (m + NS.length) m) := by
    show onB (Nat.beq z z) (forceP (Nat.add m (len NS)) fun need => Bool.rec (motive := fun _ => Prop) (onO (elemsB H id z m 0) fun OS => appNew z bs OS NS H n k) (onO (T.get H id) fun b => appIn id 0 m m z need NS H n k b) (Nat.ble need m)) = _
    rw [beq_self', s_onB, forceP_eq, len_eq]; rfl
  rw [e0]
  by_cases hN : NS.length = 0
  · have : NS = [] := List.length_eq_zero_iff.1 hN
    subst this
    rw [show Nat.ble (m + ([] : LLV).length) m = true by rw [Nat.ble_eq]; exact Nat.le_refl _]
    show onO (T.get H id) (fun b => appIn id 0 m m z (m + 0) [] H n k b)
    rw [hb, s_onO]
    show onB (band (Nat.beq z z) (Nat.ble (Nat.add 0 (m + 0)) m)) (k (.sl id 0 (m + 0) m z) (T.set H id (.arr z m t)) n)
    rw [beq_self', show Nat.ble (Nat.add 0 (m + 0)) m = true by rw [Nat.ble_eq]; show 0 + m ≤ m; omega]
    have hs : ∀ j, T.get (T.set H id (.arr z m t)) j = T.get H j := fun j => by
      rw [T.get_set_if]; split
      · rename_i e; subst e; exact hb.symm
      · rfl
    rw [List.append_nil] at hk
    exact hk _ _ _ ((show El G H (.sl id 0 m m z) z LS from ⟨rfl, h⟩).same fun j _ => hs j) (fun j _ => hs j) (Nat.le_refl _) (fun j hj => by cases hj; exact hid)
  · rw [show Nat.ble (m + NS.length) m = false by rw [Bool.eq_false_iff]; intro hc; rw [Nat.ble_eq] at hc; omega]
    show onO (elemsB H id z m 0) (fun OS => appNew z bs OS NS H n k)
    rw [h2, s_onO]
    show forceP (Nat.add (len LS) (len NS)) (fun need => onB (roomOk need bs) (forceP n fun n => k (.gsl n 0 need z) (T.set H n (.arr z need (setEs NS (len LS) (setEs LS 0 .e)))) (Nat.succ n)))
    rw [forceP_eq, forceP_eq, len_eq, len_eq, show roomOk (Nat.add LS.length NS.length) bs = true from roomOk_of (by rw [hl]; exact hr), s_onB]
    have e : Nat.add LS.length NS.length = (LS ++ NS).length := by rw [List.length_append]; rfl
    rw [e]
    refine hk _ _ _ (Gr.el (m := n) (.gsl (LS := LS ++ NS) (T.get_set ..) (Nat.le_refl _) (fun i L hi => ?_) (Nat.le_refl _)) hz) (fun j hj => T.get_set_ne _ _ (by omega)) (by omega) (fun j hj => by cases hj; omega)
    rw [setEs_get, setEs_get]
    by_cases hlt : i < LS.length
    · rw [if_neg (by omega), if_pos ⟨Nat.zero_le _, by omega⟩]
      rw [List.getElem?_append_left hlt] at hi
      exact hi
    · rw [List.getElem?_append_right (by omega)] at hi
      have hlt2 := (List.getElem?_eq_some_iff.1 hi).1
      rw [if_pos ⟨by omega, by omega⟩]; exact hi
theorem s_mkmap {H : Heap} {n : Nat} {P : KV} : onA (aMkmap E0) H n P = P (.map n) (T.set H n (.map [] 0)) (n + 1) := by
  show forceP n (fun n => P (.map n) (T.set H n (.map [] 0)) (Nat.succ n)) = _
  rw [forceP_eq]
theorem sub1_n {m : Nat} (h : m + 1 < 9223372036854775808) : B2.ev .sub (.int .i64 (.ofNat (m + 1)) 0) (.int .i64 (.ofNat 1) 0) = some (.int .i64 (.ofNat m) 0) := by
  show some (V.int .i64 (wrapI .i64 (iadd (.ofNat (m + 1)) (Int.neg (.ofNat 1)))) 0) = _
  rw [wrapI_eq, iadd_eq]
  have e : Int.ofNat (m + 1) + Int.neg (Int.ofNat 1) = Int.ofNat m := by show ((m + 1 : Nat) : Int) + -((1 : Nat) : Int) = (m : Int); omega
  rw [e, wrap64_id (by show (-9223372036854775808 : Int) ≤ (m : Int); omega) (by show (m : Int) < 9223372036854775808; omega)]
end Go.Eng

/- The engine, part 65: what is read out of memory that was there. -/
namespace Go.Eng
open Go.ChangeShapes Go.WideShapes Go.RowKit
/- shapes of types -/
inductive Sh where
  | int (k : IntKind) | bool | str | sl (z : Nat) (t : Sh) | st (l : List Sh)
/- a slice's value, of memory that was there -/
def RSl (v : V) (n : Nat) : Prop := (v = .nils ∧ n = 0) ∨ ∃ b o c, v = .rsl b o n c 0 ∧ n ≤ c ∧ c ≤ maxLen
mutual
def Fits (G : Roms) : Sh → LV → Prop
  | .int k, vs => ∃ n, vs = [.int k n 0]
  | .bool, vs => ∃ b, vs = [.bool b]
  | .str, vs => ∃ s : List UInt8, s.length ≤ maxLen ∧ vs = [.str s.length (enc s)]
  | .sl z t, vs => ∃ v LS, vs = [v] ∧ RSl v LS.length ∧ (∀ H, El G H v z LS) ∧ LS.length ≤ maxLen ∧ ∀ L ∈ LS, L.length = z ∧ Fits G t L
  | .st ts, vs => FitsL G ts vs
def FitsL (G : Roms) : List Sh → LV → Prop
  | [], vs => vs = []
  | t :: ts, vs => ∃ L vs', vs = L ++ vs' ∧ Fits G t L ∧ FitsL G ts vs'
end
def shapeT (P : Program) : Nat → TypeId → Option Sh
  | 0, _ => none
  | d + 1, t => match P.underlying t with
    | some (.int k) => some (.int k)
    | some .bool => some .bool
    | some .string => some .str
    | some (.slice e) => if P.cellsOf e = 0 then none else (shapeT P d e).map (.sl (P.cellsOf e))
    | some (.struct fs) => if consec 0 (fs.toList.map fun f => (f.offset, P.cellsOf f.type)) (P.cellsOf t) = true then (fs.toList.mapM fun f => shapeT P d f.type).map .st else none
    | _ => none
/- pieces of memory that was there -/
theorem romsOf_len {W : World} {b o n : Nat} {L : LV} (h : romsOf W b o n = some L) : L.length = n := by
  unfold romsOf at h
  split at h
  · cases h; simp
  · cases h
theorem romsOf_sub (W : World) : GSub (romsOf W) := by
  intro b o z L h
  refine ⟨romsOf_len h, fun i m hm hi => ?_⟩
  unfold romsOf at h ⊢
  split at h
  · rename_i hc
    cases h
    rw [if_pos]
    · congr 1
      apply List.ext_getElem?
      intro j
      rw [List.getElem?_take]
      by_cases hj : j < m
      · rw [if_pos hj, List.getElem?_drop, List.getElem?_map, List.getElem?_map, List.getElem?_range hj, List.getElem?_range (by omega), Option.map_some, Option.map_some, Nat.add_assoc]
      · rw [if_neg hj, List.getElem?_eq_none (by simp; omega)]
    · intro j hj
      have := hc (i + j) (by omega)
      rwa [← Nat.add_assoc] at this
  · cases h
theorem elemsG_mk {G : Roms} {b z : Nat} : ∀ (n o : Nat) (LS : LLV), LS.length = n → (∀ i c, LS[i]? = some c → G b (o + i * z) z = some c) → elemsG G b z n o = some LS
  | 0, o, LS, hl, _ => by cases LS with | nil => rfl | cons a l => simp at hl
  | n + 1, o, LS, hl, h => by
    cases LS with
    | nil => simp at hl
    | cons a l =>
      show gbind (G b o z) (fun L => gbind (elemsG G b z n (Nat.add o z)) fun LS => some (L :: LS)) = _
      have h0 := h 0 a rfl
      rw [Nat.zero_mul, Nat.add_zero] at h0
      rw [h0, s_gbind, show Nat.add o z = o + z from rfl, elemsG_mk n (o + z) l (by simpa using hl) fun i c hc => by
        have := h (i + 1) c (by simpa using hc); rwa [show o + (i + 1) * z = o + z + i * z by rw [Nat.add_mul]; omega] at this]
      rfl
theorem El_rsl {G : Roms} {H : Heap} {b o c z : Nat} {LS : LLV} (h : ∀ i L, LS[i]? = some L → G b (o + i * z) z = some L) {e : Nat} : El G H (.rsl b o LS.length c e) z LS :=
  ⟨rfl, elemsG_mk _ _ _ rfl h⟩
theorem flatten_fits {G : Roms} : ∀ {ts : List Sh} {ls : List LV}, All2 (fun t l => Fits G t l) ts ls → FitsL G ts ls.flatten
  | _, _, .nil => rfl
  | _, _, .cons h t => ⟨_, _, by simp, h, flatten_fits t⟩
theorem mapM_all2 {α β γ : Type} {f : α → Option β} {R : β → γ → Prop} {g : α → γ} : ∀ {l : List α} {r : List β}, l.mapM f = some r → (∀ a b, a ∈ l → f a = some b → R b (g a)) → All2 R r (l.map g)
  | [], r, h, _ => by simp at h; subst h; exact .nil
  | a :: l, r, h, hR => by
    rw [List.mapM_cons] at h
    cases hfa : f a with
    | none => rw [hfa] at h; cases h
    | some b =>
      rw [hfa] at h
      cases hr : l.mapM f with
      | none => simp [hr] at h
      | some r' =>
        simp [hr] at h; subst h
        exact .cons (hR a b (List.mem_cons_self ..) hfa) (mapM_all2 hr fun a b ha hb => hR a b (List.mem_cons_of_mem _ ha) hb)
theorem cells_get {w : World} {base n : Nat} {a : Addr} {cs : List Value} (h : w.cells? base a n = some cs) : cs.length = n ∧ ∀ j u, cs[j]? = some u → w.cell? (a.add j) = some u := by
  unfold World.cells? at h
  split at h
  · have hl := mapM_some_length h
    refine ⟨by simpa using hl, fun j u hj => ?_⟩
    have hlt : j < n := by have := (List.getElem?_eq_some_iff.1 hj).1; simp at hl; omega
    have := mapM_some_get h j j (by rw [List.getElem?_range hlt])
    rw [this, hj]
  · cases h
theorem add_off {a : Addr} (h : a.spot = none) (k : Nat) : a.add k = ⟨a.block, a.off + k, none⟩ := by
  obtain ⟨b, o, s⟩ := a; cases h; exact add_lit b o k
theorem cell_spot {w : World} {a : Addr} {u : Value} (h : w.cell? a = some u) : a.spot = none := by
  unfold World.cell? at h
  split at h
  · split at h
    · cases h
    · rename_i hs; cases hc : a.spot <;> simp_all
  · cases h
theorem read_fits {P : Program} {w : World} {H : Type} {enc' : TypeId × Value → H} {held : Bool} : ∀ (fuel : Nat) {t : TypeId} {cs : List Value} {x : DataW H × List MemPlace} {m : Nat} {sh : Sh}, DataW.trod enc' P w 0 (fun _ => true) held fuel t cs = some x → shapeT P m t = some sh →
    Fits (romsOf w) sh (cs.map toV) ∧ (∀ u ∈ cs, u.oneCell' = true)
  | 0, _, _, _, _, _, h, _ => by simp [DataW.trod] at h
  | fuel + 1, t, cs, x, 0, sh, h, hs => by cases hs
  | fuel + 1, t, cs, x, m + 1, sh, h, hs => by
    simp only [shapeT] at hs
    split at hs
    · rename_i k hu
      obtain ⟨i, rfl, e, _⟩ := DataW.trod_int hu h
      cases hs
      exact ⟨⟨i, rfl⟩, fun u hu => by simp at hu; subst hu; rfl⟩
    · rename_i hu
      obtain ⟨i, rfl, e⟩ := DataW.trod_bool hu h
      cases hs
      exact ⟨⟨i, rfl⟩, fun u hu => by simp at hu; subst hu; rfl⟩
    · rename_i hu
      obtain ⟨s, rfl, e, hle⟩ := DataW.trod_string hu h
      cases hs
      exact ⟨⟨s.data.toList, by simpa using hle, rfl⟩, fun u hu => by simp at hu; subst hu; rfl⟩
    · rename_i e hu
      split at hs
      · cases hs
      rename_i hz
      cases hsh : shapeT P m e with
      | none => rw [hsh] at hs; cases hs
      | some sh' =>
      rw [hsh] at hs
      cases hs
      rcases DataW.trod_slice hu h with ⟨rfl, _⟩ | ⟨a, len, cap, elems, rest, n, hn, rfl, _, _, hle, hcap, hlen, hel, hsp, _⟩
      · refine ⟨⟨.nils, [], ?_, .inl ⟨rfl, rfl⟩, fun H => ⟨rfl, rfl⟩, Nat.zero_le _, fun L hL => by cases hL⟩, fun u hu => by simp at hu; subst hu; rfl⟩
        simp [toV]
      · have hn' : fuel = n := by omega
        subst hn'
        obtain ⟨hrl, hrest⟩ := hsp rfl
        refine ⟨?_, fun u hu => by simp at hu; subst hu; rfl⟩
        have each : ∀ i, i < cap → ∃ cs', w.cells? 0 (a.add (i * P.cellsOf e)) (P.cellsOf e) = some cs' ∧ (i < len → Fits (romsOf w) sh' (cs'.map toV) ∧ ∀ u ∈ cs', u.oneCell' = true) := by
          intro i hi
          by_cases hil : i < len
          · have h1 := hel i hil
            rw [List.getElem?_eq_getElem (by omega)] at h1
            cases hc : w.cells? 0 (a.add (i * P.cellsOf e)) (P.cellsOf e) with
            | none => rw [hc] at h1; cases h1
            | some cs' =>
              rw [hc] at h1
              exact ⟨cs', rfl, fun _ => read_fits fuel h1 hsh⟩
          · have h1 := hrest (i - len) (by omega)
            rw [List.getElem?_eq_getElem (by omega), show len + (i - len) = i by omega] at h1
            cases hc : w.cells? 0 (a.add (i * P.cellsOf e)) (P.cellsOf e) with
            | none => rw [hc] at h1; cases h1
            | some cs' => exact ⟨cs', rfl, fun h => absurd h hil⟩
        have hspot : cap = 0 ∨ a.spot = none := by
          rcases Nat.eq_zero_or_pos cap with h0 | h0
          · exact .inl h0
          · obtain ⟨cs', hc, _⟩ := each 0 h0
            obtain ⟨hl, hg⟩ := cells_get hc
            have h0 := hg 0 _ (List.getElem?_eq_getElem (by omega))
            have := cell_spot h0
            simp only [Nat.zero_mul] at this
            unfold Addr.add at this
            simp only [if_true] at this
            exact .inr this
        have htv : toV (.slice (some a) len cap) = .rsl a.block a.off len cap 0 := by
          simp only [toV]; rw [if_pos ⟨hle, hspot⟩]
        let LS : LLV := (List.range len).map fun i => ((w.cells? 0 (a.add (i * P.cellsOf e)) (P.cellsOf e)).getD []).map toV
        have hLS : LS.length = len := by simp [LS]
        have get : ∀ i L, LS[i]? = some L → i < len ∧ ∃ cs', w.cells? 0 (a.add (i * P.cellsOf e)) (P.cellsOf e) = some cs' ∧ L = cs'.map toV := by
          intro i L hi
          have hlt := (List.getElem?_eq_some_iff.1 hi).1
          rw [hLS] at hlt
          simp only [LS, List.getElem?_map, List.getElem?_range hlt, Option.map_some, Option.some.injEq] at hi
          obtain ⟨cs', hc, _⟩ := each i (by omega)
          rw [hc] at hi
          exact ⟨hlt, cs', hc, hi.symm⟩
        refine ⟨.rsl a.block a.off len cap 0, LS, by simp [htv], .inr ⟨_, _, _, by rw [hLS], by omega, hcap⟩, fun H => ?_, by omega, ?_⟩
        · rw [← hLS]
          refine El_rsl fun i L hi => ?_
          obtain ⟨hlt, cs', hc, rfl⟩ := get i L hi
          obtain ⟨hl, hg⟩ := cells_get hc
          have hsn : a.spot = none := by rcases hspot with h | h; omega; exact h
          obtain ⟨cs2, hc2, hf⟩ := each i (by omega)
          rw [hc] at hc2; cases hc2
          refine romsOf_some hl (hf hlt).2 fun j u hj => ?_
          have := hg j u hj
          rw [add_off hsn, add_lit] at this
          exact this
        · intro L hL
          obtain ⟨i, hi⟩ := List.mem_iff_getElem?.1 hL
          obtain ⟨hlt, cs', hc, rfl⟩ := get i L hi
          obtain ⟨cs2, hc2, hf⟩ := each i (by omega)
          rw [hc] at hc2; cases hc2
          exact ⟨by simp [(cells_get hc).1], (hf hlt).1⟩
    · rename_i fs hu
      split at hs
      · rename_i hcon
        cases hm : fs.toList.mapM (fun f => shapeT P m f.type) with
        | none => rw [hm] at hs; cases hs
        | some shs =>
        rw [hm] at hs
        cases hs
        obtain ⟨xs, n', hfe, e, hlen, hxl, hel⟩ := DataW.trod_struct hu h
        have hfe' : fuel = n' := by omega
        subst hfe'
        have hflat := consec_flat cs _ 0 (by rw [hlen]; exact hcon)
        simp only [List.drop_zero, List.map_map] at hflat
        have each : ∀ (f : Field) (sh : Sh), f ∈ fs.toList → shapeT P m f.type = some sh → Fits (romsOf w) sh (((cs.drop f.offset).take (P.cellsOf f.type)).map toV) ∧ ∀ u ∈ (cs.drop f.offset).take (P.cellsOf f.type), u.oneCell' = true := by
          intro f sh hf hsh
          obtain ⟨i, hi⟩ := List.mem_iff_getElem?.1 hf
          have h1 := hel i f (by simpa using hi)
          have hil : i < xs.length := by rw [hxl]; simpa using (List.getElem?_eq_some_iff.1 hi).1
          rw [List.getElem?_eq_getElem hil] at h1
          exact read_fits fuel h1 hsh
        constructor
        · show FitsL (romsOf w) shs _
          have := flatten_fits (mapM_all2 (R := fun t l => Fits (romsOf w) t l) (g := fun f => ((cs.drop f.offset).take (P.cellsOf f.type)).map toV) hm fun f b hf hb => (each f b hf hb).1)
          have e2 : cs.map toV = (fs.toList.map fun f => ((cs.drop f.offset).take (P.cellsOf f.type)).map toV).flatten := by
            conv => lhs; rw [hflat]
            rw [List.map_flatten, List.map_map]; rfl
          rw [e2]; exact this
        · intro u hu'
          rw [hflat] at hu'
          obtain ⟨l, hl, hul⟩ := List.mem_flatten.1 hu'
          obtain ⟨f, hf, rfl⟩ := List.mem_map.1 hl
          obtain ⟨sh', hsh'⟩ := mapM_get hm f hf
          exact (each f sh' hf hsh').2 u hul
      · cases hs
    · cases hs
/- a table in memory, as it is laid -/
def plainV : V → Bool
  | .int _ _ b => Nat.beq b 0
  | .bool _ => true
  | .str _ _ => true
  | _ => false
theorem toV_of {ρ : Loc} {v : V} {u : Value} (h : VRel ρ v u) (hp : plainV v = true) : toV u = v := by
  cases v <;> try (cases hp; done)
  · rename_i k n s
    have : s = 0 := Nat.eq_of_beq_eq_true hp
    subst this
    simp only [VRel] at h; subst h; rfl
  · simp only [VRel] at h; subst h; rfl
  · simp only [VRel] at h
    obtain ⟨s, rfl, h1, h2⟩ := h
    subst h1; subst h2; rfl
theorem romsOf_tab {W : World} {g : Nat} {cs : List Value} {tab : LV} (hc : ∀ i, W.cell? ⟨g, i, none⟩ = cs[i]?) (hr : LRel (fun _ => none) tab cs) (h1 : ∀ u ∈ cs, u.oneCell' = true) (hp : tab.all plainV = true) {o n : Nat} (hl : o + n ≤ tab.length) :
    romsOf W g o n = some ((tab.drop o).take n) := by
  obtain ⟨hlen, hget⟩ := (LRel_iff tab cs).1 hr
  rw [romsOf_some (cs := (cs.drop o).take n) (by simp; omega) (fun u hu => h1 u (List.mem_of_mem_drop (List.mem_of_mem_take hu))) fun j u hj => ?_]
  · congr 1
    apply List.ext_getElem?
    intro j
    rw [List.getElem?_map, List.getElem?_take, List.getElem?_take]
    by_cases hj : j < n
    · rw [if_pos hj, if_pos hj, List.getElem?_drop, List.getElem?_drop]
      have hlt : o + j < tab.length := by omega
      rw [List.getElem?_eq_getElem hlt, List.getElem?_eq_getElem (by omega), Option.map_some]
      congr 1
      exact toV_of (hget _ _ _ (List.getElem?_eq_getElem hlt) (List.getElem?_eq_getElem (by omega))) (List.all_eq_true.1 hp _ (List.getElem_mem hlt))
    · rw [if_neg hj, if_neg hj]; rfl
  · rw [List.getElem?_take] at hj
    split at hj
    · rw [List.getElem?_drop] at hj; rw [hc]; exact hj
    · cases hj
end Go.Eng

/- The engine, part 66: what isn't asked is passed over. -/
namespace Go.Eng
section
variable {e : Option V} {P : V → Prop} {Q : KV} {t : KV → Prop} {H : Heap} {n : Nat} {a b : V}
theorem gs_t (h : P (.tup [])) : onG (.bool true) false e P := h
theorem gs_f (h : P (.tup [])) : onG (.bool false) true e P := h
theorem gsT_t (h : Q (.tup []) H n) : onGT (.bool true) false t H n Q := h
theorem gsT_f (h : Q (.tup []) H n) : onGT (.bool false) true t H n Q := h
theorem gp_t (h : P a) : onV (pickV (.bool true) a b) P := h
theorem gp_f (h : P b) : onV (pickV (.bool false) a b) P := h
end
end Go.Eng

/- The engine, part 67: strings by their bytes. -/
namespace Go.Eng
/- a string by its bytes -/
def sB (l : List UInt8) : V := .str l.length (enc l)
theorem b_len (l : List UInt8) : lenSV (sB l) = some (.int .i64 (.ofNat l.length) 0) := rfl
theorem b_idx {l : List UInt8} {i : Nat} (h : i < l.length) : idxSV (sB l) (.int .i64 (.ofNat i) 0) = some (.int .u8 (.ofNat (l[i]).toNat) 0) := by
  show guardO (Nat.blt i l.length) (forceN (sget (enc l) i) fun b => some (.int .u8 (.ofNat b) 0)) = _
  rw [show Nat.blt i l.length = true by rw [Nat.blt_eq]; exact h, forceN_eq, sget_enc l i h]; rfl
theorem b_sub {l : List UInt8} {a b : Nat} (h1 : a ≤ b) (h2 : b ≤ l.length) : slcSV (sB l) E0 (some (.c (.int .i64 (.ofNat a) 0))) (some (.c (.int .i64 (.ofNat b) 0))) = some (sB ((l.drop a).take (b - a))) := by
  show guardO (band (Nat.ble a b) (Nat.ble b l.length)) (forceN (b - a) fun d => forceN (ssub (enc l) a b) fun c => forceN 0 fun _ => some (.str d c)) = _
  rw [show Nat.ble a b = true by rw [Nat.ble_eq]; exact h1, show Nat.ble b l.length = true by rw [Nat.ble_eq]; exact h2, forceN_eq, forceN_eq, forceN_eq, ssub_enc]
  have : ((l.drop a).take (b - a)).length = b - a := by rw [List.length_take, List.length_drop]; omega
  show some (V.str (b - a) (enc ((l.drop a).take (b - a)))) = _
  unfold sB; rw [this]
theorem b_from {l : List UInt8} {a : Nat} (h : a ≤ l.length) : slcSV (sB l) E0 (some (.c (.int .i64 (.ofNat a) 0))) none = some (sB (l.drop a)) := by
  show guardO (band (Nat.ble a l.length) (Nat.ble l.length l.length)) (forceN (l.length - a) fun d => forceN (ssub (enc l) a l.length) fun c => forceN 0 fun _ => some (.str d c)) = _
  rw [show Nat.ble a l.length = true by rw [Nat.ble_eq]; exact h, show Nat.ble l.length l.length = true by rw [Nat.ble_eq]; exact Nat.le_refl _, forceN_eq, forceN_eq, forceN_eq, ssub_enc]
  have e : (l.drop a).take (l.length - a) = l.drop a := List.take_of_length_le (by rw [List.length_drop]; omega)
  rw [e]
  have : (l.drop a).length = l.length - a := by rw [List.length_drop]
  show some (V.str (l.length - a) (enc (l.drop a))) = _
  unfold sB; rw [this]
theorem b_to {l : List UInt8} {b : Nat} (h : b ≤ l.length) : slcSV (sB l) E0 none (some (.c (.int .i64 (.ofNat b) 0))) = some (sB (l.take b)) := by
  show guardO (band (Nat.ble 0 b) (Nat.ble b l.length)) (forceN (b - 0) fun d => forceN (ssub (enc l) 0 b) fun c => forceN 0 fun _ => some (.str d c)) = _
  rw [show Nat.ble 0 b = true by rw [Nat.ble_eq]; omega, show Nat.ble b l.length = true by rw [Nat.ble_eq]; exact h, forceN_eq, forceN_eq, forceN_eq, ssub_enc]
  have : ((l.drop 0).take (b - 0)).length = b - 0 := by rw [List.length_take, List.length_drop]; omega
  show some (V.str (b - 0) (enc ((l.drop 0).take (b - 0)))) = _
  unfold sB; rw [List.drop_zero, Nat.sub_zero, show (l.take b).length = b by rw [List.length_take]; omega]
theorem b_iff (a b : List UInt8) : (a.length = b.length ∧ enc a = enc b) ↔ a = b := ⟨fun h => enc_inj a b h.1 h.2, fun h => by subst h; exact ⟨rfl, rfl⟩⟩
theorem b_eq (a b : List UInt8) : eqV (.one .str) false (sB a) (sB b) = some (.bool (decide (a = b))) := by
  unfold sB; rw [eq_s]; congr 2; rw [decide_eq_decide]; exact b_iff a b
theorem b_ne (a b : List UInt8) : eqV (.one .str) true (sB a) (sB b) = some (.bool (!decide (a = b))) := by
  show ofB (bbind (some (band (Nat.beq a.length b.length) (Nat.beq (enc a) (enc b)))) fun b => some (bnot b)) = _
  have : band (Nat.beq a.length b.length) (Nat.beq (enc a) (enc b)) = decide (a = b) := by rw [band_eq, Bool.eq_iff_iff, decide_eq_true_iff, ← b_iff]; simp
  rw [this]; cases decide (a = b) <;> rfl
theorem b_cat {a b : List UInt8} (h : a.length + b.length < 9223372036854775808) : B2.ev .add (sB a) (sB b) = some (sB (a ++ b)) := by
  show guardO (Nat.blt (a.length + b.length) 9223372036854775808) (forceN (a.length + b.length) fun n => forceN (scat a.length (enc a) (enc b)) fun e => some (.str n e)) = _
  rw [show Nat.blt (a.length + b.length) 9223372036854775808 = true by rw [Nat.blt_eq]; exact h, forceN_eq, forceN_eq, scat_enc]
  unfold sB; rw [List.length_append]; rfl
theorem okC_sB (l : List UInt8) : okC (sB l) = true := rfl
theorem vc_sB (l : List UInt8) : vcells (sB l) = [sB l] := rfl
theorem w_boxb (l : List UInt8) (H : Heap) (n : Nat) (P : KV) : onA (aBoxV (sB l)) H n P = P (.ptr n 0) (T.set H n (one [sB l])) (n + 1) := s_box rfl
/- the place of a byte -/
def findB (b : Nat) : List UInt8 → Nat → Int
  | [], _ => .negSucc 0
  | c :: l, i => bif decide (c.toNat = b) then .ofNat i else findB b l (i + 1)
theorem idxByF_find (b : Nat) : ∀ (l : List UInt8) (i : Nat), idxByF b l.length (enc l) i = findB b l i
  | [], i => rfl
  | c :: l, i => by
    have ha : c.toNat < 256 := c.toNat_lt
    have e1 : enc (c :: l) % 256 = c.toNat := by simp only [enc]; omega
    have e2 : enc (c :: l) / 256 = enc l := by simp only [enc]; omega
    have e : idxByF b (c :: l).length (enc (c :: l)) i = Bool.rec (idxByF b l.length (enc (c :: l) / 256) (i + 1)) (.ofNat i) (Nat.beq (enc (c :: l) % 256) b) := rfl
    rw [e, e1, e2, idxByF_find b l (i + 1)]
    rw [show findB b (c :: l) i = bif decide (c.toNat = b) then .ofNat i else findB b l (i + 1) from rfl]
    by_cases h : c.toNat = b
    · rw [show Nat.beq c.toNat b = true by rw [beq_iff]; exact h]; simp [h]
    · rw [show Nat.beq c.toNat b = false by rw [Bool.eq_false_iff]; intro hc; rw [beq_iff] at hc; exact h hc]; simp [h]
theorem b_by {l : List UInt8} {b : Nat} (hb : b < 256) : idxByV (sB l) (.int .u8 (.ofNat b) 0) = some (.int .i64 (findB b l 0) 0) := by
  show guardO true (guardO (Nat.blt b 256) (forceIV (idxByF b l.length (enc l) 0) fun i => some (.int .i64 i 0))) = _
  rw [show Nat.blt b 256 = true by rw [Nat.blt_eq]; exact hb, idxByF_find]; rfl
/- its bytes -/
def bytesC (l : List UInt8) : LLV := l.map fun c => [.int .u8 (.ofNat c.toNat) 0]
theorem bytesL_enc : ∀ l : List UInt8, bytesL l.length (enc l) = bytesC l
  | [] => rfl
  | c :: l => by
    have ha : c.toNat < 256 := c.toNat_lt
    have e1 : enc (c :: l) % 256 = c.toNat := by simp only [enc]; omega
    have e2 : enc (c :: l) / 256 = enc l := by simp only [enc]; omega
    show [V.int .u8 (.ofNat (enc (c :: l) % 256)) 0] :: bytesL l.length (enc (c :: l) / 256) = _
    rw [e1, e2, bytesL_enc l]; rfl
theorem b_bytes {G : Roms} {l : List UInt8} {H : Heap} {n : Nat} {k : KV} (h : ∀ H' v, Kp H n H' (n + 1) → El G H' v 1 (bytesC l) → k v H' (n + 1)) : cvBV (sB l) H n k := by
  show forceP n fun n => k (.gsl n 0 l.length 1) (T.set H n (.arr 1 l.length (setEs (bytesL l.length (enc l)) 0 .e))) (Nat.succ n)
  rw [forceP_eq, bytesL_enc]
  have hl : (bytesC l).length = l.length := List.length_map ..
  refine h _ _ ((Kp.refl H n).new _ (Nat.le_refl _) (by omega)) ?_
  rw [← hl]
  refine Gr.el (m := n) (.gsl (LS := bytesC l) (T.get_set ..) (Nat.le_refl _) (fun i L hi => ?_) (Nat.le_refl _)) (by omega)
  have hlt := (List.getElem?_eq_some_iff.1 hi).1
  rw [setEs_get, if_pos ⟨Nat.zero_le _, by omega⟩]; exact hi
end Go.Eng

/- The engine, part 68: what the contracts of more than one set want. -/
namespace Go.Eng
/- guards whose test isn't known -/
theorem s_gB (b : Bool) (x : V) (P : V → Prop) : onG (.bool b) true (some x) P = P (bif b then x else .tup []) := by cases b <;> rfl
theorem s_gBf (b : Bool) (x : V) (P : V → Prop) : onG (.bool b) false (some x) P = P (bif b then .tup [] else x) := by cases b <;> rfl
theorem s_pickB (b : Bool) (x y : V) : pickV (.bool b) x y = some (bif b then x else y) := by cases b <;> rfl
theorem s_notB (b : Bool) : notV (.bool b) = some (.bool (!b)) := s_not b
/- numbers -/
theorem geq_n (q : IntKind) (a b : Nat) : B2.ev .geq (.int q (.ofNat a) 0) (.int q (.ofNat b) 0) = some (.bool (decide (b ≤ a))) := by
  show guardO (band (keq q q) true) (mkB (ile (.ofNat b) (.ofNat a))) = _
  rw [mkB_eq, ile_eq, show band (keq q q) true = true by simp [keq_eq], show decide (Int.ofNat b ≤ Int.ofNat a) = decide (b ≤ a) by rw [decide_eq_decide]; show (b : Int) ≤ a ↔ _; omega]; rfl
theorem leq_n (q : IntKind) (a b : Nat) : B2.ev .leq (.int q (.ofNat a) 0) (.int q (.ofNat b) 0) = some (.bool (decide (a ≤ b))) := by
  show guardO (band (keq q q) true) (mkB (ile (.ofNat a) (.ofNat b))) = _
  rw [mkB_eq, ile_eq, show band (keq q q) true = true by simp [keq_eq], show decide (Int.ofNat a ≤ Int.ofNat b) = decide (a ≤ b) by rw [decide_eq_decide]; show (a : Int) ≤ b ↔ _; omega]; rfl
theorem gtr_n (q : IntKind) (a b : Nat) : B2.ev .gtr (.int q (.ofNat a) 0) (.int q (.ofNat b) 0) = some (.bool (decide (b < a))) := by
  show guardO (band (keq q q) true) (mkB (ilt (.ofNat b) (.ofNat a))) = _
  rw [mkB_eq, ilt_eq, show band (keq q q) true = true by simp [keq_eq], show decide (Int.ofNat b < Int.ofNat a) = decide (b < a) by rw [decide_eq_decide]; show (b : Int) < a ↔ _; omega]; rfl
theorem lss_n (q : IntKind) (a b : Nat) : B2.ev .lss (.int q (.ofNat a) 0) (.int q (.ofNat b) 0) = some (.bool (decide (a < b))) := by
  show guardO (band (keq q q) true) (mkB (ilt (.ofNat a) (.ofNat b))) = _
  rw [mkB_eq, ilt_eq, show band (keq q q) true = true by simp [keq_eq], show decide (Int.ofNat a < Int.ofNat b) = decide (a < b) by rw [decide_eq_decide]; show (a : Int) < b ↔ _; omega]; rfl
theorem eqV_q (q : IntKind) (x y : Int) : eqV (.one .int) false (.int q x 0) (.int q y 0) = some (.bool (decide (x = y))) := by
  have e : eqV (.one .int) false (.int q x 0) (.int q y 0) = ofB (bbind (some (ieq x y)) fun b => some b) := by cases q <;> rfl
  rw [e, ieq_eq, show (x == y) = decide (x = y) by rw [Bool.eq_iff_iff]; simp]; cases decide (x = y) <;> rfl
theorem neV_q (q : IntKind) (x y : Int) : eqV (.one .int) true (.int q x 0) (.int q y 0) = some (.bool (!decide (x = y))) := by
  have e : eqV (.one .int) true (.int q x 0) (.int q y 0) = ofB (bbind (some (ieq x y)) fun b => some (bnot b)) := by cases q <;> rfl
  rw [e, ieq_eq, show (x == y) = decide (x = y) by rw [Bool.eq_iff_iff]; simp]; cases decide (x = y) <;> rfl
theorem eq_n (q : IntKind) (x y : Nat) : eqV (.one .int) false (.int q (.ofNat x) 0) (.int q (.ofNat y) 0) = some (.bool (decide (x = y))) := by
  rw [eqV_q]; congr 2; rw [decide_eq_decide]; show (x : Int) = y ↔ _; omega
theorem ne_n (q : IntKind) (x y : Nat) : eqV (.one .int) true (.int q (.ofNat x) 0) (.int q (.ofNat y) 0) = some (.bool (!decide (x = y))) := by
  rw [neV_q]; congr 3; rw [decide_eq_decide]; show (x : Int) = y ↔ _; omega
theorem and_n (t : Int) {m : Nat} (hm : m < 9223372036854775808) : B2.ev .and (.int .i64 t 0) (.int .i64 (.ofNat m) 0) = some (.int .i64 (.ofNat (uand t m)) 0) := by
  show guardO true (forceIV (iand .i64 t (.ofNat m)) fun m => some (.int .i64 m 0)) = _
  rw [iand_spec t hm]; rfl
theorem rem_n (u : Nat) {m : Nat} (hm : 0 < m) : B2.ev .rem (.int .i64 (.ofNat u) 0) (.int .i64 (.ofNat m) 0) = some (.int .i64 (.ofNat (u % m)) 0) := by
  show guardO (band true (band true (bnot (ieq (.ofNat m) 0)))) (mkN .i64 (Int.tmod (.ofNat u) (.ofNat m)) 0) = _
  have : ieq (.ofNat m) 0 = false := by rw [ieq_eq]; simp; omega
  rw [this]
  show forceIV (Int.tmod (.ofNat u) (.ofNat m)) (fun m => some (.int .i64 m 0)) = _
  rw [forceIV_eq]; rfl
theorem add_n {a b : Nat} (h : a + b < 9223372036854775808) : B2.ev .add (.int .i64 (.ofNat a) 0) (.int .i64 (.ofNat b) 0) = some (.int .i64 (.ofNat (a + b)) 0) := by
  show some (V.int .i64 (wrapI .i64 (iadd (.ofNat a) (.ofNat b))) 0) = _
  rw [wrapI_eq, iadd_eq, wrap64_id (by simp; omega) (by simp; omega)]; rfl
theorem sub_n {a b : Nat} (hb : b ≤ a) (h : a < 9223372036854775808) : B2.ev .sub (.int .i64 (.ofNat a) 0) (.int .i64 (.ofNat b) 0) = some (.int .i64 (.ofNat (a - b)) 0) := by
  show some (V.int .i64 (wrapI .i64 (iadd (.ofNat a) (Int.neg (.ofNat b)))) 0) = _
  rw [wrapI_eq, iadd_eq]
  have e : Int.ofNat a + Int.neg (Int.ofNat b) = Int.ofNat (a - b) := by show (a : Int) + -(b : Int) = ((a - b : Nat) : Int); omega
  rw [e, wrap64_id (by show (-9223372036854775808 : Int) ≤ ((a - b : Nat) : Int); omega) (by show ((a - b : Nat) : Int) < 9223372036854775808; omega)]
/- calls of values, and what is put off -/
theorem s_defer {d : V} {f : Nat} {a c args : List V} {H : Heap} {n : Nat} {k : KV} : deferV d (.fn f a c) args H n k = k (.tup (.fn f (cat a args) c :: tupL d)) H n := rfl
theorem s_callv {f : Nat} {a c args : List V} {call : CallT} {H : Heap} {n : Nat} {k : KV} : callvV (.fn f a c) args call H n k = call f (cat a (cat args c)) H n k := rfl
/- a slice in memory below n -/
def Lo (v : V) (n : Nat) : Prop := ∀ id, v.sid = some id → id < n
theorem El.kp {G : Roms} {H H' : Heap} {v : V} {z n n' : Nat} {LS : LLV} (h : El G H v z LS) (hl : Lo v n) (f : Kp H n H' n') : El G H' v z LS := h.same fun id hid => f.same id (hl id hid)
theorem Lo.mono {v : V} {n n' : Nat} (h : Lo v n) (hn : n ≤ n') : Lo v n' := fun id hid => Nat.lt_of_lt_of_le (h id hid) hn
theorem Lo_nil {n : Nat} : Lo .nils n := fun _ h => by cases h
theorem El_nil {G : Roms} {H : Heap} {z : Nat} : El G H .nils z [] := ⟨rfl, rfl⟩
/- all stays but one block -/
structure Kx (b : Nat) (H : Heap) (n : Nat) (H' : Heap) (n' : Nat) : Prop where
  le : n ≤ n'
  same : ∀ id, id < n → id ≠ b → T.get H' id = T.get H id
section
variable {b : Nat} {H H' H'' : Heap} {n n' n'' : Nat}
theorem Kx.refl (b : Nat) (H : Heap) (n : Nat) : Kx b H n H n := ⟨Nat.le_refl _, fun _ _ _ => rfl⟩
theorem Kx.trans (x : Kx b H n H' n') (y : Kx b H' n' H'' n'') : Kx b H n H'' n'' := ⟨Nat.le_trans x.le y.le, fun id h hb => (y.same id (Nat.lt_of_lt_of_le h x.le) hb).trans (x.same id h hb)⟩
theorem Kx.get {id : Nat} {B : Blk} (f : Kx b H n H' n') (h : T.get H id = some B) (hi : id < n) (hb : id ≠ b) : T.get H' id = some B := (f.same id hi hb).trans h
theorem Kp.kx (f : Kp H n H' n') : Kx b H n H' n' := ⟨f.le, fun id h _ => f.same id h⟩
theorem Kx.set (B : Blk) : Kx b H n (T.set H b B) n := ⟨Nat.le_refl _, fun _ _ h => T.get_set_ne _ _ (Ne.symm h)⟩
theorem Kx.low {m : Nat} (f : Kx b H n H' n') (hm : m ≤ n) : Kx b H m H' n' := ⟨Nat.le_trans hm f.le, fun id h hb => f.same id (Nat.lt_of_lt_of_le h hm) hb⟩
theorem Kx.kp {m : Nat} (f : Kx b H n H' n') (hm : m ≤ b) (h2 : m ≤ n) : Kp H m H' n' := ⟨Nat.le_trans h2 f.le, fun id h => f.same id (by omega) (by omega)⟩
theorem El.kx {G : Roms} {v : V} {z : Nat} {LS : LLV} (h : El G H v z LS) (hl : Lo v n) (hb : v.sid ≠ some b) (f : Kx b H n H' n') : El G H' v z LS := h.same fun id hid => f.same id (hl id hid) fun e => hb (e ▸ hid)
end
/- a slice of one's own -/
structure Own (G : Roms) (H : Heap) (m n : Nat) (z : Nat) (v : V) (LS : LLV) : Prop where
  gr : Gr G H m z v LS
  lo : Lo v n
section
variable {G : Roms} {H H' : Heap} {m n n' b z : Nat} {v : V} {LS : LLV}
theorem Own.el (h : Own G H m n z v LS) (hz : 0 < z) : El G H v z LS := h.gr.el hz
theorem Own.ge (h : Own G H m n z v LS) {id : Nat} (hid : v.sid = some id) : m ≤ id := (h.gr.lo hid).1
theorem Own.kx (h : Own G H m n z v LS) (f : Kx b H n H' n') (hb : b < m) : Own G H' m n' z v LS :=
  ⟨h.gr.mono fun id hid => f.same id (h.lo id hid) (by have := (h.gr.lo hid).1; omega), h.lo.mono f.le⟩
theorem Own.kp (h : Own G H m n z v LS) (f : Kp H n H' n') : Own G H' m n' z v LS := ⟨h.gr.mono fun id hid => f.same id (h.lo id hid), h.lo.mono f.le⟩
theorem Own_nil : Own G H m n z .nils [] := ⟨.nil, Lo_nil⟩
end
/- slices written out -/
def mkps : Nat → List V → List (Nat × X)
  | _, [] => []
  | i, v :: vs => (i, .c v) :: mkps (i + 1) vs
theorem ldB_at {e c i : Nat} {t : T LV} {L : LV} (he : 0 < e) (hi : i < c) (h : T.get t i = some L) {H : Heap} {id : Nat} (hg : T.get H id = some (.arr e c t)) : ldH H id (i * e) e = some L := (ldH_arr hg he hi).trans h
theorem partsOk_mk {z m : Nat} : ∀ (vs : List V) (i : Nat), i + vs.length ≤ m → (∀ v ∈ vs, okC v = true ∧ (vcells v).length = z) → partsOk (mkps i vs) E0 z m = true
  | [], _, _, _ => rfl
  | v :: vs, i, h, hv => by
    show band (band (okC v) (band (Nat.blt i m) (Nat.beq (len (vcells v)) z))) (partsOk (mkps (i + 1) vs) E0 z m) = true
    obtain ⟨h1, h2⟩ := hv v (List.mem_cons_self ..)
    rw [h1, len_eq, h2, show Nat.blt i m = true by rw [Nat.blt_eq]; simp at h; omega, beq_self', partsOk_mk vs (i + 1) (by simp at h; omega) fun w hw => hv w (List.mem_cons_of_mem _ hw)]; rfl
theorem partsT_mk : ∀ (vs : List V) (i : Nat) (t : T LV) (j : Nat), T.get (partsT (mkps i vs) E0 t) j = if i ≤ j ∧ j < i + vs.length then (vs[j - i]?).map vcells else T.get t j
  | [], i, t, j => by rw [if_neg (by simp)]; rfl
  | v :: vs, i, t, j => by
    show T.get (partsT (mkps (i + 1) vs) E0 (T.set t i (vcells v))) j = _
    rw [partsT_mk vs (i + 1)]
    by_cases h1 : i + 1 ≤ j ∧ j < i + 1 + vs.length
    · rw [if_pos h1, if_pos (by rw [List.length_cons]; omega)]
      rw [show j - i = (j - (i + 1)) + 1 by omega, List.getElem?_cons_succ]
    · rw [if_neg h1, T.get_set_if]
      by_cases h2 : i = j
      · subst h2; rw [if_pos (by simp)]; simp
      · rw [if_neg h2, if_neg (by rw [List.length_cons]; omega)]
theorem a_bsl {G : Roms} {z m : Nat} {Z : LV} {vs : List V} {H : Heap} {n : Nat} {P : KV} (hm : vs.length = m) (hz : 0 < z) (hv : ∀ v ∈ vs, okC v = true ∧ (vcells v).length = z)
    (h : ∀ H', Kp H n H' (n + 1) → (∃ t, T.get H' n = some (.arr z m t)) → El G H' (.sl n 0 m m z) z (vs.map vcells) → P (.sl n 0 m m z) H' (n + 1)) : onA (aBslice z m Z (mkps 0 vs) E0) H n P := by
  show onB (partsOk (mkps 0 vs) E0 z m) (forceP n fun n => P (.sl n 0 m m z) (T.set H n (.arr z m (partsT (mkps 0 vs) E0 (repT Z m .e)))) (Nat.succ n))
  rw [partsOk_mk vs 0 (by omega) hv, s_onB, forceP_eq]
  refine h _ ((Kp.refl H n).new _ (Nat.le_refl _) (by omega)) ⟨_, T.get_set ..⟩ ⟨rfl, ?_⟩
  show (Bool.rec (motive := fun _ => Option LLV) none (elemsB _ n z m 0) (Nat.beq z z) : Option LLV) = _
  rw [beq_self']
  refine elemsB_mk _ _ _ (by simp [hm]) fun i c hc => ?_
  have hlt : i < m := by have := (List.getElem?_eq_some_iff.1 hc).1; simp at this; omega
  rw [Nat.zero_add, ldH_arr (T.get_set ..) hz hlt, partsT_mk, if_pos ⟨by omega, by omega⟩, Nat.sub_zero]
  simpa using hc
/- the rest of a slice that grew -/
theorem s_tailG {id o m z : Nat} : slcV z (.gsl id o (m + 1) z) E0 (some (.c (.int .i64 (.ofNat 1) 0))) none none = some (.gsl id (o + 1) m z) := by
  show guardO (Nat.beq z z) (guardO (band (Nat.ble 1 (m + 1)) (Nat.ble (m + 1) (m + 1))) (f3 (o + 1) (m + 1 - 1) 0 fun o d _ => .gsl id o d z)) = _
  rw [beq_self', show Nat.ble 1 (m + 1) = true by rw [Nat.ble_eq]; omega, show Nat.ble (m + 1) (m + 1) = true by rw [Nat.ble_eq]; omega]
  show forceN (o + 1) (fun a => forceN (m + 1 - 1) fun b => forceN 0 fun _ => some (.gsl id a b z)) = _
  rw [forceN_eq, forceN_eq, forceN_eq]; rfl
theorem El_gsl {G : Roms} {H : Heap} {id o m z : Nat} {LS : LLV} (h : El G H (.gsl id o m z) z LS) : elemsB H id z m o = some LS := by
  have h2 : (Bool.rec (motive := fun _ => Option LLV) none (elemsB H id z m o) (Nat.beq z z) : Option LLV) = some LS := h.2
  rw [beq_self'] at h2; exact h2
theorem gsl_El {G : Roms} {H : Heap} {id o m z : Nat} {LS : LLV} (h : elemsB H id z m o = some LS) : El G H (.gsl id o m z) z LS := by
  refine ⟨rfl, ?_⟩
  show (Bool.rec (motive := fun _ => Option LLV) none (elemsB H id z m o) (Nat.beq z z) : Option LLV) = some LS
  rw [beq_self']; exact h
theorem El_tailG {G : Roms} {H : Heap} {id o m z : Nat} {L : LV} {LS : LLV} (h : El G H (.gsl id o (m + 1) z) z (L :: LS)) : El G H (.gsl id (o + 1) m z) z LS := by
  have h2 := El_gsl h
  have h3 : gbind (ldH H id (Nat.mul o z) z) (fun L => gbind (elemsB H id z m (Nat.succ o)) fun LS => some (L :: LS)) = some (L :: LS) := h2
  rw [gbind_some] at h3
  obtain ⟨L', _, h3⟩ := h3
  rw [gbind_some] at h3
  obtain ⟨LS', h4, h3⟩ := h3
  cases h3
  exact gsl_El h4
/- two lists, part by part -/
inductive Pw {α β : Type} (R : α → β → Prop) : List α → List β → Prop where
  | nil : Pw R [] []
  | cons {a b l m} (h : R a b) (t : Pw R l m) : Pw R (a :: l) (b :: m)
section
variable {α β : Type} {R S : α → β → Prop}
theorem Pw.len : ∀ {l : List α} {m : List β}, Pw R l m → l.length = m.length
  | _, _, .nil => rfl
  | _, _, .cons _ t => by simp [t.len]
theorem Pw.app : ∀ {l l' : List α} {m m' : List β}, Pw R l m → Pw R l' m' → Pw R (l ++ l') (m ++ m')
  | _, _, _, _, .nil, h => h
  | _, _, _, _, .cons h t, h' => .cons h (t.app h')
theorem Pw.imp (f : ∀ a b, R a b → S a b) : ∀ {l : List α} {m : List β}, Pw R l m → Pw S l m
  | _, _, .nil => .nil
  | _, _, .cons h t => .cons (f _ _ h) (t.imp f)
theorem Pw.at : ∀ {l : List α} {m : List β} (_ : Pw R l m) {i : Nat} {b : β}, m[i]? = some b → ∃ a, l[i]? = some a ∧ R a b
  | _, _, .nil, i, b, h => by simp at h
  | _, _, .cons h t, 0, b, hb => by simp at hb; subst hb; exact ⟨_, rfl, h⟩
  | _, _, .cons h t, i + 1, b, hb => by simp at hb; simpa using t.at hb
end
end Go.Eng

