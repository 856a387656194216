/- Part of a proof: texts LRE LRF LRG LRH LRI LRJ LPA LRK LRL LPB LRN of the engine and what is proved with it; nothing is assumed. -/
import Derived.Test.YtibbhhkcjjeclaaDoorConB
import Derived.Test.YtibbhhkcjjeclaaDoorWalk
set_option linter.unusedVariables false
set_option linter.unusedSimpArgs false
/- Contracts, twenty-ninth part: images: how many fields an object has, and where they are. -/
namespace Go.RL
open Go.Eng
set_option maxRecDepth 100000
theorem add_n {a b : Nat} (h : a + b < 9223372036854775808) : B2.ev .add (.int .i64 (.ofNat a) 0) (.int .i64 (.ofNat b) 0) = some (.int .i64 (.ofNat (a + b)) 0) := by
  show some (V.int .i64 (wrapI .i64 (iadd (.ofNat a) (.ofNat b))) 0) = _
  rw [wrapI_eq, iadd_eq, wrap64_id (by simp; omega) (by simp; omega)]; rfl
def sizeIn (fs : Tab) : List St → Nat
  | [] => 0
  | c :: cs => ((lkp fs c).getD faceZ).fs.length + sizeIn fs cs
def sizeT (fs : Tab) (s : St) : Nat := sizeIn fs (above fs s).1
def small (fs : Tab) : Prop := ∀ s c, lkp fs s = some c → c.fs.length ≤ 200
theorem small_get {fs : Tab} (h : small fs) (s : St) : ((lkp fs s).getD faceZ).fs.length ≤ 200 := by
  cases hl : lkp fs s with
  | none => exact Nat.zero_le _
  | some c => exact h s c hl
theorem sizeIn_le {fs : Tab} (h : small fs) : ∀ cs, sizeIn fs cs ≤ 200 * cs.length
  | [] => Nat.zero_le _
  | c :: cs => by have := small_get h c; have := sizeIn_le h cs; unfold sizeIn; rw [List.length_cons]; omega
theorem Size_c {G : Roms} {H : Heap} {n i t a b fm : Nat} {vn : V} {fs : Tab} (h : ImgAt G H n i t a b fm vn fs) (hfs : fs.length ≤ 1000) (hsm : small fs) {s : St} {k : KV}
    (hk : sizeT fs s ≤ 1000000 → ∀ H' n', Kb b H n H' n' → k (.int .i64 (.ofNat (sizeT fs s)) 0) H' n') : Runs F G n_link_Image_Size [.ptr i 0, s.v] H n k := by
  refine runs_s (s := ar2 (s_link_Image_Size lfp G)) at_link_Image_Size (by obtain ⟨h, o⟩ := si_link_Image_Size lfp_ok G; rw [at_link_Image_Size] at h; cases h; exact o) ?_
  show s_link_Image_Size lfp G (Runs F G) (.ptr i 0) s.v H n k
  delta s_link_Image_Size
  have hbn := h.tab.bn
  unfold sizeT at hk
  simp only [go_sem, Nat.reduceAdd, ld1_one (off := 0) h.at' (v := .ptr t 0) rfl]
  refine Above_c (s := s) h.tab hfs fun H2 n2 x f2 ho hlen => ?_
  generalize (above fs s).1 = cs at ho hk hlen
  simp only [go_sem, (ho.el (by omega)).len, strs_len]
  have hall := sizeIn_le hsm cs
  refine lfp_range (N := cs.length) (J := fun j q => ∃ H' n' acc, q = (.ptr i 0, .int .i64 (.ofNat acc) 0, x, .int .i64 (.ofNat cs.length) 0, .int .i64 (.ofNat j) 0, H', n') ∧ Kb b H n H' n' ∧ Own G H' n n' 1 x (strs cs) ∧ acc + sizeIn fs (cs.drop j) = sizeIn fs cs) ?_ ?_
    ⟨H2, n2, 0, rfl, f2, ho, by simp⟩
  · rintro I j q hlt ⟨H3, n3, acc, rfl, f3, ho, hacc⟩ ih
    show s_link_Image_Size_l9 lfp G (Runs F G) k I (.ptr i 0) (.int .i64 (.ofNat acc) 0) x (.int .i64 (.ofNat cs.length) 0) (.int .i64 (.ofNat j) 0) H3 n3
    delta s_link_Image_Size_l9
    have h3 := h.kb f3
    obtain ⟨q, hp, hld⟩ := (ho.el (by omega)).at (strs_at hlt)
    rw [List.drop_eq_getElem_cons hlt, show sizeIn fs (cs[j] :: cs.drop (j + 1)) = ((lkp fs cs[j]).getD faceZ).fs.length + sizeIn fs (cs.drop (j + 1)) from rfl] at hacc
    generalize cs[j] = m at hld hacc
    simp only [go_sem, lss_n, hlt, decide_true, hp, ld1_of hld, Nat.reduceAdd, ld1_one (off := 0) h3.at' (v := .ptr t 0) rfl]
    have hn3 := f3.le
    refine Face_c (s := m) (n0 := n) (h.tab.kb (f3.low (Nat.le_refl _))) (by omega) fun H4 n4 y f4 hy => ?_
    obtain ⟨vf, vm, ws, hy, rfl⟩ := hy
    have f5 := f3.trans f4
    have h5n := f4.le
    simp only [go_sem, Nat.reduceAdd]
    rw [T.set_set]
    have f6 : Kp H4 n4 (T.set H4 n4 (one [((lkp fs m).getD faceZ).nm.v, ((lkp fs m).getD faceZ).sup.v, vf, vm])) (n4 + 1) := (Kp.refl _ _).new _ (Nat.le_refl _) (by omega)
    have g6 := T.get_set H4 n4 (one [((lkp fs m).getD faceZ).nm.v, ((lkp fs m).getD faceZ).sup.v, vf, vm])
    generalize T.set H4 n4 (one [((lkp fs m).getD faceZ).nm.v, ((lkp fs m).getD faceZ).sup.v, vf, vm]) = H6 at f6 g6
    have f6' := f6.kb (b := b) (by omega)
    have hs := small_get hsm m
    simp only [go_sem, Nat.reduceAdd, ld1_one (off := 2) g6 (v := vf) rfl, hy.fs.len, add_n (show acc + ((lkp fs m).getD faceZ).fs.length < 9223372036854775808 by omega), add_i (show j + 1 < 9223372036854775808 by omega)]
    exact ih _ ⟨_, _, _, rfl, f5.trans f6', (ho.kb f4 hbn).kp f6, by omega⟩
  · rintro I q ⟨H3, n3, acc, rfl, f3, ho, hacc⟩
    show s_link_Image_Size_l9 lfp G (Runs F G) k I (.ptr i 0) (.int .i64 (.ofNat acc) 0) x (.int .i64 (.ofNat cs.length) 0) (.int .i64 (.ofNat cs.length) 0) H3 n3
    delta s_link_Image_Size_l9
    rw [List.drop_eq_nil_of_le (Nat.le_refl _)] at hacc
    have hacc : acc = sizeIn fs cs := hacc
    subst hacc
    simp only [go_sem, lss_n, Nat.lt_irrefl, decide_false]
    delta s_link_Image_Size_j7
    exact hk (by omega) _ _ f3
def slotIn (s : St) (m : Nat) : List Fld → Nat → Int
  | [], _ => .negSucc 0
  | f :: fs, j => bif decide (f.nm.1 = s.1 ∧ f.nm.2 = s.2) then .ofNat (m + j) else slotIn s m fs (j + 1)
def ownerT (fs : Tab) (c s : St) : Fc := (lkp fs ((fldT fs c s).getD ((0, 0), tyZ)).1).getD faceZ
def slotT (fs : Tab) (c s : St) : Int := slotIn s (sizeT fs (ownerT fs c s).sup) (ownerT fs c s).fs 0
theorem Slot_c {G : Roms} {H : Heap} {n i t a b fm : Nat} {vn : V} {fs : Tab} (h : ImgAt G H n i t a b fm vn fs) (hfs : fs.length ≤ 1000) (hsm : small fs) {c s : St} {k : KV}
    (hk : ∀ H' n', Kb b H n H' n' → k (.int .i64 (slotT fs c s) 0) H' n') : Runs F G n_link_Image_Slot [.ptr i 0, c.v, s.v] H n k := by
  refine runs_s (s := ar3 (s_link_Image_Slot lfp G)) at_link_Image_Slot (by obtain ⟨h, o⟩ := si_link_Image_Slot lfp_ok G; rw [at_link_Image_Slot] at h; cases h; exact o) ?_
  show s_link_Image_Slot lfp G (Runs F G) (.ptr i 0) c.v s.v H n k
  delta s_link_Image_Slot
  have hbn := h.tab.bn
  unfold slotT ownerT at hk
  simp only [go_sem, Nat.reduceAdd, ld1_one (off := 0) h.at' (v := .ptr t 0) rfl]
  refine Field_c (c := c) (s := s) h.tab hfs fun H1 n1 f1 => ?_
  generalize (fldT fs c s).getD ((0, 0), tyZ) = o at hk ⊢
  have h1n := f1.le
  unfold Ty.v Ty.cells
  simp only [go_sem, Nat.reduceAdd]
  rw [T.set_set]
  have f2 : Kp H1 n1 (T.set H1 n1 (one [o.2.nm.v, .bool o.2.arr])) (n1 + 1) := (Kp.refl _ _).new _ (Nat.le_refl _) (by omega)
  generalize T.set H1 n1 (one [o.2.nm.v, .bool o.2.arr]) = H2 at f2
  have fb2 := f1.trans (f2.kb (b := b) (by omega))
  have h2 := h.kb fb2
  simp only [go_sem, Nat.reduceAdd, ld1_one (off := 0) h2.at' (v := .ptr t 0) rfl]
  refine Face_c (s := o.1) h2.tab (Nat.le_refl _) fun H3 n3 y f3 hy => ?_
  obtain ⟨vf, vm, ws, hy, rfl⟩ := hy
  have hsm' := small_get hsm o.1
  generalize (lkp fs o.1).getD faceZ = fc at hk hy hsm' ⊢
  have h3n := f3.le
  simp only [go_sem, Nat.reduceAdd]
  rw [T.set_set]
  have f4 : Kp H3 n3 (T.set H3 n3 (one [fc.nm.v, fc.sup.v, vf, vm])) (n3 + 1) := (Kp.refl _ _).new _ (Nat.le_refl _) (by omega)
  have g4 := T.get_set H3 n3 (one [fc.nm.v, fc.sup.v, vf, vm])
  generalize T.set H3 n3 (one [fc.nm.v, fc.sup.v, vf, vm]) = H4 at f4 g4
  have fb4 := fb2.trans (f3.trans (f4.kb (b := b) (by omega)))
  refine Size_c (s := fc.sup) (h.kb fb4) hfs hsm fun hsz H5 n5 f5 => ?_
  have h5n := f5.le
  generalize sizeT fs fc.sup = sz at hk hsz ⊢
  have g5 := f5.get g4 (by omega) (by omega)
  have fb5 := fb4.trans f5
  have hfl : FldsAt G H5 n5 vf fc.fs := by
    have := hy.fs.ke ((((f4.kb (b := b) (by omega)).trans f5).low h3n).ke (f3.seen h2.tab.seen))
    exact ⟨this.el, this.lo.mono (by omega), this.lt, this.ok⟩
  simp only [go_sem, Nat.reduceAdd, ld1_one (off := 2) g5 (v := vf) rfl, hfl.len]
  have hbig := hfl.lt
  refine lfp_range (N := fc.fs.length) (J := fun j q => ∃ H' n', q = (s.v, .int .i64 (.ofNat sz) 0, vf, .int .i64 (.ofNat fc.fs.length) 0, .int .i64 (.ofNat j) 0, H', n') ∧ Kp H5 n5 H' n' ∧
    (∀ H' n', Kb b H n H' n' → k (.int .i64 (slotIn s sz (fc.fs.drop j) j) 0) H' n')) ?_ ?_ ⟨H5, n5, rfl, Kp.refl _ _, hk⟩
  · rintro I j q hlt ⟨H6, n6, rfl, f6, hk⟩ ih
    show s_link_Image_Slot_l25 lfp G (Runs F G) k I s.v (.int .i64 (.ofNat sz) 0) vf (.int .i64 (.ofNat fc.fs.length) 0) (.int .i64 (.ofNat j) 0) H6 n6
    delta s_link_Image_Slot_l25
    obtain ⟨q, hp, hld⟩ := (hfl.kp f6).at hlt
    rw [List.drop_eq_getElem_cons hlt] at hk
    unfold slotIn at hk
    generalize fc.fs[j] = m at hld hk
    unfold Fld.cells at hld
    have h6n := f6.le
    simp only [go_sem, lss_n, hlt, decide_true, hp, ldn_of hld, Nat.reduceAdd, show eqV (.one .str) false m.nm.v s.v = _ from eq_s ..]
    rw [T.set_set]
    have f7 := f6.new (m := n6 + 1) (id := n6) (one [m.nm.v, m.ty.nm.v, .bool m.ty.arr]) f6.le (by omega)
    cases h1 : decide (m.nm.1 = s.1 ∧ m.nm.2 = s.2) with
    | true =>
      simp only [h1, cond_true] at hk
      simp only [go_sem, add_n (show sz + j < 9223372036854775808 by omega)]
      exact hk _ _ (fb5.trans (f7.kb (by omega)))
    | false =>
      simp only [h1, cond_false] at hk
      simp only [go_sem, add_i (show j + 1 < 9223372036854775808 by unfold big at hbig; omega)]
      exact ih _ ⟨_, _, rfl, f7, hk⟩
  · rintro I q ⟨H6, n6, rfl, f6, hk⟩
    show s_link_Image_Slot_l25 lfp G (Runs F G) k I s.v (.int .i64 (.ofNat sz) 0) vf (.int .i64 (.ofNat fc.fs.length) 0) (.int .i64 (.ofNat fc.fs.length) 0) H6 n6
    delta s_link_Image_Slot_l25
    rw [List.drop_eq_nil_of_le (Nat.le_refl _)] at hk
    simp only [go_sem, lss_n, Nat.lt_irrefl, decide_false]
    delta s_link_Image_Slot_j21
    exact hk _ _ (fb5.trans (f6.kb (by omega)))
/- a second image: what another table notes is nothing to this one -/
theorem TabAt.kb2 {G : Roms} {H H' : Heap} {n n' t a b b2 : Nat} {fs : Tab} (h : TabAt G H n t a b fs) (f : Kb b2 H n H' n') (hs : SeenAt H b2) (h1 : t ≠ b2) (h2 : a ≠ b2) (h3 : b ≠ b2) : TabAt G H' n' t a b fs := by
  obtain ⟨ps, q1, q2, q3⟩ := h.faces.is
  exact ⟨Nat.lt_of_lt_of_le h.tn f.le, Nat.lt_of_lt_of_le h.an f.le, Nat.lt_of_lt_of_le h.bn f.le, h.tb, h.ab, f.get h.at' h.tn h1,
    ⟨ps, mapIs_same q1 (f.same a h.an h2), q2, fun s v c x y => (q3 s v c x y).ke (f.ke hs)⟩, h.seen.same (f.same b h.bn h3)⟩
theorem ImgAt.kb2 {G : Roms} {H H' : Heap} {n n' i t a b fm b2 : Nat} {vn : V} {fs : Tab} (h : ImgAt G H n i t a b fm vn fs) (f : Kb b2 H n H' n') (hs : SeenAt H b2) (h0 : i ≠ b2) (h1 : t ≠ b2) (h2 : a ≠ b2) (h3 : b ≠ b2) : ImgAt G H' n' i t a b fm vn fs :=
  ⟨Nat.lt_of_lt_of_le h.iN f.le, h.ib, f.get h.at' h.iN h0, h.tab.kb2 f hs h1 h2 h3⟩
end Go.RL

/- Contracts, thirtieth part: have faces and files few parts: some answer. -/
namespace Go.RL
open Go.Eng
set_option maxRecDepth 100000
theorem Few07_c {G : Roms} {H : Heap} {n : Nat} {v : V} {c : Fc} (h : FaceV G H n v c) {k : KV} (hk : ∀ r H' n', Kp H n H' n' → k (.bool r) H' n') : Runs F G n_kilnlaw07_Few [v] H n k := by
  refine runs_s (s := ar1 (s_kilnlaw07_Few lfp G)) at_kilnlaw07_Few (by obtain ⟨h, o⟩ := si_kilnlaw07_Few lfp_ok G; rw [at_kilnlaw07_Few] at h; cases h; exact o) ?_
  show s_kilnlaw07_Few lfp G (Runs F G) v H n k
  obtain ⟨vf, vm, ws, h, rfl⟩ := h
  delta s_kilnlaw07_Few
  refine a_boxA fun H1 f1 g1 => ?_
  have hf1 := h.fs.kp f1
  have hm1 := h.ms.kp f1
  have hbig := hf1.lt
  have hbig2 := hm1.lt
  simp only [go_sem, Nat.reduceAdd, ld1_one (off := 2) g1 (v := vf) rfl, hf1.len, gtr_n]
  cases h1 : decide (12 < c.fs.length) with
  | true => simp only [go_sem]; exact hk _ _ _ f1
  | false =>
  simp only [go_sem, Nat.reduceAdd, ld1_one (off := 3) g1 (v := vm) rfl, hm1.len', gtr_n]
  cases h2 : decide (12 < c.ms.length) with
  | true => simp only [go_sem]; exact hk _ _ _ f1
  | false =>
  simp only [go_sem, Nat.reduceAdd, ld1_one (off := 0) g1 (v := c.nm.v) rfl, lenS, gtr_n]
  cases h3 : decide (60 < c.nm.1) with
  | true => simp only [go_sem]; exact hk _ _ _ f1
  | false =>
  simp only [go_sem, Nat.reduceAdd, ld1_one (off := 1) g1 (v := c.sup.v) rfl, lenS, gtr_n]
  cases h4 : decide (60 < c.sup.1) with
  | true => simp only [go_sem]; exact hk _ _ _ f1
  | false =>
  simp only [go_sem, Nat.reduceAdd, ld1_one (off := 2) g1 (v := vf) rfl, hf1.len]
  refine lfp_range (N := c.fs.length) (J := fun j q => ∃ H' n', q = (.ptr n 0, vf, .int .i64 (.ofNat c.fs.length) 0, .int .i64 (.ofNat j) 0, H', n') ∧ Kp H1 (n + 1) H' n') ?_ ?_ ⟨H1, _, rfl, Kp.refl _ _⟩
  · rintro I j q hlt ⟨H3, n3, rfl, f3⟩ ih
    show s_kilnlaw07_Few_l66 lfp G (Runs F G) k I (.ptr n 0) vf (.int .i64 (.ofNat c.fs.length) 0) (.int .i64 (.ofNat j) 0) H3 n3
    delta s_kilnlaw07_Few_l66
    obtain ⟨q, hp, hld⟩ := (hf1.kp f3).at hlt
    generalize c.fs[j] = m at hld
    unfold Fld.cells at hld
    have h3n := f3.le
    simp only [go_sem, lss_n, hlt, decide_true, hp, ldn_of hld, Nat.reduceAdd, lenS, gtr_n]
    rw [T.set_set]
    have f4 := f3.new (m := n3 + 1) (id := n3) (one [m.nm.v, m.ty.nm.v, .bool m.ty.arr]) f3.le (by omega)
    have g4 := T.get_set H3 n3 (one [m.nm.v, m.ty.nm.v, .bool m.ty.arr])
    generalize T.set H3 n3 (one [m.nm.v, m.ty.nm.v, .bool m.ty.arr]) = H4 at f4 g4
    cases h1 : decide (60 < m.nm.1) with
    | true => simp only [go_sem]; exact hk _ _ _ (f1.trans f4)
    | false =>
    simp only [go_sem, Nat.reduceAdd, ld1_one (off := 1) g4 (v := m.ty.nm.v) rfl, lenS, gtr_n]
    cases h1 : decide (60 < m.ty.nm.1) with
    | true => simp only [go_sem]; exact hk _ _ _ (f1.trans f4)
    | false =>
    simp only [go_sem, add_i (show j + 1 < 9223372036854775808 by unfold big at hbig; omega)]
    exact ih _ ⟨_, _, rfl, f4⟩
  rintro I q ⟨H3, n3, rfl, f3⟩
  show s_kilnlaw07_Few_l66 lfp G (Runs F G) k I (.ptr n 0) vf (.int .i64 (.ofNat c.fs.length) 0) (.int .i64 (.ofNat c.fs.length) 0) H3 n3
  delta s_kilnlaw07_Few_l66
  have hm3 := hm1.kp f3
  simp only [go_sem, lss_n, Nat.lt_irrefl, decide_false]
  delta s_kilnlaw07_Few_j21
  simp only [go_sem, Nat.reduceAdd, ld1_one (off := 3) (f3.get g1 (by omega)) (v := vm) rfl, hm3.len']
  refine lfp_range (N := c.ms.length) (J := fun j q => ∃ H' n', q = (vm, .int .i64 (.ofNat c.ms.length) 0, .int .i64 (.ofNat j) 0, H', n') ∧ Kp H1 (n + 1) H' n') ?_ ?_ ⟨H3, _, rfl, f3⟩
  · rintro I j q hlt ⟨H3, n3, rfl, f3⟩ ih
    show s_kilnlaw07_Few_l26 lfp G (Runs F G) k I vm (.int .i64 (.ofNat c.ms.length) 0) (.int .i64 (.ofNat j) 0) H3 n3
    delta s_kilnlaw07_Few_l26
    obtain ⟨q, w, hp, hld, hw⟩ := (hm1.kp f3).at hlt
    generalize c.ms[j] = m at hld hw
    unfold Meth.cells at hld
    have h3n := f3.le
    simp only [go_sem, lss_n, hlt, decide_true, hp, ldn_of hld, Nat.reduceAdd, lenS, gtr_n]
    rw [T.set_set]
    have f4' : Kp H3 n3 (T.set H3 n3 (one [m.nm.v, .bool m.st, w, m.ret.nm.v, .bool m.ret.arr])) (n3 + 1) := (Kp.refl _ _).new _ (Nat.le_refl _) (by omega)
    have g4 := T.get_set H3 n3 (one [m.nm.v, .bool m.st, w, m.ret.nm.v, .bool m.ret.arr])
    generalize T.set H3 n3 (one [m.nm.v, .bool m.st, w, m.ret.nm.v, .bool m.ret.arr]) = H4 at f4' g4
    have f4 := f3.trans f4'
    have hw4 := hw.kp f4'
    cases h1 : decide (60 < m.nm.1) with
    | true => simp only [go_sem]; exact hk _ _ _ (f1.trans f4)
    | false =>
    simp only [go_sem, Nat.reduceAdd, ld1_one (off := 3) g4 (v := m.ret.nm.v) rfl, lenS, gtr_n]
    cases h1 : decide (60 < m.ret.nm.1) with
    | true => simp only [go_sem]; exact hk _ _ _ (f1.trans f4)
    | false =>
    simp only [go_sem, Nat.reduceAdd, ld1_one (off := 2) g4 (v := w) rfl, hw4.len, gtr_n]
    cases h1 : decide (10 < m.ps.length) with
    | true => simp only [go_sem]; exact hk _ _ _ (f1.trans f4)
    | false =>
    simp only [go_sem, Nat.reduceAdd, ld1_one (off := 2) g4 (v := w) rfl, hw4.len]
    have hbig3 := hw4.lt
    refine lfp_range (N := m.ps.length) (J := fun i q => ∃ H' n', q = (vm, .int .i64 (.ofNat c.ms.length) 0, .int .i64 (.ofNat j) 0, w, .int .i64 (.ofNat m.ps.length) 0, .int .i64 (.ofNat i) 0, H', n') ∧ Kp H4 (n3 + 1) H' n') ?_ ?_ ⟨H4, _, rfl, Kp.refl _ _⟩
    · rintro I2 i q hlt ⟨H5, n5, rfl, f5⟩ ih2
      show s_kilnlaw07_Few_l52 lfp G (Runs F G) k I I2 vm (.int .i64 (.ofNat c.ms.length) 0) (.int .i64 (.ofNat j) 0) w (.int .i64 (.ofNat m.ps.length) 0) (.int .i64 (.ofNat i) 0) H5 n5
      delta s_kilnlaw07_Few_l52
      obtain ⟨q, hp, hld⟩ := (hw4.kp f5).el.at (tys_at hlt)
      generalize m.ps[i] = t at hld
      unfold Ty.cells at hld
      simp only [go_sem, lss_n, hlt, decide_true, hp, ldn_of hld, Nat.reduceAdd, lenS, gtr_n]
      rw [T.set_set]
      have f6 := f5.new (m := n5 + 1) (id := n5) (one [t.nm.v, .bool t.arr]) f5.le (by omega)
      cases h1 : decide (60 < t.nm.1) with
      | true => simp only [go_sem]; exact hk _ _ _ (f1.trans (f4.trans f6))
      | false =>
      simp only [go_sem, add_i (show i + 1 < 9223372036854775808 by unfold big at hbig3; omega)]
      exact ih2 _ ⟨_, _, rfl, f6⟩
    · rintro I2 q ⟨H5, n5, rfl, f5⟩
      show s_kilnlaw07_Few_l52 lfp G (Runs F G) k I I2 vm (.int .i64 (.ofNat c.ms.length) 0) (.int .i64 (.ofNat j) 0) w (.int .i64 (.ofNat m.ps.length) 0) (.int .i64 (.ofNat m.ps.length) 0) H5 n5
      delta s_kilnlaw07_Few_l52
      simp only [go_sem, lss_n, Nat.lt_irrefl, decide_false]
      delta s_kilnlaw07_Few_j28
      simp only [go_sem, add_i (show j + 1 < 9223372036854775808 by unfold big at hbig2; omega)]
      exact ih _ ⟨_, _, rfl, f4.trans f5⟩
  · rintro I q ⟨H3, n3, rfl, f3⟩
    show s_kilnlaw07_Few_l26 lfp G (Runs F G) k I vm (.int .i64 (.ofNat c.ms.length) 0) (.int .i64 (.ofNat c.ms.length) 0) H3 n3
    delta s_kilnlaw07_Few_l26
    simp only [go_sem, lss_n, Nat.lt_irrefl, decide_false]
    delta s_kilnlaw07_Few_j22
    exact hk _ _ _ (f1.trans f3)
end Go.RL

/- Contracts, thirty-first part: have files few parts, on. -/
namespace Go.RL
open Go.Eng
set_option maxRecDepth 100000
theorem add_any (a b : Int) : ∃ c, B2.ev .add (.int .i64 a 0) (.int .i64 b 0) = some (.int .i64 c 0) := ⟨wrapI .i64 (iadd a b), rfl⟩
section
variable {G : Roms} {H0 H : Heap} {n0 n e : Nat} {p : Pool} {bs : List Bd} {c0 c1 c2 c3 v0 v1 v2 v3 v4 vb : V} {ws bws : List V} {k : KV}
theorem Few12Bodies_c (hb : BodiesAt G H n vb bs bws) (ge : T.get H e = some (one [c0, c1, c2, c3, v0, v1, v2, v3, v4, vb])) (hk : ∀ r H' n', Kp H n H' n' → k (.bool r) H' n') :
    s_kilnlaw12_Few_j44 lfp G (Runs F G) k (.ptr e 0) H n := by
  delta s_kilnlaw12_Few_j44
  have hbig := hb.lt
  have l4 : lenV vb = some (.int .i64 (.ofNat bs.length) 0) := by rw [hb.el.len, List.length_zipWith, hb.len, Nat.min_self]
  simp only [go_sem, Nat.reduceAdd, ld1_one (off := 9) ge (v := vb) rfl, l4]
  refine lfp_range (N := bs.length) (J := fun j q => ∃ H' n', q = (vb, .int .i64 (.ofNat bs.length) 0, .int .i64 (.ofNat j) 0, H', n') ∧ Kp H n H' n') ?_ ?_ ⟨H, _, rfl, Kp.refl _ _⟩
  · rintro I j q hlt ⟨H3, n3, rfl, f3⟩ ih
    show s_kilnlaw12_Few_l49 lfp G (Runs F G) k I vb (.int .i64 (.ofNat bs.length) 0) (.int .i64 (.ofNat j) 0) H3 n3
    delta s_kilnlaw12_Few_l49
    have hb3 := hb.kp f3
    have hw : j < bws.length := by rw [hb.len]; exact hlt
    obtain ⟨q, hp', hld⟩ := hb3.el.at (i := j) (c := bs[j].cells bws[j]) (by rw [List.getElem?_zipWith]; simp [hlt, hw])
    have hc := hb3.at' j _ _ (List.getElem?_eq_getElem hlt) (List.getElem?_eq_getElem hw)
    generalize bs[j] = m at hld hc
    generalize bws[j] = w at hld hc
    unfold Bd.cells at hld
    have lw : lenV w = some (.int .i64 (.ofNat m.code.length) 0) := by rw [hc.el.len, List.length_map]
    simp only [go_sem, Nat.reduceAdd, lss_n, hlt, decide_true, hp', ldn_of hld, lw, gtr_n]
    rw [T.set_set]
    have f4 := f3.new (m := n3 + 1) (id := n3) (one [.int .i64 m.locals 0, .int .i64 m.stack 0, w]) f3.le (by omega)
    cases h1 : decide (60 < m.code.length) with
    | true => simp only [go_sem]; exact hk _ _ _ f4
    | false =>
    simp only [go_sem, add_i (show j + 1 < 9223372036854775808 by unfold big at hbig; omega)]
    exact ih _ ⟨_, _, rfl, f4⟩
  · rintro I q ⟨H3, n3, rfl, f3⟩
    show s_kilnlaw12_Few_l49 lfp G (Runs F G) k I vb (.int .i64 (.ofNat bs.length) 0) (.int .i64 (.ofNat bs.length) 0) H3 n3
    delta s_kilnlaw12_Few_l49
    simp only [go_sem, lss_n, Nat.lt_irrefl, decide_false]
    delta s_kilnlaw12_Few_j45
    exact hk _ _ _ f3
theorem Few12Meths_c (h : PoolAt G H n p v0 v1 v2 v3 v4 ws) (hb : BodiesAt G H n vb bs bws) (he : e < n) (ge : T.get H e = some (one [c0, c1, c2, c3, v0, v1, v2, v3, v4, vb])) (hk : ∀ r H' n', Kp H n H' n' → k (.bool r) H' n') :
    s_kilnlaw12_Few_j43 lfp G (Runs F G) k (.ptr e 0) H n := by
  delta s_kilnlaw12_Few_j43
  have hbig := h.b4
  have l4 : lenV v4 = some (.int .i64 (.ofNat p.meths.length) 0) := by rw [h.e4.len, List.length_zipWith, h.len4, Nat.min_self]
  simp only [go_sem, Nat.reduceAdd, ld1_one (off := 8) ge (v := v4) rfl, l4]
  refine lfp_range (N := p.meths.length) (J := fun j q => ∃ H' n', q = (.ptr e 0, v4, .int .i64 (.ofNat p.meths.length) 0, .int .i64 (.ofNat j) 0, H', n') ∧ Kp H n H' n') ?_ ?_ ⟨H, _, rfl, Kp.refl _ _⟩
  · rintro I j q hlt ⟨H3, n3, rfl, f3⟩ ih
    show s_kilnlaw12_Few_l64 lfp G (Runs F G) k I (.ptr e 0) v4 (.int .i64 (.ofNat p.meths.length) 0) (.int .i64 (.ofNat j) 0) H3 n3
    delta s_kilnlaw12_Few_l64
    have h3 := h.kp f3
    have h3n := f3.le
    have hw : j < ws.length := by rw [h.len4]; exact hlt
    obtain ⟨q, hp', hld⟩ := h3.e4.at (i := j) (c := p.meths[j].cells ws[j]) (by rw [List.getElem?_zipWith]; simp [hlt, hw])
    have hty := h3.at4 j _ _ (List.getElem?_eq_getElem hlt) (List.getElem?_eq_getElem hw)
    have hok := h3.o4 _ (List.getElem_mem hlt)
    generalize p.meths[j] = m at hld hty hok
    generalize ws[j] = w at hld hty
    unfold PM.cells at hld
    simp only [go_sem, Nat.reduceAdd, lss_n, hlt, decide_true, hp', ldn_of hld, lenS, gtr_n]
    rw [T.set_set]
    have f4' : Kp H3 n3 (T.set H3 n3 (one [m.m.nm.v, .bool m.m.st, w, m.m.ret.nm.v, .bool m.m.ret.arr, m.own.v])) (n3 + 1) := (Kp.refl _ _).new _ (Nat.le_refl _) (by omega)
    have g4 := T.get_set H3 n3 (one [m.m.nm.v, .bool m.m.st, w, m.m.ret.nm.v, .bool m.m.ret.arr, m.own.v])
    generalize T.set H3 n3 (one [m.m.nm.v, .bool m.m.st, w, m.m.ret.nm.v, .bool m.m.ret.arr, m.own.v]) = H4 at f4' g4
    have f4 := f3.trans f4'
    cases h1 : decide (60 < m.own.1) with
    | true => simp only [go_sem]; exact hk _ _ _ f4
    | false =>
    simp only [go_sem, Nat.reduceAdd, show ldnV 5 (.ptr n3 0) G H4 = some (.agg [m.m.nm.v, .bool m.m.st, w, m.m.ret.nm.v, .bool m.m.ret.arr]) from ldn_one g4 (by omega) (by show 5 ≤ 6; omega)]
    rw [s_bsl1 (z := 5) (L := [m.m.nm.v, .bool m.m.st, w, m.m.ret.nm.v, .bool m.m.ret.arr]) rfl]
    have hcap := T.get_set H4 (n3 + 1) (.arr 5 1 (T.set (T.set .e 0 [.str 0 0, .bool false, .nils, .str 0 0, .bool false]) 0 [m.m.nm.v, .bool m.m.st, w, m.m.ret.nm.v, .bool m.m.ret.arr]))
    have f5 : Kp H4 (n3 + 1) (T.set H4 (n3 + 1) (.arr 5 1 (T.set (T.set .e 0 [.str 0 0, .bool false, .nils, .str 0 0, .bool false]) 0 [m.m.nm.v, .bool m.m.st, w, m.m.ret.nm.v, .bool m.m.ret.arr]))) (n3 + 1 + 1) := (Kp.refl _ _).new _ (Nat.le_refl _) (by omega)
    generalize T.set H4 (n3 + 1) (.arr 5 1 (T.set (T.set .e 0 [.str 0 0, .bool false, .nils, .str 0 0, .bool false]) 0 [m.m.nm.v, .bool m.m.st, w, m.m.ret.nm.v, .bool m.m.ret.arr])) = H5 at f5 hcap
    rw [show buildV [.str 0 0, .str 0 0, .nils, .nils] [(3, 1, .c (.sl (n3 + 1) 0 1 1 5))] = some (.agg [.str 0 0, .str 0 0, .nils, .sl (n3 + 1) 0 1 1 5]) from rfl, s_onV]
    refine Few07_c (c := ⟨(0, 0), (0, 0), [], [m.m]⟩) ⟨.nils, .sl (n3 + 1) 0 1 1 5, [w], ⟨rfl, ⟨⟨rfl, rfl⟩, (fun id h => by cases h), (by show 0 < big; decide), (fun f h => by cases h)⟩, ⟨El_bsl1 (by omega) rfl hcap, (fun id h => by cases h; omega), (by show 1 < big; decide), rfl, ?_, ?_⟩, ?_⟩, rfl⟩ fun r H' n' f => ?_
    · intro i m' w' h1 h2
      cases i with
      | zero => simp at h1 h2; subst h1 h2; exact hty.kp (f4'.trans f5)
      | succ i => simp at h1
    · intro m' h; simp at h; subst h; exact ⟨hok.1, hok.2.1⟩
    · exact ⟨fun _ => rfl, fun _ => rfl⟩
    · have f6 := f4.trans (f5.trans f)
      simp only [go_sem, s_notB]
      cases r with
      | false => simp only [Bool.not_false, go_sem]; exact hk _ _ _ f6
      | true =>
        simp only [Bool.not_true, go_sem, add_i (show j + 1 < 9223372036854775808 by unfold big at hbig; omega)]
        exact ih _ ⟨_, _, rfl, f6⟩
  · rintro I q ⟨H3, n3, rfl, f3⟩
    show s_kilnlaw12_Few_l64 lfp G (Runs F G) k I (.ptr e 0) v4 (.int .i64 (.ofNat p.meths.length) 0) (.int .i64 (.ofNat p.meths.length) 0) H3 n3
    delta s_kilnlaw12_Few_l64
    simp only [go_sem, lss_n, Nat.lt_irrefl, decide_false]
    exact Few12Bodies_c (hb.kp f3) (f3.get ge he) fun r H' n' f => hk _ _ _ (f3.trans f)
theorem Few12Flds_c (h : PoolAt G H n p v0 v1 v2 v3 v4 ws) (hb : BodiesAt G H n vb bs bws) (he : e < n) (ge : T.get H e = some (one [c0, c1, c2, c3, v0, v1, v2, v3, v4, vb])) (hk : ∀ r H' n', Kp H n H' n' → k (.bool r) H' n') :
    s_kilnlaw12_Few_j42 lfp G (Runs F G) k (.ptr e 0) H n := by
  delta s_kilnlaw12_Few_j42
  have hbig := h.b3
  have l3 : lenV v3 = some (.int .i64 (.ofNat p.fields.length) 0) := by rw [h.e3.len, List.length_map]
  simp only [go_sem, Nat.reduceAdd, ld1_one (off := 7) ge (v := v3) rfl, l3]
  refine lfp_range (N := p.fields.length) (J := fun j q => ∃ H' n', q = (.ptr e 0, v3, .int .i64 (.ofNat p.fields.length) 0, .int .i64 (.ofNat j) 0, H', n') ∧ Kp H n H' n') ?_ ?_ ⟨H, _, rfl, Kp.refl _ _⟩
  · rintro I j q hlt ⟨H3, n3, rfl, f3⟩ ih
    show s_kilnlaw12_Few_l86 lfp G (Runs F G) k I (.ptr e 0) v3 (.int .i64 (.ofNat p.fields.length) 0) (.int .i64 (.ofNat j) 0) H3 n3
    delta s_kilnlaw12_Few_l86
    have h3 := h.kp f3
    have h3n := f3.le
    obtain ⟨q, hp', hld⟩ := h3.e3.at (i := j) (c := p.fields[j].cells) (by simp [hlt])
    generalize p.fields[j] = m at hld
    unfold PF.cells at hld
    obtain ⟨x, hx⟩ := add_any (.ofNat m.f.nm.1) (.ofNat m.own.1)
    obtain ⟨y, hy⟩ := add_any x (.ofNat m.f.ty.nm.1)
    simp only [go_sem, Nat.reduceAdd, lss_n, hlt, decide_true, hp', ldn_of hld, lenS, hx, hy, gtr_i]
    rw [T.set_set]
    have f4 := f3.new (m := n3 + 1) (id := n3) (one [m.f.nm.v, m.f.ty.nm.v, .bool m.f.ty.arr, m.own.v]) f3.le (by omega)
    cases h1 : decide (Int.ofNat 120 < y) with
    | true => simp only [go_sem]; exact hk _ _ _ f4
    | false =>
    simp only [go_sem, add_i (show j + 1 < 9223372036854775808 by unfold big at hbig; omega)]
    exact ih _ ⟨_, _, rfl, f4⟩
  · rintro I q ⟨H3, n3, rfl, f3⟩
    show s_kilnlaw12_Few_l86 lfp G (Runs F G) k I (.ptr e 0) v3 (.int .i64 (.ofNat p.fields.length) 0) (.int .i64 (.ofNat p.fields.length) 0) H3 n3
    delta s_kilnlaw12_Few_l86
    have := f3.le
    simp only [go_sem, lss_n, Nat.lt_irrefl, decide_false]
    exact Few12Meths_c (h.kp f3) (hb.kp f3) (by omega) (f3.get ge he) fun r H' n' f => hk _ _ _ (f3.trans f)
theorem Few12Types_c (h : PoolAt G H n p v0 v1 v2 v3 v4 ws) (hb : BodiesAt G H n vb bs bws) (he : e < n) (ge : T.get H e = some (one [c0, c1, c2, c3, v0, v1, v2, v3, v4, vb])) (hk : ∀ r H' n', Kp H n H' n' → k (.bool r) H' n') :
    s_kilnlaw12_Few_j41 lfp G (Runs F G) k (.ptr e 0) H n := by
  delta s_kilnlaw12_Few_j41
  have hbig := h.t2.lt
  simp only [go_sem, Nat.reduceAdd, ld1_one (off := 6) ge (v := v2) rfl, h.t2.len]
  refine lfp_range (N := p.types.length) (J := fun j q => ∃ H' n', q = (.ptr e 0, v2, .int .i64 (.ofNat p.types.length) 0, .int .i64 (.ofNat j) 0, H', n') ∧ Kp H n H' n') ?_ ?_ ⟨H, _, rfl, Kp.refl _ _⟩
  · rintro I j q hlt ⟨H3, n3, rfl, f3⟩ ih
    show s_kilnlaw12_Few_l112 lfp G (Runs F G) k I (.ptr e 0) v2 (.int .i64 (.ofNat p.types.length) 0) (.int .i64 (.ofNat j) 0) H3 n3
    delta s_kilnlaw12_Few_l112
    have h3 := h.kp f3
    have h3n := f3.le
    obtain ⟨q, hp', hld⟩ := h3.t2.el.at (tys_at hlt)
    generalize p.types[j] = m at hld
    unfold Ty.cells at hld
    simp only [go_sem, Nat.reduceAdd, lss_n, hlt, decide_true, hp', ldn_of hld, lenS, gtr_n]
    rw [T.set_set]
    have f4 := f3.new (m := n3 + 1) (id := n3) (one [m.nm.v, .bool m.arr]) f3.le (by omega)
    cases h1 : decide (60 < m.nm.1) with
    | true => simp only [go_sem]; exact hk _ _ _ f4
    | false =>
    simp only [go_sem, add_i (show j + 1 < 9223372036854775808 by unfold big at hbig; omega)]
    exact ih _ ⟨_, _, rfl, f4⟩
  · rintro I q ⟨H3, n3, rfl, f3⟩
    show s_kilnlaw12_Few_l112 lfp G (Runs F G) k I (.ptr e 0) v2 (.int .i64 (.ofNat p.types.length) 0) (.int .i64 (.ofNat p.types.length) 0) H3 n3
    delta s_kilnlaw12_Few_l112
    have := f3.le
    simp only [go_sem, lss_n, Nat.lt_irrefl, decide_false]
    exact Few12Flds_c (h.kp f3) (hb.kp f3) (by omega) (f3.get ge he) fun r H' n' f => hk _ _ _ (f3.trans f)
end
end Go.RL

/- Contracts, thirty-second part: have files few parts, whole. -/
namespace Go.RL
open Go.Eng
set_option maxRecDepth 100000
theorem Few12_c {G : Roms} {H : Heap} {n : Nat} {v : V} {f : Fl} (h : FileV G H n v f) {k : KV} (hk : ∀ r H' n', Kp H n H' n' → k (.bool r) H' n') : Runs F G n_kilnlaw12_Few [v] H n k := by
  refine runs_s (s := ar1 (s_kilnlaw12_Few lfp G)) at_kilnlaw12_Few (by obtain ⟨h, o⟩ := si_kilnlaw12_Few lfp_ok G; rw [at_kilnlaw12_Few] at h; cases h; exact o) ?_
  show s_kilnlaw12_Few lfp G (Runs F G) v H n k
  obtain ⟨L, vf, vm, v0, v1, v2, v3, v4, vb, mws, ws, bws, h, rfl⟩ := h
  obtain ⟨rfl, hf, hp, hb⟩ := h
  delta s_kilnlaw12_Few
  refine a_boxA fun H1 f1 g1 => ?_
  rw [s_padd, s_onV, show ldnV 4 (.ptr n (0 + 0)) G H1 = some (.agg [f.face.nm.v, f.face.sup.v, vf, vm]) from ldn_one g1 (by omega) (by show 4 ≤ 10; omega), s_onV]
  refine Few07_c (c := f.face) ⟨vf, vm, mws, hf.kp f1, rfl⟩ fun r H2 n2 f2 => ?_
  have f12 := f1.trans f2
  have h2n := f2.le
  have hp2 := hp.kp f12
  have hb2 := hb.kp f12
  have g2 := f2.get g1 (by omega)
  have l0 : lenV v0 = some (.int .i64 (.ofNat f.pool.nums.length) 0) := by rw [hp2.e0.len, List.length_map]
  have l1 : lenV v1 = some (.int .i64 (.ofNat f.pool.names.length) 0) := by rw [hp2.e1.len, strs_len]
  have l3 : lenV v3 = some (.int .i64 (.ofNat f.pool.fields.length) 0) := by rw [hp2.e3.len, List.length_map]
  have l4 : lenV v4 = some (.int .i64 (.ofNat f.pool.meths.length) 0) := by rw [hp2.e4.len, List.length_zipWith, hp2.len4, Nat.min_self]
  have lb : lenV vb = some (.int .i64 (.ofNat f.bodies.length) 0) := by rw [hb2.el.len, List.length_zipWith, hb2.len, Nat.min_self]
  simp only [s_notB]
  cases r with
  | false =>
    simp only [Bool.not_false]
    rw [s_onV]
    repeat (first | with_reducible refine gs_t ?_ | with_reducible refine gp_t ?_)
    simp only [go_sem]; exact hk _ _ _ f12
  | true =>
  simp only [Bool.not_true, go_sem, Nat.reduceAdd, ld1_one (off := 4) g2 (v := v0) rfl, l0, gtr_n]
  cases h1 : decide (20 < f.pool.nums.length) with
  | true =>
    repeat (first | with_reducible refine gs_t ?_ | with_reducible refine gp_t ?_)
    simp only [go_sem]; exact hk _ _ _ f12
  | false =>
  simp only [go_sem, Nat.reduceAdd, ld1_one (off := 5) g2 (v := v1) rfl, l1, gtr_n]
  cases h1 : decide (20 < f.pool.names.length) with
  | true =>
    repeat (first | with_reducible refine gs_t ?_ | with_reducible refine gp_t ?_)
    simp only [go_sem]; exact hk _ _ _ f12
  | false =>
  simp only [go_sem, Nat.reduceAdd, ld1_one (off := 6) g2 (v := v2) rfl, hp2.t2.len, gtr_n]
  cases h1 : decide (20 < f.pool.types.length) with
  | true =>
    repeat (first | with_reducible refine gs_t ?_ | with_reducible refine gp_t ?_)
    simp only [go_sem]; exact hk _ _ _ f12
  | false =>
  simp only [go_sem, Nat.reduceAdd, ld1_one (off := 7) g2 (v := v3) rfl, l3, gtr_n]
  cases h1 : decide (20 < f.pool.fields.length) with
  | true =>
    repeat (first | with_reducible refine gs_t ?_ | with_reducible refine gp_t ?_)
    simp only [go_sem]; exact hk _ _ _ f12
  | false =>
  simp only [go_sem, Nat.reduceAdd, ld1_one (off := 8) g2 (v := v4) rfl, l4, gtr_n]
  cases h1 : decide (20 < f.pool.meths.length) with
  | true =>
    repeat (first | with_reducible refine gs_t ?_ | with_reducible refine gp_t ?_)
    simp only [go_sem]; exact hk _ _ _ f12
  | false =>
  simp only [go_sem, Nat.reduceAdd, ld1_one (off := 9) g2 (v := vb) rfl, lb, gtr_n]
  cases h1 : decide (12 < f.bodies.length) with
  | true =>
    repeat (first | with_reducible refine gs_t ?_ | with_reducible refine gp_t ?_)
    simp only [go_sem]; exact hk _ _ _ f12
  | false =>
  simp only [go_sem, Nat.reduceAdd, ld1_one (off := 5) g2 (v := v1) rfl, l1]
  have hbig := hp2.b1
  refine lfp_range (N := f.pool.names.length) (J := fun j q => ∃ H' n', q = (.ptr n 0, v1, .int .i64 (.ofNat f.pool.names.length) 0, .int .i64 (.ofNat j) 0, H', n') ∧ Kp H2 n2 H' n') ?_ ?_ ⟨H2, _, rfl, Kp.refl _ _⟩
  · rintro I j q hlt ⟨H3, n3, rfl, f3⟩ ih
    show s_kilnlaw12_Few_l127 lfp G (Runs F G) k I (.ptr n 0) v1 (.int .i64 (.ofNat f.pool.names.length) 0) (.int .i64 (.ofNat j) 0) H3 n3
    delta s_kilnlaw12_Few_l127
    have h3 := hp2.kp f3
    obtain ⟨q, hp', hld⟩ := h3.e1.at (strs_at hlt)
    generalize f.pool.names[j] = m at hld
    simp only [go_sem, Nat.reduceAdd, lss_n, hlt, decide_true, hp', ld1_of hld, lenS, gtr_n]
    cases h1 : decide (60 < m.1) with
    | true => simp only [go_sem]; exact hk _ _ _ (f12.trans f3)
    | false =>
    simp only [go_sem, add_i (show j + 1 < 9223372036854775808 by unfold big at hbig; omega)]
    exact ih _ ⟨_, _, rfl, f3⟩
  · rintro I q ⟨H3, n3, rfl, f3⟩
    show s_kilnlaw12_Few_l127 lfp G (Runs F G) k I (.ptr n 0) v1 (.int .i64 (.ofNat f.pool.names.length) 0) (.int .i64 (.ofNat f.pool.names.length) 0) H3 n3
    delta s_kilnlaw12_Few_l127
    have := f3.le
    simp only [go_sem, lss_n, Nat.lt_irrefl, decide_false]
    exact Few12Types_c (hp2.kp f3) (hb2.kp f3) (by omega) (f3.get g2 (by omega)) fun r H' n' f => hk _ _ _ (f12.trans (f3.trans f))
theorem Few14_c {G : Roms} {H : Heap} {n : Nat} {v : V} {fls : List Fl} (h : FilesV G H n v fls) {k : KV} (hk : ∀ r H' n', Kp H n H' n' → (r = true → fls.length ≤ 8) → k (.bool r) H' n') : Runs F G n_kilnlaw14_Few [v] H n k := by
  refine runs_s (s := ar1 (s_kilnlaw14_Few lfp G)) at_kilnlaw14_Few (by obtain ⟨h, o⟩ := si_kilnlaw14_Few lfp_ok G; rw [at_kilnlaw14_Few] at h; cases h; exact o) ?_
  show s_kilnlaw14_Few lfp G (Runs F G) v H n k
  delta s_kilnlaw14_Few
  have hbig := h.lt
  simp only [go_sem, h.len]
  refine lfp_range (N := fls.length) (J := fun j q => ∃ H' n', q = (v, v, .int .i64 (.ofNat fls.length) 0, .int .i64 (.ofNat j) 0, H', n') ∧ Kp H n H' n') ?_ ?_ ⟨H, _, rfl, Kp.refl _ _⟩
  · rintro I j q hlt ⟨H3, n3, rfl, f3⟩ ih
    show s_kilnlaw14_Few_l5 lfp G (Runs F G) k I v v (.int .i64 (.ofNat fls.length) 0) (.int .i64 (.ofNat j) 0) H3 n3
    delta s_kilnlaw14_Few_l5
    obtain ⟨q, vf, vm, v0, v1, v2, v3, v4, vb, mws, ws, bws, hp, hld, hfile⟩ := (h.ke f3.ke).at hlt
    generalize fls[j] = m at hld hfile
    simp only [go_sem, Nat.reduceAdd, lss_n, hlt, decide_true, hp, ldn_of hld]
    rw [T.set_set]
    have f4' : Kp H3 n3 (T.set H3 n3 (one [m.face.nm.v, m.face.sup.v, vf, vm, v0, v1, v2, v3, v4, vb])) (n3 + 1) := (Kp.refl _ _).new _ (Nat.le_refl _) (by omega)
    have g4 := T.get_set H3 n3 (one [m.face.nm.v, m.face.sup.v, vf, vm, v0, v1, v2, v3, v4, vb])
    generalize T.set H3 n3 (one [m.face.nm.v, m.face.sup.v, vf, vm, v0, v1, v2, v3, v4, vb]) = H4 at f4' g4
    refine Few12_c (f := m) ⟨_, vf, vm, v0, v1, v2, v3, v4, vb, mws, ws, bws, hfile.ke f4'.ke, rfl⟩ fun r H5 n5 f5 => ?_
    have f6 := f3.trans (f4'.trans f5)
    simp only [go_sem, s_notB]
    cases r with
    | false => simp only [Bool.not_false, go_sem]; exact hk _ _ _ f6 (fun h => by cases h)
    | true =>
      simp only [Bool.not_true, go_sem, add_i (show j + 1 < 9223372036854775808 by unfold big at hbig; omega)]
      exact ih _ ⟨_, _, rfl, f6⟩
  · rintro I q ⟨H3, n3, rfl, f3⟩
    show s_kilnlaw14_Few_l5 lfp G (Runs F G) k I v v (.int .i64 (.ofNat fls.length) 0) (.int .i64 (.ofNat fls.length) 0) H3 n3
    delta s_kilnlaw14_Few_l5
    simp only [go_sem, lss_n, Nat.lt_irrefl, decide_false]
    delta s_kilnlaw14_Few_j1
    simp only [go_sem, h.len, leq_i]
    refine hk _ _ _ f3 fun h => ?_
    have := of_decide_eq_true h
    show fls.length ≤ 8
    have h2 : (fls.length : Int) ≤ 8 := this
    omega
end Go.RL

/- The document's example, run by the kernel, whatever memory was there. -/
namespace Go.RL
open Go.Eng
set_option maxRecDepth 100000
theorem head_run (G : Roms) : runS (FS (lpF 100) G) 100 n_kilnlaw14_head [] .e 0 isT = True := by kernel_rfl
theorem head_c {G : Roms} {k : KV} (hk : ∀ H' n', k (.bool true) H' n') : Runs F G n_kilnlaw14_head [] .e 0 k :=
  runs_mono (k := isT) (fun v H n hv => by have := isT_iff hv; subst this; exact hk H n) (runS_le (fs_ok (lpF_ok 100) G) 100 _ _ _ _ _ (of_eq_true (head_run G)))
end Go.RL

/- LinkTurns, walked: two images of the same files, in another order. -/
namespace Go.RL
open Go.Eng
set_option maxRecDepth 100000
structure Img where
  i : Nat
  t : Nat
  a : Nat
  b : Nat
  f : Nat
  v : V
abbrev Img.At (G : Roms) (H : Heap) (n : Nat) (x : Img) (fs : Tab) : Prop := ImgAt G H n x.i x.t x.a x.b x.f x.v fs
structure Both (G : Roms) (H : Heap) (n : Nat) (x y : Img) (tx ty : Tab) (v : V) (fls : List Fl) : Prop where
  ix : x.At G H n tx
  iy : y.At G H n ty
  fl : FilesV G H n v fls
  x0 : x.i ≠ y.b
  x1 : x.t ≠ y.b
  x2 : x.a ≠ y.b
  x3 : x.b ≠ y.b
  y0 : y.i ≠ x.b
  y1 : y.t ≠ x.b
  y2 : y.a ≠ x.b
section
variable {G : Roms} {H H' : Heap} {n n' : Nat} {x y : Img} {tx ty : Tab} {v : V} {fls : List Fl}
theorem Both.kbx (h : Both G H n x y tx ty v fls) (f : Kb x.b H n H' n') : Both G H' n' x y tx ty v fls :=
  ⟨h.ix.kb f, h.iy.kb2 f h.ix.tab.seen h.y0 h.y1 h.y2 (Ne.symm h.x3), h.fl.ke (f.ke h.ix.tab.seen), h.x0, h.x1, h.x2, h.x3, h.y0, h.y1, h.y2⟩
theorem Both.kby (h : Both G H n x y tx ty v fls) (f : Kb y.b H n H' n') : Both G H' n' x y tx ty v fls :=
  ⟨h.ix.kb2 f h.iy.tab.seen h.x0 h.x1 h.x2 h.x3, h.iy.kb f, h.fl.ke (f.ke h.iy.tab.seen), h.x0, h.x1, h.x2, h.x3, h.y0, h.y1, h.y2⟩
theorem Both.kp (h : Both G H n x y tx ty v fls) (f : Kp H n H' n') : Both G H' n' x y tx ty v fls := h.kbx (f.kb h.ix.tab.bn)
end
theorem ne_s_same (s : St) : eqV (.one .str) true s.v s.v = some (.bool false) := by
  show eqV (.one .str) true (.str s.1 s.2) (.str s.1 s.2) = _
  rw [ne_s]; simp
/- what the law's loops hold on to: two images, the files, and the file that is looked at -/
structure TurnAt (G : Roms) (H : Heap) (n e : Nat) (x y : Img) (tx ty : Tab) (v : V) (fls : List Fl) (m : Fl) (vf vm v0 v1 v2 v3 v4 vb : V) (mws : List V) : Prop where
  both : Both G H n x y tx ty v fls
  en : e < n
  ex : e ≠ x.b
  ey : e ≠ y.b
  g : T.get H e = some (one [m.face.nm.v, m.face.sup.v, vf, vm, v0, v1, v2, v3, v4, vb])
  fs : FldsAt G H n vf m.face.fs
  ms : MethsAt G H n vm m.face.ms mws
section
variable {G : Roms} {H H' : Heap} {n n' e : Nat} {x y : Img} {tx ty : Tab} {v : V} {fls : List Fl} {m : Fl} {vf vm v0 v1 v2 v3 v4 vb : V} {mws : List V}
theorem TurnAt.kbx (h : TurnAt G H n e x y tx ty v fls m vf vm v0 v1 v2 v3 v4 vb mws) (f : Kb x.b H n H' n') : TurnAt G H' n' e x y tx ty v fls m vf vm v0 v1 v2 v3 v4 vb mws :=
  ⟨h.both.kbx f, Nat.lt_of_lt_of_le h.en f.le, h.ex, h.ey, f.get h.g h.en h.ex, h.fs.ke (f.ke h.both.ix.tab.seen), h.ms.ke (f.ke h.both.ix.tab.seen)⟩
theorem TurnAt.kby (h : TurnAt G H n e x y tx ty v fls m vf vm v0 v1 v2 v3 v4 vb mws) (f : Kb y.b H n H' n') : TurnAt G H' n' e x y tx ty v fls m vf vm v0 v1 v2 v3 v4 vb mws :=
  ⟨h.both.kby f, Nat.lt_of_lt_of_le h.en f.le, h.ex, h.ey, f.get h.g h.en h.ey, h.fs.ke (f.ke h.both.iy.tab.seen), h.ms.ke (f.ke h.both.iy.tab.seen)⟩
theorem TurnAt.kp (h : TurnAt G H n e x y tx ty v fls m vf vm v0 v1 v2 v3 v4 vb mws) (f : Kp H n H' n') : TurnAt G H' n' e x y tx ty v fls m vf vm v0 v1 v2 v3 v4 vb mws := h.kbx (f.kb h.both.ix.tab.bn)
end
theorem TurnMeths_c {G : Roms} {H : Heap} {n e : Nat} {x y : Img} {tx ty : Tab} {v z1 z2 : V} {fls : List Fl} {m : Fl} {vf vm v0 v1 v2 v3 v4 vb : V} {mws : List V} {k : KV} {ih29 : (V × V × V × V × V × Heap × Nat) → Prop}
    (h : TurnAt G H n e x y tx ty v fls m vf vm v0 v1 v2 v3 v4 vb mws) (hx : tx.length ≤ 1000) (hy : ty.length ≤ 1000)
    (hfx : ∀ s ∈ m.face.ms, findT tx ⟨s, m.face.nm⟩ = some m.face.nm) (hfy : ∀ s ∈ m.face.ms, findT ty ⟨s, m.face.nm⟩ = some m.face.nm)
    (hk : ∀ H' n', Both G H' n' x y tx ty v fls → s_kilnlaw14_LinkTurns_j31 lfp G (Runs F G) k ih29 (.ptr x.i 0) (.ptr y.i 0) v z1 z2 H' n') :
    s_kilnlaw14_LinkTurns_j46 lfp G (Runs F G) k ih29 (.ptr x.i 0) (.ptr y.i 0) (.ptr e 0) v z1 z2 H n := by
  delta s_kilnlaw14_LinkTurns_j46
  have hbig := h.ms.lt
  simp only [go_sem, Nat.reduceAdd, ld1_one (off := 3) h.g (v := vm) rfl, h.ms.len']
  refine lfp_range (N := m.face.ms.length) (J := fun j q => ∃ H' n', q = (.ptr x.i 0, .ptr y.i 0, .ptr e 0, v, z1, z2, vm, .int .i64 (.ofNat m.face.ms.length) 0, .int .i64 (.ofNat j) 0, H', n') ∧ TurnAt G H' n' e x y tx ty v fls m vf vm v0 v1 v2 v3 v4 vb mws) ?_ ?_ ⟨H, n, rfl, h⟩
  · rintro I j q hlt ⟨H3, n3, rfl, h3⟩ ih
    show s_kilnlaw14_LinkTurns_l51 lfp G (Runs F G) k ih29 I (.ptr x.i 0) (.ptr y.i 0) (.ptr e 0) v z1 z2 vm (.int .i64 (.ofNat m.face.ms.length) 0) (.int .i64 (.ofNat j) 0) H3 n3
    delta s_kilnlaw14_LinkTurns_l51
    obtain ⟨q, w, hp, hld, hw⟩ := h3.ms.at hlt
    have hin := List.getElem_mem hlt
    generalize m.face.ms[j] = s at hld hw hin
    unfold Meth.cells at hld
    simp only [go_sem, lss_n, hlt, decide_true, hp, ldn_of hld, Nat.reduceAdd]
    rw [T.set_set]
    have f4 : Kp H3 n3 (T.set H3 n3 (one [s.nm.v, .bool s.st, w, s.ret.nm.v, .bool s.ret.arr])) (n3 + 1) := (Kp.refl _ _).new _ (Nat.le_refl _) (by omega)
    have g4 := T.get_set H3 n3 (one [s.nm.v, .bool s.st, w, s.ret.nm.v, .bool s.ret.arr])
    generalize T.set H3 n3 (one [s.nm.v, .bool s.st, w, s.ret.nm.v, .bool s.ret.arr]) = H4 at f4 g4
    have h4 := h3.kp f4
    simp only [go_sem, Nat.reduceAdd, ld1_one (off := 0) h4.g (v := m.face.nm.v) rfl]
    rw [show buildV [.str 0 0, .bool false, .nils, .str 0 0, .bool false, .str 0 0] [(0, 5, .c (.agg [s.nm.v, .bool s.st, w, s.ret.nm.v, .bool s.ret.arr])), (5, 1, .c m.face.nm.v)] = some (.agg [s.nm.v, .bool s.st, w, s.ret.nm.v, .bool s.ret.arr, m.face.nm.v]) from rfl]
    simp only [go_sem, Nat.reduceAdd]
    rw [T.set_set]
    have f5 : Kp H4 (n3 + 1) (T.set H4 (n3 + 1) (one [s.nm.v, .bool s.st, w, s.ret.nm.v, .bool s.ret.arr, m.face.nm.v])) (n3 + 1 + 1) := (Kp.refl _ _).new _ (Nat.le_refl _) (by omega)
    have g5 := T.get_set H4 (n3 + 1) (one [s.nm.v, .bool s.st, w, s.ret.nm.v, .bool s.ret.arr, m.face.nm.v])
    generalize T.set H4 (n3 + 1) (one [s.nm.v, .bool s.st, w, s.ret.nm.v, .bool s.ret.arr, m.face.nm.v]) = H5 at f5 g5
    have h5 := h4.kp f5
    have hxb := h3.both.ix.tab.bn
    have hyb := h3.both.iy.tab.bn
    have hw5 := (hw.kp f4).kp f5
    refine Find_c (p := ⟨s, m.face.nm⟩) h5.both.ix hx ⟨w, rfl, hw5⟩ fun H6 n6 f6 => ?_
    have h6 := h5.kbx f6
    have h6n := f6.le
    have g6 := f6.get g5 (by omega) (by omega)
    rw [hfx s hin]
    simp only [go_sem, Nat.reduceAdd, ldn_all (m := 6) g6 (by omega) rfl, Option.getD_some, Option.isSome_some]
    refine Find_c (p := ⟨s, m.face.nm⟩) h6.both.iy hy ⟨w, rfl, hw5.ke (f6.ke h5.both.ix.tab.seen)⟩ fun H7 n7 f7 => ?_
    have h7 := h6.kby f7
    rw [hfy s hin]
    simp only [go_sem, Nat.reduceAdd, ld1_one (off := 0) h7.g (v := m.face.nm.v) rfl, Option.getD_some, Option.isSome_some, ne_s_same, s_notB, Bool.not_true, add_i (show j + 1 < 9223372036854775808 by unfold big at hbig; omega)]
    exact ih _ ⟨_, _, rfl, h7⟩
  · rintro I q ⟨H3, n3, rfl, h3⟩
    show s_kilnlaw14_LinkTurns_l51 lfp G (Runs F G) k ih29 I (.ptr x.i 0) (.ptr y.i 0) (.ptr e 0) v z1 z2 vm (.int .i64 (.ofNat m.face.ms.length) 0) (.int .i64 (.ofNat m.face.ms.length) 0) H3 n3
    delta s_kilnlaw14_LinkTurns_l51
    simp only [go_sem, lss_n, Nat.lt_irrefl, decide_false]
    exact hk _ _ h3.both
end Go.RL

/- Plain: what files need to fit together; the order is nothing to it. -/
namespace Go.RL
open Go.Eng
set_option maxRecDepth 100000
/- tables that answer alike -/
def TabEq (a b : Tab) : Prop := a.length = b.length ∧ ∀ s, lkp a s = lkp b s
section
variable {a b : Tab}
theorem aboveM_congr (h : ∀ s, lkp a s = lkp b s) : ∀ (m : Nat) (out : List St) (s : St), aboveM m a out s = aboveM m b out s
  | 0, _, _ => rfl
  | m + 1, out, s => by
    unfold aboveM
    rw [h]
    cases lkp b s with
    | none => rfl
    | some c => simp only [aboveM_congr h m]
theorem above_congr (h : TabEq a b) (s : St) : above a s = above b s := by unfold above; rw [h.1]; exact aboveM_congr h.2 _ _ _
theorem knownT_congr (h : TabEq a b) : knownT a = knownT b := by funext t; unfold knownT; rw [h.2]
theorem fldIn_congr (h : TabEq a b) (s : St) : ∀ cs, fldIn a s cs = fldIn b s cs
  | [] => rfl
  | c :: cs => by unfold fldIn; rw [h.2, fldIn_congr h s cs]
theorem fldT_congr (h : TabEq a b) (c s : St) : fldT a c s = fldT b c s := by unfold fldT; rw [above_congr h, fldIn_congr h]
theorem methIn_congr (h : TabEq a b) (s : St) (st : Bool) : ∀ cs, methIn a s st cs = methIn b s st cs
  | [] => rfl
  | c :: cs => by unfold methIn; rw [h.2, methIn_congr h s st cs]
theorem methT_congr (h : TabEq a b) (c s : St) (st : Bool) : methT a c s st = methT b c s st := by unfold methT; rw [above_congr h, methIn_congr h]
theorem findIn_congr (h : TabEq a b) (p : PM) : ∀ cs, findIn a p cs = findIn b p cs
  | [] => rfl
  | c :: cs => by unfold findIn; rw [h.2, findIn_congr h p cs]
theorem findT_congr (h : TabEq a b) (p : PM) : findT a p = findT b p := by unfold findT; rw [above_congr h, findIn_congr h]
theorem methsC_congr (h : TabEq a b) (sup : St) : ∀ ms, methsC a sup ms = methsC b sup ms
  | [] => rfl
  | m :: ms => by unfold methsC overM; rw [knownT_congr h, methT_congr h, methsC_congr h sup ms]
theorem fldsC_congr (h : TabEq a b) (sup : St) (r : Int) : ∀ l, fldsC a sup r l = fldsC b sup r l
  | [] => rfl
  | f :: l => by unfold fldsC; rw [knownT_congr h, fldT_congr h, fldsC_congr h sup r l]
theorem checkM_congr (h : TabEq a b) (s : St) : checkM a s = checkM b s := by
  unfold checkM
  rw [h.2 s, above_congr h, h.2]
  cases lkp b s with
  | none => rfl
  | some c => simp only [methsC_congr h, fldsC_congr h]
theorem poolT_congr (h : TabEq a b) (p : Pool) : poolT a p = poolT b p := by
  unfold poolT
  have e1 : fldOkT a = fldOkT b := by funext f; unfold fldOkT; rw [fldT_congr h]
  have e2 : findT a = findT b := by funext f; exact findT_congr h f
  rw [knownT_congr h, e1, e2]
end
/- a table of faces whose names are apart -/
theorem put1_len {α : Type} (s : St) (v : α) : ∀ (ps : List (St × α)), (put1 s v ps).length = if (lkp ps s).isSome then ps.length else ps.length + 1
  | [] => rfl
  | p :: ps => by
    have ih := put1_len s v ps
    unfold put1 lkp
    by_cases h : p.1 = s
    · simp [h]
    · unfold lkp at ih
      simp only [h, if_false, List.length_cons, List.find?_cons, decide_false]
      rw [ih]
      split <;> rename_i h2 <;> simp [h2]
def faceIn (cs : List Fc) (s : St) : Option Fc := cs.find? fun c => decide (c.nm = s)
theorem faceIn_none {cs : List Fc} {s : St} (h : s ∉ cs.map (fun c => c.nm)) : faceIn cs s = none := by
  unfold faceIn
  rw [List.find?_eq_none]
  intro c hc hd
  exact h (List.mem_map.2 ⟨c, hc, of_decide_eq_true hd⟩)
theorem lkp_tabFrom : ∀ (cs : List Fc) (fs : Tab) (s : St), (cs.map fun c => c.nm).Nodup → lkp (tabFrom fs cs) s = (match faceIn cs s with | some c => some c | none => lkp fs s)
  | [], _, _, _ => rfl
  | c :: cs, fs, s, h => by
    rw [List.map_cons, List.nodup_cons] at h
    show lkp (tabFrom (put1 c.nm c fs) cs) s = _
    rw [lkp_tabFrom cs _ s h.2, lkp_put1]
    unfold faceIn
    rw [List.find?_cons]
    by_cases e : c.nm = s
    · subst e
      have := faceIn_none h.1
      unfold faceIn at this
      rw [this]
      simp
    · simp [e]
theorem lkp_tabOf {cs : List Fc} (h : (cs.map fun c => c.nm).Nodup) (s : St) : lkp (tabOf cs) s = faceIn cs s := by
  unfold tabOf; rw [lkp_tabFrom cs [] s h]; cases faceIn cs s <;> rfl
theorem len_tabFrom : ∀ (cs : List Fc) (fs : Tab), (cs.map fun c => c.nm).Nodup → (∀ c ∈ cs, lkp fs c.nm = none) → (tabFrom fs cs).length = fs.length + cs.length
  | [], _, _, _ => rfl
  | c :: cs, fs, h, hd => by
    rw [List.map_cons, List.nodup_cons] at h
    show (tabFrom (put1 c.nm c fs) cs).length = _
    rw [len_tabFrom cs _ h.2, put1_len, hd c (List.mem_cons_self ..)]
    · simp only [Option.isSome_none, List.length_cons]; simp; omega
    · intro d hdm
      rw [lkp_put1, if_neg, hd d (List.mem_cons_of_mem _ hdm)]
      intro e; exact h.1 (e ▸ List.mem_map.2 ⟨d, hdm, rfl⟩)
theorem len_tabOf {cs : List Fc} (h : (cs.map fun c => c.nm).Nodup) : (tabOf cs).length = cs.length := by
  unfold tabOf; rw [len_tabFrom cs [] h fun _ _ => rfl]; simp
theorem faceIn_some {cs : List Fc} (h : (cs.map fun c => c.nm).Nodup) {s : St} {c : Fc} : faceIn cs s = some c ↔ c ∈ cs ∧ c.nm = s := by
  induction cs with
  | nil => simp [faceIn]
  | cons d cs ih =>
    rw [List.map_cons, List.nodup_cons] at h
    have ih := ih h.2
    unfold faceIn at ih ⊢
    rw [List.find?_cons]
    by_cases e : d.nm = s
    · simp only [e, decide_true, Option.some.injEq, List.mem_cons]
      constructor
      · rintro rfl; exact ⟨.inl rfl, e⟩
      · rintro ⟨rfl | hc, h2⟩
        · rfl
        · exact absurd (List.mem_map.2 ⟨c, hc, h2.trans e.symm⟩) h.1
    · simp only [e, decide_false, List.mem_cons]
      rw [ih]
      constructor
      · rintro ⟨h1, h2⟩; exact ⟨.inr h1, h2⟩
      · rintro ⟨rfl | h1, h2⟩
        · exact absurd h2 e
        · exact ⟨h1, h2⟩
theorem tabEq_perm {l1 l2 : List Fc} (hp : l1.Perm l2) (h : (l1.map fun c => c.nm).Nodup) : TabEq (tabOf l1) (tabOf l2) := by
  have h2 : (l2.map fun c => c.nm).Nodup := (hp.map _).nodup_iff.1 h
  refine ⟨by rw [len_tabOf h, len_tabOf h2]; exact hp.length_eq, fun s => ?_⟩
  rw [lkp_tabOf h, lkp_tabOf h2]
  apply Option.ext
  intro c
  rw [faceIn_some h, faceIn_some h2, hp.mem_iff]
/- what files need -/
theorem link1_zero : ∀ (fls : List Fl) (acc : List (St × Fl)), link1 acc fls = 0 ↔ (∀ f ∈ fls, fileOk f = true) ∧ (namesOf fls).Nodup ∧ ∀ f ∈ fls, lkp acc f.face.nm = none
  | [], _ => by simp [link1]
  | f :: fs, acc => by
    unfold link1
    have ih := link1_zero fs (put1 f.face.nm f acc)
    cases h1 : fileOk f with
    | false =>
      simp only [Bool.not_false, cond_true]
      constructor
      · intro h; cases h
      · intro h; have := h.1 f (List.mem_cons_self ..); rw [h1] at this; cases this
    | true =>
      simp only [Bool.not_true, cond_false]
      cases h2 : lkp acc f.face.nm with
      | some x =>
        simp only [Option.isSome_some, cond_true]
        constructor
        · intro h; cases h
        · intro h; have := h.2.2 f (List.mem_cons_self ..); rw [h2] at this; cases this
      | none =>
        simp only [Option.isSome_none, cond_false]
        rw [ih]
        simp only [namesOf, List.map_cons, List.nodup_cons, List.mem_cons, forall_eq_or_imp, lkp_put1]
        constructor
        · rintro ⟨a1, a2, a3⟩
          refine ⟨⟨h1, a1⟩, ⟨?_, a2⟩, h2, fun g hg => ?_⟩
          · intro hm
            obtain ⟨g, hg, e⟩ := List.mem_map.1 hm
            have := a3 g hg
            rw [if_pos e.symm] at this; cases this
          · have := a3 g hg
            split at this
            · cases this
            · exact this
        · rintro ⟨⟨_, a1⟩, ⟨a4, a2⟩, _, a3⟩
          refine ⟨a1, a2, fun g hg => ?_⟩
          rw [if_neg]
          · exact a3 g hg
          · intro e; exact a4 (List.mem_map.2 ⟨g, hg, e.symm⟩)
theorem link2_zero (t : Tab) : ∀ (fls : List Fl), link2 t fls = 0 ↔ ∀ f ∈ fls, checkM t f.face.nm = 0 ∧ poolT t f.pool = true
  | [] => by simp [link2]
  | f :: fs => by
    unfold link2
    have ih := link2_zero t fs
    cases h1 : checkM t f.face.nm == 0 with
    | false =>
      simp only [Bool.not_false, cond_true, List.mem_cons, forall_eq_or_imp]
      have h1 : checkM t f.face.nm ≠ 0 := by simpa using h1
      exact ⟨fun h => absurd h h1, fun h => absurd h.1.1 h1⟩
    | true =>
      have h1 : checkM t f.face.nm = 0 := by simpa using h1
      simp only [Bool.not_true, cond_false]
      cases h2 : poolT t f.pool with
      | false =>
        simp only [Bool.not_false, cond_true, List.mem_cons, forall_eq_or_imp, h2]
        exact ⟨fun h => absurd h (by decide), fun h => absurd h.1.2 (by simp)⟩
      | true =>
        simp only [Bool.not_true, cond_false, List.mem_cons, forall_eq_or_imp, h2, h1, ih]
        simp
structure Fit (fls : List Fl) : Prop where
  len : fls.length ≤ 200
  ok : ∀ f ∈ fls, fileOk f = true
  apart : (namesOf fls).Nodup
  stand : ∀ f ∈ fls, checkM (tabOf (facesOf fls)) f.face.nm = 0 ∧ poolT (tabOf (facesOf fls)) f.pool = true
theorem linkM_zero {fls : List Fl} : linkM fls = 0 ↔ Fit fls := by
  unfold linkM
  have h1 := link1_zero fls []
  have h2 := link2_zero (tabOf (facesOf fls)) fls
  by_cases h : 200 < fls.length
  · rw [decide_eq_true h]
    exact ⟨fun h => (by cases h), fun h' => absurd h'.len (by omega)⟩
  · rw [decide_eq_false h]
    simp only [cond_false]
    cases h3 : link1 [] fls == 0 with
    | false =>
      have h3 : link1 [] fls ≠ 0 := by simpa using h3
      simp only [Bool.not_false, cond_true]
      exact ⟨fun h => absurd h h3, fun h' => absurd (h1.2 ⟨h'.ok, h'.apart, fun _ _ => rfl⟩) h3⟩
    | true =>
      have h3 : link1 [] fls = 0 := by simpa using h3
      simp only [Bool.not_true, cond_false]
      rw [h2]
      have h4 := h1.1 h3
      exact ⟨fun h' => ⟨by omega, h4.1, h4.2.1, h'⟩, fun h' => h'.stand⟩
theorem names_faces (fls : List Fl) : (facesOf fls).map (fun c => c.nm) = namesOf fls := by simp
theorem Fit.tab {l1 l2 : List Fl} (h : Fit l1) (hp : l1.Perm l2) : TabEq (tabOf (facesOf l1)) (tabOf (facesOf l2)) := tabEq_perm (hp.map _) (by rw [names_faces]; exact h.apart)
theorem Fit.perm {l1 l2 : List Fl} (h : Fit l1) (hp : l1.Perm l2) : Fit l2 := by
  have ht := h.tab hp
  refine ⟨by rw [← hp.length_eq]; exact h.len, fun f hf => h.ok f (hp.mem_iff.2 hf), (hp.map _).nodup_iff.1 h.apart, fun f hf => ?_⟩
  rw [← checkM_congr ht, ← poolT_congr ht]
  exact h.stand f (hp.mem_iff.2 hf)
theorem Fit.look {fls : List Fl} (h : Fit fls) {f : Fl} (hf : f ∈ fls) : lkp (tabOf (facesOf fls)) f.face.nm = some f.face := by
  rw [lkp_tabOf (by rw [names_faces]; exact h.apart), faceIn_some (by rw [names_faces]; exact h.apart)]
  exact ⟨List.mem_map.2 ⟨f, hf, rfl⟩, rfl⟩
/- names in order -/
theorem sltF_0 (l1 c1 l2 c2 : Nat) : sltF 0 l1 c1 l2 c2 = false := rfl
theorem sltF_n0 (f l1 c1 c2 : Nat) : sltF (f + 1) l1 c1 0 c2 = false := rfl
theorem sltF_0n (f c1 l2 c2 : Nat) : sltF (f + 1) 0 c1 (l2 + 1) c2 = true := rfl
theorem sltF_nn (f l1 c1 l2 c2 : Nat) : sltF (f + 1) (l1 + 1) c1 (l2 + 1) c2 = if c1 % 256 = c2 % 256 then sltF f l1 (c1 / 256) l2 (c2 / 256) else decide (c1 % 256 < c2 % 256) := by
  show Bool.rec (motive := fun _ => Bool) (Nat.blt (c1 % 256) (c2 % 256)) (sltF f l1 (c1 / 256) l2 (c2 / 256)) (Nat.beq (c1 % 256) (c2 % 256)) = _
  by_cases h : c1 % 256 = c2 % 256
  · rw [if_pos h, show Nat.beq (c1 % 256) (c2 % 256) = true by simp [h]]
  · rw [if_neg h, show Nat.beq (c1 % 256) (c2 % 256) = false by rw [Bool.eq_false_iff]; simp [h]]
    show Nat.blt (c1 % 256) (c2 % 256) = _
    rw [Bool.eq_iff_iff, Nat.blt_eq]; simp
theorem sltF_irrefl : ∀ (f l c : Nat), sltF f l c l c = false
  | 0, _, _ => rfl
  | f + 1, 0, c => rfl
  | f + 1, l + 1, c => by rw [sltF_nn, if_pos rfl]; exact sltF_irrefl f l _
theorem sltF_trans : ∀ (f g h l1 c1 l2 c2 l3 c3 : Nat), l2 < f → l3 < g → l3 < h → sltF f l1 c1 l2 c2 = true → sltF g l2 c2 l3 c3 = true → sltF h l1 c1 l3 c3 = true
  | 0, _, _, _, _, _, _, _, _, h, _, _, _, _ => by omega
  | _, 0, _, _, _, _, _, _, _, _, h, _, _, _ => by omega
  | _, _, 0, _, _, _, _, _, _, _, _, h, _, _ => by omega
  | f + 1, g + 1, h + 1, l1, c1, 0, c2, l3, c3, _, _, _, h1, _ => by rw [sltF_n0] at h1; cases h1
  | f + 1, g + 1, h + 1, l1, c1, l2 + 1, c2, 0, c3, _, _, _, _, h2 => by rw [sltF_n0] at h2; cases h2
  | f + 1, g + 1, h + 1, 0, c1, l2 + 1, c2, l3 + 1, c3, _, _, _, _, _ => sltF_0n ..
  | f + 1, g + 1, h + 1, l1 + 1, c1, l2 + 1, c2, l3 + 1, c3, a1, a2, a3, h1, h2 => by
    rw [sltF_nn] at h1 h2 ⊢
    by_cases e1 : c1 % 256 = c2 % 256
    · rw [if_pos e1] at h1
      by_cases e2 : c2 % 256 = c3 % 256
      · rw [if_pos e2] at h2
        rw [if_pos (e1.trans e2)]
        exact sltF_trans f g h _ _ _ _ _ _ (by omega) (by omega) (by omega) h1 h2
      · rw [if_neg e2] at h2
        have := of_decide_eq_true h2
        rw [if_neg (by omega)]; exact decide_eq_true (by omega)
    · rw [if_neg e1] at h1
      have := of_decide_eq_true h1
      by_cases e2 : c2 % 256 = c3 % 256
      · rw [if_neg (by omega)]; exact decide_eq_true (by omega)
      · rw [if_neg e2] at h2
        have := of_decide_eq_true h2
        rw [if_neg (by omega)]; exact decide_eq_true (by omega)
def ltS (a b : St) : Prop := slt a.1 a.2 b.1 b.2 = true
theorem ltS_irrefl (a : St) : ¬ ltS a a := by unfold ltS slt; rw [sltF_irrefl]; simp
theorem ltS_trans {a b c : St} (h : ltS a b) (h2 : ltS b c) : ltS a c := sltF_trans _ _ _ _ _ _ _ _ _ (Nat.lt_succ_self _) (Nat.lt_succ_self _) (Nat.lt_succ_self _) h h2
theorem leS_not {a b : St} (h : (!leS a b) = true) : ltS b a := by
  unfold leS at h
  show slt b.1 b.2 a.1 a.2 = true
  cases hs : slt b.1 b.2 a.1 a.2 with
  | true => rfl
  | false => rw [hs] at h; cases h
/- methods of a right face: their names rise -/
theorem methsOk_lt : ∀ (ms : List Meth) (a : St), methsOk a ms = true → ∀ m ∈ ms, ltS a m.nm
  | [], _, _, m, h => by cases h
  | x :: ms, a, h, m, hm => by
    unfold methsOk at h
    simp only [Bool.and_eq_true] at h
    have h0 := leS_not h.1
    rcases List.mem_cons.1 hm with rfl | hm
    · exact h0
    · exact ltS_trans h0 (methsOk_lt ms x.nm h.2.2.2.2.2 m hm)
theorem methM_self : ∀ (ms : List Meth) (a : St), methsOk a ms = true → ∀ m ∈ ms, methM m.nm ms = some m
  | [], _, _, m, h => by cases h
  | x :: ms, a, h, m, hm => by
    unfold methsOk at h
    simp only [Bool.and_eq_true] at h
    unfold methM
    rcases List.mem_cons.1 hm with rfl | hm
    · simp
    · have hlt := methsOk_lt ms x.nm h.2.2.2.2.2 m hm
      have hne : ¬ (x.nm.1 = m.nm.1 ∧ x.nm.2 = m.nm.2) := fun e => by
        have e : x.nm = m.nm := Prod.ext e.1 e.2
        rw [e] at hlt; exact ltS_irrefl _ hlt
      rw [decide_eq_false hne]
      exact methM_self ms x.nm h.2.2.2.2.2 m hm
theorem sameT_refl : ∀ l : List Ty, sameT l l = true
  | [] => rfl
  | a :: l => by unfold sameT Ty.is; rw [sameT_refl l]; simp
theorem same_refl (m : Meth) : m.same m = true := by unfold Meth.same Ty.is; rw [sameT_refl]; simp
theorem aboveM_pre : ∀ (m : Nat) (fs : Tab) (out : List St) (s : St), ∃ r, (aboveM m fs out s).1 = out ++ r
  | 0, _, out, _ => ⟨[], by simp [aboveM]⟩
  | m + 1, fs, out, s => by
    unfold aboveM
    cases decide (s.1 = 0 ∧ s.2 = 0) with
    | true => exact ⟨[], by simp⟩
    | false =>
      simp only [cond_false]
      cases lkp fs s with
      | none => exact ⟨[], by simp⟩
      | some c =>
        show ∃ r, (bif hasS s out then (out, false) else aboveM m fs (out ++ [s]) c.sup).1 = out ++ r
        cases hasS s out with
        | true => exact ⟨[], by simp⟩
        | false =>
          obtain ⟨r, h⟩ := aboveM_pre m fs (out ++ [s]) c.sup
          exact ⟨s :: r, by simp only [cond_false]; rw [h]; simp⟩
theorem above_self {fs : Tab} {s : St} {c : Fc} (h : lkp fs s = some c) (h0 : ¬ (s.1 = 0 ∧ s.2 = 0)) : ∃ r, (above fs s).1 = s :: r := by
  unfold above aboveM
  rw [decide_eq_false h0, h]
  show ∃ r, (aboveM fs.length fs [s] c.sup).1 = s :: r
  obtain ⟨r, h⟩ := aboveM_pre fs.length fs [s] c.sup
  exact ⟨r, h⟩
theorem fileOk_face {f : Fl} (h : fileOk f = true) : faceOk f.face = true := by unfold fileOk at h; rw [Bool.and_eq_true] at h; exact h.1
theorem faceOk_nm {c : Fc} (h : faceOk c = true) : ¬ (c.nm.1 = 0 ∧ c.nm.2 = 0) := by
  unfold faceOk at h
  simp only [Bool.and_eq_true] at h
  have := h.1
  unfold classS upper at this
  simp at this
  omega
theorem faceOk_ms {c : Fc} (h : faceOk c = true) : methsOk (0, 0) c.ms = true := by
  unfold faceOk at h
  simp only [Bool.and_eq_true] at h
  exact h.2.2.2.2.2.2.2
/- a method of a class's own is its own -/
theorem Fit.find {fls : List Fl} (h : Fit fls) {f : Fl} (hf : f ∈ fls) {m : Meth} (hm : m ∈ f.face.ms) : findT (tabOf (facesOf fls)) ⟨m, f.face.nm⟩ = some f.face.nm := by
  have hl := h.look hf
  have hok := fileOk_face (h.ok f hf)
  obtain ⟨r, hr⟩ := above_self hl (faceOk_nm hok)
  unfold findT
  show findIn _ _ (above _ f.face.nm).1 = _
  rw [hr]
  unfold findIn
  rw [hl]
  show (match methM m.nm f.face.ms with | some o => bif o.same m then some f.face.nm else _ | none => _) = _
  rw [methM_self f.face.ms (0, 0) (faceOk_ms hok) m hm]
  simp only [same_refl, cond_true]
end Go.RL

/- LinkTurns, walked, on: fields, files. -/
namespace Go.RL
open Go.Eng
set_option maxRecDepth 100000
theorem TurnFlds_c {G : Roms} {H : Heap} {n e : Nat} {x y : Img} {tx ty : Tab} {v z1 z2 : V} {fls : List Fl} {m : Fl} {vf vm v0 v1 v2 v3 v4 vb : V} {mws : List V} {k : KV} {ih29 : (V × V × V × V × V × Heap × Nat) → Prop}
    (h : TurnAt G H n e x y tx ty v fls m vf vm v0 v1 v2 v3 v4 vb mws) (hx : tx.length ≤ 1000) (hy : ty.length ≤ 1000) (hsx : small tx) (hsy : small ty)
    (hfx : ∀ s ∈ m.face.ms, findT tx ⟨s, m.face.nm⟩ = some m.face.nm) (hfy : ∀ s ∈ m.face.ms, findT ty ⟨s, m.face.nm⟩ = some m.face.nm) (hsl : ∀ c s, slotT tx c s = slotT ty c s)
    (hk : ∀ H' n', Both G H' n' x y tx ty v fls → s_kilnlaw14_LinkTurns_j31 lfp G (Runs F G) k ih29 (.ptr x.i 0) (.ptr y.i 0) v z1 z2 H' n') :
    lfp (V × V × V × V × V × V × V × V × V × Heap × Nat) (s_kilnlaw14_LinkTurns_l91b lfp G (Runs F G) k ih29) (.ptr x.i 0, .ptr y.i 0, .ptr e 0, v, z1, z2, vf, .int .i64 (.ofNat m.face.fs.length) 0, .int .i64 (.ofNat 0) 0, H, n) := by
  have hbig := h.fs.lt
  refine lfp_range (N := m.face.fs.length) (J := fun j q => ∃ H' n', q = (.ptr x.i 0, .ptr y.i 0, .ptr e 0, v, z1, z2, vf, .int .i64 (.ofNat m.face.fs.length) 0, .int .i64 (.ofNat j) 0, H', n') ∧ TurnAt G H' n' e x y tx ty v fls m vf vm v0 v1 v2 v3 v4 vb mws) ?_ ?_ ⟨H, n, rfl, h⟩
  · rintro I j q hlt ⟨H3, n3, rfl, h3⟩ ih
    show s_kilnlaw14_LinkTurns_l91 lfp G (Runs F G) k ih29 I (.ptr x.i 0) (.ptr y.i 0) (.ptr e 0) v z1 z2 vf (.int .i64 (.ofNat m.face.fs.length) 0) (.int .i64 (.ofNat j) 0) H3 n3
    delta s_kilnlaw14_LinkTurns_l91
    obtain ⟨q, hp, hld⟩ := h3.fs.at hlt
    generalize m.face.fs[j] = s at hld
    unfold Fld.cells at hld
    simp only [go_sem, lss_n, hlt, decide_true, hp, ldn_of hld, Nat.reduceAdd]
    rw [T.set_set]
    have f4 : Kp H3 n3 (T.set H3 n3 (one [s.nm.v, s.ty.nm.v, .bool s.ty.arr])) (n3 + 1) := (Kp.refl _ _).new _ (Nat.le_refl _) (by omega)
    have g4 := T.get_set H3 n3 (one [s.nm.v, s.ty.nm.v, .bool s.ty.arr])
    generalize T.set H3 n3 (one [s.nm.v, s.ty.nm.v, .bool s.ty.arr]) = H4 at f4 g4
    have h4 := h3.kp f4
    have hxb := h3.both.ix.tab.bn
    have hyb := h3.both.iy.tab.bn
    simp only [go_sem, Nat.reduceAdd, ld1_one (off := 0) h4.g (v := m.face.nm.v) rfl, ld1_one (off := 0) g4 (v := s.nm.v) rfl]
    refine Slot_c (c := m.face.nm) (s := s.nm) h4.both.ix hx hsx fun H5 n5 f5 => ?_
    have h5 := h4.kbx f5
    have g5 := f5.get g4 (by omega) (by omega)
    simp only [go_sem, Nat.reduceAdd, ld1_one (off := 0) h5.g (v := m.face.nm.v) rfl, ld1_one (off := 0) g5 (v := s.nm.v) rfl, vsame_s]
    refine Slot_c (c := m.face.nm) (s := s.nm) h5.both.iy hy hsy fun H6 n6 f6 => ?_
    rw [hsl]
    simp only [go_sem, neq_self, add_i (show j + 1 < 9223372036854775808 by unfold big at hbig; omega)]
    exact ih _ ⟨_, _, rfl, h5.kby f6⟩
  · rintro I q ⟨H3, n3, rfl, h3⟩
    show s_kilnlaw14_LinkTurns_l91 lfp G (Runs F G) k ih29 I (.ptr x.i 0) (.ptr y.i 0) (.ptr e 0) v z1 z2 vf (.int .i64 (.ofNat m.face.fs.length) 0) (.int .i64 (.ofNat m.face.fs.length) 0) H3 n3
    delta s_kilnlaw14_LinkTurns_l91
    simp only [go_sem, lss_n, Nat.lt_irrefl, decide_false]
    exact TurnMeths_c h3 hx hy hfx hfy hk
theorem TurnFiles_c {G : Roms} {H : Heap} {n : Nat} {x y : Img} {tx ty : Tab} {v : V} {fls : List Fl} {k : KV}
    (h : Both G H n x y tx ty v fls) (hx : tx.length ≤ 1000) (hy : ty.length ≤ 1000) (hsx : small tx) (hsy : small ty)
    (hfx : ∀ m ∈ fls, ∀ s ∈ m.face.ms, findT tx ⟨s, m.face.nm⟩ = some m.face.nm) (hfy : ∀ m ∈ fls, ∀ s ∈ m.face.ms, findT ty ⟨s, m.face.nm⟩ = some m.face.nm)
    (hsl : ∀ c s, slotT tx c s = slotT ty c s) (hsz : ∀ c, sizeT tx c = sizeT ty c) (hk : ∀ H' n', k (.bool true) H' n') :
    lfp (V × V × V × V × V × Heap × Nat) (s_kilnlaw14_LinkTurns_l29b lfp G (Runs F G) k) (.ptr x.i 0, .ptr y.i 0, v, .int .i64 (.ofNat fls.length) 0, .int .i64 (.ofNat 0) 0, H, n) := by
  have hbig := h.fl.lt
  refine lfp_range (N := fls.length) (J := fun j q => ∃ H' n', q = (.ptr x.i 0, .ptr y.i 0, v, .int .i64 (.ofNat fls.length) 0, .int .i64 (.ofNat j) 0, H', n') ∧ Both G H' n' x y tx ty v fls) ?_ ?_ ⟨H, n, rfl, h⟩
  · rintro I j q hlt ⟨H3, n3, rfl, h3⟩ ih
    show s_kilnlaw14_LinkTurns_l29 lfp G (Runs F G) k I (.ptr x.i 0) (.ptr y.i 0) v (.int .i64 (.ofNat fls.length) 0) (.int .i64 (.ofNat j) 0) H3 n3
    delta s_kilnlaw14_LinkTurns_l29
    obtain ⟨q, vf, vm, v0, v1, v2, v3, v4, vb, mws, ws, bws, hp, hld, hfile⟩ := h3.fl.at hlt
    have hin := List.getElem_mem hlt
    generalize fls[j] = m at hld hfile hin
    simp only [go_sem, Nat.reduceAdd, lss_n, hlt, decide_true, hp, ldn_of hld]
    rw [T.set_set]
    have f4 : Kp H3 n3 (T.set H3 n3 (one [m.face.nm.v, m.face.sup.v, vf, vm, v0, v1, v2, v3, v4, vb])) (n3 + 1) := (Kp.refl _ _).new _ (Nat.le_refl _) (by omega)
    have g4 := T.get_set H3 n3 (one [m.face.nm.v, m.face.sup.v, vf, vm, v0, v1, v2, v3, v4, vb])
    generalize T.set H3 n3 (one [m.face.nm.v, m.face.sup.v, vf, vm, v0, v1, v2, v3, v4, vb]) = H4 at f4 g4
    have hxb := h3.ix.tab.bn
    have hyb := h3.iy.tab.bn
    have h4 : TurnAt G H4 (n3 + 1) n3 x y tx ty v fls m vf vm v0 v1 v2 v3 v4 vb mws := ⟨h3.kp f4, by omega, by omega, by omega, g4, (hfile.ke f4.ke).face.fs, (hfile.ke f4.ke).face.ms⟩
    refine Size_c (s := m.face.nm) h4.both.ix hx hsx fun _ H5 n5 f5 => ?_
    have h5 := h4.kbx f5
    simp only [go_sem, Nat.reduceAdd, ld1_one (off := 0) h5.g (v := m.face.nm.v) rfl, vsame_s]
    refine Size_c (s := m.face.nm) h5.both.iy hy hsy fun _ H6 n6 f6 => ?_
    have h6 := h5.kby f6
    rw [hsz]
    simp only [go_sem, Nat.reduceAdd, neq_self, ld1_one (off := 2) h6.g (v := vf) rfl, h6.fs.len]
    refine TurnFlds_c h6 hx hy hsx hsy (hfx m hin) (hfy m hin) hsl fun H7 n7 h7 => ?_
    delta s_kilnlaw14_LinkTurns_j31
    simp only [go_sem, add_i (show j + 1 < 9223372036854775808 by unfold big at hbig; omega)]
    exact ih _ ⟨_, _, rfl, h7⟩
  · rintro I q ⟨H3, n3, rfl, h3⟩
    show s_kilnlaw14_LinkTurns_l29 lfp G (Runs F G) k I (.ptr x.i 0) (.ptr y.i 0) v (.int .i64 (.ofNat fls.length) 0) (.int .i64 (.ofNat fls.length) 0) H3 n3
    delta s_kilnlaw14_LinkTurns_l29
    simp only [go_sem, lss_n, Nat.lt_irrefl, decide_false]
    exact hk _ _
/- plain: tables that answer alike -/
theorem sizeIn_congr {a b : Tab} (h : TabEq a b) : ∀ cs, sizeIn a cs = sizeIn b cs
  | [] => rfl
  | c :: cs => by unfold sizeIn; rw [h.2, sizeIn_congr h cs]
theorem sizeT_congr {a b : Tab} (h : TabEq a b) (c : St) : sizeT a c = sizeT b c := by unfold sizeT; rw [above_congr h, sizeIn_congr h]
theorem slotT_congr {a b : Tab} (h : TabEq a b) (c s : St) : slotT a c s = slotT b c s := by
  unfold slotT ownerT
  rw [sizeT_congr h, fldT_congr h, h.2]
theorem Fit.small {fls : List Fl} (h : Fit fls) : small (tabOf (facesOf fls)) := fun s c hl => by
  obtain ⟨f, hf, rfl⟩ := List.mem_map.1 (tabOf_mem hl)
  have := fileOk_face (h.ok f hf)
  unfold faceOk at this
  simp only [Bool.and_eq_true] at this
  have := this.2.2.1
  simp at this
  exact this
theorem Fit.short {fls : List Fl} (h : Fit fls) : (tabOf (facesOf fls)).length ≤ 1000 := by
  have := tabFrom_len (facesOf fls) []
  have := h.len
  unfold tabOf
  simp at *
  omega
end Go.RL

/- LinkTurns, walked, whole. -/
namespace Go.RL
open Go.Eng
set_option maxRecDepth 100000
theorem eq_i (x y : Int) : eqV (.one .int) false (.int .i64 x 0) (.int .i64 y 0) = some (.bool (x == y)) := by
  have h := neq_i x y
  show ofB (bbind (some (ieq x y)) fun b => some b) = _
  rw [ieq_eq]
  cases h2 : decide (x = y) with
  | true => have := of_decide_eq_true h2; subst this; simp [bbind, ofB]
  | false =>
    have := of_decide_eq_false h2
    have : (x == y) = false := by simpa using this
    rw [this]; rfl
theorem and_n (t : Int) {m : Nat} (hm : m < 9223372036854775808) : B2.ev .and (.int .i64 t 0) (.int .i64 (.ofNat m) 0) = some (.int .i64 (.ofNat (uand t m)) 0) := by
  show guardO true (forceIV (iand .i64 t (.ofNat m)) fun m => some (.int .i64 m 0)) = _
  rw [iand_spec t hm]; rfl
theorem rem_n (u : Nat) {m : Nat} (hm : 0 < m) : B2.ev .rem (.int .i64 (.ofNat u) 0) (.int .i64 (.ofNat m) 0) = some (.int .i64 (.ofNat (u % m)) 0) := by
  show guardO (band true (band true (bnot (ieq (.ofNat m) 0)))) (mkN .i64 (Int.tmod (.ofNat u) (.ofNat m)) 0) = _
  have : ieq (.ofNat m) 0 = false := by rw [ieq_eq]; simp; omega
  rw [this]
  show forceIV (Int.tmod (.ofNat u) (.ofNat m)) (fun m => some (.int .i64 m 0)) = _
  rw [forceIV_eq]; rfl
theorem s_slcLo {z b o ln c e l : Nat} (h1 : l ≤ ln) (h2 : ln ≤ c) : slcV z (.rsl b o ln c e) E0 (some (.c (.int .i64 (.ofNat l) 0))) none none = some (.rsl b (o + l * z) (ln - l) (c - l) e) := by
  show guardO (band (Nat.ble l ln) (Nat.ble ln c)) (forceN (o + l * z) fun a => forceN (ln - l) fun b' => forceN (c - l) fun c' => some (.rsl b a b' c' e)) = _
  rw [show Nat.ble l ln = true by rw [Nat.ble_eq]; exact h1, show Nat.ble ln c = true by rw [Nat.ble_eq]; exact h2, forceN_eq, forceN_eq, forceN_eq]; rfl
theorem s_slcHi {z b o ln c e l : Nat} (h2 : l ≤ c) : slcV z (.rsl b o ln c e) E0 none (some (.c (.int .i64 (.ofNat l) 0))) none = some (.rsl b (o + 0 * z) (l - 0) (c - 0) e) := by
  show guardO (band (Nat.ble 0 l) (Nat.ble l c)) (forceN (o + 0 * z) fun a => forceN (l - 0) fun b' => forceN (c - 0) fun c' => some (.rsl b a b' c' e)) = _
  rw [show Nat.ble 0 l = true by rw [Nat.ble_eq]; exact Nat.zero_le _, show Nat.ble l c = true by rw [Nat.ble_eq]; exact h2, forceN_eq, forceN_eq, forceN_eq]; rfl
theorem El_drop {G : Roms} {H : Heap} {b o n c z e l c' e' : Nat} {LS : LLV} (h : El G H (.rsl b o n c e) z LS) : El G H (.rsl b (o + l * z) (n - l) c' e') z (LS.drop l) := by
  obtain ⟨h1, h2⟩ := elemsG_get _ _ (show elemsG G b z n o = some LS from h.2)
  rw [show n - l = (LS.drop l).length by simp [h1]]
  refine El_rsl fun i L hi => ?_
  rw [List.getElem?_drop] at hi
  have := h2 _ _ hi
  rwa [Nat.add_mul, ← Nat.add_assoc] at this
theorem El_take {G : Roms} {H : Heap} {b o n c z e l c' e' : Nat} {LS : LLV} (h : El G H (.rsl b o n c e) z LS) (hl : l ≤ n) : El G H (.rsl b (o + 0 * z) (l - 0) c' e') z (LS.take l) := by
  obtain ⟨h1, h2⟩ := elemsG_get _ _ (show elemsG G b z n o = some LS from h.2)
  rw [show l - 0 = (LS.take l).length by simp [h1]; omega]
  refine El_rsl fun i L hi => ?_
  rw [List.getElem?_take] at hi
  split at hi
  · have := h2 _ _ hi
    rwa [Nat.zero_mul, Nat.add_zero]
  · cases hi
theorem s_bsl0 {z : Nat} {Z : LV} {H : Heap} {n : Nat} {P : KV} : onA (aBslice z 0 Z [] E0) H n P = P (.sl n 0 0 0 z) (T.set H n (.arr z 0 .e)) (n + 1) := by
  show onB (band true true) (forceP n fun n => P (.sl n 0 0 0 z) (T.set H n (.arr z 0 .e)) (Nat.succ n)) = _
  rw [forceP_eq]; rfl
/- appending to nothing -/
theorem sl0_app {G : Roms} {H : Heap} {n id z bs : Nat} {w : V} {NS : LLV} {k : KV} (hw : elems w G H z = some NS) (hn : NS ≠ []) (hr : NS.length * bs ≤ 140737488355328)
    (hk : ∀ v' H', Gr G H' n z v' NS → (∀ j, j < n → T.get H' j = T.get H j) → (∀ j, v'.sid = some j → j < n + 1) → k v' H' (n + 1)) : appV z bs (.sl id 0 0 0 z) w G H n k := by
  unfold appV
  rw [hw, s_onO]
  have e0 : appE (.sl id 0 0 0 z) G z bs NS H n k = Bool.rec (motive := fun _ => Prop) (onO (elemsB H id z 0 0) fun OS => appNew z bs OS NS H n k) (onO (T.get H id) fun b => appIn id 0 0 0 z (0 + NS.length) NS H n k b) (Nat.ble (0 + NS.length) 0) := by
    show onB (Nat.beq z z) (forceP (Nat.add 0 (len NS)) fun need => Bool.rec (motive := fun _ => Prop) (onO (elemsB H id z 0 0) fun OS => appNew z bs OS NS H n k) (onO (T.get H id) fun b => appIn id 0 0 0 z need NS H n k b) (Nat.ble need 0)) = _
    rw [beq_self', s_onB, forceP_eq, len_eq]; rfl
  rw [e0]
  have hl : 0 < NS.length := List.length_pos_iff.2 hn
  rw [show Nat.ble (0 + NS.length) 0 = false by rw [Bool.eq_false_iff]; intro hc; rw [Nat.ble_eq] at hc; omega]
  show onO (some []) (fun OS => appNew z bs OS NS H n k)
  rw [s_onO]
  show forceP (Nat.add (len ([] : LLV)) (len NS)) (fun need => onB (roomOk need bs) (forceP n fun n => k (.gsl n 0 need z) (T.set H n (.arr z need (setEs NS (len ([] : LLV)) (setEs [] 0 .e)))) (Nat.succ n)))
  rw [forceP_eq, forceP_eq, len_eq, len_eq, show roomOk (Nat.add ([] : LLV).length NS.length) bs = true from roomOk_of (by show (0 + NS.length) * bs ≤ _; rw [Nat.zero_add]; exact hr), s_onB]
  have e : Nat.add ([] : LLV).length NS.length = NS.length := Nat.zero_add _
  rw [e]
  refine hk _ _ (.gsl (LS := NS) (T.get_set ..) (Nat.le_refl _) (fun i L hi => ?_) (Nat.le_refl _)) (fun j hj => T.get_set_ne _ _ (by omega)) (fun j hj => by cases hj; omega)
  show T.get (setEs NS 0 .e) i = some L
  have hlt := (List.getElem?_eq_some_iff.1 hi).1
  rw [setEs_get, if_pos ⟨Nat.zero_le _, by omega⟩]; exact hi
/- files, turned -/
theorem turn_get {α : Type} {l : List α} {m i : Nat} (hm : m ≤ l.length) {a : α} (h : (l.drop m ++ l.take m)[i]? = some a) : l[(if i < l.length - m then m + i else i - (l.length - m))]? = some a := by
  by_cases hi : i < l.length - m
  · rw [List.getElem?_append_left (by simpa using hi), List.getElem?_drop] at h
    rw [if_pos hi]; exact h
  · rw [List.getElem?_append_right (by simp; omega), List.getElem?_take] at h
    rw [if_neg hi]
    simp only [List.length_drop] at h
    split at h
    · exact h
    · cases h
theorem LinkTurns_c {G : Roms} (hG : GSub G) (hO : OpTab G) {v : V} {fls : List Fl} (hf : ∀ H n, FilesV G H n v fls) (hr : RSl v fls.length) {t : Int} {k : KV} (hk : ∀ H' n', k (.bool true) H' n') :
    Runs F G n_kilnlaw14_LinkTurns [v, .int .i64 t 0] .e 0 k := by
  refine runs_s (s := ar2 (s_kilnlaw14_LinkTurns lfp G)) at_kilnlaw14_LinkTurns (by obtain ⟨h, o⟩ := si_kilnlaw14_LinkTurns lfp_ok G; rw [at_kilnlaw14_LinkTurns] at h; cases h; exact o) ?_
  show s_kilnlaw14_LinkTurns lfp G (Runs F G) v (.int .i64 t 0) .e 0 k
  delta s_kilnlaw14_LinkTurns
  refine head_c fun H0 n0 => ?_
  simp only [go_sem, s_notB, Bool.not_true]
  refine Few14_c (hf H0 n0) fun r H1 n1 _ hfew => ?_
  cases r with
  | false =>
    simp only [s_notB, Bool.not_false]
    rw [s_onV]
    repeat (first | with_reducible refine gs_t ?_ | with_reducible refine gp_t ?_)
    simp only [go_sem]; exact hk _ _
  | true =>
  have hlen := hfew rfl
  simp only [s_notB, Bool.not_true, go_sem, (hf H1 n1).len, eq_i]
  cases h0 : Int.ofNat fls.length == Int.ofNat 0 with
  | true => simp only [go_sem]; exact hk _ _
  | false =>
  have h0 : fls.length ≠ 0 := by intro e; rw [e] at h0; simp at h0
  obtain ⟨b, o, c, rfl, hc, hcm⟩ : ∃ b o c, v = .rsl b o fls.length c 0 ∧ fls.length ≤ c ∧ c ≤ maxLen := by
    rcases hr with ⟨_, h⟩ | h
    · exact absurd h h0
    · exact h
  simp only [go_sem, and_n t (m := 255) (by omega), (hf H1 n1).len, rem_n (uand t 255) (show 0 < fls.length by omega)]
  have hl : uand t 255 % fls.length < fls.length := Nat.mod_lt _ (by omega)
  generalize uand t 255 % fls.length = l at hl
  rw [s_bsl0]
  have f2 : Kp H1 n1 (T.set H1 n1 (.arr 10 0 .e)) (n1 + 1) := (Kp.refl _ _).new _ (Nat.le_refl _) (by omega)
  generalize T.set H1 n1 (.arr 10 0 .e) = H2 at f2
  rw [s_slcLo (by omega) hc, s_onV, s_slcHi (by omega), s_onV]
  obtain ⟨⟨LS, hel, hLS, hfv⟩, -, -⟩ := hf H2 (n1 + 1)
  refine sl0_app (El_drop hel).2 (by intro e; have := congrArg List.length e; simp at this; omega) (by simp; omega) fun v3 H3 hg3 hs3 hlo3 => ?_
  have f3 : Kp H2 (n1 + 1) H3 (n1 + 1 + 1) := ⟨by omega, hs3⟩
  have turn : ∀ v4 H4, Kp H2 (n1 + 1) H4 (n1 + 1) → El G H4 v4 10 (LS.drop l ++ LS.take l) → ∀ n4, Lo v4 n4 → n1 + 1 ≤ n4 → FilesV G H4 n4 v4 (fls.drop l ++ fls.take l) := by
    intro v4 H4 f4 h4 n4 hlo hle
    refine ⟨⟨_, h4, by simp [hLS], fun i L f hi hfi => ?_⟩, hlo, by simp; unfold big; omega⟩
    have h1 := turn_get (by omega) hi
    have h2 := turn_get (by omega) hfi
    rw [hLS] at h1
    have := (hfv _ _ _ h1 h2).ke f4.ke
    exact this.ke ⟨hle, fun _ _ _ _ h => h⟩
  have main : ∀ v4 H4 n4, Kp H2 (n1 + 1) H4 n4 → El G H4 v4 10 (LS.drop l ++ LS.take l) → Lo v4 n4 → (∀ rest : KV, (rest v4 H4 n4 ↔ rest v4 H4 n4)) →
      (Runs F G n_link_Link [.rsl b o fls.length c 0] H4 n4 fun v17 H n => onV (extV v17 0) fun v18 => onV (extV v17 1) fun v19 => Runs F G n_link_Link [v4] H n fun v20 H n => onV (extV v20 0) fun v21 => onV (extV v20 1) fun v22 =>
        onV (eqV (.one .int) false v19 (.int .i64 (.ofNat 0) 0)) fun v23 => onV (eqV (.one .int) false v22 (.int .i64 (.ofNat 0) 0)) fun v24 => onV (eqV (.one .bool) true v23 v24) fun v25 =>
        onTst v25 true (k (.bool false) H n) (onV (eqV (.one .int) true v19 (.int .i64 (.ofNat 0) 0)) fun v26 => onTst v26 true (k (.bool true) H n) (onV (lenV (.rsl b o fls.length c 0)) fun v28 =>
          lfp (V × V × V × V × V × Heap × Nat) (s_kilnlaw14_LinkTurns_l29b lfp G (Runs F G) k) (v18, v21, .rsl b o fls.length c 0, v28, (.int .i64 (.ofNat 0) 0), H, n)))) := by
    intro v4 H4 n4 f4 h4 hlo _
    have hle := f4.le
    have hF4 := turn v4 H4 ⟨Nat.le_refl _, f4.same⟩ h4 n4 hlo hle
    have hperm : fls.Perm (fls.drop l ++ fls.take l) := by
      have : (fls.take l ++ fls.drop l).Perm (fls.drop l ++ fls.take l) := List.perm_append_comm
      rwa [List.take_append_drop] at this
    generalize fls.drop l ++ fls.take l = more at hF4 hperm
    have ne_bb : eqV (.one .bool) true (.bool true) (.bool true) = some (.bool false) := rfl
    have ne_bf : eqV (.one .bool) true (.bool false) (.bool false) = some (.bool false) := rfl
    refine Link_c hG hO (hf H4 n4) (fun hz H5 n5 i5 f5 him5 => ?_) (fun hz H5 n5 f5 => ?_)
    · have fit := linkM_zero.1 hz
      have fit2 := fit.perm hperm
      have hz2 := linkM_zero.2 fit2
      have teq := fit.tab hperm
      simp only [go_sem]
      refine Link_c hG hO (hF4.ke f5.ke) (fun _ H6 n6 i6 f6 him6 => ?_) (fun hz' _ _ _ => absurd hz2 hz')
      obtain ⟨t5, a5, b5, m5, w5, him5, -, -, -, -, -, -⟩ := him5.is
      obtain ⟨t6, a6, b6, m6, w6, him6, -, -, -, -, -, q1, q2, q3, q4, q5⟩ := him6.is
      simp only [go_sem, eq_i, neq_i, (hf H6 n6).len]
      simp only [beq_self_eq_true, ne_bb, Bool.not_true, go_sem]
      have b1 := him5.iN
      have b2 := him5.tab.tn
      have b3 := him5.tab.an
      have b4 := him5.tab.bn
      exact TurnFiles_c (x := ⟨i5, t5, a5, b5, m5, w5⟩) (y := ⟨i6, t6, a6, b6, m6, w6⟩) ⟨him5.kb (f6.kb b4), him6, hf H6 n6, by show i5 ≠ b6; omega, by show t5 ≠ b6; omega, by show a5 ≠ b6; omega, by show b5 ≠ b6; omega, by show i6 ≠ b5; omega, by show t6 ≠ b5; omega, by show a6 ≠ b5; omega⟩
        fit.short fit2.short fit.small fit2.small (fun m hm s hs => fit.find hm hs) (fun m hm s hs => fit2.find (hperm.mem_iff.1 hm) hs) (slotT_congr teq) (sizeT_congr teq) hk
    · have hz2 : linkM more ≠ 0 := fun h => hz (linkM_zero.2 ((linkM_zero.1 h).perm hperm.symm))
      simp only [go_sem]
      refine Link_c hG hO (hF4.ke f5.ke) (fun hz' _ _ _ _ _ => absurd hz' hz2) (fun _ H6 n6 f6 => ?_)
      have e1 : (linkM fls == Int.ofNat 0) = false := by simpa using hz
      have e2 : (linkM more == Int.ofNat 0) = false := by simpa using hz2
      simp only [go_sem, eq_i, neq_i, e1, e2, ne_bf, Bool.not_false]
      exact hk _ _
  have hel3 : elems (.rsl b (o + 0 * 10) (l - 0) (c - 0) 0) G H3 10 = some (LS.take l) := (El_take (hel.same fun id h => by cases h) (by omega)).2
  have el_take : El G H3 (.rsl b (o + 0 * 10) (l - 0) (c - 0) 0) 10 (LS.take l) := ⟨rfl, hel3⟩
  refine hg3.app (by omega) hlo3 hel3 ?_ ?_ ?_
  · simp; omega
  · intro v4 H4 hg4 hs4 hlo4
    refine main v4 H4 _ ⟨by omega, fun id hid => ?_⟩ (hg4.el (by omega)) hlo4 fun _ => Iff.rfl
    exact (hs4 id (by omega) fun h => by have := (hg3.lo h).1; omega).trans (hs3 id hid)
  · intro hnil
    refine main v3 H3 _ f3 ?_ hlo3 fun _ => Iff.rfl
    rw [hnil, List.append_nil]
    exact hg3.el (by omega)
end Go.RL

/- Plain: many files, each below the one ahead of it. -/
namespace Go.RL
open Go.Eng
set_option maxRecDepth 100000
def nmM (j : Nat) : St := (3, 67 + 256 * ((97 + j / 16) + 256 * (97 + j % 16)))
def supM : Nat → St
  | 0 => (0, 0)
  | j + 1 => nmM j
def fileM (j : Nat) : Fl := ⟨⟨nmM j, supM j, [], []⟩, ⟨[], [], [], [], []⟩, []⟩
def flsM (n : Nat) : List Fl := (List.range n).map fileM
theorem nmM_inj {i j : Nat} (hi : i < 256) (hj : j < 256) (h : nmM i = nmM j) : i = j := by
  have := congrArg Prod.snd h
  simp only [nmM] at this
  omega
theorem classS_nmM (j : Nat) : classS (nmM j) = true := by
  unfold classS upper nmM
  have e : (67 + 256 * ((97 + j / 16) + 256 * (97 + j % 16))) % 256 = 67 := by omega
  simp only [e]; rfl
theorem nm1 (j : Nat) : (nmM j).1 = 3 := rfl
theorem fileM_ok (j : Nat) : fileOk (fileM j) = true := by
  unfold fileOk
  have h1 : faceOk (fileM j).face = true := by
    unfold faceOk
    show (classS (nmM j) && _) = true
    rw [classS_nmM]
    cases j with
    | zero => simp [fileM, supM, nm1, fldsOk, methsOk]
    | succ j => simp [fileM, supM, classS_nmM, fldsOk, methsOk, nm1]
  have h2 : poolOk (fileM j).pool = true := by simp [fileM, poolOk, cnts, poolRest]
  rw [h1, h2]
  simp [fileM, bodiesOk]
theorem flsM_len (n : Nat) : (flsM n).length = n := by simp [flsM]
theorem flsM_mem {n : Nat} {f : Fl} (h : f ∈ flsM n) : ∃ j, j < n ∧ f = fileM j := by
  unfold flsM at h
  obtain ⟨j, hj, rfl⟩ := List.mem_map.1 h
  exact ⟨j, by simpa using hj, rfl⟩
theorem flsM_apart {n : Nat} (hn : n ≤ 200) : (namesOf (flsM n)).Nodup := by
  have e : namesOf (flsM n) = (List.range n).map nmM := by simp [flsM, namesOf, fileM]
  rw [e]
  unfold List.Nodup
  rw [List.pairwise_map]
  refine List.Pairwise.imp_of_mem ?_ (List.nodup_range (n := n))
  intro a b ha hb hne he
  have ha : a < n := by simpa using ha
  have hb : b < n := by simpa using hb
  exact hne (nmM_inj (by omega) (by omega) he)
def tbM (n : Nat) : Tab := tabOf (facesOf (flsM n))
theorem lkp_tbM {n j : Nat} (hn : n ≤ 200) (hj : j < n) : lkp (tbM n) (nmM j) = some (fileM j).face := by
  have ha : ((facesOf (flsM n)).map fun c => c.nm).Nodup := by rw [names_faces]; exact flsM_apart hn
  unfold tbM
  rw [lkp_tabOf ha, faceIn_some ha]
  exact ⟨List.mem_map.2 ⟨fileM j, List.mem_map.2 ⟨j, by simpa using hj, rfl⟩, rfl⟩, rfl⟩
theorem tbM_len {n : Nat} (hn : n ≤ 200) : (tbM n).length = n := by
  unfold tbM; rw [len_tabOf (by rw [names_faces]; exact flsM_apart hn)]; simp [flsM]
def downM : Nat → List St
  | 0 => [nmM 0]
  | j + 1 => nmM (j + 1) :: downM j
theorem downM_len : ∀ j, (downM j).length = j + 1
  | 0 => rfl
  | j + 1 => by rw [downM, List.length_cons, downM_len j]
theorem nmM_ne (j : Nat) : decide ((nmM j).1 = 0 ∧ (nmM j).2 = 0) = false := by simp [nmM]
theorem aboveM_tbM {n : Nat} (hn : n ≤ 200) : ∀ (j m : Nat) (out : List St), j + 2 ≤ m → j < n → (∀ x ∈ out, ∃ i, j < i ∧ i < n ∧ x = nmM i) → aboveM m (tbM n) out (nmM j) = (out ++ downM j, true)
  | j, 0, _, h, _, _ => by omega
  | j, m + 1, out, h, hj, hout => by
    unfold aboveM
    rw [nmM_ne, lkp_tbM hn hj]
    have hnot : hasS (nmM j) out = false := by
      cases hh : hasS (nmM j) out with
      | false => rfl
      | true =>
        obtain ⟨i, hi, hin, e⟩ := hout _ (hasS_iff.1 hh)
        have := nmM_inj (i := j) (j := i) (by omega) (by omega) e
        omega
    show (bif hasS (nmM j) out then (out, false) else aboveM m (tbM n) (out ++ [nmM j]) (supM j)) = _
    rw [hnot]
    simp only [cond_false]
    cases j with
    | zero =>
      obtain ⟨m, rfl⟩ : ∃ m', m = m' + 1 := ⟨m - 1, by omega⟩
      rfl
    | succ j =>
      show aboveM m (tbM n) (out ++ [nmM (j + 1)]) (nmM j) = _
      rw [aboveM_tbM hn j m _ (by omega) (by omega)]
      · simp [downM]
      · intro x hx
        rcases List.mem_append.1 hx with hx | hx
        · obtain ⟨i, a, b, c⟩ := hout x hx; exact ⟨i, by omega, b, c⟩
        · simp at hx; exact ⟨j + 1, by omega, hj, hx⟩
theorem above_tbM {n j : Nat} (hn : n ≤ 200) (hj : j < n) : above (tbM n) (nmM j) = (downM j, true) := by
  unfold above
  rw [tbM_len hn, aboveM_tbM hn j (n + 1) [] (by omega) hj (fun x h => by cases h)]
  rfl
theorem linkM_flsM {n : Nat} (hn : n ≤ 200) : linkM (flsM n) = 0 := by
  refine linkM_zero.2 ⟨by rw [flsM_len]; exact hn, fun f hf => ?_, flsM_apart hn, fun f hf => ?_⟩
  · obtain ⟨j, _, rfl⟩ := flsM_mem hf; exact fileM_ok j
  · obtain ⟨j, hj, rfl⟩ := flsM_mem hf
    constructor
    · show checkM (tbM n) (nmM j) = 0
      unfold checkM
      rw [lkp_tbM hn hj, above_tbM hn hj, nmM_ne]
      simp [twice, fileM, twin, fldsC, methsC, fnms, mnms]
    · show poolT (tbM n) (fileM j).pool = true
      simp [poolT, fileM]
theorem linkM_many {n : Nat} (hn : 200 < n) : linkM (flsM n) = 4 := by
  unfold linkM
  rw [flsM_len, decide_eq_true hn]; rfl
end Go.RL

/- LinkMany, walked. -/
namespace Go.RL
open Go.Eng
set_option maxRecDepth 100000
theorem quo16 (u : Nat) (h : u < 256) : B2.ev .quo (.int .i64 (.ofNat u) 0) (.int .i64 (.ofNat 16) 0) = some (.int .i64 (.ofNat (u / 16)) 0) := by
  show guardO true (mkI .i64 (Int.tdiv (.ofNat u) (.ofNat 16)) 0) = _
  show mkI .i64 (Int.tdiv (.ofNat u) (.ofNat 16)) 0 = _
  rw [mkI_zero]
  have e : Int.tdiv (Int.ofNat u) (Int.ofNat 16) = Int.ofNat (u / 16) := rfl
  rw [e, wrap64_id (by show (-9223372036854775808 : Int) ≤ ((u / 16 : Nat) : Int); omega) (by show ((u / 16 : Nat) : Int) < 9223372036854775808; omega)]
theorem to8 : ∀ a, a < 16 → cviV .u8 (.int .i64 (.ofNat a) 0) = some (.int .u8 (.ofNat a) 0) := fun a h =>
  match a, h with
  | 0, _ => rfl | 1, _ => rfl | 2, _ => rfl | 3, _ => rfl | 4, _ => rfl | 5, _ => rfl | 6, _ => rfl | 7, _ => rfl
  | 8, _ => rfl | 9, _ => rfl | 10, _ => rfl | 11, _ => rfl | 12, _ => rfl | 13, _ => rfl | 14, _ => rfl | 15, _ => rfl
  | n + 16, h => absurd h (by omega)
theorem add97 : ∀ a, a < 16 → B2.ev .add (.int .u8 (.ofNat 97) 0) (.int .u8 (.ofNat a) 0) = some (.int .u8 (.ofNat (97 + a)) 0) := fun a h =>
  match a, h with
  | 0, _ => rfl | 1, _ => rfl | 2, _ => rfl | 3, _ => rfl | 4, _ => rfl | 5, _ => rfl | 6, _ => rfl | 7, _ => rfl
  | 8, _ => rfl | 9, _ => rfl | 10, _ => rfl | 11, _ => rfl | 12, _ => rfl | 13, _ => rfl | 14, _ => rfl | 15, _ => rfl
  | n + 16, h => absurd h (by omega)
theorem s_bsl2 {Z a b : V} {H : Heap} {n : Nat} {P : KV} (ha : okC a = true ∧ vcells a = [a]) (hb : okC b = true ∧ vcells b = [b]) :
    onA (aBslice 1 2 [Z] [(0, .c a), (1, .c b)] E0) H n P = P (.sl n 0 2 2 1) (T.set H n (.arr 1 2 (T.set (T.set (repT [Z] 2 .e) 0 [a]) 1 [b]))) (n + 1) := by
  show onB (band (band (okC a) (band (Nat.blt 0 2) (Nat.beq (len (vcells a)) 1))) (band (band (okC b) (band (Nat.blt 1 2) (Nat.beq (len (vcells b)) 1))) true))
    (forceP n fun n => P (.sl n 0 2 2 1) (T.set H n (.arr 1 2 (T.set (T.set (repT [Z] 2 .e) 0 (vcells a)) 1 (vcells b)))) (Nat.succ n)) = _
  rw [ha.1, ha.2, hb.1, hb.2, forceP_eq]
  rfl
theorem byteOf_n {x : Nat} (h : x < 256) : Go.Eng.byteOf (.int .u8 (.ofNat x) 0) = some x := by
  show Bool.rec (motive := fun _ => Option Nat) none (some x) (band true (band (Nat.blt x 256) true)) = _
  rw [show Nat.blt x 256 = true by rw [Nat.blt_eq]; exact h]; rfl
theorem str2 {G : Roms} {H : Heap} {n x y : Nat} {Z : V} (hx : x < 256) (hy : y < 256) (h : T.get H n = some (.arr 1 2 (T.set (T.set (repT [Z] 2 .e) 0 [.int .u8 (.ofNat x) 0]) 1 [.int .u8 (.ofNat y) 0]))) :
    cvSV (.sl n 0 2 2 1) G H = some (.str 2 (x + 256 * y)) := by
  have hl : ∀ i v, i < 2 → T.get (T.set (T.set (repT [Z] 2 .e) 0 [V.int .u8 (.ofNat x) 0]) 1 [V.int .u8 (.ofNat y) 0]) i = some [v] → ldH H n (i * 1) 1 = some [v] := by
    intro i v hi hv
    unfold ldH; rw [h]
    exact ldB_at (by omega) hi hv rfl
  have he : elems (.sl n 0 2 2 1) G H 1 = some [[V.int .u8 (.ofNat x) 0], [.int .u8 (.ofNat y) 0]] := by
    show gbind (ldH H n (0 * 1) 1) (fun L => gbind (gbind (ldH H n (1 * 1) 1) fun L => gbind (some []) fun LS => some (L :: LS)) fun LS => some (L :: LS)) = _
    rw [hl 0 _ (by omega) rfl, hl 1 _ (by omega) rfl]; rfl
  show gbind (elems (.sl n 0 2 2 1) G H 1) (fun l => gbind (packB l) fun c => f3 (len l) c 0 fun n c _ => .str n c) = _
  rw [he, s_gbind]
  have hp : packB [[V.int .u8 (.ofNat x) 0], [.int .u8 (.ofNat y) 0]] = some (x + 256 * (y + 256 * 0)) := by
    show gbind (Go.Eng.byteOf (.int .u8 (.ofNat x) 0)) (fun m => gbind (gbind (Go.Eng.byteOf (.int .u8 (.ofNat y) 0)) fun m => gbind (some 0) fun c => some (m + 256 * c)) fun c => some (m + 256 * c)) = _
    rw [byteOf_n hx, byteOf_n hy]; rfl
  rw [hp, s_gbind]
  show forceN 2 (fun a => forceN (x + 256 * (y + 256 * 0)) fun b => forceN 0 fun _ => some (.str a b)) = _
  rw [forceN_eq, forceN_eq, forceN_eq]
  rfl
theorem cat1 (c : Nat) : B2.ev .add (.str 1 67) (.str 2 c) = some (.str 3 (67 + 256 * c)) := by
  show guardO true (forceN 3 fun n => forceN (67 + 256 ^ 1 * c) fun e => some (.str n e)) = _
  rw [forceN_eq, forceN_eq]; rfl
def fileM.cells (j : Nat) : LV := [(nmM j).v, (supM j).v, .nils, .nils, .nils, .nils, .nils, .nils, .nils, .nils]
theorem fileM_v {G : Roms} {H : Heap} {n j : Nat} : FileV G H n (.agg (fileM.cells j)) (fileM j) := by
  refine ⟨_, .nils, .nils, .nils, .nils, .nils, .nils, .nils, .nils, [], [], [], ⟨rfl, ⟨rfl, ⟨El_nil, Lo_nil, (by show 0 < big; decide), (fun _ h => by cases h)⟩, ⟨El_nil, Lo_nil, (by show 0 < big; decide), rfl, (fun i m w h => by simp [fileM] at h), (fun _ h => by cases h)⟩, ?_, ?_⟩,
    ⟨El_nil, Lo_nil, (by show 0 < big; decide), El_nil, Lo_nil, (by show 0 < big; decide), (fun _ h => by cases h), ⟨El_nil, Lo_nil, (by show 0 < big; decide), (fun _ h => by cases h)⟩, El_nil, Lo_nil, (by show 0 < big; decide), (fun _ h => by cases h),
      El_nil, Lo_nil, (by show 0 < big; decide), rfl, (fun i m w h => by simp [fileM] at h), (fun _ h => by cases h)⟩,
    ⟨El_nil, Lo_nil, (by show 0 < big; decide), rfl, (fun i m w h => by simp [fileM] at h)⟩⟩, rfl⟩
  · intro h; simp [fileM, nmM] at h
  · cases j with
    | zero => intro _; rfl
    | succ j => intro h; simp [fileM, supM, nmM] at h
abbrev cellsM (n : Nat) : LLV := (List.range n).map fileM.cells
theorem cellsM_succ (n : Nat) : cellsM (n + 1) = cellsM n ++ [fileM.cells n] := by simp [cellsM, List.range_succ]
/- the names of an image -/
theorem Names_c {G : Roms} {H : Heap} {n i t a b fm : Nat} {vn : V} {fs : Tab} {ss : List St} (h : ImgAt G H n i t a b fm vn fs) (hn : El G H vn 1 (strs ss)) (hs : ss.length ≤ 1000) {k : KV}
    (hk : ∀ v H' n', Kp H n H' n' → El G H' v 1 (strs ss) → Lo v n' → k v H' n') : Runs F G n_link_Image_Names [.ptr i 0] H n k := by
  refine runs_s (s := ar1 (s_link_Image_Names lfp G)) at_link_Image_Names (by obtain ⟨h, o⟩ := si_link_Image_Names lfp_ok G; rw [at_link_Image_Names] at h; cases h; exact o) ?_
  show s_link_Image_Names lfp G (Runs F G) (.ptr i 0) H n k
  delta s_link_Image_Names
  simp only [eq_pn, go_sem, Nat.reduceAdd, ld1_one (off := 2) h.at' (v := vn) rfl]
  refine (Gr.nil (G := G) (H := H) (m := n) (z := 1)).app (Nat.le_refl _) (fun id h => by cases h) hn.2 (by rw [strs_len]; simp; omega) ?_ ?_
  · intro v' H' hg hsame hlo
    exact hk _ _ _ ⟨by omega, fun id hid => hsame id hid (fun h => by cases h)⟩ (hg.el (by omega)) hlo
  · intro e
    have : ss = [] := by simpa [strs] using e
    subst this
    exact hk _ _ _ (Kp.refl _ _) ⟨rfl, rfl⟩ Lo_nil
theorem LinkMany_c {G : Roms} (hG : GSub G) (hO : OpTab G) {t : Int} {k : KV} (hk : ∀ H' n', k (.bool true) H' n') : Runs F G n_kilnlaw14_LinkMany [.int .i64 t 0] .e 0 k := by
  refine runs_s (s := ar1 (s_kilnlaw14_LinkMany lfp G)) at_kilnlaw14_LinkMany (by obtain ⟨h, o⟩ := si_kilnlaw14_LinkMany lfp_ok G; rw [at_kilnlaw14_LinkMany] at h; cases h; exact o) ?_
  show s_kilnlaw14_LinkMany lfp G (Runs F G) (.int .i64 t 0) .e 0 k
  delta s_kilnlaw14_LinkMany
  refine head_c fun H0 n0 => ?_
  simp only [go_sem, s_notB, Bool.not_true, and_n t (m := 255) (by omega)]
  have hu : uand t 255 < 256 := by
    have h := (uand_spec t (m := 255) (by omega)).2
    omega
  generalize uand t 255 = N at hu
  rw [s_bsl0]
  refine lfp_range (N := N) (J := fun j q => ∃ a3 H' n', q = (.int .i64 (.ofNat N) 0, a3, .int .i64 (.ofNat j) 0, H', n') ∧ ((j = 0 ∧ a3 = .sl n0 0 0 0 10 ∧ n0 < n') ∨ (0 < j ∧ n0 ≤ n' ∧ Own G H' n0 n' 10 a3 (cellsM j)))) ?_ ?_ ⟨_, _, _, rfl, .inl ⟨rfl, rfl, Nat.lt_succ_self _⟩⟩
  · rintro I j q hlt ⟨a3, H1, n1, rfl, ha⟩ ih
    show s_kilnlaw14_LinkMany_l38 lfp G (Runs F G) k I (.int .i64 (.ofNat N) 0) a3 (.int .i64 (.ofNat j) 0) H1 n1
    delta s_kilnlaw14_LinkMany_l38
    have hq : j / 16 < 16 := by omega
    have hm : j % 16 < 16 := by omega
    simp only [go_sem, lss_n, hlt, decide_true, quo16 j (by omega), rem_n j (m := 16) (by omega), to8 _ hq, to8 _ hm, add97 _ hq, add97 _ hm]
    rw [s_bsl2 ⟨rfl, rfl⟩ ⟨rfl, rfl⟩, str2 (by omega) (by omega) (T.get_set ..), s_onV, cat1, s_onV]
    have f2 : Kp H1 n1 (T.set H1 n1 (.arr 1 2 (T.set (T.set (repT [V.int .u8 (.ofNat 0) 0] 2 .e) 0 [.int .u8 (.ofNat (97 + j / 16)) 0]) 1 [.int .u8 (.ofNat (97 + j % 16)) 0]))) (n1 + 1) := (Kp.refl _ _).new _ (Nat.le_refl _) (by omega)
    generalize T.set H1 n1 (.arr 1 2 (T.set (T.set (repT [V.int .u8 (.ofNat 0) 0] 2 .e) 0 [.int .u8 (.ofNat (97 + j / 16)) 0]) 1 [.int .u8 (.ofNat (97 + j % 16)) 0])) = H2 at f2
    rw [show V.str 3 (67 + 256 * (97 + j / 16 + 256 * (97 + j % 16))) = (nmM j).v from rfl]
    rw [show buildV [.str 0 0, .str 0 0, .nils, .nils] [(0, 1, .c (nmM j).v)] = some (.agg [(nmM j).v, .str 0 0, .nils, .nils]) from rfl, s_onV]
    rw [show buildV zeroF [(0, 4, .c (.agg [(nmM j).v, .str 0 0, .nils, .nils]))] = some (.agg [(nmM j).v, .str 0 0, .nils, .nils, .nils, .nils, .nils, .nils, .nils, .nils]) from rfl, s_onV]
    simp only [go_sem, gtr_n]
    rw [T.set_set]
    have f3 : Kp H2 (n1 + 1) (T.set H2 (n1 + 1) (one [(nmM j).v, .str 0 0, .nils, .nils, .nils, .nils, .nils, .nils, .nils, .nils])) (n1 + 1 + 1) := (Kp.refl _ _).new _ (Nat.le_refl _) (by omega)
    have g3 := T.get_set H2 (n1 + 1) (one [(nmM j).v, .str 0 0, .nils, .nils, .nils, .nils, .nils, .nils, .nils, .nils])
    generalize T.set H2 (n1 + 1) (one [(nmM j).v, .str 0 0, .nils, .nils, .nils, .nils, .nils, .nils, .nils, .nils]) = H3 at f3 g3
    have f13 := f2.trans f3
    have fin : ∀ H4, Kp H1 n1 H4 (n1 + 1 + 1) → T.get H4 (n1 + 1) = some (one (fileM.cells j)) → s_kilnlaw14_LinkMany_j53 lfp G (Runs F G) k I (.int .i64 (.ofNat N) 0) a3 (.int .i64 (.ofNat j) 0) (.ptr (n1 + 1) 0) H4 (n1 + 1 + 1) := by
      intro H4 f4 g4
      delta s_kilnlaw14_LinkMany_j53
      rw [ldn_all (m := 10) g4 (by omega) rfl, s_onV, s_bsl1 (z := 10) (L := fileM.cells j) rfl]
      have hcap := T.get_set H4 (n1 + 1 + 1) (.arr 10 1 (T.set (T.set .e 0 zeroF) 0 (fileM.cells j)))
      have f5 : Kp H4 (n1 + 1 + 1) (T.set H4 (n1 + 1 + 1) (.arr 10 1 (T.set (T.set .e 0 zeroF) 0 (fileM.cells j)))) (n1 + 1 + 1 + 1) := (Kp.refl _ _).new _ (Nat.le_refl _) (by omega)
      generalize T.set H4 (n1 + 1 + 1) (.arr 10 1 (T.set (T.set .e 0 zeroF) 0 (fileM.cells j))) = H5 at f5 hcap
      have el := (El_bsl1 (G := G) (z := 10) (by omega) rfl hcap).2
      rcases ha with ⟨rfl, rfl, hn⟩ | ⟨hj, hn, ho⟩
      · refine sl0_app el (by simp) (by simp) fun v' H6 hg6 hs6 hlo6 => ?_
        simp only [go_sem, add_i (show (0 : Nat) + 1 < 9223372036854775808 by omega)]
        refine ih _ ⟨_, _, _, rfl, .inr ⟨Nat.one_pos, by omega, ⟨?_, hlo6⟩⟩⟩
        exact (Own.sub (m' := n0) ⟨hg6, hlo6⟩ (by omega)).gr
      · have ho5 := ho.kp (f4.trans f5)
        refine ho5.gr.app (by omega) ho5.lo el ?_ ?_ ?_
        · simp [cellsM]; omega
        · intro v' H6 hg6 hs6 hlo6
          simp only [go_sem, add_i (show j + 1 < 9223372036854775808 by omega)]
          refine ih _ ⟨_, _, _, rfl, .inr ⟨by omega, by omega, ⟨?_, hlo6⟩⟩⟩
          rw [cellsM_succ]; exact hg6
        · intro h; cases h
    rcases Nat.eq_zero_or_pos j with h0 | h0
    · subst h0
      rw [show decide ((0 : Nat) < 0) = false from rfl]
      simp only [go_sem]
      exact fin _ f13 g3
    · have ho : Own G H1 n0 n1 10 a3 (cellsM j) := by
        rcases ha with ⟨rfl, _⟩ | ⟨_, _, h⟩
        · omega
        · exact h
      obtain ⟨m, rfl⟩ : ∃ m, j = m + 1 := ⟨j - 1, by omega⟩
      have hget : (cellsM (m + 1))[m]? = some (fileM.cells m) := by simp [cellsM]
      obtain ⟨p, hp, hld⟩ := ((ho.kp f13).el (by omega)).at hget
      obtain ⟨p', hp', hld'⟩ := ldP_sub1 hG (o := 0) (x := (nmM m).v) hld rfl rfl
      obtain ⟨p'', hp'', hld''⟩ : ∃ p'', paddV 0 p' = some p'' ∧ ld1V p'' G H3 = some (nmM m).v := by
        obtain ⟨q', h1, h2⟩ := ldP_sub hG (o := 0) (m := 1) hld rfl (by omega) (by omega)
        rw [hp'] at h1
        cases h1
        obtain ⟨q'', h3, h4⟩ := ldP_sub1 hG (o := 0) (x := (nmM m).v) h2 rfl rfl
        exact ⟨q'', h3, h4⟩
      rw [show decide ((0 : Nat) < m + 1) = true from decide_eq_true (by omega)]
      simp only [go_sem, sub1_n (show m + 1 < 9223372036854775808 by omega), hp, hp', hp'', hld'', Nat.reduceAdd]
      rw [stV_one (m := 1) (off := 0 + 0 + 1) g3 rfl rfl (by omega) (by show 0 + 0 + 1 + 1 ≤ 10; omega)]
      refine fin _ (f13.set _ (by omega)) ?_
      rw [T.get_set]; rfl
  · rintro I q ⟨a3, H1, n1, rfl, ha⟩
    show s_kilnlaw14_LinkMany_l38 lfp G (Runs F G) k I (.int .i64 (.ofNat N) 0) a3 (.int .i64 (.ofNat N) 0) H1 n1
    delta s_kilnlaw14_LinkMany_l38
    simp only [go_sem, lss_n, Nat.lt_irrefl, decide_false]
    delta s_kilnlaw14_LinkMany_j5
    have hel : El G H1 a3 10 (cellsM N) := by
      rcases ha with ⟨rfl, rfl, _⟩ | ⟨_, _, h⟩
      · exact ⟨rfl, rfl⟩
      · exact h.el (by omega)
    have hlo : Lo a3 n1 := by
      rcases ha with ⟨rfl, rfl, h⟩ | ⟨_, _, h⟩
      · intro id hid; cases hid; exact h
      · exact h.lo
    have hF : FilesV G H1 n1 a3 (flsM N) := by
      refine ⟨⟨cellsM N, hel, by simp [flsM], fun i L f hi hf => ?_⟩, hlo, by rw [flsM_len]; unfold big; omega⟩
      unfold flsM at hf
      rw [List.getElem?_map] at hi hf
      cases hr : (List.range N)[i]? with
      | none => rw [hr] at hi; cases hi
      | some j => rw [hr] at hi hf; cases hi; cases hf; exact fileM_v
    rcases Nat.lt_or_ge 200 N with hN | hN
    · refine Link_c hG hO hF (fun h => absurd h (by rw [linkM_many hN]; decide)) fun _ H2 n2 f2 => ?_
      rw [linkM_many hN]
      simp only [go_sem, gtr_n, decide_eq_true hN, eq_i]
      rw [show ((4 : Int) == Int.ofNat 4) = true from rfl]
      simp only [go_sem]
      rw [show eqV (.one .ptr) false .nilp .nilp = some (.bool true) from rfl]
      simp only [go_sem]
      exact hk _ _
    · refine Link_c hG hO hF (fun _ H2 n2 i f2 him => ?_) (fun h => absurd (linkM_flsM hN) h)
      obtain ⟨t2, a2, b2, m2, w2, him, -, -, -, hnm, hnlo, -⟩ := him.is
      simp only [go_sem, gtr_n, decide_eq_false (Nat.not_lt.2 hN), neq_i]
      rw [show (!(Int.ofNat 0 == Int.ofNat 0)) = false from rfl]
      simp only [go_sem]
      refine Names_c him hnm (by simp [flsM]; omega) fun v3 H3 n3 f3 hv3 _ => ?_
      have e1 : lenV v3 = some (.int .i64 (.ofNat N) 0) := by rw [hv3.len, strs_len]; simp [flsM]
      simp only [go_sem, e1, neq_self, gtr_n]
      have him3 := him.kb (f3.kb him.tab.bn)
      rcases Nat.eq_zero_or_pos N with h0 | h0
      · subst h0
        rw [show decide ((0 : Nat) < 0) = false from rfl]
        simp only [go_sem]; exact hk _ _
      · obtain ⟨m, rfl⟩ : ∃ m, N = m + 1 := ⟨N - 1, by omega⟩
        have hget : (cellsM (m + 1))[m]? = some (fileM.cells m) := by simp [cellsM]
        obtain ⟨p, hp, hld⟩ := ((hel.kp hlo (f2.trans f3))).at hget
        obtain ⟨p', hp', hld'⟩ := ldP_sub hG (o := 0) (m := 1) hld rfl (by omega) (by omega)
        obtain ⟨p'', hp'', hld''⟩ := ldP_sub1 hG (o := 0) (x := (nmM m).v) hld' rfl rfl
        rw [show decide ((0 : Nat) < m + 1) = true from decide_eq_true (by omega)]
        simp only [go_sem, sub1_n (show m + 1 < 9223372036854775808 by omega), hp, hp', hp'', hld'', Nat.reduceAdd, ld1_one (off := 0) him3.at' (v := .ptr t2 0) rfl]
        refine Above_c (s := nmM m) him3.tab ?_ fun H4 n4 v4 f4 ho4 _ => ?_
        · show (tbM (m + 1)).length ≤ 1000
          rw [tbM_len hN]; omega
        · have e2 : above (tabOf (facesOf (flsM (m + 1)))) (nmM m) = (downM m, true) := above_tbM hN (by omega)
          rw [e2] at ho4 ⊢
          simp only [go_sem, (ho4.el (by omega)).len, strs_len, downM_len, eq_i, beq_self_eq_true]
          exact hk _ _
end Go.RL

