/- Part of a proof: texts LRE LRF LRG LRH LRI LRV LRO LRP LRQ LRR LRS LRT LPA LPC LRU of the engine and what is proved with it; nothing is assumed. -/
import Derived.Test.YtibbhhkcjjeclaaDoorConB
import Derived.Test.YtibbhhkcjjeclaaDoorWalk
set_option linter.unusedVariables false
set_option linter.unusedSimpArgs false
/- Contracts, twenty-ninth part: images: how many fields an object has, and where they are. -/
namespace Go.RL
open Go.Eng
set_option maxRecDepth 100000
theorem add_n {a b : Nat} (h : a + b < 9223372036854775808) : B2.ev .add (.int .i64 (.ofNat a) 0) (.int .i64 (.ofNat b) 0) = some (.int .i64 (.ofNat (a + b)) 0) := by
  show some (V.int .i64 (wrapI .i64 (iadd (.ofNat a) (.ofNat b))) 0) = _
  rw [wrapI_eq, iadd_eq, wrap64_id (by simp; omega) (by simp; omega)]; rfl
def sizeIn (fs : Tab) : List St → Nat
  | [] => 0
  | c :: cs => ((lkp fs c).getD faceZ).fs.length + sizeIn fs cs
def sizeT (fs : Tab) (s : St) : Nat := sizeIn fs (above fs s).1
def small (fs : Tab) : Prop := ∀ s c, lkp fs s = some c → c.fs.length ≤ 200
theorem small_get {fs : Tab} (h : small fs) (s : St) : ((lkp fs s).getD faceZ).fs.length ≤ 200 := by
  cases hl : lkp fs s with
  | none => exact Nat.zero_le _
  | some c => exact h s c hl
theorem sizeIn_le {fs : Tab} (h : small fs) : ∀ cs, sizeIn fs cs ≤ 200 * cs.length
  | [] => Nat.zero_le _
  | c :: cs => by have := small_get h c; have := sizeIn_le h cs; unfold sizeIn; rw [List.length_cons]; omega
theorem Size_c {G : Roms} {H : Heap} {n i t a b fm : Nat} {vn : V} {fs : Tab} (h : ImgAt G H n i t a b fm vn fs) (hfs : fs.length ≤ 1000) (hsm : small fs) {s : St} {k : KV}
    (hk : sizeT fs s ≤ 1000000 → ∀ H' n', Kb b H n H' n' → k (.int .i64 (.ofNat (sizeT fs s)) 0) H' n') : Runs F G n_link_Image_Size [.ptr i 0, s.v] H n k := by
  refine runs_s (s := ar2 (s_link_Image_Size lfp G)) at_link_Image_Size (by obtain ⟨h, o⟩ := si_link_Image_Size lfp_ok G; rw [at_link_Image_Size] at h; cases h; exact o) ?_
  show s_link_Image_Size lfp G (Runs F G) (.ptr i 0) s.v H n k
  delta s_link_Image_Size
  have hbn := h.tab.bn
  unfold sizeT at hk
  simp only [go_sem, Nat.reduceAdd, ld1_one (off := 0) h.at' (v := .ptr t 0) rfl]
  refine Above_c (s := s) h.tab hfs fun H2 n2 x f2 ho hlen => ?_
  generalize (above fs s).1 = cs at ho hk hlen
  simp only [go_sem, (ho.el (by omega)).len, strs_len]
  have hall := sizeIn_le hsm cs
  refine lfp_range (N := cs.length) (J := fun j q => ∃ H' n' acc, q = (.ptr i 0, .int .i64 (.ofNat acc) 0, x, .int .i64 (.ofNat cs.length) 0, .int .i64 (.ofNat j) 0, H', n') ∧ Kb b H n H' n' ∧ Own G H' n n' 1 x (strs cs) ∧ acc + sizeIn fs (cs.drop j) = sizeIn fs cs) ?_ ?_
    ⟨H2, n2, 0, rfl, f2, ho, by simp⟩
  · rintro I j q hlt ⟨H3, n3, acc, rfl, f3, ho, hacc⟩ ih
    show s_link_Image_Size_l9 lfp G (Runs F G) k I (.ptr i 0) (.int .i64 (.ofNat acc) 0) x (.int .i64 (.ofNat cs.length) 0) (.int .i64 (.ofNat j) 0) H3 n3
    delta s_link_Image_Size_l9
    have h3 := h.kb f3
    obtain ⟨q, hp, hld⟩ := (ho.el (by omega)).at (strs_at hlt)
    rw [List.drop_eq_getElem_cons hlt, show sizeIn fs (cs[j] :: cs.drop (j + 1)) = ((lkp fs cs[j]).getD faceZ).fs.length + sizeIn fs (cs.drop (j + 1)) from rfl] at hacc
    generalize cs[j] = m at hld hacc
    simp only [go_sem, lss_n, hlt, decide_true, hp, ld1_of hld, Nat.reduceAdd, ld1_one (off := 0) h3.at' (v := .ptr t 0) rfl]
    have hn3 := f3.le
    refine Face_c (s := m) (n0 := n) (h.tab.kb (f3.low (Nat.le_refl _))) (by omega) fun H4 n4 y f4 hy => ?_
    obtain ⟨vf, vm, ws, hy, rfl⟩ := hy
    have f5 := f3.trans f4
    have h5n := f4.le
    simp only [go_sem, Nat.reduceAdd]
    rw [T.set_set]
    have f6 : Kp H4 n4 (T.set H4 n4 (one [((lkp fs m).getD faceZ).nm.v, ((lkp fs m).getD faceZ).sup.v, vf, vm])) (n4 + 1) := (Kp.refl _ _).new _ (Nat.le_refl _) (by omega)
    have g6 := T.get_set H4 n4 (one [((lkp fs m).getD faceZ).nm.v, ((lkp fs m).getD faceZ).sup.v, vf, vm])
    generalize T.set H4 n4 (one [((lkp fs m).getD faceZ).nm.v, ((lkp fs m).getD faceZ).sup.v, vf, vm]) = H6 at f6 g6
    have f6' := f6.kb (b := b) (by omega)
    have hs := small_get hsm m
    simp only [go_sem, Nat.reduceAdd, ld1_one (off := 2) g6 (v := vf) rfl, hy.fs.len, add_n (show acc + ((lkp fs m).getD faceZ).fs.length < 9223372036854775808 by omega), add_i (show j + 1 < 9223372036854775808 by omega)]
    exact ih _ ⟨_, _, _, rfl, f5.trans f6', (ho.kb f4 hbn).kp f6, by omega⟩
  · rintro I q ⟨H3, n3, acc, rfl, f3, ho, hacc⟩
    show s_link_Image_Size_l9 lfp G (Runs F G) k I (.ptr i 0) (.int .i64 (.ofNat acc) 0) x (.int .i64 (.ofNat cs.length) 0) (.int .i64 (.ofNat cs.length) 0) H3 n3
    delta s_link_Image_Size_l9
    rw [List.drop_eq_nil_of_le (Nat.le_refl _)] at hacc
    have hacc : acc = sizeIn fs cs := hacc
    subst hacc
    simp only [go_sem, lss_n, Nat.lt_irrefl, decide_false]
    delta s_link_Image_Size_j7
    exact hk (by omega) _ _ f3
def slotIn (s : St) (m : Nat) : List Fld → Nat → Int
  | [], _ => .negSucc 0
  | f :: fs, j => bif decide (f.nm.1 = s.1 ∧ f.nm.2 = s.2) then .ofNat (m + j) else slotIn s m fs (j + 1)
def ownerT (fs : Tab) (c s : St) : Fc := (lkp fs ((fldT fs c s).getD ((0, 0), tyZ)).1).getD faceZ
def slotT (fs : Tab) (c s : St) : Int := slotIn s (sizeT fs (ownerT fs c s).sup) (ownerT fs c s).fs 0
theorem Slot_c {G : Roms} {H : Heap} {n i t a b fm : Nat} {vn : V} {fs : Tab} (h : ImgAt G H n i t a b fm vn fs) (hfs : fs.length ≤ 1000) (hsm : small fs) {c s : St} {k : KV}
    (hk : ∀ H' n', Kb b H n H' n' → k (.int .i64 (slotT fs c s) 0) H' n') : Runs F G n_link_Image_Slot [.ptr i 0, c.v, s.v] H n k := by
  refine runs_s (s := ar3 (s_link_Image_Slot lfp G)) at_link_Image_Slot (by obtain ⟨h, o⟩ := si_link_Image_Slot lfp_ok G; rw [at_link_Image_Slot] at h; cases h; exact o) ?_
  show s_link_Image_Slot lfp G (Runs F G) (.ptr i 0) c.v s.v H n k
  delta s_link_Image_Slot
  have hbn := h.tab.bn
  unfold slotT ownerT at hk
  simp only [go_sem, Nat.reduceAdd, ld1_one (off := 0) h.at' (v := .ptr t 0) rfl]
  refine Field_c (c := c) (s := s) h.tab hfs fun H1 n1 f1 => ?_
  generalize (fldT fs c s).getD ((0, 0), tyZ) = o at hk ⊢
  have h1n := f1.le
  unfold Ty.v Ty.cells
  simp only [go_sem, Nat.reduceAdd]
  rw [T.set_set]
  have f2 : Kp H1 n1 (T.set H1 n1 (one [o.2.nm.v, .bool o.2.arr])) (n1 + 1) := (Kp.refl _ _).new _ (Nat.le_refl _) (by omega)
  generalize T.set H1 n1 (one [o.2.nm.v, .bool o.2.arr]) = H2 at f2
  have fb2 := f1.trans (f2.kb (b := b) (by omega))
  have h2 := h.kb fb2
  simp only [go_sem, Nat.reduceAdd, ld1_one (off := 0) h2.at' (v := .ptr t 0) rfl]
  refine Face_c (s := o.1) h2.tab (Nat.le_refl _) fun H3 n3 y f3 hy => ?_
  obtain ⟨vf, vm, ws, hy, rfl⟩ := hy
  have hsm' := small_get hsm o.1
  generalize (lkp fs o.1).getD faceZ = fc at hk hy hsm' ⊢
  have h3n := f3.le
  simp only [go_sem, Nat.reduceAdd]
  rw [T.set_set]
  have f4 : Kp H3 n3 (T.set H3 n3 (one [fc.nm.v, fc.sup.v, vf, vm])) (n3 + 1) := (Kp.refl _ _).new _ (Nat.le_refl _) (by omega)
  have g4 := T.get_set H3 n3 (one [fc.nm.v, fc.sup.v, vf, vm])
  generalize T.set H3 n3 (one [fc.nm.v, fc.sup.v, vf, vm]) = H4 at f4 g4
  have fb4 := fb2.trans (f3.trans (f4.kb (b := b) (by omega)))
  refine Size_c (s := fc.sup) (h.kb fb4) hfs hsm fun hsz H5 n5 f5 => ?_
  have h5n := f5.le
  generalize sizeT fs fc.sup = sz at hk hsz ⊢
  have g5 := f5.get g4 (by omega) (by omega)
  have fb5 := fb4.trans f5
  have hfl : FldsAt G H5 n5 vf fc.fs := by
    have := hy.fs.ke ((((f4.kb (b := b) (by omega)).trans f5).low h3n).ke (f3.seen h2.tab.seen))
    exact ⟨this.el, this.lo.mono (by omega), this.lt, this.ok⟩
  simp only [go_sem, Nat.reduceAdd, ld1_one (off := 2) g5 (v := vf) rfl, hfl.len]
  have hbig := hfl.lt
  refine lfp_range (N := fc.fs.length) (J := fun j q => ∃ H' n', q = (s.v, .int .i64 (.ofNat sz) 0, vf, .int .i64 (.ofNat fc.fs.length) 0, .int .i64 (.ofNat j) 0, H', n') ∧ Kp H5 n5 H' n' ∧
    (∀ H' n', Kb b H n H' n' → k (.int .i64 (slotIn s sz (fc.fs.drop j) j) 0) H' n')) ?_ ?_ ⟨H5, n5, rfl, Kp.refl _ _, hk⟩
  · rintro I j q hlt ⟨H6, n6, rfl, f6, hk⟩ ih
    show s_link_Image_Slot_l25 lfp G (Runs F G) k I s.v (.int .i64 (.ofNat sz) 0) vf (.int .i64 (.ofNat fc.fs.length) 0) (.int .i64 (.ofNat j) 0) H6 n6
    delta s_link_Image_Slot_l25
    obtain ⟨q, hp, hld⟩ := (hfl.kp f6).at hlt
    rw [List.drop_eq_getElem_cons hlt] at hk
    unfold slotIn at hk
    generalize fc.fs[j] = m at hld hk
    unfold Fld.cells at hld
    have h6n := f6.le
    simp only [go_sem, lss_n, hlt, decide_true, hp, ldn_of hld, Nat.reduceAdd, show eqV (.one .str) false m.nm.v s.v = _ from eq_s ..]
    rw [T.set_set]
    have f7 := f6.new (m := n6 + 1) (id := n6) (one [m.nm.v, m.ty.nm.v, .bool m.ty.arr]) f6.le (by omega)
    cases h1 : decide (m.nm.1 = s.1 ∧ m.nm.2 = s.2) with
    | true =>
      simp only [h1, cond_true] at hk
      simp only [go_sem, add_n (show sz + j < 9223372036854775808 by omega)]
      exact hk _ _ (fb5.trans (f7.kb (by omega)))
    | false =>
      simp only [h1, cond_false] at hk
      simp only [go_sem, add_i (show j + 1 < 9223372036854775808 by unfold big at hbig; omega)]
      exact ih _ ⟨_, _, rfl, f7, hk⟩
  · rintro I q ⟨H6, n6, rfl, f6, hk⟩
    show s_link_Image_Slot_l25 lfp G (Runs F G) k I s.v (.int .i64 (.ofNat sz) 0) vf (.int .i64 (.ofNat fc.fs.length) 0) (.int .i64 (.ofNat fc.fs.length) 0) H6 n6
    delta s_link_Image_Slot_l25
    rw [List.drop_eq_nil_of_le (Nat.le_refl _)] at hk
    simp only [go_sem, lss_n, Nat.lt_irrefl, decide_false]
    delta s_link_Image_Slot_j21
    exact hk _ _ (fb5.trans (f6.kb (by omega)))
/- a second image: what another table notes is nothing to this one -/
theorem TabAt.kb2 {G : Roms} {H H' : Heap} {n n' t a b b2 : Nat} {fs : Tab} (h : TabAt G H n t a b fs) (f : Kb b2 H n H' n') (hs : SeenAt H b2) (h1 : t ≠ b2) (h2 : a ≠ b2) (h3 : b ≠ b2) : TabAt G H' n' t a b fs := by
  obtain ⟨ps, q1, q2, q3⟩ := h.faces.is
  exact ⟨Nat.lt_of_lt_of_le h.tn f.le, Nat.lt_of_lt_of_le h.an f.le, Nat.lt_of_lt_of_le h.bn f.le, h.tb, h.ab, f.get h.at' h.tn h1,
    ⟨ps, mapIs_same q1 (f.same a h.an h2), q2, fun s v c x y => (q3 s v c x y).ke (f.ke hs)⟩, h.seen.same (f.same b h.bn h3)⟩
theorem ImgAt.kb2 {G : Roms} {H H' : Heap} {n n' i t a b fm b2 : Nat} {vn : V} {fs : Tab} (h : ImgAt G H n i t a b fm vn fs) (f : Kb b2 H n H' n') (hs : SeenAt H b2) (h0 : i ≠ b2) (h1 : t ≠ b2) (h2 : a ≠ b2) (h3 : b ≠ b2) : ImgAt G H' n' i t a b fm vn fs :=
  ⟨Nat.lt_of_lt_of_le h.iN f.le, h.ib, f.get h.at' h.iN h0, h.tab.kb2 f hs h1 h2 h3⟩
end Go.RL

/- Contracts, thirtieth part: have faces and files few parts: some answer. -/
namespace Go.RL
open Go.Eng
set_option maxRecDepth 100000
theorem Few07_c {G : Roms} {H : Heap} {n : Nat} {v : V} {c : Fc} (h : FaceV G H n v c) {k : KV} (hk : ∀ r H' n', Kp H n H' n' → k (.bool r) H' n') : Runs F G n_kilnlaw07_Few [v] H n k := by
  refine runs_s (s := ar1 (s_kilnlaw07_Few lfp G)) at_kilnlaw07_Few (by obtain ⟨h, o⟩ := si_kilnlaw07_Few lfp_ok G; rw [at_kilnlaw07_Few] at h; cases h; exact o) ?_
  show s_kilnlaw07_Few lfp G (Runs F G) v H n k
  obtain ⟨vf, vm, ws, h, rfl⟩ := h
  delta s_kilnlaw07_Few
  refine a_boxA fun H1 f1 g1 => ?_
  have hf1 := h.fs.kp f1
  have hm1 := h.ms.kp f1
  have hbig := hf1.lt
  have hbig2 := hm1.lt
  simp only [go_sem, Nat.reduceAdd, ld1_one (off := 2) g1 (v := vf) rfl, hf1.len, gtr_n]
  cases h1 : decide (12 < c.fs.length) with
  | true => simp only [go_sem]; exact hk _ _ _ f1
  | false =>
  simp only [go_sem, Nat.reduceAdd, ld1_one (off := 3) g1 (v := vm) rfl, hm1.len', gtr_n]
  cases h2 : decide (12 < c.ms.length) with
  | true => simp only [go_sem]; exact hk _ _ _ f1
  | false =>
  simp only [go_sem, Nat.reduceAdd, ld1_one (off := 0) g1 (v := c.nm.v) rfl, lenS, gtr_n]
  cases h3 : decide (60 < c.nm.1) with
  | true => simp only [go_sem]; exact hk _ _ _ f1
  | false =>
  simp only [go_sem, Nat.reduceAdd, ld1_one (off := 1) g1 (v := c.sup.v) rfl, lenS, gtr_n]
  cases h4 : decide (60 < c.sup.1) with
  | true => simp only [go_sem]; exact hk _ _ _ f1
  | false =>
  simp only [go_sem, Nat.reduceAdd, ld1_one (off := 2) g1 (v := vf) rfl, hf1.len]
  refine lfp_range (N := c.fs.length) (J := fun j q => ∃ H' n', q = (.ptr n 0, vf, .int .i64 (.ofNat c.fs.length) 0, .int .i64 (.ofNat j) 0, H', n') ∧ Kp H1 (n + 1) H' n') ?_ ?_ ⟨H1, _, rfl, Kp.refl _ _⟩
  · rintro I j q hlt ⟨H3, n3, rfl, f3⟩ ih
    show s_kilnlaw07_Few_l66 lfp G (Runs F G) k I (.ptr n 0) vf (.int .i64 (.ofNat c.fs.length) 0) (.int .i64 (.ofNat j) 0) H3 n3
    delta s_kilnlaw07_Few_l66
    obtain ⟨q, hp, hld⟩ := (hf1.kp f3).at hlt
    generalize c.fs[j] = m at hld
    unfold Fld.cells at hld
    have h3n := f3.le
    simp only [go_sem, lss_n, hlt, decide_true, hp, ldn_of hld, Nat.reduceAdd, lenS, gtr_n]
    rw [T.set_set]
    have f4 := f3.new (m := n3 + 1) (id := n3) (one [m.nm.v, m.ty.nm.v, .bool m.ty.arr]) f3.le (by omega)
    have g4 := T.get_set H3 n3 (one [m.nm.v, m.ty.nm.v, .bool m.ty.arr])
    generalize T.set H3 n3 (one [m.nm.v, m.ty.nm.v, .bool m.ty.arr]) = H4 at f4 g4
    cases h1 : decide (60 < m.nm.1) with
    | true => simp only [go_sem]; exact hk _ _ _ (f1.trans f4)
    | false =>
    simp only [go_sem, Nat.reduceAdd, ld1_one (off := 1) g4 (v := m.ty.nm.v) rfl, lenS, gtr_n]
    cases h1 : decide (60 < m.ty.nm.1) with
    | true => simp only [go_sem]; exact hk _ _ _ (f1.trans f4)
    | false =>
    simp only [go_sem, add_i (show j + 1 < 9223372036854775808 by unfold big at hbig; omega)]
    exact ih _ ⟨_, _, rfl, f4⟩
  rintro I q ⟨H3, n3, rfl, f3⟩
  show s_kilnlaw07_Few_l66 lfp G (Runs F G) k I (.ptr n 0) vf (.int .i64 (.ofNat c.fs.length) 0) (.int .i64 (.ofNat c.fs.length) 0) H3 n3
  delta s_kilnlaw07_Few_l66
  have hm3 := hm1.kp f3
  simp only [go_sem, lss_n, Nat.lt_irrefl, decide_false]
  delta s_kilnlaw07_Few_j21
  simp only [go_sem, Nat.reduceAdd, ld1_one (off := 3) (f3.get g1 (by omega)) (v := vm) rfl, hm3.len']
  refine lfp_range (N := c.ms.length) (J := fun j q => ∃ H' n', q = (vm, .int .i64 (.ofNat c.ms.length) 0, .int .i64 (.ofNat j) 0, H', n') ∧ Kp H1 (n + 1) H' n') ?_ ?_ ⟨H3, _, rfl, f3⟩
  · rintro I j q hlt ⟨H3, n3, rfl, f3⟩ ih
    show s_kilnlaw07_Few_l26 lfp G (Runs F G) k I vm (.int .i64 (.ofNat c.ms.length) 0) (.int .i64 (.ofNat j) 0) H3 n3
    delta s_kilnlaw07_Few_l26
    obtain ⟨q, w, hp, hld, hw⟩ := (hm1.kp f3).at hlt
    generalize c.ms[j] = m at hld hw
    unfold Meth.cells at hld
    have h3n := f3.le
    simp only [go_sem, lss_n, hlt, decide_true, hp, ldn_of hld, Nat.reduceAdd, lenS, gtr_n]
    rw [T.set_set]
    have f4' : Kp H3 n3 (T.set H3 n3 (one [m.nm.v, .bool m.st, w, m.ret.nm.v, .bool m.ret.arr])) (n3 + 1) := (Kp.refl _ _).new _ (Nat.le_refl _) (by omega)
    have g4 := T.get_set H3 n3 (one [m.nm.v, .bool m.st, w, m.ret.nm.v, .bool m.ret.arr])
    generalize T.set H3 n3 (one [m.nm.v, .bool m.st, w, m.ret.nm.v, .bool m.ret.arr]) = H4 at f4' g4
    have f4 := f3.trans f4'
    have hw4 := hw.kp f4'
    cases h1 : decide (60 < m.nm.1) with
    | true => simp only [go_sem]; exact hk _ _ _ (f1.trans f4)
    | false =>
    simp only [go_sem, Nat.reduceAdd, ld1_one (off := 3) g4 (v := m.ret.nm.v) rfl, lenS, gtr_n]
    cases h1 : decide (60 < m.ret.nm.1) with
    | true => simp only [go_sem]; exact hk _ _ _ (f1.trans f4)
    | false =>
    simp only [go_sem, Nat.reduceAdd, ld1_one (off := 2) g4 (v := w) rfl, hw4.len, gtr_n]
    cases h1 : decide (10 < m.ps.length) with
    | true => simp only [go_sem]; exact hk _ _ _ (f1.trans f4)
    | false =>
    simp only [go_sem, Nat.reduceAdd, ld1_one (off := 2) g4 (v := w) rfl, hw4.len]
    have hbig3 := hw4.lt
    refine lfp_range (N := m.ps.length) (J := fun i q => ∃ H' n', q = (vm, .int .i64 (.ofNat c.ms.length) 0, .int .i64 (.ofNat j) 0, w, .int .i64 (.ofNat m.ps.length) 0, .int .i64 (.ofNat i) 0, H', n') ∧ Kp H4 (n3 + 1) H' n') ?_ ?_ ⟨H4, _, rfl, Kp.refl _ _⟩
    · rintro I2 i q hlt ⟨H5, n5, rfl, f5⟩ ih2
      show s_kilnlaw07_Few_l52 lfp G (Runs F G) k I I2 vm (.int .i64 (.ofNat c.ms.length) 0) (.int .i64 (.ofNat j) 0) w (.int .i64 (.ofNat m.ps.length) 0) (.int .i64 (.ofNat i) 0) H5 n5
      delta s_kilnlaw07_Few_l52
      obtain ⟨q, hp, hld⟩ := (hw4.kp f5).el.at (tys_at hlt)
      generalize m.ps[i] = t at hld
      unfold Ty.cells at hld
      simp only [go_sem, lss_n, hlt, decide_true, hp, ldn_of hld, Nat.reduceAdd, lenS, gtr_n]
      rw [T.set_set]
      have f6 := f5.new (m := n5 + 1) (id := n5) (one [t.nm.v, .bool t.arr]) f5.le (by omega)
      cases h1 : decide (60 < t.nm.1) with
      | true => simp only [go_sem]; exact hk _ _ _ (f1.trans (f4.trans f6))
      | false =>
      simp only [go_sem, add_i (show i + 1 < 9223372036854775808 by unfold big at hbig3; omega)]
      exact ih2 _ ⟨_, _, rfl, f6⟩
    · rintro I2 q ⟨H5, n5, rfl, f5⟩
      show s_kilnlaw07_Few_l52 lfp G (Runs F G) k I I2 vm (.int .i64 (.ofNat c.ms.length) 0) (.int .i64 (.ofNat j) 0) w (.int .i64 (.ofNat m.ps.length) 0) (.int .i64 (.ofNat m.ps.length) 0) H5 n5
      delta s_kilnlaw07_Few_l52
      simp only [go_sem, lss_n, Nat.lt_irrefl, decide_false]
      delta s_kilnlaw07_Few_j28
      simp only [go_sem, add_i (show j + 1 < 9223372036854775808 by unfold big at hbig2; omega)]
      exact ih _ ⟨_, _, rfl, f4.trans f5⟩
  · rintro I q ⟨H3, n3, rfl, f3⟩
    show s_kilnlaw07_Few_l26 lfp G (Runs F G) k I vm (.int .i64 (.ofNat c.ms.length) 0) (.int .i64 (.ofNat c.ms.length) 0) H3 n3
    delta s_kilnlaw07_Few_l26
    simp only [go_sem, lss_n, Nat.lt_irrefl, decide_false]
    delta s_kilnlaw07_Few_j22
    exact hk _ _ _ (f1.trans f3)
end Go.RL

/- Contracts, thirty-first part: have files few parts, on. -/
namespace Go.RL
open Go.Eng
set_option maxRecDepth 100000
theorem add_any (a b : Int) : ∃ c, B2.ev .add (.int .i64 a 0) (.int .i64 b 0) = some (.int .i64 c 0) := ⟨wrapI .i64 (iadd a b), rfl⟩
section
variable {G : Roms} {H0 H : Heap} {n0 n e : Nat} {p : Pool} {bs : List Bd} {c0 c1 c2 c3 v0 v1 v2 v3 v4 vb : V} {ws bws : List V} {k : KV}
theorem Few12Bodies_c (hb : BodiesAt G H n vb bs bws) (ge : T.get H e = some (one [c0, c1, c2, c3, v0, v1, v2, v3, v4, vb])) (hk : ∀ r H' n', Kp H n H' n' → k (.bool r) H' n') :
    s_kilnlaw12_Few_j44 lfp G (Runs F G) k (.ptr e 0) H n := by
  delta s_kilnlaw12_Few_j44
  have hbig := hb.lt
  have l4 : lenV vb = some (.int .i64 (.ofNat bs.length) 0) := by rw [hb.el.len, List.length_zipWith, hb.len, Nat.min_self]
  simp only [go_sem, Nat.reduceAdd, ld1_one (off := 9) ge (v := vb) rfl, l4]
  refine lfp_range (N := bs.length) (J := fun j q => ∃ H' n', q = (vb, .int .i64 (.ofNat bs.length) 0, .int .i64 (.ofNat j) 0, H', n') ∧ Kp H n H' n') ?_ ?_ ⟨H, _, rfl, Kp.refl _ _⟩
  · rintro I j q hlt ⟨H3, n3, rfl, f3⟩ ih
    show s_kilnlaw12_Few_l49 lfp G (Runs F G) k I vb (.int .i64 (.ofNat bs.length) 0) (.int .i64 (.ofNat j) 0) H3 n3
    delta s_kilnlaw12_Few_l49
    have hb3 := hb.kp f3
    have hw : j < bws.length := by rw [hb.len]; exact hlt
    obtain ⟨q, hp', hld⟩ := hb3.el.at (i := j) (c := bs[j].cells bws[j]) (by rw [List.getElem?_zipWith]; simp [hlt, hw])
    have hc := hb3.at' j _ _ (List.getElem?_eq_getElem hlt) (List.getElem?_eq_getElem hw)
    generalize bs[j] = m at hld hc
    generalize bws[j] = w at hld hc
    unfold Bd.cells at hld
    have lw : lenV w = some (.int .i64 (.ofNat m.code.length) 0) := by rw [hc.el.len, List.length_map]
    simp only [go_sem, Nat.reduceAdd, lss_n, hlt, decide_true, hp', ldn_of hld, lw, gtr_n]
    rw [T.set_set]
    have f4 := f3.new (m := n3 + 1) (id := n3) (one [.int .i64 m.locals 0, .int .i64 m.stack 0, w]) f3.le (by omega)
    cases h1 : decide (60 < m.code.length) with
    | true => simp only [go_sem]; exact hk _ _ _ f4
    | false =>
    simp only [go_sem, add_i (show j + 1 < 9223372036854775808 by unfold big at hbig; omega)]
    exact ih _ ⟨_, _, rfl, f4⟩
  · rintro I q ⟨H3, n3, rfl, f3⟩
    show s_kilnlaw12_Few_l49 lfp G (Runs F G) k I vb (.int .i64 (.ofNat bs.length) 0) (.int .i64 (.ofNat bs.length) 0) H3 n3
    delta s_kilnlaw12_Few_l49
    simp only [go_sem, lss_n, Nat.lt_irrefl, decide_false]
    delta s_kilnlaw12_Few_j45
    exact hk _ _ _ f3
theorem Few12Meths_c (h : PoolAt G H n p v0 v1 v2 v3 v4 ws) (hb : BodiesAt G H n vb bs bws) (he : e < n) (ge : T.get H e = some (one [c0, c1, c2, c3, v0, v1, v2, v3, v4, vb])) (hk : ∀ r H' n', Kp H n H' n' → k (.bool r) H' n') :
    s_kilnlaw12_Few_j43 lfp G (Runs F G) k (.ptr e 0) H n := by
  delta s_kilnlaw12_Few_j43
  have hbig := h.b4
  have l4 : lenV v4 = some (.int .i64 (.ofNat p.meths.length) 0) := by rw [h.e4.len, List.length_zipWith, h.len4, Nat.min_self]
  simp only [go_sem, Nat.reduceAdd, ld1_one (off := 8) ge (v := v4) rfl, l4]
  refine lfp_range (N := p.meths.length) (J := fun j q => ∃ H' n', q = (.ptr e 0, v4, .int .i64 (.ofNat p.meths.length) 0, .int .i64 (.ofNat j) 0, H', n') ∧ Kp H n H' n') ?_ ?_ ⟨H, _, rfl, Kp.refl _ _⟩
  · rintro I j q hlt ⟨H3, n3, rfl, f3⟩ ih
    show s_kilnlaw12_Few_l64 lfp G (Runs F G) k I (.ptr e 0) v4 (.int .i64 (.ofNat p.meths.length) 0) (.int .i64 (.ofNat j) 0) H3 n3
    delta s_kilnlaw12_Few_l64
    have h3 := h.kp f3
    have h3n := f3.le
    have hw : j < ws.length := by rw [h.len4]; exact hlt
    obtain ⟨q, hp', hld⟩ := h3.e4.at (i := j) (c := p.meths[j].cells ws[j]) (by rw [List.getElem?_zipWith]; simp [hlt, hw])
    have hty := h3.at4 j _ _ (List.getElem?_eq_getElem hlt) (List.getElem?_eq_getElem hw)
    have hok := h3.o4 _ (List.getElem_mem hlt)
    generalize p.meths[j] = m at hld hty hok
    generalize ws[j] = w at hld hty
    unfold PM.cells at hld
    simp only [go_sem, Nat.reduceAdd, lss_n, hlt, decide_true, hp', ldn_of hld, lenS, gtr_n]
    rw [T.set_set]
    have f4' : Kp H3 n3 (T.set H3 n3 (one [m.m.nm.v, .bool m.m.st, w, m.m.ret.nm.v, .bool m.m.ret.arr, m.own.v])) (n3 + 1) := (Kp.refl _ _).new _ (Nat.le_refl _) (by omega)
    have g4 := T.get_set H3 n3 (one [m.m.nm.v, .bool m.m.st, w, m.m.ret.nm.v, .bool m.m.ret.arr, m.own.v])
    generalize T.set H3 n3 (one [m.m.nm.v, .bool m.m.st, w, m.m.ret.nm.v, .bool m.m.ret.arr, m.own.v]) = H4 at f4' g4
    have f4 := f3.trans f4'
    cases h1 : decide (60 < m.own.1) with
    | true => simp only [go_sem]; exact hk _ _ _ f4
    | false =>
    simp only [go_sem, Nat.reduceAdd, show ldnV 5 (.ptr n3 0) G H4 = some (.agg [m.m.nm.v, .bool m.m.st, w, m.m.ret.nm.v, .bool m.m.ret.arr]) from ldn_one g4 (by omega) (by show 5 ≤ 6; omega)]
    rw [s_bsl1 (z := 5) (L := [m.m.nm.v, .bool m.m.st, w, m.m.ret.nm.v, .bool m.m.ret.arr]) rfl]
    have hcap := T.get_set H4 (n3 + 1) (.arr 5 1 (T.set (T.set .e 0 [.str 0 0, .bool false, .nils, .str 0 0, .bool false]) 0 [m.m.nm.v, .bool m.m.st, w, m.m.ret.nm.v, .bool m.m.ret.arr]))
    have f5 : Kp H4 (n3 + 1) (T.set H4 (n3 + 1) (.arr 5 1 (T.set (T.set .e 0 [.str 0 0, .bool false, .nils, .str 0 0, .bool false]) 0 [m.m.nm.v, .bool m.m.st, w, m.m.ret.nm.v, .bool m.m.ret.arr]))) (n3 + 1 + 1) := (Kp.refl _ _).new _ (Nat.le_refl _) (by omega)
    generalize T.set H4 (n3 + 1) (.arr 5 1 (T.set (T.set .e 0 [.str 0 0, .bool false, .nils, .str 0 0, .bool false]) 0 [m.m.nm.v, .bool m.m.st, w, m.m.ret.nm.v, .bool m.m.ret.arr])) = H5 at f5 hcap
    rw [show buildV [.str 0 0, .str 0 0, .nils, .nils] [(3, 1, .c (.sl (n3 + 1) 0 1 1 5))] = some (.agg [.str 0 0, .str 0 0, .nils, .sl (n3 + 1) 0 1 1 5]) from rfl, s_onV]
    refine Few07_c (c := ⟨(0, 0), (0, 0), [], [m.m]⟩) ⟨.nils, .sl (n3 + 1) 0 1 1 5, [w], ⟨rfl, ⟨⟨rfl, rfl⟩, (fun id h => by cases h), (by show 0 < big; decide), (fun f h => by cases h)⟩, ⟨El_bsl1 (by omega) rfl hcap, (fun id h => by cases h; omega), (by show 1 < big; decide), rfl, ?_, ?_⟩, ?_⟩, rfl⟩ fun r H' n' f => ?_
    · intro i m' w' h1 h2
      cases i with
      | zero => simp at h1 h2; subst h1 h2; exact hty.kp (f4'.trans f5)
      | succ i => simp at h1
    · intro m' h; simp at h; subst h; exact ⟨hok.1, hok.2.1⟩
    · exact ⟨fun _ => rfl, fun _ => rfl⟩
    · have f6 := f4.trans (f5.trans f)
      simp only [go_sem, s_notB]
      cases r with
      | false => simp only [Bool.not_false, go_sem]; exact hk _ _ _ f6
      | true =>
        simp only [Bool.not_true, go_sem, add_i (show j + 1 < 9223372036854775808 by unfold big at hbig; omega)]
        exact ih _ ⟨_, _, rfl, f6⟩
  · rintro I q ⟨H3, n3, rfl, f3⟩
    show s_kilnlaw12_Few_l64 lfp G (Runs F G) k I (.ptr e 0) v4 (.int .i64 (.ofNat p.meths.length) 0) (.int .i64 (.ofNat p.meths.length) 0) H3 n3
    delta s_kilnlaw12_Few_l64
    simp only [go_sem, lss_n, Nat.lt_irrefl, decide_false]
    exact Few12Bodies_c (hb.kp f3) (f3.get ge he) fun r H' n' f => hk _ _ _ (f3.trans f)
theorem Few12Flds_c (h : PoolAt G H n p v0 v1 v2 v3 v4 ws) (hb : BodiesAt G H n vb bs bws) (he : e < n) (ge : T.get H e = some (one [c0, c1, c2, c3, v0, v1, v2, v3, v4, vb])) (hk : ∀ r H' n', Kp H n H' n' → k (.bool r) H' n') :
    s_kilnlaw12_Few_j42 lfp G (Runs F G) k (.ptr e 0) H n := by
  delta s_kilnlaw12_Few_j42
  have hbig := h.b3
  have l3 : lenV v3 = some (.int .i64 (.ofNat p.fields.length) 0) := by rw [h.e3.len, List.length_map]
  simp only [go_sem, Nat.reduceAdd, ld1_one (off := 7) ge (v := v3) rfl, l3]
  refine lfp_range (N := p.fields.length) (J := fun j q => ∃ H' n', q = (.ptr e 0, v3, .int .i64 (.ofNat p.fields.length) 0, .int .i64 (.ofNat j) 0, H', n') ∧ Kp H n H' n') ?_ ?_ ⟨H, _, rfl, Kp.refl _ _⟩
  · rintro I j q hlt ⟨H3, n3, rfl, f3⟩ ih
    show s_kilnlaw12_Few_l86 lfp G (Runs F G) k I (.ptr e 0) v3 (.int .i64 (.ofNat p.fields.length) 0) (.int .i64 (.ofNat j) 0) H3 n3
    delta s_kilnlaw12_Few_l86
    have h3 := h.kp f3
    have h3n := f3.le
    obtain ⟨q, hp', hld⟩ := h3.e3.at (i := j) (c := p.fields[j].cells) (by simp [hlt])
    generalize p.fields[j] = m at hld
    unfold PF.cells at hld
    obtain ⟨x, hx⟩ := add_any (.ofNat m.f.nm.1) (.ofNat m.own.1)
    obtain ⟨y, hy⟩ := add_any x (.ofNat m.f.ty.nm.1)
    simp only [go_sem, Nat.reduceAdd, lss_n, hlt, decide_true, hp', ldn_of hld, lenS, hx, hy, gtr_i]
    rw [T.set_set]
    have f4 := f3.new (m := n3 + 1) (id := n3) (one [m.f.nm.v, m.f.ty.nm.v, .bool m.f.ty.arr, m.own.v]) f3.le (by omega)
    cases h1 : decide (Int.ofNat 120 < y) with
    | true => simp only [go_sem]; exact hk _ _ _ f4
    | false =>
    simp only [go_sem, add_i (show j + 1 < 9223372036854775808 by unfold big at hbig; omega)]
    exact ih _ ⟨_, _, rfl, f4⟩
  · rintro I q ⟨H3, n3, rfl, f3⟩
    show s_kilnlaw12_Few_l86 lfp G (Runs F G) k I (.ptr e 0) v3 (.int .i64 (.ofNat p.fields.length) 0) (.int .i64 (.ofNat p.fields.length) 0) H3 n3
    delta s_kilnlaw12_Few_l86
    have := f3.le
    simp only [go_sem, lss_n, Nat.lt_irrefl, decide_false]
    exact Few12Meths_c (h.kp f3) (hb.kp f3) (by omega) (f3.get ge he) fun r H' n' f => hk _ _ _ (f3.trans f)
theorem Few12Types_c (h : PoolAt G H n p v0 v1 v2 v3 v4 ws) (hb : BodiesAt G H n vb bs bws) (he : e < n) (ge : T.get H e = some (one [c0, c1, c2, c3, v0, v1, v2, v3, v4, vb])) (hk : ∀ r H' n', Kp H n H' n' → k (.bool r) H' n') :
    s_kilnlaw12_Few_j41 lfp G (Runs F G) k (.ptr e 0) H n := by
  delta s_kilnlaw12_Few_j41
  have hbig := h.t2.lt
  simp only [go_sem, Nat.reduceAdd, ld1_one (off := 6) ge (v := v2) rfl, h.t2.len]
  refine lfp_range (N := p.types.length) (J := fun j q => ∃ H' n', q = (.ptr e 0, v2, .int .i64 (.ofNat p.types.length) 0, .int .i64 (.ofNat j) 0, H', n') ∧ Kp H n H' n') ?_ ?_ ⟨H, _, rfl, Kp.refl _ _⟩
  · rintro I j q hlt ⟨H3, n3, rfl, f3⟩ ih
    show s_kilnlaw12_Few_l112 lfp G (Runs F G) k I (.ptr e 0) v2 (.int .i64 (.ofNat p.types.length) 0) (.int .i64 (.ofNat j) 0) H3 n3
    delta s_kilnlaw12_Few_l112
    have h3 := h.kp f3
    have h3n := f3.le
    obtain ⟨q, hp', hld⟩ := h3.t2.el.at (tys_at hlt)
    generalize p.types[j] = m at hld
    unfold Ty.cells at hld
    simp only [go_sem, Nat.reduceAdd, lss_n, hlt, decide_true, hp', ldn_of hld, lenS, gtr_n]
    rw [T.set_set]
    have f4 := f3.new (m := n3 + 1) (id := n3) (one [m.nm.v, .bool m.arr]) f3.le (by omega)
    cases h1 : decide (60 < m.nm.1) with
    | true => simp only [go_sem]; exact hk _ _ _ f4
    | false =>
    simp only [go_sem, add_i (show j + 1 < 9223372036854775808 by unfold big at hbig; omega)]
    exact ih _ ⟨_, _, rfl, f4⟩
  · rintro I q ⟨H3, n3, rfl, f3⟩
    show s_kilnlaw12_Few_l112 lfp G (Runs F G) k I (.ptr e 0) v2 (.int .i64 (.ofNat p.types.length) 0) (.int .i64 (.ofNat p.types.length) 0) H3 n3
    delta s_kilnlaw12_Few_l112
    have := f3.le
    simp only [go_sem, lss_n, Nat.lt_irrefl, decide_false]
    exact Few12Flds_c (h.kp f3) (hb.kp f3) (by omega) (f3.get ge he) fun r H' n' f => hk _ _ _ (f3.trans f)
end
end Go.RL

/- Contracts, thirty-second part: have files few parts, whole. -/
namespace Go.RL
open Go.Eng
set_option maxRecDepth 100000
theorem Few12_c {G : Roms} {H : Heap} {n : Nat} {v : V} {f : Fl} (h : FileV G H n v f) {k : KV} (hk : ∀ r H' n', Kp H n H' n' → k (.bool r) H' n') : Runs F G n_kilnlaw12_Few [v] H n k := by
  refine runs_s (s := ar1 (s_kilnlaw12_Few lfp G)) at_kilnlaw12_Few (by obtain ⟨h, o⟩ := si_kilnlaw12_Few lfp_ok G; rw [at_kilnlaw12_Few] at h; cases h; exact o) ?_
  show s_kilnlaw12_Few lfp G (Runs F G) v H n k
  obtain ⟨L, vf, vm, v0, v1, v2, v3, v4, vb, mws, ws, bws, h, rfl⟩ := h
  obtain ⟨rfl, hf, hp, hb⟩ := h
  delta s_kilnlaw12_Few
  refine a_boxA fun H1 f1 g1 => ?_
  rw [s_padd, s_onV, show ldnV 4 (.ptr n (0 + 0)) G H1 = some (.agg [f.face.nm.v, f.face.sup.v, vf, vm]) from ldn_one g1 (by omega) (by show 4 ≤ 10; omega), s_onV]
  refine Few07_c (c := f.face) ⟨vf, vm, mws, hf.kp f1, rfl⟩ fun r H2 n2 f2 => ?_
  have f12 := f1.trans f2
  have h2n := f2.le
  have hp2 := hp.kp f12
  have hb2 := hb.kp f12
  have g2 := f2.get g1 (by omega)
  have l0 : lenV v0 = some (.int .i64 (.ofNat f.pool.nums.length) 0) := by rw [hp2.e0.len, List.length_map]
  have l1 : lenV v1 = some (.int .i64 (.ofNat f.pool.names.length) 0) := by rw [hp2.e1.len, strs_len]
  have l3 : lenV v3 = some (.int .i64 (.ofNat f.pool.fields.length) 0) := by rw [hp2.e3.len, List.length_map]
  have l4 : lenV v4 = some (.int .i64 (.ofNat f.pool.meths.length) 0) := by rw [hp2.e4.len, List.length_zipWith, hp2.len4, Nat.min_self]
  have lb : lenV vb = some (.int .i64 (.ofNat f.bodies.length) 0) := by rw [hb2.el.len, List.length_zipWith, hb2.len, Nat.min_self]
  simp only [s_notB]
  cases r with
  | false =>
    simp only [Bool.not_false]
    rw [s_onV]
    repeat (first | with_reducible refine gs_t ?_ | with_reducible refine gp_t ?_)
    simp only [go_sem]; exact hk _ _ _ f12
  | true =>
  simp only [Bool.not_true, go_sem, Nat.reduceAdd, ld1_one (off := 4) g2 (v := v0) rfl, l0, gtr_n]
  cases h1 : decide (20 < f.pool.nums.length) with
  | true =>
    repeat (first | with_reducible refine gs_t ?_ | with_reducible refine gp_t ?_)
    simp only [go_sem]; exact hk _ _ _ f12
  | false =>
  simp only [go_sem, Nat.reduceAdd, ld1_one (off := 5) g2 (v := v1) rfl, l1, gtr_n]
  cases h1 : decide (20 < f.pool.names.length) with
  | true =>
    repeat (first | with_reducible refine gs_t ?_ | with_reducible refine gp_t ?_)
    simp only [go_sem]; exact hk _ _ _ f12
  | false =>
  simp only [go_sem, Nat.reduceAdd, ld1_one (off := 6) g2 (v := v2) rfl, hp2.t2.len, gtr_n]
  cases h1 : decide (20 < f.pool.types.length) with
  | true =>
    repeat (first | with_reducible refine gs_t ?_ | with_reducible refine gp_t ?_)
    simp only [go_sem]; exact hk _ _ _ f12
  | false =>
  simp only [go_sem, Nat.reduceAdd, ld1_one (off := 7) g2 (v := v3) rfl, l3, gtr_n]
  cases h1 : decide (20 < f.pool.fields.length) with
  | true =>
    repeat (first | with_reducible refine gs_t ?_ | with_reducible refine gp_t ?_)
    simp only [go_sem]; exact hk _ _ _ f12
  | false =>
  simp only [go_sem, Nat.reduceAdd, ld1_one (off := 8) g2 (v := v4) rfl, l4, gtr_n]
  cases h1 : decide (20 < f.pool.meths.length) with
  | true =>
    repeat (first | with_reducible refine gs_t ?_ | with_reducible refine gp_t ?_)
    simp only [go_sem]; exact hk _ _ _ f12
  | false =>
  simp only [go_sem, Nat.reduceAdd, ld1_one (off := 9) g2 (v := vb) rfl, lb, gtr_n]
  cases h1 : decide (12 < f.bodies.length) with
  | true =>
    repeat (first | with_reducible refine gs_t ?_ | with_reducible refine gp_t ?_)
    simp only [go_sem]; exact hk _ _ _ f12
  | false =>
  simp only [go_sem, Nat.reduceAdd, ld1_one (off := 5) g2 (v := v1) rfl, l1]
  have hbig := hp2.b1
  refine lfp_range (N := f.pool.names.length) (J := fun j q => ∃ H' n', q = (.ptr n 0, v1, .int .i64 (.ofNat f.pool.names.length) 0, .int .i64 (.ofNat j) 0, H', n') ∧ Kp H2 n2 H' n') ?_ ?_ ⟨H2, _, rfl, Kp.refl _ _⟩
  · rintro I j q hlt ⟨H3, n3, rfl, f3⟩ ih
    show s_kilnlaw12_Few_l127 lfp G (Runs F G) k I (.ptr n 0) v1 (.int .i64 (.ofNat f.pool.names.length) 0) (.int .i64 (.ofNat j) 0) H3 n3
    delta s_kilnlaw12_Few_l127
    have h3 := hp2.kp f3
    obtain ⟨q, hp', hld⟩ := h3.e1.at (strs_at hlt)
    generalize f.pool.names[j] = m at hld
    simp only [go_sem, Nat.reduceAdd, lss_n, hlt, decide_true, hp', ld1_of hld, lenS, gtr_n]
    cases h1 : decide (60 < m.1) with
    | true => simp only [go_sem]; exact hk _ _ _ (f12.trans f3)
    | false =>
    simp only [go_sem, add_i (show j + 1 < 9223372036854775808 by unfold big at hbig; omega)]
    exact ih _ ⟨_, _, rfl, f3⟩
  · rintro I q ⟨H3, n3, rfl, f3⟩
    show s_kilnlaw12_Few_l127 lfp G (Runs F G) k I (.ptr n 0) v1 (.int .i64 (.ofNat f.pool.names.length) 0) (.int .i64 (.ofNat f.pool.names.length) 0) H3 n3
    delta s_kilnlaw12_Few_l127
    have := f3.le
    simp only [go_sem, lss_n, Nat.lt_irrefl, decide_false]
    exact Few12Types_c (hp2.kp f3) (hb2.kp f3) (by omega) (f3.get g2 (by omega)) fun r H' n' f => hk _ _ _ (f12.trans (f3.trans f))
theorem Few14_c {G : Roms} {H : Heap} {n : Nat} {v : V} {fls : List Fl} (h : FilesV G H n v fls) {k : KV} (hk : ∀ r H' n', Kp H n H' n' → (r = true → fls.length ≤ 8) → k (.bool r) H' n') : Runs F G n_kilnlaw14_Few [v] H n k := by
  refine runs_s (s := ar1 (s_kilnlaw14_Few lfp G)) at_kilnlaw14_Few (by obtain ⟨h, o⟩ := si_kilnlaw14_Few lfp_ok G; rw [at_kilnlaw14_Few] at h; cases h; exact o) ?_
  show s_kilnlaw14_Few lfp G (Runs F G) v H n k
  delta s_kilnlaw14_Few
  have hbig := h.lt
  simp only [go_sem, h.len]
  refine lfp_range (N := fls.length) (J := fun j q => ∃ H' n', q = (v, v, .int .i64 (.ofNat fls.length) 0, .int .i64 (.ofNat j) 0, H', n') ∧ Kp H n H' n') ?_ ?_ ⟨H, _, rfl, Kp.refl _ _⟩
  · rintro I j q hlt ⟨H3, n3, rfl, f3⟩ ih
    show s_kilnlaw14_Few_l5 lfp G (Runs F G) k I v v (.int .i64 (.ofNat fls.length) 0) (.int .i64 (.ofNat j) 0) H3 n3
    delta s_kilnlaw14_Few_l5
    obtain ⟨q, vf, vm, v0, v1, v2, v3, v4, vb, mws, ws, bws, hp, hld, hfile⟩ := (h.ke f3.ke).at hlt
    generalize fls[j] = m at hld hfile
    simp only [go_sem, Nat.reduceAdd, lss_n, hlt, decide_true, hp, ldn_of hld]
    rw [T.set_set]
    have f4' : Kp H3 n3 (T.set H3 n3 (one [m.face.nm.v, m.face.sup.v, vf, vm, v0, v1, v2, v3, v4, vb])) (n3 + 1) := (Kp.refl _ _).new _ (Nat.le_refl _) (by omega)
    have g4 := T.get_set H3 n3 (one [m.face.nm.v, m.face.sup.v, vf, vm, v0, v1, v2, v3, v4, vb])
    generalize T.set H3 n3 (one [m.face.nm.v, m.face.sup.v, vf, vm, v0, v1, v2, v3, v4, vb]) = H4 at f4' g4
    refine Few12_c (f := m) ⟨_, vf, vm, v0, v1, v2, v3, v4, vb, mws, ws, bws, hfile.ke f4'.ke, rfl⟩ fun r H5 n5 f5 => ?_
    have f6 := f3.trans (f4'.trans f5)
    simp only [go_sem, s_notB]
    cases r with
    | false => simp only [Bool.not_false, go_sem]; exact hk _ _ _ f6 (fun h => by cases h)
    | true =>
      simp only [Bool.not_true, go_sem, add_i (show j + 1 < 9223372036854775808 by unfold big at hbig; omega)]
      exact ih _ ⟨_, _, rfl, f6⟩
  · rintro I q ⟨H3, n3, rfl, f3⟩
    show s_kilnlaw14_Few_l5 lfp G (Runs F G) k I v v (.int .i64 (.ofNat fls.length) 0) (.int .i64 (.ofNat fls.length) 0) H3 n3
    delta s_kilnlaw14_Few_l5
    simp only [go_sem, lss_n, Nat.lt_irrefl, decide_false]
    delta s_kilnlaw14_Few_j1
    simp only [go_sem, h.len, leq_i]
    refine hk _ _ _ f3 fun h => ?_
    have := of_decide_eq_true h
    show fls.length ≤ 8
    have h2 : (fls.length : Int) ≤ 8 := this
    omega
end Go.RL

/- The document's example, run by the kernel, whatever memory was there. -/
namespace Go.RL
open Go.Eng
set_option maxRecDepth 100000
theorem head_run (G : Roms) : runS (FS (lpF 100) G) 100 n_kilnlaw14_head [] .e 0 isT = True := by kernel_rfl
theorem head_c {G : Roms} {k : KV} (hk : ∀ H' n', k (.bool true) H' n') : Runs F G n_kilnlaw14_head [] .e 0 k :=
  runs_mono (k := isT) (fun v H n hv => by have := isT_iff hv; subst this; exact hk H n) (runS_le (fs_ok (lpF_ok 100) G) 100 _ _ _ _ _ (of_eq_true (head_run G)))
end Go.RL

/- Contracts, on: pieces of slices, appending to nothing; the names of an image. -/
namespace Go.RL
open Go.Eng
set_option maxRecDepth 100000
theorem eq_i (x y : Int) : eqV (.one .int) false (.int .i64 x 0) (.int .i64 y 0) = some (.bool (x == y)) := by
  have h := neq_i x y
  show ofB (bbind (some (ieq x y)) fun b => some b) = _
  rw [ieq_eq]
  cases h2 : decide (x = y) with
  | true => have := of_decide_eq_true h2; subst this; simp [bbind, ofB]
  | false =>
    have := of_decide_eq_false h2
    have : (x == y) = false := by simpa using this
    rw [this]; rfl
theorem and_n (t : Int) {m : Nat} (hm : m < 9223372036854775808) : B2.ev .and (.int .i64 t 0) (.int .i64 (.ofNat m) 0) = some (.int .i64 (.ofNat (uand t m)) 0) := by
  show guardO true (forceIV (iand .i64 t (.ofNat m)) fun m => some (.int .i64 m 0)) = _
  rw [iand_spec t hm]; rfl
theorem rem_n (u : Nat) {m : Nat} (hm : 0 < m) : B2.ev .rem (.int .i64 (.ofNat u) 0) (.int .i64 (.ofNat m) 0) = some (.int .i64 (.ofNat (u % m)) 0) := by
  show guardO (band true (band true (bnot (ieq (.ofNat m) 0)))) (mkN .i64 (Int.tmod (.ofNat u) (.ofNat m)) 0) = _
  have : ieq (.ofNat m) 0 = false := by rw [ieq_eq]; simp; omega
  rw [this]
  show forceIV (Int.tmod (.ofNat u) (.ofNat m)) (fun m => some (.int .i64 m 0)) = _
  rw [forceIV_eq]; rfl
theorem s_slcLo {z b o ln c e l : Nat} (h1 : l ≤ ln) (h2 : ln ≤ c) : slcV z (.rsl b o ln c e) E0 (some (.c (.int .i64 (.ofNat l) 0))) none none = some (.rsl b (o + l * z) (ln - l) (c - l) e) := by
  show guardO (band (Nat.ble l ln) (Nat.ble ln c)) (forceN (o + l * z) fun a => forceN (ln - l) fun b' => forceN (c - l) fun c' => some (.rsl b a b' c' e)) = _
  rw [show Nat.ble l ln = true by rw [Nat.ble_eq]; exact h1, show Nat.ble ln c = true by rw [Nat.ble_eq]; exact h2, forceN_eq, forceN_eq, forceN_eq]; rfl
theorem s_slcHi {z b o ln c e l : Nat} (h2 : l ≤ c) : slcV z (.rsl b o ln c e) E0 none (some (.c (.int .i64 (.ofNat l) 0))) none = some (.rsl b (o + 0 * z) (l - 0) (c - 0) e) := by
  show guardO (band (Nat.ble 0 l) (Nat.ble l c)) (forceN (o + 0 * z) fun a => forceN (l - 0) fun b' => forceN (c - 0) fun c' => some (.rsl b a b' c' e)) = _
  rw [show Nat.ble 0 l = true by rw [Nat.ble_eq]; exact Nat.zero_le _, show Nat.ble l c = true by rw [Nat.ble_eq]; exact h2, forceN_eq, forceN_eq, forceN_eq]; rfl
theorem El_drop {G : Roms} {H : Heap} {b o n c z e l c' e' : Nat} {LS : LLV} (h : El G H (.rsl b o n c e) z LS) : El G H (.rsl b (o + l * z) (n - l) c' e') z (LS.drop l) := by
  obtain ⟨h1, h2⟩ := elemsG_get _ _ (show elemsG G b z n o = some LS from h.2)
  rw [show n - l = (LS.drop l).length by simp [h1]]
  refine El_rsl fun i L hi => ?_
  rw [List.getElem?_drop] at hi
  have := h2 _ _ hi
  rwa [Nat.add_mul, ← Nat.add_assoc] at this
theorem El_take {G : Roms} {H : Heap} {b o n c z e l c' e' : Nat} {LS : LLV} (h : El G H (.rsl b o n c e) z LS) (hl : l ≤ n) : El G H (.rsl b (o + 0 * z) (l - 0) c' e') z (LS.take l) := by
  obtain ⟨h1, h2⟩ := elemsG_get _ _ (show elemsG G b z n o = some LS from h.2)
  rw [show l - 0 = (LS.take l).length by simp [h1]; omega]
  refine El_rsl fun i L hi => ?_
  rw [List.getElem?_take] at hi
  split at hi
  · have := h2 _ _ hi
    rwa [Nat.zero_mul, Nat.add_zero]
  · cases hi
theorem s_bsl0 {z : Nat} {Z : LV} {H : Heap} {n : Nat} {P : KV} : onA (aBslice z 0 Z [] E0) H n P = P (.sl n 0 0 0 z) (T.set H n (.arr z 0 .e)) (n + 1) := by
  show onB (band true true) (forceP n fun n => P (.sl n 0 0 0 z) (T.set H n (.arr z 0 .e)) (Nat.succ n)) = _
  rw [forceP_eq]; rfl
/- appending to nothing -/
theorem sl0_app {G : Roms} {H : Heap} {n id z bs : Nat} {w : V} {NS : LLV} {k : KV} (hw : elems w G H z = some NS) (hn : NS ≠ []) (hr : NS.length * bs ≤ 140737488355328)
    (hk : ∀ v' H', Gr G H' n z v' NS → (∀ j, j < n → T.get H' j = T.get H j) → (∀ j, v'.sid = some j → j < n + 1) → k v' H' (n + 1)) : appV z bs (.sl id 0 0 0 z) w G H n k := by
  unfold appV
  rw [hw, s_onO]
  have e0 : appE (.sl id 0 0 0 z) G z bs NS H n k = Bool.rec (motive := fun _ => Prop) (onO (elemsB H id z 0 0) fun OS => appNew z bs OS NS H n k) (onO (T.get H id) fun b => appIn id 0 0 0 z (0 + NS.length) NS H n k b) (Nat.ble (0 + NS.length) 0) := by
    show onB (Nat.beq z z) (forceP (Nat.add 0 (len NS)) fun need => Bool.rec (motive := fun _ => Prop) (onO (elemsB H id z 0 0) fun OS => appNew z bs OS NS H n k) (onO (T.get H id) fun b => appIn id 0 0 0 z need NS H n k b) (Nat.ble need 0)) = _
    rw [beq_self', s_onB, forceP_eq, len_eq]; rfl
  rw [e0]
  have hl : 0 < NS.length := List.length_pos_iff.2 hn
  rw [show Nat.ble (0 + NS.length) 0 = false by rw [Bool.eq_false_iff]; intro hc; rw [Nat.ble_eq] at hc; omega]
  show onO (some []) (fun OS => appNew z bs OS NS H n k)
  rw [s_onO]
  show forceP (Nat.add (len ([] : LLV)) (len NS)) (fun need => onB (roomOk need bs) (forceP n fun n => k (.gsl n 0 need z) (T.set H n (.arr z need (setEs NS (len ([] : LLV)) (setEs [] 0 .e)))) (Nat.succ n)))
  rw [forceP_eq, forceP_eq, len_eq, len_eq, show roomOk (Nat.add ([] : LLV).length NS.length) bs = true from roomOk_of (by show (0 + NS.length) * bs ≤ _; rw [Nat.zero_add]; exact hr), s_onB]
  have e : Nat.add ([] : LLV).length NS.length = NS.length := Nat.zero_add _
  rw [e]
  refine hk _ _ (.gsl (LS := NS) (T.get_set ..) (Nat.le_refl _) (fun i L hi => ?_) (Nat.le_refl _)) (fun j hj => T.get_set_ne _ _ (by omega)) (fun j hj => by cases hj; omega)
  show T.get (setEs NS 0 .e) i = some L
  have hlt := (List.getElem?_eq_some_iff.1 hi).1
  rw [setEs_get, if_pos ⟨Nat.zero_le _, by omega⟩]; exact hi
structure Img where
  i : Nat
  t : Nat
  a : Nat
  b : Nat
  f : Nat
  v : V
abbrev Img.At (G : Roms) (H : Heap) (n : Nat) (x : Img) (fs : Tab) : Prop := ImgAt G H n x.i x.t x.a x.b x.f x.v fs
/- the names of an image -/
theorem Names_c {G : Roms} {H : Heap} {n i t a b fm : Nat} {vn : V} {fs : Tab} {ss : List St} (h : ImgAt G H n i t a b fm vn fs) (hn : El G H vn 1 (strs ss)) (hs : ss.length ≤ 1000) {k : KV}
    (hk : ∀ v H' n', Kp H n H' n' → El G H' v 1 (strs ss) → Lo v n' → k v H' n') : Runs F G n_link_Image_Names [.ptr i 0] H n k := by
  refine runs_s (s := ar1 (s_link_Image_Names lfp G)) at_link_Image_Names (by obtain ⟨h, o⟩ := si_link_Image_Names lfp_ok G; rw [at_link_Image_Names] at h; cases h; exact o) ?_
  show s_link_Image_Names lfp G (Runs F G) (.ptr i 0) H n k
  delta s_link_Image_Names
  simp only [eq_pn, go_sem, Nat.reduceAdd, ld1_one (off := 2) h.at' (v := vn) rfl]
  refine (Gr.nil (G := G) (H := H) (m := n) (z := 1)).app (Nat.le_refl _) (fun id h => by cases h) hn.2 (by rw [strs_len]; simp; omega) ?_ ?_
  · intro v' H' hg hsame hlo
    exact hk _ _ _ ⟨by omega, fun id hid => hsame id hid (fun h => by cases h)⟩ (hg.el (by omega)) hlo
  · intro e
    have : ss = [] := by simpa [strs] using e
    subst this
    exact hk _ _ _ (Kp.refl _ _) ⟨rfl, rfl⟩ Lo_nil
end Go.RL

/- Contracts, on: are two files the same: where they are. -/
namespace Go.RL
open Go.Eng
set_option maxRecDepth 100000
theorem ks (s : St) : CK.eq .str s.v s.v = some true := by rw [keq_s]; simp
theorem kb (b : Bool) : CK.eq .bool (.bool b) (.bool b) = some true := by rw [keq_b]; simp
theorem ki (a : Int) : CK.eq .int (.int .i64 a 0) (.int .i64 a 0) = some true := by
  have h := neq_self a
  show some (ieq a a) = some true
  rw [ieq_eq]; simp
theorem veq1 {k : CK} {ks : List CK} {x : V} {xs : LV} (h : k.eq x x = some true) (h2 : veqL ks xs xs = some true) : veqL (k :: ks) (x :: xs) (x :: xs) = some true := veqL_cons.2 ⟨true, true, h, h2, rfl⟩
theorem ne_self {ks : List CK} {L : LV} (h : veqL ks L L = some true) : eqV (.agg ks) true (.agg L) (.agg L) = some (.bool false) := by
  show ofB (bbind (veqL ks L L) fun b => some (bnot b)) = _
  rw [h]; rfl
theorem ne_fld (f : Fld) : eqV (.agg [.str, .str, .bool]) true (.agg f.cells) (.agg f.cells) = some (.bool false) := ne_self (veq1 (ks _) (veq1 (ks _) (veq1 (kb _) rfl)))
theorem ne_pf (f : PF) : eqV (.agg [.str, .str, .bool, .str]) true (.agg f.cells) (.agg f.cells) = some (.bool false) := ne_self (veq1 (ks _) (veq1 (ks _) (veq1 (kb _) (veq1 (ks _) rfl))))
theorem ne_ins (f : Ins) : eqV (.agg [.int, .int]) true (.agg f.cells) (.agg f.cells) = some (.bool false) := ne_self (veq1 (ki _) (veq1 (ki _) rfl))
theorem ne_tyc (f : Ty) : eqV (.agg [.str, .bool]) true (.agg f.cells) (.agg f.cells) = some (.bool false) := ne_self (veq1 (ks _) (veq1 (kb _) rfl))
theorem ne_ss (s : St) : eqV (.one .str) true s.v s.v = some (.bool false) := by
  show eqV (.one .str) true (.str s.1 s.2) (.str s.1 s.2) = _
  rw [ne_s]; simp
theorem EqVars_c {G : Roms} {v w : V} {fs : List Fld} {H : Heap} {n : Nat} {k : KV} (h : FldsAt G H n v fs) (h2 : FldsAt G H n w fs) (hk : k (.bool true) H n) :
    Runs F G n_slices_Equal_ast_Var_ast_Var [v, w] H n k := by
  refine runs_s (s := ar2 (s_slices_Equal_ast_Var_ast_Var lfp G)) at_slices_Equal_ast_Var_ast_Var (by obtain ⟨h, o⟩ := si_slices_Equal_ast_Var_ast_Var lfp_ok G; rw [at_slices_Equal_ast_Var_ast_Var] at h; cases h; exact o) ?_
  show s_slices_Equal_ast_Var_ast_Var lfp G (Runs F G) v w H n k
  delta s_slices_Equal_ast_Var_ast_Var
  have hbig := h.lt
  simp only [go_sem, h.len, h2.len, neq_self]
  refine lfp_range (N := fs.length) (J := fun j q => q = (v, w, .int .i64 (.ofNat fs.length) 0, .int .i64 (.ofNat j) 0, H, n)) ?_ ?_ rfl
  · rintro I j q hlt rfl ih
    show s_slices_Equal_ast_Var_ast_Var_l6 lfp G (Runs F G) k I v w (.int .i64 (.ofNat fs.length) 0) (.int .i64 (.ofNat j) 0) H n
    delta s_slices_Equal_ast_Var_ast_Var_l6
    obtain ⟨p, hp, hld⟩ := h.at hlt
    obtain ⟨p2, hp2, hld2⟩ := h2.at hlt
    simp only [go_sem, lss_n, hlt, decide_true, hp, hp2, ldn_of hld, ldn_of hld2, ne_fld, add_i (show j + 1 < 9223372036854775808 by unfold big at hbig; omega)]
    exact ih _ rfl
  · rintro I q rfl
    show s_slices_Equal_ast_Var_ast_Var_l6 lfp G (Runs F G) k I v w (.int .i64 (.ofNat fs.length) 0) (.int .i64 (.ofNat fs.length) 0) H n
    delta s_slices_Equal_ast_Var_ast_Var_l6
    simp only [go_sem, lss_n, Nat.lt_irrefl, decide_false]
    delta s_slices_Equal_ast_Var_ast_Var_j4
    exact hk
theorem sameT_refl' : ∀ l : List Ty, sameT l l = true
  | [] => rfl
  | a :: l => by unfold sameT Ty.is; rw [sameT_refl' l]; simp
theorem same_refl' (m : Meth) : m.same m = true := by unfold Meth.same Ty.is; rw [sameT_refl']; simp
theorem EqSigs_c {G : Roms} {v w : V} {ms : List Meth} {ws us : List V} {H : Heap} {n : Nat} {k : KV} (h : MethsAt G H n v ms ws) (h2 : MethsAt G H n w ms us) (hk : ∀ H' n', Kp H n H' n' → k (.bool true) H' n') :
    Runs F G n_slices_EqualFunc_face_Sig_face_Sig_face_Sig_face_Sig [v, w, .fn 45 [] []] H n k := by
  refine runs_s (s := ar3 (s_slices_EqualFunc_face_Sig_face_Sig_face_Sig_face_Sig lfp G)) at_slices_EqualFunc_face_Sig_face_Sig_face_Sig_face_Sig (by obtain ⟨h, o⟩ := si_slices_EqualFunc_face_Sig_face_Sig_face_Sig_face_Sig lfp_ok G; rw [at_slices_EqualFunc_face_Sig_face_Sig_face_Sig_face_Sig] at h; cases h; exact o) ?_
  show s_slices_EqualFunc_face_Sig_face_Sig_face_Sig_face_Sig lfp G (Runs F G) v w (.fn 45 [] []) H n k
  delta s_slices_EqualFunc_face_Sig_face_Sig_face_Sig_face_Sig
  have hbig := h.lt
  simp only [go_sem, h.len', h2.len', neq_self]
  refine lfp_range (N := ms.length) (J := fun j q => ∃ H' n', q = (w, .fn 45 [] [], v, .int .i64 (.ofNat ms.length) 0, .int .i64 (.ofNat j) 0, H', n') ∧ Kp H n H' n') ?_ ?_ ⟨_, _, rfl, Kp.refl _ _⟩
  · rintro I j q hlt ⟨H3, n3, rfl, f3⟩ ih
    show s_slices_EqualFunc_face_Sig_face_Sig_face_Sig_face_Sig_l6 lfp G (Runs F G) k I w (.fn 45 [] []) v (.int .i64 (.ofNat ms.length) 0) (.int .i64 (.ofNat j) 0) H3 n3
    delta s_slices_EqualFunc_face_Sig_face_Sig_face_Sig_face_Sig_l6
    obtain ⟨p, x, hp, hld, hx⟩ := (h.kp f3).at hlt
    obtain ⟨m, hm⟩ : ∃ m, m = ms[j] := ⟨_, rfl⟩
    rw [← hm] at hld hx
    unfold Meth.cells at hld
    simp only [go_sem, lss_n, hlt, decide_true, hp, ldn_of hld, Nat.reduceAdd]
    rw [T.set_set]
    have f4 : Kp H3 n3 (T.set H3 n3 (one [m.nm.v, .bool m.st, x, m.ret.nm.v, .bool m.ret.arr])) (n3 + 1) := (Kp.refl _ _).new _ (Nat.le_refl _) (by omega)
    have g4 := T.get_set H3 n3 (one [m.nm.v, .bool m.st, x, m.ret.nm.v, .bool m.ret.arr])
    generalize T.set H3 n3 (one [m.nm.v, .bool m.st, x, m.ret.nm.v, .bool m.ret.arr]) = H4 at f4 g4
    obtain ⟨p2, y, hp2, hld2, hy⟩ := ((h2.kp f3).kp f4).at hlt
    rw [← hm] at hld2 hy
    unfold Meth.cells at hld2
    simp only [go_sem, hp2, ldn_of hld2, Nat.reduceAdd]
    rw [T.set_set]
    have f5 : Kp H4 (n3 + 1) (T.set H4 (n3 + 1) (one [m.nm.v, .bool m.st, y, m.ret.nm.v, .bool m.ret.arr])) (n3 + 1 + 1) := (Kp.refl _ _).new _ (Nat.le_refl _) (by omega)
    have g5 := T.get_set H4 (n3 + 1) (one [m.nm.v, .bool m.st, y, m.ret.nm.v, .bool m.ret.arr])
    generalize T.set H4 (n3 + 1) (one [m.nm.v, .bool m.st, y, m.ret.nm.v, .bool m.ret.arr]) = H5 at f5 g5
    rw [ldn_all (m := 5) g4 (by omega) rfl, s_onV]
    show Runs F G n_face_Sig_Same [.agg [m.nm.v, .bool m.st, x, m.ret.nm.v, .bool m.ret.arr], .agg [m.nm.v, .bool m.st, y, m.ret.nm.v, .bool m.ret.arr]] H5 (n3 + 1 + 1) _
    refine SigSame_c (a := m) (b := m) ⟨x, rfl, (hx.kp f4).kp f5⟩ ⟨y, rfl, hy.kp f5⟩ fun H6 n6 f6 => ?_
    rw [same_refl']
    simp only [go_sem, s_notB, Bool.not_true, add_i (show j + 1 < 9223372036854775808 by unfold big at hbig; omega)]
    exact ih _ ⟨_, _, rfl, f3.trans (f4.trans (f5.trans f6))⟩
  · rintro I q ⟨H3, n3, rfl, f3⟩
    show s_slices_EqualFunc_face_Sig_face_Sig_face_Sig_face_Sig_l6 lfp G (Runs F G) k I w (.fn 45 [] []) v (.int .i64 (.ofNat ms.length) 0) (.int .i64 (.ofNat ms.length) 0) H3 n3
    delta s_slices_EqualFunc_face_Sig_face_Sig_face_Sig_face_Sig_l6
    simp only [go_sem, lss_n, Nat.lt_irrefl, decide_false]
    delta s_slices_EqualFunc_face_Sig_face_Sig_face_Sig_face_Sig_j4
    exact hk _ _ f3
theorem FaceSame_c {G : Roms} {v w : V} {c : Fc} {H : Heap} {n : Nat} {k : KV} (h : FaceV G H n v c) (h2 : FaceV G H n w c) (hk : ∀ H' n', Kp H n H' n' → k (.bool true) H' n') :
    Runs F G n_face_Face_Same [v, w] H n k := by
  refine runs_s (s := ar2 (s_face_Face_Same lfp G)) at_face_Face_Same (by obtain ⟨h, o⟩ := si_face_Face_Same lfp_ok G; rw [at_face_Face_Same] at h; cases h; exact o) ?_
  show s_face_Face_Same lfp G (Runs F G) v w H n k
  delta s_face_Face_Same
  obtain ⟨vf, vm, ws, h, rfl⟩ := h
  obtain ⟨wf, wm, us, h2, rfl⟩ := h2
  refine a_boxA fun H1 f1 g1 => ?_
  refine a_boxA fun H2 f2 g2 => ?_
  have g1 := f2.get g1 (by omega)
  have f3 := f1.trans f2
  have e1 : eqV (.one .str) false c.nm.v c.nm.v = some (.bool true) := by show eqV (.one .str) false (.str c.nm.1 c.nm.2) (.str c.nm.1 c.nm.2) = _; rw [eq_s]; simp
  have e2 : eqV (.one .str) false c.sup.v c.sup.v = some (.bool true) := by show eqV (.one .str) false (.str c.sup.1 c.sup.2) (.str c.sup.1 c.sup.2) = _; rw [eq_s]; simp
  simp only [go_sem, Nat.reduceAdd, ld1_one (off := 0) g1 (v := c.nm.v) rfl, ld1_one (off := 0) g2 (v := c.nm.v) rfl, ld1_one (off := 1) g1 (v := c.sup.v) rfl, ld1_one (off := 1) g2 (v := c.sup.v) rfl,
    ld1_one (off := 2) g1 (v := vf) rfl, ld1_one (off := 2) g2 (v := wf) rfl, e1, e2]
  refine EqVars_c (h.fs.kp f3) (h2.fs.kp f3) ?_
  simp only [go_sem, Nat.reduceAdd, ld1_one (off := 3) g1 (v := vm) rfl, ld1_one (off := 3) g2 (v := wm) rfl]
  refine EqSigs_c (h.ms.kp f3) (h2.ms.kp f3) fun H4 n4 f4 => ?_
  exact hk _ _ (f3.trans f4)
end Go.RL

/- Contracts, on: two files that are the same, part by part. -/
namespace Go.RL
open Go.Eng
set_option maxRecDepth 100000
section
variable {G : Roms} {H : Heap} {n e d : Nat} {p : Pool} {bs : List Bd} {c0 c1 c2 c3 v0 v1 v2 v3 v4 vb d0 d1 d2 d3 w0 w1 w2 w3 w4 wb : V} {ws us bws bus : List V} {k : KV}
theorem SameBodies_c (hb : BodiesAt G H n vb bs bws) (hb2 : BodiesAt G H n wb bs bus) (he : e < n) (hd : d < n)
    (ge : T.get H e = some (one [c0, c1, c2, c3, v0, v1, v2, v3, v4, vb])) (gd : T.get H d = some (one [d0, d1, d2, d3, w0, w1, w2, w3, w4, wb])) (hk : ∀ H' n', Kp H n H' n' → k (.bool true) H' n') :
    s_kilnlaw12_Same_j71 lfp G (Runs F G) k (.ptr e 0) (.ptr d 0) H n := by
  delta s_kilnlaw12_Same_j71
  have hbig := hb.lt
  have l4 : lenV vb = some (.int .i64 (.ofNat bs.length) 0) := by rw [hb.el.len, List.length_zipWith, hb.len, Nat.min_self]
  simp only [go_sem, Nat.reduceAdd, ld1_one (off := 9) ge (v := vb) rfl, l4]
  refine lfp_range (N := bs.length) (J := fun j q => ∃ H' n', q = (.ptr d 0, vb, .int .i64 (.ofNat bs.length) 0, .int .i64 (.ofNat j) 0, H', n') ∧ Kp H n H' n') ?_ ?_ ⟨H, _, rfl, Kp.refl _ _⟩
  · rintro I j q hlt ⟨H3, n3, rfl, f3⟩ ih
    show s_kilnlaw12_Same_l76 lfp G (Runs F G) k I (.ptr d 0) vb (.int .i64 (.ofNat bs.length) 0) (.int .i64 (.ofNat j) 0) H3 n3
    delta s_kilnlaw12_Same_l76
    have h3n := f3.le
    have hb3 := hb.kp f3
    have hw : j < bws.length := by rw [hb.len]; exact hlt
    have hw2 : j < bus.length := by rw [hb2.len]; exact hlt
    obtain ⟨q, hp', hld⟩ := hb3.el.at (i := j) (c := bs[j].cells bws[j]) (by rw [List.getElem?_zipWith]; simp [hlt, hw])
    have hc := hb3.at' j _ _ (List.getElem?_eq_getElem hlt) (List.getElem?_eq_getElem hw)
    obtain ⟨m, hm⟩ : ∃ m, m = bs[j] := ⟨_, rfl⟩
    rw [← hm] at hld hc
    generalize bws[j] = w at hld hc
    unfold Bd.cells at hld
    simp only [go_sem, Nat.reduceAdd, lss_n, hlt, decide_true, hp', ldn_of hld]
    rw [T.set_set]
    have f4 : Kp H3 n3 (T.set H3 n3 (one [.int .i64 m.locals 0, .int .i64 m.stack 0, w])) (n3 + 1) := (Kp.refl _ _).new _ (Nat.le_refl _) (by omega)
    have g4 := T.get_set H3 n3 (one [.int .i64 m.locals 0, .int .i64 m.stack 0, w])
    generalize T.set H3 n3 (one [.int .i64 m.locals 0, .int .i64 m.stack 0, w]) = H4 at f4 g4
    have f34 := f3.trans f4
    have hb4 := hb2.kp f34
    obtain ⟨q2, hp2, hld2⟩ := hb4.el.at (i := j) (c := bs[j].cells bus[j]) (by rw [List.getElem?_zipWith]; simp [hlt, hw2])
    have hc2 := hb4.at' j _ _ (List.getElem?_eq_getElem hlt) (List.getElem?_eq_getElem hw2)
    rw [← hm] at hld2 hc2
    generalize bus[j] = w2 at hld2 hc2
    unfold Bd.cells at hld2
    rw [ld1_one (off := 9) (f34.get gd hd) (v := wb) rfl, s_onV]
    simp only [go_sem, hp2, ldn_of hld2, Nat.reduceAdd]
    rw [T.set_set]
    have f5 : Kp H4 (n3 + 1) (T.set H4 (n3 + 1) (one [.int .i64 m.locals 0, .int .i64 m.stack 0, w2])) (n3 + 1 + 1) := (Kp.refl _ _).new _ (Nat.le_refl _) (by omega)
    have g5 := T.get_set H4 (n3 + 1) (one [.int .i64 m.locals 0, .int .i64 m.stack 0, w2])
    generalize T.set H4 (n3 + 1) (one [.int .i64 m.locals 0, .int .i64 m.stack 0, w2]) = H5 at f5 g5
    have hcc := (hc.kp f4).kp f5
    have hcc2 := hc2.kp f5
    have g45 := f5.get g4 (by omega)
    have lw : lenV w = some (.int .i64 (.ofNat m.code.length) 0) := by rw [hcc.el.len, List.length_map]
    have lw2 : lenV w2 = some (.int .i64 (.ofNat m.code.length) 0) := by rw [hcc2.el.len, List.length_map]
    have hbig2 := hcc.lt
    simp only [go_sem, Nat.reduceAdd, ld1_one (off := 0) g4 (v := .int .i64 m.locals 0) rfl, ld1_one (off := 0) g5 (v := .int .i64 m.locals 0) rfl, ld1_one (off := 1) g45 (v := .int .i64 m.stack 0) rfl, ld1_one (off := 1) g5 (v := .int .i64 m.stack 0) rfl,
      ld1_one (off := 0) g45 (v := .int .i64 m.locals 0) rfl, ld1_one (off := 1) g4 (v := .int .i64 m.stack 0) rfl, ld1_one (off := 2) g4 (v := w) rfl, ld1_one (off := 2) g45 (v := w) rfl, ld1_one (off := 2) g5 (v := w2) rfl, lw, lw2, neq_self]
    refine lfp_range (N := m.code.length) (J := fun i q => q = (V.ptr d 0, V.ptr n3 0, V.ptr (n3 + 1) 0, vb, V.int .i64 (.ofNat bs.length) 0, V.int .i64 (.ofNat j) 0, V.int .i64 (.ofNat m.code.length) 0, V.int .i64 (.ofNat i) 0, H5, n3 + 1 + 1)) ?_ ?_ rfl
    · rintro I2 i q hlt2 rfl ih2
      show s_kilnlaw12_Same_l112 lfp G (Runs F G) k I I2 (.ptr d 0) (.ptr n3 0) (.ptr (n3 + 1) 0) vb (.int .i64 (.ofNat bs.length) 0) (.int .i64 (.ofNat j) 0) (.int .i64 (.ofNat m.code.length) 0) (.int .i64 (.ofNat i) 0) H5 (n3 + 1 + 1)
      delta s_kilnlaw12_Same_l112
      obtain ⟨r, hr, hlr⟩ := hcc.el.at (i := i) (c := m.code[i].cells) (by simp [hlt2])
      obtain ⟨r2, hr2, hlr2⟩ := hcc2.el.at (i := i) (c := m.code[i].cells) (by simp [hlt2])
      generalize m.code[i] = s at hlr hlr2
      simp only [go_sem, Nat.reduceAdd, lss_n, hlt2, decide_true, ld1_one (off := 2) g45 (v := w) rfl, ld1_one (off := 2) g5 (v := w2) rfl, hr, hr2, ldn_of hlr, ldn_of hlr2, ne_ins, add_i (show i + 1 < 9223372036854775808 by unfold big at hbig2; omega)]
      exact ih2 _ rfl
    · rintro I2 q rfl
      show s_kilnlaw12_Same_l112 lfp G (Runs F G) k I I2 (.ptr d 0) (.ptr n3 0) (.ptr (n3 + 1) 0) vb (.int .i64 (.ofNat bs.length) 0) (.int .i64 (.ofNat j) 0) (.int .i64 (.ofNat m.code.length) 0) (.int .i64 (.ofNat m.code.length) 0) H5 (n3 + 1 + 1)
      delta s_kilnlaw12_Same_l112
      simp only [go_sem, lss_n, Nat.lt_irrefl, decide_false]
      delta s_kilnlaw12_Same_j78
      simp only [go_sem, add_i (show j + 1 < 9223372036854775808 by unfold big at hbig; omega)]
      exact ih _ ⟨_, _, rfl, f34.trans f5⟩
  · rintro I q ⟨H3, n3, rfl, f3⟩
    show s_kilnlaw12_Same_l76 lfp G (Runs F G) k I (.ptr d 0) vb (.int .i64 (.ofNat bs.length) 0) (.int .i64 (.ofNat bs.length) 0) H3 n3
    delta s_kilnlaw12_Same_l76
    simp only [go_sem, lss_n, Nat.lt_irrefl, decide_false]
    delta s_kilnlaw12_Same_j72
    exact hk _ _ f3
theorem SameMeths_c (hG : GSub G) (h : PoolAt G H n p v0 v1 v2 v3 v4 ws) (h2 : PoolAt G H n p w0 w1 w2 w3 w4 us) (hb : BodiesAt G H n vb bs bws) (hb2 : BodiesAt G H n wb bs bus) (he : e < n) (hd : d < n)
    (ge : T.get H e = some (one [c0, c1, c2, c3, v0, v1, v2, v3, v4, vb])) (gd : T.get H d = some (one [d0, d1, d2, d3, w0, w1, w2, w3, w4, wb])) (hk : ∀ H' n', Kp H n H' n' → k (.bool true) H' n') :
    s_kilnlaw12_Same_j70 lfp G (Runs F G) k (.ptr e 0) (.ptr d 0) H n := by
  delta s_kilnlaw12_Same_j70
  have hbig := h.b4
  have l4 : lenV v4 = some (.int .i64 (.ofNat p.meths.length) 0) := by rw [h.e4.len, List.length_zipWith, h.len4, Nat.min_self]
  simp only [go_sem, Nat.reduceAdd, ld1_one (off := 8) ge (v := v4) rfl, l4]
  refine lfp_range (N := p.meths.length) (J := fun j q => ∃ H' n', q = (.ptr e 0, .ptr d 0, .int .i64 (.ofNat p.meths.length) 0, .int .i64 (.ofNat j) 0, H', n') ∧ Kp H n H' n') ?_ ?_ ⟨H, _, rfl, Kp.refl _ _⟩
  · rintro I j q hlt ⟨H3, n3, rfl, f3⟩ ih
    show s_kilnlaw12_Same_l128 lfp G (Runs F G) k I (.ptr e 0) (.ptr d 0) (.int .i64 (.ofNat p.meths.length) 0) (.int .i64 (.ofNat j) 0) H3 n3
    delta s_kilnlaw12_Same_l128
    have h3 := h.kp f3
    have h23 := h2.kp f3
    have ge3 := f3.get ge he
    have gd3 := f3.get gd hd
    have hw : j < ws.length := by rw [h.len4]; exact hlt
    have hw2 : j < us.length := by rw [h2.len4]; exact hlt
    obtain ⟨q, hp, hld⟩ := h3.e4.at (i := j) (c := p.meths[j].cells ws[j]) (by rw [List.getElem?_zipWith]; simp [hlt, hw])
    obtain ⟨q2, hp2, hld2⟩ := h23.e4.at (i := j) (c := p.meths[j].cells us[j]) (by rw [List.getElem?_zipWith]; simp [hlt, hw2])
    have hty := h3.at4 j _ _ (List.getElem?_eq_getElem hlt) (List.getElem?_eq_getElem hw)
    have hty2 := h23.at4 j _ _ (List.getElem?_eq_getElem hlt) (List.getElem?_eq_getElem hw2)
    generalize p.meths[j] = m at hld hld2 hty hty2
    generalize ws[j] = x at hld hty
    generalize us[j] = y at hld2 hty2
    obtain ⟨q', hq', hl'⟩ := ldP_sub1 hG (o := 5) (x := m.own.v) hld rfl rfl
    obtain ⟨q2', hq2', hl2'⟩ := ldP_sub1 hG (o := 5) (x := m.own.v) hld2 rfl rfl
    obtain ⟨r, hr, hlr⟩ := ldP_sub hG (o := 0) (m := 5) hld rfl (by omega) (by omega)
    obtain ⟨r2, hr2, hlr2⟩ := ldP_sub hG (o := 0) (m := 5) hld2 rfl (by omega) (by omega)
    have hlr : ldP r G H3 5 = some (m.m.cells x) := hlr
    have hlr2 : ldP r2 G H3 5 = some (m.m.cells y) := hlr2
    simp only [go_sem, Nat.reduceAdd, lss_n, hlt, decide_true, ld1_one (off := 8) ge3 (v := v4) rfl, ld1_one (off := 8) gd3 (v := w4) rfl, hp, hp2, hq', hl', hq2', hl2', ne_ss, hr, hlr, hr2, hlr2, ldn_of hlr, ldn_of hlr2]
    refine SigSame_c (a := m.m) (b := m.m) ⟨x, rfl, hty⟩ ⟨y, rfl, hty2⟩ fun H6 n6 f6 => ?_
    rw [same_refl']
    simp only [go_sem, s_notB, Bool.not_true, add_i (show j + 1 < 9223372036854775808 by unfold big at hbig; omega)]
    exact ih _ ⟨_, _, rfl, f3.trans f6⟩
  · rintro I q ⟨H3, n3, rfl, f3⟩
    show s_kilnlaw12_Same_l128 lfp G (Runs F G) k I (.ptr e 0) (.ptr d 0) (.int .i64 (.ofNat p.meths.length) 0) (.int .i64 (.ofNat p.meths.length) 0) H3 n3
    delta s_kilnlaw12_Same_l128
    have := f3.le
    simp only [go_sem, lss_n, Nat.lt_irrefl, decide_false]
    exact SameBodies_c (hb.kp f3) (hb2.kp f3) (by omega) (by omega) (f3.get ge he) (f3.get gd hd) fun H' n' f => hk _ _ (f3.trans f)
theorem SameFlds_c (hG : GSub G) (h : PoolAt G H n p v0 v1 v2 v3 v4 ws) (h2 : PoolAt G H n p w0 w1 w2 w3 w4 us) (hb : BodiesAt G H n vb bs bws) (hb2 : BodiesAt G H n wb bs bus) (he : e < n) (hd : d < n)
    (ge : T.get H e = some (one [c0, c1, c2, c3, v0, v1, v2, v3, v4, vb])) (gd : T.get H d = some (one [d0, d1, d2, d3, w0, w1, w2, w3, w4, wb])) (hk : ∀ H' n', Kp H n H' n' → k (.bool true) H' n') :
    s_kilnlaw12_Same_j69 lfp G (Runs F G) k (.ptr e 0) (.ptr d 0) H n := by
  delta s_kilnlaw12_Same_j69
  have hbig := h.b3
  have lv : lenV v3 = some (.int .i64 (.ofNat p.fields.length) 0) := by rw [h.e3.len, List.length_map]
  simp only [go_sem, Nat.reduceAdd, ld1_one (off := 7) ge (v := v3) rfl, lv]
  refine lfp_range (N := p.fields.length) (J := fun j q => q = (V.ptr e 0, V.ptr d 0, V.int .i64 (.ofNat p.fields.length) 0, V.int .i64 (.ofNat j) 0, H, n)) ?_ ?_ rfl
  · rintro I j q hlt rfl ih
    show s_kilnlaw12_Same_l165 lfp G (Runs F G) k I (.ptr e 0) (.ptr d 0) (.int .i64 (.ofNat p.fields.length) 0) (.int .i64 (.ofNat j) 0) H n
    delta s_kilnlaw12_Same_l165
    obtain ⟨q, hp, hld⟩ := h.e3.at (i := j) (c := p.fields[j].cells) (by simp [hlt])
    obtain ⟨q2, hp2, hld2⟩ := h2.e3.at (i := j) (c := p.fields[j].cells) (by simp [hlt])
    generalize p.fields[j] = m at hld hld2
    simp only [go_sem, Nat.reduceAdd, lss_n, hlt, decide_true, ld1_one (off := 7) ge (v := v3) rfl, ld1_one (off := 7) gd (v := w3) rfl, hp, hp2, ldn_of hld, ldn_of hld2, ne_pf, add_i (show j + 1 < 9223372036854775808 by unfold big at hbig; omega)]
    exact ih _ rfl
  · rintro I q rfl
    show s_kilnlaw12_Same_l165 lfp G (Runs F G) k I (.ptr e 0) (.ptr d 0) (.int .i64 (.ofNat p.fields.length) 0) (.int .i64 (.ofNat p.fields.length) 0) H n
    delta s_kilnlaw12_Same_l165
    simp only [go_sem, lss_n, Nat.lt_irrefl, decide_false]
    exact SameMeths_c hG h h2 hb hb2 he hd ge gd hk
theorem SameTys_c (hG : GSub G) (h : PoolAt G H n p v0 v1 v2 v3 v4 ws) (h2 : PoolAt G H n p w0 w1 w2 w3 w4 us) (hb : BodiesAt G H n vb bs bws) (hb2 : BodiesAt G H n wb bs bus) (he : e < n) (hd : d < n)
    (ge : T.get H e = some (one [c0, c1, c2, c3, v0, v1, v2, v3, v4, vb])) (gd : T.get H d = some (one [d0, d1, d2, d3, w0, w1, w2, w3, w4, wb])) (hk : ∀ H' n', Kp H n H' n' → k (.bool true) H' n') :
    s_kilnlaw12_Same_j68 lfp G (Runs F G) k (.ptr e 0) (.ptr d 0) H n := by
  delta s_kilnlaw12_Same_j68
  have hbig := h.t2.lt
  have lv : lenV v2 = some (.int .i64 (.ofNat p.types.length) 0) := by exact h.t2.len
  simp only [go_sem, Nat.reduceAdd, ld1_one (off := 6) ge (v := v2) rfl, lv]
  refine lfp_range (N := p.types.length) (J := fun j q => q = (V.ptr e 0, V.ptr d 0, V.int .i64 (.ofNat p.types.length) 0, V.int .i64 (.ofNat j) 0, H, n)) ?_ ?_ rfl
  · rintro I j q hlt rfl ih
    show s_kilnlaw12_Same_l183 lfp G (Runs F G) k I (.ptr e 0) (.ptr d 0) (.int .i64 (.ofNat p.types.length) 0) (.int .i64 (.ofNat j) 0) H n
    delta s_kilnlaw12_Same_l183
    obtain ⟨q, hp, hld⟩ := h.t2.el.at (i := j) (c := p.types[j].cells) (tys_at hlt)
    obtain ⟨q2, hp2, hld2⟩ := h2.t2.el.at (i := j) (c := p.types[j].cells) (tys_at hlt)
    generalize p.types[j] = m at hld hld2
    simp only [go_sem, Nat.reduceAdd, lss_n, hlt, decide_true, ld1_one (off := 6) ge (v := v2) rfl, ld1_one (off := 6) gd (v := w2) rfl, hp, hp2, ldn_of hld, ldn_of hld2, ne_tyc, add_i (show j + 1 < 9223372036854775808 by unfold big at hbig; omega)]
    exact ih _ rfl
  · rintro I q rfl
    show s_kilnlaw12_Same_l183 lfp G (Runs F G) k I (.ptr e 0) (.ptr d 0) (.int .i64 (.ofNat p.types.length) 0) (.int .i64 (.ofNat p.types.length) 0) H n
    delta s_kilnlaw12_Same_l183
    simp only [go_sem, lss_n, Nat.lt_irrefl, decide_false]
    exact SameFlds_c hG h h2 hb hb2 he hd ge gd hk
theorem SameNames_c (hG : GSub G) (h : PoolAt G H n p v0 v1 v2 v3 v4 ws) (h2 : PoolAt G H n p w0 w1 w2 w3 w4 us) (hb : BodiesAt G H n vb bs bws) (hb2 : BodiesAt G H n wb bs bus) (he : e < n) (hd : d < n)
    (ge : T.get H e = some (one [c0, c1, c2, c3, v0, v1, v2, v3, v4, vb])) (gd : T.get H d = some (one [d0, d1, d2, d3, w0, w1, w2, w3, w4, wb])) (hk : ∀ H' n', Kp H n H' n' → k (.bool true) H' n') :
    s_kilnlaw12_Same_j67 lfp G (Runs F G) k (.ptr e 0) (.ptr d 0) H n := by
  delta s_kilnlaw12_Same_j67
  have hbig := h.b1
  have lv : lenV v1 = some (.int .i64 (.ofNat p.names.length) 0) := by rw [h.e1.len, strs_len]
  simp only [go_sem, Nat.reduceAdd, ld1_one (off := 5) ge (v := v1) rfl, lv]
  refine lfp_range (N := p.names.length) (J := fun j q => q = (V.ptr e 0, V.ptr d 0, V.int .i64 (.ofNat p.names.length) 0, V.int .i64 (.ofNat j) 0, H, n)) ?_ ?_ rfl
  · rintro I j q hlt rfl ih
    show s_kilnlaw12_Same_l201 lfp G (Runs F G) k I (.ptr e 0) (.ptr d 0) (.int .i64 (.ofNat p.names.length) 0) (.int .i64 (.ofNat j) 0) H n
    delta s_kilnlaw12_Same_l201
    obtain ⟨q, hp, hld⟩ := h.e1.at (i := j) (c := [p.names[j].v]) (strs_at hlt)
    obtain ⟨q2, hp2, hld2⟩ := h2.e1.at (i := j) (c := [p.names[j].v]) (strs_at hlt)
    generalize p.names[j] = m at hld hld2
    simp only [go_sem, Nat.reduceAdd, lss_n, hlt, decide_true, ld1_one (off := 5) ge (v := v1) rfl, ld1_one (off := 5) gd (v := w1) rfl, hp, hp2, ld1_of hld, ld1_of hld2, ne_ss, add_i (show j + 1 < 9223372036854775808 by unfold big at hbig; omega)]
    exact ih _ rfl
  · rintro I q rfl
    show s_kilnlaw12_Same_l201 lfp G (Runs F G) k I (.ptr e 0) (.ptr d 0) (.int .i64 (.ofNat p.names.length) 0) (.int .i64 (.ofNat p.names.length) 0) H n
    delta s_kilnlaw12_Same_l201
    simp only [go_sem, lss_n, Nat.lt_irrefl, decide_false]
    exact SameTys_c hG h h2 hb hb2 he hd ge gd hk
theorem SameNums_c (hG : GSub G) (h : PoolAt G H n p v0 v1 v2 v3 v4 ws) (h2 : PoolAt G H n p w0 w1 w2 w3 w4 us) (hb : BodiesAt G H n vb bs bws) (hb2 : BodiesAt G H n wb bs bus) (he : e < n) (hd : d < n)
    (ge : T.get H e = some (one [c0, c1, c2, c3, v0, v1, v2, v3, v4, vb])) (gd : T.get H d = some (one [d0, d1, d2, d3, w0, w1, w2, w3, w4, wb])) (hk : ∀ H' n', Kp H n H' n' → k (.bool true) H' n') :
    lfp (V × V × V × V × Heap × Nat) (s_kilnlaw12_Same_l219b lfp G (Runs F G) k) (.ptr e 0, .ptr d 0, .int .i64 (.ofNat p.nums.length) 0, .int .i64 (.ofNat 0) 0, H, n) := by
  have hbig := h.b0
  refine lfp_range (N := p.nums.length) (J := fun j q => q = (V.ptr e 0, V.ptr d 0, V.int .i64 (.ofNat p.nums.length) 0, V.int .i64 (.ofNat j) 0, H, n)) ?_ ?_ rfl
  · rintro I j q hlt rfl ih
    show s_kilnlaw12_Same_l219 lfp G (Runs F G) k I (.ptr e 0) (.ptr d 0) (.int .i64 (.ofNat p.nums.length) 0) (.int .i64 (.ofNat j) 0) H n
    delta s_kilnlaw12_Same_l219
    obtain ⟨q, hp, hld⟩ := h.e0.at (i := j) (c := [V.int .i64 p.nums[j] 0]) (by simp [hlt])
    obtain ⟨q2, hp2, hld2⟩ := h2.e0.at (i := j) (c := [V.int .i64 p.nums[j] 0]) (by simp [hlt])
    generalize p.nums[j] = m at hld hld2
    simp only [go_sem, Nat.reduceAdd, lss_n, hlt, decide_true, ld1_one (off := 4) ge (v := v0) rfl, ld1_one (off := 4) gd (v := w0) rfl, hp, hp2, ld1_of hld, ld1_of hld2, neq_self, add_i (show j + 1 < 9223372036854775808 by unfold big at hbig; omega)]
    exact ih _ rfl
  · rintro I q rfl
    show s_kilnlaw12_Same_l219 lfp G (Runs F G) k I (.ptr e 0) (.ptr d 0) (.int .i64 (.ofNat p.nums.length) 0) (.int .i64 (.ofNat p.nums.length) 0) H n
    delta s_kilnlaw12_Same_l219
    simp only [go_sem, lss_n, Nat.lt_irrefl, decide_false]
    exact SameNames_c hG h h2 hb hb2 he hd ge gd hk
end
theorem Same12_c {G : Roms} (hG : GSub G) {v w : V} {f : Fl} {H : Heap} {n : Nat} {k : KV} (h : FileV G H n v f) (h2 : FileV G H n w f) (hk : ∀ H' n', Kp H n H' n' → k (.bool true) H' n') :
    Runs F G n_kilnlaw12_Same [v, w] H n k := by
  refine runs_s (s := ar2 (s_kilnlaw12_Same lfp G)) at_kilnlaw12_Same (by obtain ⟨h, o⟩ := si_kilnlaw12_Same lfp_ok G; rw [at_kilnlaw12_Same] at h; cases h; exact o) ?_
  show s_kilnlaw12_Same lfp G (Runs F G) v w H n k
  delta s_kilnlaw12_Same
  obtain ⟨L, vf, vm, v0, v1, v2, v3, v4, vb, mws, ws, bws, h, rfl⟩ := h
  obtain ⟨rfl, hf, hp, hb⟩ := h
  obtain ⟨L, wf, wm, w0, w1, w2, w3, w4, wb, mus, us, bus, h2, rfl⟩ := h2
  obtain ⟨rfl, hf2, hp2, hb2⟩ := h2
  refine a_boxA fun H1 f1 g1 => ?_
  refine a_boxA fun H2 f2 g2 => ?_
  have g1 := f2.get g1 (by omega)
  have f3 := f1.trans f2
  rw [s_padd, s_onV, show ldnV 4 (.ptr n (0 + 0)) G H2 = some (.agg [f.face.nm.v, f.face.sup.v, vf, vm]) from ldn_one g1 (by omega) (by show 4 ≤ 10; omega), s_onV,
    s_padd, s_onV, show ldnV 4 (.ptr (n + 1) (0 + 0)) G H2 = some (.agg [f.face.nm.v, f.face.sup.v, wf, wm]) from ldn_one g2 (by omega) (by show 4 ≤ 10; omega), s_onV]
  refine FaceSame_c (c := f.face) ⟨vf, vm, mws, hf.kp f3, rfl⟩ ⟨wf, wm, mus, hf2.kp f3, rfl⟩ fun H4 n4 f4 => ?_
  have h4n := f4.le
  have g1 := f4.get g1 (by omega)
  have g2 := f4.get g2 (by omega)
  have f5 := f3.trans f4
  have hp := hp.kp f5
  have hp2 := hp2.kp f5
  have hb := hb.kp f5
  have hb2 := hb2.kp f5
  have l0 : lenV v0 = some (.int .i64 (.ofNat f.pool.nums.length) 0) := by rw [hp.e0.len, List.length_map]
  have m0 : lenV w0 = some (.int .i64 (.ofNat f.pool.nums.length) 0) := by rw [hp2.e0.len, List.length_map]
  have l1 : lenV v1 = some (.int .i64 (.ofNat f.pool.names.length) 0) := by rw [hp.e1.len, strs_len]
  have m1 : lenV w1 = some (.int .i64 (.ofNat f.pool.names.length) 0) := by rw [hp2.e1.len, strs_len]
  have l3 : lenV v3 = some (.int .i64 (.ofNat f.pool.fields.length) 0) := by rw [hp.e3.len, List.length_map]
  have m3 : lenV w3 = some (.int .i64 (.ofNat f.pool.fields.length) 0) := by rw [hp2.e3.len, List.length_map]
  have l4 : lenV v4 = some (.int .i64 (.ofNat f.pool.meths.length) 0) := by rw [hp.e4.len, List.length_zipWith, hp.len4, Nat.min_self]
  have m4 : lenV w4 = some (.int .i64 (.ofNat f.pool.meths.length) 0) := by rw [hp2.e4.len, List.length_zipWith, hp2.len4, Nat.min_self]
  have lb : lenV vb = some (.int .i64 (.ofNat f.bodies.length) 0) := by rw [hb.el.len, List.length_zipWith, hb.len, Nat.min_self]
  have mb : lenV wb = some (.int .i64 (.ofNat f.bodies.length) 0) := by rw [hb2.el.len, List.length_zipWith, hb2.len, Nat.min_self]
  simp only [go_sem, s_notB, Bool.not_true, Nat.reduceAdd, ld1_one (off := 4) g1 (v := v0) rfl, ld1_one (off := 4) g2 (v := w0) rfl, l0, m0, neq_self]
  simp only [go_sem, Nat.reduceAdd, ld1_one (off := 5) g1 (v := v1) rfl, ld1_one (off := 5) g2 (v := w1) rfl, l1, m1, neq_self]
  simp only [go_sem, Nat.reduceAdd, ld1_one (off := 6) g1 (v := v2) rfl, ld1_one (off := 6) g2 (v := w2) rfl, hp.t2.len, hp2.t2.len, neq_self]
  simp only [go_sem, Nat.reduceAdd, ld1_one (off := 7) g1 (v := v3) rfl, ld1_one (off := 7) g2 (v := w3) rfl, l3, m3, neq_self]
  simp only [go_sem, Nat.reduceAdd, ld1_one (off := 8) g1 (v := v4) rfl, ld1_one (off := 8) g2 (v := w4) rfl, l4, m4, neq_self]
  simp only [go_sem, Nat.reduceAdd, ld1_one (off := 9) g1 (v := vb) rfl, ld1_one (off := 9) g2 (v := wb) rfl, lb, mb, neq_self]
  exact SameNums_c hG hp hp2 hb hb2 (by omega) (by omega) g1 g2 fun H' n' f => hk _ _ (f5.trans f)
end Go.RL

/- Contracts, on: a class's file, a method's body; whose a method is, by the page. -/
namespace Go.RL
open Go.Eng
set_option maxRecDepth 100000
theorem FilesAt.look2 {G : Roms} {H : Heap} {n a : Nat} {fs : List (St × Fl)} (h : FilesAt G H n a fs) (s : St) : ∃ L : LV, lookV .str true (.agg zeroF) (.map a) s.v H = some (.tup [.agg L, .bool (lkp fs s).isSome]) ∧ L.length = 10 ∧
    (∀ f, lkp fs s = some f → FileV G H n (.agg L) f) ∧ (lkp fs s = none → L = zeroF) := by
  obtain ⟨ps, h1, h2, h3⟩ := h.is
  have hs := keyed_lkp h2 s
  rw [show s.v = .str s.1 s.2 from rfl, look_map h1]
  cases hl : lkp ps s with
  | none =>
    rw [hl] at hs
    cases hx : lkp fs s with
    | none => exact ⟨zeroF, rfl, rfl, fun f h => (by cases h), fun _ => rfl⟩
    | some x => rw [hx] at hs; cases hs
  | some v =>
    rw [hl] at hs
    cases hx : lkp fs s with
    | none => rw [hx] at hs; cases hs
    | some x =>
      have hv := h3 _ _ _ hl hx
      obtain ⟨L, rfl, hL⟩ := hv.cells
      exact ⟨L, rfl, hL, fun f h => (by cases h; exact hv), fun h => by cases h⟩
theorem File_c {G : Roms} {H : Heap} {n n0 i t a b fm : Nat} {vn : V} {fs : Tab} {ff : List (St × Fl)} (h : ImgAt G H n i t a b fm vn fs) (hf : FilesAt G H n0 fm ff) (hn : n0 ≤ n) (hfm : fm < n) {s : St} {k : KV}
    (hk : ∀ H' n' L, Kp H n H' n' → L.length = 10 → (∀ f, lkp ff s = some f → FileV G H' n0 (.agg L) f) → (lkp ff s = none → L = zeroF) → k (.tup [.agg L, .bool (lkp ff s).isSome]) H' n') : Runs F G n_link_Image_File [.ptr i 0, s.v] H n k := by
  refine runs_s (s := ar2 (s_link_Image_File lfp G)) at_link_Image_File (by obtain ⟨h, o⟩ := si_link_Image_File lfp_ok G; rw [at_link_Image_File] at h; cases h; exact o) ?_
  show s_link_Image_File lfp G (Runs F G) (.ptr i 0) s.v H n k
  delta s_link_Image_File
  refine a_alloc rfl fun H1 f1 g1 => ?_
  have h1 := h.kb (f1.kb h.tab.bn)
  obtain ⟨L, hlook, hL, hsome, hnone⟩ := (hf.ke ((f1.ke).low hn) (f1.same fm hfm)).look2 s
  simp only [eq_pn, go_sem, Nat.reduceAdd, ld1_one (off := 1) h1.at' (v := .map fm) rfl, hlook]
  rw [w_st (m := 10) rfl (by omega) hL, T.set_set]
  have f2 : Kp H1 (n + 1) (T.set H1 (n + 1) (one L)) (n + 1 + 1) := (Kp.refl _ _).new _ (Nat.le_refl _) (by omega)
  have g2 := T.get_set H1 (n + 1) (one L)
  generalize T.set H1 (n + 1) (one L) = H2 at f2 g2
  rw [ldn_all (m := 10) g2 (by omega) hL, s_onV, stV_all (m := 10) (f2.get g1 (by omega)) (by omega) rfl hL, getVs_cn (m := 10) (T.get_set ..) (by omega) hL]
  simp only [go_sem]
  have f3 : Kp H n (T.set H2 n (one L)) (n + 1 + 1) := (f1.trans f2).set _ (Nat.le_refl _)
  refine hk _ _ _ f3 hL (fun f hf => (hsome f hf).ke ?_) hnone
  exact (Kp.ke (n := n0) (n' := n0) ⟨Nat.le_refl _, fun id hid => (T.get_set_ne _ _ (by omega)).trans (f2.same id (by omega))⟩)
/- the first method of a name -/
def methIx (s : St) : List Meth → Nat → Option Nat
  | [], _ => none
  | m :: ms, j => bif decide (m.nm.1 = s.1 ∧ m.nm.2 = s.2) then some j else methIx s ms (j + 1)
theorem methIx_lt (s : St) : ∀ (ms : List Meth) (i j : Nat), methIx s ms i = some j → i ≤ j ∧ j < i + ms.length
  | [], _, _, h => by cases h
  | m :: ms, i, j, h => by
    unfold methIx at h
    cases hd : decide (m.nm.1 = s.1 ∧ m.nm.2 = s.2) with
    | true => rw [hd] at h; cases h; simp
    | false =>
      rw [hd] at h
      have := methIx_lt s ms (i + 1) j h
      rw [List.length_cons]; omega
abbrev zeroB : LV := [.int .i64 (.ofNat 0) 0, .int .i64 (.ofNat 0) 0, .nils]
theorem Body_c {G : Roms} {H : Heap} {n n0 i t a b fm : Nat} {vn : V} {fs : Tab} {ff : List (St × Fl)} (h : ImgAt G H n i t a b fm vn fs) (hf : FilesAt G H n0 fm ff) (hn : n0 ≤ n) (hfm : fm < n) {s nm : St}
    (hlen : ∀ f, lkp ff s = some f → f.bodies.length = f.face.ms.length) {k : KV}
    (hk0 : (∀ f, lkp ff s = some f → methIx nm f.face.ms 0 = none) → ∀ H' n', Kp H n H' n' → k (.tup [.agg zeroB, .bool false]) H' n')
    (hk1 : ∀ f j bd w, lkp ff s = some f → methIx nm f.face.ms 0 = some j → f.bodies[j]? = some bd → ∀ H' n', Kp H n H' n' → CodeAt G H' n' w bd.code → k (.tup [.agg (bd.cells w), .bool true]) H' n') :
    Runs F G n_link_Image_Body [.ptr i 0, s.v, nm.v] H n k := by
  refine runs_s (s := ar3 (s_link_Image_Body lfp G)) at_link_Image_Body (by obtain ⟨h, o⟩ := si_link_Image_Body lfp_ok G; rw [at_link_Image_Body] at h; cases h; exact o) ?_
  show s_link_Image_Body lfp G (Runs F G) (.ptr i 0) s.v nm.v H n k
  delta s_link_Image_Body
  refine a_alloc rfl fun H1 f1 g1 => ?_
  refine File_c (h.kb (f1.kb h.tab.bn)) (hf.ke ((f1.ke).low hn) (f1.same fm hfm)) (by omega) (by omega) fun H2 n2 L f2 hL hsome hnone => ?_
  have h2n := f2.le
  simp only [go_sem]
  rw [w_st (m := 10) rfl (by omega) hL, T.set_set]
  have f3 : Kp H2 n2 (T.set H2 n2 (one L)) (n2 + 1) := (Kp.refl _ _).new _ (Nat.le_refl _) (by omega)
  have g3 := T.get_set H2 n2 (one L)
  generalize T.set H2 n2 (one L) = H3 at f3 g3
  have f13 := f1.trans (f2.trans f3)
  have g1 := f3.get (f2.get g1 (by omega)) (by omega)
  have fin0 : ∀ H4 n4, Kp H3 (n2 + 1) H4 n4 → (∀ f, lkp ff s = some f → methIx nm f.face.ms 0 = none) → s_link_Image_Body_j7 lfp G (Runs F G) k (.ptr n 0) H4 n4 := by
    intro H4 n4 f4 hno
    delta s_link_Image_Body_j7
    rw [s_build0, s_onV, stV_all (m := 3) (f4.get g1 (by omega)) (by omega) rfl rfl, getVs_cn (m := 3) (T.get_set ..) (by omega) rfl]
    simp only [go_sem]
    exact hk0 hno _ _ ((f13.trans f4).set _ (Nat.le_refl _))
  cases hl : lkp ff s with
  | none =>
    have := hnone hl
    subst this
    simp only [go_sem, Nat.reduceAdd, ld1_one (off := 3) g3 (v := .nils) rfl]
    rw [show lenV .nils = some (.int .i64 (.ofNat 0) 0) from rfl, s_onV]
    refine lfp_range (N := 0) (J := fun j q => q = (nm.v, V.ptr n 0, V.ptr n2 0, V.nils, V.int .i64 (.ofNat 0) 0, V.int .i64 (.ofNat j) 0, H3, n2 + 1)) (fun I j q hlt => absurd hlt (Nat.not_lt_zero _)) ?_ rfl
    rintro I q rfl
    show s_link_Image_Body_l14 lfp G (Runs F G) k I nm.v (.ptr n 0) (.ptr n2 0) .nils (.int .i64 (.ofNat 0) 0) (.int .i64 (.ofNat 0) 0) H3 (n2 + 1)
    delta s_link_Image_Body_l14
    simp only [go_sem, lss_n, Nat.lt_irrefl, decide_false]
    exact fin0 _ _ (Kp.refl _ _) fun f hf => by rw [hl] at hf; cases hf
  | some f =>
    obtain ⟨L', vf, vm, v0, v1, v2, v3, v4, vb, mws, ws, bws, hfile, e⟩ := hsome f hl
    have e : L = L' := by injection e
    subst e
    obtain ⟨rfl, hface, hpool, hbod⟩ := hfile.ke ((f3.ke).low (by omega))
    have hms : MethsAt G H3 (n2 + 1) vm f.face.ms mws := ⟨hface.ms.el, hface.ms.lo.mono (by omega), hface.ms.lt, hface.ms.len, fun i m w x y => (hface.ms.at' i m w x y).ke ⟨by omega, fun _ _ _ _ h => h⟩, hface.ms.ok⟩
    have hbs : BodiesAt G H3 (n2 + 1) vb f.bodies bws := hbod.ke ⟨by omega, fun _ _ _ _ h => h⟩
    have hbl := hlen f hl
    have hbig := hms.lt
    obtain ⟨R, hR⟩ : ∃ R, R = methIx nm f.face.ms 0 := ⟨_, rfl⟩
    simp only [go_sem, Nat.reduceAdd, ld1_one (off := 3) g3 (v := vm) rfl, hms.len']
    refine lfp_range (N := f.face.ms.length) (J := fun j q => ∃ H' n', q = (nm.v, V.ptr n 0, V.ptr n2 0, vm, V.int .i64 (.ofNat f.face.ms.length) 0, V.int .i64 (.ofNat j) 0, H', n') ∧ Kp H3 (n2 + 1) H' n' ∧ methIx nm (f.face.ms.drop j) j = R) ?_ ?_ ⟨_, _, rfl, Kp.refl _ _, hR.symm⟩
    · rintro I j q hlt ⟨H4, n4, rfl, f4, hix⟩ ih
      show s_link_Image_Body_l14 lfp G (Runs F G) k I nm.v (.ptr n 0) (.ptr n2 0) vm (.int .i64 (.ofNat f.face.ms.length) 0) (.int .i64 (.ofNat j) 0) H4 n4
      delta s_link_Image_Body_l14
      have h4n := f4.le
      obtain ⟨p, w, hp, hld, hw⟩ := (hms.kp f4).at hlt
      rw [List.drop_eq_getElem_cons hlt] at hix
      unfold methIx at hix
      generalize f.face.ms[j] = m at hld hw hix
      unfold Meth.cells at hld
      simp only [go_sem, lss_n, hlt, decide_true, hp, ldn_of hld, Nat.reduceAdd, show eqV (.one .str) false m.nm.v nm.v = _ from eq_s ..]
      rw [T.set_set]
      have f5 := f4.new (m := n4 + 1) (id := n4) (one [m.nm.v, .bool m.st, w, m.ret.nm.v, .bool m.ret.arr]) f4.le (by omega)
      generalize T.set H4 n4 (one [m.nm.v, .bool m.st, w, m.ret.nm.v, .bool m.ret.arr]) = H5 at f5
      cases hd : decide (m.nm.1 = nm.1 ∧ m.nm.2 = nm.2) with
      | true =>
        rw [hd] at hix
        have hix : methIx nm f.face.ms 0 = some j := hR.symm.trans hix.symm
        have hjb : j < f.bodies.length := by omega
        have hjw : j < bws.length := by rw [hbs.len]; exact hjb
        have hb5 := hbs.kp f5
        obtain ⟨p2, hp2, hld2⟩ := hb5.el.at (i := j) (c := f.bodies[j].cells bws[j]) (by rw [List.getElem?_zipWith]; simp [hjb, hjw])
        have hc := hb5.at' j _ _ (List.getElem?_eq_getElem hjb) (List.getElem?_eq_getElem hjw)
        have hgb := List.getElem?_eq_getElem hjb
        have hc0 := hbod.at' j _ _ (List.getElem?_eq_getElem hjb) (List.getElem?_eq_getElem hjw)
        generalize f.bodies[j] = bd at hld2 hc hgb hc0
        generalize bws[j] = w2 at hld2 hc hc0
        simp only [go_sem, Nat.reduceAdd, ld1_one (off := 9) (f5.get g3 (by omega)) (v := vb) rfl, hp2, ldn_of hld2]
        rw [stV_all (m := 3) (f5.get g1 (by omega)) (by omega) rfl rfl, getVs_cn (m := 3) (T.get_set ..) (by omega) rfl]
        simp only [go_sem]
        exact hk1 f j bd w2 hl hix hgb _ _ ((f13.trans f5).set _ (Nat.le_refl _)) ⟨hc.el.same fun id hid => T.get_set_ne _ _ (by have := hc0.lo id hid; omega), hc.lo, hc.lt⟩
      | false =>
        rw [hd] at hix
        simp only [go_sem, add_i (show j + 1 < 9223372036854775808 by unfold big at hbig; omega)]
        exact ih _ ⟨_, _, rfl, f5, hix⟩
    · rintro I q ⟨H4, n4, rfl, f4, hix⟩
      show s_link_Image_Body_l14 lfp G (Runs F G) k I nm.v (.ptr n 0) (.ptr n2 0) vm (.int .i64 (.ofNat f.face.ms.length) 0) (.int .i64 (.ofNat f.face.ms.length) 0) H4 n4
      delta s_link_Image_Body_l14
      rw [List.drop_eq_nil_of_le (Nat.le_refl _)] at hix
      simp only [go_sem, lss_n, Nat.lt_irrefl, decide_false]
      exact fin0 _ _ f4 fun g hg => by rw [hl] at hg; cases hg; exact hR.symm.trans hix.symm
end Go.RL

/- Contracts, on: whose a method is, by the page. -/
namespace Go.RL
open Go.Eng
set_option maxRecDepth 100000
theorem findMeths_c {G : Roms} {H : Heap} {n e : Nat} {p : PM} {w vm m a0 z x1 x2 : V} {ms : List Meth} {ws : List V} {k : KV} {ih9 : (V × V × V × V × V × Heap × Nat) → Prop}
    (hms : MethsAt G H n vm ms ws) (hw : TysAt G H n w p.m.ps) (he : e < n) (g : T.get H e = some (one [p.m.nm.v, .bool p.m.st, w, p.m.ret.nm.v, .bool p.m.ret.arr, p.own.v]))
    (hk1 : ∀ o, methM p.m.nm ms = some o → o.same p.m = true → ∀ H' n', Kp H n H' n' → k (.tup [m, .bool true]) H' n')
    (hk0 : (∀ o, methM p.m.nm ms = some o → o.same p.m = false) → ∀ H' n', Kp H n H' n' → s_kilnlaw14_find_j11 lfp G (Runs F G) k ih9 a0 (.ptr e 0) z x1 x2 H' n') :
    lfp (V × V × V × V × V × V × V × V × V × Heap × Nat) (s_kilnlaw14_find_l23b lfp G (Runs F G) k ih9) (a0, .ptr e 0, m, z, x1, x2, vm, .int .i64 (.ofNat ms.length) 0, .int .i64 (.ofNat 0) 0, H, n) := by
  have hbig := hms.lt
  obtain ⟨M, hM⟩ : ∃ M, M = methM p.m.nm ms := ⟨_, rfl⟩
  refine lfp_range (N := ms.length) (J := fun j q => ∃ H' n', q = (a0, V.ptr e 0, m, z, x1, x2, vm, V.int .i64 (.ofNat ms.length) 0, V.int .i64 (.ofNat j) 0, H', n') ∧ Kp H n H' n' ∧ methM p.m.nm (ms.drop j) = M) ?_ ?_ ⟨_, _, rfl, Kp.refl _ _, hM.symm⟩
  · rintro I j q hlt ⟨H3, n3, rfl, f3, hj⟩ ih
    show s_kilnlaw14_find_l23 lfp G (Runs F G) k ih9 I a0 (.ptr e 0) m z x1 x2 vm (.int .i64 (.ofNat ms.length) 0) (.int .i64 (.ofNat j) 0) H3 n3
    delta s_kilnlaw14_find_l23
    have h3n := f3.le
    obtain ⟨q, x, hp, hld, hx⟩ := (hms.kp f3).at hlt
    rw [List.drop_eq_getElem_cons hlt] at hj
    generalize ms[j] = o at hld hx hj
    have hj : (bif decide (o.nm.1 = p.m.nm.1 ∧ o.nm.2 = p.m.nm.2) then some o else methM p.m.nm (ms.drop (j + 1))) = M := hj
    unfold Meth.cells at hld
    simp only [go_sem, lss_n, hlt, decide_true, hp, ldn_of hld, Nat.reduceAdd]
    rw [T.set_set]
    have f4 : Kp H3 n3 (T.set H3 n3 (one [o.nm.v, .bool o.st, x, o.ret.nm.v, .bool o.ret.arr])) (n3 + 1) := (Kp.refl _ _).new _ (Nat.le_refl _) (by omega)
    have g4 := T.get_set H3 n3 (one [o.nm.v, .bool o.st, x, o.ret.nm.v, .bool o.ret.arr])
    generalize T.set H3 n3 (one [o.nm.v, .bool o.st, x, o.ret.nm.v, .bool o.ret.arr]) = H4 at f4 g4
    have f34 := f3.trans f4
    have ge := f34.get g he
    simp only [go_sem, Nat.reduceAdd, ld1_one (off := 0) g4 (v := o.nm.v) rfl, ld1_one (off := 0) ge (v := p.m.nm.v) rfl, show eqV (.one .str) false o.nm.v p.m.nm.v = _ from eq_s ..]
    cases hd : decide (o.nm.1 = p.m.nm.1 ∧ o.nm.2 = p.m.nm.2) with
    | true =>
      rw [hd] at hj
      have hj : methM p.m.nm ms = some o := hM.symm.trans hj.symm
      simp only [go_sem, Nat.reduceAdd, ldn_all (m := 5) g4 (by omega) rfl, show ldnV 5 (.ptr e 0) G H4 = some (.agg [p.m.nm.v, .bool p.m.st, w, p.m.ret.nm.v, .bool p.m.ret.arr]) from ldn_one ge (by omega) (by show 5 ≤ 6; omega)]
      refine SigSame_c (a := o) (b := p.m) ⟨x, rfl, hx.kp f4⟩ ⟨w, rfl, hw.kp f34⟩ fun H5 n5 f5 => ?_
      cases hs : o.same p.m with
      | true => simp only [go_sem]; exact hk1 o hj hs _ _ (f34.trans f5)
      | false =>
        simp only [go_sem]
        exact hk0 (fun o' ho' => by rw [hj] at ho'; cases ho'; exact hs) _ _ (f34.trans f5)
    | false =>
      rw [hd] at hj
      simp only [go_sem, add_i (show j + 1 < 9223372036854775808 by unfold big at hbig; omega)]
      exact ih _ ⟨_, _, rfl, f34, hj⟩
  · rintro I q ⟨H3, n3, rfl, f3, hj⟩
    show s_kilnlaw14_find_l23 lfp G (Runs F G) k ih9 I a0 (.ptr e 0) m z x1 x2 vm (.int .i64 (.ofNat ms.length) 0) (.int .i64 (.ofNat ms.length) 0) H3 n3
    delta s_kilnlaw14_find_l23
    rw [List.drop_eq_nil_of_le (Nat.le_refl _)] at hj
    have hj : methM p.m.nm ms = none := hM.symm.trans hj.symm
    simp only [go_sem, lss_n, Nat.lt_irrefl, decide_false]
    exact hk0 (fun o ho => by rw [hj] at ho; cases ho) _ _ f3
theorem PageFind_c {G : Roms} {H : Heap} {n t a b : Nat} {fs : Tab} (h : TabAt G H n t a b fs) (hfs : fs.length ≤ 1000) {v : V} {p : PM} (hp : PMV G H n v p) {k : KV}
    (hk : ∀ H' n', Kb b H n H' n' → k (.tup [((findT fs p).getD (0, 0)).v, .bool (findT fs p).isSome]) H' n') : Runs F G n_kilnlaw14_find [.ptr t 0, v] H n k := by
  refine runs_s (s := ar2 (s_kilnlaw14_find lfp G)) at_kilnlaw14_find (by obtain ⟨h, o⟩ := si_kilnlaw14_find lfp_ok G; rw [at_kilnlaw14_find] at h; cases h; exact o) ?_
  show s_kilnlaw14_find lfp G (Runs F G) (.ptr t 0) v H n k
  obtain ⟨w, rfl, hw⟩ := hp
  delta s_kilnlaw14_find
  have hbn := h.bn
  unfold findT at hk
  refine a_boxA fun H1 f1 g1 => ?_
  have f1' := f1.kb (b := b) hbn
  unfold PM.cells at g1
  simp only [go_sem, Nat.reduceAdd, ld1_one (off := 5) g1 (v := p.own.v) rfl]
  refine Above_c (s := p.own) (h.kb f1') hfs fun H2 n2 x f2 ho hlen => ?_
  generalize (above fs p.own).1 = cs at ho hk hlen
  have f3 := f1'.trans f2
  have g2 := f2.get g1 (by omega) (by omega)
  have h2n := f2.le
  simp only [go_sem, (ho.el (by omega)).len, strs_len]
  refine lfp_range (N := cs.length) (J := fun j q => ∃ H' n', q = (.ptr t 0, .ptr n 0, x, .int .i64 (.ofNat cs.length) 0, .int .i64 (.ofNat j) 0, H', n') ∧ Kb b H n H' n' ∧ n < n' ∧ Own G H' (n + 1) n' 1 x (strs cs) ∧ T.get H' n = some (one [p.m.nm.v, .bool p.m.st, w, p.m.ret.nm.v, .bool p.m.ret.arr, p.own.v]) ∧
    (∀ H' n', Kb b H n H' n' → k (.tup [((findIn fs p (cs.drop j)).getD (0, 0)).v, .bool (findIn fs p (cs.drop j)).isSome]) H' n')) ?_ ?_ ⟨H2, n2, rfl, f3, by omega, ho, g2, hk⟩
  · rintro I j q hlt ⟨H3, n3, rfl, f3, hn3, ho, g3, hk⟩ ih
    show s_kilnlaw14_find_l9 lfp G (Runs F G) k I (.ptr t 0) (.ptr n 0) x (.int .i64 (.ofNat cs.length) 0) (.int .i64 (.ofNat j) 0) H3 n3
    delta s_kilnlaw14_find_l9
    obtain ⟨q, hp, hld⟩ := (ho.el (by omega)).at (strs_at hlt)
    rw [List.drop_eq_getElem_cons hlt] at hk
    unfold findIn at hk
    generalize cs[j] = m at hld hk
    simp only [go_sem, lss_n, hlt, decide_true, hp, ld1_of hld]
    refine Face_c (s := m) (n0 := n) (h.kb (f3.low (Nat.le_refl _))) (by omega) fun H4 n4 y f4 hy => ?_
    obtain ⟨vf, vm, ws, hy, rfl⟩ := hy
    have h4n := f4.le
    simp only [go_sem, Nat.reduceAdd]
    rw [T.set_set]
    have f6 : Kp H4 n4 (T.set H4 n4 (one [((lkp fs m).getD faceZ).nm.v, ((lkp fs m).getD faceZ).sup.v, vf, vm])) (n4 + 1) := (Kp.refl _ _).new _ (Nat.le_refl _) (by omega)
    have g6 := T.get_set H4 n4 (one [((lkp fs m).getD faceZ).nm.v, ((lkp fs m).getD faceZ).sup.v, vf, vm])
    generalize T.set H4 n4 (one [((lkp fs m).getD faceZ).nm.v, ((lkp fs m).getD faceZ).sup.v, vf, vm]) = H6 at f6 g6
    have f6' := f6.kb (b := b) (by omega)
    have f46 := f4.trans f6'
    have f36 := f3.trans f46
    have hms : MethsAt G H6 (n4 + 1) vm ((lkp fs m).getD faceZ).ms ws := (hy.ms.ke ((f6.ke).low (by omega))).ke ⟨by omega, fun _ _ _ _ h => h⟩
    have hw6 : TysAt G H6 (n4 + 1) w p.m.ps := (hw.ke ((f36.ke h.seen).low (Nat.le_refl _))).ke ⟨by omega, fun _ _ _ _ h => h⟩
    have next : ∀ H' n', Kp H6 (n4 + 1) H' n' → (∀ H' n', Kb b H n H' n' → k (.tup [((findIn fs p (cs.drop (j + 1))).getD (0, 0)).v, .bool (findIn fs p (cs.drop (j + 1))).isSome]) H' n') → s_kilnlaw14_find_j11 lfp G (Runs F G) k I (.ptr t 0) (.ptr n 0) x (.int .i64 (.ofNat cs.length) 0) (.int .i64 (.ofNat j) 0) H' n' := by
      intro H' n' f hk
      delta s_kilnlaw14_find_j11
      simp only [go_sem, add_i (show j + 1 < 9223372036854775808 by omega)]
      have f' := f46.trans (f.kb (b := b) (by omega))
      exact ih _ ⟨_, _, rfl, f3.trans f', by have := f'.le; omega, ho.kb f' (by omega), f'.get g3 hn3 (by omega), hk⟩
    simp only [go_sem, Nat.reduceAdd, ld1_one (off := 3) g6 (v := vm) rfl, hms.len']
    refine findMeths_c hms hw6 (by omega) (f46.get g3 hn3 (by omega)) (fun o ho hs H' n' f => ?_) (fun hno H' n' f => next _ _ f ?_)
    · rw [ho] at hk
      simp only [hs, cond_true] at hk
      exact hk _ _ (f36.trans (f.kb (by omega)))
    · cases hM : methM p.m.nm ((lkp fs m).getD faceZ).ms with
      | none => rw [hM] at hk; exact hk
      | some o => rw [hM] at hk; simp only [hno o hM, cond_false] at hk; exact hk
  · rintro I q ⟨H3, n3, rfl, f3, hn3, ho, g3, hk⟩
    show s_kilnlaw14_find_l9 lfp G (Runs F G) k I (.ptr t 0) (.ptr n 0) x (.int .i64 (.ofNat cs.length) 0) (.int .i64 (.ofNat cs.length) 0) H3 n3
    delta s_kilnlaw14_find_l9
    rw [List.drop_eq_nil_of_le (Nat.le_refl _)] at hk
    simp only [go_sem, lss_n, Nat.lt_irrefl, decide_false]
    delta s_kilnlaw14_find_j7
    exact hk _ _ f3
end Go.RL

/- Contracts, on: whether all that a pool names is there, by the page. -/
namespace Go.RL
open Go.Eng
set_option maxRecDepth 100000
def pageOk (t : Tab) (p : Pool) : Bool := p.types.all (knownT t) && (p.names.all (fun c => (lkp t c).isSome) && (p.fields.all (fldOkT t) && p.meths.all fun m => (findT t m).isSome))
section
variable {G : Roms} {H0 H : Heap} {n0 n t a b e : Nat} {fs : Tab} {p : Pool} {c0 c1 c2 c3 v0 v1 v2 v3 v4 vb x1 x2 x3 : V} {ws : List V} {k : KV} {ih6 : (V × V × V × V × Heap × Nat) → Prop} {acc : Bool}
structure PgAt (G : Roms) (H0 : Heap) (n0 : Nat) (H : Heap) (n b e : Nat) (c0 c1 c2 c3 v0 v1 v2 v3 v4 vb : V) : Prop where
  f : Kb b H0 n0 H n
  en : e < n
  e0 : n0 ≤ e
  g : T.get H e = some (one [c0, c1, c2, c3, v0, v1, v2, v3, v4, vb])
theorem PgAt.kb {H' : Heap} {n' : Nat} (h : PgAt G H0 n0 H n b e c0 c1 c2 c3 v0 v1 v2 v3 v4 vb) (hb : b < n0) (f : Kb b H n H' n') : PgAt G H0 n0 H' n' b e c0 c1 c2 c3 v0 v1 v2 v3 v4 vb :=
  ⟨h.f.trans f, Nat.lt_of_lt_of_le h.en f.le, h.e0, f.get h.g h.en (by have := h.e0; omega)⟩
theorem PgMeths_c (h : TabAt G H0 n0 t a b fs) (hfs : fs.length ≤ 1000) (hp : PoolAt G H0 n0 p v0 v1 v2 v3 v4 ws) (hc : PgAt G H0 n0 H n b e c0 c1 c2 c3 v0 v1 v2 v3 v4 vb)
    (hk : ∀ H' n', Kb b H0 n0 H' n' → s_kilnlaw14_check_j25 lfp G (Runs F G) k ih6 (.ptr t 0) (.bool (acc && p.meths.all fun m => (findT fs m).isSome)) x1 x2 x3 H' n') :
    s_kilnlaw14_check_j24 lfp G (Runs F G) k ih6 (.ptr t 0) (.ptr e 0) (.bool acc) x1 x2 x3 H n := by
  delta s_kilnlaw14_check_j24
  have hbn := h.bn
  have hbig := hp.b4
  have l4 : lenV v4 = some (.int .i64 (.ofNat p.meths.length) 0) := by rw [hp.e4.len, List.length_zipWith, hp.len4, Nat.min_self]
  simp only [go_sem, Nat.reduceAdd, ld1_one (off := 8) hc.g (v := v4) rfl, l4]
  obtain ⟨R, hR⟩ : ∃ R, R = (acc && p.meths.all fun m => (findT fs m).isSome) := ⟨_, rfl⟩
  rw [← hR] at hk
  refine lfp_range (N := p.meths.length) (J := fun j q => ∃ H' n' a', q = (.ptr t 0, .bool a', x1, x2, x3, v4, .int .i64 (.ofNat p.meths.length) 0, .int .i64 (.ofNat j) 0, H', n') ∧ Kb b H0 n0 H' n' ∧
    (a' && (p.meths.drop j).all fun m => (findT fs m).isSome) = R) ?_ ?_ ⟨H, n, acc, rfl, hc.f, hR.symm⟩
  · rintro I j q hlt ⟨H3, n3, a', rfl, f3, hj⟩ ih
    show s_kilnlaw14_check_l31 lfp G (Runs F G) k ih6 I (.ptr t 0) (.bool a') x1 x2 x3 v4 (.int .i64 (.ofNat p.meths.length) 0) (.int .i64 (.ofNat j) 0) H3 n3
    delta s_kilnlaw14_check_l31
    have hw : j < ws.length := by rw [hp.len4]; exact hlt
    have hp3 := hp.ke (f3.ke h.seen)
    have h3n := f3.le
    obtain ⟨q, hp', hld⟩ := hp3.e4.at (i := j) (c := p.meths[j].cells ws[j]) (by rw [List.getElem?_zipWith]; simp [hlt, hw])
    have hty := hp3.at4 j _ _ (List.getElem?_eq_getElem hlt) (List.getElem?_eq_getElem hw)
    rw [List.drop_eq_getElem_cons hlt, List.all_cons] at hj
    generalize p.meths[j] = m at hld hty hj
    generalize ws[j] = w at hld hty
    unfold PM.cells at hld
    simp only [go_sem, Nat.reduceAdd, lss_n, hlt, decide_true, hp', ldn_of hld]
    rw [T.set_set]
    refine run_set fun H4 f4 g4 => ?_
    have f4' := f4.kb (b := b) (by omega)
    refine PageFind_c (p := m) (h.kb (f3.trans f4')) hfs ⟨w, rfl, hty.kp f4⟩ fun H5 n5 f5 => ?_
    have f6 := f3.trans (f4'.trans f5)
    cases a' with
    | true =>
      simp only [go_sem, add_i (show j + 1 < 9223372036854775808 by unfold big at hbig; omega)]
      exact ih _ ⟨_, _, _, rfl, f6, by simpa using hj⟩
    | false =>
      simp only [go_sem, add_i (show j + 1 < 9223372036854775808 by unfold big at hbig; omega)]
      exact ih _ ⟨_, _, _, rfl, f6, by simpa using hj⟩
  · rintro I q ⟨H3, n3, a', rfl, f3, hj⟩
    show s_kilnlaw14_check_l31 lfp G (Runs F G) k ih6 I (.ptr t 0) (.bool a') x1 x2 x3 v4 (.int .i64 (.ofNat p.meths.length) 0) (.int .i64 (.ofNat p.meths.length) 0) H3 n3
    delta s_kilnlaw14_check_l31
    rw [List.drop_eq_nil_of_le (Nat.le_refl _)] at hj
    have hj : a' = R := by simpa using hj
    subst hj
    simp only [go_sem, lss_n, Nat.lt_irrefl, decide_false]
    exact hk _ _ f3
theorem PgFlds_c (h : TabAt G H0 n0 t a b fs) (hfs : fs.length ≤ 1000) (hp : PoolAt G H0 n0 p v0 v1 v2 v3 v4 ws) (hc : PgAt G H0 n0 H n b e c0 c1 c2 c3 v0 v1 v2 v3 v4 vb)
    (hk : ∀ H' n', Kb b H0 n0 H' n' → s_kilnlaw14_check_j25 lfp G (Runs F G) k ih6 (.ptr t 0) (.bool (acc && (p.fields.all (fldOkT fs) && p.meths.all fun m => (findT fs m).isSome))) x1 x2 x3 H' n') :
    s_kilnlaw14_check_j23 lfp G (Runs F G) k ih6 (.ptr t 0) (.ptr e 0) (.bool acc) x1 x2 x3 H n := by
  delta s_kilnlaw14_check_j23
  have hbn := h.bn
  have hbig := hp.b3
  have l3 : lenV v3 = some (.int .i64 (.ofNat p.fields.length) 0) := by rw [hp.e3.len, List.length_map]
  simp only [go_sem, Nat.reduceAdd, ld1_one (off := 7) hc.g (v := v3) rfl, l3]
  obtain ⟨R, hR⟩ : ∃ R, R = (acc && p.fields.all (fldOkT fs)) := ⟨_, rfl⟩
  rw [← Bool.and_assoc, ← hR] at hk
  refine lfp_range (N := p.fields.length) (J := fun j q => ∃ H' n' a', q = (.ptr t 0, .ptr e 0, .bool a', x1, x2, x3, v3, .int .i64 (.ofNat p.fields.length) 0, .int .i64 (.ofNat j) 0, H', n') ∧ PgAt G H0 n0 H' n' b e c0 c1 c2 c3 v0 v1 v2 v3 v4 vb ∧
    (a' && (p.fields.drop j).all (fldOkT fs)) = R) ?_ ?_ ⟨H, n, acc, rfl, hc, hR.symm⟩
  · rintro I j q hlt ⟨H3, n3, a', rfl, hc, hj⟩ ih
    show s_kilnlaw14_check_l48 lfp G (Runs F G) k ih6 I (.ptr t 0) (.ptr e 0) (.bool a') x1 x2 x3 v3 (.int .i64 (.ofNat p.fields.length) 0) (.int .i64 (.ofNat j) 0) H3 n3
    delta s_kilnlaw14_check_l48
    have f3 := hc.f
    have hp3 := hp.ke (f3.ke h.seen)
    have h3n := f3.le
    obtain ⟨q, hp', hld⟩ := hp3.e3.at (i := j) (c := p.fields[j].cells) (by simp [hlt])
    rw [List.drop_eq_getElem_cons hlt, List.all_cons] at hj
    generalize p.fields[j] = m at hld hj
    unfold PF.cells at hld
    simp only [go_sem, Nat.reduceAdd, lss_n, hlt, decide_true, hp', ldn_of hld]
    rw [T.set_set]
    have g4 := T.get_set H3 n3 (one [m.f.nm.v, m.f.ty.nm.v, .bool m.f.ty.arr, m.own.v])
    have f4 : Kp H3 n3 (T.set H3 n3 (one [m.f.nm.v, m.f.ty.nm.v, .bool m.f.ty.arr, m.own.v])) (n3 + 1) := (Kp.refl _ _).new _ (Nat.le_refl _) (by omega)
    generalize T.set H3 n3 (one [m.f.nm.v, m.f.ty.nm.v, .bool m.f.ty.arr, m.own.v]) = H4 at g4 f4
    have f4' := f4.kb (b := b) (by omega)
    refine Field_c (c := m.own) (s := m.f.nm) (h.kb (f3.trans f4')) hfs fun H6 n6 f6 => ?_
    have h6n := f6.le
    have g6 := f6.get g4 (by omega) (by omega)
    unfold Ty.v Ty.cells
    simp only [go_sem, Nat.reduceAdd]
    rw [T.set_set]
    have g7 := T.get_set H6 n6 (one [((fldT fs m.own m.f.nm).getD ((0, 0), tyZ)).2.nm.v, .bool ((fldT fs m.own m.f.nm).getD ((0, 0), tyZ)).2.arr])
    have f7 : Kp H6 n6 (T.set H6 n6 (one [((fldT fs m.own m.f.nm).getD ((0, 0), tyZ)).2.nm.v, .bool ((fldT fs m.own m.f.nm).getD ((0, 0), tyZ)).2.arr])) (n6 + 1) := (Kp.refl _ _).new _ (Nat.le_refl _) (by omega)
    generalize T.set H6 n6 (one [((fldT fs m.own m.f.nm).getD ((0, 0), tyZ)).2.nm.v, .bool ((fldT fs m.own m.f.nm).getD ((0, 0), tyZ)).2.arr]) = H7 at f7 g7
    have g74 := f7.get g6 (by omega)
    have hc' := hc.kb (by omega) (f4'.trans (f6.trans (f7.kb (by omega))))
    rw [show fldOkT fs m = (match fldT fs m.own m.f.nm with | none => false | some o => o.2.is m.f.ty) from rfl] at hj
    cases a' with
    | false =>
      simp only [go_sem, add_i (show j + 1 < 9223372036854775808 by unfold big at hbig; omega)]
      exact ih _ ⟨_, _, _, rfl, hc', by simpa using hj⟩
    | true =>
      cases h1 : fldT fs m.own m.f.nm with
      | none =>
        rw [h1] at hj
        simp only [Option.isSome_none, go_sem, add_i (show j + 1 < 9223372036854775808 by unfold big at hbig; omega)]
        exact ih _ ⟨_, _, _, rfl, hc', by simpa using hj⟩
      | some o =>
        rw [h1] at hj g7
        simp only [Option.getD_some] at g7 hj
        have e1 : eqV (.agg [.str, .bool]) false (.agg [o.2.nm.v, .bool o.2.arr]) (.agg [m.f.ty.nm.v, .bool m.f.ty.arr]) = _ := eq_ty o.2 m.f.ty
        simp only [Option.isSome_some, Option.getD_some, go_sem, Nat.reduceAdd, ldn_all (m := 2) g7 (by omega) rfl, show ldnV 2 (.ptr n3 1) G H7 = some (.agg [m.f.ty.nm.v, .bool m.f.ty.arr]) from ldn_one g74 (by omega) (by show 3 ≤ 4; omega), e1, add_i (show j + 1 < 9223372036854775808 by unfold big at hbig; omega)]
        exact ih _ ⟨_, _, _, rfl, hc', by simpa using hj⟩
  · rintro I q ⟨H3, n3, a', rfl, hc, hj⟩
    show s_kilnlaw14_check_l48 lfp G (Runs F G) k ih6 I (.ptr t 0) (.ptr e 0) (.bool a') x1 x2 x3 v3 (.int .i64 (.ofNat p.fields.length) 0) (.int .i64 (.ofNat p.fields.length) 0) H3 n3
    delta s_kilnlaw14_check_l48
    rw [List.drop_eq_nil_of_le (Nat.le_refl _)] at hj
    have hj : a' = R := by simpa using hj
    subst hj
    simp only [go_sem, lss_n, Nat.lt_irrefl, decide_false]
    exact PgMeths_c h hfs hp hc hk
theorem PgNames_c (h : TabAt G H0 n0 t a b fs) (hfs : fs.length ≤ 1000) (hp : PoolAt G H0 n0 p v0 v1 v2 v3 v4 ws) (hc : PgAt G H0 n0 H n b e c0 c1 c2 c3 v0 v1 v2 v3 v4 vb)
    (hk : ∀ H' n', Kb b H0 n0 H' n' → s_kilnlaw14_check_j25 lfp G (Runs F G) k ih6 (.ptr t 0) (.bool (acc && (p.names.all (fun c => (lkp fs c).isSome) && (p.fields.all (fldOkT fs) && p.meths.all fun m => (findT fs m).isSome)))) x1 x2 x3 H' n') :
    lfp (V × V × V × V × V × V × V × V × V × Heap × Nat) (s_kilnlaw14_check_l78b lfp G (Runs F G) k ih6) (.ptr t 0, .ptr e 0, .bool acc, x1, x2, x3, v1, .int .i64 (.ofNat p.names.length) 0, .int .i64 (.ofNat 0) 0, H, n) := by
  have hbn := h.bn
  have hbig := hp.b1
  obtain ⟨R, hR⟩ : ∃ R, R = (acc && p.names.all (fun c => (lkp fs c).isSome)) := ⟨_, rfl⟩
  rw [← Bool.and_assoc, ← hR] at hk
  refine lfp_range (N := p.names.length) (J := fun j q => ∃ H' n' a', q = (.ptr t 0, .ptr e 0, .bool a', x1, x2, x3, v1, .int .i64 (.ofNat p.names.length) 0, .int .i64 (.ofNat j) 0, H', n') ∧ PgAt G H0 n0 H' n' b e c0 c1 c2 c3 v0 v1 v2 v3 v4 vb ∧
    (a' && (p.names.drop j).all (fun c => (lkp fs c).isSome)) = R) ?_ ?_ ⟨H, n, acc, rfl, hc, hR.symm⟩
  · rintro I j q hlt ⟨H3, n3, a', rfl, hc, hj⟩ ih
    show s_kilnlaw14_check_l78 lfp G (Runs F G) k ih6 I (.ptr t 0) (.ptr e 0) (.bool a') x1 x2 x3 v1 (.int .i64 (.ofNat p.names.length) 0) (.int .i64 (.ofNat j) 0) H3 n3
    delta s_kilnlaw14_check_l78
    have f3 := hc.f
    have hp3 := hp.ke (f3.ke h.seen)
    have h3n := f3.le
    obtain ⟨q, hp', hld⟩ := hp3.e1.at (strs_at hlt)
    rw [List.drop_eq_getElem_cons hlt, List.all_cons] at hj
    generalize p.names[j] = m at hld hj
    simp only [go_sem, Nat.reduceAdd, lss_n, hlt, decide_true, hp', ld1_of hld]
    refine Face_c (s := m) (h.kb f3) (Nat.le_refl _) fun H4 n4 w f4 hw => ?_
    obtain ⟨vf, vm, ws', hw, rfl⟩ := hw
    have h4n := f4.le
    simp only [go_sem, Nat.reduceAdd]
    rw [T.set_set]
    have f6 : Kp H4 n4 (T.set H4 n4 (one [((lkp fs m).getD faceZ).nm.v, ((lkp fs m).getD faceZ).sup.v, vf, vm])) (n4 + 1) := (Kp.refl _ _).new _ (Nat.le_refl _) (by omega)
    have hc' := hc.kb (by omega) (f4.trans (f6.kb (by omega)))
    cases a' with
    | false =>
      simp only [go_sem, add_i (show j + 1 < 9223372036854775808 by unfold big at hbig; omega)]
      exact ih _ ⟨_, _, _, rfl, hc', by simpa using hj⟩
    | true =>
      simp only [go_sem, add_i (show j + 1 < 9223372036854775808 by unfold big at hbig; omega)]
      exact ih _ ⟨_, _, _, rfl, hc', by simpa using hj⟩
  · rintro I q ⟨H3, n3, a', rfl, hc, hj⟩
    show s_kilnlaw14_check_l78 lfp G (Runs F G) k ih6 I (.ptr t 0) (.ptr e 0) (.bool a') x1 x2 x3 v1 (.int .i64 (.ofNat p.names.length) 0) (.int .i64 (.ofNat p.names.length) 0) H3 n3
    delta s_kilnlaw14_check_l78
    rw [List.drop_eq_nil_of_le (Nat.le_refl _)] at hj
    have hj : a' = R := by simpa using hj
    subst hj
    simp only [go_sem, lss_n, Nat.lt_irrefl, decide_false]
    exact PgFlds_c h hfs hp hc hk
end
end Go.RL

/- Contracts, on: the first error of files, by the page. -/
namespace Go.RL
open Go.Eng
set_option maxRecDepth 100000
def page2 (t : Tab) : List Fl → Int
  | [] => 0
  | f :: fs => bif !(checkM t f.face.nm == 0) then checkM t f.face.nm else bif !pageOk t f.pool then 30 else page2 t fs
noncomputable def page1 : List St → List Fl → Int
  | _, [] => 0
  | acc, f :: fs => bif !fileOk f then 2 else bif hasS f.face.nm acc then 6 else page1 (acc ++ [f.face.nm]) fs
noncomputable def pageM (fls : List Fl) : Int := bif !(page1 [] fls == 0) then page1 [] fls else page2 (tabOf (facesOf fls)) fls
theorem PageTwo_c {G : Roms} (hG : GSub G) {H0 : Heap} {n0 t a b : Nat} {tb : Tab} {v : V} {fls : List Fl} (hfs : tb.length ≤ 1000) (hps : ∀ s c, lkp tb s = some c → ∀ m ∈ c.ms, m.ps.length ≤ 100000)
    (h : TabAt G H0 n0 t a b tb) (hf : FilesV G H0 n0 v fls) {k : KV} (hk : ∀ H' n', Kb b H0 n0 H' n' → k (.int .i64 (page2 tb fls) 0) H' n') :
    lfp (V × V × V × V × Heap × Nat) (s_kilnlaw14_check_l6b lfp G (Runs F G) k) (.ptr t 0, v, .int .i64 (.ofNat fls.length) 0, .int .i64 (.ofNat 0) 0, H0, n0) := by
  have hbn := h.bn
  obtain ⟨R, hR⟩ : ∃ R, R = page2 tb fls := ⟨_, rfl⟩
  rw [← hR] at hk
  have hbig := hf.lt
  refine lfp_range (N := fls.length) (J := fun j q => ∃ H' n', q = (.ptr t 0, v, .int .i64 (.ofNat fls.length) 0, .int .i64 (.ofNat j) 0, H', n') ∧ Kb b H0 n0 H' n' ∧ page2 tb (fls.drop j) = R) ?_ ?_ ⟨H0, n0, rfl, Kb.refl _ _ _, hR.symm⟩
  · rintro I j q hlt ⟨H3, n3, rfl, f3, hj⟩ ih
    show s_kilnlaw14_check_l6 lfp G (Runs F G) k I (.ptr t 0) v (.int .i64 (.ofNat fls.length) 0) (.int .i64 (.ofNat j) 0) H3 n3
    delta s_kilnlaw14_check_l6
    have h3n := f3.le
    obtain ⟨q, vf, vm, v0, v1, v2, v3, v4, vb, mws, ws, bws, hp, hld, hfile⟩ := (hf.ke (f3.ke h.seen)).at hlt
    rw [List.drop_eq_getElem_cons hlt] at hj
    generalize fls[j] = m at hld hj hfile
    have hj : (bif !(checkM tb m.face.nm == 0) then checkM tb m.face.nm else bif !pageOk tb m.pool then 30 else page2 tb (fls.drop (j + 1))) = R := hj
    simp only [go_sem, Nat.reduceAdd, lss_n, hlt, decide_true, hp, ldn_of hld]
    rw [T.set_set]
    have g4 := T.get_set H3 n3 (one [m.face.nm.v, m.face.sup.v, vf, vm, v0, v1, v2, v3, v4, vb])
    have f4 : Kp H3 n3 (T.set H3 n3 (one [m.face.nm.v, m.face.sup.v, vf, vm, v0, v1, v2, v3, v4, vb])) (n3 + 1) := (Kp.refl _ _).new _ (Nat.le_refl _) (by omega)
    generalize T.set H3 n3 (one [m.face.nm.v, m.face.sup.v, vf, vm, v0, v1, v2, v3, v4, vb]) = H4 at g4 f4
    have f4' := f4.kb (b := b) (by omega)
    have h4 := h.kb (f3.trans f4')
    refine Check_c hG (s := m.face.nm) h4 hfs hps fun H5 n5 f5 => ?_
    have f6 := f4'.trans f5
    have h5n := f5.le
    have g5 := f5.get g4 (by omega) (by omega)
    simp only [neq_i, go_sem]
    rw [show (checkM tb m.face.nm == Int.ofNat 0) = (checkM tb m.face.nm == 0) from rfl]
    cases h1 : checkM tb m.face.nm == 0 with
    | false =>
      rw [h1] at hj
      simp only [Bool.not_false, cond_true] at hj
      simp only [Bool.not_false, go_sem]
      rw [hj]; exact hk _ _ (f3.trans f6)
    | true =>
      rw [h1] at hj
      simp only [Bool.not_true, cond_false] at hj
      have hpool := hfile.pool.ke (f6.ke (f3.seen h.seen))
      simp only [Bool.not_true, go_sem, Nat.reduceAdd, ld1_one (off := 6) g5 (v := v2) rfl]
      refine TabKnown_c (xs := m.pool.types) (h.kb (f3.trans f6)) hpool.t2 fun H7 n7 f7 => ?_
      have f8 := f6.trans f7
      have g7 := f7.get g5 (by omega) (by omega)
      have h7n := f7.le
      have hpool7 := hpool.ke (f7.ke ((f3.trans f6).seen h.seen))
      have l1 : lenV v1 = some (.int .i64 (.ofNat m.pool.names.length) 0) := by rw [hpool7.e1.len, strs_len]
      simp only [go_sem, Nat.reduceAdd, ld1_one (off := 5) g7 (v := v1) rfl, l1]
      refine PgNames_c (h.kb f3) hfs (p := m.pool) (e := n3) (c0 := m.face.nm.v) (c1 := m.face.sup.v) (c2 := vf) (c3 := vm) (v0 := v0) (v1 := v1) (v2 := v2) (v3 := v3) (v4 := v4) (vb := vb) (ws := ws) hfile.pool ⟨f8, by omega, Nat.le_refl _, g7⟩ fun H9 n9 f9 => ?_
      delta s_kilnlaw14_check_j25
      have hj : (bif !pageOk tb m.pool then 30 else page2 tb (fls.drop (j + 1))) = R := hj
      unfold pageOk at hj
      simp only [s_notB, go_sem]
      generalize (m.pool.types.all (knownT tb) && (m.pool.names.all (fun c => (lkp tb c).isSome) && (m.pool.fields.all (fldOkT tb) && m.pool.meths.all fun m => (findT tb m).isSome))) = ok at hj ⊢
      cases ok with
      | false =>
        have hj : (30 : Int) = R := hj
        simp only [Bool.not_false, go_sem]
        have := hk H9 n9 (f3.trans f9)
        rw [← hj] at this; exact this
      | true =>
        have hj : page2 tb (fls.drop (j + 1)) = R := hj
        simp only [Bool.not_true, go_sem]
        delta s_kilnlaw14_check_j8
        simp only [go_sem, add_i (show j + 1 < 9223372036854775808 by unfold big at hbig; omega)]
        exact ih _ ⟨_, _, rfl, f3.trans f9, hj⟩
  · rintro I q ⟨H3, n3, rfl, f3, hj⟩
    show s_kilnlaw14_check_l6 lfp G (Runs F G) k I (.ptr t 0) v (.int .i64 (.ofNat fls.length) 0) (.int .i64 (.ofNat fls.length) 0) H3 n3
    delta s_kilnlaw14_check_l6
    rw [List.drop_eq_nil_of_le (Nat.le_refl _)] at hj
    simp only [go_sem, lss_n, Nat.lt_irrefl, decide_false]
    delta s_kilnlaw14_check_j4
    have := hk H3 n3 f3
    rw [← hj] at this; exact this
theorem PageCheck_c {G : Roms} (hG : GSub G) (hO : OpTab G) {H : Heap} {n : Nat} {v : V} {fls : List Fl} (hf : FilesV G H n v fls) (hf0 : ∀ H n, FilesV G H n v fls) (hr : RSl v fls.length) (h8 : fls.length ≤ 8) {k : KV}
    (hk : ∀ H' n', Kp H n H' n' → k (.int .i64 (pageM fls) 0) H' n') : Runs F G n_kilnlaw14_check [v] H n k := by
  refine runs_s (s := ar1 (s_kilnlaw14_check lfp G)) at_kilnlaw14_check (by obtain ⟨h, o⟩ := si_kilnlaw14_check lfp_ok G; rw [at_kilnlaw14_check] at h; cases h; exact o) ?_
  show s_kilnlaw14_check lfp G (Runs F G) v H n k
  delta s_kilnlaw14_check
  rw [s_bsl0]
  simp only [go_sem, hf.len]
  unfold pageM at hk
  obtain ⟨R, hR⟩ : ∃ R, R = page1 [] fls := ⟨_, rfl⟩
  rw [← hR] at hk
  have hG0 : Kp H n (T.set H n (.arr 4 0 .e)) (n + 1) := (Kp.refl _ _).new _ (Nat.le_refl _) (by omega)
  refine lfp_range (N := fls.length) (J := fun j q => ∃ a3 H' n', ∃ LS : LLV, q = (v, a3, v, .int .i64 (.ofNat fls.length) 0, .int .i64 (.ofNat j) 0, H', n') ∧ Kp H n H' n' ∧ LS.length = j ∧ ((j = 0 ∧ a3 = .sl n 0 0 0 4 ∧ n < n') ∨ (0 < j ∧ n < n' ∧ Own G H' (n + 1) n' 4 a3 LS)) ∧
    (∀ (i : Nat) (L : LV) (c : Fc), LS[i]? = some L → (facesOf (fls.take j))[i]? = some c → FaceV G H' n (.agg L) c) ∧ page1 (namesOf (fls.take j)) (fls.drop j) = R ∧ (∀ f ∈ fls.take j, fileOk f = true)) ?_ ?_
    ⟨_, _, _, [], rfl, hG0, rfl, .inl ⟨rfl, rfl, Nat.lt_succ_self _⟩, fun i L c h => by simp at h, hR.symm, fun f h => by simp at h⟩
  · rintro I j q hlt ⟨a3, H3, n3, LS, rfl, f3, hLS, ha, hfv, hj, hok⟩ ih
    show s_kilnlaw14_check_l91 lfp G (Runs F G) k I v a3 v (.int .i64 (.ofNat fls.length) 0) (.int .i64 (.ofNat j) 0) H3 n3
    delta s_kilnlaw14_check_l91
    have hn3 : n < n3 := by rcases ha with ⟨_, _, h⟩ | ⟨_, h, _⟩ <;> exact h
    obtain ⟨q, vf, vm, v0, v1, v2, v3, v4, vb, mws, ws, bws, hp, hld, hfile⟩ := (hf.ke ((f3.ke).low (Nat.le_refl _))).at hlt
    have htn := take_succ_map (fun f : Fl => f.face.nm) fls hlt
    have htf := take_succ_map (fun f : Fl => f.face) fls hlt
    have hto := List.take_add_one (l := fls) (i := j)
    rw [List.getElem?_eq_getElem hlt] at hto
    rw [List.drop_eq_getElem_cons hlt] at hj
    generalize fls[j] = m at hld hj hfile htn htf hto
    have hj : (bif !fileOk m then 2 else bif hasS m.face.nm (namesOf (fls.take j)) then 6 else page1 (namesOf (fls.take j) ++ [m.face.nm]) (fls.drop (j + 1))) = R := hj
    simp only [go_sem, Nat.reduceAdd, lss_n, hlt, decide_true, hp, ldn_of hld]
    rw [T.set_set]
    have g4 := T.get_set H3 n3 (one [m.face.nm.v, m.face.sup.v, vf, vm, v0, v1, v2, v3, v4, vb])
    have f4 : Kp H3 n3 (T.set H3 n3 (one [m.face.nm.v, m.face.sup.v, vf, vm, v0, v1, v2, v3, v4, vb])) (n3 + 1) := (Kp.refl _ _).new _ (Nat.le_refl _) (by omega)
    generalize T.set H3 n3 (one [m.face.nm.v, m.face.sup.v, vf, vm, v0, v1, v2, v3, v4, vb]) = H4 at g4 f4
    refine FileRight_c hO (f := m) ((hfile.ke ((f4.ke).low (by omega))).ke ⟨by omega, fun _ _ _ _ h => h⟩) fun H6 n6 f6 => ?_
    have f36 := f4.trans f6
    have h6n := f6.le
    have g6 := f6.get g4 (by omega)
    simp only [s_notB, go_sem]
    cases h1 : fileOk m with
    | false =>
      rw [h1] at hj
      have hj : (2 : Int) = R := hj
      rw [← hj] at hk
      simp only [Bool.not_false, go_sem]
      exact hk _ _ (f3.trans f36)
    | true =>
    rw [h1] at hj
    have hj : (bif hasS m.face.nm (namesOf (fls.take j)) then 6 else page1 (namesOf (fls.take j) ++ [m.face.nm]) (fls.drop (j + 1))) = R := hj
    obtain ⟨b, o, c, rfl, hc, -⟩ : ∃ b o c, v = .rsl b o fls.length c 0 ∧ fls.length ≤ c ∧ c ≤ maxLen := by
      rcases hr with ⟨_, h⟩ | h
      · omega
      · exact h
    simp only [Bool.not_true, go_sem]
    rw [s_slcHi (by omega), s_onV, show lenV (.rsl b (o + 0 * 10) (j - 0) (c - 0) 0) = some (.int .i64 (.ofNat j) 0) from rfl, s_onV]
    obtain ⟨⟨LF, hel, hLF, hfl⟩, -, -⟩ := hf0 H6 n6
    obtain ⟨S, hS⟩ : ∃ S, S = hasS m.face.nm (namesOf (fls.take j)) := ⟨_, rfl⟩
    rw [← hS] at hj
    refine lfp_range (N := j) (J := fun i q => ∃ H' n', q = (.rsl b o fls.length c 0, a3, .ptr n3 0, .rsl b o fls.length c 0, .int .i64 (.ofNat fls.length) 0, .int .i64 (.ofNat j) 0, .rsl b (o + 0 * 10) (j - 0) (c - 0) 0, .int .i64 (.ofNat j) 0, .int .i64 (.ofNat i) 0, H', n') ∧ Kp H6 n6 H' n' ∧
      hasS m.face.nm ((namesOf (fls.take j)).drop i) = S) ?_ ?_ ⟨_, _, rfl, Kp.refl _ _, hS.symm⟩
    · rintro I2 i q hlt2 ⟨H7, n7, rfl, f7, hi⟩ ih2
      show s_kilnlaw14_check_l109 lfp G (Runs F G) k I I2 (.rsl b o fls.length c 0) a3 (.ptr n3 0) (.rsl b o fls.length c 0) (.int .i64 (.ofNat fls.length) 0) (.int .i64 (.ofNat j) 0) (.rsl b (o + 0 * 10) (j - 0) (c - 0) 0) (.int .i64 (.ofNat j) 0) (.int .i64 (.ofNat i) 0) H7 n7
      delta s_kilnlaw14_check_l109
      have h7n := f7.le
      have hix : i < fls.length := by omega
      have hlen : i < (namesOf (fls.take j)).length := by simp; omega
      obtain ⟨Li, hLi⟩ : ∃ Li, LF[i]? = some Li := ⟨LF[i]'(by omega), List.getElem?_eq_getElem _⟩
      obtain ⟨L, wf, wm, w0, w1, w2, w3, w4, wb, muw, uw, buw, hfile2, e⟩ := hfl i Li _ hLi (List.getElem?_eq_getElem hix)
      have e : Li = L := by injection e
      subst e
      have his := hfile2.is
      subst his
      obtain ⟨q, hq, hlq⟩ := (El_take (l := j) (c' := c - 0) (e' := 0) (hel.same (H' := H7) fun id h => by cases h) (by omega)).at (i := i) (by rw [List.getElem?_take, if_pos hlt2]; exact hLi)
      rw [List.drop_eq_getElem_cons hlen] at hi
      have hnm : (namesOf (fls.take j))[i] = fls[i].face.nm := by simp
      rw [hnm] at hi
      generalize fls[i] = g at hlq hi
      simp only [go_sem, Nat.reduceAdd, lss_n, hlt2, decide_true, hq, ldn_of hlq]
      rw [T.set_set]
      have f8 : Kp H7 n7 (T.set H7 n7 (one [g.face.nm.v, g.face.sup.v, wf, wm, w0, w1, w2, w3, w4, wb])) (n7 + 1) := (Kp.refl _ _).new _ (Nat.le_refl _) (by omega)
      have g8 := T.get_set H7 n7 (one [g.face.nm.v, g.face.sup.v, wf, wm, w0, w1, w2, w3, w4, wb])
      generalize T.set H7 n7 (one [g.face.nm.v, g.face.sup.v, wf, wm, w0, w1, w2, w3, w4, wb]) = H8 at f8 g8
      have g68 := (f7.trans f8).get g6 (by omega)
      simp only [go_sem, Nat.reduceAdd, ld1_one (off := 0) g8 (v := g.face.nm.v) rfl, ld1_one (off := 0) g68 (v := m.face.nm.v) rfl, show eqV (.one .str) false g.face.nm.v m.face.nm.v = _ from eq_s ..]
      have hi : (decide (m.face.nm.1 = g.face.nm.1 ∧ m.face.nm.2 = g.face.nm.2) || hasS m.face.nm ((namesOf (fls.take j)).drop (i + 1))) = S := hi
      rw [show decide (m.face.nm.1 = g.face.nm.1 ∧ m.face.nm.2 = g.face.nm.2) = decide (g.face.nm.1 = m.face.nm.1 ∧ g.face.nm.2 = m.face.nm.2) by rw [decide_eq_decide]; constructor <;> rintro ⟨a, b⟩ <;> exact ⟨a.symm, b.symm⟩] at hi
      cases hd : decide (g.face.nm.1 = m.face.nm.1 ∧ g.face.nm.2 = m.face.nm.2) with
      | true =>
        rw [hd] at hi
        have hi : true = S := hi
        rw [← hi] at hj
        have hj : (6 : Int) = R := hj
        rw [← hj] at hk
        simp only [go_sem]
        exact hk _ _ (f3.trans (f36.trans (f7.trans f8)))
      | false =>
        rw [hd] at hi
        simp only [go_sem, add_i (show i + 1 < 9223372036854775808 by omega)]
        exact ih2 _ ⟨_, _, rfl, f7.trans f8, hi⟩
    · rintro I2 q ⟨H7, n7, rfl, f7, hi⟩
      show s_kilnlaw14_check_l109 lfp G (Runs F G) k I I2 (.rsl b o fls.length c 0) a3 (.ptr n3 0) (.rsl b o fls.length c 0) (.int .i64 (.ofNat fls.length) 0) (.int .i64 (.ofNat j) 0) (.rsl b (o + 0 * 10) (j - 0) (c - 0) 0) (.int .i64 (.ofNat j) 0) (.int .i64 (.ofNat j) 0) H7 n7
      delta s_kilnlaw14_check_l109
      have h7n := f7.le
      rw [List.drop_eq_nil_of_le (by simp; omega)] at hi
      have hi : false = S := hi
      rw [← hi] at hj
      have hj : page1 (namesOf (fls.take j) ++ [m.face.nm]) (fls.drop (j + 1)) = R := hj
      simp only [go_sem, lss_n, Nat.lt_irrefl, decide_false]
      delta s_kilnlaw14_check_j102
      have g7 := f7.get g6 (by omega)
      have f37 := f36.trans f7
      rw [s_padd, s_onV, show ldnV 4 (.ptr n3 (0 + 0)) G H7 = some (.agg [m.face.nm.v, m.face.sup.v, vf, vm]) from ldn_one g7 (by omega) (by show 4 ≤ 10; omega), s_onV]
      rw [s_bsl1 (z := 4) (L := [m.face.nm.v, m.face.sup.v, vf, vm]) rfl]
      have f11 : Kp H7 n7 (T.set H7 n7 (.arr 4 1 (T.set (T.set .e 0 [.str 0 0, .str 0 0, .nils, .nils]) 0 [m.face.nm.v, m.face.sup.v, vf, vm]))) (n7 + 1) := (Kp.refl _ _).new _ (Nat.le_refl _) (by omega)
      have e11 := (El_bsl1 (G := G) (z := 4) (by omega) rfl (T.get_set H7 n7 (.arr 4 1 (T.set (T.set .e 0 [.str 0 0, .str 0 0, .nils, .nils]) 0 [m.face.nm.v, m.face.sup.v, vf, vm])))).2
      generalize T.set H7 n7 (.arr 4 1 (T.set (T.set .e 0 [.str 0 0, .str 0 0, .nils, .nils]) 0 [m.face.nm.v, m.face.sup.v, vf, vm])) = H11 at f11 e11
      have f311 := f37.trans f11
      have h311 := f311.le
      have fin : ∀ va' H12, (∀ id, id < n + 1 → T.get H12 id = T.get H11 id) → Own G H12 (n + 1) (n7 + 1 + 1) 4 va' (LS ++ [[m.face.nm.v, m.face.sup.v, vf, vm]]) →
          s_kilnlaw14_check_j93 lfp G (Runs F G) k I (.rsl b o fls.length c 0) va' (.rsl b o fls.length c 0) (.int .i64 (.ofNat fls.length) 0) (.int .i64 (.ofNat j) 0) H12 (n7 + 1 + 1) := by
        intro va' H12 hs hown
        delta s_kilnlaw14_check_j93
        simp only [go_sem, add_i (show j + 1 < 9223372036854775808 by omega)]
        have k12 : ∀ id, id < n → T.get H12 id = T.get H3 id := fun id hid => (hs id (by omega)).trans (f311.same id (by omega))
        have k3 : Kp H3 n H12 n := ⟨Nat.le_refl _, k12⟩
        refine ih _ ⟨_, _, _, LS ++ [[m.face.nm.v, m.face.sup.v, vf, vm]], rfl, ⟨by omega, fun id hid => (k12 id hid).trans (f3.same id hid)⟩, by simp [hLS], .inr ⟨by omega, by omega, hown⟩, ?_, ?_, ?_⟩
        · intro i L c hi hc
          rw [show facesOf (fls.take (j + 1)) = facesOf (fls.take j) ++ [m.face] from htf] at hc
          have hlf : (facesOf (fls.take j)).length = j := by simp; omega
          by_cases hij : i < j
          · rw [List.getElem?_append_left (by omega)] at hi hc
            exact (hfv i L c hi hc).ke k3.ke
          · rw [List.getElem?_append_right (by omega)] at hi hc
            have : i = j := by have := (List.getElem?_eq_some_iff.1 hi).1; simp at this; omega
            subst this
            rw [hLS, Nat.sub_self] at hi
            rw [hlf, Nat.sub_self] at hc
            simp at hi hc
            subst hi; subst hc
            exact ⟨vf, vm, mws, hfile.face.ke k3.ke, rfl⟩
        · rw [show namesOf (fls.take (j + 1)) = namesOf (fls.take j) ++ [m.face.nm] from htn]; exact hj
        · intro f hf'
          rw [hto] at hf'
          rcases List.mem_append.1 hf' with h | h
          · exact hok f h
          · simp at h; subst h; exact h1
      rcases ha with ⟨h0, rfl, hn⟩ | ⟨hj0, hn, ho⟩
      · have hnil : LS = [] := List.length_eq_zero_iff.1 (by omega)
        subst hnil
        refine sl0_app e11 (by simp) (by simp) fun v' H12 hg hs hlo => ?_
        exact fin v' H12 (fun id hid => hs id (by omega)) ((Own.sub (m' := n + 1) ⟨hg, hlo⟩ (by omega)))
      · have ho11 := ho.kp f311
        refine ho11.gr.app (by omega) ho11.lo e11 ?_ ?_ ?_
        · simp [hLS]; omega
        · intro v' H12 hg hs hlo
          exact fin v' H12 (fun id hid => hs id (by omega) fun h => by have := (ho11.gr.lo h).1; omega) ⟨hg, hlo⟩
        · intro h; cases h
  · rintro I q ⟨a3, H3, n3, LS, rfl, f3, hLS, ha, hfv, hj, hok⟩
    show s_kilnlaw14_check_l91 lfp G (Runs F G) k I v a3 v (.int .i64 (.ofNat fls.length) 0) (.int .i64 (.ofNat fls.length) 0) H3 n3
    delta s_kilnlaw14_check_l91
    rw [List.drop_eq_nil_of_le (Nat.le_refl _)] at hj
    rw [List.take_of_length_le (Nat.le_refl _)] at hfv hok
    have hj : (0 : Int) = R := hj
    rw [← hj] at hk
    have hk : ∀ H' n', Kp H n H' n' → k (.int .i64 (page2 (tabOf (facesOf fls)) fls) 0) H' n' := hk
    have hn3 : n < n3 := by rcases ha with ⟨_, _, h⟩ | ⟨_, h, _⟩ <;> exact h
    have hel : El G H3 a3 4 LS := by
      rcases ha with ⟨h0, rfl, _⟩ | ⟨_, _, h⟩
      · have : LS = [] := List.length_eq_zero_iff.1 (by omega)
        subst this; exact ⟨rfl, rfl⟩
      · exact h.el (by omega)
    have hlo : Lo a3 n3 := by
      rcases ha with ⟨_, rfl, h⟩ | ⟨_, _, h⟩
      · intro id hid; cases hid; exact h
      · exact h.lo
    simp only [go_sem, lss_n, Nat.lt_irrefl, decide_false]
    delta s_kilnlaw14_check_j2
    refine New_c (m := n) (cs := facesOf fls) ⟨⟨LS, hel, by simp [hLS], hfv⟩, hlo, by simp; omega, by omega⟩ fun H4 n4 t a b f4 gt hfa hseen ha hab hbt htn => ?_
    simp only [go_sem, hf.len]
    have h4n := f4.le
    have htab : TabAt G H4 n4 t a b (tabOf (facesOf fls)) := by
      obtain ⟨ps, hps1, hkey, hval⟩ := hfa.is
      exact ⟨htn, by omega, by omega, by omega, by omega, gt, ⟨ps, hps1, hkey, fun s v c x y => (hval s v c x y).up (by omega)⟩, hseen⟩
    have htlen := tabFrom_len (facesOf fls) []
    have hps : ∀ s c, lkp (tabOf (facesOf fls)) s = some c → ∀ m ∈ c.ms, m.ps.length ≤ 100000 := fun s c h m hm => by
      obtain ⟨f, hf1, rfl⟩ := List.mem_map.1 (tabOf_mem h)
      have h1 := hok f hf1
      unfold fileOk at h1
      rw [Bool.and_eq_true] at h1
      have := faceOk_200 h1.1 m hm
      omega
    refine PageTwo_c hG (by simp at htlen; unfold tabOf; omega) hps htab (hf0 H4 n4) fun H5 n5 f5 => hk _ _ ⟨by have := f5.le; omega, fun id hid => ?_⟩
    exact (f5.same id (by omega) (by omega)).trans ((f4.same id (by omega)).trans (f3.same id hid))
end Go.RL

/- Plain: what files need to fit together; the order is nothing to it. -/
namespace Go.RL
open Go.Eng
set_option maxRecDepth 100000
/- tables that answer alike -/
def TabEq (a b : Tab) : Prop := a.length = b.length ∧ ∀ s, lkp a s = lkp b s
section
variable {a b : Tab}
theorem aboveM_congr (h : ∀ s, lkp a s = lkp b s) : ∀ (m : Nat) (out : List St) (s : St), aboveM m a out s = aboveM m b out s
  | 0, _, _ => rfl
  | m + 1, out, s => by
    unfold aboveM
    rw [h]
    cases lkp b s with
    | none => rfl
    | some c => simp only [aboveM_congr h m]
theorem above_congr (h : TabEq a b) (s : St) : above a s = above b s := by unfold above; rw [h.1]; exact aboveM_congr h.2 _ _ _
theorem knownT_congr (h : TabEq a b) : knownT a = knownT b := by funext t; unfold knownT; rw [h.2]
theorem fldIn_congr (h : TabEq a b) (s : St) : ∀ cs, fldIn a s cs = fldIn b s cs
  | [] => rfl
  | c :: cs => by unfold fldIn; rw [h.2, fldIn_congr h s cs]
theorem fldT_congr (h : TabEq a b) (c s : St) : fldT a c s = fldT b c s := by unfold fldT; rw [above_congr h, fldIn_congr h]
theorem methIn_congr (h : TabEq a b) (s : St) (st : Bool) : ∀ cs, methIn a s st cs = methIn b s st cs
  | [] => rfl
  | c :: cs => by unfold methIn; rw [h.2, methIn_congr h s st cs]
theorem methT_congr (h : TabEq a b) (c s : St) (st : Bool) : methT a c s st = methT b c s st := by unfold methT; rw [above_congr h, methIn_congr h]
theorem findIn_congr (h : TabEq a b) (p : PM) : ∀ cs, findIn a p cs = findIn b p cs
  | [] => rfl
  | c :: cs => by unfold findIn; rw [h.2, findIn_congr h p cs]
theorem findT_congr (h : TabEq a b) (p : PM) : findT a p = findT b p := by unfold findT; rw [above_congr h, findIn_congr h]
theorem methsC_congr (h : TabEq a b) (sup : St) : ∀ ms, methsC a sup ms = methsC b sup ms
  | [] => rfl
  | m :: ms => by unfold methsC overM; rw [knownT_congr h, methT_congr h, methsC_congr h sup ms]
theorem fldsC_congr (h : TabEq a b) (sup : St) (r : Int) : ∀ l, fldsC a sup r l = fldsC b sup r l
  | [] => rfl
  | f :: l => by unfold fldsC; rw [knownT_congr h, fldT_congr h, fldsC_congr h sup r l]
theorem checkM_congr (h : TabEq a b) (s : St) : checkM a s = checkM b s := by
  unfold checkM
  rw [h.2 s, above_congr h, h.2]
  cases lkp b s with
  | none => rfl
  | some c => simp only [methsC_congr h, fldsC_congr h]
theorem poolT_congr (h : TabEq a b) (p : Pool) : poolT a p = poolT b p := by
  unfold poolT
  have e1 : fldOkT a = fldOkT b := by funext f; unfold fldOkT; rw [fldT_congr h]
  have e2 : findT a = findT b := by funext f; exact findT_congr h f
  rw [knownT_congr h, e1, e2]
end
/- a table of faces whose names are apart -/
theorem put1_len {α : Type} (s : St) (v : α) : ∀ (ps : List (St × α)), (put1 s v ps).length = if (lkp ps s).isSome then ps.length else ps.length + 1
  | [] => rfl
  | p :: ps => by
    have ih := put1_len s v ps
    unfold put1 lkp
    by_cases h : p.1 = s
    · simp [h]
    · unfold lkp at ih
      simp only [h, if_false, List.length_cons, List.find?_cons, decide_false]
      rw [ih]
      split <;> rename_i h2 <;> simp [h2]
def faceIn (cs : List Fc) (s : St) : Option Fc := cs.find? fun c => decide (c.nm = s)
theorem faceIn_none {cs : List Fc} {s : St} (h : s ∉ cs.map (fun c => c.nm)) : faceIn cs s = none := by
  unfold faceIn
  rw [List.find?_eq_none]
  intro c hc hd
  exact h (List.mem_map.2 ⟨c, hc, of_decide_eq_true hd⟩)
theorem lkp_tabFrom : ∀ (cs : List Fc) (fs : Tab) (s : St), (cs.map fun c => c.nm).Nodup → lkp (tabFrom fs cs) s = (match faceIn cs s with | some c => some c | none => lkp fs s)
  | [], _, _, _ => rfl
  | c :: cs, fs, s, h => by
    rw [List.map_cons, List.nodup_cons] at h
    show lkp (tabFrom (put1 c.nm c fs) cs) s = _
    rw [lkp_tabFrom cs _ s h.2, lkp_put1]
    unfold faceIn
    rw [List.find?_cons]
    by_cases e : c.nm = s
    · subst e
      have := faceIn_none h.1
      unfold faceIn at this
      rw [this]
      simp
    · simp [e]
theorem lkp_tabOf {cs : List Fc} (h : (cs.map fun c => c.nm).Nodup) (s : St) : lkp (tabOf cs) s = faceIn cs s := by
  unfold tabOf; rw [lkp_tabFrom cs [] s h]; cases faceIn cs s <;> rfl
theorem len_tabFrom : ∀ (cs : List Fc) (fs : Tab), (cs.map fun c => c.nm).Nodup → (∀ c ∈ cs, lkp fs c.nm = none) → (tabFrom fs cs).length = fs.length + cs.length
  | [], _, _, _ => rfl
  | c :: cs, fs, h, hd => by
    rw [List.map_cons, List.nodup_cons] at h
    show (tabFrom (put1 c.nm c fs) cs).length = _
    rw [len_tabFrom cs _ h.2, put1_len, hd c (List.mem_cons_self ..)]
    · simp only [Option.isSome_none, List.length_cons]; simp; omega
    · intro d hdm
      rw [lkp_put1, if_neg, hd d (List.mem_cons_of_mem _ hdm)]
      intro e; exact h.1 (e ▸ List.mem_map.2 ⟨d, hdm, rfl⟩)
theorem len_tabOf {cs : List Fc} (h : (cs.map fun c => c.nm).Nodup) : (tabOf cs).length = cs.length := by
  unfold tabOf; rw [len_tabFrom cs [] h fun _ _ => rfl]; simp
theorem faceIn_some {cs : List Fc} (h : (cs.map fun c => c.nm).Nodup) {s : St} {c : Fc} : faceIn cs s = some c ↔ c ∈ cs ∧ c.nm = s := by
  induction cs with
  | nil => simp [faceIn]
  | cons d cs ih =>
    rw [List.map_cons, List.nodup_cons] at h
    have ih := ih h.2
    unfold faceIn at ih ⊢
    rw [List.find?_cons]
    by_cases e : d.nm = s
    · simp only [e, decide_true, Option.some.injEq, List.mem_cons]
      constructor
      · rintro rfl; exact ⟨.inl rfl, e⟩
      · rintro ⟨rfl | hc, h2⟩
        · rfl
        · exact absurd (List.mem_map.2 ⟨c, hc, h2.trans e.symm⟩) h.1
    · simp only [e, decide_false, List.mem_cons]
      rw [ih]
      constructor
      · rintro ⟨h1, h2⟩; exact ⟨.inr h1, h2⟩
      · rintro ⟨rfl | h1, h2⟩
        · exact absurd h2 e
        · exact ⟨h1, h2⟩
theorem tabEq_perm {l1 l2 : List Fc} (hp : l1.Perm l2) (h : (l1.map fun c => c.nm).Nodup) : TabEq (tabOf l1) (tabOf l2) := by
  have h2 : (l2.map fun c => c.nm).Nodup := (hp.map _).nodup_iff.1 h
  refine ⟨by rw [len_tabOf h, len_tabOf h2]; exact hp.length_eq, fun s => ?_⟩
  rw [lkp_tabOf h, lkp_tabOf h2]
  apply Option.ext
  intro c
  rw [faceIn_some h, faceIn_some h2, hp.mem_iff]
/- what files need -/
theorem link1_zero : ∀ (fls : List Fl) (acc : List (St × Fl)), link1 acc fls = 0 ↔ (∀ f ∈ fls, fileOk f = true) ∧ (namesOf fls).Nodup ∧ ∀ f ∈ fls, lkp acc f.face.nm = none
  | [], _ => by simp [link1]
  | f :: fs, acc => by
    unfold link1
    have ih := link1_zero fs (put1 f.face.nm f acc)
    cases h1 : fileOk f with
    | false =>
      simp only [Bool.not_false, cond_true]
      constructor
      · intro h; cases h
      · intro h; have := h.1 f (List.mem_cons_self ..); rw [h1] at this; cases this
    | true =>
      simp only [Bool.not_true, cond_false]
      cases h2 : lkp acc f.face.nm with
      | some x =>
        simp only [Option.isSome_some, cond_true]
        constructor
        · intro h; cases h
        · intro h; have := h.2.2 f (List.mem_cons_self ..); rw [h2] at this; cases this
      | none =>
        simp only [Option.isSome_none, cond_false]
        rw [ih]
        simp only [namesOf, List.map_cons, List.nodup_cons, List.mem_cons, forall_eq_or_imp, lkp_put1]
        constructor
        · rintro ⟨a1, a2, a3⟩
          refine ⟨⟨h1, a1⟩, ⟨?_, a2⟩, h2, fun g hg => ?_⟩
          · intro hm
            obtain ⟨g, hg, e⟩ := List.mem_map.1 hm
            have := a3 g hg
            rw [if_pos e.symm] at this; cases this
          · have := a3 g hg
            split at this
            · cases this
            · exact this
        · rintro ⟨⟨_, a1⟩, ⟨a4, a2⟩, _, a3⟩
          refine ⟨a1, a2, fun g hg => ?_⟩
          rw [if_neg]
          · exact a3 g hg
          · intro e; exact a4 (List.mem_map.2 ⟨g, hg, e.symm⟩)
theorem link2_zero (t : Tab) : ∀ (fls : List Fl), link2 t fls = 0 ↔ ∀ f ∈ fls, checkM t f.face.nm = 0 ∧ poolT t f.pool = true
  | [] => by simp [link2]
  | f :: fs => by
    unfold link2
    have ih := link2_zero t fs
    cases h1 : checkM t f.face.nm == 0 with
    | false =>
      simp only [Bool.not_false, cond_true, List.mem_cons, forall_eq_or_imp]
      have h1 : checkM t f.face.nm ≠ 0 := by simpa using h1
      exact ⟨fun h => absurd h h1, fun h => absurd h.1.1 h1⟩
    | true =>
      have h1 : checkM t f.face.nm = 0 := by simpa using h1
      simp only [Bool.not_true, cond_false]
      cases h2 : poolT t f.pool with
      | false =>
        simp only [Bool.not_false, cond_true, List.mem_cons, forall_eq_or_imp, h2]
        exact ⟨fun h => absurd h (by decide), fun h => absurd h.1.2 (by simp)⟩
      | true =>
        simp only [Bool.not_true, cond_false, List.mem_cons, forall_eq_or_imp, h2, h1, ih]
        simp
structure Fit (fls : List Fl) : Prop where
  len : fls.length ≤ 200
  ok : ∀ f ∈ fls, fileOk f = true
  apart : (namesOf fls).Nodup
  stand : ∀ f ∈ fls, checkM (tabOf (facesOf fls)) f.face.nm = 0 ∧ poolT (tabOf (facesOf fls)) f.pool = true
theorem linkM_zero {fls : List Fl} : linkM fls = 0 ↔ Fit fls := by
  unfold linkM
  have h1 := link1_zero fls []
  have h2 := link2_zero (tabOf (facesOf fls)) fls
  by_cases h : 200 < fls.length
  · rw [decide_eq_true h]
    exact ⟨fun h => (by cases h), fun h' => absurd h'.len (by omega)⟩
  · rw [decide_eq_false h]
    simp only [cond_false]
    cases h3 : link1 [] fls == 0 with
    | false =>
      have h3 : link1 [] fls ≠ 0 := by simpa using h3
      simp only [Bool.not_false, cond_true]
      exact ⟨fun h => absurd h h3, fun h' => absurd (h1.2 ⟨h'.ok, h'.apart, fun _ _ => rfl⟩) h3⟩
    | true =>
      have h3 : link1 [] fls = 0 := by simpa using h3
      simp only [Bool.not_true, cond_false]
      rw [h2]
      have h4 := h1.1 h3
      exact ⟨fun h' => ⟨by omega, h4.1, h4.2.1, h'⟩, fun h' => h'.stand⟩
theorem names_faces (fls : List Fl) : (facesOf fls).map (fun c => c.nm) = namesOf fls := by simp
theorem Fit.tab {l1 l2 : List Fl} (h : Fit l1) (hp : l1.Perm l2) : TabEq (tabOf (facesOf l1)) (tabOf (facesOf l2)) := tabEq_perm (hp.map _) (by rw [names_faces]; exact h.apart)
theorem Fit.perm {l1 l2 : List Fl} (h : Fit l1) (hp : l1.Perm l2) : Fit l2 := by
  have ht := h.tab hp
  refine ⟨by rw [← hp.length_eq]; exact h.len, fun f hf => h.ok f (hp.mem_iff.2 hf), (hp.map _).nodup_iff.1 h.apart, fun f hf => ?_⟩
  rw [← checkM_congr ht, ← poolT_congr ht]
  exact h.stand f (hp.mem_iff.2 hf)
theorem Fit.look {fls : List Fl} (h : Fit fls) {f : Fl} (hf : f ∈ fls) : lkp (tabOf (facesOf fls)) f.face.nm = some f.face := by
  rw [lkp_tabOf (by rw [names_faces]; exact h.apart), faceIn_some (by rw [names_faces]; exact h.apart)]
  exact ⟨List.mem_map.2 ⟨f, hf, rfl⟩, rfl⟩
/- names in order -/
theorem sltF_0 (l1 c1 l2 c2 : Nat) : sltF 0 l1 c1 l2 c2 = false := rfl
theorem sltF_n0 (f l1 c1 c2 : Nat) : sltF (f + 1) l1 c1 0 c2 = false := rfl
theorem sltF_0n (f c1 l2 c2 : Nat) : sltF (f + 1) 0 c1 (l2 + 1) c2 = true := rfl
theorem sltF_nn (f l1 c1 l2 c2 : Nat) : sltF (f + 1) (l1 + 1) c1 (l2 + 1) c2 = if c1 % 256 = c2 % 256 then sltF f l1 (c1 / 256) l2 (c2 / 256) else decide (c1 % 256 < c2 % 256) := by
  show Bool.rec (motive := fun _ => Bool) (Nat.blt (c1 % 256) (c2 % 256)) (sltF f l1 (c1 / 256) l2 (c2 / 256)) (Nat.beq (c1 % 256) (c2 % 256)) = _
  by_cases h : c1 % 256 = c2 % 256
  · rw [if_pos h, show Nat.beq (c1 % 256) (c2 % 256) = true by simp [h]]
  · rw [if_neg h, show Nat.beq (c1 % 256) (c2 % 256) = false by rw [Bool.eq_false_iff]; simp [h]]
    show Nat.blt (c1 % 256) (c2 % 256) = _
    rw [Bool.eq_iff_iff, Nat.blt_eq]; simp
theorem sltF_irrefl : ∀ (f l c : Nat), sltF f l c l c = false
  | 0, _, _ => rfl
  | f + 1, 0, c => rfl
  | f + 1, l + 1, c => by rw [sltF_nn, if_pos rfl]; exact sltF_irrefl f l _
theorem sltF_trans : ∀ (f g h l1 c1 l2 c2 l3 c3 : Nat), l2 < f → l3 < g → l3 < h → sltF f l1 c1 l2 c2 = true → sltF g l2 c2 l3 c3 = true → sltF h l1 c1 l3 c3 = true
  | 0, _, _, _, _, _, _, _, _, h, _, _, _, _ => by omega
  | _, 0, _, _, _, _, _, _, _, _, h, _, _, _ => by omega
  | _, _, 0, _, _, _, _, _, _, _, _, h, _, _ => by omega
  | f + 1, g + 1, h + 1, l1, c1, 0, c2, l3, c3, _, _, _, h1, _ => by rw [sltF_n0] at h1; cases h1
  | f + 1, g + 1, h + 1, l1, c1, l2 + 1, c2, 0, c3, _, _, _, _, h2 => by rw [sltF_n0] at h2; cases h2
  | f + 1, g + 1, h + 1, 0, c1, l2 + 1, c2, l3 + 1, c3, _, _, _, _, _ => sltF_0n ..
  | f + 1, g + 1, h + 1, l1 + 1, c1, l2 + 1, c2, l3 + 1, c3, a1, a2, a3, h1, h2 => by
    rw [sltF_nn] at h1 h2 ⊢
    by_cases e1 : c1 % 256 = c2 % 256
    · rw [if_pos e1] at h1
      by_cases e2 : c2 % 256 = c3 % 256
      · rw [if_pos e2] at h2
        rw [if_pos (e1.trans e2)]
        exact sltF_trans f g h _ _ _ _ _ _ (by omega) (by omega) (by omega) h1 h2
      · rw [if_neg e2] at h2
        have := of_decide_eq_true h2
        rw [if_neg (by omega)]; exact decide_eq_true (by omega)
    · rw [if_neg e1] at h1
      have := of_decide_eq_true h1
      by_cases e2 : c2 % 256 = c3 % 256
      · rw [if_neg (by omega)]; exact decide_eq_true (by omega)
      · rw [if_neg e2] at h2
        have := of_decide_eq_true h2
        rw [if_neg (by omega)]; exact decide_eq_true (by omega)
def ltS (a b : St) : Prop := slt a.1 a.2 b.1 b.2 = true
theorem ltS_irrefl (a : St) : ¬ ltS a a := by unfold ltS slt; rw [sltF_irrefl]; simp
theorem ltS_trans {a b c : St} (h : ltS a b) (h2 : ltS b c) : ltS a c := sltF_trans _ _ _ _ _ _ _ _ _ (Nat.lt_succ_self _) (Nat.lt_succ_self _) (Nat.lt_succ_self _) h h2
theorem leS_not {a b : St} (h : (!leS a b) = true) : ltS b a := by
  unfold leS at h
  show slt b.1 b.2 a.1 a.2 = true
  cases hs : slt b.1 b.2 a.1 a.2 with
  | true => rfl
  | false => rw [hs] at h; cases h
/- methods of a right face: their names rise -/
theorem methsOk_lt : ∀ (ms : List Meth) (a : St), methsOk a ms = true → ∀ m ∈ ms, ltS a m.nm
  | [], _, _, m, h => by cases h
  | x :: ms, a, h, m, hm => by
    unfold methsOk at h
    simp only [Bool.and_eq_true] at h
    have h0 := leS_not h.1
    rcases List.mem_cons.1 hm with rfl | hm
    · exact h0
    · exact ltS_trans h0 (methsOk_lt ms x.nm h.2.2.2.2.2 m hm)
theorem methM_self : ∀ (ms : List Meth) (a : St), methsOk a ms = true → ∀ m ∈ ms, methM m.nm ms = some m
  | [], _, _, m, h => by cases h
  | x :: ms, a, h, m, hm => by
    unfold methsOk at h
    simp only [Bool.and_eq_true] at h
    unfold methM
    rcases List.mem_cons.1 hm with rfl | hm
    · simp
    · have hlt := methsOk_lt ms x.nm h.2.2.2.2.2 m hm
      have hne : ¬ (x.nm.1 = m.nm.1 ∧ x.nm.2 = m.nm.2) := fun e => by
        have e : x.nm = m.nm := Prod.ext e.1 e.2
        rw [e] at hlt; exact ltS_irrefl _ hlt
      rw [decide_eq_false hne]
      exact methM_self ms x.nm h.2.2.2.2.2 m hm
theorem sameT_refl : ∀ l : List Ty, sameT l l = true
  | [] => rfl
  | a :: l => by unfold sameT Ty.is; rw [sameT_refl l]; simp
theorem same_refl (m : Meth) : m.same m = true := by unfold Meth.same Ty.is; rw [sameT_refl]; simp
theorem aboveM_pre : ∀ (m : Nat) (fs : Tab) (out : List St) (s : St), ∃ r, (aboveM m fs out s).1 = out ++ r
  | 0, _, out, _ => ⟨[], by simp [aboveM]⟩
  | m + 1, fs, out, s => by
    unfold aboveM
    cases decide (s.1 = 0 ∧ s.2 = 0) with
    | true => exact ⟨[], by simp⟩
    | false =>
      simp only [cond_false]
      cases lkp fs s with
      | none => exact ⟨[], by simp⟩
      | some c =>
        show ∃ r, (bif hasS s out then (out, false) else aboveM m fs (out ++ [s]) c.sup).1 = out ++ r
        cases hasS s out with
        | true => exact ⟨[], by simp⟩
        | false =>
          obtain ⟨r, h⟩ := aboveM_pre m fs (out ++ [s]) c.sup
          exact ⟨s :: r, by simp only [cond_false]; rw [h]; simp⟩
theorem above_self {fs : Tab} {s : St} {c : Fc} (h : lkp fs s = some c) (h0 : ¬ (s.1 = 0 ∧ s.2 = 0)) : ∃ r, (above fs s).1 = s :: r := by
  unfold above aboveM
  rw [decide_eq_false h0, h]
  show ∃ r, (aboveM fs.length fs [s] c.sup).1 = s :: r
  obtain ⟨r, h⟩ := aboveM_pre fs.length fs [s] c.sup
  exact ⟨r, h⟩
theorem fileOk_face {f : Fl} (h : fileOk f = true) : faceOk f.face = true := by unfold fileOk at h; rw [Bool.and_eq_true] at h; exact h.1
theorem faceOk_nm {c : Fc} (h : faceOk c = true) : ¬ (c.nm.1 = 0 ∧ c.nm.2 = 0) := by
  unfold faceOk at h
  simp only [Bool.and_eq_true] at h
  have := h.1
  unfold classS upper at this
  simp at this
  omega
theorem faceOk_ms {c : Fc} (h : faceOk c = true) : methsOk (0, 0) c.ms = true := by
  unfold faceOk at h
  simp only [Bool.and_eq_true] at h
  exact h.2.2.2.2.2.2.2
/- a method of a class's own is its own -/
theorem Fit.find {fls : List Fl} (h : Fit fls) {f : Fl} (hf : f ∈ fls) {m : Meth} (hm : m ∈ f.face.ms) : findT (tabOf (facesOf fls)) ⟨m, f.face.nm⟩ = some f.face.nm := by
  have hl := h.look hf
  have hok := fileOk_face (h.ok f hf)
  obtain ⟨r, hr⟩ := above_self hl (faceOk_nm hok)
  unfold findT
  show findIn _ _ (above _ f.face.nm).1 = _
  rw [hr]
  unfold findIn
  rw [hl]
  show (match methM m.nm f.face.ms with | some o => bif o.same m then some f.face.nm else _ | none => _) = _
  rw [methM_self f.face.ms (0, 0) (faceOk_ms hok) m hm]
  simp only [same_refl, cond_true]
theorem Fit.short {fls : List Fl} (h : Fit fls) : (tabOf (facesOf fls)).length ≤ 1000 := by
  have := tabFrom_len (facesOf fls) []
  have := h.len
  unfold tabOf
  simp at *
  omega
end Go.RL

/- Plain: the first error by the page is the first error of the link; files by their names. -/
namespace Go.RL
open Go.Eng
set_option maxRecDepth 100000
theorem link1_page : ∀ (fls : List Fl) (acc : List (St × Fl)) (xs : List St), (∀ s, (lkp acc s).isSome = hasS s xs) → link1 acc fls = page1 xs fls
  | [], _, _, _ => rfl
  | f :: fs, acc, xs, h => by
    unfold link1 page1
    rw [h, link1_page fs (put1 f.face.nm f acc) (xs ++ [f.face.nm]) fun s => ?_]
    rw [lkp_put1]
    unfold hasS
    rw [List.any_append]
    have h' := h s
    unfold hasS at h'
    by_cases e : f.face.nm = s
    · rw [if_pos e]; subst e; simp
    · rw [if_neg e, h']
      have : decide (s.1 = f.face.nm.1 ∧ s.2 = f.face.nm.2) = false := decide_eq_false fun ⟨a, b⟩ => e (Prod.ext a.symm b.symm)
      simp only [List.any_cons, List.any_nil, this, Bool.or_false]
theorem pool_page {t : Tab} {p : Pool} (h : poolOk p = true) : poolT t p = pageOk t p := by
  unfold poolT pageOk
  have hn : p.names.all (fun c => [(⟨c, false⟩ : Ty)].all (knownT t)) = p.names.all (fun c => (lkp t c).isSome) := by
    unfold poolOk poolRest at h
    simp only [Bool.and_eq_true] at h
    have h := h.2.1
    rw [List.all_eq_true] at h
    have : ∀ c ∈ p.names, [(⟨c, false⟩ : Ty)].all (knownT t) = (lkp t c).isSome := fun c hc => by
      have hc := h c hc
      unfold classN at hc
      rw [Bool.and_eq_true] at hc
      simp only [List.all_cons, List.all_nil, Bool.and_true]
      unfold knownT goodS goodT
      simp only [hc.1, hc.2, Bool.not_true, Bool.false_or, Bool.true_and, Bool.or_true]
    rw [Bool.eq_iff_iff, List.all_eq_true, List.all_eq_true]
    constructor
    · intro h1 c hc; rw [← this c hc]; exact h1 c hc
    · intro h1 c hc; rw [this c hc]; exact h1 c hc
  rw [hn]
  cases p.names.all (fun c => (lkp t c).isSome) <;> cases p.types.all (knownT t) <;> simp
theorem fileOk_pool {f : Fl} (h : fileOk f = true) : poolOk f.pool = true := by unfold fileOk at h; simp only [Bool.and_eq_true] at h; exact h.2.1
theorem fileOk_len {f : Fl} (h : fileOk f = true) : f.bodies.length = f.face.ms.length := by unfold fileOk at h; simp only [Bool.and_eq_true] at h; exact of_decide_eq_true h.2.2.1
theorem link2_page (t : Tab) : ∀ (fls : List Fl), (∀ f ∈ fls, fileOk f = true) → link2 t fls = page2 t fls
  | [], _ => rfl
  | f :: fs, h => by
    unfold link2 page2
    rw [link2_page t fs fun g hg => h g (List.mem_cons_of_mem _ hg), pool_page (fileOk_pool (h f (List.mem_cons_self ..)))]
theorem linkM_page {fls : List Fl} (h8 : fls.length ≤ 200) : linkM fls = pageM fls := by
  unfold linkM pageM
  rw [decide_eq_false (by omega)]
  simp only [cond_false]
  rw [link1_page fls [] [] fun s => rfl]
  cases h : page1 [] fls == 0 with
  | false => rfl
  | true =>
    simp only [Bool.not_true, cond_false]
    have h1 : link1 [] fls = 0 := by rw [link1_page fls [] [] fun s => rfl]; simpa using h
    exact link2_page _ _ ((link1_zero fls []).1 h1).1
/- files by their names -/
def fileIn (cs : List Fl) (s : St) : Option Fl := cs.find? fun c => decide (c.face.nm = s)
theorem lkp_filesFrom : ∀ (cs : List Fl) (fs : List (St × Fl)) (s : St), (namesOf cs).Nodup → lkp (filesFrom fs cs) s = (match fileIn cs s with | some c => some c | none => lkp fs s)
  | [], _, _, _ => rfl
  | c :: cs, fs, s, h => by
    rw [namesOf, List.map_cons, List.nodup_cons] at h
    show lkp (filesFrom (put1 c.face.nm c fs) cs) s = _
    rw [lkp_filesFrom cs _ s h.2, lkp_put1]
    unfold fileIn
    rw [List.find?_cons]
    by_cases e : c.face.nm = s
    · have hno : cs.find? (fun c => decide (c.face.nm = s)) = none := by
        rw [List.find?_eq_none]
        intro d hd he
        exact h.1 (List.mem_map.2 ⟨d, hd, (of_decide_eq_true he).trans e.symm⟩)
      rw [hno]; simp [e]
    · simp [e]
theorem Fit.file {fls : List Fl} (h : Fit fls) {f : Fl} (hf : f ∈ fls) : lkp (filesOf fls) f.face.nm = some f := by
  rw [lkp_filesFrom fls [] _ h.apart]
  have : fileIn fls f.face.nm = some f := by
    have hap := h.apart
    clear h
    induction fls with
    | nil => cases hf
    | cons d fls ih =>
      rw [namesOf, List.map_cons, List.nodup_cons] at hap
      unfold fileIn
      rw [List.find?_cons]
      rcases List.mem_cons.1 hf with rfl | hf
      · simp
      · have hne : ¬ d.face.nm = f.face.nm := fun e => hap.1 (List.mem_map.2 ⟨f, hf, e.symm⟩)
        simp only [hne, decide_false]
        exact ih hf hap.2
  rw [this]
theorem Fit.noFile {fls : List Fl} (h : Fit fls) {s : St} (hs : classS s = false) : lkp (filesOf fls) s = none := by
  rw [lkp_filesFrom fls [] _ h.apart]
  have : fileIn fls s = none := by
    unfold fileIn
    rw [List.find?_eq_none]
    intro d hd he
    have e := of_decide_eq_true he
    have hok := fileOk_face (h.ok d hd)
    unfold faceOk at hok
    rw [Bool.and_eq_true] at hok
    rw [e, hs] at hok
    exact absurd hok.1 (by simp)
  rw [this]; rfl
theorem methIx_self : ∀ (ms : List Meth) (a : St), methsOk a ms = true → ∀ (i : Nat) (m : Meth), ms[i]? = some m → ∀ j, methIx m.nm ms j = some (j + i)
  | [], _, _, i, m, h, _ => by simp at h
  | x :: ms, a, hok, i, m, h, j => by
    unfold methsOk at hok
    simp only [Bool.and_eq_true] at hok
    show (bif decide (x.nm.1 = m.nm.1 ∧ x.nm.2 = m.nm.2) then some j else methIx m.nm ms (j + 1)) = _
    cases i with
    | zero => simp at h; subst h; simp
    | succ i =>
      have h : ms[i]? = some m := by simpa using h
      have hlt := methsOk_lt ms x.nm hok.2.2.2.2.2 m (List.mem_of_getElem? h)
      have hne : ¬ (x.nm.1 = m.nm.1 ∧ x.nm.2 = m.nm.2) := fun e => by
        have e : x.nm = m.nm := Prod.ext e.1 e.2
        rw [e] at hlt; exact ltS_irrefl _ hlt
      rw [decide_eq_false hne]
      simp only [cond_false]
      rw [methIx_self ms x.nm hok.2.2.2.2.2 i m h (j + 1), Nat.add_right_comm, Nat.add_assoc]
theorem Fit.pool {fls : List Fl} (h : Fit fls) {f : Fl} (hf : f ∈ fls) {p : PM} (hp : p ∈ f.pool.meths) : (findT (tabOf (facesOf fls)) p).isSome = true := by
  have := (h.stand f hf).2
  unfold poolT at this
  simp only [Bool.and_eq_true] at this
  exact List.all_eq_true.1 this.2.2.2 p hp
end Go.RL

/- LinkErrors, walked. -/
namespace Go.RL
open Go.Eng
set_option maxRecDepth 100000
structure ErrAt (G : Roms) (H : Heap) (n : Nat) (x : Img) (tb : Tab) (ff : List (St × Fl)) (ss : List St) (vn : V) : Prop where
  img : x.At G H n tb
  files : FilesAt G H n x.f ff
  fn : x.f < n
  fb : x.f ≠ x.b
  nm : El G H vn 1 (strs ss)
  nlo : Lo vn n
theorem ErrAt.kb {G : Roms} {H H' : Heap} {n n' : Nat} {x : Img} {tb : Tab} {ff : List (St × Fl)} {ss : List St} {vn : V} (h : ErrAt G H n x tb ff ss vn) (f : Kb x.b H n H' n') : ErrAt G H' n' x tb ff ss vn :=
  ⟨h.img.kb f, h.files.ke (f.ke h.img.tab.seen) (f.same _ h.fn h.fb), Nat.lt_of_lt_of_le h.fn f.le, h.fb, h.nm.ke h.nlo (f.ke h.img.tab.seen), h.nlo.mono f.le⟩
theorem ErrAt.kp {G : Roms} {H H' : Heap} {n n' : Nat} {x : Img} {tb : Tab} {ff : List (St × Fl)} {ss : List St} {vn : V} (h : ErrAt G H n x tb ff ss vn) (f : Kp H n H' n') : ErrAt G H' n' x tb ff ss vn := h.kb (f.kb h.img.tab.bn)
/- the file that is looked at -/
structure ErrF (G : Roms) (H : Heap) (n e : Nat) (x : Img) (tb : Tab) (ff : List (St × Fl)) (ss : List St) (vn : V) (m : Fl) (vf vm v0 v1 v2 v3 v4 vb : V) (mws ws bws : List V) : Prop where
  st : ErrAt G H n x tb ff ss vn
  en : e < n
  ex : e ≠ x.b
  g : T.get H e = some (one [m.face.nm.v, m.face.sup.v, vf, vm, v0, v1, v2, v3, v4, vb])
  ms : MethsAt G H n vm m.face.ms mws
  pl : PoolAt G H n m.pool v0 v1 v2 v3 v4 ws
  bd : BodiesAt G H n vb m.bodies bws
section
variable {G : Roms} {H H' : Heap} {n n' e : Nat} {x : Img} {tb : Tab} {ff : List (St × Fl)} {ss : List St} {vn : V} {m : Fl} {vf vm v0 v1 v2 v3 v4 vb : V} {mws ws bws : List V}
theorem ErrF.kb (h : ErrF G H n e x tb ff ss vn m vf vm v0 v1 v2 v3 v4 vb mws ws bws) (f : Kb x.b H n H' n') : ErrF G H' n' e x tb ff ss vn m vf vm v0 v1 v2 v3 v4 vb mws ws bws :=
  ⟨h.st.kb f, Nat.lt_of_lt_of_le h.en f.le, h.ex, f.get h.g h.en h.ex, h.ms.ke (f.ke h.st.img.tab.seen), h.pl.ke (f.ke h.st.img.tab.seen), h.bd.ke (f.ke h.st.img.tab.seen)⟩
theorem ErrF.kp (h : ErrF G H n e x tb ff ss vn m vf vm v0 v1 v2 v3 v4 vb mws ws bws) (f : Kp H n H' n') : ErrF G H' n' e x tb ff ss vn m vf vm v0 v1 v2 v3 v4 vb mws ws bws := h.kb (f.kb h.st.img.tab.bn)
end
section
variable {G : Roms} {H : Heap} {n e : Nat} {x : Img} {tb : Tab} {ff : List (St × Fl)} {ss : List St} {vn z1 z2 z3 : V} {m : Fl} {vf vm v0 v1 v2 v3 v4 vb : V} {mws ws bws : List V} {k : KV} {ih37 : (V × V × V × V × V × Heap × Nat) → Prop}
theorem ErrPool_c (h : ErrF G H n e x tb ff ss vn m vf vm v0 v1 v2 v3 v4 vb mws ws bws) (hx : tb.length ≤ 1000) (hp : ∀ p ∈ m.pool.meths, (findT tb p).isSome = true)
    (hk : ∀ H' n', ErrAt G H' n' x tb ff ss vn → s_kilnlaw14_LinkErrors_j39 lfp G (Runs F G) k ih37 (.ptr x.i 0) vn z1 z2 z3 H' n') :
    s_kilnlaw14_LinkErrors_j67 lfp G (Runs F G) k ih37 (.ptr x.i 0) vn (.ptr e 0) z1 z2 z3 H n := by
  delta s_kilnlaw14_LinkErrors_j67
  have hbig := h.pl.b4
  have l4 : lenV v4 = some (.int .i64 (.ofNat m.pool.meths.length) 0) := by rw [h.pl.e4.len, List.length_zipWith, h.pl.len4, Nat.min_self]
  simp only [go_sem, Nat.reduceAdd, ld1_one (off := 8) h.g (v := v4) rfl, l4]
  refine lfp_range (N := m.pool.meths.length) (J := fun j q => ∃ H' n', q = (V.ptr x.i 0, vn, z1, z2, z3, v4, V.int .i64 (.ofNat m.pool.meths.length) 0, V.int .i64 (.ofNat j) 0, H', n') ∧ ErrF G H' n' e x tb ff ss vn m vf vm v0 v1 v2 v3 v4 vb mws ws bws) ?_ ?_ ⟨H, n, rfl, h⟩
  · rintro I j q hlt ⟨H3, n3, rfl, h3⟩ ih
    show s_kilnlaw14_LinkErrors_l72 lfp G (Runs F G) k ih37 I (.ptr x.i 0) vn z1 z2 z3 v4 (.int .i64 (.ofNat m.pool.meths.length) 0) (.int .i64 (.ofNat j) 0) H3 n3
    delta s_kilnlaw14_LinkErrors_l72
    have hw : j < ws.length := by rw [h3.pl.len4]; exact hlt
    obtain ⟨q, hp', hld⟩ := h3.pl.e4.at (i := j) (c := m.pool.meths[j].cells ws[j]) (by rw [List.getElem?_zipWith]; simp [hlt, hw])
    have hty := h3.pl.at4 j _ _ (List.getElem?_eq_getElem hlt) (List.getElem?_eq_getElem hw)
    have his := hp _ (List.getElem_mem hlt)
    generalize m.pool.meths[j] = p at hld hty his
    generalize ws[j] = w at hld hty
    unfold PM.cells at hld
    simp only [go_sem, Nat.reduceAdd, lss_n, hlt, decide_true, hp', ldn_of hld]
    rw [T.set_set]
    have f4 : Kp H3 n3 (T.set H3 n3 (one [p.m.nm.v, .bool p.m.st, w, p.m.ret.nm.v, .bool p.m.ret.arr, p.own.v])) (n3 + 1) := (Kp.refl _ _).new _ (Nat.le_refl _) (by omega)
    have g4 := T.get_set H3 n3 (one [p.m.nm.v, .bool p.m.st, w, p.m.ret.nm.v, .bool p.m.ret.arr, p.own.v])
    generalize T.set H3 n3 (one [p.m.nm.v, .bool p.m.st, w, p.m.ret.nm.v, .bool p.m.ret.arr, p.own.v]) = H4 at f4 g4
    have h4 := h3.kp f4
    have hxb := h3.st.img.tab.bn
    refine Find_c (p := p) h4.st.img hx ⟨w, rfl, hty.kp f4⟩ fun H5 n5 f5 => ?_
    have h5 := h4.kb f5
    have g5 := f5.get g4 (by omega) (by omega)
    simp only [go_sem, Nat.reduceAdd, ld1_one (off := 0) h5.st.img.at' (v := .ptr x.t 0) rfl, ldn_all (m := 6) g5 (by omega) rfl]
    refine PageFind_c (p := p) h5.st.img.tab hx ⟨w, rfl, (hty.kp f4).ke (f5.ke h4.st.img.tab.seen)⟩ fun H6 n6 f6 => ?_
    rw [his]
    simp only [go_sem, ne_ss, s_notB, Bool.not_true, add_i (show j + 1 < 9223372036854775808 by unfold big at hbig; omega)]
    exact ih _ ⟨_, _, rfl, h5.kb f6⟩
  · rintro I q ⟨H3, n3, rfl, h3⟩
    show s_kilnlaw14_LinkErrors_l72 lfp G (Runs F G) k ih37 I (.ptr x.i 0) vn z1 z2 z3 v4 (.int .i64 (.ofNat m.pool.meths.length) 0) (.int .i64 (.ofNat m.pool.meths.length) 0) H3 n3
    delta s_kilnlaw14_LinkErrors_l72
    simp only [go_sem, lss_n, Nat.lt_irrefl, decide_false]
    exact hk _ _ h3.st
theorem ErrMeths_c (hG : GSub G) (h : ErrF G H n e x tb ff ss vn m vf vm v0 v1 v2 v3 v4 vb mws ws bws) (hx : tb.length ≤ 1000) (hp : ∀ p ∈ m.pool.meths, (findT tb p).isSome = true)
    (hff : lkp ff m.face.nm = some m) (hok : fileOk m = true)
    (hk : ∀ H' n', ErrAt G H' n' x tb ff ss vn → s_kilnlaw14_LinkErrors_j39 lfp G (Runs F G) k ih37 (.ptr x.i 0) vn z1 z2 z3 H' n') :
    lfp (V × V × V × V × V × V × V × V × V × Heap × Nat) (s_kilnlaw14_LinkErrors_l101b lfp G (Runs F G) k ih37) (.ptr x.i 0, vn, .ptr e 0, z1, z2, z3, vm, .int .i64 (.ofNat m.face.ms.length) 0, .int .i64 (.ofNat 0) 0, H, n) := by
  have hbig := h.ms.lt
  have hbl := fileOk_len hok
  have hms := faceOk_ms (fileOk_face hok)
  refine lfp_range (N := m.face.ms.length) (J := fun j q => ∃ H' n', q = (V.ptr x.i 0, vn, V.ptr e 0, z1, z2, z3, vm, V.int .i64 (.ofNat m.face.ms.length) 0, V.int .i64 (.ofNat j) 0, H', n') ∧ ErrF G H' n' e x tb ff ss vn m vf vm v0 v1 v2 v3 v4 vb mws ws bws) ?_ ?_ ⟨H, n, rfl, h⟩
  · rintro I j q hlt ⟨H3, n3, rfl, h3⟩ ih
    show s_kilnlaw14_LinkErrors_l101 lfp G (Runs F G) k ih37 I (.ptr x.i 0) vn (.ptr e 0) z1 z2 z3 vm (.int .i64 (.ofNat m.face.ms.length) 0) (.int .i64 (.ofNat j) 0) H3 n3
    delta s_kilnlaw14_LinkErrors_l101
    obtain ⟨q, w, hp', hld, hw⟩ := h3.ms.at hlt
    have hsj : m.face.ms[j]? = some m.face.ms[j] := List.getElem?_eq_getElem hlt
    have hix := methIx_self m.face.ms (0, 0) hms j _ hsj 0
    generalize m.face.ms[j] = s at hld hw hix
    unfold Meth.cells at hld
    simp only [go_sem, lss_n, hlt, decide_true, hp', ldn_of hld, Nat.reduceAdd]
    rw [T.set_set]
    have f4 : Kp H3 n3 (T.set H3 n3 (one [s.nm.v, .bool s.st, w, s.ret.nm.v, .bool s.ret.arr])) (n3 + 1) := (Kp.refl _ _).new _ (Nat.le_refl _) (by omega)
    have g4 := T.get_set H3 n3 (one [s.nm.v, .bool s.st, w, s.ret.nm.v, .bool s.ret.arr])
    generalize T.set H3 n3 (one [s.nm.v, .bool s.st, w, s.ret.nm.v, .bool s.ret.arr]) = H4 at f4 g4
    have h4 := h3.kp f4
    simp only [go_sem, Nat.reduceAdd, ld1_one (off := 0) h4.g (v := m.face.nm.v) rfl, ld1_one (off := 0) g4 (v := s.nm.v) rfl]
    refine Body_c (s := m.face.nm) (nm := s.nm) h4.st.img h4.st.files (Nat.le_refl _) h4.st.fn (fun f hf => by rw [hff] at hf; cases hf; exact hbl) (fun hno => absurd (hno m hff) (by rw [hix]; simp)) fun f j' bd w5 hf hj' hbd H5 n5 f5 hc => ?_
    rw [hff] at hf
    cases hf
    rw [hix] at hj'
    have hj' : 0 + j = j' := Option.some.inj hj'
    rw [Nat.zero_add] at hj'
    subst hj'
    have h5 := h4.kp f5
    unfold Bd.cells
    simp only [go_sem, Nat.reduceAdd]
    rw [T.set_set]
    have f6 : Kp H5 n5 (T.set H5 n5 (one [.int .i64 bd.locals 0, .int .i64 bd.stack 0, w5])) (n5 + 1) := (Kp.refl _ _).new _ (Nat.le_refl _) (by omega)
    have g6 := T.get_set H5 n5 (one [.int .i64 bd.locals 0, .int .i64 bd.stack 0, w5])
    generalize T.set H5 n5 (one [.int .i64 bd.locals 0, .int .i64 bd.stack 0, w5]) = H6 at f6 g6
    have h6 := h5.kp f6
    have hjb : j < m.bodies.length := by omega
    have hjw : j < bws.length := by rw [h6.bd.len]; exact hjb
    have hbd' : m.bodies[j] = bd := by rw [List.getElem?_eq_getElem hjb] at hbd; exact Option.some.inj hbd
    obtain ⟨p2, hp2, hld2⟩ := h6.bd.el.at (i := j) (c := m.bodies[j].cells bws[j]) (by rw [List.getElem?_zipWith]; simp [hjb, hjw])
    have hc2 := h6.bd.at' j _ _ (List.getElem?_eq_getElem hjb) (List.getElem?_eq_getElem hjw)
    rw [hbd'] at hld2 hc2
    generalize bws[j] = w7 at hld2 hc2
    obtain ⟨r0, hr0, hl0⟩ := ldP_sub1 hG (o := 0) (x := .int .i64 bd.locals 0) hld2 rfl rfl
    obtain ⟨r2, hr2, hl2⟩ := ldP_sub1 hG (o := 2) (x := w7) hld2 rfl rfl
    have lw : lenV w5 = some (.int .i64 (.ofNat bd.code.length) 0) := by rw [hc.el.len, List.length_map]
    have lw2 : lenV w7 = some (.int .i64 (.ofNat bd.code.length) 0) := by rw [hc2.el.len, List.length_map]
    simp only [s_notB, Bool.not_true, go_sem, Nat.reduceAdd, ld1_one (off := 0) g6 (v := .int .i64 bd.locals 0) rfl, ld1_one (off := 2) g6 (v := w5) rfl, lw, ld1_one (off := 9) h6.g (v := vb) rfl, hp2, hr2, hl2, lw2, neq_self, hr0, hl0,
      add_i (show j + 1 < 9223372036854775808 by unfold big at hbig; omega)]
    exact ih _ ⟨_, _, rfl, h6⟩
  · rintro I q ⟨H3, n3, rfl, h3⟩
    show s_kilnlaw14_LinkErrors_l101 lfp G (Runs F G) k ih37 I (.ptr x.i 0) vn (.ptr e 0) z1 z2 z3 vm (.int .i64 (.ofNat m.face.ms.length) 0) (.int .i64 (.ofNat m.face.ms.length) 0) H3 n3
    delta s_kilnlaw14_LinkErrors_l101
    simp only [go_sem, lss_n, Nat.lt_irrefl, decide_false]
    exact ErrPool_c h3 hx hp hk
end
theorem ErrEnd_c {G : Roms} {H : Heap} {n : Nat} {x : Img} {tb : Tab} {ff : List (St × Fl)} {ss : List St} {vn : V} {k : KV} (h : ErrAt G H n x tb ff ss vn) (hno : lkp ff (7, 29382753671737198) = none) (hk : ∀ H' n', k (.bool true) H' n') :
    s_kilnlaw14_LinkErrors_j21 lfp G (Runs F G) k (.ptr x.i 0) H n := by
  delta s_kilnlaw14_LinkErrors_j21
  refine File_c (s := (7, 29382753671737198)) h.img h.files (Nat.le_refl _) h.fn fun H1 n1 L f1 hL _ _ => ?_
  rw [hno]
  simp only [Option.isSome_none, go_sem]
  rw [w_st (m := 10) rfl (by omega) hL, T.set_set]
  have f2 : Kp H1 n1 (T.set H1 n1 (one L)) (n1 + 1) := (Kp.refl _ _).new _ (Nat.le_refl _) (by omega)
  generalize T.set H1 n1 (one L) = H2 at f2
  have h2 := h.kp (f1.trans f2)
  refine Body_c (s := (7, 29382753671737198)) (nm := (1, 109)) h2.img h2.files (Nat.le_refl _) h2.fn (fun f hf => by rw [hno] at hf; cases hf) (fun _ H3 n3 f3 => ?_) (fun f _ _ _ hf => by rw [hno] at hf; cases hf)
  simp only [go_sem, Nat.reduceAdd, s_notB, Bool.not_false]
  exact hk _ _
theorem ErrFiles_c {G : Roms} (hG : GSub G) {H : Heap} {n : Nat} {x : Img} {v vn : V} {fls : List Fl} {k : KV} (hfit : Fit fls) (hf : ∀ H n, FilesV G H n v fls)
    (h : ErrAt G H n x (tabOf (facesOf fls)) (filesOf fls) (namesOf fls) vn) (hk : ∀ H' n', k (.bool true) H' n') :
    lfp (V × V × V × V × V × Heap × Nat) (s_kilnlaw14_LinkErrors_l37b lfp G (Runs F G) k) (.ptr x.i 0, vn, v, .int .i64 (.ofNat fls.length) 0, .int .i64 (.ofNat 0) 0, H, n) := by
  have hlen := hfit.len
  refine lfp_range (N := fls.length) (J := fun j q => ∃ H' n', q = (V.ptr x.i 0, vn, v, V.int .i64 (.ofNat fls.length) 0, V.int .i64 (.ofNat j) 0, H', n') ∧ ErrAt G H' n' x (tabOf (facesOf fls)) (filesOf fls) (namesOf fls) vn) ?_ ?_ ⟨H, n, rfl, h⟩
  · rintro I j q hlt ⟨H3, n3, rfl, h3⟩ ih
    show s_kilnlaw14_LinkErrors_l37 lfp G (Runs F G) k I (.ptr x.i 0) vn v (.int .i64 (.ofNat fls.length) 0) (.int .i64 (.ofNat j) 0) H3 n3
    delta s_kilnlaw14_LinkErrors_l37
    obtain ⟨q, vf, vm, v0, v1, v2, v3, v4, vb, mws, ws, bws, hp, hld, hfile⟩ := (hf H3 n3).at hlt
    have hin := List.getElem_mem hlt
    have hnj : (namesOf fls)[j]? = some fls[j].face.nm := by simp [hlt]
    generalize fls[j] = m at hld hfile hin hnj
    simp only [go_sem, Nat.reduceAdd, lss_n, hlt, decide_true, hp, ldn_of hld]
    rw [T.set_set]
    have f4 : Kp H3 n3 (T.set H3 n3 (one [m.face.nm.v, m.face.sup.v, vf, vm, v0, v1, v2, v3, v4, vb])) (n3 + 1) := (Kp.refl _ _).new _ (Nat.le_refl _) (by omega)
    have g4 := T.get_set H3 n3 (one [m.face.nm.v, m.face.sup.v, vf, vm, v0, v1, v2, v3, v4, vb])
    generalize T.set H3 n3 (one [m.face.nm.v, m.face.sup.v, vf, vm, v0, v1, v2, v3, v4, vb]) = H4 at f4 g4
    have hxb := h3.img.tab.bn
    have h4 := h3.kp f4
    have hm4 := hfile.ke f4.ke
    refine File_c (s := m.face.nm) h4.img h4.files (Nat.le_refl _) h4.fn fun H5 n5 L f5 hL hsome _ => ?_
    have h5n := f5.le
    have hL5 := hsome m (hfit.file hin)
    rw [hfit.file hin]
    simp only [Option.isSome_some, go_sem]
    rw [w_st (m := 10) rfl (by omega) hL, T.set_set]
    have f6 : Kp H5 n5 (T.set H5 n5 (one L)) (n5 + 1) := (Kp.refl _ _).new _ (Nat.le_refl _) (by omega)
    have g6 := T.get_set H5 n5 (one L)
    generalize T.set H5 n5 (one L) = H6 at f6 g6
    have f56 := f5.trans f6
    have h6 := h4.kp f56
    have g46 := f56.get g4 (by omega)
    obtain ⟨p2, hp2, hld2⟩ := h6.nm.at (i := j) (c := [m.face.nm.v]) (by unfold strs; rw [List.getElem?_map, hnj]; rfl)
    have hm6 : FileV G H6 (n5 + 1) (.agg [m.face.nm.v, m.face.sup.v, vf, vm, v0, v1, v2, v3, v4, vb]) m := ⟨_, vf, vm, v0, v1, v2, v3, v4, vb, mws, ws, bws, hm4.ke f56.ke, rfl⟩
    have hL6 : FileV G H6 (n5 + 1) (.agg L) m := (hL5.ke ((f6.ke).low (by omega))).ke ⟨by omega, fun _ _ _ _ h => h⟩
    simp only [go_sem, hp2, ld1_of hld2, Nat.reduceAdd, ld1_one (off := 0) g46 (v := m.face.nm.v) rfl, ne_ss, s_notB, Bool.not_true, ldn_all (m := 10) g46 (by omega) rfl, ldn_all (m := 10) g6 (by omega) hL]
    refine Same12_c hG hm6 hL6 fun H7 n7 f7 => ?_
    have h7 := h6.kp f7
    have f47 := f56.trans f7
    have hm7 := hm4.ke f47.ke
    have g7 := f47.get g4 (by omega)
    have he : ErrF G H7 n7 n3 x (tabOf (facesOf fls)) (filesOf fls) (namesOf fls) vn m vf vm v0 v1 v2 v3 v4 vb mws ws bws := ⟨h7, by have := f47.le; omega, by omega, g7, hm7.face.ms, hm7.pool, hm7.bodies⟩
    simp only [go_sem, s_notB, Bool.not_true, Nat.reduceAdd, ld1_one (off := 3) g7 (v := vm) rfl, he.ms.len']
    refine ErrMeths_c hG he hfit.short (fun p hp => hfit.pool hin hp) (hfit.file hin) (hfit.ok m hin) fun H8 n8 h8 => ?_
    delta s_kilnlaw14_LinkErrors_j39
    simp only [go_sem, add_i (show j + 1 < 9223372036854775808 by omega)]
    exact ih _ ⟨_, _, rfl, h8⟩
  · rintro I q ⟨H3, n3, rfl, h3⟩
    show s_kilnlaw14_LinkErrors_l37 lfp G (Runs F G) k I (.ptr x.i 0) vn v (.int .i64 (.ofNat fls.length) 0) (.int .i64 (.ofNat fls.length) 0) H3 n3
    delta s_kilnlaw14_LinkErrors_l37
    simp only [go_sem, lss_n, Nat.lt_irrefl, decide_false]
    exact ErrEnd_c h3 (hfit.noFile rfl) hk
theorem LinkErrors_c {G : Roms} (hG : GSub G) (hO : OpTab G) {v : V} {fls : List Fl} (hf : ∀ H n, FilesV G H n v fls) (hr : RSl v fls.length) {k : KV} (hk : ∀ H' n', k (.bool true) H' n') :
    Runs F G n_kilnlaw14_LinkErrors [v] .e 0 k := by
  refine runs_s (s := ar1 (s_kilnlaw14_LinkErrors lfp G)) at_kilnlaw14_LinkErrors (by obtain ⟨h, o⟩ := si_kilnlaw14_LinkErrors lfp_ok G; rw [at_kilnlaw14_LinkErrors] at h; cases h; exact o) ?_
  show s_kilnlaw14_LinkErrors lfp G (Runs F G) v .e 0 k
  delta s_kilnlaw14_LinkErrors
  refine head_c fun H0 n0 => ?_
  simp only [go_sem, s_notB, Bool.not_true]
  refine Few14_c (hf H0 n0) fun r H1 n1 _ hfew => ?_
  cases r with
  | false => simp only [s_notB, Bool.not_false, go_sem]; exact hk _ _
  | true =>
  have hlen := hfew rfl
  simp only [s_notB, Bool.not_true, go_sem]
  refine Link_c hG hO (hf H1 n1) (fun hz H2 n2 i f2 him => ?_) (fun hz H2 n2 f2 => ?_)
  · have hfit := linkM_zero.1 hz
    simp only [go_sem]
    refine PageCheck_c hG hO (hf H2 n2) hf hr hlen fun H3 n3 f3 => ?_
    rw [← linkM_page (by omega), hz]
    have e0 : eqV (.one .bool) true (.bool false) (.bool false) = some (.bool false) := rfl
    have e1 : eqV (.one .int) true (.int .i64 (.ofNat 0) 0) (.int .i64 0 0) = some (.bool false) := neq_self 0
    have e2 : eqV (.one .int) true (.int .i64 (.ofNat 0) 0) (.int .i64 (.ofNat 0) 0) = some (.bool false) := neq_self 0
    obtain ⟨t5, a5, b5, m5, w5, him5, hfa, hfm, hfmb, hnm, hnlo, -⟩ := him.is
    have b4 := him5.tab.bn
    have him3 := him5.kb (f3.kb b4)
    simp only [go_sem, e1, eq_pn, e2, e0]
    refine Names_c him3 (hnm.kp hnlo f3) (by simp; omega) fun v4 H4 n4 f4 hv4 hlo4 => ?_
    have l1 : lenV v4 = some (.int .i64 (.ofNat fls.length) 0) := by rw [hv4.len, strs_len]; simp
    simp only [go_sem, l1, (hf H4 n4).len, neq_self]
    have f34 := f3.trans f4
    exact ErrFiles_c hG (x := ⟨i, t5, a5, b5, m5, w5⟩) hfit hf ⟨him5.kb (f34.kb b4), hfa.ke f34.ke (f34.same _ hfm), Nat.lt_of_lt_of_le hfm f34.le, hfmb, hv4, hlo4⟩ hk
  · simp only [go_sem]
    refine PageCheck_c hG hO (hf H2 n2) hf hr hlen fun H3 n3 f3 => ?_
    rw [← linkM_page (by omega)]
    have e0 : eqV (.one .bool) true (.bool true) (.bool true) = some (.bool false) := rfl
    have e1 : eqV (.one .int) true (.int .i64 (linkM fls) 0) (.int .i64 (.ofNat 0) 0) = some (.bool true) := by
      rw [neq_i]
      have : (linkM fls == Int.ofNat 0) = false := by simpa using hz
      rw [this]; rfl
    simp only [go_sem, neq_self, e1, show eqV (.one .ptr) false .nilp .nilp = some (.bool true) from rfl, e0]
    exact hk _ _
end Go.RL

