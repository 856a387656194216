/- Part of a proof: texts LQR LQS LQT LQU LQV LQW LQX LQY LRA LRB LRC LRD LRE LRV LRQ of the engine and what is proved with it; nothing is assumed. -/
import Derived.Test.YtibbhhkcjjeclaaDoorConA
import Derived.Test.YtibbhhkcjjeclaaDoorWalk
set_option linter.unusedVariables false
set_option linter.unusedSimpArgs false
namespace Go.RL
open Go.Ba
set_option maxRecDepth 100000
structure Ke (G : AL) (H : Heap) (n : Nat) (H' : Heap) (n' : Nat) : Prop where
 le : n <= n'
 el : ∀ v z LS, Lo v n -> El G H v z LS -> El G H' v z LS
section
variable {G : AL} {H H' H'' : Heap} {n n' n'' : Nat} {v : V}
theorem Ke.refl : Ke G H n H n := ⟨Nat.le_refl _, fun _ _ _ _ h => h⟩
theorem Ke.trans (a : Ke G H n H' n') (b : Ke G H' n' H'' n'') : Ke G H n H'' n'' := ⟨Nat.le_trans a.le b.le, fun v z LS hl h => b.el v z LS (hl.mono a.le) (a.el v z LS hl h)⟩
theorem _root_.Go.Ba.Kp.ke (f : Kp H n H' n') : Ke G H n H' n' := ⟨f.le, fun _ _ _ hl h => h.kp hl f⟩
theorem Ke.low {m : Nat} (f : Ke G H n H' n') (hm : m <= n) : Ke G H m H' m := ⟨Nat.le_refl _, fun v z LS hl h => f.el v z LS (hl.mono hm) h⟩
theorem _root_.Go.Ba.El.ke {z : Nat} {LS : Df} (h : El G H v z LS) (hl : Lo v n) (f : Ke G H n H' n') : El G H' v z LS := f.el v z LS hl h
theorem MK.ke {xs : List Ty} (h : MK G H n v xs) (f : Ke G H n H' n') : MK G H' n' v xs := ⟨h.el.ke h.lo f, h.lo.mono f.le, h.lt, h.ok⟩
theorem RY.ke {xs : List wo} (h : RY G H n v xs) (f : Ke G H n H' n') : RY G H' n' v xs := ⟨h.el.ke h.lo f, h.lo.mono f.le, h.lt, h.ok⟩
theorem Ji.ke {xs : List Dc} {ws : List V} (h : Ji G H n v xs ws) (f : Ke G H n H' n') : Ji G H' n' v xs ws :=
 ⟨h.el.ke h.lo f, h.lo.mono f.le, h.lt, h.len, fun i m w a b => (h.at' i m w a b).ke f, h.ok⟩
theorem UK.ke {L : LV} {c : Fc} {v w : V} {ws : List V} (h : UK G H n L c v w ws) (f : Ke G H n H' n') : UK G H' n' L c v w ws := ⟨h.is, h.fs.ke f, h.ms.ke f, h.ok⟩
theorem Fz.ke {p : Pool} {v0 v1 v2 v3 v4 : V} {ws : List V} (h : Fz G H n p v0 v1 v2 v3 v4 ws) (f : Ke G H n H' n') : Fz G H' n' p v0 v1 v2 v3 v4 ws :=
 ⟨h.e0.ke h.l0 f, h.l0.mono f.le, h.b0, h.e1.ke h.l1 f, h.l1.mono f.le, h.b1, h.o1, h.t2.ke f, h.e3.ke h.l3 f, h.l3.mono f.le, h.b3, h.o3, h.e4.ke h.l4 f, h.l4.mono f.le, h.b4, h.qF,
  fun i m w a b => (h.at4 i m w a b).ke f, h.o4⟩
theorem LZ.ke {is : List Ins} (h : LZ G H n v is) (f : Ke G H n H' n') : LZ G H' n' v is := ⟨h.el.ke h.lo f, h.lo.mono f.le, h.lt⟩
theorem GV.ke {bs : List Bd} {ws : List V} (h : GV G H n v bs ws) (f : Ke G H n H' n') : GV G H' n' v bs ws :=
 ⟨h.el.ke h.lo f, h.lo.mono f.le, h.lt, h.len, fun i b w x y => (h.at' i b w x y).ke f⟩
theorem VL.ke {L : LV} {f : Fl} {vf vm v0 v1 v2 v3 v4 vb : V} {mws ws bws : List V} (h : VL G H n L f vf vm v0 v1 v2 v3 v4 vb mws ws bws) (e : Ke G H n H' n') : VL G H' n' L f vf vm v0 v1 v2 v3 v4 vb mws ws bws :=
 ⟨h.is, h.face.ke e, h.pool.ke e, h.bodies.ke e⟩
def Qe (G : AL) (H : Heap) (n : Nat) (v : V) (c : Fc) : Prop := ∃ vf vm ws, UK G H n [c.nm.v, c.sup.v, vf, vm] c vf vm ws /\ v = .agg [c.nm.v, c.sup.v, vf, vm]
theorem Qe.ke {c : Fc} (h : Qe G H n v c) (f : Ke G H n H' n') : Qe G H' n' v c := by
 obtain ⟨vf, vm, ws, h, hv⟩ := h; exact ⟨vf, vm, ws, h.ke f, hv⟩
def Ui (G : AL) (H : Heap) (n : Nat) (v : V) (f : Fl) : Prop := ∃ L vf vm v0 v1 v2 v3 v4 vb mws ws bws, VL G H n L f vf vm v0 v1 v2 v3 v4 vb mws ws bws /\ v = .agg L
theorem Ui.ke {f : Fl} (h : Ui G H n v f) (e : Ke G H n H' n') : Ui G H' n' v f := by
 obtain ⟨L, vf, vm, v0, v1, v2, v3, v4, vb, mws, ws, bws, h, hv⟩ := h; exact ⟨L, vf, vm, v0, v1, v2, v3, v4, vb, mws, ws, bws, h.ke e, hv⟩
def Md (H : Heap) (b : Nat) : Prop := ∃ ps, Zf H b ps
structure Kb (b : Nat) (H : Heap) (n : Nat) (H' : Heap) (n' : Nat) : Prop where
 le : n <= n'
 same : ∀ id, id < n -> id ≠ b -> T.get H' id = T.get H id
 seen : Md H b -> Md H' b
theorem Kb.refl (b : Nat) (H : Heap) (n : Nat) : Kb b H n H n := ⟨Nat.le_refl _, fun _ _ _ => rfl, fun h => h⟩
theorem Kb.trans {b : Nat} (x : Kb b H n H' n') (y : Kb b H' n' H'' n'') : Kb b H n H'' n'' :=
 ⟨Nat.le_trans x.le y.le, fun id h hb => (y.same id (Nat.lt_of_lt_of_le h x.le) hb).trans (x.same id h hb), fun h => y.seen (x.seen h)⟩
theorem Kb.trans' {b m : Nat} (x : Kb b H n H' n') (y : ∀ id, id < n -> T.get H'' id = T.get H' id) (hm : n' <= m) (hb : b < n) : Kb b H n H'' m :=
 ⟨Nat.le_trans x.le hm, fun id h hne => (y id h).trans (x.same id h hne), fun h => by
  obtain ⟨ps, es, ck, hg, he⟩ := x.seen h; exact ⟨ps, es, ck, (y b hb).trans hg, he⟩⟩
theorem Kb.low {b m : Nat} (f : Kb b H n H' n') (hm : m <= n) : Kb b H m H' m := ⟨Nat.le_refl _, fun id h hb => f.same id (Nat.lt_of_lt_of_le h hm) hb, f.seen⟩
theorem Kb.AOO {b m : Nat} (f : Kb b H n H' n') (hm : m <= n) : Kb b H m H' n' := ⟨Nat.le_trans hm f.le, fun id h hb => f.same id (Nat.lt_of_lt_of_le h hm) hb, f.seen⟩
theorem Md.same {b : Nat} (h : Md H b) (e : T.get H' b = T.get H b) : Md H' b := by
 obtain ⟨ps, es, ck, hg, he⟩ := h; exact ⟨ps, es, ck, e.trans hg, he⟩
theorem _root_.Go.Ba.Kp.kb {b : Nat} (f : Kp H n H' n') (hb : b < n) : Kb b H n H' n' := ⟨f.le, fun id h _ => f.same id h, fun h => h.same (f.same b hb)⟩
theorem Kb.get {b id : Nat} {B : NR} (f : Kb b H n H' n') (h : T.get H id = some B) (hi : id < n) (hb : id ≠ b) : T.get H' id = some B := (f.same id hi hb).trans h
theorem Md.ld {b o z : Nat} (h : Md H b) : YF H b o z = none := by
 obtain ⟨ps, es, ck, hg, -⟩ := h; unfold YF; rw [hg]; rfl
theorem Md.elems {b z : Nat} (h : Md H b) {m o : Nat} {LS : Df} (he : Bc H b z m o = some LS) : m = 0 := by
 cases m with
 | zero => rfl
 | succ m =>
  have h' : A8 (YF H b (Nat.mul o z) z) (fun L => A8 (Bc H b z m (Nat.succ o)) fun LS => some (L :: LS)) = some LS := he
  rw [h.ld] at h'; cases h'
theorem Kb.ke {b : Nat} (f : Kb b H n H' n') (hs : Md H b) : Ke G H n H' n' := ⟨f.le, fun v z LS hl h => by
 by_cases hv : v.SQ = some b
 ·obtain ⟨h1, h2⟩ := h
  refine ⟨h1, ?_⟩
  cases v <;> try (cases hv; done)
  ·rename_i id off m c e
   have hid : id = b := Option.some.inj hv
   subst hid
   have h2' : (Bool.rec (motive := fun _ => Option Df) none (Bc H id z m off) (Nat.beq e z) : Option Df) = some LS := h2
   show (Bool.rec (motive := fun _ => Option Df) none (Bc H' id z m off) (Nat.beq e z) : Option Df) = some LS
   cases hb : Nat.beq e z with
   | false => rw [hb] at h2'; cases h2'
   | true =>
    rw [hb] at h2'
    have h3 : Bc H id z m off = some LS := h2'
    have := hs.elems h3
    subst this; exact h3
  ·rename_i id off m e
   have hid : id = b := Option.some.inj hv
   subst hid
   have h2' : (Bool.rec (motive := fun _ => Option Df) none (Bc H id z m off) (Nat.beq e z) : Option Df) = some LS := h2
   show (Bool.rec (motive := fun _ => Option Df) none (Bc H' id z m off) (Nat.beq e z) : Option Df) = some LS
   cases hb : Nat.beq e z with
   | false => rw [hb] at h2'; cases h2'
   | true =>
    rw [hb] at h2'
    have h3 : Bc H id z m off = some LS := h2'
    have := hs.elems h3
    subst this; exact h3
 ·exact h.same fun id hid => f.same id (hl id hid) (by intro e; subst e; exact hv hid)⟩
end
abbrev Tab := List (St × Fc)
def keyed {α β : Type} (ps : List (St × α)) (fs : List (St × β)) : Prop := ps.map (·.1) = fs.map (·.1)
theorem VE {α β : Type} : ∀ {ps : List (St × α)} {fs : List (St × β)} (_ : keyed ps fs) (s : St), (DT ps s).isSome = (DT fs s).isSome
 | [], [], _, s => rfl
 | p :: ps, f :: fs, h, s => by
  simp only [keyed, List.map_cons, List.cons.injEq] at h
  have ih := VE (ps := ps) (fs := fs) h.2 s
  by_cases hp : p.1 = s
  ·have hf : f.1 = s := h.1 ▸ hp
   simp [DT, hp, hf]
  ·have hf : ¬ f.1 = s := h.1 ▸ hp
   simp only [DT, List.find?_cons, hp, hf, decide_false] at ih ⊢
   exact ih
 | [], _ :: _, h, _ => by simp [keyed] at h
 | _ :: _, [], h, _ => by simp [keyed] at h
theorem bI {α β : Type} (s : St) (a : α) (b : β) : ∀ {ps : List (St × α)} {fs : List (St × β)} (_ : keyed ps fs), keyed (Qd s a ps) (Qd s b fs)
 | [], [], _ => rfl
 | p :: ps, f :: fs, h => by
  simp only [keyed, List.map_cons, List.cons.injEq] at h
  unfold Qd
  by_cases hp : p.1 = s
  ·have hf : f.1 = s := h.1 ▸ hp
   rw [if_pos hp, if_pos hf]; simp [keyed, h.2]
  ·have hf : ¬ f.1 = s := h.1 ▸ hp
   rw [if_neg hp, if_neg hf]
   have := bI s a b (ps := ps) (fs := fs) h.2
   simp only [keyed, List.map_cons, List.cons.injEq] at this ⊢
   exact ⟨h.1, this⟩
 | [], _ :: _, h => by simp [keyed] at h
 | _ :: _, [], h => by simp [keyed] at h
structure bY (G : AL) (H : Heap) (n : Nat) (a : Nat) (fs : Tab) : Prop where
 is : ∃ ps, Zf H a ps /\ keyed ps fs /\ ∀ s v c, DT ps s = some v -> DT fs s = some c -> Qe G H n v c
structure TabAt (G : AL) (H : Heap) (n t a b : Nat) (fs : Tab) : Prop where
 tn : t < n
 an : a < n
 bn : b < n
 tb : t ≠ b
 ab : a ≠ b
 at' : T.get H t = some (one [.map a, .map b])
 faces : bY G H n a fs
 seen : Md H b
theorem YQ {H H' : Heap} {a : Nat} {ps : List (St × V)} (h : Zf H a ps) (e : T.get H' a = T.get H a) : Zf H' a ps := by
 obtain ⟨es, ck, hg, he⟩ := h; exact ⟨es, ck, e.trans hg, he⟩
theorem TabAt.kb {G : AL} {H H' : Heap} {n n' t a b : Nat} {fs : Tab} (h : TabAt G H n t a b fs) (f : Kb b H n H' n') : TabAt G H' n' t a b fs := by
 obtain ⟨ps, h1, h2, h3⟩ := h.faces.is
 exact ⟨Nat.lt_of_lt_of_le h.tn f.le, Nat.lt_of_lt_of_le h.an f.le, Nat.lt_of_lt_of_le h.bn f.le, h.tb, h.ab, f.get h.at' h.tn h.tb,
  ⟨ps, YQ h1 (f.same a h.an h.ab), h2, fun s v c x y => (h3 s v c x y).ke (f.ke h.seen)⟩, f.seen h.seen⟩
theorem run_set {f : Nat} {args : List V} {G : AL} {H : Heap} {n m : Nat} {b : NR} {k : KV} (h : ∀ H', Kp H n H' (n + 1) -> T.get H' n = some b -> Runs F G f args H' m k) : Runs F G f args (T.set H n b) m k :=
 h _ ((Kp.refl H n).new _ (Nat.le_refl _) (by omega)) (T.Ac ..)
theorem AER (i o : Nat) : Dx (.one .ptr) false (.ptr i o) .KQ = some (.bool false) := rfl
abbrev EW : Fc := ⟨(0, 0), (0, 0), [], []⟩
theorem zN {G : AL} {H : Heap} {z : Nat} : El G H .Aa z [] := ⟨rfl, rfl⟩
theorem gU {n : Nat} : Lo .Aa n := fun _ h => by cases h
theorem AJz {G : AL} {H : Heap} {n : Nat} : Qe G H n (.agg [.str 0 0, .str 0 0, .Aa, .Aa]) EW :=
 ⟨.Aa, .Aa, [], ⟨rfl, ⟨zN, gU, by decide, fun _ h => by cases h⟩, ⟨zN, gU, by decide, rfl, fun i m w h => by simp at h, fun _ h => by cases h⟩, fun _ => rfl, fun _ => rfl⟩, rfl⟩
theorem kZ (L : LV) : BO L [] = some (.agg L) := rfl
theorem gJ {G : AL} {H : Heap} {n n0 t a b : Nat} {fs : Tab} (h : TabAt G H n0 t a b fs) (hn : n0 <= n) {s : St} {k : KV}
    (hk : ∀ H' n' v, Kb b H n H' n' -> Qe G H' n0 v ((DT fs s).getD EW) -> k (.II [v, .bool (DT fs s).isSome]) H' n') : Runs F G EG [.ptr t 0, s.v] H n k := by
  refine BM (s := Rf (JL lfp G)) Pm (by obtain ⟨h, o⟩ := VR BL G; rw [Pm] at h; cases h; exact o) ?_
  show JL lfp G (Runs F G) (.ptr t 0) s.v H n k
  delta JL
  have hbn : b < n := Nat.lt_of_lt_of_le h.bn hn
  refine Ld rfl fun H1 f1 g1 => ?_
  have h1 := h.kb ((f1.kb hbn).low hn)
  simp only [go_sem, AER, Nat.reduceAdd, AU (off := 1) h1.at' (v := .map b) rfl]
  obtain ⟨ps, hps⟩ := h1.seen
  refine AAg hps s _ fun H2 hm2 hs2 => ?_
  have f2 : Kb b H1 (n + 1) H2 (n + 1) := ⟨Nat.le_refl _, fun id _ hb => hs2 id hb, fun _ => ⟨_, hm2⟩⟩
  have f3 := (f1.kb hbn).trans f2
  have h2 : TabAt G H2 n0 t a b fs := h.kb (f3.low hn)
  have g2 := f2.get g1 (by omega) (by omega)
  obtain ⟨qs, hq, hkey, hv⟩ := h2.faces.is
  simp only [go_sem, Nat.reduceAdd, AU (off := 0) h2.at' (v := .map a) rfl]
  rw [show s.v = .str s.1 s.2 from rfl, sO hq]
  have hsome := VE hkey s
  have fin : ∃ v, AKj (.agg [.str 0 0, .str 0 0, .Aa, .Aa]) (DT qs s) = .II [v, .bool (DT fs s).isSome] /\ Qe G H2 n0 v ((DT fs s).getD EW) := by
    cases hl : DT qs s with
    | none =>
      rw [hl] at hsome
      cases hx : DT fs s with
      | none => exact ⟨_, rfl, AJz⟩
      | some x => rw [hx] at hsome; cases hsome
    | some v =>
      rw [hl] at hsome
      cases hx : DT fs s with
      | none => rw [hx] at hsome; cases hsome
      | some x => exact ⟨v, rfl, hv _ _ _ hl hx⟩
  obtain ⟨v, e, hf⟩ := fin
  obtain ⟨vf, vm, ws, hf, rfl⟩ := hf
  rw [e]
  simp only [go_sem, Nat.reduceAdd]
  rw [EF (m := 4) ((T.AY _ _ (by omega)).trans ((T.AY _ _ (by omega)).trans g2)) (by omega) rfl rfl, Bg (m := 4) (T.Ac ..) (by omega) rfl]
  simp only [go_sem]
  have e : Kp H2 n (T.set (T.set (T.set H2 (n + 1) (one [.str 0 0, .str 0 0, .Aa, .Aa])) (n + 1) (one [((DT fs s).getD EW).nm.v, ((DT fs s).getD EW).sup.v, vf, vm])) n (one [((DT fs s).getD EW).nm.v, ((DT fs s).getD EW).sup.v, vf, vm])) (n + 1 + 1) :=
    ((((Kp.refl H2 n).new (m := n + 1 + 1) _ (by omega) (by omega)).set _ (by omega)).set _ (Nat.le_refl _))
  have f7 : Kb b H n H2 n := ⟨Nat.le_refl _, f3.same, f3.seen⟩
  exact hk _ _ _ (f7.trans (e.kb hbn)) ⟨vf, vm, ws, hf.ke ((e.ke).low hn), rfl⟩
def JZ : Nat -> Tab -> List St -> St -> List St × Bool
 | 0, _, out, _ => (out, false)
 | m + 1, fs, out, s => bif decide (s.1 = 0 /\ s.2 = 0) then (out, true) else
  match DT fs s with
  | none => (out, false)
  | some c => bif aG s out then (out, false) else JZ m fs (out ++ [s]) c.sup
def above (fs : Tab) (s : St) : List St × Bool := JZ (fs.length + 1) fs [] s
theorem Qc {s : St} {xs : List St} : aG s xs = true ↔ s ∈ xs := by
 unfold aG
 rw [List.any_eq_true]
 constructor
 ·rintro ⟨x, hx, h⟩
  have := of_decide_eq_true h
  have e : s = x := Prod.ext this.1 this.2
  exact e ▸ hx
 ·intro h; exact ⟨s, h, by simp⟩
theorem AI5 {α : Type} {ps : List (St × α)} {s : St} {v : α} (h : DT ps s = some v) : s ∈ ps.map (·.1) := by
 unfold DT at h
 cases hf : ps.find? fun p => decide (p.1 = s) with
 | none => rw [hf] at h; cases h
 | some p =>
  have h1 := List.mem_of_find?_eq_some hf
  have h2 := List.find?_some hf
  exact List.mem_map.2 ⟨p, h1, of_decide_eq_true h2⟩
theorem ABU : ∀ {xs ys : List St} (_ : xs.Nodup) (_ : ∀ x ∈ xs, x ∈ ys), xs.length <= ys.length
 | [], _, _, _ => Nat.zero_le _
 | x :: xs, ys, hn, h => by
  rw [List.nodup_cons] at hn
  have hx := h x (List.mem_cons_self ..)
  have := ABU (xs := xs) (ys := ys.erase x) hn.2 fun z hz => by
   have hz' := h z (List.mem_cons_of_mem _ hz)
   have hne : z ≠ x := by intro e; subst e; exact hn.1 hz
   exact (List.mem_erase_of_ne hne).2 hz'
  rw [List.length_erase_of_mem hx] at this
  have hpos : 0 < ys.length := List.length_pos_of_mem hx
  simp only [List.length_cons]; omega
structure Own (G : AL) (H : Heap) (m n : Nat) (z : Nat) (v : V) (LS : Df) : Prop where
 gr : Gr G H m z v LS
 lo : Lo v n
theorem Own.el {G : AL} {H : Heap} {m n z : Nat} {v : V} {LS : Df} (h : Own G H m n z v LS) (hz : 0 < z) : El G H v z LS := h.gr.el hz
theorem Own.kb {G : AL} {H H' : Heap} {m n n' b z : Nat} {v : V} {LS : Df} (h : Own G H m n z v LS) (f : Kb b H n H' n') (hb : b < m) : Own G H' m n' z v LS :=
 ⟨h.gr.mono fun id hid => f.same id (h.lo id hid) (by have := (h.gr.lo hid).1; omega), h.lo.mono f.le⟩
theorem Own.kp {G : AL} {H H' : Heap} {m n n' z : Nat} {v : V} {LS : Df} (h : Own G H m n z v LS) (f : Kp H n H' n') : Own G H' m n' z v LS :=
 ⟨h.gr.mono fun id hid => f.same id (h.lo id hid), h.lo.mono f.le⟩
theorem Own.sub {G : AL} {H : Heap} {m m' n z : Nat} {v : V} {LS : Df} (h : Own G H m n z v LS) (hm : m' <= m) : Own G H m' n z v LS := by
 obtain ⟨hg, hl⟩ := h
 cases hg with
 | nil => exact ⟨.nil, hl⟩
 | NY hg hc ht hid => exact ⟨.NY hg hc ht (by omega), hl⟩
theorem AJD {Z w : V} {H : Heap} {n : Nat} {P : KV} (hw : U3 w = true) (hv : Am w = [w]) :
    BX (Au 1 1 [Z] [(0, .c w)] E0) H n P = P (.sl n 0 1 1 1) (T.set H n (.arr 1 1 (T.set (T.set .e 0 [Z]) 0 [w]))) (n + 1) := by
  show Ko (band (band (U3 w) (band true (Nat.beq (len (Am w)) 1))) true) (CV n fun n => P (.sl n 0 1 1 1) (T.set H n (.arr 1 1 (T.set (T.set .e 0 [Z]) 0 (Am w)))) (Nat.succ n)) = _
  rw [hw, hv, BG]; rfl
theorem AGI {G : AL} {Z w : V} {H : Heap} {n : Nat} {P : KV} (hw : U3 w = true) (hv : Am w = [w]) (h : ∀ H', Kp H n H' (n + 1) -> elems (.sl n 0 1 1 1) G H' 1 = some [[w]] -> P (.sl n 0 1 1 1) H' (n + 1)) :
    BX (Au 1 1 [Z] [(0, .c w)] E0) H n P := by
  rw [AJD hw hv]
  exact h _ ((Kp.refl H n).new _ (Nat.le_refl _) (by omega)) (Yl (z := 1) (by omega) rfl (T.Ac ..)).2
theorem AJY (s : St) : GX s.v s.v = true := by
 show band (Nat.beq s.1 s.1) (Nat.beq s.2 s.2) = true
 simp
theorem bg {G : AL} {H : Heap} {n t a b : Nat} {fs : Tab} (h : TabAt G H n t a b fs) (hfs : fs.length <= 1000) {s : St} {k : KV}
    (hk : ∀ H' n' v, Kb b H n H' n' -> Own G H' n n' 1 v (strs (above fs s).1) -> (above fs s).1.length <= 1001 -> k (.II [v, .bool (above fs s).2]) H' n') : Runs F G EX [.ptr t 0, s.v] H n k := by
  refine BM (s := Rf (Ia lfp G)) Om (by obtain ⟨h, o⟩ := Ue BL G; rw [Om] at h; cases h; exact o) ?_
  show Ia lfp G (Runs F G) (.ptr t 0) s.v H n k
  delta Ia
  have hbn := h.bn
  refine G7 (J := fun m st => ∃ out s v H2 n2, m + out.length = fs.length + 1 /\ st = (.ptr t 0, St.v s, v, H2, n2) /\ Kb b H n H2 n2 /\ Own G H2 n n2 1 v (strs out) /\ out.Nodup /\ (∀ x ∈ out, x ∈ fs.map (·.1)) /\
    (∀ H' n' v, Kb b H n H' n' -> Own G H' n n' 1 v (strs (JZ m fs out s).1) -> (JZ m fs out s).1.length <= 1001 -> k (.II [v, .bool (JZ m fs out s).2]) H' n')) ?_ (m := fs.length + 1)
    ⟨[], s, .Aa, H, n, rfl, rfl, Kb.refl _ _ _, ⟨.nil, gU⟩, List.nodup_nil, fun _ h => absurd h List.not_mem_nil, hk⟩
  rintro I m st ⟨out, s, v, H2, n2, hm, rfl, f, ho, hnd, hsub, hk⟩ ih
  show NM lfp G (Runs F G) k I (.ptr t 0) s.v v H2 n2
  delta NM
  have hle := ABU hnd hsub
  rw [List.length_map] at hle
  obtain ⟨m, rfl⟩ : ∃ m', m = m' + 1 := ⟨m - 1, by omega⟩
  unfold JZ at hk
  simp only [go_sem, St.v, AKX]
  cases h0 : decide (s.1 = 0 /\ s.2 = 0) with
  | true =>
    rw [h0] at hk
    simp only [Bool.not_true, go_sem]
    delta NJ
    exact hk _ _ _ f ho (by show out.length <= 1001; omega)
  | false =>
    rw [h0] at hk
    simp only [Bool.not_false, go_sem]
    refine gJ (s := s) (h.kb f) (Nat.le_refl _) fun H3 n3 w f3 hw => ?_
    have f4 := f.trans f3
    have ho3 := ho.kb f3 hbn
    obtain ⟨vf, vm, ws, hw, rfl⟩ := hw
    simp only [go_sem, Nat.reduceAdd, BK]
    rw [T.set_set]
    cases hl : DT fs s with
    | none =>
      rw [hl] at hk
      simp only [Option.isSome_none, Bool.not_false, go_sem]
      have f5 : Kp H3 n3 (T.set H3 n3 (one [((none : Option Fc).getD EW).nm.v, ((none : Option Fc).getD EW).sup.v, vf, vm])) (n3 + 1) := (Kp.refl _ _).new _ (Nat.le_refl _) (by omega)
      exact hk _ _ _ (f4.trans (f5.kb (by have := f4.le; omega))) (ho3.kp f5) (by show out.length <= 1001; omega)
    | some c =>
      rw [hl] at hk
      simp only [Option.isSome_some, Bool.not_true, go_sem, Option.getD_some]
      have hn3 := f4.le
      refine run_set fun H4 f5 g5 => ?_
      have f6 := f4.trans (f5.kb (b := b) (by omega))
      have ho4 := ho3.kp f5
      refine iy (s := s) (xs := out) (ho4.el (by omega)) (by omega) ?_
      cases h1 : aG s out with
      | true =>
        simp only [h1, cond_true] at hk
        simp only [go_sem]
        exact hk _ _ _ f6 ho4 (by show out.length <= 1001; omega)
      | false =>
        simp only [h1, cond_false] at hk
        have hin : ¬ s ∈ out := fun h => by rw [Qc.2 h] at h1; cases h1
        simp only [go_sem]
        refine AGI (G := G) rfl rfl fun H5 f7 g7 => ?_
        have e1 : AZ (.ptr n3 1) G H5 = some c.sup.v := AU (f7.get g5 (by omega)) rfl
        rw [e1, BA]
        have ho5 := ho4.kp f7
        refine ho5.gr.app (by omega) ho5.lo g7 ?_ ?_ ?_
        · rw [Ie]; simp; omega
        · intro v' H6 hg hs hlo
          have f8 : Kb b H n H6 (n3 + 1 + 1 + 1) := (f6.trans (f7.kb (by omega))).trans' (fun id hid => hs id (by omega) (fun hv => by have := (ho5.gr.lo hv).1; omega)) (by omega) hbn
          have e2 : AZ (.ptr n3 1) G H6 = some c.sup.v := AU ((hs n3 (by omega) (fun hv => by have := ho.lo _ hv; have := f3.le; omega)).trans (f7.get g5 (by omega))) rfl
          simp only [go_sem, e2, AJY]
          refine ih _ _ (Nat.lt_succ_self m) ⟨out ++ [s], c.sup, v', H6, _, by simp; omega, rfl, f8, ⟨?_, hlo⟩, ?_, ?_, hk⟩
          · rw [strs, List.map_append]; exact hg
          · rw [List.nodup_append]; refine ⟨hnd, by simp, ?_⟩; intro x hx y hy; simp at hy; subst hy; intro e; subst e; exact hin hx
          · intro x hx
            rcases List.mem_append.1 hx with hx | hx
            · exact hsub x hx
            · simp at hx; subst hx; exact AI5 hl
        · intro h; cases h
abbrev tyZ : Ty := ⟨(0, 0), false⟩
abbrev Yd : Dc := ⟨(0, 0), false, [], tyZ⟩
def ABz (s : St) : List wo -> Option Ty
 | [] => none
 | f :: fs => bif decide (f.nm.1 = s.1 /\ f.nm.2 = s.2) then some f.ty else ABz s fs
def VK (s : St) : List Dc -> Option Dc
 | [] => none
 | m :: ms => bif decide (m.nm.1 = s.1 /\ m.nm.2 = s.2) then some m else VK s ms
def dR (G : AL) (H : Heap) (n : Nat) (v : V) (m : Dc) : Prop := ∃ w, v = .agg (m.cells w) /\ MK G H n w m.ps
theorem dR.ke {G : AL} {H H' : Heap} {n n' : Nat} {v : V} {m : Dc} (h : dR G H n v m) (f : Ke G H n H' n') : dR G H' n' v m := by
 obtain ⟨w, e, h⟩ := h; exact ⟨w, e, h.ke f⟩
theorem AGE {G : AL} {H : Heap} {n : Nat} : dR G H n (.agg (Yd.cells .Aa)) Yd := ⟨.Aa, rfl, zN, gU, by decide, fun _ h => by cases h⟩
theorem ABj {G : AL} {H : Heap} {n : Nat} {v : V} {c : Fc} (h : Qe G H n v c) {s : St} {k : KV}
    (hk : ∀ H' n', Kp H n H' n' -> k (.II [((ABz s c.fs).getD tyZ).v, .bool (ABz s c.fs).isSome]) H' n') : Runs F G WM [v, s.v] H n k := by
  refine BM (s := Rf (I8 lfp G)) QA (by obtain ⟨h, o⟩ := VO BL G; rw [QA] at h; cases h; exact o) ?_
  show I8 lfp G (Runs F G) v s.v H n k
  obtain ⟨vf, vm, ws, h, rfl⟩ := h
  delta I8
  refine Iu fun H1 f1 g1 => ?_
  refine Ld rfl fun H2 f2 g2 => ?_
  simp only [go_sem, Nat.reduceAdd, AU (off := 2) (f2.get g1 (by omega)) (v := vf) rfl, h.fs.len]
  have hbig := h.fs.lt
  refine BR (N := c.fs.length) (J := fun i st => ∃ H' n', st = (s.v, .ptr (n + 1) 0, vf, .int .i64 (.ofNat c.fs.length) 0, .int .i64 (.ofNat i) 0, H', n') /\ Kp H n H' n' /\ n + 1 < n' /\ T.get H' (n + 1) = some (one [.str 0 0, .bool false]) /\
    (∀ H' n', Kp H n H' n' -> k (.II [((ABz s (c.fs.drop i)).getD tyZ).v, .bool (ABz s (c.fs.drop i)).isSome]) H' n')) ?_ ?_ ⟨H2, _, rfl, f1.trans f2, Nat.lt_succ_self _, g2, hk⟩
  · rintro I i st hlt ⟨H3, n3, rfl, f3, hn3, g3, hk⟩ ih
    show GL lfp G (Runs F G) k I s.v (.ptr (n + 1) 0) vf (.int .i64 (.ofNat c.fs.length) 0) (.int .i64 (.ofNat i) 0) H3 n3
    delta GL
    obtain ⟨q, hp, hld⟩ := (h.fs.kp f3).at hlt
    rw [List.drop_eq_getElem_cons hlt] at hk
    unfold ABz at hk
    generalize c.fs[i] = m at hld hk
    unfold wo.cells at hld
    simp only [go_sem, BI, hlt, decide_true, hp, CB hld, Nat.reduceAdd, show Dx (.one .str) false m.nm.v s.v = _ from AAK ..]
    rw [T.set_set]
    have f4 := f3.new (m := n3 + 1) (id := n3) (one [m.nm.v, m.ty.nm.v, .bool m.ty.arr]) f3.le (by omega)
    cases h1 : decide (m.nm.1 = s.1 /\ m.nm.2 = s.2) with
    | true =>
      simp only [h1, cond_true] at hk
      simp only [go_sem, Nat.reduceAdd]
      rw [FM (m := 2) (off := 1) (T.Ac ..) (by omega) (by show 3 <= 3; omega), BA]
      show CQ 2 (.ptr (n + 1) 0) (.agg [m.ty.nm.v, .bool m.ty.arr]) _ _ _
      rw [EF (m := 2) ((T.AY _ _ (by omega)).trans g3) (by omega) rfl rfl, Bg (m := 2) (T.Ac ..) (by omega) rfl]
      simp only [go_sem]
      exact hk _ _ (f4.set _ (by omega))
    | false =>
      simp only [h1, cond_false] at hk
      simp only [go_sem, DF (show i + 1 < 9223372036854775808 by unfold big at hbig; omega)]
      exact ih _ ⟨_, _, rfl, f4, by omega, (T.AY _ _ (by omega)).trans g3, hk⟩
  · rintro I st ⟨H3, n3, rfl, f3, hn3, g3, hk⟩
    show GL lfp G (Runs F G) k I s.v (.ptr (n + 1) 0) vf (.int .i64 (.ofNat c.fs.length) 0) (.int .i64 (.ofNat c.fs.length) 0) H3 n3
    delta GL
    rw [List.drop_eq_nil_of_le (Nat.le_refl _)] at hk
    simp only [go_sem, BI, Nat.lt_irrefl, decide_false]
    delta N8
    simp only [kZ, BA]
    rw [EF (m := 2) g3 (by omega) rfl rfl, Bg (m := 2) (T.Ac ..) (by omega) rfl]
    simp only [go_sem]
    exact hk _ _ (f3.set _ (by omega))
theorem jr {G : AL} {H : Heap} {n n0 : Nat} {v : V} {c : Fc} (h : Qe G H n0 v c) (hn : n0 <= n) {s : St} {k : KV}
    (hk : ∀ H' n' w, Kp H n H' n' -> dR G H' n0 w ((VK s c.ms).getD Yd) -> k (.II [w, .bool (VK s c.ms).isSome]) H' n') : Runs F G Pq [v, s.v] H n k := by
  refine BM (s := Rf (Ib lfp G)) Oy (by obtain ⟨h, o⟩ := Uo BL G; rw [Oy] at h; cases h; exact o) ?_
  show Ib lfp G (Runs F G) v s.v H n k
  obtain ⟨vf, vm, ws, h, rfl⟩ := h
  delta Ib
  refine Iu fun H1 f1 g1 => ?_
  refine Ld rfl fun H2 f2 g2 => ?_
  simp only [go_sem, Nat.reduceAdd, AU (off := 3) (f2.get g1 (by omega)) (v := vm) rfl, h.ms.len']
  have hbig := h.ms.lt
  refine BR (N := c.ms.length) (J := fun i st => ∃ H' n', st = (s.v, .ptr (n + 1) 0, vm, .int .i64 (.ofNat c.ms.length) 0, .int .i64 (.ofNat i) 0, H', n') /\ Kp H n H' n' /\ n + 1 < n' /\ T.get H' (n + 1) = some (one (Yd.cells .Aa)) /\
    (∀ H' n' w, Kp H n H' n' -> dR G H' n0 w ((VK s (c.ms.drop i)).getD Yd) -> k (.II [w, .bool (VK s (c.ms.drop i)).isSome]) H' n')) ?_ ?_ ⟨H2, _, rfl, f1.trans f2, Nat.lt_succ_self _, g2, hk⟩
  · rintro I i st hlt ⟨H3, n3, rfl, f3, hn3, g3, hk⟩ ih
    show FZ lfp G (Runs F G) k I s.v (.ptr (n + 1) 0) vm (.int .i64 (.ofNat c.ms.length) 0) (.int .i64 (.ofNat i) 0) H3 n3
    delta FZ
    obtain ⟨q, w, hp, hld, hw⟩ := (h.ms.ke ((f3.ke).low hn)).at hlt
    rw [List.drop_eq_getElem_cons hlt] at hk
    unfold VK at hk
    generalize c.ms[i] = m at hld hk hw
    unfold Dc.cells at hld
    simp only [go_sem, BI, hlt, decide_true, hp, CB hld, Nat.reduceAdd, show Dx (.one .str) false m.nm.v s.v = _ from AAK ..]
    rw [T.set_set]
    have f4 := f3.new (m := n3 + 1) (id := n3) (one [m.nm.v, .bool m.st, w, m.ret.nm.v, .bool m.ret.arr]) f3.le (by omega)
    cases h1 : decide (m.nm.1 = s.1 /\ m.nm.2 = s.2) with
    | true =>
      simp only [h1, cond_true] at hk
      simp only [go_sem, Nat.reduceAdd]
      rw [EF (m := 5) ((T.AY _ _ (by omega)).trans g3) (by omega) rfl rfl, Bg (m := 5) (T.Ac ..) (by omega) rfl]
      simp only [go_sem]
      have f5 := f4.set (one [m.nm.v, .bool m.st, w, m.ret.nm.v, .bool m.ret.arr]) (id := n + 1) (by omega)
      refine hk _ _ _ f5 ⟨w, rfl, hw.ke ?_⟩
      refine (Kp.ke (n := n0) (n' := n3 + 1) ⟨by omega, fun id hid => ?_⟩).low (Nat.le_refl _)
      rw [T.AY _ _ (by omega), T.AY _ _ (by omega)]
    | false =>
      simp only [h1, cond_false] at hk
      simp only [go_sem, DF (show i + 1 < 9223372036854775808 by unfold big at hbig; omega)]
      exact ih _ ⟨_, _, rfl, f4, by omega, (T.AY _ _ (by omega)).trans g3, hk⟩
  · rintro I st ⟨H3, n3, rfl, f3, hn3, g3, hk⟩
    show FZ lfp G (Runs F G) k I s.v (.ptr (n + 1) 0) vm (.int .i64 (.ofNat c.ms.length) 0) (.int .i64 (.ofNat c.ms.length) 0) H3 n3
    delta FZ
    rw [List.drop_eq_nil_of_le (Nat.le_refl _)] at hk
    simp only [go_sem, BI, Nat.lt_irrefl, decide_false]
    delta NP
    simp only [kZ, BA]
    rw [EF (m := 5) g3 (by omega) rfl rfl, Bg (m := 5) (T.Ac ..) (by omega) rfl]
    simp only [go_sem]
    exact hk _ _ _ (f3.set _ (by omega)) AGE
def Dc.same (a b : Dc) : Bool := decide (a.nm.1 = b.nm.1 /\ a.nm.2 = b.nm.2) && ((a.st == b.st) && (a.ret.is b.ret && jS a.ps b.ps))
theorem AOA (a b : Bool) : Dx (.one .bool) false (.bool a) (.bool b) = some (.bool (a == b)) := by cases a <;> cases b <;> rfl
theorem yB {G : AL} {H : Heap} {n : Nat} {v w : V} {a b : Dc} (h : dR G H n v a) (h2 : dR G H n w b) {k : KV}
    (hk : ∀ H' n', Kp H n H' n' -> k (.bool (a.same b)) H' n') : Runs F G UQ [v, w] H n k := by
  refine BM (s := Rf (MJ lfp G)) SV (by obtain ⟨h, o⟩ := YG BL G; rw [SV] at h; cases h; exact o) ?_
  show MJ lfp G (Runs F G) v w H n k
  obtain ⟨x, rfl, h⟩ := h
  obtain ⟨y, rfl, h2⟩ := h2
  delta MJ
  unfold Dc.same at hk
  refine Iu fun H1 f1 g1 => ?_
  refine Iu fun H2 f2 g2 => ?_
  have g1 := f2.get g1 (by omega)
  have f3 := f1.trans f2
  unfold Dc.cells at g1 g2
  simp only [go_sem, Nat.reduceAdd, AU (off := 0) g1 rfl, AU (off := 0) g2 rfl, show Dx (.one .str) false a.nm.v b.nm.v = _ from AAK ..]
  cases e1 : decide (a.nm.1 = b.nm.1 /\ a.nm.2 = b.nm.2) with
  | false => rw [e1] at hk; simp only [go_sem]; exact hk _ _ f3
  | true =>
    rw [e1] at hk
    simp only [go_sem, Nat.reduceAdd, AU (off := 1) g1 rfl, AU (off := 1) g2 rfl, AOA]
    cases e2 : a.st == b.st with
    | false => rw [e2] at hk; simp only [go_sem]; exact hk _ _ f3
    | true =>
      rw [e2] at hk
      have l1 : Ae 2 (.ptr n 3) G H2 = some a.ret.v := FM g1 (by omega) (by show 5 <= 5; omega)
      have l2 : Ae 2 (.ptr (n + 1) 3) G H2 = some b.ret.v := FM g2 (by omega) (by show 5 <= 5; omega)
      have e : Dx (.agg [.str, .bool]) false a.ret.v b.ret.v = _ := fE a.ret b.ret
      simp only [go_sem, Nat.reduceAdd, l1, l2, e]
      cases e3 : a.ret.is b.ret with
      | false => rw [e3] at hk; simp only [go_sem]; exact hk _ _ f3
      | true =>
        rw [e3] at hk
        simp only [go_sem, Nat.reduceAdd, AU (off := 2) g1 (v := x) rfl, AU (off := 2) g2 (v := y) rfl]
        refine AHn (h.el.kp h.lo f3) (h2.el.kp h2.lo f3) h.lt ?_
        exact hk _ _ f3
def Qk (fs : Tab) (t : Ty) : Bool := PI t.nm && (!upper t.nm.1 t.nm.2 || (DT fs t.nm).isSome)
theorem Yr {G : AL} {H : Heap} {n t a b : Nat} {fs : Tab} (h : TabAt G H n t a b fs) {v : V} {xs : List Ty} (hx : MK G H n v xs) {k : KV}
    (hk : ∀ H' n', Kb b H n H' n' -> k (.bool (xs.all (Qk fs))) H' n') : Runs F G IK [.ptr t 0, v] H n k := by
  refine BM (s := Rf (Ic lfp G)) O0 (by obtain ⟨h, o⟩ := Ua BL G; rw [O0] at h; cases h; exact o) ?_
  show Ic lfp G (Runs F G) (.ptr t 0) v H n k
  delta Ic
  have hbn := h.bn
  have hbig := hx.lt
  rw [hx.len, BA]
  refine BR (N := xs.length) (J := fun i st => ∃ H' n', st = (.ptr t 0, v, .int .i64 (.ofNat xs.length) 0, .int .i64 (.ofNat i) 0, H', n') /\ Kb b H n H' n' /\
    (∀ H' n', Kb b H n H' n' -> k (.bool ((xs.drop i).all (Qk fs))) H' n')) ?_ ?_ ⟨H, n, rfl, Kb.refl _ _ _, hk⟩
  · rintro I i st hlt ⟨H3, n3, rfl, f3, hk⟩ ih
    show FU lfp G (Runs F G) k I (.ptr t 0) v (.int .i64 (.ofNat xs.length) 0) (.int .i64 (.ofNat i) 0) H3 n3
    delta FU
    have h3 := h.kb f3
    have hx3 := hx.ke (f3.ke h.seen)
    obtain ⟨q, hp, hld⟩ := hx3.el.at (Qp hlt)
    have hok := hx.ok _ (List.getElem_mem hlt)
    rw [List.drop_eq_getElem_cons hlt, List.all_cons] at hk
    generalize xs[i] = m at hok hld hk
    unfold Ty.cells at hld
    unfold Qk at hk
    have h3n := f3.le
    simp only [go_sem, BI, hlt, decide_true, hp, CB hld, Nat.reduceAdd]
    rw [T.set_set]
    refine run_set fun H4 f4 g4 => ?_
    have f5 := f3.trans (f4.kb (b := b) (by omega))
    refine lQ hok fun H6 n6 f6 => ?_
    have f7 := f5.trans (f6.kb (b := b) (by omega))
    have g6 := f6.get g4 (by omega)
    have h6n := f6.le
    simp only [BK, go_sem]
    cases h1 : PI m.nm with
    | false =>
      rw [show jX m.nm.1 m.nm.2 = false from h1]
      simp only [h1, Bool.false_and] at hk
      simp only [Bool.not_false, go_sem]
      exact hk _ _ f7
    | true =>
      rw [show jX m.nm.1 m.nm.2 = true from h1]
      simp only [h1, Bool.true_and] at hk
      simp only [Bool.not_true, go_sem, Nat.reduceAdd, AU (off := 0) g6 (v := m.nm.v) rfl]
      refine kF fun H8 n8 f8 => ?_
      refine cZ hok fun H9 n9 f9 => ?_
      have f10 := f7.trans ((f8.trans f9).kb (b := b) (by omega))
      have g9 := (f8.trans f9).get g6 (by omega)
      have h9n := (f8.trans f9).le
      rw [show isClass m.nm.1 m.nm.2 false = upper m.nm.1 m.nm.2 by simp [isClass]]
      have go : ∀ H' n', Kb b H n H' n' -> (∀ H' n', Kb b H n H' n' -> k (.bool ((xs.drop (i + 1)).all (Qk fs))) H' n') -> Fe lfp G (Runs F G) k I (.ptr t 0) v (.int .i64 (.ofNat xs.length) 0) (.int .i64 (.ofNat i) 0) H' n' := by
        intro H' n' f hk
        delta Fe
        simp only [go_sem, DF (show i + 1 < 9223372036854775808 by unfold big at hbig; omega)]
        exact ih _ ⟨_, _, rfl, f, hk⟩
      cases h2 : upper m.nm.1 m.nm.2 with
      | false =>
        simp only [h2, Bool.not_false, Bool.true_or, Bool.true_and] at hk
        simp only [go_sem]
        exact go _ _ f10 hk
      | true =>
        simp only [h2, Bool.not_true, Bool.false_or] at hk
        simp only [go_sem, Nat.reduceAdd, AU (off := 0) g9 (v := m.nm.v) rfl]
        refine gJ (s := m.nm) (h.kb f10) (Nat.le_refl _) fun H11 n11 w f11 hw => ?_
        obtain ⟨vf, vm, ws, hw, rfl⟩ := hw
        have f12 := f10.trans f11
        have h12n := f12.le
        simp only [go_sem, Nat.reduceAdd, BK]
        rw [T.set_set]
        have f13 : Kp H11 n11 (T.set H11 n11 (one [((DT fs m.nm).getD EW).nm.v, ((DT fs m.nm).getD EW).sup.v, vf, vm])) (n11 + 1) := (Kp.refl _ _).new _ (Nat.le_refl _) (by omega)
        have f14 := f12.trans (f13.kb (b := b) (by omega))
        cases h3 : (DT fs m.nm).isSome with
        | false =>
          simp only [h3, Bool.false_and] at hk
          simp only [Bool.not_false, go_sem]
          exact hk _ _ f14
        | true =>
          simp only [h3, Bool.true_and] at hk
          simp only [Bool.not_true, go_sem]
          exact go _ _ f14 hk
  · rintro I st ⟨H3, n3, rfl, f3, hk⟩
    show FU lfp G (Runs F G) k I (.ptr t 0) v (.int .i64 (.ofNat xs.length) 0) (.int .i64 (.ofNat xs.length) 0) H3 n3
    delta FU
    rw [List.drop_eq_nil_of_le (Nat.le_refl _)] at hk
    simp only [go_sem, BI, Nat.lt_irrefl, decide_false]
    delta ND
    exact hk _ _ f3
def yj (fs : Tab) (s : St) : List St -> Option (St × Ty)
 | [] => none
 | c :: cs => match ABz s ((DT fs c).getD EW).fs with
  | some t => some (c, t)
  | none => yj fs s cs
def ZR (fs : Tab) (c s : St) : Option (St × Ty) := yj fs s (above fs c).1
theorem AEY {G : AL} {H : Heap} {n t a b : Nat} {fs : Tab} (h : TabAt G H n t a b fs) (hfs : fs.length <= 1000) {c s : St} {k : KV}
    (hk : ∀ H' n', Kb b H n H' n' -> k (.II [((ZR fs c s).getD ((0, 0), tyZ)).1.v, ((ZR fs c s).getD ((0, 0), tyZ)).2.v, .bool (ZR fs c s).isSome]) H' n') : Runs F G Ph [.ptr t 0, c.v, s.v] H n k := by
  refine BM (s := ar3 (IZ lfp G)) Ol (by obtain ⟨h, o⟩ := Ux BL G; rw [Ol] at h; cases h; exact o) ?_
  show IZ lfp G (Runs F G) (.ptr t 0) c.v s.v H n k
  delta IZ
  have hbn := h.bn
  unfold ZR at hk
  refine Ld rfl fun H1 f1 g1 => ?_
  have f1 := f1.kb (b := b) hbn
  refine bg (h.kb f1) hfs fun H2 n2 v f2 ho hlen => ?_
  generalize (above fs c).1 = cs at ho hk hlen
  have f3 := f1.trans f2
  have g2 := f2.get g1 (by omega) (by omega)
  have h2n := f2.le
  simp only [go_sem, (ho.el (by omega)).len, Ie]
  refine BR (N := cs.length) (J := fun i st => ∃ H' n', st = (.ptr t 0, s.v, .ptr n 0, v, .int .i64 (.ofNat cs.length) 0, .int .i64 (.ofNat i) 0, H', n') /\ Kb b H n H' n' /\ n < n' /\ Own G H' (n + 1) n' 1 v (strs cs) /\ T.get H' n = some (one [.str 0 0, .bool false]) /\
    (∀ H' n', Kb b H n H' n' -> k (.II [((yj fs s (cs.drop i)).getD ((0, 0), tyZ)).1.v, ((yj fs s (cs.drop i)).getD ((0, 0), tyZ)).2.v, .bool (yj fs s (cs.drop i)).isSome]) H' n')) ?_ ?_ ⟨H2, n2, rfl, f3, by omega, ho, g2, hk⟩
  · rintro I i st hlt ⟨H3, n3, rfl, f3, hn3, ho, g3, hk⟩ ih
    show Fb lfp G (Runs F G) k I (.ptr t 0) s.v (.ptr n 0) v (.int .i64 (.ofNat cs.length) 0) (.int .i64 (.ofNat i) 0) H3 n3
    delta Fb
    obtain ⟨q, hp, hld⟩ := (ho.el (by omega)).at (RU hlt)
    rw [List.drop_eq_getElem_cons hlt] at hk
    unfold yj at hk
    generalize cs[i] = m at hld hk
    simp only [go_sem, BI, hlt, decide_true, hp, OG hld]
    refine gJ (s := m) (h.kb f3) (Nat.le_refl _) fun H4 n4 w f4 hw => ?_
    obtain ⟨vf, vm, ws, hw, rfl⟩ := hw
    have f5 := f3.trans f4
    have h5n := f4.le
    simp only [go_sem, Nat.reduceAdd]
    rw [T.set_set]
    refine run_set fun H6 f6 g6 => ?_
    have f6' := f6.kb (b := b) (by omega)
    have f7 := f5.trans f6'
    refine ABj (s := s) (n := n4 + 1) (v := .agg [((DT fs m).getD EW).nm.v, ((DT fs m).getD EW).sup.v, vf, vm]) (c := (DT fs m).getD EW) ⟨vf, vm, ws, hw.ke ⟨by omega, fun v z LS hl he => (f6.ke).el v z LS (hl.mono f4.le) he⟩, rfl⟩ fun H8 n8 f8 => ?_
    have f8' := f8.kb (b := b) (by omega)
    have f9 := f7.trans f8'
    have h9n := f8.le
    have f10 := f4.trans (f6'.trans f8')
    have ho := ho.kb f10 (by omega)
    have g10 := f10.get g3 hn3 (by omega)
    unfold Ty.v Ty.cells
    simp only [go_sem, Nat.reduceAdd]
    rw [T.set_set]
    cases h1 : ABz s ((DT fs m).getD EW).fs with
    | some ty =>
      rw [h1] at hk
      simp only [Option.isSome_some, go_sem, Option.getD_some]
      rw [EF (m := 2) ((T.AY _ _ (by omega)).trans g10) (by omega) rfl rfl]
      rw [Bg (m := 2) (T.Ac ..) (by omega) rfl]
      simp only [go_sem]
      refine hk _ _ (f9.trans' (m := n8 + 1) (fun id hid => ?_) (by omega) hbn)
      rw [T.AY _ _ (by omega), T.AY _ _ (by omega)]
    | none =>
      rw [h1] at hk
      simp only [Option.isSome_none, go_sem, Option.getD_none]
      simp only [go_sem, DF (show i + 1 < 9223372036854775808 by omega)]
      refine ih _ ⟨_, _, rfl, f9.trans' (m := n8 + 1) (fun id hid => ?_) (by omega) hbn, by omega, ho.kp ((Kp.refl _ _).new _ (Nat.le_refl _) (by omega)), (T.AY _ _ (by omega)).trans g10, hk⟩
      rw [T.AY _ _ (by omega)]
  · rintro I st ⟨H3, n3, rfl, f3, hn3, ho, g3, hk⟩
    show Fb lfp G (Runs F G) k I (.ptr t 0) s.v (.ptr n 0) v (.int .i64 (.ofNat cs.length) 0) (.int .i64 (.ofNat cs.length) 0) H3 n3
    delta Fb
    rw [List.drop_eq_nil_of_le (Nat.le_refl _)] at hk
    simp only [go_sem, BI, Nat.lt_irrefl, decide_false]
    delta Nh
    simp only [kZ, BA]
    rw [EF (m := 2) g3 (by omega) rfl rfl, zO, Bg (m := 2) (T.Ac ..) (by omega) rfl]
    simp only [go_sem]
    refine hk _ _ (f3.trans' (m := n3) (fun id hid => ?_) (by omega) hbn)
    rw [T.AY _ _ (by omega)]
def AKz (st : Bool) (s : St) (ms : List Dc) : Option Dc := match VK s ms with
 | some m => bif m.st == st then some m else none
 | none => none
def Yt (fs : Tab) (s : St) (st : Bool) : List St -> Option (St × Dc)
 | [] => none
 | c :: cs => match AKz st s ((DT fs c).getD EW).ms with
  | some m => some (c, m)
  | none => Yt fs s st cs
def pI (fs : Tab) (c s : St) (st : Bool) : Option (St × Dc) := Yt fs s st (above fs c).1
theorem AG3 {G : AL} {H : Heap} {n t a b : Nat} {fs : Tab} (h : TabAt G H n t a b fs) (hfs : fs.length <= 1000) {c s : St} {st : Bool} {k : KV}
    (hk : ∀ H' n' w, Kb b H n H' n' -> dR G H' n w ((pI fs c s st).getD ((0, 0), Yd)).2 -> k (.II [((pI fs c s st).getD ((0, 0), Yd)).1.v, w, .bool (pI fs c s st).isSome]) H' n') :
    Runs F G Un [.ptr t 0, c.v, s.v, .bool st] H n k := by
  refine BM (s := ar4 (Gt lfp G)) OI (by obtain ⟨h, o⟩ := UD BL G; rw [OI] at h; cases h; exact o) ?_
  show Gt lfp G (Runs F G) (.ptr t 0) c.v s.v (.bool st) H n k
  delta Gt
  have hbn := h.bn
  unfold pI at hk
  refine Ld rfl fun H1 f1 g1 => ?_
  have f1 := f1.kb (b := b) hbn
  refine bg (h.kb f1) hfs fun H2 n2 v f2 ho hlen => ?_
  generalize (above fs c).1 = cs at ho hk hlen
  have f3 := f1.trans f2
  have g2 := f2.get g1 (by omega) (by omega)
  have h2n := f2.le
  simp only [go_sem, (ho.el (by omega)).len, Ie]
  refine BR (N := cs.length) (J := fun i q => ∃ H' n', q = (.ptr t 0, s.v, .bool st, .ptr n 0, v, .int .i64 (.ofNat cs.length) 0, .int .i64 (.ofNat i) 0, H', n') /\ Kb b H n H' n' /\ n < n' /\ Own G H' (n + 1) n' 1 v (strs cs) /\ T.get H' n = some (one (Yd.cells .Aa)) /\
    (∀ H' n' w, Kb b H n H' n' -> dR G H' n w ((Yt fs s st (cs.drop i)).getD ((0, 0), Yd)).2 -> k (.II [((Yt fs s st (cs.drop i)).getD ((0, 0), Yd)).1.v, w, .bool (Yt fs s st (cs.drop i)).isSome]) H' n')) ?_ ?_ ⟨H2, n2, rfl, f3, by omega, ho, g2, hk⟩
  · rintro I i q hlt ⟨H3, n3, rfl, f3, hn3, ho, g3, hk⟩ ih
    show Es lfp G (Runs F G) k I (.ptr t 0) s.v (.bool st) (.ptr n 0) v (.int .i64 (.ofNat cs.length) 0) (.int .i64 (.ofNat i) 0) H3 n3
    delta Es
    obtain ⟨q, hp, hld⟩ := (ho.el (by omega)).at (RU hlt)
    rw [List.drop_eq_getElem_cons hlt] at hk
    unfold Yt at hk
    generalize cs[i] = m at hld hk
    simp only [go_sem, BI, hlt, decide_true, hp, OG hld]
    refine gJ (s := m) (n0 := n) (h.kb (f3.low (Nat.le_refl _))) (by omega) fun H4 n4 w f4 hw => ?_
    obtain ⟨vf, vm, ws, hw, rfl⟩ := hw
    have f5 := f3.trans f4
    have h5n := f4.le
    simp only [go_sem, Nat.reduceAdd]
    rw [T.set_set]
    refine run_set fun H6 f6 g6 => ?_
    have f6' := f6.kb (b := b) (by omega)
    have f7 := f5.trans f6'
    refine jr (s := s) (n := n4 + 1) (n0 := n) (v := .agg [((DT fs m).getD EW).nm.v, ((DT fs m).getD EW).sup.v, vf, vm]) (c := (DT fs m).getD EW) ⟨vf, vm, ws, hw.ke ((f6.ke).low (by omega)), rfl⟩ (by omega) fun H8 n8 w f8 hw => ?_
    have f8' := f8.kb (b := b) (by omega)
    have f9 := f7.trans f8'
    have h9n := f8.le
    have f10 := f4.trans (f6'.trans f8')
    have ho := ho.kb f10 (by omega)
    have g10 := f10.get g3 hn3 (by omega)
    obtain ⟨x, rfl, hx⟩ := hw
    unfold AKz at hk
    have g11 : T.get (T.set H8 n8 (one (((VK s ((DT fs m).getD EW).ms).getD Yd).cells x))) n8 = _ := T.Ac ..
    have g12 : T.get (T.set H8 n8 (one (((VK s ((DT fs m).getD EW).ms).getD Yd).cells x))) n = _ := (T.AY _ _ (by omega)).trans g10
    unfold Dc.cells at g11 g12 ⊢
    simp only [go_sem, Nat.reduceAdd]
    rw [T.set_set]
    have no : (∀ H' n' w, Kb b H n H' n' -> dR G H' n w ((Yt fs s st (cs.drop (i + 1))).getD ((0, 0), Yd)).2 -> k (.II [((Yt fs s st (cs.drop (i + 1))).getD ((0, 0), Yd)).1.v, w, .bool (Yt fs s st (cs.drop (i + 1))).isSome]) H' n') ->
        I (.ptr t 0, s.v, .bool st, .ptr n 0, v, .int .i64 (.ofNat cs.length) 0, .int .i64 (.ofNat (i + 1)) 0, T.set H8 n8 (one (((VK s ((DT fs m).getD EW).ms).getD Yd).cells x)), n8 + 1) := fun hk => by
      refine ih _ ⟨_, _, rfl, f9.trans' (m := n8 + 1) (fun id hid => T.AY _ _ (by omega)) (by omega) hbn, by omega, ho.kp ((Kp.refl _ _).new _ (Nat.le_refl _) (by omega)), (T.AY _ _ (by omega)).trans g10, hk⟩
    unfold Dc.cells at no
    cases h1 : VK s ((DT fs m).getD EW).ms with
    | none =>
      rw [h1] at hk g11 g12 no
      simp only [Option.isSome_none, go_sem, Option.getD_none, DF (show i + 1 < 9223372036854775808 by omega)]
      exact no hk
    | some o =>
      rw [h1] at hk g11 g12 no hx
      simp only [Option.getD_some] at g11 g12 no hx
      simp only [Option.isSome_some, go_sem, Option.getD_some, Nat.reduceAdd, AU (off := 1) g11 rfl, AOA]
      cases h2 : o.st == st with
      | false =>
        simp only [h2, cond_false] at hk
        simp only [go_sem, DF (show i + 1 < 9223372036854775808 by omega)]
        exact no hk
      | true =>
        simp only [h2, cond_true] at hk
        simp only [go_sem]
        rw [EF (m := 5) g12 (by omega) rfl rfl]
        rw [Bg (m := 5) (T.Ac ..) (by omega) rfl]
        simp only [go_sem]
        have f11 : ∀ id, id < n -> T.get (T.set (T.set H8 n8 (one [o.nm.v, .bool o.st, x, o.ret.nm.v, .bool o.ret.arr])) n (one [o.nm.v, .bool o.st, x, o.ret.nm.v, .bool o.ret.arr])) id = T.get H8 id := fun id hid => by
          rw [T.AY _ _ (by omega), T.AY _ _ (by omega)]
        exact hk _ _ _ (f9.trans' (m := n8 + 1) f11 (by omega) hbn) ⟨x, rfl, hx.ke ((Kp.ke (n := n) (n' := n) ⟨Nat.le_refl _, f11⟩))⟩
  · rintro I q ⟨H3, n3, rfl, f3, hn3, ho, g3, hk⟩
    show Es lfp G (Runs F G) k I (.ptr t 0) s.v (.bool st) (.ptr n 0) v (.int .i64 (.ofNat cs.length) 0) (.int .i64 (.ofNat cs.length) 0) H3 n3
    delta Es
    rw [List.drop_eq_nil_of_le (Nat.le_refl _)] at hk
    simp only [go_sem, BI, Nat.lt_irrefl, decide_false]
    delta L6
    simp only [kZ, BA]
    rw [EF (m := 5) g3 (by omega) rfl rfl, zO, Bg (m := 5) (T.Ac ..) (by omega) rfl]
    simp only [go_sem]
    refine hk _ _ _ (f3.trans' (m := n3) (fun id hid => ?_) (by omega) hbn) AGE
    rw [T.AY _ _ (by omega)]
def twin (a : Option St) : List St -> Bool
 | [] => false
 | x :: xs => (match a with | some y => decide (y.1 = x.1 /\ y.2 = x.2) | none => false) || twin (some x) xs
abbrev ACT (fs : List wo) : List St := fs.map fun f => f.nm
abbrev xA (fs : List Dc) : List St := fs.map fun f => f.nm
def twice (c : Fc) : Bool := twin none (ACT c.fs) || twin none (xA c.ms)
theorem AO3 (a b : St) : Dx (.one .str) false a.v b.v = some (.bool (decide (a.1 = b.1 /\ a.2 = b.2))) := AAK ..
theorem AOs (i : Nat) : B2.ev .gtr (.int .i64 (.ofNat i) 0) (.int .i64 (.ofNat 0) 0) = some (.bool (decide (0 < i))) := FY ..
theorem AKU {G : AL} (hG : U6 G) {H : Heap} {n : Nat} {v : V} {c : Fc} (h : Qe G H n v c) {k : KV} (hk : ∀ H' n', Kp H n H' n' -> k (.bool (twice c)) H' n') : Runs F G kK [v] H n k := by
 refine BM (s := Jf (Qq lfp G)) XJ (by obtain ⟨h, o⟩ := eY BL G; rw [XJ] at h; cases h; exact o) ?_
 show Qq lfp G (Runs F G) v H n k
 obtain ⟨vf, vm, ws, h, rfl⟩ := h
 delta Qq
 unfold twice at hk
 refine Iu fun H1 f1 g1 => ?_
 have hf := h.fs.kp f1
 have hm := h.ms.kp f1
 have l2 : AZ (.ptr n 2) G H1 = some vf := AU g1 rfl
 have l3 : AZ (.ptr n 3) G H1 = some vm := AU g1 rfl
 have hbf := hf.lt
 have hbm := hm.lt
 simp only [go_sem, Nat.reduceAdd, l2, h.fs.len]
 have ALB : (∀ H' n', Kp H n H' n' -> k (.bool (twin none (xA c.ms))) H' n') -> PV lfp G (Runs F G) k (.ptr n 0) H1 (n + 1) := by
  intro hk
  delta PV
  simp only [go_sem, Nat.reduceAdd, l3, h.ms.len']
  refine BR (N := c.ms.length) (J := fun i q => q = (.ptr n 0, .int .i64 (.ofNat c.ms.length) 0, .int .i64 (.ofNat i) 0, H1, n + 1) /\
   (k (.bool (twin (match i with | 0 => none | i + 1 => (xA c.ms)[i]?) ((xA c.ms).drop i))) H1 (n + 1))) ?_ ?_ ⟨rfl, hk _ _ f1⟩
  ·rintro I i q hlt ⟨rfl, hk⟩ ih
   show MI lfp G (Runs F G) k I (.ptr n 0) (.int .i64 (.ofNat c.ms.length) 0) (.int .i64 (.ofNat i) 0) H1 (n + 1)
   delta MI
   have hlt' : i < (xA c.ms).length := by simpa using hlt
   rw [List.drop_eq_getElem_cons hlt', List.getElem_map] at hk
   unfold twin at hk
   obtain ⟨q, w, hp, hld, -⟩ := hm.at hlt
   obtain ⟨q', hp', hld'⟩ := YJ hG hld rfl (o := 0) (x := c.ms[i].nm.v) rfl
   simp only [go_sem, BI, hlt, decide_true, AOs]
   have next : (k (.bool (twin (some c.ms[i].nm) ((xA c.ms).drop (i + 1)))) H1 (n + 1)) -> I (.ptr n 0, .int .i64 (.ofNat c.ms.length) 0, .int .i64 (.ofNat (i + 1)) 0, H1, n + 1) := fun hk => by
    refine ih _ ⟨rfl, ?_⟩
    show k (.bool (twin ((xA c.ms)[i]?) _)) H1 (n + 1)
    rw [List.getElem?_eq_getElem hlt', List.getElem_map]; exact hk
   cases i with
   | zero =>
    simp only [Nat.lt_irrefl, decide_false, go_sem, DF (show 0 + 1 < 9223372036854775808 by omega)]
    exact next hk
   | succ i =>
    have hlt2 : i < c.ms.length := by omega
    obtain ⟨r, w2, hr, hldr, -⟩ := hm.at hlt2
    obtain ⟨r', hr', hldr'⟩ := YJ hG hldr rfl (o := 0) (x := c.ms[i].nm.v) rfl
    simp only [Nat.zero_lt_succ, decide_true, go_sem, Nat.reduceAdd, l3, AEA (show i + 1 < 9223372036854775808 by unfold big at hbm; omega), hr, hr', hldr', hp, hp', hld', AO3]
    have hk : k (.bool (decide (c.ms[i].nm.1 = c.ms[i + 1].nm.1 /\ c.ms[i].nm.2 = c.ms[i + 1].nm.2) || twin (some c.ms[i + 1].nm) ((xA c.ms).drop (i + 1 + 1)))) H1 (n + 1) := by
     have e : (xA c.ms)[i]? = some c.ms[i].nm := by rw [List.getElem?_map, List.getElem?_eq_getElem hlt2]; rfl
     simp only [e] at hk; exact hk
    cases e : decide (c.ms[i].nm.1 = c.ms[i + 1].nm.1 /\ c.ms[i].nm.2 = c.ms[i + 1].nm.2) with
    | true => rw [e] at hk; simp only [go_sem]; exact hk
    | false =>
     rw [e] at hk
     simp only [go_sem, DF (show i + 1 + 1 < 9223372036854775808 by unfold big at hbm; omega)]
     exact next hk
  ·rintro I q ⟨rfl, hk⟩
   show MI lfp G (Runs F G) k I (.ptr n 0) (.int .i64 (.ofNat c.ms.length) 0) (.int .i64 (.ofNat c.ms.length) 0) H1 (n + 1)
   delta MI
   rw [List.drop_eq_nil_of_le (by simp)] at hk
   simp only [go_sem, BI, Nat.lt_irrefl, decide_false]
   delta UR
   exact hk
 generalize twin none (xA c.ms) = B at hk ALB
 refine BR (N := c.fs.length) (J := fun i q => q = (.ptr n 0, .int .i64 (.ofNat c.fs.length) 0, .int .i64 (.ofNat i) 0, H1, n + 1) /\
  (∀ H' n', Kp H n H' n' -> k (.bool (twin (match i with | 0 => none | i + 1 => (ACT c.fs)[i]?) ((ACT c.fs).drop i) || B)) H' n')) ?_ ?_ ⟨rfl, hk⟩
 ·rintro I i q hlt ⟨rfl, hk⟩ ih
  show J9 lfp G (Runs F G) k I (.ptr n 0) (.int .i64 (.ofNat c.fs.length) 0) (.int .i64 (.ofNat i) 0) H1 (n + 1)
  delta J9
  have hlt' : i < (ACT c.fs).length := by simpa using hlt
  rw [List.drop_eq_getElem_cons hlt', List.getElem_map] at hk
  unfold twin at hk
  obtain ⟨q, hp, hld⟩ := hf.at hlt
  obtain ⟨q', hp', hld'⟩ := YJ hG hld rfl (o := 0) (x := c.fs[i].nm.v) rfl
  simp only [go_sem, BI, hlt, decide_true, AOs]
  have next : (∀ H' n', Kp H n H' n' -> k (.bool (twin (some c.fs[i].nm) ((ACT c.fs).drop (i + 1)) || B)) H' n') -> I (.ptr n 0, .int .i64 (.ofNat c.fs.length) 0, .int .i64 (.ofNat (i + 1)) 0, H1, n + 1) := fun hk => by
   refine ih _ ⟨rfl, ?_⟩
   show ∀ H' n', Kp H n H' n' -> k (.bool (twin ((ACT c.fs)[i]?) _ || _)) H' n'
   rw [List.getElem?_eq_getElem hlt', List.getElem_map]; exact hk
  cases i with
  | zero =>
   simp only [Nat.lt_irrefl, decide_false, go_sem, DF (show 0 + 1 < 9223372036854775808 by omega)]
   simp only [Bool.false_or] at hk
   exact next hk
  | succ i =>
   have hlt2 : i < c.fs.length := by omega
   obtain ⟨r, hr, hldr⟩ := hf.at hlt2
   obtain ⟨r', hr', hldr'⟩ := YJ hG hldr rfl (o := 0) (x := c.fs[i].nm.v) rfl
   simp only [Nat.zero_lt_succ, decide_true, go_sem, Nat.reduceAdd, l2, AEA (show i + 1 < 9223372036854775808 by unfold big at hbf; omega), hr, hr', hldr', hp, hp', hld', AO3]
   have hk : ∀ H' n', Kp H n H' n' -> k (.bool ((decide (c.fs[i].nm.1 = c.fs[i + 1].nm.1 /\ c.fs[i].nm.2 = c.fs[i + 1].nm.2) || twin (some c.fs[i + 1].nm) ((ACT c.fs).drop (i + 1 + 1))) || B)) H' n' := by
    have e : (ACT c.fs)[i]? = some c.fs[i].nm := by rw [List.getElem?_map, List.getElem?_eq_getElem hlt2]; rfl
    simp only [e] at hk; exact hk
   cases e : decide (c.fs[i].nm.1 = c.fs[i + 1].nm.1 /\ c.fs[i].nm.2 = c.fs[i + 1].nm.2) with
   | true => rw [e] at hk; simp only [go_sem]; exact hk _ _ f1
   | false =>
    rw [e] at hk
    simp only [go_sem, DF (show i + 1 + 1 < 9223372036854775808 by unfold big at hbf; omega)]
    exact next hk
 ·rintro I q ⟨rfl, hk⟩
  show J9 lfp G (Runs F G) k I (.ptr n 0) (.int .i64 (.ofNat c.fs.length) 0) (.int .i64 (.ofNat c.fs.length) 0) H1 (n + 1)
  delta J9
  rw [List.drop_eq_nil_of_le (by simp)] at hk
  simp only [go_sem, BI, Nat.lt_irrefl, decide_false]
  exact ALB hk
structure AL1 (G : AL) (H : Heap) (n m : Nat) (v : V) (cs : List Fc) : Prop where
 is : ∃ LS : Df, El G H v 4 LS /\ LS.length = cs.length /\ ∀ (i : Nat) (L : LV) (c : Fc), LS[i]? = some L -> cs[i]? = some c -> Qe G H m (.agg L) c
 lo : Lo v n
 lt : cs.length <= 1000
 mn : m <= n
def WO (fs : Tab) : List Fc -> Tab
 | [] => fs
 | c :: cs => WO (Qd c.nm c fs) cs
def G5 (cs : List Fc) : Tab := WO [] cs
theorem bY.put {G : AL} {H H' : Heap} {n a : Nat} {fs : Tab} {v : V} {c : Fc} {ps : List (St × V)} (hm : Zf H a ps) (hkey : keyed ps fs) (hv : ∀ s v c, DT ps s = some v -> DT fs s = some c -> Qe G H' n v c) (h1 : Zf H' a (Qd c.nm v ps)) (hc : Qe G H' n v c) :
    bY G H' n a (Qd c.nm c fs) :=
  ⟨_, h1, bI _ _ _ hkey, fun s w d h2 h3 => by
    rw [Qy] at h2 h3
    by_cases e : c.nm = s
    · rw [if_pos e] at h2 h3; cases h2; cases h3; exact hc
    · rw [if_neg e] at h2 h3; exact hv _ _ _ h2 h3⟩
theorem Qe.up {G : AL} {H : Heap} {n n' : Nat} {v : V} {c : Fc} (h : Qe G H n v c) (hn : n <= n') : Qe G H n' v c := h.ke ⟨hn, fun _ _ _ _ h => h⟩
theorem APW {G : AL} {H : Heap} {n m : Nat} {v : V} {cs : List Fc} (h : AL1 G H n m v cs) {k : KV}
    (hk : ∀ H' n' t a b, Kp H n H' n' -> T.get H' t = some (one [.map a, .map b]) -> bY G H' m a (G5 cs) -> Md H' b -> n <= a -> a < b -> b < t -> t < n' -> k (.ptr t 0) H' n') : Runs F G ru [v] H n k := by
  refine BM (s := Jf (WC lfp G)) Zh (by obtain ⟨h, o⟩ := og BL G; rw [Zh] at h; cases h; exact o) ?_
  show WC lfp G (Runs F G) v H n k
  delta WC
  obtain ⟨⟨LS, hel, hlen, hfv⟩, hlo, hlt, hmn⟩ := h
  simp only [AEI, go_sem, Nat.reduceAdd, show BO [V.wR, .wR] [(0, 1, .c (.map n)), (1, 1, .c (.map (n + 1)))] = some (.agg [.map n, .map (n + 1)]) from rfl, hel.len, hlen]
  have f1 : Kp H n (T.set (T.set (T.set H n (.map [] 0)) (n + 1) (.map [] 0)) (n + 1 + 1) (one [.map n, .map (n + 1)])) (n + 1 + 1 + 1) := ((((Kp.refl H n).new (m := n + 1) _ (Nat.le_refl _) (by omega)).new (m := n + 1 + 1) _ (by omega) (by omega)).new _ (by omega) (by omega))
  refine BR (N := cs.length) (J := fun i q => ∃ H' n' fs, q = (.ptr (n + 1 + 1) 0, v, .int .i64 (.ofNat cs.length) 0, .int .i64 (.ofNat i) 0, H', n') /\ Kp H n H' n' /\ n + 1 + 1 < n' /\ T.get H' (n + 1 + 1) = some (one [.map n, .map (n + 1)]) /\ bY G H' m n fs /\ Md H' (n + 1) /\
    WO fs (cs.drop i) = G5 cs) ?_ ?_ ⟨_, _, [], rfl, f1, by omega, T.Ac .., ⟨[], ⟨[], 0, by rw [T.AY _ _ (by omega), T.AY _ _ (by omega), T.Ac], rfl⟩, rfl, fun s v c h => by cases h⟩, ⟨[], [], 0, by rw [T.AY _ _ (by omega), T.Ac], rfl⟩, rfl⟩
  · rintro I i q hi ⟨H3, n3, fs, rfl, f3, hn3, g3, hfa, hs, htab⟩ ih
    show PG lfp G (Runs F G) k I (.ptr (n + 1 + 1) 0) v (.int .i64 (.ofNat cs.length) 0) (.int .i64 (.ofNat i) 0) H3 n3
    delta PG
    obtain ⟨q, hp, hld⟩ := (hel.kp hlo f3).at (i := i) (c := LS[i]'(by omega)) (List.getElem?_eq_getElem _)
    have hf := hfv i _ _ (List.getElem?_eq_getElem (by omega)) (List.getElem?_eq_getElem hi)
    rw [List.drop_eq_getElem_cons hi] at htab
    unfold WO at htab
    generalize cs[i] = fc at hf htab
    obtain ⟨vf, vm, ws, hf, e⟩ := hf
    have e' : LS[i]'(by omega) = [fc.nm.v, fc.sup.v, vf, vm] := by injection e
    rw [e'] at hld
    simp only [go_sem, BI, hi, decide_true, hp, CB hld, Nat.reduceAdd]
    rw [T.set_set]
    rw [show AZ (.ptr (n + 1 + 1) 0) G (T.set H3 n3 (one [fc.nm.v, fc.sup.v, vf, vm])) = some (.map n) from AU ((T.AY _ _ (by omega)).trans g3) rfl]
    obtain ⟨ps, hps, hkey, hval⟩ := hfa.is
    simp only [go_sem]
    refine AAg (YQ hps (T.AY _ _ (by omega))) fc.nm _ fun H4 hm4 hs4 => ?_
    simp only [go_sem, DF (show i + 1 < 9223372036854775808 by omega)]
    have f4 : Kp H n H4 (n3 + 1) := ⟨by omega, fun id hid => by rw [hs4 id (by omega), T.AY _ _ (by omega)]; exact f3.same id hid⟩
    have f5 : Kp H3 n H4 n := ⟨Nat.le_refl _, fun id hid => by rw [hs4 id (by omega), T.AY _ _ (by omega)]⟩
    refine ih _ ⟨H4, _, Qd fc.nm fc fs, rfl, f4, by omega, ?_, bY.put hps hkey (fun s v c x y => (hval s v c x y).ke (f5.ke.low hmn)) hm4 ⟨vf, vm, ws, hf.ke ((f4.ke).low hmn), rfl⟩, ?_, htab⟩
    · rw [hs4 _ (by omega), T.AY _ _ (by omega)]; exact g3
    · exact hs.same (by rw [hs4 _ (by omega), T.AY _ _ (by omega)])
  · rintro I q ⟨H3, n3, fs, rfl, f3, hn3, g3, hfa, hs, htab⟩
    show PG lfp G (Runs F G) k I (.ptr (n + 1 + 1) 0) v (.int .i64 (.ofNat cs.length) 0) (.int .i64 (.ofNat cs.length) 0) H3 n3
    delta PG
    simp only [go_sem, BI, Nat.lt_irrefl, decide_false]
    delta XL
    rw [List.drop_eq_nil_of_le (Nat.le_refl _)] at htab
    have htab : fs = G5 cs := htab
    subst htab
    exact hk _ _ _ n (n + 1) f3 g3 hfa hs (by omega) (by omega) (by omega) (by omega)
def AK4 (fs : Tab) (sup : St) (m : Dc) : Bool := match pI fs sup m.nm false with
 | some o => !m.st && !m.same o.2
 | none => false
def Zu (fs : Tab) (sup : St) : List Dc -> Int
 | [] => 0
 | m :: ms => bif !((m.ret :: m.ps).all (Qk fs)) then 23 else bif AK4 fs sup m then 27 else Zu fs sup ms
def ABT (fs : Tab) (sup : St) (r : Int) : List wo -> Int
 | [] => r
 | f :: l => bif !([f.ty].all (Qk fs)) then 23 else bif (ZR fs sup f.nm).isSome then 6 else ABT fs sup r l
structure AE7 (G : AL) (H0 : Heap) (n0 : Nat) (H : Heap) (n t a b e : Nat) (fs : Tab) (c : Fc) (vf vm : V) (ws : List V) : Prop where
 f : Kb b H0 n0 H n
 en : e < n
 e0 : n0 <= e
 g : T.get H e = some (one [c.nm.v, c.sup.v, vf, vm])
theorem AAV {G : AL} {H0 H : Heap} {n0 n t a b e : Nat} {fs : Tab} (h : TabAt G H0 n0 t a b fs) (hfs : fs.length <= 1000) {c : Fc} {vf vm : V} {ws : List V} (hc : AE7 G H0 n0 H n t a b e fs c vf vm ws)
    (hf : UK G H0 n0 [c.nm.v, c.sup.v, vf, vm] c vf vm ws) (hps : ∀ m ∈ c.ms, m.ps.length <= 100000) {k : KV} (hk : ∀ H' n', Kb b H0 n0 H' n' -> k (.int .i64 (Zu fs c.sup c.ms) 0) H' n') :
    Hu lfp G (Runs F G) k (.ptr t 0) (.ptr e 0) H n := by
  delta Hu
  have hbig := hf.ms.lt
  have hbn := h.bn
  simp only [go_sem, Nat.reduceAdd, AU (off := 3) hc.g (v := vm) rfl, hf.ms.len']
  refine BR (N := c.ms.length) (J := fun i q => ∃ H' n', q = (.ptr t 0, .ptr e 0, vm, .int .i64 (.ofNat c.ms.length) 0, .int .i64 (.ofNat i) 0, H', n') /\ AE7 G H0 n0 H' n' t a b e fs c vf vm ws /\
    (∀ H' n', Kb b H0 n0 H' n' -> k (.int .i64 (Zu fs c.sup (c.ms.drop i)) 0) H' n')) ?_ ?_ ⟨H, n, rfl, hc, hk⟩
  · rintro I i q hlt ⟨H3, n3, rfl, hc, hk⟩ ih
    show Ej lfp G (Runs F G) k I (.ptr t 0) (.ptr e 0) vm (.int .i64 (.ofNat c.ms.length) 0) (.int .i64 (.ofNat i) 0) H3 n3
    delta Ej
    have f3 := hc.f
    have hen := hc.en
    have he0 := hc.e0
    have hm3 : Ji G H3 n0 vm c.ms ws := hf.ms.ke ((f3.ke h.seen).low (Nat.le_refl _))
    obtain ⟨q, w, hp, hld, hw⟩ := hm3.at hlt
    have hps := hps _ (List.getElem_mem hlt)
    have hok := hf.ms.ok _ (List.getElem_mem hlt)
    rw [List.drop_eq_getElem_cons hlt] at hk
    unfold Zu at hk
    generalize c.ms[i] = m at hld hk hw hps hok
    unfold Dc.cells at hld
    simp only [go_sem, BI, hlt, decide_true, hp, CB hld, Nat.reduceAdd]
    rw [T.set_set]
    have g4 := T.Ac H3 n3 (one [m.nm.v, .bool m.st, w, m.ret.nm.v, .bool m.ret.arr])
    have f4 : Kp H3 n3 (T.set H3 n3 (one [m.nm.v, .bool m.st, w, m.ret.nm.v, .bool m.ret.arr])) (n3 + 1) := (Kp.refl _ _).new _ (Nat.le_refl _) (by omega)
    generalize T.set H3 n3 (one [m.nm.v, .bool m.st, w, m.ret.nm.v, .bool m.ret.arr]) = H4 at f4 g4
    rw [show Ae 2 (.ptr n3 3) G H4 = some (.agg m.ret.cells) from FM g4 (by omega) (by show 5 <= 5; omega)]
    simp only [go_sem, Nat.reduceAdd]
    rw [nO (z := 2) (L := m.ret.cells) rfl]
    have hcap := T.Ac H4 (n3 + 1) (.arr 2 1 (T.set (T.set .e 0 [.str 0 0, .bool false]) 0 m.ret.cells))
    have f5 : Kp H4 (n3 + 1) (T.set H4 (n3 + 1) (.arr 2 1 (T.set (T.set .e 0 [.str 0 0, .bool false]) 0 m.ret.cells))) (n3 + 1 + 1) := (Kp.refl _ _).new _ (Nat.le_refl _) (by omega)
    generalize T.set H4 (n3 + 1) (.arr 2 1 (T.set (T.set .e 0 [.str 0 0, .bool false]) 0 m.ret.cells)) = H5 at f5 hcap
    have g5 := f5.get g4 (by omega)
    have hel := Yl (G := G) (by omega) (show m.ret.cells.length = 2 from rfl) hcap
    have fb5 := f3.trans ((f4.trans f5).kb (b := b) (by omega))
    have hw5 := hw.ke (((f4.trans f5).ke).low (m := n0) (by omega))
    simp only [go_sem, AU (off := 2) g5 (v := w) rfl]
    refine AJF (by omega) hcap (by omega) hel.2 hw5.el.2 (by rw [Ee]; omega) fun v6 H6 n6 hel6 hs6 hn6 hlo6 => ?_
    have f6 : Kp H5 (n3 + 1 + 1) H6 n6 := ⟨hn6, hs6⟩
    have fb6 := fb5.trans (f6.kb (b := b) (by omega))
    have g6 := f6.get g5 (by omega)
    refine Yr (xs := m.ret :: m.ps) (h.kb fb6) ⟨hel6, hlo6, by simp [big]; omega, ?_⟩ fun H7 n7 f7 => ?_
    · intro x hx
      rcases List.mem_cons.1 hx with rfl | hx
      · exact hok.2
      · exact hw.ok _ hx
    have fb7 := fb6.trans f7
    have h7n := f7.le
    have g7 := f7.get g6 (by omega) (by omega)
    simp only [go_sem, Nat.reduceAdd, BK]
    cases h1 : (m.ret :: m.ps).all (Qk fs) with
    | false =>
      rw [h1] at hk
      simp only [Bool.not_false, cond_true] at hk
      simp only [Bool.not_false, go_sem]
      exact hk _ _ fb7
    | true =>
      rw [h1] at hk
      simp only [Bool.not_true, cond_false] at hk
      have fe : Kb b H3 n3 H7 n7 := ((f4.trans (f5.trans f6)).kb (b := b) (by omega)).trans f7
      have ge : T.get H7 e = some (one [c.nm.v, c.sup.v, vf, vm]) := fe.get hc.g hen (by omega)
      simp only [Bool.not_true, go_sem, Nat.reduceAdd, AU (off := 1) ge (v := c.sup.v) rfl, AU (off := 0) g7 (v := m.nm.v) rfl]
      refine AG3 (c := c.sup) (s := m.nm) (st := false) (h.kb fb7) hfs fun H8 n8 x f8 hx => ?_
      have fb8 := fb7.trans f8
      have h8n := f8.le
      have g8 := f8.get g7 (by omega) (by omega)
      have hw8 : dR G H8 n7 (.agg (m.cells w)) m := ⟨w, rfl, (hw.ke (((fe.trans f8).ke (f3.seen h.seen)).low (m := n0) (by omega))).ke ⟨by omega, fun _ _ _ _ h => h⟩⟩
      obtain ⟨y, rfl, hy⟩ := hx
      unfold AK4 at hk
      have next : ∀ H' n', Kb b H8 n8 H' n' -> (∀ H' n', Kb b H0 n0 H' n' -> k (.int .i64 (Zu fs c.sup (c.ms.drop (i + 1))) 0) H' n') -> I (.ptr t 0, .ptr e 0, vm, .int .i64 (.ofNat c.ms.length) 0, .int .i64 (.ofNat (i + 1)) 0, H', n') := fun H' n' f hk =>
        ih _ ⟨_, _, rfl, ⟨fb8.trans f, by have := f.le; omega, he0, f.get (f8.get ge (by omega) (by omega)) (by omega) (by omega)⟩, hk⟩
      simp only [go_sem, Nat.reduceAdd]
      have g9 := T.Ac H8 n8 (one (((pI fs c.sup m.nm false).getD ((0, 0), Yd)).2.cells y))
      have f9 : Kp H8 n8 (T.set H8 n8 (one (((pI fs c.sup m.nm false).getD ((0, 0), Yd)).2.cells y))) (n8 + 1) := (Kp.refl _ _).new _ (Nat.le_refl _) (by omega)
      unfold Dc.cells at g9 f9 ⊢
      simp only [go_sem, Nat.reduceAdd]
      rw [T.set_set]
      cases h2 : pI fs c.sup m.nm false with
      | none =>
        rw [h2] at hk f9
        simp only [cond_false] at hk
        simp only [Option.isSome_none, go_sem, DF (show i + 1 < 9223372036854775808 by unfold big at hbig; omega)]
        exact next _ _ (f9.kb (by omega)) hk
      | some o =>
        rw [h2] at hk f9 g9 hy
        simp only [Option.getD_some] at f9 g9 hy
        simp only [Option.isSome_some, Option.getD_some]
        generalize T.set H8 n8 (one [o.2.nm.v, .bool o.2.st, y, o.2.ret.nm.v, .bool o.2.ret.arr]) = H9 at f9 g9
        have gm := f9.get g8 (by omega)
        simp only [go_sem, Nat.reduceAdd, AU (off := 1) gm (v := .bool m.st) rfl, BK]
        cases h3 : m.st with
        | true =>
          rw [h3] at hk
          simp only [Bool.not_true, Bool.false_and, cond_false] at hk
          simp only [Bool.not_true, go_sem, DF (show i + 1 < 9223372036854775808 by unfold big at hbig; omega)]
          exact next _ _ (f9.kb (by omega)) hk
        | false =>
          rw [h3] at hk
          simp only [Bool.not_false, Bool.true_and] at hk
          simp only [Bool.not_false, go_sem, D5 (m := 5) gm (by omega) rfl, D5 (m := 5) g9 (by omega) rfl]
          have hwS : dR G H9 (n8 + 1) (.agg [m.nm.v, .bool m.st, w, m.ret.nm.v, .bool m.ret.arr]) m := hw8.ke ⟨by omega, fun v z LS hl he => (f9.ke).el v z LS (hl.mono (by omega)) he⟩
          have hyS : dR G H9 (n8 + 1) (.agg [o.2.nm.v, .bool o.2.st, y, o.2.ret.nm.v, .bool o.2.ret.arr]) o.2 := ⟨y, rfl, hy.ke ⟨by omega, fun v z LS hl he => (f9.ke).el v z LS (hl.mono (by omega)) he⟩⟩
          refine yB hwS hyS fun H10 n10 f10 => ?_
          have f11 := (f9.trans f10).kb (b := b) (by omega)
          simp only [go_sem, BK]
          cases h4 : m.same o.2 with
          | false =>
            rw [h4] at hk
            simp only [Bool.not_false, cond_true] at hk
            simp only [Bool.not_false, go_sem]
            exact hk _ _ (fb8.trans f11)
          | true =>
            rw [h4] at hk
            simp only [Bool.not_true, cond_false] at hk
            simp only [Bool.not_true, go_sem, DF (show i + 1 < 9223372036854775808 by unfold big at hbig; omega)]
            exact next _ _ f11 hk
  · rintro I q ⟨H3, n3, rfl, hc, hk⟩
    show Ej lfp G (Runs F G) k I (.ptr t 0) (.ptr e 0) vm (.int .i64 (.ofNat c.ms.length) 0) (.int .i64 (.ofNat c.ms.length) 0) H3 n3
    delta Ej
    rw [List.drop_eq_nil_of_le (Nat.le_refl _)] at hk
    simp only [go_sem, BI, Nat.lt_irrefl, decide_false]
    delta LY
    exact hk _ _ hc.f
theorem ACW {G : AL} {H0 H : Heap} {n0 n t a b e : Nat} {fs : Tab} (h : TabAt G H0 n0 t a b fs) (hfs : fs.length <= 1000) {c : Fc} {vf vm : V} {ws : List V} (hc : AE7 G H0 n0 H n t a b e fs c vf vm ws)
    (hf : UK G H0 n0 [c.nm.v, c.sup.v, vf, vm] c vf vm ws) (hps : ∀ m ∈ c.ms, m.ps.length <= 100000) {k : KV} (hk : ∀ H' n', Kb b H0 n0 H' n' -> k (.int .i64 (ABT fs c.sup (Zu fs c.sup c.ms) c.fs) 0) H' n') :
    lfp (V × V × V × V × V × Heap × Nat) (Jz lfp G (Runs F G) k) (.ptr t 0, .ptr e 0, vf, .int .i64 (.ofNat c.fs.length) 0, .int .i64 (.ofNat 0) 0, H, n) := by
  have hbig := hf.fs.lt
  have hbn := h.bn
  refine BR (N := c.fs.length) (J := fun i q => ∃ H' n', q = (.ptr t 0, .ptr e 0, vf, .int .i64 (.ofNat c.fs.length) 0, .int .i64 (.ofNat i) 0, H', n') /\ AE7 G H0 n0 H' n' t a b e fs c vf vm ws /\
    (∀ H' n', Kb b H0 n0 H' n' -> k (.int .i64 (ABT fs c.sup (Zu fs c.sup c.ms) (c.fs.drop i)) 0) H' n')) ?_ ?_ ⟨H, n, rfl, hc, hk⟩
  · rintro I i q hlt ⟨H3, n3, rfl, hc, hk⟩ ih
    show Em lfp G (Runs F G) k I (.ptr t 0) (.ptr e 0) vf (.int .i64 (.ofNat c.fs.length) 0) (.int .i64 (.ofNat i) 0) H3 n3
    delta Em
    have f3 := hc.f
    have hen := hc.en
    have he0 := hc.e0
    have hm3 : RY G H3 n0 vf c.fs := hf.fs.ke ((f3.ke h.seen).low (Nat.le_refl _))
    obtain ⟨q, hp, hld⟩ := hm3.at hlt
    have hok := hf.fs.ok _ (List.getElem_mem hlt)
    rw [List.drop_eq_getElem_cons hlt] at hk
    unfold ABT at hk
    generalize c.fs[i] = m at hld hk hok
    unfold wo.cells at hld
    simp only [go_sem, BI, hlt, decide_true, hp, CB hld, Nat.reduceAdd]
    rw [T.set_set]
    have g4 := T.Ac H3 n3 (one [m.nm.v, m.ty.nm.v, .bool m.ty.arr])
    have f4 : Kp H3 n3 (T.set H3 n3 (one [m.nm.v, m.ty.nm.v, .bool m.ty.arr])) (n3 + 1) := (Kp.refl _ _).new _ (Nat.le_refl _) (by omega)
    generalize T.set H3 n3 (one [m.nm.v, m.ty.nm.v, .bool m.ty.arr]) = H4 at f4 g4
    rw [show Ae 2 (.ptr n3 1) G H4 = some (.agg m.ty.cells) from FM g4 (by omega) (by show 3 <= 3; omega)]
    simp only [go_sem, Nat.reduceAdd]
    rw [nO (z := 2) (L := m.ty.cells) rfl]
    have hcap := T.Ac H4 (n3 + 1) (.arr 2 1 (T.set (T.set .e 0 [.str 0 0, .bool false]) 0 m.ty.cells))
    have f5 : Kp H4 (n3 + 1) (T.set H4 (n3 + 1) (.arr 2 1 (T.set (T.set .e 0 [.str 0 0, .bool false]) 0 m.ty.cells))) (n3 + 1 + 1) := (Kp.refl _ _).new _ (Nat.le_refl _) (by omega)
    generalize T.set H4 (n3 + 1) (.arr 2 1 (T.set (T.set .e 0 [.str 0 0, .bool false]) 0 m.ty.cells)) = H5 at f5 hcap
    have g5 := f5.get g4 (by omega)
    have hel := Yl (G := G) (by omega) (show m.ty.cells.length = 2 from rfl) hcap
    have fb5 := f3.trans ((f4.trans f5).kb (b := b) (by omega))
    refine Yr (xs := [m.ty]) (h.kb fb5) ⟨hel, fun id hid => by cases hid; omega, by show 1 < big; decide, ?_⟩ fun H7 n7 f7 => ?_
    · intro x hx; simp at hx; subst hx; exact hok.2
    have fb7 := fb5.trans f7
    have h7n := f7.le
    have g7 := f7.get g5 (by omega) (by omega)
    simp only [go_sem, Nat.reduceAdd, BK]
    cases h1 : [m.ty].all (Qk fs) with
    | false =>
      rw [h1] at hk
      simp only [Bool.not_false, cond_true] at hk
      simp only [Bool.not_false, go_sem]
      exact hk _ _ fb7
    | true =>
      rw [h1] at hk
      simp only [Bool.not_true, cond_false] at hk
      have fe : Kb b H3 n3 H7 n7 := ((f4.trans f5).kb (b := b) (by omega)).trans f7
      have ge : T.get H7 e = some (one [c.nm.v, c.sup.v, vf, vm]) := fe.get hc.g hen (by omega)
      simp only [Bool.not_true, go_sem, Nat.reduceAdd, AU (off := 1) ge (v := c.sup.v) rfl, AU (off := 0) g7 (v := m.nm.v) rfl]
      refine AEY (c := c.sup) (s := m.nm) (h.kb fb7) hfs fun H8 n8 f8 => ?_
      have fb8 := fb7.trans f8
      have h8n := f8.le
      unfold Ty.v Ty.cells
      simp only [go_sem, Nat.reduceAdd]
      rw [T.set_set]
      have f9 : Kp H8 n8 (T.set H8 n8 (one [((ZR fs c.sup m.nm).getD ((0, 0), tyZ)).2.nm.v, .bool ((ZR fs c.sup m.nm).getD ((0, 0), tyZ)).2.arr])) (n8 + 1) := (Kp.refl _ _).new _ (Nat.le_refl _) (by omega)
      have fb9 := fb8.trans (f9.kb (b := b) (by omega))
      cases h2 : (ZR fs c.sup m.nm).isSome with
      | true =>
        rw [h2] at hk
        simp only [cond_true] at hk
        simp only [go_sem]
        exact hk _ _ fb9
      | false =>
        rw [h2] at hk
        simp only [cond_false] at hk
        simp only [go_sem, DF (show i + 1 < 9223372036854775808 by unfold big at hbig; omega)]
        exact ih _ ⟨_, _, rfl, ⟨fb9, by omega, he0, f9.get (f8.get ge (by omega) (by omega)) (by omega)⟩, hk⟩
  · rintro I q ⟨H3, n3, rfl, hc, hk⟩
    show Em lfp G (Runs F G) k I (.ptr t 0) (.ptr e 0) vf (.int .i64 (.ofNat c.fs.length) 0) (.int .i64 (.ofNat c.fs.length) 0) H3 n3
    delta Em
    rw [List.drop_eq_nil_of_le (Nat.le_refl _)] at hk
    simp only [go_sem, BI, Nat.lt_irrefl, decide_false]
    exact AAV h hfs hc hf hps hk
theorem yM : ∀ (m : Nat) (fs : Tab) (out : List St) (s : St), out.length <= (JZ m fs out s).1.length
 | 0, _, _, _ => Nat.le_refl _
 | m + 1, fs, out, s => by
  unfold JZ
  cases decide (s.1 = 0 /\ s.2 = 0) with
  | true => exact Nat.le_refl _
  | false =>
   simp only [cond_false]
   cases DT fs s with
   | none => exact Nat.le_refl _
   | some c =>
    show _ <= (bif aG s out then (out, false) else JZ m fs (out ++ [s]) c.sup).1.length
    cases aG s out with
    | true => exact Nat.le_refl _
    | false => have := yM m fs (out ++ [s]) c.sup; simp only [List.length_append, List.length_singleton] at this; simp only [cond_false]; omega
theorem AFV {fs : Tab} {s : St} {c : Fc} (h : DT fs s = some c) (h0 : ¬ (s.1 = 0 /\ s.2 = 0)) : 1 <= (above fs s).1.length := by
 unfold above JZ
 rw [decide_eq_false h0, h]
 show 1 <= (JZ fs.length fs [s] c.sup).1.length
 exact yM fs.length fs [s] c.sup
def lastOf (xs : List St) : St := (xs[xs.length - 1]?).getD (0, 0)
def UN (fs : Tab) (s : St) : Int := match DT fs s with
 | none => 23
 | some c => bif decide (s.1 = 0 /\ s.2 = 0) then 23 else
  bif !(above fs s).2 && !aG ((DT fs (lastOf (above fs s).1)).getD EW).sup (above fs s).1 then 23 else
  bif !(above fs s).2 then 26 else bif twice c then 6 else ABT fs c.sup (Zu fs c.sup c.ms) c.fs
theorem AJ6 {G : AL} (hG : U6 G) {H : Heap} {n t a b : Nat} {fs : Tab} (h : TabAt G H n t a b fs) (hfs : fs.length <= 1000) (hps : ∀ s c, DT fs s = some c -> ∀ m ∈ c.ms, m.ps.length <= 100000) {s : St} {k : KV}
    (hk : ∀ H' n', Kb b H n H' n' -> k (.int .i64 (UN fs s) 0) H' n') : Runs F G Va [.ptr t 0, s.v] H n k := by
  refine BM (s := Rf (IJ lfp G)) Oi (by obtain ⟨h, o⟩ := Us BL G; rw [Oi] at h; cases h; exact o) ?_
  show IJ lfp G (Runs F G) (.ptr t 0) s.v H n k
  delta IJ
  have hbn := h.bn
  unfold UN at hk
  refine gJ (s := s) h (Nat.le_refl _) fun H1 n1 w f1 hw => ?_
  obtain ⟨vf, vm, ws, hw, rfl⟩ := hw
  have h1n := f1.le
  simp only [go_sem, Nat.reduceAdd, BK]
  rw [T.set_set]
  have g2 := T.Ac H1 n1 (one [((DT fs s).getD EW).nm.v, ((DT fs s).getD EW).sup.v, vf, vm])
  have f2 : Kp H1 n1 (T.set H1 n1 (one [((DT fs s).getD EW).nm.v, ((DT fs s).getD EW).sup.v, vf, vm])) (n1 + 1) := (Kp.refl _ _).new _ (Nat.le_refl _) (by omega)
  have fb2 := f1.trans (f2.kb (b := b) (by omega))
  cases hl : DT fs s with
  | none =>
    rw [hl] at hk fb2
    simp only [Option.isSome_none, Bool.not_false, go_sem]
    exact hk _ _ fb2
  | some c =>
    rw [hl] at hk fb2 g2 f2 hw
    simp only [Option.getD_some] at hk fb2 g2 f2 hw
    simp only [Option.isSome_some, Bool.not_true, go_sem, Option.getD_some, show Dx (.one .str) false s.v (.str 0 0) = some (.bool (decide (s.1 = 0 /\ s.2 = 0))) from AAK ..]
    cases h0 : decide (s.1 = 0 /\ s.2 = 0) with
    | true =>
      rw [h0] at hk
      simp only [go_sem]
      exact hk _ _ fb2
    | false =>
      rw [h0] at hk
      simp only [cond_false] at hk
      simp only [go_sem]
      generalize T.set H1 n1 (one [c.nm.v, c.sup.v, vf, vm]) = H2 at fb2 g2 f2
      refine bg (s := s) (h.kb fb2) hfs fun H3 n3 v f3 ho hlen => ?_
      have hpos := AFV hl (of_decide_eq_false h0)
      generalize (above fs s).1 = up at ho hlen hpos hk
      generalize (above fs s).2 = whole at hk
      have fb3 := fb2.trans f3
      have h3n := f3.le
      have g3 := f3.get g2 (by omega) (by omega)
      have hel := ho.el (by omega)
      obtain ⟨m, hm⟩ : ∃ m, up.length = m + 1 := ⟨up.length - 1, by omega⟩
      have hlt : m < up.length := by omega
      obtain ⟨q, hp, hld⟩ := hel.at (RU hlt)
      have hlast : lastOf up = up[m] := by unfold lastOf; rw [show up.length - 1 = m by omega, List.getElem?_eq_getElem hlt]; rfl
      simp only [go_sem, hel.len, Ie, hm, AEA (show m + 1 < 9223372036854775808 by omega), hp, OG hld]
      rw [<- hlast]
      refine gJ (s := lastOf up) (h.kb fb3) (Nat.le_refl _) fun H4 n4 w f4 hw4 => ?_
      obtain ⟨vf4, vm4, ws4, hw4, rfl⟩ := hw4
      have fb4 := fb3.trans f4
      have h4n := f4.le
      have g4 := f4.get g3 (by omega) (by omega)
      have ho4 := ho.kb f4 (by omega)
      simp only [go_sem, Nat.reduceAdd, BK]
      rw [T.set_set]
      generalize (DT fs (lastOf up)).getD EW = lc at hw4 hk
      have g5 := T.Ac H4 n4 (one [lc.nm.v, lc.sup.v, vf4, vm4])
      have f5 : Kp H4 n4 (T.set H4 n4 (one [lc.nm.v, lc.sup.v, vf4, vm4])) (n4 + 1) := (Kp.refl _ _).new _ (Nat.le_refl _) (by omega)
      generalize T.set H4 n4 (one [lc.nm.v, lc.sup.v, vf4, vm4]) = H5 at g5 f5
      have fb5 := fb4.trans (f5.kb (b := b) (by omega))
      have ge := f5.get g4 (by omega)
      cases whole with
      | false =>
        simp only [Bool.not_false, Bool.true_and] at hk
        simp only [Bool.not_false, go_sem, Nat.reduceAdd, AU (off := 1) g5 (v := lc.sup.v) rfl]
        refine iy (s := lc.sup) (xs := up) ((ho4.kp f5).el (by omega)) (by omega) ?_
        simp only [go_sem, BK]
        cases h6 : aG lc.sup up with
        | false =>
          rw [h6] at hk
          simp only [Bool.not_false, cond_true] at hk
          simp only [Bool.not_false, go_sem]
          exact hk _ _ fb5
        | true =>
          rw [h6] at hk
          simp only [Bool.not_true, cond_false, cond_true] at hk
          simp only [Bool.not_true, go_sem]
          exact hk _ _ fb5
      | true =>
        simp only [Bool.not_true, Bool.false_and, cond_false] at hk
        have fe : Kb b H1 n1 H5 (n4 + 1) := (f2.kb (by omega)).trans (f3.trans (f4.trans (f5.kb (by omega))))
        simp only [Bool.not_true, go_sem]
        rw [D5 (m := 4) ge (by omega) rfl, BA]
        have hwf : Qe G H5 (n4 + 1) (.agg [c.nm.v, c.sup.v, vf, vm]) c := ⟨vf, vm, ws, (hw.ke ((fe.ke (f1.seen h.seen)).low h1n)).ke ⟨by omega, fun _ _ _ _ h => h⟩, rfl⟩
        refine AKU hG hwf fun H6 n6 f6 => ?_
        have fb6 := fb5.trans (f6.kb (b := b) (by omega))
        have h6n := f6.le
        cases h7 : twice c with
        | true =>
          rw [h7] at hk
          simp only [cond_true] at hk
          simp only [go_sem]
          exact hk _ _ fb6
        | false =>
          rw [h7] at hk
          simp only [cond_false] at hk
          have ge6 := f6.get ge (by omega)
          simp only [go_sem, Nat.reduceAdd, AU (off := 2) ge6 (v := vf) rfl, hw.fs.len]
          exact ACW (h.kb (f1.low (Nat.le_refl _))) hfs ⟨(fe.trans (f6.kb (by omega))).AOO h1n, by omega, h1n, ge6⟩ hw (hps s c hl) fun H' n' f => hk _ _ ((f1.low (Nat.le_refl _)).trans f)
structure QF (G : AL) (H : Heap) (n i t a b fm : Nat) (vn : V) (fs : Tab) : Prop where
 iN : i < n
 ib : i ≠ b
 at' : T.get H i = some (one [.ptr t 0, .map fm, vn])
 tab : TabAt G H n t a b fs
theorem QF.kb {G : AL} {H H' : Heap} {n n' i t a b fm : Nat} {vn : V} {fs : Tab} (h : QF G H n i t a b fm vn fs) (f : Kb b H n H' n') : QF G H' n' i t a b fm vn fs :=
 ⟨Nat.lt_of_lt_of_le h.iN f.le, h.ib, f.get h.at' h.iN h.ib, h.tab.kb f⟩
def PMV (G : AL) (H : Heap) (n : Nat) (v : V) (p : PM) : Prop := ∃ w, v = .agg (p.cells w) /\ MK G H n w p.m.ps
def bF (fs : Tab) (p : PM) : List St -> Option St
 | [] => none
 | c :: cs => match VK p.m.nm ((DT fs c).getD EW).ms with
  | some o => bif o.same p.m then some c else bF fs p cs
  | none => bF fs p cs
def dn (fs : Tab) (p : PM) : Option St := bF fs p (above fs p.own).1
theorem AMx {G : AL} {H : Heap} {n i t a b fm : Nat} {vn : V} {fs : Tab} (h : QF G H n i t a b fm vn fs) (hfs : fs.length <= 1000) {v : V} {p : PM} (hp : PMV G H n v p) {k : KV}
    (hk : ∀ H' n', Kb b H n H' n' -> k (.II [((dn fs p).getD (0, 0)).v, .bool (dn fs p).isSome]) H' n') : Runs F G XA [.ptr i 0, v] H n k := by
  refine BM (s := Rf (JC lfp G)) Pj (by obtain ⟨h, o⟩ := WA BL G; rw [Pj] at h; cases h; exact o) ?_
  show JC lfp G (Runs F G) (.ptr i 0) v H n k
  obtain ⟨w, rfl, hw⟩ := hp
  delta JC
  have hbn := h.tab.bn
  unfold dn at hk
  refine Iu fun H1 f1 g1 => ?_
  have f1' := f1.kb (b := b) hbn
  have h1 := h.kb f1'
  unfold PM.cells at g1
  simp only [go_sem, Nat.reduceAdd, AU (off := 0) h1.at' (v := .ptr t 0) rfl, AU (off := 5) g1 (v := p.own.v) rfl]
  refine bg (s := p.own) h1.tab hfs fun H2 n2 x f2 ho hlen => ?_
  generalize (above fs p.own).1 = cs at ho hk hlen
  have f3 := f1'.trans f2
  have g2 := f2.get g1 (by omega) (by omega)
  have h2n := f2.le
  simp only [go_sem, (ho.el (by omega)).len, Ie]
  refine BR (N := cs.length) (J := fun j q => ∃ H' n', q = (.ptr i 0, .ptr n 0, x, .int .i64 (.ofNat cs.length) 0, .int .i64 (.ofNat j) 0, H', n') /\ Kb b H n H' n' /\ n < n' /\ Own G H' (n + 1) n' 1 x (strs cs) /\ T.get H' n = some (one [p.m.nm.v, .bool p.m.st, w, p.m.ret.nm.v, .bool p.m.ret.arr, p.own.v]) /\
    (∀ H' n', Kb b H n H' n' -> k (.II [((bF fs p (cs.drop j)).getD (0, 0)).v, .bool (bF fs p (cs.drop j)).isSome]) H' n')) ?_ ?_ ⟨H2, n2, rfl, f3, by omega, ho, g2, hk⟩
  · rintro I j q hlt ⟨H3, n3, rfl, f3, hn3, ho, g3, hk⟩ ih
    show Fh lfp G (Runs F G) k I (.ptr i 0) (.ptr n 0) x (.int .i64 (.ofNat cs.length) 0) (.int .i64 (.ofNat j) 0) H3 n3
    delta Fh
    have h3 := h.kb f3
    obtain ⟨q, hp, hld⟩ := (ho.el (by omega)).at (RU hlt)
    rw [List.drop_eq_getElem_cons hlt] at hk
    unfold bF at hk
    generalize cs[j] = m at hld hk
    simp only [go_sem, BI, hlt, decide_true, hp, OG hld, Nat.reduceAdd, AU (off := 0) h3.at' (v := .ptr t 0) rfl]
    refine gJ (s := m) (n0 := n) (h.tab.kb (f3.low (Nat.le_refl _))) (by omega) fun H4 n4 y f4 hy => ?_
    obtain ⟨vf, vm, ws, hy, rfl⟩ := hy
    have f5 := f3.trans f4
    have h5n := f4.le
    simp only [go_sem, Nat.reduceAdd]
    rw [T.set_set]
    have f6 : Kp H4 n4 (T.set H4 n4 (one [((DT fs m).getD EW).nm.v, ((DT fs m).getD EW).sup.v, vf, vm])) (n4 + 1) := (Kp.refl _ _).new _ (Nat.le_refl _) (by omega)
    generalize T.set H4 n4 (one [((DT fs m).getD EW).nm.v, ((DT fs m).getD EW).sup.v, vf, vm]) = H6 at f6
    have f6' := f6.kb (b := b) (by omega)
    have g6 := f6'.get (f4.get g3 hn3 (by omega)) (by omega) (by omega)
    rw [show AZ (.ptr n 0) G H6 = some p.m.nm.v from AU g6 rfl, BA]
    refine jr (s := p.m.nm) (n := n4 + 1) (n0 := n) (v := .agg [((DT fs m).getD EW).nm.v, ((DT fs m).getD EW).sup.v, vf, vm]) (c := (DT fs m).getD EW) ⟨vf, vm, ws, hy.ke ((f6.ke).low (by omega)), rfl⟩ (by omega) fun H8 n8 y f8 hy => ?_
    have f8' := f8.kb (b := b) (by omega)
    have f10 := f4.trans (f6'.trans f8')
    have f9 := f3.trans f10
    have h9n := f8.le
    have ho := ho.kb f10 (by omega)
    have g10 := f10.get g3 hn3 (by omega)
    obtain ⟨z, rfl, hz⟩ := hy
    have g11 := T.Ac H8 n8 (one (((VK p.m.nm ((DT fs m).getD EW).ms).getD Yd).cells z))
    have f11 : Kp H8 n8 (T.set H8 n8 (one (((VK p.m.nm ((DT fs m).getD EW).ms).getD Yd).cells z))) (n8 + 1) := (Kp.refl _ _).new _ (Nat.le_refl _) (by omega)
    unfold Dc.cells at g11 f11 ⊢
    simp only [go_sem, Nat.reduceAdd]
    rw [T.set_set]
    have f12 := f10.trans (f11.kb (b := b) (by omega))
    have next : ∀ H' n', Kb b H3 n3 H' n' -> (∀ H' n', Kb b H n H' n' -> k (.II [((bF fs p (cs.drop (j + 1))).getD (0, 0)).v, .bool (bF fs p (cs.drop (j + 1))).isSome]) H' n') -> I (.ptr i 0, .ptr n 0, x, .int .i64 (.ofNat cs.length) 0, .int .i64 (.ofNat (j + 1)) 0, H', n') := fun H' n' f hk =>
      ih _ ⟨_, _, rfl, f3.trans f, by have := f.le; omega, Own.kb (by assumption) f (by omega), f.get g3 hn3 (by omega), hk⟩
    cases h1 : VK p.m.nm ((DT fs m).getD EW).ms with
    | none =>
      rw [h1] at hk f12
      simp only [Option.isSome_none, go_sem, DF (show j + 1 < 9223372036854775808 by omega)]
      exact next _ _ f12 hk
    | some o =>
      rw [h1] at hk f11 f12 g11 hz
      simp only [Option.getD_some] at f11 f12 g11 hz
      simp only [Option.isSome_some, Option.getD_some]
      generalize T.set H8 n8 (one [o.nm.v, .bool o.st, z, o.ret.nm.v, .bool o.ret.arr]) = H12 at f11 f12 g11
      have gp := f11.get g10 (by omega)
      simp only [go_sem, Nat.reduceAdd, D5 (m := 5) g11 (by omega) rfl, show Ae 5 (.ptr n 0) G H12 = some (.agg [p.m.nm.v, .bool p.m.st, w, p.m.ret.nm.v, .bool p.m.ret.arr]) from FM gp (by omega) (by show 5 <= 6; omega)]
      have s1 : dR G H12 (n8 + 1) (.agg [o.nm.v, .bool o.st, z, o.ret.nm.v, .bool o.ret.arr]) o := ⟨z, rfl, (hz.ke ((f11.ke).low (by omega))).ke ⟨by omega, fun _ _ _ _ h => h⟩⟩
      have s2 : dR G H12 (n8 + 1) (.agg [p.m.nm.v, .bool p.m.st, w, p.m.ret.nm.v, .bool p.m.ret.arr]) p.m := ⟨w, rfl, (hw.ke (((f3.trans f12).ke h.tab.seen).low (Nat.le_refl _))).ke ⟨by omega, fun _ _ _ _ h => h⟩⟩
      refine yB s1 s2 fun H13 n13 f13 => ?_
      have f14 := f12.trans (f13.kb (b := b) (by omega))
      cases h2 : o.same p.m with
      | true =>
        simp only [h2, cond_true] at hk
        simp only [go_sem]
        exact hk _ _ (f3.trans f14)
      | false =>
        simp only [h2, cond_false] at hk
        simp only [go_sem, DF (show j + 1 < 9223372036854775808 by omega)]
        exact next _ _ f14 hk
  · rintro I q ⟨H3, n3, rfl, f3, hn3, ho, g3, hk⟩
    show Fh lfp G (Runs F G) k I (.ptr i 0) (.ptr n 0) x (.int .i64 (.ofNat cs.length) 0) (.int .i64 (.ofNat cs.length) 0) H3 n3
    delta Fh
    rw [List.drop_eq_nil_of_le (Nat.le_refl _)] at hk
    simp only [go_sem, BI, Nat.lt_irrefl, decide_false]
    delta NC
    exact hk _ _ f3
def uZ (fs : Tab) (f : PF) : Bool := match ZR fs f.own f.f.nm with
 | none => false
 | some o => o.2.is f.f.ty
def ABq (fs : Tab) (p : Pool) : Bool := p.names.all (fun c => [(⟨c, false⟩ : Ty)].all (Qk fs)) && (p.types.all (Qk fs) && (p.fields.all (uZ fs) && p.CO.all fun m => (dn fs m).isSome))
section
variable {G : AL} {H0 H : Heap} {n0 n i t a b fm e : Nat} {vn : V} {fs : Tab} {p : Pool} {v0 v1 v2 v3 v4 : V} {ws : List V} {k : KV}
structure ACO (G : AL) (H0 : Heap) (n0 : Nat) (H : Heap) (n b e : Nat) (v0 v1 v2 v3 v4 : V) : Prop where
 f : Kb b H0 n0 H n
 en : e < n
 e0 : n0 <= e
 g : T.get H e = some (one [v0, v1, v2, v3, v4])
theorem ACO.kb {H' : Heap} {n' : Nat} (h : ACO G H0 n0 H n b e v0 v1 v2 v3 v4) (hb : b < n0) (f : Kb b H n H' n') : ACO G H0 n0 H' n' b e v0 v1 v2 v3 v4 :=
 ⟨h.f.trans f, Nat.lt_of_lt_of_le h.en f.le, h.e0, f.get h.g h.en (by have := h.e0; omega)⟩
theorem AF4 (h : QF G H0 n0 i t a b fm vn fs) (hfs : fs.length <= 1000) (hp : Fz G H0 n0 p v0 v1 v2 v3 v4 ws) (hc : ACO G H0 n0 H n b e v0 v1 v2 v3 v4)
    (hk : ∀ H' n', Kb b H0 n0 H' n' -> k (.bool (p.CO.all fun m => (dn fs m).isSome)) H' n') : Ik lfp G (Runs F G) k (.ptr i 0) (.ptr e 0) H n := by
  delta Ik
  have hbn := h.tab.bn
  have hbig := hp.b4
  have l4 : lenV v4 = some (.int .i64 (.ofNat p.CO.length) 0) := by rw [hp.e4.len, List.length_zipWith, hp.qF, Nat.min_self]
  simp only [go_sem, Nat.reduceAdd, AU (off := 4) hc.g (v := v4) rfl, l4]
  refine BR (N := p.CO.length) (J := fun j q => ∃ H' n', q = (.ptr i 0, v4, .int .i64 (.ofNat p.CO.length) 0, .int .i64 (.ofNat j) 0, H', n') /\ Kb b H0 n0 H' n' /\
    (∀ H' n', Kb b H0 n0 H' n' -> k (.bool ((p.CO.drop j).all fun m => (dn fs m).isSome)) H' n')) ?_ ?_ ⟨H, n, rfl, hc.f, hk⟩
  · rintro I j q hlt ⟨H3, n3, rfl, f3, hk⟩ ih
    show Fj lfp G (Runs F G) k I (.ptr i 0) v4 (.int .i64 (.ofNat p.CO.length) 0) (.int .i64 (.ofNat j) 0) H3 n3
    delta Fj
    have hw : j < ws.length := by rw [hp.qF]; exact hlt
    have hp3 := hp.ke (f3.ke h.tab.seen)
    have h3n := f3.le
    obtain ⟨q, hp', hld⟩ := hp3.e4.at (i := j) (c := p.CO[j].cells ws[j]) (by rw [List.getElem?_zipWith]; simp [hlt, hw])
    have hty := hp3.at4 j _ _ (List.getElem?_eq_getElem hlt) (List.getElem?_eq_getElem hw)
    rw [List.drop_eq_getElem_cons hlt, List.all_cons] at hk
    generalize p.CO[j] = m at hld hty hk
    generalize ws[j] = w at hld hty
    unfold PM.cells at hld
    simp only [go_sem, Nat.reduceAdd, BI, hlt, decide_true, hp', CB hld]
    rw [T.set_set]
    refine run_set fun H4 f4 g4 => ?_
    have f4' := f4.kb (b := b) (by omega)
    refine AMx (p := m) (h.kb (f3.trans f4')) hfs ⟨w, rfl, hty.kp f4⟩ fun H5 n5 f5 => ?_
    have f6 := f3.trans (f4'.trans f5)
    simp only [go_sem, BK]
    cases h1 : (dn fs m).isSome with
    | false => simp only [h1, Bool.false_and] at hk; simp only [Bool.not_false, go_sem]; exact hk _ _ f6
    | true =>
      simp only [h1, Bool.true_and] at hk
      simp only [Bool.not_true, go_sem, DF (show j + 1 < 9223372036854775808 by unfold big at hbig; omega)]
      exact ih _ ⟨_, _, rfl, f6, hk⟩
  · rintro I q ⟨H3, n3, rfl, f3, hk⟩
    show Fj lfp G (Runs F G) k I (.ptr i 0) v4 (.int .i64 (.ofNat p.CO.length) 0) (.int .i64 (.ofNat p.CO.length) 0) H3 n3
    delta Fj
    rw [List.drop_eq_nil_of_le (Nat.le_refl _)] at hk
    simp only [go_sem, BI, Nat.lt_irrefl, decide_false]
    delta NK
    exact hk _ _ f3
theorem AIe (h : QF G H0 n0 i t a b fm vn fs) (hfs : fs.length <= 1000) (hp : Fz G H0 n0 p v0 v1 v2 v3 v4 ws) (hc : ACO G H0 n0 H n b e v0 v1 v2 v3 v4)
    (hk : ∀ H' n', Kb b H0 n0 H' n' -> k (.bool (p.fields.all (uZ fs) && p.CO.all fun m => (dn fs m).isSome)) H' n') :
    lfp (V × V × V × V × V × Heap × Nat) (L9 lfp G (Runs F G) k) (.ptr i 0, .ptr e 0, v3, .int .i64 (.ofNat p.fields.length) 0, .int .i64 (.ofNat 0) 0, H, n) := by
  have hbn := h.tab.bn
  have hbig := hp.b3
  refine BR (N := p.fields.length) (J := fun j q => ∃ H' n', q = (.ptr i 0, .ptr e 0, v3, .int .i64 (.ofNat p.fields.length) 0, .int .i64 (.ofNat j) 0, H', n') /\ ACO G H0 n0 H' n' b e v0 v1 v2 v3 v4 /\
    (∀ H' n', Kb b H0 n0 H' n' -> k (.bool ((p.fields.drop j).all (uZ fs) && p.CO.all fun m => (dn fs m).isSome)) H' n')) ?_ ?_ ⟨H, n, rfl, hc, hk⟩
  · rintro I j q hlt ⟨H3, n3, rfl, hc, hk⟩ ih
    show FQ lfp G (Runs F G) k I (.ptr i 0) (.ptr e 0) v3 (.int .i64 (.ofNat p.fields.length) 0) (.int .i64 (.ofNat j) 0) H3 n3
    delta FQ
    have f3 := hc.f
    have hp3 := hp.ke (f3.ke h.tab.seen)
    have h3n := f3.le
    obtain ⟨q, hp', hld⟩ := hp3.e3.at (i := j) (c := p.fields[j].cells) (by simp [hlt])
    rw [List.drop_eq_getElem_cons hlt, List.all_cons] at hk
    generalize p.fields[j] = m at hld hk
    unfold PF.cells at hld
    simp only [go_sem, Nat.reduceAdd, BI, hlt, decide_true, hp', CB hld]
    rw [T.set_set]
    have g4 := T.Ac H3 n3 (one [m.f.nm.v, m.f.ty.nm.v, .bool m.f.ty.arr, m.own.v])
    have f4 : Kp H3 n3 (T.set H3 n3 (one [m.f.nm.v, m.f.ty.nm.v, .bool m.f.ty.arr, m.own.v])) (n3 + 1) := (Kp.refl _ _).new _ (Nat.le_refl _) (by omega)
    generalize T.set H3 n3 (one [m.f.nm.v, m.f.ty.nm.v, .bool m.f.ty.arr, m.own.v]) = H4 at g4 f4
    have f4' := f4.kb (b := b) (by omega)
    have hi4 := h.kb (f3.trans f4')
    simp only [go_sem, Nat.reduceAdd, AU (off := 0) hi4.at' (v := .ptr t 0) rfl, AU (off := 3) g4 (v := m.own.v) rfl, AU (off := 0) g4 (v := m.f.nm.v) rfl]
    refine run_set fun H5 f5 g5 => ?_
    have f5' := f5.kb (b := b) (by omega)
    have f5t := f4'.trans f5'
    refine AEY (c := m.own) (s := m.f.nm) (h.tab.kb (f3.trans f5t)) hfs fun H6 n6 f6 => ?_
    have f6t := f5t.trans f6
    have h6n := f6.le
    have g6 := f6.get g5 (by omega) (by omega)
    have g64 := f6.get (f5.get g4 (by omega)) (by omega) (by omega)
    unfold Ty.v Ty.cells
    simp only [go_sem]
    rw [EF (m := 2) g6 (by omega) rfl rfl]
    have f7 : Kb b H3 n3 (T.set H6 (n3 + 1) (one [((ZR fs m.own m.f.nm).getD ((0, 0), tyZ)).2.nm.v, .bool ((ZR fs m.own m.f.nm).getD ((0, 0), tyZ)).2.arr])) n6 :=
      f6t.trans' (fun id hid => T.AY _ _ (by omega)) (Nat.le_refl _) (by omega)
    have g7 := T.Ac H6 (n3 + 1) (one [((ZR fs m.own m.f.nm).getD ((0, 0), tyZ)).2.nm.v, .bool ((ZR fs m.own m.f.nm).getD ((0, 0), tyZ)).2.arr])
    have g74 : T.get (T.set H6 (n3 + 1) (one [((ZR fs m.own m.f.nm).getD ((0, 0), tyZ)).2.nm.v, .bool ((ZR fs m.own m.f.nm).getD ((0, 0), tyZ)).2.arr])) n3 = _ := (T.AY _ _ (by omega)).trans g64
    generalize T.set H6 (n3 + 1) (one [((ZR fs m.own m.f.nm).getD ((0, 0), tyZ)).2.nm.v, .bool ((ZR fs m.own m.f.nm).getD ((0, 0), tyZ)).2.arr]) = H7 at f7 g7 g74
    simp only [BK, go_sem]
    unfold uZ at hk
    cases h1 : ZR fs m.own m.f.nm with
    | none => rw [h1] at hk; simp only [Option.isSome_none, Bool.not_false, go_sem]; exact hk _ _ (f3.trans f7)
    | some o =>
      rw [h1] at hk g7
      simp only [Option.getD_some] at g7 hk
      have e1 : Dx (.agg [.str, .bool]) true (.agg [o.2.nm.v, .bool o.2.arr]) (.agg [m.f.ty.nm.v, .bool m.f.ty.arr]) = _ := ACc o.2 m.f.ty
      simp only [Option.isSome_some, Bool.not_true, go_sem, Nat.reduceAdd, D5 (m := 2) g7 (by omega) rfl, show Ae 2 (.ptr n3 1) G H7 = some (.agg [m.f.ty.nm.v, .bool m.f.ty.arr]) from FM g74 (by omega) (by show 3 <= 4; omega), e1]
      cases h2 : o.2.is m.f.ty with
      | false => simp only [h2, Bool.false_and] at hk; simp only [Bool.not_false, go_sem]; exact hk _ _ (f3.trans f7)
      | true =>
        simp only [h2, Bool.true_and] at hk
        simp only [Bool.not_true, go_sem, DF (show j + 1 < 9223372036854775808 by unfold big at hbig; omega)]
        exact ih _ ⟨_, _, rfl, hc.kb (G := G) hbn f7, hk⟩
  · rintro I q ⟨H3, n3, rfl, hc, hk⟩
    show FQ lfp G (Runs F G) k I (.ptr i 0) (.ptr e 0) v3 (.int .i64 (.ofNat p.fields.length) 0) (.int .i64 (.ofNat p.fields.length) 0) H3 n3
    delta FQ
    rw [List.drop_eq_nil_of_le (Nat.le_refl _)] at hk
    simp only [go_sem, BI, Nat.lt_irrefl, decide_false]
    exact AF4 h hfs hp hc hk
theorem AJp (i : Nat) : GX (.ptr i 0) (.ptr i 0) = true := by
 show band (Nat.beq i i) (Nat.beq 0 0) = true
 simp
theorem AMT (h : QF G H n i t a b fm vn fs) (hfs : fs.length <= 1000) (hp : Fz G H n p v0 v1 v2 v3 v4 ws)
    (hk : ∀ H' n', Kb b H n H' n' -> k (.bool (ABq fs p)) H' n') : Runs F G WW [.ptr i 0, .agg [v0, v1, v2, v3, v4]] H n k := by
  refine BM (s := Rf (JD lfp G)) Pn (by obtain ⟨h, o⟩ := VU BL G; rw [Pn] at h; cases h; exact o) ?_
  show JD lfp G (Runs F G) (.ptr i 0) (.agg [v0, v1, v2, v3, v4]) H n k
  delta JD
  have hbn := h.tab.bn
  have hbig := hp.b1
  unfold ABq at hk
  refine Iu fun H1 f1 g1 => ?_
  have f1' := f1.kb (b := b) hbn
  simp only [go_sem, Nat.reduceAdd, AU (off := 1) g1 (v := v1) rfl, hp.e1.len, Ie]
  have hc : ACO G H n H1 (n + 1) b n v0 v1 v2 v3 v4 := ⟨f1', by omega, Nat.le_refl _, g1⟩
  refine BR (N := p.names.length) (J := fun j q => ∃ H' n', q = (.ptr i 0, .ptr n 0, v1, .int .i64 (.ofNat p.names.length) 0, .int .i64 (.ofNat j) 0, H', n') /\ ACO G H n H' n' b n v0 v1 v2 v3 v4 /\
    (∀ H' n', Kb b H n H' n' -> k (.bool ((p.names.drop j).all (fun c => [(⟨c, false⟩ : Ty)].all (Qk fs)) && (p.types.all (Qk fs) && (p.fields.all (uZ fs) && p.CO.all fun m => (dn fs m).isSome)))) H' n')) ?_ ?_ ⟨H1, n + 1, rfl, hc, hk⟩
  · rintro I j q hlt ⟨H3, n3, rfl, hc, hk⟩ ih
    show FN lfp G (Runs F G) k I (.ptr i 0) (.ptr n 0) v1 (.int .i64 (.ofNat p.names.length) 0) (.int .i64 (.ofNat j) 0) H3 n3
    delta FN
    have f3 := hc.f
    have hp3 := hp.ke (f3.ke h.tab.seen)
    have h3n := f3.le
    have hi3 := h.kb f3
    obtain ⟨q, hp', hld⟩ := hp3.e1.at (RU hlt)
    have hok := hp.o1 _ (List.getElem_mem hlt)
    rw [List.drop_eq_getElem_cons hlt, List.all_cons] at hk
    generalize p.names[j] = m at hld hk hok
    simp only [go_sem, Nat.reduceAdd, BI, hlt, decide_true, hp', OG hld, AU (off := 0) hi3.at' (v := .ptr t 0) rfl]
    refine kF fun H4 n4 f4 => ?_
    have f4' := f4.kb (b := b) (by omega)
    have hi4 := h.kb (f3.trans f4')
    have h4n := f4.le
    simp only [go_sem, Nat.reduceAdd, AU (off := 0) hi4.at' (v := .ptr t 0) rfl, AJp]
    rw [nO (z := 2) (L := [.str m.1 m.2, .bool false]) rfl]
    refine run_set fun H5 f5 g5 => ?_
    have f5' := f5.kb (b := b) (by omega)
    refine Yr (xs := [(⟨m, false⟩ : Ty)]) (h.tab.kb (f3.trans (f4'.trans f5'))) ⟨Yl (by omega) rfl g5, fun id hid => by cases hid; omega, by show 1 < big; decide, fun x hx => by simp at hx; subst hx; exact hok⟩ fun H6 n6 f6 => ?_
    have f7 := f4'.trans (f5'.trans f6)
    simp only [go_sem, BK]
    cases h1 : [(⟨m, false⟩ : Ty)].all (Qk fs) with
    | false => simp only [h1, Bool.false_and] at hk; simp only [Bool.not_false, go_sem]; exact hk _ _ (f3.trans f7)
    | true =>
      simp only [h1, Bool.true_and] at hk
      simp only [Bool.not_true, go_sem, DF (show j + 1 < 9223372036854775808 by unfold big at hbig; omega)]
      exact ih _ ⟨_, _, rfl, hc.kb (G := G) hbn f7, hk⟩
  · rintro I q ⟨H3, n3, rfl, hc, hk⟩
    show FN lfp G (Runs F G) k I (.ptr i 0) (.ptr n 0) v1 (.int .i64 (.ofNat p.names.length) 0) (.int .i64 (.ofNat p.names.length) 0) H3 n3
    delta FN
    rw [List.drop_eq_nil_of_le (Nat.le_refl _)] at hk
    simp only [List.all_nil, Bool.true_and] at hk
    simp only [go_sem, BI, Nat.lt_irrefl, decide_false]
    delta Nz
    have f3 := hc.f
    have hi3 := h.kb f3
    have hp3 := hp.ke (f3.ke h.tab.seen)
    simp only [go_sem, Nat.reduceAdd, AU (off := 0) hi3.at' (v := .ptr t 0) rfl, AU (off := 2) hc.g (v := v2) rfl]
    refine Yr (xs := p.types) hi3.tab hp3.t2 fun H6 n6 f6 => ?_
    have hc6 := hc.kb (G := G) hbn f6
    have l3 : lenV v3 = some (.int .i64 (.ofNat p.fields.length) 0) := by rw [hp.e3.len, List.length_map]
    simp only [BK, go_sem]
    cases h1 : p.types.all (Qk fs) with
    | false => simp only [h1, Bool.false_and] at hk; simp only [Bool.not_false, go_sem]; exact hk _ _ (f3.trans f6)
    | true =>
      simp only [h1, Bool.true_and] at hk
      simp only [Bool.not_true, go_sem, Nat.reduceAdd, AU (off := 3) hc6.g (v := v3) rfl, l3]
      exact AIe h hfs hp hc6 hk
end
structure N9 (G : AL) (H : Heap) (n : Nat) (v : V) (fls : List Fl) : Prop where
 is : ∃ LS : Df, El G H v 10 LS /\ LS.length = fls.length /\ ∀ (i : Nat) (L : LV) (f : Fl), LS[i]? = some L -> fls[i]? = some f -> Ui G H n (.agg L) f
 lo : Lo v n
 lt : fls.length < big
theorem N9.ke {G : AL} {H H' : Heap} {n n' : Nat} {v : V} {fls : List Fl} (h : N9 G H n v fls) (f : Ke G H n H' n') : N9 G H' n' v fls := by
 obtain ⟨⟨LS, h1, h2, h3⟩, hl, ht⟩ := h
 exact ⟨⟨LS, h1.ke hl f, h2, fun i L c x y => (h3 i L c x y).ke f⟩, hl.mono f.le, ht⟩
theorem N9.len {G : AL} {H : Heap} {n : Nat} {v : V} {fls : List Fl} (h : N9 G H n v fls) : lenV v = some (.int .i64 (.ofNat fls.length) 0) := by
 obtain ⟨⟨LS, h1, h2, h3⟩, hl, ht⟩ := h; rw [h1.len, h2]
theorem N9.at {G : AL} {H : Heap} {n : Nat} {v : V} {fls : List Fl} (h : N9 G H n v fls) {i : Nat} (hi : i < fls.length) : ∃ p vf vm v0 v1 v2 v3 v4 vb mws ws bws, Ai 10 v (.int .i64 (.ofNat i) 0) = some p /\
    fF p G H 10 = some [fls[i].face.nm.v, fls[i].face.sup.v, vf, vm, v0, v1, v2, v3, v4, vb] /\ VL G H n [fls[i].face.nm.v, fls[i].face.sup.v, vf, vm, v0, v1, v2, v3, v4, vb] fls[i] vf vm v0 v1 v2 v3 v4 vb mws ws bws := by
  obtain ⟨⟨LS, h1, h2, h3⟩, hl, ht⟩ := h
  obtain ⟨p, hp, hld⟩ := h1.at (i := i) (c := LS[i]'(by omega)) (List.getElem?_eq_getElem _)
  obtain ⟨L, vf, vm, v0, v1, v2, v3, v4, vb, mws, ws, bws, hf, e⟩ := h3 i _ _ (List.getElem?_eq_getElem (by omega)) (List.getElem?_eq_getElem hi)
  have e' : LS[i]'(by omega) = L := by injection e
  have := hf.is
  subst this
  rw [e'] at hld
  exact ⟨p, vf, vm, v0, v1, v2, v3, v4, vb, mws, ws, bws, hp, hld, hf⟩
structure Gh (G : AL) (H : Heap) (n a : Nat) (fs : List (St × Fl)) : Prop where
 is : ∃ ps, Zf H a ps /\ keyed ps fs /\ ∀ s v c, DT ps s = some v -> DT fs s = some c -> Ui G H n v c
theorem Gh.ke {G : AL} {H H' : Heap} {n n' a : Nat} {fs : List (St × Fl)} (h : Gh G H n a fs) (f : Ke G H n H' n') (e : T.get H' a = T.get H a) : Gh G H' n' a fs := by
 obtain ⟨ps, h1, h2, h3⟩ := h.is
 exact ⟨ps, YQ h1 e, h2, fun s v c x y => (h3 s v c x y).ke f⟩
theorem Gh.put {G : AL} {H' : Heap} {n a : Nat} {fs : List (St × Fl)} {v : V} {s : St} {c : Fl} {ps : List (St × V)} (hkey : keyed ps fs) (hv : ∀ s v c, DT ps s = some v -> DT fs s = some c -> Ui G H' n v c) (h1 : Zf H' a (Qd s v ps)) (hc : Ui G H' n v c) :
    Gh G H' n a (Qd s c fs) :=
  ⟨_, h1, bI _ _ _ hkey, fun t w d h2 h3 => by
    rw [Qy] at h2 h3
    by_cases e : s = t
    · rw [if_pos e] at h2 h3; cases h2; cases h3; exact hc
    · rw [if_neg e] at h2 h3; exact hv _ _ _ h2 h3⟩
def QI (fs : List (St × Fl)) : List Fl -> List (St × Fl)
 | [] => fs
 | c :: cs => QI (Qd c.face.nm c fs) cs
abbrev Ns (fls : List Fl) := QI [] fls
noncomputable def SA : List (St × Fl) -> List Fl -> Int
 | _, [] => 0
 | acc, f :: fs => bif !KP f then 2 else bif (DT acc f.face.nm).isSome then 6 else SA (Qd f.face.nm f acc) fs
def link2 (t : Tab) : List Fl -> Int
 | [] => 0
 | f :: fs => bif !(UN t f.face.nm == 0) then UN t f.face.nm else bif !ABq t f.pool then 30 else link2 t fs
abbrev CJ (fls : List Fl) : List Fc := fls.map fun f => f.face
abbrev EH (fls : List Fl) : List St := fls.map fun f => f.face.nm
noncomputable def Io (fls : List Fl) : Int := bif decide (200 < fls.length) then 4 else bif !(SA [] fls == 0) then SA [] fls else link2 (G5 (CJ fls)) fls
theorem Z9 : ∀ (cs : List Fc) (fs : Tab), (WO fs cs).length <= fs.length + cs.length
 | [], _ => Nat.le_refl _
 | c :: cs, fs => by
  have h1 : ∀ (fs : Tab), (Qd c.nm c fs).length <= fs.length + 1 := by
   intro fs
   induction fs with
   | nil => exact Nat.le_refl _
   | cons p ps ih => unfold Qd; split <;> simp only [List.length_cons] <;> omega
  have := Z9 cs (Qd c.nm c fs)
  have := h1 fs
  simp only [WO, List.length_cons]; omega
theorem oM : ∀ (cs : List Fc) (fs : Tab) (s : St) (c : Fc), DT (WO fs cs) s = some c -> c ∈ cs ∨ DT fs s = some c
 | [], _, _, _, h => .inr h
 | d :: cs, fs, s, c, h => by
  rcases oM cs _ s c h with h | h
  ·exact .inl (List.mem_cons_of_mem _ h)
  ·rw [Qy] at h
   split at h
   ·cases h; exact .inl (List.mem_cons_self ..)
   ·exact .inr h
theorem xu {cs : List Fc} {s : St} {c : Fc} (h : DT (G5 cs) s = some c) : c ∈ cs := by
 rcases oM cs [] s c h with h | h
 ·exact h
 ·cases h
structure AJB (G : AL) (H : Heap) (n m i : Nat) (fls : List Fl) : Prop where
 is : ∃ t a b fm vn, QF G H n i t a b fm vn (G5 (CJ fls)) /\ Gh G H n fm (Ns fls) /\ fm < n /\ fm ≠ b /\ El G H vn 1 (strs (EH fls)) /\ Lo vn n /\ m <= i /\ m <= t /\ m <= a /\ m <= b /\ m <= fm
theorem Gr.ok {G : AL} {H : Heap} {m z : Nat} {v : V} {LS : Df} (h : Gr G H m z v LS) : U3 v = true /\ Am v = [v] := by cases h <;> exact ⟨rfl, rfl⟩
theorem Kb.kp {b n0 n m : Nat} {H H' : Heap} {n' : Nat} (f : Kb b H n0 H' n') (hb : m <= b) (hm : m <= n0) (hn : n <= n') : (∀ id, id < m -> T.get H' id = T.get H id) := fun id hid => f.same id (by omega) (by omega)
theorem AFQ {G : AL} (hG : U6 G) {H0 : Heap} {n0 i t a b fm : Nat} {vn v : V} {fls : List Fl} (hfs : (G5 (CJ fls)).length <= 1000) (hps : ∀ s c, DT (G5 (CJ fls)) s = some c -> ∀ m ∈ c.ms, m.ps.length <= 100000)
    (h : QF G H0 n0 i t a b fm vn (G5 (CJ fls))) (hf : N9 G H0 n0 v fls) {k : KV}
    (hk0 : link2 (G5 (CJ fls)) fls = 0 -> ∀ H' n', Kb b H0 n0 H' n' -> k (.II [.ptr i 0, .int .i64 (.ofNat 0) 0]) H' n')
    (hk1 : link2 (G5 (CJ fls)) fls ≠ 0 -> ∀ H' n', Kb b H0 n0 H' n' -> k (.II [.KQ, .int .i64 (link2 (G5 (CJ fls)) fls) 0]) H' n') :
    lfp (V × V × V × V × Heap × Nat) (SG lfp G (Runs F G) k) (.ptr i 0, v, .int .i64 (.ofNat fls.length) 0, .int .i64 (.ofNat 0) 0, H0, n0) := by
  generalize hT : G5 (CJ fls) = tb at *
  have hbn := h.tab.bn
  obtain ⟨R, hR⟩ : ∃ R, R = link2 tb fls := ⟨_, rfl⟩
  rw [<- hR] at hk0 hk1
  have hbig := hf.lt
  refine BR (N := fls.length) (J := fun j q => ∃ H' n', q = (.ptr i 0, v, .int .i64 (.ofNat fls.length) 0, .int .i64 (.ofNat j) 0, H', n') /\ Kb b H0 n0 H' n' /\ link2 tb (fls.drop j) = R) ?_ ?_ ⟨H0, n0, rfl, Kb.refl _ _ _, hR.symm⟩
  · rintro I j q hlt ⟨H3, n3, rfl, f3, hk⟩ ih
    show MC lfp G (Runs F G) k I (.ptr i 0) v (.int .i64 (.ofNat fls.length) 0) (.int .i64 (.ofNat j) 0) H3 n3
    delta MC
    have h3n := f3.le
    obtain ⟨q, vf, vm, v0, v1, v2, v3, v4, vb, mws, ws, bws, hp, hld, Y8⟩ := (hf.ke (f3.ke h.tab.seen)).at hlt
    rw [List.drop_eq_getElem_cons hlt] at hk
    unfold link2 at hk
    generalize fls[j] = m at hld hk Y8
    simp only [go_sem, Nat.reduceAdd, BI, hlt, decide_true, hp, CB hld]
    rw [T.set_set]
    have g4 := T.Ac H3 n3 (one [m.face.nm.v, m.face.sup.v, vf, vm, v0, v1, v2, v3, v4, vb])
    have f4 : Kp H3 n3 (T.set H3 n3 (one [m.face.nm.v, m.face.sup.v, vf, vm, v0, v1, v2, v3, v4, vb])) (n3 + 1) := (Kp.refl _ _).new _ (Nat.le_refl _) (by omega)
    generalize T.set H3 n3 (one [m.face.nm.v, m.face.sup.v, vf, vm, v0, v1, v2, v3, v4, vb]) = H4 at g4 f4
    have f4' := f4.kb (b := b) (by omega)
    have hi4 := h.kb (f3.trans f4')
    simp only [go_sem, Nat.reduceAdd, AU (off := 0) hi4.at' (v := .ptr t 0) rfl, AU (off := 0) g4 (v := m.face.nm.v) rfl]
    refine AJ6 hG (s := m.face.nm) hi4.tab hfs hps fun H5 n5 f5 => ?_
    have f6 := f4'.trans f5
    have h5n := f5.le
    have g5 := f5.get g4 (by omega) (by omega)
    simp only [AIZ, go_sem]
    rw [show (UN tb m.face.nm == Int.ofNat 0) = (UN tb m.face.nm == 0) from rfl]
    cases h1 : UN tb m.face.nm == 0 with
    | false =>
      rw [h1] at hk
      simp only [Bool.not_false, cond_true] at hk
      simp only [Bool.not_false, go_sem]
      rw [hk]
      refine hk1 ?_ _ _ (f3.trans f6)
      rw [<- hk]; simpa using h1
    | true =>
      rw [h1] at hk
      simp only [Bool.not_true, cond_false] at hk
      simp only [Bool.not_true, go_sem, Nat.reduceAdd, show Ae 5 (.ptr n3 4) G H5 = some (.agg [v0, v1, v2, v3, v4]) from FM g5 (by omega) (by show 9 <= 10; omega)]
      refine AMT (h.kb (f3.trans f6)) hfs (p := m.pool) (Y8.pool.ke ((f6.ke (f3.seen h.tab.seen)))) fun H7 n7 f7 => ?_
      have f8 := f3.trans (f6.trans f7)
      simp only [BK, go_sem]
      cases h2 : ABq tb m.pool with
      | false =>
        rw [h2] at hk
        simp only [Bool.not_false, cond_true] at hk
        simp only [Bool.not_false, go_sem]
        have := hk1 (by rw [<- hk]; decide) _ _ f8
        rw [<- hk] at this; exact this
      | true =>
        rw [h2] at hk
        simp only [Bool.not_true, cond_false] at hk
        simp only [Bool.not_true, go_sem, DF (show j + 1 < 9223372036854775808 by unfold big at hbig; omega)]
        exact ih _ ⟨_, _, rfl, f8, hk⟩
  · rintro I q ⟨H3, n3, rfl, f3, hk⟩
    show MC lfp G (Runs F G) k I (.ptr i 0) v (.int .i64 (.ofNat fls.length) 0) (.int .i64 (.ofNat fls.length) 0) H3 n3
    delta MC
    rw [List.drop_eq_nil_of_le (Nat.le_refl _)] at hk
    simp only [go_sem, BI, Nat.lt_irrefl, decide_false]
    delta UU
    exact hk0 hk.symm _ _ f3
abbrev xK : LV := [.str 0 0, .str 0 0, .Aa, .Aa, .Aa, .Aa, .Aa, .Aa, .Aa, .Aa]
theorem Ui.cells {G : AL} {H : Heap} {n : Nat} {v : V} {f : Fl} (h : Ui G H n v f) : ∃ L : LV, v = .agg L /\ L.length = 10 := by
 obtain ⟨L, vf, vm, v0, v1, v2, v3, v4, vb, mws, ws, bws, h, hv⟩ := h
 exact ⟨L, hv, by rw [h.is]; rfl⟩
theorem Gh.look {G : AL} {H : Heap} {n a : Nat} {fs : List (St × Fl)} (h : Gh G H n a fs) (s : St) : ∃ L : LV, tZ .str true (.agg xK) (.map a) s.v H = some (.II [.agg L, .bool (DT fs s).isSome]) /\ L.length = 10 /\ ∀ f, DT fs s = some f -> Ui G H n (.agg L) f := by
 obtain ⟨ps, h1, h2, h3⟩ := h.is
 have hs := VE h2 s
 rw [show s.v = .str s.1 s.2 from rfl, sO h1]
 cases hl : DT ps s with
 | none =>
  rw [hl] at hs
  cases hx : DT fs s with
  | none => exact ⟨xK, rfl, rfl, fun f h => by cases h⟩
  | some x => rw [hx] at hs; cases hs
 | some v =>
  rw [hl] at hs
  cases hx : DT fs s with
  | none => rw [hx] at hs; cases hs
  | some x =>
   have hv := h3 _ _ _ hl hx
   obtain ⟨L, rfl, hL⟩ := hv.cells
   exact ⟨L, rfl, hL, fun f h => by cases h; exact hv⟩
theorem Gh.up {G : AL} {H : Heap} {n n' a : Nat} {fs : List (St × Fl)} (h : Gh G H n a fs) (hn : n <= n') : Gh G H n' a fs := h.ke ⟨hn, fun _ _ _ _ h => h⟩ rfl
theorem fD {α β : Type} (g : α -> β) (l : List α) {j : Nat} (h : j < l.length) : (l.take (j + 1)).map g = (l.take j).map g ++ [g l[j]] := by
 rw [List.take_add_one, List.getElem?_eq_getElem h, List.map_append]; rfl
theorem AMj {G : AL} (hG : U6 G) (hO : Xt G) {H : Heap} {n : Nat} {v : V} {fls : List Fl} (hf : N9 G H n v fls) {k : KV}
    (hk0 : Io fls = 0 -> ∀ H' n' i, Kp H n H' n' -> AJB G H' n' n i fls -> k (.II [.ptr i 0, .int .i64 (.ofNat 0) 0]) H' n')
    (hk1 : Io fls ≠ 0 -> ∀ H' n', Kp H n H' n' -> k (.II [.KQ, .int .i64 (Io fls) 0]) H' n') : Runs F G nX [v] H n k := by
  refine BM (s := Jf (TQ lfp G)) YP (by obtain ⟨h, o⟩ := kJ BL G; rw [YP] at h; cases h; exact o) ?_
  show TQ lfp G (Runs F G) v H n k
  delta TQ
  simp only [hf.len, go_sem, FY]
  unfold Io at hk0 hk1
  obtain ⟨R, hR⟩ : ∃ R, R = SA [] fls := ⟨_, rfl⟩
  rw [<- hR] at hk0 hk1
  obtain ⟨Q, hQ⟩ : ∃ Q, Q = Ns fls := ⟨_, rfl⟩
  cases AD2 : decide (200 < fls.length) with
  | true => rw [AD2] at hk1; simp only [go_sem]; exact hk1 (show (4 : Int) ≠ 0 by decide) _ _ (Kp.refl _ _)
  | false =>
  have AD2 := of_decide_eq_false AD2
  rw [show decide (200 < fls.length) = false from decide_eq_false AD2] at hk0 hk1
  simp only [cond_false] at hk0 hk1
  simp only [go_sem, AEI, Nat.reduceAdd, show BO [V.KQ, .wR, .Aa] [(1, 1, .c (.map n))] = some (.agg [.KQ, .map n, .Aa]) from rfl]
  have f1 : Kp H n (T.set (T.set H n (.map [] 0)) (n + 1) (one [.KQ, .map n, .Aa])) (n + 1 + 1) := ((Kp.refl H n).new (m := n + 1) _ (Nat.le_refl _) (by omega)).new _ (by omega) (by omega)
  refine BR (N := fls.length) (J := fun j q => ∃ H' n' va vn acc, ∃ LSf : Df, q = (v, va, .ptr (n + 1) 0, v, .int .i64 (.ofNat fls.length) 0, .int .i64 (.ofNat j) 0, H', n') /\ Kp H n H' n' /\ n + 1 < n' /\ T.get H' (n + 1) = some (one [.KQ, .map n, vn]) /\
    Gh G H' n n acc /\ Own G H' (n + 2) n' 1 vn (strs (EH (fls.take j))) /\ Own G H' (n + 2) n' 4 va LSf /\ LSf.length = j /\ (∀ (i : Nat) (L : LV) (c : Fc), LSf[i]? = some L -> (CJ (fls.take j))[i]? = some c -> Qe G H' n (.agg L) c) /\
    SA acc (fls.drop j) = R /\ QI acc (fls.drop j) = Q /\ (∀ f ∈ fls.take j, KP f = true)) ?_ ?_
    ⟨_, _, .Aa, .Aa, [], [], rfl, f1, by omega, T.Ac .., ⟨[], ⟨[], 0, by rw [T.AY _ _ (by omega), T.Ac], rfl⟩, rfl, fun s v c h => by cases h⟩, ⟨.nil, gU⟩, ⟨.nil, gU⟩, rfl, fun i L c h => by simp at h, hR.symm, hQ.symm, fun f h => by simp at h⟩
  · rintro I j q hlt ⟨H3, n3, va, vn, acc, LSf, rfl, f3, hn3, g3, hacc, hvn, hva, hLS, hfv, hl1, hff, hok⟩ ih
    show MO lfp G (Runs F G) k I v va (.ptr (n + 1) 0) v (.int .i64 (.ofNat fls.length) 0) (.int .i64 (.ofNat j) 0) H3 n3
    delta MO
    obtain ⟨q, vf, vm, v0, v1, v2, v3, v4, vb, mws, ws, bws, hp, hld, Y8⟩ := (hf.ke (f3.ke.low (Nat.le_refl _))).at hlt
    have htn := fD (fun f : Fl => f.face.nm) fls hlt
    have htf := fD (fun f : Fl => f.face) fls hlt
    have hto := List.take_add_one (l := fls) (i := j)
    rw [List.getElem?_eq_getElem hlt] at hto
    rw [List.drop_eq_getElem_cons hlt] at hl1 hff
    unfold SA at hl1
    unfold QI at hff
    generalize fls[j] = m at hld hl1 hff Y8 htn htf hto
    simp only [go_sem, Nat.reduceAdd, BI, hlt, decide_true, hp, CB hld]
    rw [T.set_set]
    have g4 := T.Ac H3 n3 (one [m.face.nm.v, m.face.sup.v, vf, vm, v0, v1, v2, v3, v4, vb])
    have f4 : Kp H3 n3 (T.set H3 n3 (one [m.face.nm.v, m.face.sup.v, vf, vm, v0, v1, v2, v3, v4, vb])) (n3 + 1) := (Kp.refl _ _).new _ (Nat.le_refl _) (by omega)
    generalize T.set H3 n3 (one [m.face.nm.v, m.face.sup.v, vf, vm, v0, v1, v2, v3, v4, vb]) = H4 at g4 f4
    obtain ⟨L, hlook, hL, -⟩ := (hacc.ke ((f4.ke).low (by omega)) (f4.same n (by omega))).look m.face.nm
    simp only [go_sem, Nat.reduceAdd, AU (off := 1) (f4.get g3 (by omega)) (v := .map n) rfl, AU (off := 0) g4 (v := m.face.nm.v) rfl, hlook]
    rw [Ya (m := 10) rfl (by omega) hL, T.set_set]
    have f5 : Kp H4 (n3 + 1) (T.set H4 (n3 + 1) (one L)) (n3 + 1 + 1) := (Kp.refl _ _).new _ (Nat.le_refl _) (by omega)
    generalize T.set H4 (n3 + 1) (one L) = H5 at f5
    have g5 := f5.get g4 (by omega)
    have f35 := f4.trans f5
    rw [D5 (m := 10) g5 (by omega) rfl, BA]
    refine AA6 hO (f := m) ((Y8.ke ((f35.ke).low (by omega))).ke ⟨by omega, fun _ _ _ _ h => h⟩) fun H6 n6 f6 => ?_
    have f36 := f35.trans f6
    have h6n := f6.le
    have g6 := f6.get g5 (by omega)
    have gb := f36.get g3 (by omega)
    simp only [BK, go_sem]
    cases h1 : KP m with
    | false =>
      rw [h1] at hl1
      simp only [Bool.not_false, cond_true] at hl1
      rw [<- hl1] at hk1
      simp only [Bool.not_false, go_sem]
      exact hk1 (show (2 : Int) ≠ 0 by decide) _ _ (f3.trans f36)
    | true =>
    rw [h1] at hl1
    simp only [Bool.not_true, cond_false] at hl1
    simp only [Bool.not_true, go_sem]
    cases h2 : (DT acc m.face.nm).isSome with
    | true =>
      rw [h2] at hl1
      simp only [cond_true] at hl1
      rw [<- hl1] at hk1
      simp only [go_sem]
      exact hk1 (show (6 : Int) ≠ 0 by decide) _ _ (f3.trans f36)
    | false =>
    rw [h2] at hl1
    simp only [cond_false] at hl1
    simp only [go_sem, Nat.reduceAdd, AU (off := 1) gb (v := .map n) rfl, AU (off := 0) g6 (v := m.face.nm.v) rfl, D5 (m := 10) g6 (by omega) rfl]
    obtain ⟨ps, hps, hkey, hval⟩ := (hacc.ke ((f36.ke).low (by omega)) (f36.same n (by omega))).is
    refine AAg hps m.face.nm _ fun H7 hm7 hs7 => ?_
    have f7 : Kp H6 n H7 n := ⟨Nat.le_refl _, fun id hid => hs7 id (by omega)⟩
    have g7 := (hs7 n3 (by omega)).trans g6
    have gb7 := (hs7 (n + 1) (by omega)).trans gb
    have hacc7 : Gh G H7 n n (Qd m.face.nm m acc) := Gh.put hkey (fun s v c x y => (hval s v c x y).ke f7.ke) hm7 ⟨_, vf, vm, v0, v1, v2, v3, v4, vb, mws, ws, bws, (Y8.ke ((f36.ke).low (by omega))).ke f7.ke, rfl⟩
    simp only [go_sem, Nat.reduceAdd, AU (off := 2) gb7 (v := vn) rfl, AU (off := 0) g7 (v := m.face.nm.v) rfl]
    refine AGI (G := G) (w := m.face.nm.v) rfl rfl fun H8 f8 e8 => ?_
    have f68 : ∀ id, id < n6 -> id ≠ n -> T.get H8 id = T.get H6 id := fun id h hne => (f8.same id h).trans (hs7 id hne)
    have hvn8 : Own G H8 (n + 2) (n6 + 1) 1 vn (strs (EH (fls.take j))) := ⟨hvn.gr.mono fun id hid => (f68 id (by have := hvn.lo id hid; omega) (by have := (hvn.gr.lo hid).1; omega)).trans (f36.same id (hvn.lo id hid)), fun id hid => by have := hvn.lo id hid; omega⟩
    have hlenn : (EH (fls.take j)).length = j := by simp; omega
    refine hvn8.gr.app (by omega) hvn8.lo e8 ?_ ?_ ?_
    · rw [Ie, hlenn]; simp; omega
    · intro vn' H9 gr9 hs9 hlo9
      have hvns : ∀ id, vn.SQ = some id -> n + 2 <= id := fun id hid => (hvn.gr.lo hid).1
      have gb9 : T.get H9 (n + 1) = some (one [.KQ, .map n, vn]) := (hs9 (n + 1) (by omega) (fun h => by have := hvns _ h; omega)).trans ((f8.same (n + 1) (by omega)).trans gb7)
      obtain ⟨hok9, hvc9⟩ := Gr.ok gr9
      rw [jl (m := 1) gb9 hok9 (by rw [hvc9]; rfl) (by omega) (by show 2 + 1 <= 3; omega), hvc9]
      rw [show List.take 2 [V.KQ, .map n, vn] ++ ([vn'] ++ List.drop (2 + 1) [V.KQ, .map n, vn]) = [.KQ, .map n, vn'] from rfl]
      have g9 : T.get H9 n3 = _ := (hs9 n3 (by omega) (fun h => by have := hvn.lo _ h; omega)).trans ((f8.same n3 (by omega)).trans g7)
      have hs10 : ∀ id, id ≠ n + 1 -> T.get (T.set H9 (n + 1) (one [.KQ, .map n, vn'])) id = T.get H9 id := fun id h => T.AY _ _ (Ne.symm h)
      have gb10 := T.Ac H9 (n + 1) (one [.KQ, .map n, vn'])
      generalize T.set H9 (n + 1) (one [.KQ, .map n, vn']) = H10 at hs10 gb10
      have g10 : T.get H10 n3 = _ := (hs10 n3 (by omega)).trans g9
      rw [show Ae 4 (.ptr n3 0) G H10 = some (.agg [m.face.nm.v, m.face.sup.v, vf, vm]) from FM g10 (by omega) (by show 4 <= 10; omega), BA]
      rw [nO (z := 4) (L := [m.face.nm.v, m.face.sup.v, vf, vm]) rfl]
      have f11 : Kp H10 (n6 + 1 + 1) (T.set H10 (n6 + 1 + 1) (.arr 4 1 (T.set (T.set .e 0 [.str 0 0, .str 0 0, .Aa, .Aa]) 0 [m.face.nm.v, m.face.sup.v, vf, vm]))) (n6 + 1 + 1 + 1) := (Kp.refl _ _).new _ (Nat.le_refl _) (by omega)
      have e11 := Yl (G := G) (z := 4) (by omega) rfl (T.Ac H10 (n6 + 1 + 1) (.arr 4 1 (T.set (T.set .e 0 [.str 0 0, .str 0 0, .Aa, .Aa]) 0 [m.face.nm.v, m.face.sup.v, vf, vm])))
      generalize T.set H10 (n6 + 1 + 1) (.arr 4 1 (T.set (T.set .e 0 [.str 0 0, .str 0 0, .Aa, .Aa]) 0 [m.face.nm.v, m.face.sup.v, vf, vm])) = H11 at f11 e11
      have keep : ∀ id, id < n3 -> id ≠ n -> id ≠ n + 1 -> vn.SQ ≠ some id -> T.get H11 id = T.get H3 id := fun id a b c d =>
        (f11.same id (by omega)).trans ((hs10 id c).trans ((hs9 id (by omega) d).trans ((f68 id (by omega) b).trans (f36.same id a))))
      have hvas : ∀ id, va.SQ = some id -> vn.SQ ≠ some id := fun id hid hid2 => by
        obtain ⟨_, c, t, e1⟩ := hva.gr.lo hid
        obtain ⟨_, c', t', e2⟩ := hvn.gr.lo hid2
        rw [e1] at e2; cases e2
      have hva11 : Own G H11 (n + 2) (n6 + 1 + 1 + 1) 4 va LSf := ⟨hva.gr.mono fun id hid => keep id (hva.lo id hid) (by have := (hva.gr.lo hid).1; omega) (by have := (hva.gr.lo hid).1; omega) (hvas id hid), fun id hid => by have := hva.lo id hid; omega⟩
      refine hva11.gr.app (by omega) hva11.lo e11.2 ?_ ?_ ?_
      · rw [hLS]; simp; omega
      · intro va' H12 gr12 hs12 hlo12
        simp only [go_sem, DF (show j + 1 < 9223372036854775808 by omega)]
        have hvas2 : ∀ id, va.SQ = some id -> n + 2 <= id := fun id hid => (hva.gr.lo hid).1
        have k12 : ∀ id, id < n -> T.get H12 id = T.get H3 id := fun id hid => (hs12 id (by omega) (fun h => by have := hvas2 _ h; omega)).trans (keep id (by omega) (by omega) (by omega) (fun h => by have := hvns _ h; omega))
        have k3 : Kp H3 n H12 n := ⟨Nat.le_refl _, k12⟩
        have k7 : Kp H7 n H12 n := ⟨Nat.le_refl _, fun id hid => by rw [k12 id hid, hs7 id (by omega)]; exact (f36.same id (by omega)).symm⟩
        have hn12 : T.get H12 n = T.get H7 n := (hs12 n (by omega) (fun h => by have := hvas2 _ h; omega)).trans ((f11.same n (by omega)).trans ((hs10 n (by omega)).trans ((hs9 n (by omega) (fun h => by have := hvns _ h; omega)).trans (f8.same n (by omega)))))
        refine ih _ ⟨H12, _, va', vn', Qd m.face.nm m acc, LSf ++ [[m.face.nm.v, m.face.sup.v, vf, vm]], rfl, ⟨by omega, fun id hid => (k12 id hid).trans (f3.same id hid)⟩, by omega, ?_, hacc7.ke k7.ke hn12, ?_, ⟨gr12, hlo12⟩, by simp [hLS], ?_, hl1, hff, ?_⟩
        · exact (hs12 (n + 1) (by omega) (fun h => by have := hvas2 _ h; omega)).trans ((f11.same (n + 1) (by omega)).trans gb10)
        · refine ⟨?_, fun id hid => by have := hlo9 id hid; omega⟩
          rw [show EH (fls.take (j + 1)) = EH (fls.take j) ++ [m.face.nm] from htn, strs, List.map_append]
          refine gr9.mono fun id hid => ?_
          have h9 := hlo9 id hid
          have hlo : n + 2 <= id := (gr9.lo hid).1
          refine (hs12 id (by omega) fun h => ?_).trans ((f11.same id (by omega)).trans (hs10 id (by omega)))
          obtain ⟨_, c, t, e1⟩ := gr9.lo hid
          obtain ⟨_, c', t', e2⟩ := hva11.gr.lo h
          rw [f11.same id (by omega), hs10 id (by omega), e1] at e2; cases e2
        · intro i L c hi hc
          rw [show CJ (fls.take (j + 1)) = CJ (fls.take j) ++ [m.face] from htf] at hc
          have hlf : (CJ (fls.take j)).length = j := by simp; omega
          by_cases hij : i < j
          · rw [List.getElem?_append_left (by omega)] at hi hc
            exact (hfv i L c hi hc).ke k3.ke
          · rw [List.getElem?_append_right (by omega)] at hi hc
            have : i = j := by have := (List.getElem?_eq_some_iff.1 hi).1; simp at this; omega
            subst this
            rw [hLS, Nat.sub_self] at hi
            rw [hlf, Nat.sub_self] at hc
            simp at hi hc
            subst hi; subst hc
            exact ⟨vf, vm, mws, Y8.face.ke k3.ke, rfl⟩
        · intro f hf'
          rw [hto] at hf'
          rcases List.mem_append.1 hf' with h | h
          · exact hok f h
          · simp at h; subst h; exact h1
      · intro h; cases h
    · intro h; cases h
  · rintro I q ⟨H3, n3, va, vn, acc, LSf, rfl, f3, hn3, g3, hacc, hvn, hva, hLS, hfv, hl1, hff, hok⟩
    show MO lfp G (Runs F G) k I v va (.ptr (n + 1) 0) v (.int .i64 (.ofNat fls.length) 0) (.int .i64 (.ofNat fls.length) 0) H3 n3
    delta MO
    rw [List.drop_eq_nil_of_le (Nat.le_refl _)] at hl1 hff
    rw [List.take_of_length_le (Nat.le_refl _)] at hvn hfv hok
    have hff : acc = Ns fls := Eq.trans hff hQ
    subst hff
    have hl1 : (0 : Int) = R := hl1
    rw [<- hl1] at hk0 hk1
    simp only [go_sem, BI, Nat.lt_irrefl, decide_false]
    delta Vb
    refine APW (m := n) (cs := CJ fls) ⟨⟨LSf, hva.el (by omega), by simp [hLS], hfv⟩, hva.lo, by simp; omega, by omega⟩ fun H4 n4 t a b f4 gt hfa hseen ha hab hbt htn => ?_
    have gb := f4.get g3 (by omega)
    have h4n := f4.le
    simp only [go_sem, Nat.reduceAdd]
    rw [jl (m := 1) gb rfl rfl (by omega) (by show 0 + 1 <= 3; omega)]
    rw [show List.take 0 [V.KQ, .map n, vn] ++ (Am (.ptr t 0) ++ List.drop (0 + 1) [V.KQ, .map n, vn]) = [.ptr t 0, .map n, vn] from rfl]
    have hs5 : ∀ id, id ≠ n + 1 -> T.get (T.set H4 (n + 1) (one [.ptr t 0, .map n, vn])) id = T.get H4 id := fun id h => T.AY _ _ (Ne.symm h)
    have gb5 := T.Ac H4 (n + 1) (one [.ptr t 0, .map n, vn])
    generalize T.set H4 (n + 1) (one [.ptr t 0, .map n, vn]) = H5 at hs5 gb5
    have k5 : ∀ id, id < n -> T.get H5 id = T.get H id := fun id hid => (hs5 id (by omega)).trans ((f4.same id (by omega)).trans (f3.same id hid))
    have f5 : Kp H n H5 n4 := ⟨by omega, k5⟩
    have hfacc : ∀ s c, DT (G5 (CJ fls)) s = some c -> ∃ f ∈ fls, f.face = c := fun s c h => by
      have := xu h
      obtain ⟨f, h1, h2⟩ := List.mem_map.1 this
      exact ⟨f, h1, h2⟩
    have htlen := Z9 (CJ fls) []
    have hps : ∀ s c, DT (G5 (CJ fls)) s = some c -> ∀ m ∈ c.ms, m.ps.length <= 100000 := fun s c h m hm => by
      obtain ⟨f, hf1, rfl⟩ := hfacc s c h
      have h1 := hok f hf1
      unfold KP at h1
      rw [Bool.and_eq_true] at h1
      have := rZ h1.1 m hm
      omega
    have hk0 : link2 (G5 (CJ fls)) fls = 0 -> ∀ H' n' i, Kp H n H' n' -> AJB G H' n' n i fls -> k (.II [.ptr i 0, .int .i64 (.ofNat 0) 0]) H' n' := hk0
    have hk1 : link2 (G5 (CJ fls)) fls ≠ 0 -> ∀ H' n', Kp H n H' n' -> k (.II [.KQ, .int .i64 (link2 (G5 (CJ fls)) fls) 0]) H' n' := hk1
    obtain ⟨ps, hps1, hkey, hval⟩ := hfa.is
    have k45 : Kp H4 n H5 n := ⟨Nat.le_refl _, fun id hid => hs5 id (by omega)⟩
    have htab5 : TabAt G H5 n4 t a b (G5 (CJ fls)) := ⟨by omega, by omega, by omega, by omega, by omega, (hs5 t (by omega)).trans gt, ⟨ps, YQ hps1 (hs5 a (by omega)), hkey, fun s v c x y => ((hval s v c x y).ke k45.ke).up (by omega)⟩, hseen.same (hs5 b (by omega))⟩
    have himg : QF G H5 n4 (n + 1) t a b n vn (G5 (CJ fls)) := ⟨by omega, by omega, gb5, htab5⟩
    have hfv5 : N9 G H5 n4 v fls := (hf.ke (f5.ke))
    have hvn5 : Own G H5 (n + 2) n4 1 vn (strs (EH fls)) := ⟨hvn.gr.mono fun id hid => (hs5 id (by have := (hvn.gr.lo hid).1; omega)).trans (f4.same id (hvn.lo id hid)), fun id hid => by have := hvn.lo id hid; omega⟩
    have hacc5 : Gh G H5 n n (Ns fls) := hacc.ke (H' := H5) (n' := n) ((Kp.ke (n' := n) ⟨Nat.le_refl _, fun id hid => (hs5 id (by omega)).trans (f4.same id (by omega))⟩)) ((hs5 n (by omega)).trans (f4.same n (by omega)))
    have kpf : ∀ H' n', Kb b H5 n4 H' n' -> Kp H n H' n' := fun H' n' f => ⟨by have := f.le; omega, fun id hid => by
      have h1 : id < n4 := by omega
      have h2 : id ≠ b := by omega
      exact (f.same id h1 h2).trans (k5 id hid)⟩
    simp only [go_sem, hf.len]
    refine AFQ hG (by simp at htlen; unfold G5; omega) hps himg hfv5 (fun h0 H' n' f => ?_) (fun h0 H' n' f => hk1 h0 _ _ (kpf _ _ f))
    have hfn := f.le
    have hvn6 : Own G H' (n + 2) n' 1 vn (strs (EH fls)) := ⟨hvn5.gr.mono fun id hid => f.same id (by have := hvn.lo id hid; omega) (by have := hvn.lo id hid; omega), fun id hid => by have := hvn.lo id hid; omega⟩
    refine hk0 h0 _ _ _ (kpf _ _ f) ⟨t, a, b, n, vn, himg.kb f, ?_, by omega, by omega, hvn6.el (by omega), hvn6.lo, by omega, by omega, by omega, by omega, by omega⟩
    refine (hacc5.ke ((f.ke (hseen.same (hs5 b (by omega)))).low (by omega)) (f.same n (by omega) (by omega))).up (by omega)
def small (fs : Tab) : Prop := ∀ s c, DT fs s = some c -> c.fs.length <= 200
theorem eq_i (x y : Int) : Dx (.one .int) false (.int .i64 x 0) (.int .i64 y 0) = some (.bool (x == y)) := by
 have h := AIZ x y
 show ofB (Rx (some (ieq x y)) fun b => some b) = _
 rw [QX]
 cases h2 : decide (x = y) with
 | true => have := of_decide_eq_true h2; subst this; simp [Rx, ofB]
 | false =>
  have := of_decide_eq_false h2
  have : (x == y) = false := by simpa using this
  rw [this]; rfl
theorem AO1 (t : Int) {m : Nat} (hm : m < 9223372036854775808) : B2.ev .and (.int .i64 t 0) (.int .i64 (.ofNat m) 0) = some (.int .i64 (.ofNat (wz t m)) 0) := by
 show BD true (Oa (AHV .i64 t (.ofNat m)) fun m => some (.int .i64 m 0)) = _
 rw [yJ t hm]; rfl
theorem AN9 (u : Nat) {m : Nat} (hm : 0 < m) : B2.ev .rem (.int .i64 (.ofNat u) 0) (.int .i64 (.ofNat m) 0) = some (.int .i64 (.ofNat (u % m)) 0) := by
 show BD (band true (band true (Vd (ieq (.ofNat m) 0)))) (mkN .i64 (Int.tmod (.ofNat u) (.ofNat m)) 0) = _
 have : ieq (.ofNat m) 0 = false := by rw [QX]; simp; omega
 rw [this]
 show Oa (Int.tmod (.ofNat u) (.ofNat m)) (fun m => some (.int .i64 m 0)) = _
 rw [PY]; rfl
theorem ANO {z : Nat} {Z : LV} {H : Heap} {n : Nat} {P : KV} : BX (Au z 0 Z [] E0) H n P = P (.sl n 0 0 0 z) (T.set H n (.arr z 0 .e)) (n + 1) := by
 show Ko (band true true) (CV n fun n => P (.sl n 0 0 0 z) (T.set H n (.arr z 0 .e)) (Nat.succ n)) = _
 rw [BG]; rfl
structure Img where
 i : Nat
 t : Nat
 a : Nat
 b : Nat
 f : Nat
 v : V
abbrev Img.At (G : AL) (H : Heap) (n : Nat) (x : Img) (fs : Tab) : Prop := QF G H n x.i x.t x.a x.b x.f x.v fs
theorem AKP {G : AL} {H : Heap} {n i t a b fm : Nat} {vn : V} {fs : Tab} {ss : List St} (h : QF G H n i t a b fm vn fs) (hn : El G H vn 1 (strs ss)) (hs : ss.length <= 1000) {k : KV}
    (hk : ∀ v H' n', Kp H n H' n' -> El G H' v 1 (strs ss) -> Lo v n' -> k v H' n') : Runs F G Vu [.ptr i 0] H n k := by
  refine BM (s := Jf (IX lfp G)) Oo (by obtain ⟨h, o⟩ := Ug BL G; rw [Oo] at h; cases h; exact o) ?_
  show IX lfp G (Runs F G) (.ptr i 0) H n k
  delta IX
  simp only [AER, go_sem, Nat.reduceAdd, AU (off := 2) h.at' (v := vn) rfl]
  refine (Gr.nil (G := G) (H := H) (m := n) (z := 1)).app (Nat.le_refl _) (fun id h => by cases h) hn.2 (by rw [Ie]; simp; omega) ?_ ?_
  · intro v' H' hg hsame hlo
    exact hk _ _ _ ⟨by omega, fun id hid => hsame id hid (fun h => by cases h)⟩ (hg.el (by omega)) hlo
  · intro e
    have : ss = [] := by simpa [strs] using e
    subst this
    exact hk _ _ _ (Kp.refl _ _) ⟨rfl, rfl⟩ gU
theorem Gh.AOF {G : AL} {H : Heap} {n a : Nat} {fs : List (St × Fl)} (h : Gh G H n a fs) (s : St) : ∃ L : LV, tZ .str true (.agg xK) (.map a) s.v H = some (.II [.agg L, .bool (DT fs s).isSome]) /\ L.length = 10 /\
    (∀ f, DT fs s = some f -> Ui G H n (.agg L) f) /\ (DT fs s = none -> L = xK) := by
  obtain ⟨ps, h1, h2, h3⟩ := h.is
  have hs := VE h2 s
  rw [show s.v = .str s.1 s.2 from rfl, sO h1]
  cases hl : DT ps s with
  | none =>
    rw [hl] at hs
    cases hx : DT fs s with
    | none => exact ⟨xK, rfl, rfl, fun f h => (by cases h), fun _ => rfl⟩
    | some x => rw [hx] at hs; cases hs
  | some v =>
    rw [hl] at hs
    cases hx : DT fs s with
    | none => rw [hx] at hs; cases hs
    | some x =>
      have hv := h3 _ _ _ hl hx
      obtain ⟨L, rfl, hL⟩ := hv.cells
      exact ⟨L, rfl, hL, fun f h => (by cases h; exact hv), fun h => by cases h⟩
theorem ALt {G : AL} {H : Heap} {n n0 i t a b fm : Nat} {vn : V} {fs : Tab} {ff : List (St × Fl)} (h : QF G H n i t a b fm vn fs) (hf : Gh G H n0 fm ff) (hn : n0 <= n) (hfm : fm < n) {s : St} {k : KV}
    (hk : ∀ H' n' L, Kp H n H' n' -> L.length = 10 -> (∀ f, DT ff s = some f -> Ui G H' n0 (.agg L) f) -> (DT ff s = none -> L = xK) -> k (.II [.agg L, .bool (DT ff s).isSome]) H' n') : Runs F G WY [.ptr i 0, s.v] H n k := by
  refine BM (s := Rf (Iz lfp G)) P9 (by obtain ⟨h, o⟩ := V5 BL G; rw [P9] at h; cases h; exact o) ?_
  show Iz lfp G (Runs F G) (.ptr i 0) s.v H n k
  delta Iz
  refine Ld rfl fun H1 f1 g1 => ?_
  have h1 := h.kb (f1.kb h.tab.bn)
  obtain ⟨L, hlook, hL, hsome, hnone⟩ := (hf.ke ((f1.ke).low hn) (f1.same fm hfm)).AOF s
  simp only [AER, go_sem, Nat.reduceAdd, AU (off := 1) h1.at' (v := .map fm) rfl, hlook]
  rw [Ya (m := 10) rfl (by omega) hL, T.set_set]
  have f2 : Kp H1 (n + 1) (T.set H1 (n + 1) (one L)) (n + 1 + 1) := (Kp.refl _ _).new _ (Nat.le_refl _) (by omega)
  have g2 := T.Ac H1 (n + 1) (one L)
  generalize T.set H1 (n + 1) (one L) = H2 at f2 g2
  rw [D5 (m := 10) g2 (by omega) hL, BA, EF (m := 10) (f2.get g1 (by omega)) (by omega) rfl hL, Bg (m := 10) (T.Ac ..) (by omega) hL]
  simp only [go_sem]
  have f3 : Kp H n (T.set H2 n (one L)) (n + 1 + 1) := (f1.trans f2).set _ (Nat.le_refl _)
  refine hk _ _ _ f3 hL (fun f hf => (hsome f hf).ke ?_) hnone
  exact (Kp.ke (n := n0) (n' := n0) ⟨Nat.le_refl _, fun id hid => (T.AY _ _ (by omega)).trans (f2.same id (by omega))⟩)
end Go.RL
