/- Part of a proof: texts En34 En35 En36 En37 En38 En39 En40 En41 En42 En44n of the engine and what is proved with it; nothing is assumed. -/
import Derived.Test.YtcjkfmaoahojeaaDoorEngD
import Derived.Scope
import Derived.Defers
import Derived.ChangeSame
import Derived.ChangeVars
import Derived.JoinedOf
import Derived.RowKit
import Derived.RowKitTokens
import Derived.LaidLaws
import Derived.LaidHandle
import Derived.Carry
import Derived.ProofKit
import Derived.Stop.Joined
import Derived.OpenShut
set_option linter.unusedVariables false
set_option linter.unusedSimpArgs false
namespace Go.Eng
variable {P : Program}
def vC : List Nat -> List Nat -> List Nat
 | [], l => l
 | x :: r, l => if l.elem x then vC r l else vC r (x :: l)
theorem iU {x : Nat} : ∀ (r l : List Nat), x ∈ vC r l -> x ∈ r ∨ x ∈ l
 | [], l, h => .inr h
 | y :: r, l, h => by
  simp only [vC] at h
  split at h
  ·rcases iU r l h with h | h
   ·exact .inl (List.mem_cons_of_mem _ h)
   ·exact .inr h
  ·rcases iU r _ h with h | h
   ·exact .inl (List.mem_cons_of_mem _ h)
   ·rcases List.mem_cons.1 h with rfl | h
    ·exact .inl List.mem_cons_self
    ·exact .inr h
def wY (acc : List (List Nat)) : List Edge -> List Nat
 | [] => []
 | e :: r => if Region.binds .any e then vC (e.on :: (acc[e.on]?).getD []) (wY acc r) else wY acc r
def AAf : List Oper -> List (List Nat) -> List (List Nat)
 | [], acc => acc
 | o :: r, acc => AAf r (acc ++ [wY acc o.after.toList])
theorem lI {acc : List (List Nat)} {x : Nat} : ∀ (es : List Edge), x ∈ wY acc es -> ∃ e ∈ es, Region.binds .any e = true /\ (x = e.on ∨ x ∈ (acc[e.on]?).getD [])
  | [], h => by cases h
  | e :: r, h => by
    simp only [wY] at h
    split at h
    · rename_i hb
      rcases iU _ _ h with h | h
      · exact ⟨e, List.mem_cons_self, hb, by rcases List.mem_cons.1 h with h | h; · exact .inl h
                                             · exact .inr h⟩
      · obtain ⟨e', he', h'⟩ := lI r h; exact ⟨e', List.mem_cons_of_mem _ he', h'⟩
    · obtain ⟨e', he', h'⟩ := lI r h; exact ⟨e', List.mem_cons_of_mem _ he', h'⟩
theorem vP {ops : Array Oper} {i : Nat} {o : Oper} (ho : ops[i]? = some o) {e : Edge} (he : e ∈ o.after) (hb : Region.binds .any e = true) : Before ops e.on i := fun S _ hd => hd o ho e he hb
theorem before_trans {ops : Array Oper} {x y i : Nat} (h1 : Before ops x y) (h2 : Before ops y i) : Before ops x i := fun S hc hd => by
 have hy := h2 S hc hd
 exact h1 S hc fun o ho e he hb => hc y o hy ho e he hb
theorem xu {ops : Array Oper} : ∀ (l : List Oper) (acc : List (List Nat)), (∀ j, l[j]? = ops[acc.length + j]?) -> (∀ i x, x ∈ (acc[i]?).getD [] -> Before ops x i) -> ∀ i x, x ∈ ((AAf l acc)[i]?).getD [] -> Before ops x i
 | [], acc, _, h => h
 | o :: r, acc, hl, h => by
  have ho : ops[acc.length]? = some o := by have := hl 0; simpa using this.symm
  refine xu r (acc ++ [wY acc o.after.toList]) (fun j => ?_) ?_
  ·have := hl (j + 1)
   rw [List.getElem?_cons_succ] at this
   rw [this, List.length_append, List.length_singleton, Nat.add_assoc, Nat.add_comm 1 j]
  ·intro i x hx
   by_cases hi : i < acc.length
   ·rw [List.getElem?_append_left hi] at hx; exact h i x hx
   ·rw [List.getElem?_append_right (by omega)] at hx
    have hi0 : i = acc.length := by
     cases hk : i - acc.length with
     | zero => omega
     | succ k => rw [hk] at hx; simp at hx
    subst hi0
    simp only [Nat.sub_self, List.getElem?_cons_zero, Option.getD_some] at hx
    obtain ⟨e, he, hb, hx⟩ := lI _ hx
    have hd := vP ho (by simpa using he) hb
    rcases hx with rfl | hx
    ·exact hd
    ·exact before_trans (h _ _ hx) hd
noncomputable def tC (P : Program) (C : FX) (ops : Array Oper) : List (Nat × Wk) -> Option (List Stp)
 | [] => some []
 | (i, wk) :: r => Ae (AF3 P C ops i wk) fun s => Ae (tC P C ops r) fun l => some (s :: l)
theorem xJ {C : FX} {ops : Array Oper} : ∀ (l : List (Nat × Wk)) (ss : List Stp), tC P C ops l = some ss -> ∀ s ∈ ss, fA P C ops s
 | [], ss, h, s, hs => by cases h; cases hs
 | (i, wk) :: r, ss, h, s, hs => by
  simp only [tC] at h
  obtain ⟨s0, h0, h⟩ := AB.1 h
  obtain ⟨l, hl, e⟩ := AB.1 h; cases e
  rcases List.mem_cons.1 hs with rfl | hs
  ·exact (AHJ h0).1
  ·exact xJ r l hl s hs
def ACb (i : Nat) : List Stp -> Bool
 | [] => false
 | s :: r => Nat.beq s.i i || ACb i r
theorem kL {i : Nat} : ∀ {l : List Stp}, ACb i l = true ↔ ∃ s ∈ l, s.i = i
 | [] => by simp [ACb]
 | s :: r => by simp [ACb, kL (l := r)]
def yJ (ss : List Stp) : Nat -> Bool
 | 0 => true
 | n + 1 => ACb n ss && yJ ss n
def qQ : List Stp -> List Stp -> Bool
 | _, [] => true
 | done, s :: r => !ACb s.i done && s.o.after.toList.all (fun e => !Region.binds .any e || ACb e.on done) && qQ (done ++ [s]) r
def zx (NV : Nat -> List Nat) : List Stp -> Bool
 | [] => true
 | j :: r => (!j.ao.isE || r.all fun s => (NV s.i).elem j.i) && zx NV r
def ALs : Zf -> Bool
 | .to _ => true
 | _ => false
def AUd : Gd -> Bool
 | .no => true
 | _ => false
def AB4 (s : Stp) : Bool :=
 (s.ao.isE || match s.dt with | some t => !s.rd.elem t | none => true) && (!s.ao.isR || ALs s.dst)
def AHL (NV : Nat -> List Nat) (s k : Stp) : Bool :=
 Nat.beq s.i k.i || match s.dt with
  | none => true
  | some t => (match k.dt with | some u => !Nat.beq t u | none => true) && (!k.rd.elem t || ((NV k.i).elem s.i || (s.ao.isE && (NV s.i).elem k.i)))
def ADK (ops : Array Oper) (NV : Nat -> List Nat) (ss : List Stp) : Bool :=
 Nat.ble ss.length ops.size && yJ ss ops.size && qQ [] ss && zx NV ss && ss.all AB4 && ss.all fun s => ss.all (AHL NV s)
theorem pK {ss : List Stp} : ∀ {n : Nat}, yJ ss n = true -> ∀ i, i < n -> ∃ s ∈ ss, s.i = i
 | 0, _, i, hi => by omega
 | n + 1, h, i, hi => by
  simp only [yJ, Bool.and_eq_true] at h
  rcases Nat.lt_or_ge i n with hlt | hge
  ·exact pK h.2 i hlt
  ·have : i = n := by omega
   subst this; exact kL.1 h.1
theorem U7 : ∀ {r done : List Stp}, qQ done r = true -> ∀ pre s post, r = pre ++ s :: post -> (∀ x ∈ done ++ pre, x.i ≠ s.i) /\ ∀ e ∈ s.o.after, Region.binds .any e = true -> ∃ x ∈ done ++ pre, x.i = e.on
 | [], done, _, pre, s, post, he => by cases pre <;> cases he
 | t :: r, done, h, pre, s, post, he => by
  simp only [qQ, Bool.and_eq_true, Bool.not_eq_true'] at h
  obtain ⟨⟨h1, h2⟩, h3⟩ := h
  cases pre with
  | nil =>
   simp only [List.nil_append, List.cons.injEq] at he
   obtain ⟨rfl, rfl⟩ := he
   refine ⟨fun x hx e => ?_, fun e he hb => ?_⟩
   ·rw [List.append_nil] at hx
    rw [kL.2 ⟨x, hx, e⟩] at h1; cases h1
   ·rw [List.append_nil]
    rw [List.all_eq_true] at h2
    have := h2 e (by simpa using he)
    rw [hb] at this
    exact kL.1 (by simpa using this)
  | cons u pre =>
   simp only [List.cons_append, List.cons.injEq] at he
   obtain ⟨rfl, rfl⟩ := he
   have := U7 h3 pre s post rfl
   rw [List.append_assoc, List.singleton_append] at this
   exact this
theorem pI {NV : Nat -> List Nat} : ∀ {ss : List Stp}, zx NV ss = true -> ∀ pre j mid s post, ss = pre ++ j :: (mid ++ s :: post) -> j.ao.isE = true -> j.i ∈ NV s.i
 | [], _, pre, j, mid, s, post, he => by cases pre <;> cases he
 | t :: r, h, pre, j, mid, s, post, he => by
  simp only [zx, Bool.and_eq_true] at h
  cases pre with
  | nil =>
   simp only [List.nil_append, List.cons.injEq] at he
   obtain ⟨rfl, rfl⟩ := he
   intro hE
   have h1 := h.1
   rw [hE] at h1
   simp only [Bool.not_true, Bool.false_or, List.all_eq_true] at h1
   simpa using h1 s (by simp)
  | cons u pre =>
   simp only [List.cons_append, List.cons.injEq] at he
   obtain ⟨rfl, rfl⟩ := he
   exact pI h.2 pre j mid s post rfl
theorem ABG {C : FX} {ops : Array Oper} {l : List (Nat × Wk)} {ss : List Stp} (hs : tC P C ops l = some ss) (h : ADK ops (fun i => ((AAf ops.toList [])[i]?).getD []) ss = true) : Uf P C ops ss (fun i => ((AAf ops.toList [])[i]?).getD []) := by
 have hanc := xu (ops := ops) ops.toList [] (fun j => by simp) (fun i x hx => by simp at hx)
 simp only [ADK, Bool.and_eq_true] at h
 obtain ⟨⟨⟨⟨⟨h1, h2⟩, h3⟩, h4⟩, h5⟩, h6⟩ := h
 rw [List.all_eq_true] at h5 h6
 refine { ok := xJ l ss hs, all := pK h2, inj := ?_, AK3 := ?_, act := fun pre j mid s post he hE => hanc _ _ (pI h4 pre j mid s post he hE), own := ?_, regs := ?_, NV := hanc, AQM := ?_, len := Nat.le_of_ble_eq_true h1 }
 ·intro pre s post he
  refine ⟨fun x hx => by have := (U7 h3 pre s post he).1; exact this x (by simpa using hx), fun x hx e => ?_⟩
  obtain ⟨q1, q2, rfl⟩ := List.append_of_mem hx
  have := (U7 h3 (pre ++ s :: q1) x q2 (by rw [he]; simp)).1 s (by simp)
  exact this e.symm
 ·intro pre s post he e hem hb
  have := (U7 h3 pre s post he).2 e hem hb
  simpa using this
 ·intro s hsm hE t hdt ht
  have := h5 s hsm
  simp only [AB4, Bool.and_eq_true] at this
  have h7 := this.1
  rw [hE, hdt] at h7
  simp only [Bool.false_or, Bool.not_eq_true'] at h7
  rw [Bool.eq_false_iff] at h7
  exact h7 (by simpa using ht)
 ·intro s hsm k hkm hne t hdt
  have := h6 s hsm
  rw [List.all_eq_true] at this
  have := this k hkm
  unfold AHL at this
  rw [hdt] at this
  have hb : Nat.beq s.i k.i = false := by rw [Bool.eq_false_iff]; intro e; exact hne (Nat.eq_of_beq_eq_true e)
  rw [hb] at this
  simp only [Bool.false_or, Bool.and_eq_true] at this
  refine ⟨fun hk => ?_, fun ht => ?_⟩
  ·have h8 := this.1
   rw [hk] at h8
   simp at h8
  ·have h8 := this.2
   have : k.rd.elem t = true := by simpa using ht
   rw [this] at h8
   simp only [Bool.not_true, Bool.false_or, Bool.or_eq_true, Bool.and_eq_true] at h8
   rcases h8 with h8 | ⟨h8, h9⟩
   ·exact .inl (hanc _ _ (by simpa using h8))
   ·exact .inr ⟨h8, hanc _ _ (by simpa using h9)⟩
 ·intro s hsm hR
  have := h5 s hsm
  simp only [AB4, Bool.and_eq_true] at this
  have h7 := this.2
  rw [hR] at h7
  cases hd : s.dst with
  | no => rw [hd] at h7; simp [ALs] at h7
  | ps => rw [hd] at h7; simp [ALs] at h7
  | to p => exact ⟨p, rfl⟩
end Go.Eng
namespace Go.Eng
variable {P : Program}
abbrev ACs := List (Nat × List (Nat × Wk))
def AKM (id : Nat) : ACs -> Option (List (Nat × Wk))
 | [] => none
 | (i, l) :: r => if i = id then some l else AKM id r
def AXp (ops : Array Oper) : Nat -> List Nat := fun i => ((AAf ops.toList [])[i]?).getD []
noncomputable def trC (P : Program) (C : FX) (ords : ACs) : Code -> Option AC
 | .skip => some .skip
 | .region id ops draw => match draw with
  | false => Ae (qZ P C ops [] 0 ops.toList) fun l => some (.ops l)
  | true => Ae (AKM id ords) fun l => Ae (tC P C ops l) fun ss => match ADK ops (fun i => ((AAf ops.toList [])[i]?).getD []) ss with
   | true => some (.reg (Dh (fun i => ((AAf ops.toList [])[i]?).getD []) [] ss))
   | false => none
 | .seq a b => Ae (trC P C ords a) fun a => Ae (trC P C ords b) fun b => some (.seq a b)
 | .cond c a b => Ae (AF2 C [] 0 c) fun x => Ae (trC P C ords a) fun a => Ae (trC P C ords b) fun b => some (.cond x a b)
 | .block id c => Ae (trC P C ords c) fun c => some (.block id c)
 | .loop c => Ae (trC P C ords c) fun c => some (.loop c)
 | .exit id => some (.exit id)
 | .ret => some .ret
 | .scope c => trC P C ords c
 | .label _ => some .skip
 | _ => none
def Fr (w0 : World) (C : FX) (ρ0 : Loc) (H0 : Heap) (n0 : Nat) (R : FM) (H : Heap) (n : Nat) (a : Act) (w : World) : Prop := ∃ ρ, DJ w0 ρ H n w /\ Rg C ρ R a /\ FT ρ0 H0 n0 ρ H n
theorem least {p : Nat -> Prop} (h : ∃ m, p m) : ∃ m, p m /\ ∀ j, p j -> m <= j := by
 obtain ⟨m, hm⟩ := h
 induction m using Nat.strongRecOn with
 | _ m ih =>
  by_cases h : ∃ j, j < m /\ p j
  ·obtain ⟨j, hj, hp⟩ := h; exact ih j hj hp
  ·refine ⟨m, hm, fun j hj => ?_⟩
   rcases Nat.lt_or_ge j m with hlt | hge
   ·exact absurd ⟨j, hlt, hj⟩ h
   ·exact hge
open Classical in
noncomputable def lst (p : Nat -> Prop) : Nat := if h : ∃ m, p m then (least h).choose else 0
theorem AA0 {p : Nat -> Prop} (h : ∃ m, p m) : p (lst p) /\ ∀ j, p j -> lst p <= j := by
 unfold lst
 rw [dif_pos h]
 exact (least h).choose_spec
theorem AD7 {C : FX} {ρ : Loc} {R : FM} {a : Act} : Xz C ρ (.mk [] R) 0 [] a := ⟨rfl, fun t ev h => by cases h⟩
section
variable {w0 : World} {C : FX} {ords : ACs} {ρ0 : Loc} {H0 : Heap} {n0 : Nat} {G : AP} {call : AQ} {lf : Nat}
theorem fQ (hm : P.follows .mixedOrders = true) (hc : XD P w0 call) (hg : Oa w0 G) : ∀ (c : Code) (ac : AC), trC P C ords c = some ac -> ∀ (Q : Exit -> Act -> World -> Prop) (R : FM) (H : Heap) (n : Nat) (k : K) (x : KX) (r : K) (a : Act) (w : World),
    (∀ R H n a w, k R H n -> Fr w0 C ρ0 H0 n0 R H n a w -> Q .normal a w) -> (∀ i R H n a w, x i R H n -> Fr w0 C ρ0 H0 n0 R H n a w -> Q (.exit i) a w) -> (∀ R H n a w, r R H n -> Fr w0 C ρ0 H0 n0 R H n a w -> Q .ret a w) ->
    ac.ex G call lf R H n k x r -> Fr w0 C ρ0 H0 n0 R H n a w -> c.wp P Q a w := by
  intro c
  induction c with
  | skip =>
    intro ac h Q R H n k x r a w hk hx hr he hf
    cases h
    exact wp_skip (hk _ _ _ _ _ he hf)
  | region id ops draw =>
    intro ac h Q R H n k x r a w hk hx hr he hf
    obtain ⟨ρ, hh, hrg, hgu⟩ := hf
    cases draw with
    | false =>
      simp only [trC] at h
      obtain ⟨l, hl, e⟩ := AB.1 h; cases e
      have he' : BX l G call (.mk [] R) H n (fun E H n => k E.rg H n) := he
      exact wp_region_list (oH (ρ0 := ρ0) (H0 := H0) (n0 := n0) hc hg (fun E H n a w ρ hK hh hr hgu => hk _ _ _ _ _ hK ⟨ρ, hh, hr, hgu⟩) ops.toList [] 0 l hl _ H n a w ρ he' hh hrg AD7 hgu)
    | true =>
      simp only [trC] at h
      obtain ⟨l, hl, h⟩ := AB.1 h
      obtain ⟨ss, hss, h⟩ := AB.1 h
      split at h
      · rename_i hchk
        cases h
        have R0 := ABG hss hchk
        have he' : AY (Dh (fun i => ((AAf ops.toList [])[i]?).getD []) [] ss) G call (.mk [] R) H n (fun E H n => k E.rg H n) := he
        exact AEh hm R0 hc hg hh hrg he' fun E H n a w ρ' hK hh' hr' hgu' => hk _ _ _ _ _ hK ⟨ρ', hh', hr', hgu.trans hgu'⟩
      · cases h
  | seq c1 c2 ih1 ih2 =>
    intro ac h Q R H n k x r a w hk hx hr he hf
    simp only [trC] at h
    obtain ⟨a1, h1, h⟩ := AB.1 h
    obtain ⟨a2, h2, e⟩ := AB.1 h; cases e
    have he' : a1.ex G call lf R H n (fun R H n => a2.ex G call lf R H n k x r) x r := he
    refine wp_seq (ih1 a1 h1 _ R H n _ x r a w ?_ ?_ ?_ he' hf)
    · intro R H n a w hk' hf'
      exact ih2 a2 h2 Q R H n k x r a w hk hx hr hk' hf'
    · intro i R H n a w hx' hf'; exact hx i R H n a w hx' hf'
    · intro R H n a w hr' hf'; exact hr R H n a w hr' hf'
  | cond c c1 c2 ih1 ih2 =>
    intro ac h Q R H n k x r a w hk hx hr he hf
    simp only [trC] at h
    obtain ⟨cx, hcx, h⟩ := AB.1 h
    obtain ⟨a1, h1, h⟩ := AB.1 h
    obtain ⟨a2, h2, e⟩ := AB.1 h; cases e
    have he' : Ac (cx.ev (.mk [] R)) true (a1.ex G call lf R H n k x r) (a2.ex G call lf R H n k x r) := he
    rw [Rl] at he'
    obtain ⟨t, ht, he'⟩ := he'
    obtain ⟨ρ, hh, hrg, hgu⟩ := hf
    have hv := AAy (E := .mk [] R) hrg AD7 c cx hcx
    rw [ht] at hv
    simp only [AV] at hv
    refine wp_cond_split hv (fun e => ?_) (fun e => ?_)
    · rw [if_pos e] at he'
      exact ih1 a1 h1 Q R H n k x r a w hk hx hr he' ⟨ρ, hh, hrg, hgu⟩
    · rw [if_neg (by simp [e])] at he'
      exact ih2 a2 h2 Q R H n k x r a w hk hx hr he' ⟨ρ, hh, hrg, hgu⟩
  | block id c ih =>
    intro ac h Q R H n k x r a w hk hx hr he hf
    simp only [trC] at h
    obtain ⟨a1, h1, e⟩ := AB.1 h; cases e
    have he' : a1.ex G call lf R H n k (Du id k x) r := he
    refine wp_block (ih a1 h1 _ R H n k _ r a w ?_ ?_ ?_ he' hf)
    · intro R H n a w hk' hf'; exact hk R H n a w hk' hf'
    · intro i R H n a w hx' hf'
      simp only [Exit.inBlock]
      cases hb : Nat.beq i id with
      | true =>
        have hx2 : (Bool.rec (motive := fun _ => Prop -> Prop -> Prop) (fun a _ => a) (fun _ b => b) (Nat.beq i id) (x i R H n) (k R H n) : Prop) := hx'
        rw [hb] at hx2
        rw [if_pos (Nat.eq_of_beq_eq_true hb)]
        exact hk R H n a w hx2 hf'
      | false =>
        have hx2 : (Bool.rec (motive := fun _ => Prop -> Prop -> Prop) (fun a _ => a) (fun _ b => b) (Nat.beq i id) (x i R H n) (k R H n) : Prop) := hx'
        rw [hb] at hx2
        rw [if_neg (fun e => by subst e; simp at hb)]
        exact hx i R H n a w hx2 hf'
    · intro R H n a w hr' hf'; exact hr R H n a w hr' hf'
  | loop c ih =>
    intro ac h Q R H n k x r a w hk hx hr he hf
    simp only [trC] at h
    obtain ⟨a1, h1, e⟩ := AB.1 h; cases e
    have he' : TU (AC.ex a1) G call lf lf R H n x r := he
    have J : ∃ m R H n, TU (AC.ex a1) G call lf m R H n x r /\ Fr w0 C ρ0 H0 n0 R H n a w := ⟨lf, R, H, n, he', hf⟩
    refine wp_loop (fun a w => ∃ m R H n, TU (AC.ex a1) G call lf m R H n x r /\ Fr w0 C ρ0 H0 n0 R H n a w) (fun a w => lst fun m => ∃ R H n, TU (AC.ex a1) G call lf m R H n x r /\ Fr w0 C ρ0 H0 n0 R H n a w) J ?_
    intro a w hI
    obtain ⟨hp, _⟩ := AA0 hI
    cases hm0 : lst (fun m => ∃ R H n, TU (AC.ex a1) G call lf m R H n x r /\ Fr w0 C ρ0 H0 n0 R H n a w) with
    | zero =>
      rw [hm0] at hp
      obtain ⟨R, H, n, hl, _⟩ := hp
      exact (show False from hl).elim
    | succ m =>
      rw [hm0] at hp
      obtain ⟨R, H, n, hl, hf⟩ := hp
      have hl' : a1.ex G call lf R H n (fun R H n => TU (AC.ex a1) G call lf m R H n x r) x r := hl
      refine ih a1 h1 _ R H n _ x r a w ?_ ?_ ?_ hl' hf
      · intro R H n a' w' hk' hf'
        refine ⟨⟨m, R, H, n, hk', hf'⟩, ?_⟩
        have := (AA0 (p := fun m => ∃ R H n, TU (AC.ex a1) G call lf m R H n x r /\ Fr w0 C ρ0 H0 n0 R H n a' w') ⟨m, R, H, n, hk', hf'⟩).2 m ⟨R, H, n, hk', hf'⟩
        omega
      · intro i R H n a w hx' hf'; exact hx i R H n a w hx' hf'
      · intro R H n a w hr' hf'; exact hr R H n a w hr' hf'
  | exit id =>
    intro ac h Q R H n k x r a w hk hx hr he hf
    cases h
    exact wp_exit (hx id _ _ _ _ _ he hf)
  | ret =>
    intro ac h Q R H n k x r a w hk hx hr he hf
    cases h
    exact wp_ret (hr _ _ _ _ _ he hf)
  | scope c ih =>
    intro ac h Q R H n k x r a w hk hx hr he hf
    simp only [trC] at h
    exact wp_scope_straight (ih ac h _ R H n k x r a w hk hx hr he hf)
  | label l =>
    intro ac h Q R H n k x r a w hk hx hr he hf
    cases h
    exact wp_label (hk _ _ _ _ _ he hf)
  | _ => intro ac h; simp only [trC] at h; cases h
end
end Go.Eng
namespace Go.Eng
variable {P : Program}
noncomputable def o8 (P : Program) (C : FX) : List ResultVar -> Option (List AR)
  | [] => some []
  | .tmp t :: r => if t < C.nt then if C.loc t then none else Ae (o8 P C r) fun l => some (.tmp (Ld t) :: l) else none
  | .cell a ty :: r => if a < C.nt then if C.loc a then none else match KQ P ty with
      | some true => Ae (iq P ty) fun n => Ae (o8 P C r) fun l => some (.celln (Ld a) n :: l)
      | some false => Ae (o8 P C r) fun l => some (.cell1 (Ld a) :: l)
      | none => none
    else none
theorem iI (r : AR) (l : List AR) (G : AP) (R : FM) (H : Heap) : bK (r :: l) G R H = BG (r.get G R H) fun v => BG (bK l G R H) fun vs => some (v :: vs) := rfl
def gI (tmps : Array Value) : ResultVar -> Sem Value
 | .tmp t => pure (tmps.getD t undef)
 | .cell b t => do loadVar t (<- asAddr (tmps.getD b undef))
theorem qp {w0 : World} {C : FX} {ρ : Loc} {R : FM} {H : Heap} {n : Nat} {a : Act} {w : World} {G : AP} (hg : Oa w0 G) (hh : DJ w0 ρ H n w) (hr : Rg C ρ R a) : ∀ (rs : List ResultVar) (l : List AR) (vs : LV), o8 P C rs = some l -> bK l G R H = some vs ->
    ∃ us, (rs.mapM (gI a.tmps)).run P w = .ok us w /\ Bf ρ vs us
  | [], l, vs, h, hv => by
    cases h
    have hv' : some [] = some vs := hv
    cases hv'
    exact ⟨[], by simp, Bf.nil⟩
  | .tmp t :: r, l, vs, h, hv => by
    simp only [o8] at h
    split at h
    · rename_i ht
      split at h
      · cases h
      · rename_i hl
        obtain ⟨l', hl', e⟩ := AB.1 h; cases e
        rw [iI, BM] at hv
        obtain ⟨v, hv1, hv⟩ := hv
        rw [BM] at hv
        obtain ⟨vs', hv2, hv⟩ := hv
        cases hv
        have hv1' : some (Jw (T.DI (Ld t) R)) = some v := hv1
        cases hv1'
        obtain ⟨us, hus, hrel⟩ := qp hg hh hr r l' vs' hl' hv2
        refine ⟨a.tmps.getD t undef :: us, ?_, .cons (hr.reg t ht (by simpa using hl)) hrel⟩
        simp only [List.mapM_cons, gI, Sem.run_bind, Sem.run_pure, Result.andThen_ok, hus]
    · cases h
  | .cell b ty :: r, l, vs, h, hv => by
    simp only [o8] at h
    split at h
    · rename_i hb
      split at h
      · cases h
      · rename_i hl
        have hreg := hr.reg b hb (by simpa using hl)
        split at h
        · rename_i hag
          obtain ⟨m, hm, h⟩ := AB.1 h
          obtain ⟨l', hl', e⟩ := AB.1 h; cases e
          rw [iI, BM] at hv
          obtain ⟨v, hv1, hv⟩ := hv
          rw [BM] at hv
          obtain ⟨vs', hv2, hv⟩ := hv
          cases hv
          obtain ⟨us, hus, hrel⟩ := qp hg hh hr r l' vs' hl' hv2
          have hv1' : Ku (lH (Jw (T.DI (Ld b) R)) G H m) (fun L => some (.agg L)) = some v := hv1
          obtain ⟨val, hrun, hvr⟩ := AD3 (P := P) hh hg hreg hag hm hv1'
          refine ⟨val :: us, ?_, .cons hvr hrel⟩
          have hq : (gI a.tmps (.cell b ty)).run P w = .ok val w := by
            obtain ⟨L0, hL0, _⟩ := Rt.1 hv1'
            obtain ⟨a0, _, ha0, _⟩ := YB hh hg hreg hL0
            have ha1 : a.tmps.getD b undef = .pointer (some a0) := ha0
            rw [<- hrun]
            simp only [gI, Instr.loadAt, ha0, ha1, asAddr, Instr.sureAddr]
          simp only [List.mapM_cons, Sem.run_bind, hq, Sem.run_pure, Result.andThen_ok, hus]
        · rename_i hag
          obtain ⟨l', hl', e⟩ := AB.1 h; cases e
          rw [iI, BM] at hv
          obtain ⟨v, hv1, hv⟩ := hv
          rw [BM] at hv
          obtain ⟨vs', hv2, hv⟩ := hv
          cases hv
          obtain ⟨us, hus, hrel⟩ := qp hg hh hr r l' vs' hl' hv2
          have hv1' : Ku (lH (Jw (T.DI (Ld b) R)) G H 1) (fun L => nth L 0) = some v := hv1
          obtain ⟨val, hrun, hvr⟩ := AEO (P := P) hh hg hreg hag hv1'
          refine ⟨val :: us, ?_, .cons hvr hrel⟩
          have hq : (gI a.tmps (.cell b ty)).run P w = .ok val w := by
            obtain ⟨L0, hL0, _⟩ := Rt.1 hv1'
            obtain ⟨a0, _, ha0, _⟩ := YB hh hg hreg hL0
            have ha1 : a.tmps.getD b undef = .pointer (some a0) := ha0
            rw [<- hrun]
            simp only [gI, Instr.loadAt, ha0, ha1, asAddr, Instr.sureAddr]
          simp only [List.mapM_cons, Sem.run_bind, hq, Sem.run_pure, Result.andThen_ok, hus]
        · cases h
    · cases h
end Go.Eng
namespace Go.Eng
variable {P : Program}
theorem AGw {ρ : Loc} {vs : LV} {us : List Value} (h : Bf ρ vs us) : AV ρ (Eh vs) (if h : us.toArray.size = 1 then us.toArray[0] else .tuple us.toArray) := by
 match vs, us, h with
 | [], us, h =>
  simp only [jZ] at h; subst h
  simp only [List.size_toArray, List.length_nil]
  exact ⟨#[], rfl, by simp⟩
 | [v], us, h =>
  obtain ⟨u, us', rfl, hv, h'⟩ := KF.1 h
  simp only [jZ] at h'; subst h'
  show AV ρ v _
  simpa using hv
 | v :: w :: vs, us, h =>
  obtain ⟨u, us', rfl, hv, h'⟩ := KF.1 h
  obtain ⟨u2, us2, rfl, hv2, h2⟩ := KF.1 h'
  rw [dif_neg (by simp)]
  exact ⟨_, rfl, by simpa using h⟩
theorem AAd {w0 : World} {C : FX} {ρ : Loc} {R : FM} {H : Heap} {n : Nat} {a : Act} {w : World} {G : AP} (hg : Oa w0 G) (hh : DJ w0 ρ H n w) (hr : Rg C ρ R a) {fn : Func} {l : List AR} {vs : LV}
    (hl : o8 P C fn.results.toList = some l) (hv : bK l G R H = some vs) : ∃ u, (results fn a.tmps).run P w = .ok u w /\ AV ρ (Eh vs) u := by
  obtain ⟨us, hus, hrel⟩ := qp (P := P) hg hh hr fn.results.toList l vs hl hv
  refine ⟨_, ?_, AGw hrel⟩
  unfold results
  rw [Array.mapM_eq_mapM_toList]
  have e : (fun x : ResultVar => match x with
      | .tmp t => (pure (a.tmps.getD t undef) : Sem Value)
      | .cell b t => do loadVar t (<- asAddr (a.tmps.getD b undef))) = gI a.tmps := by
    funext x; cases x <;> rfl
  simp only [map_eq_pure_bind, bind_assoc, pure_bind]
  rw [Sem.run_bind]
  have e2 : (List.mapM (fun x : ResultVar => match x with
      | .tmp t => (pure (a.tmps.getD t undef) : Sem Value)
      | .cell b t => do loadVar t (<- asAddr (a.tmps.getD b undef))) fn.results.toList).run P w = .ok us w := by
    rw [e]; exact hus
  erw [e2]
  simp
def yX (f : Nat -> Bool) : Nat -> Bool
 | 0 => true
 | n + 1 => !f n && yX f n
theorem oP {f : Nat -> Bool} : ∀ {n : Nat}, yX f n = true -> ∀ i, i < n -> f i = false
 | 0, _, i, hi => by omega
 | n + 1, h, i, hi => by
  simp only [yX, Bool.and_eq_true, Bool.not_eq_true'] at h
  rcases Nat.lt_or_ge i n with hlt | hge
  ·exact oP h.2 i hlt
  ·have : i = n := by omega
   subst this; exact h.1
noncomputable def ALD (nt : Nat) : Bool -> Zf
 | true => .to (Ld nt)
 | false => .no
noncomputable def trF (P : Program) (loc : Nat -> Bool) (df : Bool) (ords : ACs) (dg : Nat) (fn : Func) : Option AF :=
 match fn.body with
 | some c => Ae (trC P ⟨loc, fn.ntmps, df⟩ ords c) fun ac => Ae (o8 P ⟨loc, fn.ntmps, df⟩ fn.results.toList) fun rs =>
  match Nat.ble (fn.params.size + fn.nfree) fn.ntmps && yX loc (fn.params.size + fn.nfree) with
  | true => some (.mk (fn.params.size + fn.nfree) ac rs (ALD fn.ntmps df) dg)
  | false => none
 | none => none
def AEw : Zf -> Bool
 | .no => true
 | _ => false
def AF.dp : AF -> Zf | .mk _ _ _ d _ => d
def AF.dg : AF -> Nat | .mk _ _ _ _ g => g
structure rX (P : Program) (F : T AF) : Prop where
 mixed : P.follows .mixedOrders = true
 fns : ∀ f af, T.get F f = some af -> ∃ fn loc df ords, P.funcs[f]? = some fn /\ (fn.name == "runtime.NumGoroutine") = false /\ trF P loc df ords af.dg fn = some af
 dgs : ∀ f af af', T.get F f = some af -> af.dp ≠ .no -> T.get F af.dg = some af' -> af'.dp = .no
def Ret (w0 : World) (ρ : Loc) (H : Heap) (n : Nat) (k : KV) (e : Ending) (w' : World) : Prop :=
 ∃ u v H' n' ρ', e = .returned u /\ k v H' n' /\ AV ρ' v u /\ DJ w0 ρ' H' n' w' /\ FT ρ H n ρ' H' n'
def AEN (P : Program) (w0 : World) (call : AQ) (f : Nat) : Prop := ∀ (vargs : List V) (H : Heap) (n : Nat) (k : KV), call f vargs H n k -> ∀ (ρ : Loc) (w : World) (args : Array Value), DJ w0 ρ H n w -> Bf ρ vargs args.toList ->
 CallsD P f args .returning w (fun e u' w' => u' = .returning /\ Ret w0 ρ H n k e w')
theorem mM : ∀ (args : List V) (i : Nat) (R : FM) (t : Nat), Jw (T.DI (Ld t) (WQ args i R)) = if i <= t /\ t < i + args.length then (args[t - i]?).getD .undef else Jw (T.DI (Ld t) R)
 | [], i, R, t => by
  show Jw (T.DI (Ld t) R) = _
  rw [if_neg (by simp)]
 | v :: vs, i, R, t => by
  show Jw (T.DI (Ld t) (WQ vs (i + 1) (T.set R i v))) = _
  rw [mM vs (i + 1) (T.set R i v) t]
  by_cases h : i + 1 <= t /\ t < i + 1 + vs.length
  ·rw [if_pos h, if_pos (by simp; omega)]
   obtain ⟨m, hm⟩ : ∃ m, t = i + 1 + m := ⟨t - (i + 1), by omega⟩
   subst hm
   rw [show i + 1 + m - (i + 1) = m by omega, show i + 1 + m - i = m + 1 by omega]
   simp
  ·rw [if_neg h]
   by_cases he : t = i
   ·subst he
    rw [if_pos (by simp)]
    show Jw (T.get (T.set R t v) t) = _
    simp
   ·rw [if_neg (by simp; omega)]
    show Jw (T.get (T.set R i v) t) = _
    rw [T.Am _ _ (fun e => he e.symm)]
    rfl
section
variable {w0 : World} {G : AP} {F : T AF} {lf : Nat}
theorem AHX {C : FX} {ρ : Loc} {vargs : List V} {args : Array Value} (hrel : Bf ρ vargs args.toList) (hsz : args.size <= C.nt) (hloc : ∀ i, i < args.size -> C.loc i = false) :
    Rg C ρ (WQ vargs 0 .e) { tmps := args ++ Array.replicate (C.nt - args.size) undef, defers := [] } := by
  have hlen : vargs.length = args.size := by rw [hrel.length]; simp
  refine ⟨by simp; omega, fun t ht hl => ?_, ?_⟩
  · rw [mM]
    by_cases h : t < vargs.length
    · rw [if_pos ⟨Nat.zero_le _, by omega⟩, Nat.sub_zero]
      obtain ⟨v, hv, hvr⟩ := hrel.get (i := t) (c := (vargs[t]?).getD .undef) (by rw [List.getElem?_eq_getElem h]; rfl)
      have : ({ tmps := args ++ Array.replicate (C.nt - args.size) undef, defers := [] } : Act).eval (.tmp t) = v := by
        have hv' : args[t]? = some v := by simpa using hv
        simp only [Act.eval]
        rw [Array.getD_eq_getD_getElem?, Array.getElem?_append_left (by omega), hv']
        rfl
      rw [this]; exact hvr
    · rw [if_neg (by omega)]
      simp [AV]
  · rw [mM, if_neg (show ¬ (0 <= C.nt /\ C.nt < 0 + vargs.length) by omega)]
    simp only [T.rY, AFB]
    split
    · rfl
    · trivial
theorem AAu {dg : Nat} {call : AQ} (hc : AEN P w0 call dg) (hfn : ∀ vargs H n k, call dg vargs H n k -> AGj P dg) {fn : Func} {tmps : Array Value} {R : Ending -> World -> Prop} (k : Heap -> Nat -> Prop) {ρ0 : Loc} {H0 : Heap} {n0 : Nat} :
    ∀ (l : List V) (ds : List Deferred) (ρ : Loc) (H : Heap) (n : Nat) (w : World), DL ρ l ds -> DJ w0 ρ H n w -> FT ρ0 H0 n0 ρ H n -> JR dg l call H n k ->
      (∀ ρ' H' n' w', k H' n' -> DJ w0 ρ' H' n' w' -> ρ.le ρ' -> FT ρ0 H0 n0 ρ' H' n' -> Leaves P fn tmps R [] .returning w') -> Leaves P fn tmps R ds .returning w
  | [], ds, ρ, H, n, w, hd, hh, hgu, hex, hk => by
    have : ds = [] := hd
    subst this
    exact hk ρ H n w hex hh (Loc.le.refl _) hgu
  | v :: l, ds, ρ, H, n, w, hd, hh, hgu, hex, hk => by
    obtain ⟨d, ds', rfl, ⟨f, fa, ca, fa', ca', rfl, rfl, hfa, hca⟩, hd'⟩ := hd
    have hex' : Fa (Nat.beq f dg) (call f (cat fa ca) H n fun _ H n => JR dg l call H n k) := hex
    rw [EC] at hex'
    obtain ⟨hf, hcall⟩ := hex'
    have hf' : f = dg := Nat.eq_of_beq_eq_true hf
    subst hf'
    have hrun : (invoke (.fn (.func f) ca') fa').run P w = .ok (.enter f (fa' ++ ca')) w := by
      simpa [invoke] using YR (hfn _ _ _ _ hcall) (fa' ++ ca') w
    refine leaves_cons (by simp) hrun ?_
    rw [yD] at hcall
    refine (hc _ H n _ hcall ρ w (fa' ++ ca') hh (by simpa using hfa.append hca)).mono ?_
    rintro e u' w' ⟨rfl, u, v, H', n', ρ', rfl, hex2, hv, hh', hg'⟩
    simp only [settle]
    exact AAu hc hfn k l ds' ρ' H' n' w' (hd'.mono hg'.le) hh' (hgu.trans hg') hex2 fun ρ'' H'' n'' w'' h1 h2 h3 h4 => hk ρ'' H'' n'' w'' h1 h2 (hg'.le.trans h3) h4
theorem AFq (hF : rX P F) (hg : Oa w0 G) : ∀ fuel, XD P w0 (run F G lf fuel) /\ ∀ f af, T.get F f = some af -> af.dp = .no -> AEN P w0 (run F G lf fuel) f
  | 0 => ⟨fun _ _ _ _ _ h => (show False from h).elim, fun _ _ _ _ _ _ _ _ h => (show False from h).elim⟩
  | fuel + 1 => by
    obtain ⟨ihc, ihd⟩ := AFq hF hg fuel
    have main : ∀ (f : Nat) (vargs : List V) (H : Heap) (n : Nat) (k : KV), run F G lf (fuel + 1) f vargs H n k -> AGj P f /\ ∃ af fn c, T.get F f = some af /\ P.funcs[f]? = some fn /\ fn.body = some c /\
        ∀ (ρ : Loc) (w : World) (args : Array Value), DJ w0 ρ H n w -> Bf ρ vargs args.toList ->
          (c.wp P (bodyPostD P fn (Ret w0 ρ H n k)) { tmps := args ++ Array.replicate (fn.ntmps - args.size) undef, defers := [] } w) /\
          (af.dp = .no -> c.wp P (bodyPost P fn (Ret w0 ρ H n k)) { tmps := args ++ Array.replicate (fn.ntmps - args.size) undef, defers := [] } w) := by
      intro f vargs H n k h
      have h' : Es (T.get F f) fun af => fF af G (run F G lf fuel) lf vargs H n k := h
      rw [Gv] at h'
      obtain ⟨af, haf, h'⟩ := h'
      obtain ⟨fn, loc, df, ords, hfn, hname, htr⟩ := hF.fns f af haf
      unfold trF at htr
      split at htr
      · rename_i c hb
        obtain ⟨ac, hac, htr⟩ := AB.1 htr
        obtain ⟨rs, hrs, htr⟩ := AB.1 htr
        split at htr
        · rename_i hchk
          simp only [Bool.and_eq_true] at hchk
          have hle : fn.params.size + fn.nfree <= fn.ntmps := Nat.le_of_ble_eq_true hchk.1
          have hloc := oP hchk.2
          have haf' := Option.some.inj htr
          refine ⟨⟨fn, hfn, by rw [hb]; rfl, hname⟩, af, fn, c, haf, hfn, hb, ?_⟩
          intro ρ w args hh hrel
          rw [<- haf'] at h'
          have h2 : Fa (Nat.beq (len vargs) (fn.params.size + fn.nfree)) (ac.ex G (run F G lf fuel) lf (WQ vargs 0 .e) H n
              (Fh rs af.dg (ALD fn.ntmps df) G (run F G lf fuel) k) noX (Fh rs af.dg (ALD fn.ntmps df) G (run F G lf fuel) k)) := h'
          rw [EC] at h2
          obtain ⟨hlen, hex⟩ := h2
          have hlen' : vargs.length = fn.params.size + fn.nfree := by simpa using Nat.eq_of_beq_eq_true hlen
          have hsz : args.size = fn.params.size + fn.nfree := by rw [<- hlen', hrel.length]; simp
          have hstart : Fr w0 ⟨loc, fn.ntmps, df⟩ ρ H n (WQ vargs 0 .e) H n { tmps := args ++ Array.replicate (fn.ntmps - args.size) undef, defers := [] } w :=
            ⟨ρ, hh, AHX (C := ⟨loc, fn.ntmps, df⟩) hrel (by show args.size <= fn.ntmps; omega) (fun i hi => hloc i (by omega)), FT.refl _ _ _⟩
          have hfin : ∀ R' H' n' a' w', (∃ l, bK rs G R' H' = some l /\ k (Eh l) H' n') -> ∀ ρ', DJ w0 ρ' H' n' w' -> Rg ⟨loc, fn.ntmps, df⟩ ρ' R' a' -> FT ρ H n ρ' H' n' ->
              ∃ v, (results fn a'.tmps).run P w' = .ok v w' /\ Ret w0 ρ H n k (.returned v) w' := by
            rintro R' H' n' a' w' ⟨l, hl, hk⟩ ρ' hh' hr' hgu'
            obtain ⟨u, hu, hvr⟩ := AAd (P := P) hg hh' hr' hrs hl
            exact ⟨u, hu, u, _, _, _, _, rfl, hk, hvr, hh', hgu'⟩
          cases df with
          | false =>
            have hend : ∀ R' H' n' a' w', Fh rs af.dg .no G (run F G lf fuel) k R' H' n' -> Fr w0 ⟨loc, fn.ntmps, false⟩ ρ H n R' H' n' a' w' ->
                a'.defers = [] /\ ∃ v, (results fn a'.tmps).run P w' = .ok v w' /\ Ret w0 ρ H n k (.returned v) w' := by
              rintro R' H' n' a' w' hx ⟨ρ', hh', hr', hgu'⟩
              have hx' : Es (bK rs G R' H') fun l => k (Eh l) H' n' := hx
              rw [Gv] at hx'
              exact ⟨by simpa using hr'.dfs, hfin R' H' n' a' w' hx' ρ' hh' hr' hgu'⟩
            refine ⟨?_, fun _ => ?_⟩
            · refine fQ hF.mixed ihc hg c ac hac _ _ _ _ _ _ _ _ _ ?_ ?_ ?_ hex hstart
              · intro R' H' n' a' w' hx hf
                obtain ⟨hd, hv⟩ := hend R' H' n' a' w' hx hf
                show Leaves P fn a'.tmps _ a'.defers .returning w'
                rw [hd]; exact hv
              · intro i R' H' n' a' w' hx hf; exact (show False from hx).elim
              · intro R' H' n' a' w' hx hf
                obtain ⟨hd, hv⟩ := hend R' H' n' a' w' hx hf
                show Leaves P fn a'.tmps _ a'.defers .returning w'
                rw [hd]; exact hv
            · refine fQ hF.mixed ihc hg c ac hac _ _ _ _ _ _ _ _ _ ?_ ?_ ?_ hex hstart
              · intro R' H' n' a' w' hx hf; exact hend R' H' n' a' w' hx hf
              · intro i R' H' n' a' w' hx hf; exact (show False from hx).elim
              · intro R' H' n' a' w' hx hf; exact hend R' H' n' a' w' hx hf
          | true =>
            have hdp : af.dp = .to (Ld fn.ntmps) := by rw [<- haf']; rfl
            have hend : ∀ R' H' n' a' w', Fh rs af.dg (.to (Ld fn.ntmps)) G (run F G lf fuel) k R' H' n' -> Fr w0 ⟨loc, fn.ntmps, true⟩ ρ H n R' H' n' a' w' ->
                Leaves P fn a'.tmps (Ret w0 ρ H n k) a'.defers .returning w' := by
              rintro R' H' n' a' w' hx ⟨ρ', hh', hr', hgu'⟩
              have hx' : JR af.dg (cZ (Jw (T.DI (Ld fn.ntmps) R'))) (run F G lf fuel) H' n' (fun H n => qJ rs G k R' H n) := hx
              have hd := hr'.dfs
              simp only [if_true] at hd
              have hlast : ∀ ρ'' H'' n'' w'', qJ rs G k R' H'' n'' -> DJ w0 ρ'' H'' n'' w'' -> ρ'.le ρ'' -> FT ρ H n ρ'' H'' n'' -> Leaves P fn a'.tmps (Ret w0 ρ H n k) [] .returning w'' := by
                intro ρ'' H'' n'' w'' hx2 hh'' hle hgu''
                have hx3 : Es (bK rs G R' H'') fun l => k (Eh l) H'' n'' := hx2
                rw [Gv] at hx3
                exact hfin R' H'' n'' a' w'' hx3 ρ'' hh'' (hr'.mono hle) hgu''
              cases hl : cZ (Jw (T.DI (Ld fn.ntmps) R')) with
              | nil =>
                rw [hl] at hd hx'
                have : a'.defers = [] := hd
                rw [this]
                exact hlast ρ' H' n' w' hx' hh' (Loc.le.refl _) hgu'
              | cons v l =>
                rw [hl] at hd hx'
                obtain ⟨d, ds', he, ⟨f', fa, ca, fa', ca', rfl, _, _, _⟩, _⟩ := hd
                have hx4 : Fa (Nat.beq f' af.dg) (run F G lf fuel f' (cat fa ca) H' n' fun _ H n => JR af.dg l (run F G lf fuel) H n (fun H n => qJ rs G k R' H n)) := hx'
                rw [EC] at hx4
                obtain ⟨hf', hcall⟩ := hx4
                have hf2 : f' = af.dg := Nat.eq_of_beq_eq_true hf'
                have hget : ∃ af', T.get F af.dg = some af' := by
                  cases fuel with
                  | zero => exact (show False from hcall).elim
                  | succ m =>
                    have : Es (T.get F f') fun af => fF af G (run F G lf m) lf (cat fa ca) H' n' (fun _ H n => JR af.dg l (run F G lf (m + 1)) H n (fun H n => qJ rs G k R' H n)) ∨ True := by
                      have h5 : Es (T.get F f') fun af1 => fF af1 G (run F G lf m) lf (cat fa ca) H' n' (fun _ H n => JR af.dg l (run F G lf (m + 1)) H n (fun H n => qJ rs G k R' H n)) := hcall
                      rw [Gv] at h5 ⊢
                      obtain ⟨x, hx, _⟩ := h5
                      exact ⟨x, hx, .inr trivial⟩
                    rw [Gv] at this
                    obtain ⟨x, hx, _⟩ := this
                    exact ⟨x, by rw [<- hf2]; exact hx⟩
                obtain ⟨af', haf2⟩ := hget
                have hno := hF.dgs f af af' haf (by rw [hdp]; simp) haf2
                refine AAu (ihd af.dg af' haf2 hno) (fun va H n k h => (ihc af.dg va H n k h).1) _ (.fn f' fa ca :: l) a'.defers ρ' H' n' w' ?_ hh' hgu' hx' hlast
                have := hr'.dfs
                simp only [if_true] at this
                rw [hl] at this
                exact this
            refine ⟨?_, fun hno => by rw [hdp] at hno; cases hno⟩
            refine fQ hF.mixed ihc hg c ac hac _ _ _ _ _ _ _ _ _ ?_ ?_ ?_ hex hstart
            · intro R' H' n' a' w' hx hf; exact hend R' H' n' a' w' hx hf
            · intro i R' H' n' a' w' hx hf; exact (show False from hx).elim
            · intro R' H' n' a' w' hx hf; exact hend R' H' n' a' w' hx hf
        · cases htr
      · cases htr
    refine ⟨?_, ?_⟩
    · intro f vargs H n k h
      obtain ⟨hfn, af, fn, c, haf, hf, hb, hwp⟩ := main f vargs H n k h
      refine ⟨hfn, fun ρ w args hh hrel => ?_⟩
      exact calls_of_wp_defers hf hb (hwp ρ w args hh hrel).1
    · intro f af haf hno vargs H n k h ρ w args hh hrel
      obtain ⟨hfn, af2, fn, c, haf2, hf, hb, hwp⟩ := main f vargs H n k h
      have : af2 = af := Option.some.inj (haf2.symm.trans haf)
      subst this
      exact callsD_of_wp hf hb ((hwp ρ w args hh hrel).2 hno)
end
end Go.Eng
namespace Go.Eng
variable {S S' : Type}
def Sz (t : (S -> Prop) -> Prop) : Prop := ∃ o : Option S, ∀ k, t k ↔ ∃ s, o = some s /\ k s
theorem Gw (s : S) : Sz (fun k : S -> Prop => k s) := ⟨some s, fun k => by simp⟩
theorem Js : Sz (fun _ : S -> Prop => False) := ⟨none, fun k => by simp⟩
theorem J7 {α : Type} (o : Option α) {f : α -> (S -> Prop) -> Prop} (h : ∀ x, Sz (f x)) : Sz (fun k => Es o fun x => f x k) := by
 cases o with
 | none => exact Js
 | some x => exact h x
theorem zM (o : Option V) {f : V -> (S -> Prop) -> Prop} (h : ∀ x, Sz (f x)) : Sz (fun k => AU o fun x => f x k) := by
 cases o with
 | none => exact Js
 | some x => exact h x
theorem I4 (b : Bool) {t : (S -> Prop) -> Prop} (h : Sz t) : Sz (fun k => Fa b (t k)) := by
 cases b with
 | false => exact Js
 | true => exact h
theorem WI (n : Nat) {f : Nat -> (S -> Prop) -> Prop} (h : ∀ x, Sz (f x)) : Sz (fun k => Cj n fun n => f n k) := by
 have := h n
 have e : (fun k : S -> Prop => Cj n fun n => f n k) = f n := by funext k; rw [BL]
 rw [e]; exact this
theorem AIJ (v : V) (b : Bool) {y m : (S -> Prop) -> Prop} (hy : Sz y) (hm : Sz m) : Sz (fun k => Ac v b (y k) (m k)) := by
 cases v <;> try exact Js
 rename_i t
 cases t <;> cases b <;> first | exact hy | exact hm
theorem ADP (v : V) (b : Bool) {y m : (S -> Prop) -> Prop} (hy : Sz y) (hm : Sz m) : Sz (fun k => Wq v b (y k) (m k)) := by
 cases v <;> try exact Js
 ·rename_i t
  cases t <;> cases b <;> first | exact hy | exact hm
 ·rename_i l
  cases l
  ·exact hm
  ·exact Js
theorem ADF (v : V) {f : Nat -> LV -> LV -> (S -> Prop) -> Prop} (h : ∀ g a c, Sz (f g a c)) : Sz (fun k => V.Qo v fun g a c => f g a c k) := by
 cases v <;> try exact Js
 exact h _ _ _
theorem Lm {t : (S -> Prop) -> Prop} {u : S -> (S' -> Prop) -> Prop} (ht : Sz t) (hu : ∀ s, Sz (u s)) : Sz (fun k => t fun s => u s k) := by
 obtain ⟨o, ho⟩ := ht
 cases o with
 | none => exact ⟨none, fun k => by show t (fun s => u s k) ↔ _; rw [ho]; simp⟩
 | some s =>
  obtain ⟨o', ho'⟩ := hu s
  exact ⟨o', fun k => by show t (fun s => u s k) ↔ _; rw [ho]; simp [ho']⟩
theorem Sz.mono {t : (S -> Prop) -> Prop} (h : Sz t) {k k' : S -> Prop} (hk : ∀ s, k s -> k' s) (ht : t k) : t k' := by
 obtain ⟨o, ho⟩ := h
 obtain ⟨s, hs, h1⟩ := (ho k).1 ht
 exact (ho k').2 ⟨s, hs, hk s h1⟩
theorem Sz.at {t : (S -> Prop) -> Prop} (h : Sz t) {k : S -> Prop} (ht : t k) : ∃ s, k s /\ ∀ k', k' s -> t k' := by
 obtain ⟨o, ho⟩ := h
 obtain ⟨s, hs, h1⟩ := (ho k).1 ht
 exact ⟨s, h1, fun k' hk' => (ho k').2 ⟨s, hs, hk'⟩⟩
abbrev St := V × Heap × Nat
def D3 (t : KV -> Prop) : Prop := Sz fun k : St -> Prop => t fun v H n => k (v, H, n)
theorem QE (v : V) (H : Heap) (n : Nat) : D3 fun k => k v H n := Gw (S := St) (v, H, n)
def Bo (call : AQ) : Prop := ∀ f a H n, D3 (call f a H n)
theorem iM (esz bs : Nat) (OS LS : Dk) (H : Heap) (n : Nat) : D3 (La esz bs OS LS H n) := WI _ fun _ => I4 _ (WI _ fun _ => QE _ _ _)
theorem ABE (id off ln esz bs : Nat) (LS : Dk) (H : Heap) (n : Nat) (b : Np) : D3 fun k => WA id off ln esz bs LS H n k b := by
 cases b with
 | arr e' cnt c =>
  cases off with
  | zero =>
   have e : ∀ k, WA id 0 ln esz bs LS H n k (.arr e' cnt c) = Fa (band (ML (Nat.add ln (len LS)) bs) (band (Nat.beq esz e') (Nat.ble (Nat.add 0 ln) cnt))) (k (.NW n 0 (Nat.add ln (len LS)) esz) (T.set (T.set H id .dead) n (.arr esz (Nat.add ln (len LS)) (ED LS ln c))) (Nat.succ n)) := by
    intro k
    show Cj _ _ = _
    simp only [BL]
    try rfl
   simp only [e]
   exact I4 _ (QE _ _ _)
  | succ off =>
   have e : ∀ k, WA id (off + 1) ln esz bs LS H n k (.arr e' cnt c) = Fa (band (ML (Nat.add ln (len LS)) bs) (band (Nat.beq esz e') (Nat.ble (Nat.add (off + 1) ln) cnt))) (Es (CV H id esz ln (off + 1)) fun OS => k (.NW n 0 (Nat.add ln (len LS)) esz) (T.set (T.set H id .dead) n (.arr esz (Nat.add ln (len LS)) (ED LS ln (ED OS 0 .e)))) (Nat.succ n)) := by
    intro k
    show Cj _ _ = _
    simp only [BL]
    try rfl
   simp only [e]
   exact I4 _ (J7 _ fun _ => QE _ _ _)
 | map => exact Js
 | dead => exact Js
theorem AHN (v : V) (G : AP) (esz bs : Nat) (LS : Dk) (H : Heap) (n : Nat) : D3 (ABr v G esz bs LS H n) := by
 cases v <;> try exact Js
 case Ag =>
  cases LS with
  | nil => exact QE _ _ _
  | cons x xs => exact (show D3 (fun k => La esz bs [] (x :: xs) H n k) from iM esz bs [] (x :: xs) H n)
 case sl id off ln cap e =>
  refine I4 _ (WI _ fun need => ?_)
  cases h : Nat.ble need cap with
  | false => exact J7 _ fun _ => iM _ _ _ _ _ _
  | true =>
   refine J7 _ fun b => ?_
   cases b with
   | arr e' cnt c => exact I4 _ (QE _ _ _)
   | map => exact Js
   | dead => exact Js
 case NW id off ln e =>
  refine I4 _ ?_
  cases LS with
  | nil => exact QE _ _ _
  | cons =>
   exact J7 _ fun b => ABE _ _ _ _ _ _ _ _ b
 case rsl => exact I4 _ (J7 _ fun _ => iM _ _ _ _ _ _)
theorem AEm (v : V) (esz : Nat) (LS : Dk) (H : Heap) (n : Nat) : D3 (xR v esz LS H n) := by
 have hto : ∀ a b c, D3 (uH a b c esz LS H n) := fun a b c => by
  refine J7 _ fun b => ?_
  cases b with
  | arr e' cnt c => exact I4 _ (WI _ fun _ => QE _ _ _)
  | map => exact Js
  | dead => exact Js
 cases v <;> try exact Js
 case Ag => exact QE _ _ _
 case sl => exact I4 _ (hto _ _ _)
 case NW => exact I4 _ (hto _ _ _)
theorem vI (m : V) (H : Heap) (f : ME -> Nat -> Option Np) (v : V) (n : Nat) : D3 fun k => qK m H f fun H => k v H n := by
 cases m <;> try exact Js
 exact J7 _ fun _ => J7 _ fun _ => QE _ _ _
theorem AAs (v : V) {f : Nat -> Nat -> (S -> Prop) -> Prop} (h : ∀ a b, Sz (f a b)) : Sz (fun k => V.kS v fun a b => f a b k) := by
 cases v <;> try exact Js
 exact h _ _
theorem sK (v : V) {f : Nat -> (S -> Prop) -> Prop} (h : ∀ a, Sz (f a)) : Sz (fun k => V.AF9 v fun a => f a k) := by
 cases v <;> try exact Js
 exact h _
theorem AB5 {call : AQ} (hc : Bo call) (o : AE) (G : AP) (E : RS) (H : Heap) (n : Nat) : D3 (o.ex G call E H n) := by
 cases o with
 | asg x => exact QE _ _ _
 | st sz x v => exact I4 _ (J7 _ fun _ => QE _ _ _)
 | app esz bs x y => exact J7 _ fun _ => AHN _ _ _ _ _ _ _
 | copy esz x y => exact J7 _ fun _ => AEm _ _ _ _ _
 | yF c m k v => exact vI _ _ _ _ _
 | del c m k => exact vI _ _ _ _ _
 | AK8 m => exact vI _ _ _ _ _
 | call f a => exact hc _ _ _ _
 | ABT x a => exact ADF _ fun _ _ _ => hc _ _ _ _
 | defer dp x a => exact ADF _ fun _ _ _ => QE _ _ _
 | cvB x => exact J7 _ fun _ => AAs _ fun _ _ => WI _ fun _ => QE _ _ _
abbrev Sa := Np × (Nat -> V)
def DA (t : KA -> Prop) : Prop := Sz fun k : Sa -> Prop => t fun b f => k (b, f)
theorem uK (b : Np) (f : Nat -> V) : DA fun k => k b f := Gw (S := Sa) (b, f)
theorem AHA (o : AA) (E : RS) : DA (o.al E) := by
 cases o with
 | alloc e es => exact WI _ fun _ => uK _ _
 | box x => exact I4 _ (WI _ fun _ => uK _ _)
 | sN => exact I4 _ (uK _ _)
 | jv => exact J7 _ fun _ => sK _ fun _ => J7 _ fun _ => sK _ fun _ => I4 _ (uK _ _)
 | ADv => exact uK _ _
abbrev Se := RS × Heap × Nat
def DE (t : KE -> Prop) : Prop := Sz fun k : Se -> Prop => t fun E H n => k (E, H, n)
theorem zi (E : RS) (H : Heap) (n : Nat) : DE fun k => k E H n := Gw (S := Se) (E, H, n)
theorem ACR {call : AQ} (hc : Bo call) (o : AO) (G : AP) (d : Zf) (E : RS) (H : Heap) (n : Nat) : DE (o.ex G call d E H n) := by
 cases o with
 | n o => exact zM _ fun _ => zi _ _ _
 | a o => exact Lm (u := fun s k => Cj n fun n => k (ER d (s.2 n) E, T.set H n s.1, Nat.succ n)) (AHA o E) fun s => WI _ fun _ => Gw _
 | e o => exact Lm (u := fun s k => k (ER d s.1 E, s.2.1, s.2.2)) (AB5 hc o G E H n) fun s => Gw _
theorem AAI {call : AQ} (hc : Bo call) (o : iZ) (G : AP) (E : RS) (H : Heap) (n : Nat) : DE (o.ex G call E H n) := by
 obtain ⟨d, g, o⟩ := o
 cases g with
 | no => exact ACR hc o G d E H n
 | on x b => exact ADP _ _ (ACR hc o G d E H n) (zi _ _ _)
theorem AMH (g : Gd) (G : AP) (E : RS) (H : Heap) (d : P2) (o : AN) {t : (S -> Prop) -> Prop} (h : Sz t) : Sz fun k => AM5 g G E H d o (t k) := by
 cases g with
 | no => exact zM _ fun _ => I4 _ h
 | on x b => exact ADP _ _ (zM _ fun _ => I4 _ h) h
theorem ACA {call : AQ} (hc : Bo call) (i : AI) (G : AP) (E : RS) (H : Heap) (n : Nat) : DE (i.ex G call E H n) := by
 cases i with
 | op o => exact AAI hc o G E H n
 | re d g o => exact AMH g G E H d o (Gw _)
theorem yj {call : AQ} (hc : Bo call) (G : AP) : ∀ (l : List iZ) (E : RS) (H : Heap) (n : Nat), DE (BX l G call E H n)
 | [], E, H, n => zi _ _ _
 | o :: l, E, H, n => Lm (u := fun (s : Se) (k : Se -> Prop) => BX l G call s.1 s.2.1 s.2.2 fun E H n => k (E, H, n)) (AAI hc o G E H n) fun s => yj hc G l s.1 s.2.1 s.2.2
theorem nX {call : AQ} (hc : Bo call) (G : AP) : ∀ (l : List AI) (E : RS) (H : Heap) (n : Nat), DE (AY l G call E H n)
 | [], E, H, n => zi _ _ _
 | o :: l, E, H, n => Lm (u := fun (s : Se) (k : Se -> Prop) => AY l G call s.1 s.2.1 s.2.2 fun E H n => k (E, H, n)) (ACA hc o G E H n) fun s => nX hc G l s.1 s.2.1 s.2.2
inductive Out where
 | nrm (R : FM) (H : Heap) (n : Nat) | ext (i : Nat) (R : FM) (H : Heap) (n : Nat) | ret (R : FM) (H : Heap) (n : Nat)
def Out.on (k : K) (x : KX) (r : K) : Out -> Prop
 | .nrm R H n => k R H n | .ext i R H n => x i R H n | .ret R H n => r R H n
def DC (t : K -> KX -> K -> Prop) : Prop := Sz fun p : Out -> Prop => t (fun R H n => p (.nrm R H n)) (fun i R H n => p (.ext i R H n)) (fun R H n => p (.ret R H n))
theorem DC.mono {t : K -> KX -> K -> Prop} (h : DC t) {k k' : K} {x x' : KX} {r r' : K} (hk : ∀ R H n, k R H n -> k' R H n) (hx : ∀ i R H n, x i R H n -> x' i R H n) (hr : ∀ R H n, r R H n -> r' R H n) (ht : t k x r) : t k' x' r' :=
 Sz.mono h (k := Out.on k x r) (k' := Out.on k' x' r') (fun s => by cases s; exact hk _ _ _; exact hx _ _ _ _; exact hr _ _ _) ht
theorem DC.at {t : K -> KX -> K -> Prop} (h : DC t) {k : K} {x : KX} {r : K} (ht : t k x r) : ∃ s, Out.on k x r s /\ ∀ k' x' r', Out.on k' x' r' s -> t k' x' r' := by
 obtain ⟨s, hs, hall⟩ := Sz.at h (k := Out.on k x r) ht
 exact ⟨s, hs, fun k' x' r' hk => hall (Out.on k' x' r') hk⟩
theorem vw {a : M} {G : AP} {call : AQ} {lf0 : Nat} (ha : ∀ R H n, DC (a G call lf0 R H n)) : ∀ (m : Nat) (R : FM) (H : Heap) (n : Nat), DC fun _ x r => TU a G call lf0 m R H n x r
  | 0, _, _, _ => Js
  | m + 1, R, H, n => Lm (u := fun (s : Out) (p : Out -> Prop) => match s with
      | .nrm R H n => TU a G call lf0 m R H n (fun i R H n => p (.ext i R H n)) (fun R H n => p (.ret R H n))
      | .ext i R H n => p (.ext i R H n)
      | .ret R H n => p (.ret R H n)) (ha R H n) fun s => by
        cases s with
        | nrm R H n => exact vw ha m R H n
        | ext i R H n => exact Gw _
        | ret R H n => exact Gw _
theorem VW {call : AQ} (hc : Bo call) (G : AP) (lf : Nat) : ∀ (c : AC) (R : FM) (H : Heap) (n : Nat), DC (c.ex G call lf R H n)
  | .skip, R, H, n => Gw (Out.nrm R H n)
  | .ops l, R, H, n => Lm (u := fun (s : Se) (p : Out -> Prop) => p (.nrm s.1.rg s.2.1 s.2.2)) (yj hc G l (.mk [] R) H n) fun s => Gw _
  | .reg l, R, H, n => Lm (u := fun (s : Se) (p : Out -> Prop) => p (.nrm s.1.rg s.2.1 s.2.2)) (nX hc G l (.mk [] R) H n) fun s => Gw _
  | .seq a b, R, H, n => Lm (u := fun (s : Out) (p : Out -> Prop) => match s with
      | .nrm R H n => b.ex G call lf R H n (fun R H n => p (.nrm R H n)) (fun i R H n => p (.ext i R H n)) (fun R H n => p (.ret R H n))
      | .ext i R H n => p (.ext i R H n)
      | .ret R H n => p (.ret R H n)) (VW hc G lf a R H n) fun s => by
        cases s with
        | nrm R H n => exact VW hc G lf b R H n
        | ext i R H n => exact Gw _
        | ret R H n => exact Gw _
  | .cond x a b, R, H, n => AIJ _ _ (VW hc G lf a R H n) (VW hc G lf b R H n)
  | .block id a, R, H, n => Lm (u := fun (s : Out) (p : Out -> Prop) => match s with
      | .nrm R H n => p (.nrm R H n)
      | .ext i R H n => Du id (fun R H n => p (.nrm R H n)) (fun i R H n => p (.ext i R H n)) i R H n
      | .ret R H n => p (.ret R H n)) (VW hc G lf a R H n) fun s => by
        cases s with
        | nrm R H n => exact Gw _
        | ext i R H n =>
          cases hb : Nat.beq i id with
          | true =>
            have e : (fun p : Out -> Prop => Du id (fun R H n => p (.nrm R H n)) (fun i R H n => p (.ext i R H n)) i R H n) = fun p => p (.nrm R H n) := by
              funext p; unfold Du; rw [hb]
            simp only [e]; exact Gw _
          | false =>
            have e : (fun p : Out -> Prop => Du id (fun R H n => p (.nrm R H n)) (fun i R H n => p (.ext i R H n)) i R H n) = fun p => p (.ext i R H n) := by
              funext p; unfold Du; rw [hb]
            simp only [e]; exact Gw _
        | ret R H n => exact Gw _
  | .loop a, R, H, n => vw (fun R H n => VW hc G lf a R H n) lf R H n
  | .exit id, R, H, n => Gw (Out.ext id R H n)
  | .ret, R, H, n => Gw (Out.ret R H n)
theorem nG {call : AQ} (hc : Bo call) (dg : Nat) : ∀ (l : List V) (H : Heap) (n : Nat), Sz fun p : Heap × Nat -> Prop => JR dg l call H n fun H n => p (H, n)
 | [], H, n => Gw (H, n)
 | v :: l, H, n => ADF v fun f a c => I4 _ (Lm (u := fun (s : St) (p : Heap × Nat -> Prop) => JR dg l call s.2.1 s.2.2 fun H n => p (H, n)) (hc _ _ _ _) fun s => nG hc dg l _ _)
theorem sS (res : List AR) (G : AP) (R : FM) (H : Heap) (n : Nat) : D3 fun k => qJ res G k R H n := J7 _ fun _ => QE _ _ _
theorem wF {call : AQ} (hc : Bo call) (res : List AR) (dg : Nat) (d : Zf) (G : AP) (R : FM) (H : Heap) (n : Nat) : D3 fun k => Fh res dg d G call k R H n := by
 cases d with
 | no => exact sS res G R H n
 | to p => exact Lm (u := fun (s : Heap × Nat) (k : St -> Prop) => qJ res G (fun v H n => k (v, H, n)) R s.1 s.2) (nG hc dg _ H n) fun s => sS res G R _ _
 | ps => exact sS res G R H n
theorem AFN {call : AQ} (hc : Bo call) (G : AP) (lf : Nat) (f : AF) (args : List V) (H : Heap) (n : Nat) : D3 (fF f G call lf args H n) := by
 obtain ⟨np, code, res, d, dg⟩ := f
 refine I4 _ (Lm (u := fun (s : Out) (k : St -> Prop) => match s with
  | .nrm R H n => Fh res dg d G call (fun v H n => k (v, H, n)) R H n
  | .ext _ _ _ _ => False
  | .ret R H n => Fh res dg d G call (fun v H n => k (v, H, n)) R H n) (VW hc G lf code _ H n) fun s => ?_)
 cases s with
 | nrm R H n => exact wF hc res dg d G R H n
 | ext i R H n => exact Js
 | ret R H n => exact wF hc res dg d G R H n
theorem Qe (F : T AF) (G : AP) (lf : Nat) : ∀ fuel, Bo (run F G lf fuel)
 | 0 => fun _ _ _ _ => Js
 | m + 1 => fun f a H n => J7 _ fun af => AFN (Qe F G lf m) G lf af a H n
def EH (call call' : AQ) : Prop := ∀ f a H n k, call f a H n k -> call' f a H n k
section
variable {call call' : AQ}
theorem AKV (hle : EH call call') (o : AE) (G : AP) (E : RS) (H : Heap) (n : Nat) (k : KV) (h : o.ex G call E H n k) : o.ex G call' E H n k := by
 cases o with
 | call f a => exact hle _ _ _ _ _ h
 | ABT x a =>
  have h' : V.Qo (x.ev E) (fun f a' c => call f (cat a' (cat (Qm a E) c)) H n k) := h
  show V.Qo (x.ev E) (fun f a' c => call' f (cat a' (cat (Qm a E) c)) H n k)
  rw [Pn] at h' ⊢
  obtain ⟨g, fa, ca, he, h'⟩ := h'
  exact ⟨g, fa, ca, he, hle _ _ _ _ _ h'⟩
 | _ => exact h
theorem AKh (hle : EH call call') (o : AO) (G : AP) (d : Zf) (E : RS) (H : Heap) (n : Nat) (k : KE) (h : o.ex G call d E H n k) : o.ex G call' d E H n k := by
 cases o with
 | n o => exact h
 | a o => exact h
 | e o => exact AKV hle o G E H n _ h
theorem AFU (hle : EH call call') (o : iZ) (G : AP) (E : RS) (H : Heap) (n : Nat) (k : KE) (h : o.ex G call E H n k) : o.ex G call' E H n k := by
 obtain ⟨d, g, o⟩ := o
 cases g with
 | no => exact AKh hle o G d E H n k h
 | on x b =>
  have h' : Wq (x.ev E) b (o.ex G call d E H n k) (k (ER d (.GK []) E) H n) := h
  show Wq (x.ev E) b (o.ex G call' d E H n k) (k (ER d (.GK []) E) H n)
  rw [Qd] at h' ⊢
  obtain ⟨t, ht, h'⟩ := h'
  refine ⟨t, ht, ?_⟩
  split
  ·rename_i e; rw [if_pos e] at h'; exact AKh hle o G d E H n k h'
  ·rename_i e; rw [if_neg e] at h'; exact h'
theorem AOn (hle : EH call call') (i : AI) (G : AP) (E : RS) (H : Heap) (n : Nat) (k : KE) (h : i.ex G call E H n k) : i.ex G call' E H n k := by
 cases i with
 | op o => exact AFU hle o G E H n k h
 | re d g o => exact h
theorem ACi (hd : Bo call') (hle : EH call call') (G : AP) : ∀ (l : List iZ) (E : RS) (H : Heap) (n : Nat) (k : KE), BX l G call E H n k -> BX l G call' E H n k
 | [], _, _, _, _, h => h
 | o :: l, E, H, n, k, h =>
  Sz.mono (AAI hd o G E H n) (k := fun s => BX l G call s.1 s.2.1 s.2.2 k) (k' := fun s => BX l G call' s.1 s.2.1 s.2.2 k) (fun s hs => ACi hd hle G l _ _ _ _ hs)
   (AFU hle o G E H n (fun E H n => BX l G call E H n k) h)
theorem rC (hd : Bo call') (hle : EH call call') (G : AP) : ∀ (l : List AI) (E : RS) (H : Heap) (n : Nat) (k : KE), AY l G call E H n k -> AY l G call' E H n k
 | [], _, _, _, _, h => h
 | o :: l, E, H, n, k, h =>
  Sz.mono (ACA hd o G E H n) (k := fun s => AY l G call s.1 s.2.1 s.2.2 k) (k' := fun s => AY l G call' s.1 s.2.1 s.2.2 k) (fun s hs => rC hd hle G l _ _ _ _ hs)
   (AOn hle o G E H n (fun E H n => AY l G call E H n k) h)
theorem ABv {a : M} {G : AP} {lf0 lf0' : Nat} (hd : ∀ R H n, DC (a G call' lf0' R H n)) (ha : ∀ R H n k x r, a G call lf0 R H n k x r -> a G call' lf0' R H n k x r) :
    ∀ (m m' : Nat), m <= m' -> ∀ (R : FM) (H : Heap) (n : Nat) (x : KX) (r : K), TU a G call lf0 m R H n x r -> TU a G call' lf0' m' R H n x r
  | 0, _, _, _, _, _, _, _, h => (show False from h).elim
  | m + 1, 0, hm, _, _, _, _, _, _ => by omega
  | m + 1, m' + 1, hm, R, H, n, x, r, h =>
    DC.mono (hd R H n) (fun R H n hk => ABv hd ha m m' (by omega) R H n x r hk) (fun _ _ _ _ hx => hx) (fun _ _ _ hr => hr) (ha R H n _ x r h)
theorem pW (hd : Bo call') (hle : EH call call') (G : AP) {lf lf' : Nat} (hlf : lf <= lf') : ∀ (c : AC) (R : FM) (H : Heap) (n : Nat) (k : K) (x : KX) (r : K), c.ex G call lf R H n k x r -> c.ex G call' lf' R H n k x r
 | .skip, _, _, _, _, _, _, h => h
 | .ops l, R, H, n, k, _, _, h => ACi hd hle G l (.mk [] R) H n (fun E H n => k E.rg H n) h
 | .reg l, R, H, n, k, _, _, h => rC hd hle G l (.mk [] R) H n (fun E H n => k E.rg H n) h
 | .seq a b, R, H, n, k, x, r, h =>
  DC.mono (VW hd G lf' a R H n) (fun R H n hk => pW hd hle G hlf b R H n k x r hk) (fun _ _ _ _ hx => hx) (fun _ _ _ hr => hr) (pW hd hle G hlf a R H n _ x r h)
 | .cond c a b, R, H, n, k, x, r, h => by
  have h' : Ac (c.ev (.mk [] R)) true (a.ex G call lf R H n k x r) (b.ex G call lf R H n k x r) := h
  show Ac (c.ev (.mk [] R)) true (a.ex G call' lf' R H n k x r) (b.ex G call' lf' R H n k x r)
  rw [Rl] at h' ⊢
  obtain ⟨t, ht, h'⟩ := h'
  refine ⟨t, ht, ?_⟩
  split
  ·rename_i e; rw [if_pos e] at h'; exact pW hd hle G hlf a R H n k x r h'
  ·rename_i e; rw [if_neg e] at h'; exact pW hd hle G hlf b R H n k x r h'
 | .block id a, R, H, n, k, x, r, h => pW hd hle G hlf a R H n k (Du id k x) r h
 | .loop a, R, H, n, k, x, r, h => ABv (fun R H n => VW hd G lf' a R H n) (fun R H n k x r h => pW hd hle G hlf a R H n k x r h) lf lf' hlf R H n x r h
 | .exit _, _, _, _, _, _, _, h => h
 | .ret, _, _, _, _, _, _, h => h
theorem sU (hd : Bo call') (hle : EH call call') (dg : Nat) : ∀ (l : List V) (H : Heap) (n : Nat) (k : Heap -> Nat -> Prop), JR dg l call H n k -> JR dg l call' H n k
 | [], _, _, _, h => h
 | v :: l, H, n, k, h => by
  have h' : V.Qo v (fun f a c => Fa (Nat.beq f dg) (call f (cat a c) H n fun _ H n => JR dg l call H n k)) := h
  show V.Qo v (fun f a c => Fa (Nat.beq f dg) (call' f (cat a c) H n fun _ H n => JR dg l call' H n k))
  rw [Pn] at h' ⊢
  obtain ⟨g, fa, ca, he, h'⟩ := h'
  rw [EC] at h'
  refine ⟨g, fa, ca, he, (EC _ _).2 ⟨h'.1, ?_⟩⟩
  exact Sz.mono (hd g (cat fa ca) H n) (k := fun s => JR dg l call s.2.1 s.2.2 k) (k' := fun s => JR dg l call' s.2.1 s.2.2 k) (fun s hs => sU hd hle dg l _ _ _ hs) (hle _ _ _ _ _ h'.2)
theorem X7 (hd : Bo call') (hle : EH call call') (res : List AR) (dg : Nat) (d : Zf) (G : AP) (k : KV) (R : FM) (H : Heap) (n : Nat) (h : Fh res dg d G call k R H n) : Fh res dg d G call' k R H n := by
 cases d with
 | no => exact h
 | to p => exact sU hd hle dg _ H n _ h
 | ps => exact h
theorem AGR (hd : Bo call') (hle : EH call call') (G : AP) {lf lf' : Nat} (hlf : lf <= lf') (f : AF) (args : List V) (H : Heap) (n : Nat) (k : KV) (h : fF f G call lf args H n k) : fF f G call' lf' args H n k := by
 obtain ⟨np, code, res, d, dg⟩ := f
 have h' : Fa (Nat.beq (len args) np) (code.ex G call lf (WQ args 0 .e) H n (Fh res dg d G call k) noX (Fh res dg d G call k)) := h
 show Fa (Nat.beq (len args) np) (code.ex G call' lf' (WQ args 0 .e) H n (Fh res dg d G call' k) noX (Fh res dg d G call' k))
 rw [EC] at h' ⊢
 refine ⟨h'.1, ?_⟩
 exact DC.mono (VW hd G lf' code _ H n) (fun R H n hk => X7 hd hle res dg d G k R H n hk) (fun _ _ _ _ hx => hx) (fun R H n hk => X7 hd hle res dg d G k R H n hk) (pW hd hle G hlf code _ H n _ _ _ h'.2)
end
theorem vJ (F : T AF) (G : AP) {lf lf' : Nat} (hlf : lf <= lf') : ∀ (m m' : Nat), m <= m' -> EH (run F G lf m) (run F G lf' m')
 | 0, _, _, _, _, _, _, _, h => (show False from h).elim
 | m + 1, 0, hm, _, _, _, _, _, _ => by omega
 | m + 1, m' + 1, hm, f, a, H, n, k, h => by
  have h' : Es (T.get F f) fun af => fF af G (run F G lf m) lf a H n k := h
  show Es (T.get F f) fun af => fF af G (run F G lf' m') lf' a H n k
  rw [Gv] at h' ⊢
  obtain ⟨af, haf, h'⟩ := h'
  exact ⟨af, haf, AGR (Qe F G lf' m') (vJ F G hlf m m' (by omega)) G hlf af a H n k h'⟩
def Runs (F : T AF) (G : AP) : AQ := fun f a H n k => ∃ N, run F G N N f a H n k
theorem dV {F : T AF} {G : AP} {f : Nat} {a : List V} {H : Heap} {n : Nat} {k k' : KV} (hk : ∀ v H n, k v H n -> k' v H n) (h : Runs F G f a H n k) : Runs F G f a H n k' := by
 obtain ⟨N, h⟩ := h
 exact ⟨N, Sz.mono (Qe F G N N f a H n) (k := fun s => k s.1 s.2.1 s.2.2) (k' := fun s => k' s.1 s.2.1 s.2.2) (fun s hs => hk _ _ _ hs) h⟩
theorem VU (F : T AF) (G : AP) : Bo (Runs F G) := fun f a H n => by
 by_cases h : ∃ N s, ∀ k : St -> Prop, k s -> run F G N N f a H n fun v H n => k (v, H, n)
 ·obtain ⟨N, s, hs⟩ := h
  refine ⟨some s, fun k => ⟨fun ⟨N', h'⟩ => ?_, fun ⟨s', e, hk⟩ => ?_⟩⟩
  ·obtain ⟨s', hk', hall⟩ := Sz.at (Qe F G N' N' f a H n) h'
   have h1 := vJ F G (Nat.le_max_left N N') N (max N N') (Nat.le_max_left _ _) f a H n _ (hs (fun q => q = s) rfl)
   have h2 := vJ F G (Nat.le_max_right N N') N' (max N N') (Nat.le_max_right _ _) f a H n _ (hall (fun q => q = s') rfl)
   obtain ⟨o, ho⟩ := Qe F G (max N N') (max N N') f a H n
   obtain ⟨q, hq, e1⟩ := (ho fun q => q = s).1 h1
   obtain ⟨q', hq', e2⟩ := (ho fun q => q = s').1 h2
   have : q = q' := by rw [hq] at hq'; exact Option.some.inj hq'
   refine ⟨s, rfl, ?_⟩
   have e3 : s = s' := by rw [<- e1, <- e2]; exact this
   rw [e3]; exact hk'
  ·cases e
   exact ⟨N, hs k hk⟩
 ·refine ⟨none, fun k => ⟨fun ⟨N', h'⟩ => ?_, fun ⟨s', e, hk⟩ => by cases e⟩⟩
  obtain ⟨s', hk', hall⟩ := Sz.at (Qe F G N' N' f a H n) h'
  exact absurd ⟨N', s', fun k hk => hall k hk⟩ h
noncomputable def AEM (a : M) (G : AP) (call : AQ) : FM -> Heap -> Nat -> KX -> K -> Prop := fun R H n x r => ∀ I : K, (∀ R H n, a G call 0 R H n I x r -> I R H n) -> I R H n
noncomputable def zH (_ : AC) (a : M) : M := fun G call _ R H n _ x r => AEM a G call R H n x r
noncomputable def AC.Rx (c : AC) : M := AC.rec (motive := fun _ => M) Bg AIT AIa AFo ABk uf zH AFa AMo c
noncomputable def mO (f : AF) : AP -> AQ -> List V -> Heap -> Nat -> KV -> Prop :=
 AF.rec (motive := fun _ => AP -> AQ -> List V -> Heap -> Nat -> KV -> Prop) (fun np code res d dg G call args H n k => Fa (Nat.beq (len args) np) (code.Rx G call 0 (WQ args 0 .e) H n (Fh res dg d G call k) noX (Fh res dg d G call k))) f
section
variable {F : T AF} {G : AP}
def Ev (p : Nat -> Prop) : Prop := ∃ N, ∀ M, N <= M -> p M
theorem Ev.ex {p : Nat -> Prop} (h : Ev p) : ∃ N, p N := let ⟨N, h⟩ := h; ⟨N, h N (Nat.le_refl _)⟩
theorem zW {f : Nat} {a : List V} {H : Heap} {n : Nat} {k : KV} (h : Runs F G f a H n k) : ∃ s : St, k s.1 s.2.1 s.2.2 /\ ∃ N, ∀ M, N <= M -> ∀ k' : KV, k' s.1 s.2.1 s.2.2 -> run F G M M f a H n k' := by
 obtain ⟨N, h⟩ := h
 obtain ⟨s, hs, hall⟩ := Sz.at (Qe F G N N f a H n) (k := fun s => k s.1 s.2.1 s.2.2) h
 exact ⟨s, hs, N, fun M hM k' hk' => vJ F G hM N M hM f a H n k' (hall (fun s => k' s.1 s.2.1 s.2.2) hk')⟩
theorem AOK (o : AE) (E : RS) (H : Heap) (n : Nat) (k : KV) (h : o.ex G (Runs F G) E H n k) : ∃ s : St, k s.1 s.2.1 s.2.2 /\ ∃ N, ∀ M, N <= M -> ∀ k' : KV, k' s.1 s.2.1 s.2.2 -> o.ex G (run F G M M) E H n k' := by
 cases o with
 | call f a => exact zW h
 | ABT x a =>
  have h' : V.Qo (x.ev E) (fun f a' c => Runs F G f (cat a' (cat (Qm a E) c)) H n k) := h
  rw [Pn] at h'
  obtain ⟨g, fa, ca, he, h'⟩ := h'
  obtain ⟨s, hs, N, hN⟩ := zW h'
  refine ⟨s, hs, N, fun M hM k' hk' => ?_⟩
  show V.Qo (x.ev E) (fun f a' c => run F G M M f (cat a' (cat (Qm a E) c)) H n k')
  rw [Pn]
  exact ⟨g, fa, ca, he, hN M hM k' hk'⟩
 | _ =>
  obtain ⟨s, hs, hall⟩ := Sz.at (AB5 (VU F G) _ G E H n) (k := fun s => k s.1 s.2.1 s.2.2) h
  exact ⟨s, hs, 0, fun M _ k' hk' => hall (fun s => k' s.1 s.2.1 s.2.2) hk'⟩
theorem AKY (o : AO) (d : Zf) (E : RS) (H : Heap) (n : Nat) (k : KE) (h : o.ex G (Runs F G) d E H n k) : ∃ s : Se, k s.1 s.2.1 s.2.2 /\ ∃ N, ∀ M, N <= M -> ∀ k' : KE, k' s.1 s.2.1 s.2.2 -> o.ex G (run F G M M) d E H n k' := by
 cases o with
 | e o =>
  obtain ⟨s, hs, N, hN⟩ := AOK o E H n _ h
  exact ⟨(ER d s.1 E, s.2.1, s.2.2), hs, N, fun M hM k' hk' => hN M hM (fun v H n => k' (ER d v E) H n) hk'⟩
 | _ =>
  obtain ⟨s, hs, hall⟩ := Sz.at (ACR (VU F G) _ G d E H n) (k := fun s => k s.1 s.2.1 s.2.2) h
  exact ⟨s, hs, 0, fun M _ k' hk' => hall (fun s => k' s.1 s.2.1 s.2.2) hk'⟩
theorem AFt (o : iZ) (E : RS) (H : Heap) (n : Nat) (k : KE) (h : o.ex G (Runs F G) E H n k) : ∃ s : Se, k s.1 s.2.1 s.2.2 /\ ∃ N, ∀ M, N <= M -> ∀ k' : KE, k' s.1 s.2.1 s.2.2 -> o.ex G (run F G M M) E H n k' := by
 obtain ⟨d, g, o⟩ := o
 cases g with
 | no => exact AKY o d E H n k h
 | on x b =>
  have h' : Wq (x.ev E) b (o.ex G (Runs F G) d E H n k) (k (ER d (.GK []) E) H n) := h
  rw [Qd] at h'
  obtain ⟨t, ht, h'⟩ := h'
  by_cases e : t = some b
  ·rw [if_pos e] at h'
   obtain ⟨s, hs, N, hN⟩ := AKY o d E H n k h'
   refine ⟨s, hs, N, fun M hM k' hk' => ?_⟩
   show Wq (x.ev E) b (o.ex G (run F G M M) d E H n k') (k' (ER d (.GK []) E) H n)
   rw [Qd]
   exact ⟨t, ht, by rw [if_pos e]; exact hN M hM k' hk'⟩
  ·rw [if_neg e] at h'
   refine ⟨(ER d (.GK []) E, H, n), h', 0, fun M _ k' hk' => ?_⟩
   show Wq (x.ev E) b (o.ex G (run F G M M) d E H n k') (k' (ER d (.GK []) E) H n)
   rw [Qd]
   exact ⟨t, ht, by rw [if_neg e]; exact hk'⟩
theorem AOV (i : AI) (E : RS) (H : Heap) (n : Nat) (k : KE) (h : i.ex G (Runs F G) E H n k) : ∃ s : Se, k s.1 s.2.1 s.2.2 /\ ∃ N, ∀ M, N <= M -> ∀ k' : KE, k' s.1 s.2.1 s.2.2 -> i.ex G (run F G M M) E H n k' := by
 cases i with
 | op o => exact AFt o E H n k h
 | re d g o =>
  obtain ⟨s, hs, hall⟩ := Sz.at (ACA (VU F G) (.re d g o) G E H n) (k := fun s => k s.1 s.2.1 s.2.2) h
  exact ⟨s, hs, 0, fun M _ k' hk' => hall (fun s => k' s.1 s.2.1 s.2.2) hk'⟩
theorem AGs : ∀ (l : List iZ) (E : RS) (H : Heap) (n : Nat) (k : KE), BX l G (Runs F G) E H n k -> ∃ s : Se, k s.1 s.2.1 s.2.2 /\ ∃ N, ∀ M, N <= M -> ∀ k' : KE, k' s.1 s.2.1 s.2.2 -> BX l G (run F G M M) E H n k'
 | [], E, H, n, k, h => ⟨(E, H, n), h, 0, fun M _ k' hk' => hk'⟩
 | o :: l, E, H, n, k, h => by
  obtain ⟨s, hs, N, hN⟩ := AFt o E H n (fun E H n => BX l G (Runs F G) E H n k) h
  obtain ⟨s', hs', N', hN'⟩ := AGs l _ _ _ k hs
  refine ⟨s', hs', max N N', fun M hM k' hk' => ?_⟩
  exact hN M (by omega) (fun E H n => BX l G (run F G M M) E H n k') (hN' M (by omega) k' hk')
theorem ABD : ∀ (l : List AI) (E : RS) (H : Heap) (n : Nat) (k : KE), AY l G (Runs F G) E H n k -> ∃ s : Se, k s.1 s.2.1 s.2.2 /\ ∃ N, ∀ M, N <= M -> ∀ k' : KE, k' s.1 s.2.1 s.2.2 -> AY l G (run F G M M) E H n k'
 | [], E, H, n, k, h => ⟨(E, H, n), h, 0, fun M _ k' hk' => hk'⟩
 | o :: l, E, H, n, k, h => by
  obtain ⟨s, hs, N, hN⟩ := AOV o E H n (fun E H n => AY l G (Runs F G) E H n k) h
  obtain ⟨s', hs', N', hN'⟩ := ABD l _ _ _ k hs
  refine ⟨s', hs', max N N', fun M hM k' hk' => ?_⟩
  exact hN M (by omega) (fun E H n => AY l G (run F G M M) E H n k') (hN' M (by omega) k' hk')
def APs (F : T AF) (G : AP) (c : AC) : Prop := ∀ (R : FM) (H : Heap) (n : Nat) (k : K) (x : KX) (r : K), c.Rx G (Runs F G) 0 R H n k x r ->
 ∃ s, Out.on k x r s /\ ∃ N, ∀ M, N <= M -> ∀ k' x' r', Out.on k' x' r' s -> c.ex G (run F G M M) M R H n k' x' r'
theorem AIK {a : AC} (ha : APs F G a) (R : FM) (H : Heap) (n : Nat) (x : KX) (r : K) (h : AEM a.Rx G (Runs F G) R H n x r) :
    ∃ s, Out.on (fun _ _ _ => False) x r s /\ ∃ N, ∀ M, N <= M -> ∀ j, N <= j -> ∀ x' r', Out.on (fun _ _ _ => False) x' r' s -> TU a.ex G (run F G M M) M j R H n x' r' := by
  refine h (fun R H n => ∃ s, Out.on (fun _ _ _ => False) x r s /\ ∃ N, ∀ M, N <= M -> ∀ j, N <= j -> ∀ x' r', Out.on (fun _ _ _ => False) x' r' s -> TU a.ex G (run F G M M) M j R H n x' r') ?_
  intro R H n hb
  obtain ⟨s, hs, N, hN⟩ := ha R H n _ x r hb
  cases s with
  | nrm R1 H1 n1 =>
    obtain ⟨s', hs', N', hN'⟩ := hs
    refine ⟨s', hs', max N N' + 1, fun M hM j hj x' r' ho => ?_⟩
    cases j with
    | zero => omega
    | succ j => exact hN M (by omega) (fun R H n => TU a.ex G (run F G M M) M j R H n x' r') x' r' (hN' M (by omega) j (by omega) x' r' ho)
  | ext i R1 H1 n1 =>
    refine ⟨.ext i R1 H1 n1, hs, N + 1, fun M hM j hj x' r' ho => ?_⟩
    cases j with
    | zero => omega
    | succ j => exact hN M (by omega) (fun R H n => TU a.ex G (run F G M M) M j R H n x' r') x' r' ho
  | ret R1 H1 n1 =>
    refine ⟨.ret R1 H1 n1, hs, N + 1, fun M hM j hj x' r' ho => ?_⟩
    cases j with
    | zero => omega
    | succ j => exact hN M (by omega) (fun R H n => TU a.ex G (run F G M M) M j R H n x' r') x' r' ho
theorem uP : ∀ c : AC, APs F G c
 | .skip => fun R H n k x r h => ⟨.nrm R H n, h, 0, fun M _ k' x' r' ho => ho⟩
 | .ops l => fun R H n k x r h => by
  obtain ⟨s, hs, N, hN⟩ := AGs l (.mk [] R) H n (fun E H n => k E.rg H n) h
  exact ⟨.nrm s.1.rg s.2.1 s.2.2, hs, N, fun M hM k' x' r' ho => hN M hM (fun E H n => k' E.rg H n) ho⟩
 | .reg l => fun R H n k x r h => by
  obtain ⟨s, hs, N, hN⟩ := ABD l (.mk [] R) H n (fun E H n => k E.rg H n) h
  exact ⟨.nrm s.1.rg s.2.1 s.2.2, hs, N, fun M hM k' x' r' ho => hN M hM (fun E H n => k' E.rg H n) ho⟩
 | .seq a b => fun R H n k x r h => by
  obtain ⟨s, hs, N, hN⟩ := uP a R H n (fun R H n => b.Rx G (Runs F G) 0 R H n k x r) x r h
  cases s with
  | nrm R1 H1 n1 =>
   obtain ⟨s', hs', N', hN'⟩ := uP b R1 H1 n1 k x r hs
   exact ⟨s', hs', max N N', fun M hM k' x' r' ho => hN M (by omega) (fun R H n => b.ex G (run F G M M) M R H n k' x' r') x' r' (hN' M (by omega) k' x' r' ho)⟩
  | ext i R1 H1 n1 => exact ⟨.ext i R1 H1 n1, hs, N, fun M hM k' x' r' ho => hN M hM (fun R H n => b.ex G (run F G M M) M R H n k' x' r') x' r' ho⟩
  | ret R1 H1 n1 => exact ⟨.ret R1 H1 n1, hs, N, fun M hM k' x' r' ho => hN M hM (fun R H n => b.ex G (run F G M M) M R H n k' x' r') x' r' ho⟩
 | .cond c a b => fun R H n k x r h => by
  have h' : Ac (c.ev (.mk [] R)) true (a.Rx G (Runs F G) 0 R H n k x r) (b.Rx G (Runs F G) 0 R H n k x r) := h
  rw [Rl] at h'
  obtain ⟨t, ht, h'⟩ := h'
  by_cases e : t = true
  ·rw [if_pos e] at h'
   obtain ⟨s, hs, N, hN⟩ := uP a R H n k x r h'
   refine ⟨s, hs, N, fun M hM k' x' r' ho => ?_⟩
   show Ac (c.ev (.mk [] R)) true (a.ex G (run F G M M) M R H n k' x' r') (b.ex G (run F G M M) M R H n k' x' r')
   rw [Rl]
   exact ⟨t, ht, by rw [if_pos e]; exact hN M hM k' x' r' ho⟩
  ·rw [if_neg e] at h'
   obtain ⟨s, hs, N, hN⟩ := uP b R H n k x r h'
   refine ⟨s, hs, N, fun M hM k' x' r' ho => ?_⟩
   show Ac (c.ev (.mk [] R)) true (a.ex G (run F G M M) M R H n k' x' r') (b.ex G (run F G M M) M R H n k' x' r')
   rw [Rl]
   exact ⟨t, ht, by rw [if_neg e]; exact hN M hM k' x' r' ho⟩
 | .block id a => fun R H n k x r h => by
  obtain ⟨s, hs, N, hN⟩ := uP a R H n k (Du id k x) r h
  cases s with
  | nrm R1 H1 n1 => exact ⟨.nrm R1 H1 n1, hs, N, fun M hM k' x' r' ho => hN M hM k' (Du id k' x') r' ho⟩
  | ret R1 H1 n1 => exact ⟨.ret R1 H1 n1, hs, N, fun M hM k' x' r' ho => hN M hM k' (Du id k' x') r' ho⟩
  | ext i R1 H1 n1 =>
   have hs' : Du id k x i R1 H1 n1 := hs
   unfold Du at hs'
   cases hb : Nat.beq i id with
   | true =>
    rw [hb] at hs'
    refine ⟨.nrm R1 H1 n1, hs', N, fun M hM k' x' r' ho => hN M hM k' (Du id k' x') r' ?_⟩
    show Du id k' x' i R1 H1 n1
    unfold Du; rw [hb]; exact ho
   | false =>
    rw [hb] at hs'
    refine ⟨.ext i R1 H1 n1, hs', N, fun M hM k' x' r' ho => hN M hM k' (Du id k' x') r' ?_⟩
    show Du id k' x' i R1 H1 n1
    unfold Du; rw [hb]; exact ho
 | .loop a => fun R H n k x r h => by
  obtain ⟨s, hs, N, hN⟩ := AIK (uP a) R H n x r h
  cases s with
  | nrm R1 H1 n1 => exact (show False from hs).elim
  | ext i R1 H1 n1 => exact ⟨.ext i R1 H1 n1, hs, N, fun M hM k' x' r' ho => hN M hM M hM x' r' ho⟩
  | ret R1 H1 n1 => exact ⟨.ret R1 H1 n1, hs, N, fun M hM k' x' r' ho => hN M hM M hM x' r' ho⟩
 | .exit i => fun R H n k x r h => ⟨.ext i R H n, h, 0, fun M _ k' x' r' ho => ho⟩
 | .ret => fun R H n k x r h => ⟨.ret R H n, h, 0, fun M _ k' x' r' ho => ho⟩
theorem ABh (dg : Nat) : ∀ (l : List V) (H : Heap) (n : Nat) (k : Heap -> Nat -> Prop), JR dg l (Runs F G) H n k -> ∃ H' n', k H' n' /\ ∃ N, ∀ M, N <= M -> ∀ k' : Heap -> Nat -> Prop, k' H' n' -> JR dg l (run F G M M) H n k'
 | [], H, n, k, h => ⟨H, n, h, 0, fun M _ k' hk' => hk'⟩
 | v :: l, H, n, k, h => by
  have h' : V.Qo v (fun f a c => Fa (Nat.beq f dg) (Runs F G f (cat a c) H n fun _ H n => JR dg l (Runs F G) H n k)) := h
  rw [Pn] at h'
  obtain ⟨g, fa, ca, he, h'⟩ := h'
  rw [EC] at h'
  obtain ⟨s, hs, N, hN⟩ := zW h'.2
  obtain ⟨H', n', hk, N', hN'⟩ := ABh dg l _ _ k hs
  refine ⟨H', n', hk, max N N', fun M hM k' hk' => ?_⟩
  show V.Qo v (fun f a c => Fa (Nat.beq f dg) (run F G M M f (cat a c) H n fun _ H n => JR dg l (run F G M M) H n k'))
  rw [Pn]
  exact ⟨g, fa, ca, he, (EC _ _).2 ⟨h'.1, hN M (by omega) (fun _ H n => JR dg l (run F G M M) H n k') (hN' M (by omega) k' hk')⟩⟩
theorem ABS (res : List AR) (dg : Nat) (d : Zf) (k : KV) (R : FM) (H : Heap) (n : Nat) (h : Fh res dg d G (Runs F G) k R H n) : ∃ N, ∀ M, N <= M -> Fh res dg d G (run F G M M) k R H n := by
 cases d with
 | no => exact ⟨0, fun M _ => h⟩
 | to p =>
  obtain ⟨H', n', hk, N, hN⟩ := ABh dg _ H n _ h
  exact ⟨N, fun M hM => hN M hM _ hk⟩
 | ps => exact ⟨0, fun M _ => h⟩
theorem YK {f : Nat} {af : AF} (hf : T.get F f = some af) {args : List V} {H : Heap} {n : Nat} {k : KV} (h : mO af G (Runs F G) args H n k) : Runs F G f args H n k := by
 obtain ⟨np, code, res, d, dg⟩ := af
 have h' : Fa (Nat.beq (len args) np) (code.Rx G (Runs F G) 0 (WQ args 0 .e) H n (Fh res dg d G (Runs F G) k) noX (Fh res dg d G (Runs F G) k)) := h
 rw [EC] at h'
 obtain ⟨s, hs, N, hN⟩ := uP code _ H n _ _ _ h'.2
 have key : ∃ N', ∀ M, N' <= M -> Out.on (Fh res dg d G (run F G M M) k) noX (Fh res dg d G (run F G M M) k) s := by
  cases s with
  | nrm R1 H1 n1 => exact ABS res dg d k R1 H1 n1 hs
  | ext i R1 H1 n1 => exact (show False from hs).elim
  | ret R1 H1 n1 => exact ABS res dg d k R1 H1 n1 hs
 obtain ⟨N', hN'⟩ := key
 refine ⟨max N N' + 1, ?_⟩
 show Es (T.get F f) fun af => fF af G (run F G (max N N' + 1) (max N N')) (max N N' + 1) args H n k
 rw [hf]
 show Fa (Nat.beq (len args) np) _
 rw [EC]
 refine ⟨h'.1, ?_⟩
 have hle := vJ F G (Nat.le_succ (max N N')) (max N N') (max N N') (Nat.le_refl _)
 have h1 := hN (max N N') (by omega) _ _ _ (hN' (max N N') (by omega))
 have h2 := pW (Qe F G (max N N' + 1) (max N N')) hle G (Nat.le_succ (max N N')) code _ _ _ _ _ _ h1
 exact DC.mono (VW (Qe F G (max N N' + 1) (max N N')) G _ code _ _ _) (fun R H n hk => X7 (Qe F G _ _) hle res dg d G k R H n hk) (fun _ _ _ _ hx => hx) (fun R H n hk => X7 (Qe F G _ _) hle res dg d G k R H n hk) h2
end
section
variable {G : AP} {call : AQ}
theorem ALt {a : M} (hm : ∀ R H n (k k' : K) x r, (∀ R H n, k R H n -> k' R H n) -> a G call 0 R H n k x r -> a G call 0 R H n k' x r) {x : KX} {r : K} (I : Nat -> K)
    (h : ∀ m R H n, I m R H n -> a G call 0 R H n (fun R H n => ∃ m', m' < m /\ I m' R H n) x r) {m : Nat} {R : FM} {H : Heap} {n : Nat} (h0 : I m R H n) : AEM a G call R H n x r := by
  intro J hJ
  induction m using Nat.strongRecOn generalizing R H n with
  | _ m ih =>
    refine hJ R H n (hm R H n _ _ x r ?_ (h m R H n h0))
    rintro R H n ⟨m', hlt, hI⟩
    exact ih m' hlt hI
theorem AAo (hc : Bo call) (l : List iZ) (E : RS) (H : Heap) (n : Nat) {k k' : KE} (hk : ∀ E H n, k E H n -> k' E H n) (h : BX l G call E H n k) : BX l G call E H n k' :=
 Sz.mono (yj hc G l E H n) (k := fun s => k s.1 s.2.1 s.2.2) (k' := fun s => k' s.1 s.2.1 s.2.2) (fun s hs => hk _ _ _ hs) h
theorem uT (hc : Bo call) (l : List AI) (E : RS) (H : Heap) (n : Nat) {k k' : KE} (hk : ∀ E H n, k E H n -> k' E H n) (h : AY l G call E H n k) : AY l G call E H n k' :=
 Sz.mono (nX hc G l E H n) (k := fun s => k s.1 s.2.1 s.2.2) (k' := fun s => k' s.1 s.2.1 s.2.2) (fun s hs => hk _ _ _ hs) h
theorem X3 (hc : Bo call) : ∀ (c : AC) (R : FM) (H : Heap) (n : Nat) (k k' : K) (x x' : KX) (r r' : K), (∀ R H n, k R H n -> k' R H n) -> (∀ i R H n, x i R H n -> x' i R H n) -> (∀ R H n, r R H n -> r' R H n) ->
    c.Rx G call 0 R H n k x r -> c.Rx G call 0 R H n k' x' r'
  | .skip, R, H, n, k, k', x, x', r, r', hk, hx, hr, h => hk _ _ _ h
  | .ops l, R, H, n, k, k', x, x', r, r', hk, hx, hr, h => AAo hc l _ H n (fun E H n h => hk _ _ _ h) h
  | .reg l, R, H, n, k, k', x, x', r, r', hk, hx, hr, h => uT hc l _ H n (fun E H n h => hk _ _ _ h) h
  | .seq a b, R, H, n, k, k', x, x', r, r', hk, hx, hr, h => X3 hc a R H n _ _ x x' r r' (fun R H n h => X3 hc b R H n k k' x x' r r' hk hx hr h) hx hr h
  | .cond c a b, R, H, n, k, k', x, x', r, r', hk, hx, hr, h => by
    have h' : Ac (c.ev (.mk [] R)) true (a.Rx G call 0 R H n k x r) (b.Rx G call 0 R H n k x r) := h
    show Ac (c.ev (.mk [] R)) true (a.Rx G call 0 R H n k' x' r') (b.Rx G call 0 R H n k' x' r')
    rw [Rl] at h' ⊢
    obtain ⟨t, ht, h'⟩ := h'
    refine ⟨t, ht, ?_⟩
    split
    · rename_i e; rw [if_pos e] at h'; exact X3 hc a R H n k k' x x' r r' hk hx hr h'
    · rename_i e; rw [if_neg e] at h'; exact X3 hc b R H n k k' x x' r r' hk hx hr h'
  | .block id a, R, H, n, k, k', x, x', r, r', hk, hx, hr, h => by
    refine X3 hc a R H n k k' (Du id k x) (Du id k' x') r r' hk (fun i R H n h => ?_) hr h
    unfold Du at h ⊢
    cases hb : Nat.beq i id with
    | true => rw [hb] at h; exact hk _ _ _ h
    | false => rw [hb] at h; exact hx _ _ _ _ h
  | .loop a, R, H, n, k, k', x, x', r, r', hk, hx, hr, h => by
    intro I hI
    exact h I fun R H n hb => hI R H n (X3 hc a R H n I I x x' r r' (fun _ _ _ h => h) hx hr hb)
  | .exit i, R, H, n, k, k', x, x', r, r', hk, hx, hr, h => hx _ _ _ _ h
  | .ret, R, H, n, k, k', x, x', r, r', hk, hx, hr, h => hr _ _ _ h
end
end Go.Eng
namespace Go.Eng
open Go.ChangeShapes Go.WideShapes Go.RowKit
structure Old (W W' : World) : Prop where
 os : W'.os = W.os
 out : W'.output = W.output
 heap : ∀ b, b < W.heap.size -> W'.heap[b]? = W.heap[b]?
theorem Old.kept {W W' : World} (h : Old W W') (may : MemPlace -> Prop) : W.keptBut W' may := by
 refine ⟨h.os, h.out, fun i hi => ?_⟩
 rw [h.heap i hi]
 cases hh : W.heap[i]? with
 | none => rfl
 | some o => cases o <;> simp
theorem Old.cell {W W' : World} (h : Old W W') {a : Addr} (ha : a.block < W.heap.size) : W'.cell? a = W.cell? a := by
 unfold World.cell?
 rw [h.heap _ ha]
theorem Old.same {W W' : World} (h : Old W W') {p : MemPlace} (hp : p.block < W.heap.size) : W.sameAt W' p := by
 cases p with
 | cell b off => exact h.cell hp
 | map b => exact h.heap b hp
theorem Old.trodAll {H : Type} {enc : TypeId × Value -> H} {P : Program} (hl : laidOutB P = true) {W W' : World} (h : Old W W') : ∀ {ts : List TypeId} {vs : List Value} {ds : List (DataW H)} {ps : List MemPlace},
    (∀ t ∈ ts, P.readableRec t = true /\ t < P.types.size) -> DataW.TrodAll enc P W 0 (fun _ => true) true ts vs ds ps -> (∀ x ∈ ps, x.block < W.heap.size) -> DataW.TrodAll enc P W' 0 (fun b => decide (b < W.heap.size)) true ts vs ds ps
  | [], [], [], _, _, ht, _ => ht
  | t :: ts, v :: vs, d :: ds, _, hr, ⟨p, q, h1, h2, e⟩, hlt => by
    subst e
    refine ⟨p, q, ?_, Old.trodAll hl h (fun t ht => hr t (List.mem_cons_of_mem _ ht)) h2 (fun x hx => hlt x (List.mem_append_right _ hx)), rfl⟩
    exact WideElems.Trod_stays hl (hr t List.mem_cons_self).1 (hr t List.mem_cons_self).2 h1 (fun x hx => h.same (hlt x (List.mem_append_left _ hx))) (fun x hx => by simpa using hlt x (List.mem_append_left _ hx))
section
variable {P : Program} {F : T AF}
theorem vY {G : AP} {W : World} (hF : rX P F) (hg : Oa W G) {f : Nat} {vargs : List V} {args : Array Value} (hr : Bf (fun _ => none) vargs args.toList) (h : Runs F G f vargs .e 0 fun v _ _ => v = .bool true) :
    Calls P f args W fun e W' => e = .returned (.bool true) /\ Old W W' := by
  obtain ⟨N, h⟩ := h
  obtain ⟨hc, _⟩ := AFq (P := P) (F := F) (lf := N) hF hg N
  have hh : DJ W (fun _ => none) .e 0 W := {
    lt := fun _ _ h => by cases h
    blk := fun _ _ h => by cases h
    inj := fun _ _ _ _ h => by cases h
    arr := fun _ _ _ _ _ h => by cases h
    map := fun _ _ _ _ h => by cases h
    old := fun _ _ => rfl
    os := rfl
    out := rfl
    big := Nat.le_refl _
    top := fun _ _ => T.AQG _ }
  refine ((hc f vargs .e 0 _ h).2 _ W args hh hr).mono ?_
  rintro e W' ⟨u, v, H', n', ρ', rfl, rfl, hv, hh', _⟩
  simp only [AV] at hv
  subst hv
  exact ⟨rfl, hh'.os, hh'.out, hh'.old⟩
end
theorem oJ {H : Type} {P : Program} : ∀ (ts us : List TypeId) (ds : List (DataW H)), ds.length = ts.length -> DataW.weightsEach P (ts ++ us) (ds ++ []) = DataW.weightsEach P ts ds
 | [], us, [], _ => by cases us <;> simp [DataW.weightsEach]
 | [], us, _ :: _, h => by simp at h
 | _ :: _, us, [], h => by simp at h
 | t :: ts, us, d :: ds, h => by
  show d.weights P t ++ DataW.weightsEach P (ts ++ us) (ds ++ []) = d.weights P t ++ DataW.weightsEach P ts ds
  rw [oJ ts us ds (by simpa using h)]
theorem jV {C : Checked} {F : T AF} (hF : rX C.prog F) {os : Os} (started : os.Started) {f : FuncId} {fn : Func} {s : ChangeSpec} {laid : List (String × DataW Unit)} {tb : TypeId} {apart fresh : Bool} {H : Type} {enc : TypeId × Value -> H}
    (own : ownKnob C.prog.godebug = none) (noInit : C.prog.inits.idxOf? f = none) (hfn : C.prog.funcs[f]? = some fn)
    (hsv : s.vars = []) (hsf : ∀ ds : List (DataW H), ds.length = fn.params.toList.length -> s.fn H ds = { results := [.lit (.bool true)], args := ds })
    (hres : fn.resultTypes = #[tb]) (hb : C.prog.underlying tb = some .bool) (hl : laidOutB C.prog = true) (hp : ∀ t ∈ fn.params.toList, C.prog.readableRec t = true /\ t < C.prog.types.size)
    (w0 : World) (args0 : Array Value) (fuel : Nat) (hos : w0.os = os)
    (hv : (w0.forCall (fun _ _ => 0) ⟨#[], args0, []⟩).variablesB C.prog = true)
    (hrb : ((w0.forCall (fun _ _ => 0) ⟨#[], args0, []⟩).heap.toList.drop C.prog.globals.size).take ((begin C.prog (fun _ _ => 0) default).world.heap.size - C.prog.globals.size) =
      (begin C.prog (fun _ _ => 0) default).world.heap.toList.drop C.prog.globals.size)
    (hok : Input.okWideB C.prog (w0.forCall (fun _ _ => 0) ⟨#[], args0, []⟩) f ⟨#[], args0, []⟩ = true)
    (hpre : s.preB enc C.prog fn [] apart (w0.forCall (fun _ _ => 0) ⟨#[], args0, []⟩).memory args0 fuel = true)
    (hsz : s.sizedB enc C.prog fn apart (w0.forCall (fun _ _ => 0) ⟨#[], args0, []⟩).memory args0 fuel = true)
    (hx : laidMetH C.prog laid (w0.forCall (fun _ _ => 0) ⟨#[], args0, []⟩).memory)
    (hrun : ∀ (W : World) (args : Array Value) (ds : List (DataW H)) (ps : List MemPlace), (∀ (j : Nat) t v, fn.params[j]? = some t -> args[j]? = some v -> ∃ base, Value.okWide C.prog W .any base t v) ->
      DataW.TrodAll enc C.prog W 0 (fun _ => true) true fn.params.toList args.toList ds ps -> laidMetH C.prog laid W -> (DataW.weightsEach C.prog fn.params.toList ds).all (· <= reachBytes) = true ->
      ∃ G vargs, Oa W G /\ Bf (fun _ => none) vargs args.toList /\ Runs F G f vargs .e 0 fun v _ _ => v = .bool true) :
    ReturnsInHanded {} C os f .any (fun w args => (s.pre enc C.prog fn [] apart w args /\ laidMetH C.prog laid w) /\ sizedMet enc C.prog fn (OpenSpec.ofChange s) apart w args) (s.post enc C.prog fn apart fresh false false) := by
  refine returnsInHanded_of_change_and (C := C) (X := fun w _ => laidMetH C.prog laid w) (fun _ _ _ hh h => h.of_heap hh) own started noInit hfn
    (ChangeSpec.witness_at (enc := enc) (C := C) (os := os) (X := fun w _ => laidMetH C.prog laid w) false w0 args0 fuel hos hv hrb hok hpre hsz hx) ?_
  intro W base args ds gs before hval hW _ hz hL _
  have hW' := hW
  have hlt := hW.lt
  obtain ⟨p, q, hA, hV, rfl, hfz, hnd⟩ := hW
  have hgs : gs = [] /\ q = [] := by
    rw [hsv] at hV
    cases gs with
    | nil => exact ⟨rfl, hV⟩
    | cons g r => exact absurd hV (by intro h; cases h)
  obtain ⟨rfl, rfl⟩ := hgs
  have hlen : ds.length = fn.params.toList.length := by
    have hlen : ∀ {ts : List TypeId} {vs : List Value} {ds : List (DataW H)} {ps : List MemPlace}, DataW.TrodAll enc C.prog W 0 (fun _ => true) true ts vs ds ps -> ds.length = ts.length := by
      intro ts
      induction ts with
      | nil => intro vs ds ps h; cases vs <;> cases ds <;> first | rfl | exact h.elim
      | cons t ts ih =>
        intro vs ds ps h
        cases vs <;> cases ds <;> try exact h.elim
        obtain ⟨p, q, _, h2, _⟩ := h
        simp [ih h2]
    exact hlen hA
  rw [oJ _ _ _ hlen] at hz
  obtain ⟨G, vargs, hg, hr, hrn⟩ := hrun W args ds p (fun j t v h1 h2 => ⟨base, hval j t v h1 h2⟩) hA hL hz
  refine (vY hF hg hr hrn).mono fun e W' ⟨he, ho⟩ => ?_
  subst he
  have e1 : s.fn H (ds ++ []) = { results := [.lit (.bool true)], args := ds } := by rw [List.append_nil]; exact hsf ds hlen
  refine ⟨_, rfl, ds, [], _, [], p, [], hW', ?_, ?_, ?_, ho.kept _, fun h => by cases h⟩
  · rw [e1, hres]; exact trodAll_mk1 (shut_bool hb true)
  · rw [e1]; exact Old.trodAll hl ho hp hA (fun x hx => hlt x (by simpa using hx))
  · rw [e1, hsv]; rfl
theorem law_lifted {C : Checked} {F : T AF} (hF : rX C.prog F) {os : Os} (started : os.Started) {f : FuncId} {fn : Func} {s : ChangeSpec} {laid : List (String × DataW Unit)} {tb : TypeId} {apart fresh : Bool} {H : Type} {enc : TypeId × Value -> H}
    (own : ownKnob C.prog.godebug = none) (noInit : C.prog.inits.idxOf? f = none) (hfn : C.prog.funcs[f]? = some fn)
    (hsv : s.vars = []) (hsf : ∀ ds : List (DataW H), ds.length = fn.params.toList.length -> s.fn H ds = { results := [.lit (.bool true)], args := ds })
    (hres : fn.resultTypes = #[tb]) (hb : C.prog.underlying tb = some .bool) (hl : laidOutB C.prog = true) (hp : ∀ t ∈ fn.params.toList, C.prog.readableRec t = true /\ t < C.prog.types.size)
    (w0 : World) (args0 : Array Value) (fuel : Nat) (hos : w0.os = os)
    (hv : (w0.forCall (fun _ _ => 0) ⟨#[], args0, []⟩).variablesB C.prog = true)
    (hrb : ((w0.forCall (fun _ _ => 0) ⟨#[], args0, []⟩).heap.toList.drop C.prog.globals.size).take ((begin C.prog (fun _ _ => 0) default).world.heap.size - C.prog.globals.size) =
      (begin C.prog (fun _ _ => 0) default).world.heap.toList.drop C.prog.globals.size)
    (hok : Input.okWideB C.prog (w0.forCall (fun _ _ => 0) ⟨#[], args0, []⟩) f ⟨#[], args0, []⟩ = true)
    (hpre : s.preB enc C.prog fn [] apart (w0.forCall (fun _ _ => 0) ⟨#[], args0, []⟩).memory args0 fuel = true)
    (hsz : s.sizedB enc C.prog fn apart (w0.forCall (fun _ _ => 0) ⟨#[], args0, []⟩).memory args0 fuel = true)
    (hx : laidMetH C.prog laid (w0.forCall (fun _ _ => 0) ⟨#[], args0, []⟩).memory)
    (hrun : ∀ (W : World) (args : Array Value) (ds : List (DataW H)) (ps : List MemPlace), (∀ (j : Nat) t v, fn.params[j]? = some t -> args[j]? = some v -> ∃ base, Value.okWide C.prog W .any base t v) ->
      DataW.TrodAll enc C.prog W 0 (fun _ => true) true fn.params.toList args.toList ds ps -> laidMetH C.prog laid W ->
      ∃ G vargs, Oa W G /\ Bf (fun _ => none) vargs args.toList /\ Runs F G f vargs .e 0 fun v _ _ => v = .bool true) :
    ReturnsInHanded {} C os f .any (fun w args => (s.pre enc C.prog fn [] apart w args /\ laidMetH C.prog laid w) /\ sizedMet enc C.prog fn (OpenSpec.ofChange s) apart w args) (s.post enc C.prog fn apart fresh false false) :=
  jV hF started own noInit hfn hsv hsf hres hb hl hp w0 args0 fuel hos hv hrb hok hpre hsz hx fun W args ds ps h1 h2 h3 _ => hrun W args ds ps h1 h2 h3
end Go.Eng
namespace Go.Eng
open Go.ChangeShapes Go.WideShapes Go.RowKit
inductive T.All {α : Type} : (P2 -> α -> Prop) -> T α -> Prop
 | e {Q : P2 -> α -> Prop} : T.All Q .e
 | n0 {Q : P2 -> α -> Prop} {l r : T α} : T.All (fun p => Q (.z p)) l -> T.All (fun p => Q (.o p)) r -> T.All Q (.n none l r)
 | n1 {Q : P2 -> α -> Prop} {x : α} {l r : T α} : Q .h x -> T.All (fun p => Q (.z p)) l -> T.All (fun p => Q (.o p)) r -> T.All Q (.n (some x) l r)
theorem T.All.DI {α : Type} : ∀ {p : P2} {Q : P2 -> α -> Prop} {t : T α}, T.All Q t -> ∀ {x : α}, T.DI p t = some x -> Q p x
 | p, _, _, .e, x, h => by rw [T.rY] at h; cases h
 | .h, _, _, .n0 _ _, x, h => by rw [T.AHi] at h; cases h
 | .z p, Q, _, .n0 hl _, x, h => by rw [T.XU] at h; exact T.All.DI (p := p) (Q := fun p => Q (.z p)) hl h
 | .o p, Q, _, .n0 _ hr, x, h => by rw [T.XA] at h; exact T.All.DI (p := p) (Q := fun p => Q (.o p)) hr h
 | .h, _, _, .n1 hx _ _, x, h => by rw [T.AHi] at h; cases h; exact hx
 | .z p, Q, _, .n1 _ hl _, x, h => by rw [T.XU] at h; exact T.All.DI (p := p) (Q := fun p => Q (.z p)) hl h
 | .o p, Q, _, .n1 _ _ hr, x, h => by rw [T.XA] at h; exact T.All.DI (p := p) (Q := fun p => Q (.o p)) hr h
structure iG (P : Program) (F : T AF) (f : Nat) (af : AF) : Prop where
 tr : ∃ fn loc df ords, P.funcs[f]? = some fn /\ (fn.name == "runtime.NumGoroutine") = false /\ trF P loc df ords af.dg fn = some af
 dg : AEw af.dp = true ∨ ∃ af', T.get F af.dg = some af' /\ AEw af'.dp = true
theorem AAp {d : Zf} : AEw d = true ↔ d = .no := by cases d <;> simp [AEw]
theorem rX.ALQ {P : Program} {F : T AF} (hm : P.follows .mixedOrders = true) (h : T.All (fun p af => iG P F p.key af) F) : rX P F where
 mixed := hm
 fns := fun f af hf => by
  have := (T.All.DI (p := Ld f) h hf).tr
  rwa [jk] at this
 dgs := fun f af af' hf hd hf' => by
  rcases (T.All.DI (p := Ld f) h hf).dg with e | ⟨a, ha, hn⟩
  ·exact absurd (AAp.1 e) hd
  ·rw [ha] at hf'; cases hf'; exact AAp.1 hn
open Classical in
noncomputable def toV : Value -> V
 | .int k n => .int k n 0
 | .bool b => .bool b
 | .string s => .str s.data.toList.length (enc s.data.toList)
 | .slice none len cap => if len = 0 /\ cap = 0 then .Ag else .undef
 | .slice (some a) len cap => if len <= cap /\ (cap = 0 ∨ a.spot = none) then .rsl a.block a.off len cap 0 else .undef
 | _ => .undef
theorem AIv (ρ : Loc) (u : Value) : AV ρ (toV u) u := by
 cases u with
 | slice a len cap =>
  cases a with
  | none =>
   simp only [toV]
   split
   ·rename_i h; obtain ⟨rfl, rfl⟩ := h; simp [AV]
   ·simp [AV]
  | some a =>
   simp only [toV]
   split
   ·rename_i h
    refine ⟨a, rfl, ?_, h.1⟩
    rcases h.2 with e | e
    ·exact .inl e
    ·right; cases a; simp_all
   ·simp [AV]
 | _ => simp [toV, AV]
open Classical in
noncomputable def MK (W : World) : AP := fun b off n =>
 if ∀ j, j < n -> ∃ u, W.cell? ⟨b, off + j, none⟩ = some u /\ u.oneCell' = true then some ((List.range n).map fun j => toV ((W.cell? ⟨b, off + j, none⟩).getD undef)) else none
theorem ACF (W : World) : Oa W (MK W) := by
 intro b off n L h
 unfold MK at h
 split at h
 ·rename_i hc
  cases h
  refine ⟨by simp, fun j v hj => ?_⟩
  rw [List.getElem?_map] at hj
  cases hr : (List.range n)[j]? with
  | none => rw [hr] at hj; cases hj
  | some k =>
   rw [hr] at hj
   have hk : j < n := by have := (List.getElem?_eq_some_iff.1 hr).1; simpa using this
   rw [List.getElem?_range hk] at hr
   cases hr
   obtain ⟨u, hu, h1⟩ := hc j hk
   refine ⟨u, hu, ?_, h1⟩
   simp only [Option.map_some, Option.some.injEq] at hj
   subst hj
   rw [hu]
   exact AIv _ _
 ·cases h
theorem oG {W : World} {b off n : Nat} {cs : List Value} (hl : cs.length = n) (h1 : ∀ u ∈ cs, u.oneCell' = true) (h : ∀ j u, cs[j]? = some u -> W.cell? ⟨b, off + j, none⟩ = some u) : MK W b off n = some (cs.map toV) := by
 subst hl
 unfold MK
 rw [if_pos]
 ·congr 1
  apply List.ext_getElem?
  intro j
  rw [List.getElem?_map, List.getElem?_map]
  by_cases hj : j < cs.length
  ·rw [List.getElem?_range hj, List.getElem?_eq_getElem hj]
   simp only [Option.map_some]
   rw [h j _ (List.getElem?_eq_getElem hj)]
   rfl
  ·rw [List.getElem?_eq_none (by simpa using hj), List.getElem?_eq_none (by simpa using hj)]
   rfl
 ·intro j hj
  exact ⟨cs[j], h j _ (List.getElem?_eq_getElem hj), h1 _ (List.getElem_mem hj)⟩
def AP.with (G : AP) (b : Nat) (G' : AP) : AP := fun c off n => if c = b then G' c off n else G c off n
inductive Dt where
 | int (k : IntKind) (n : Int) | bool (b : Bool) | str (s : List UInt8) | sl (z : Nat) (l : List Dt) | st (l : List Dt)
noncomputable def ARx (s : List UInt8) : V := .str s.length (enc s)
mutual
def Rep (G : AP) (H : Heap) : Dt -> LV -> Prop
 | .int k n, vs => vs = [.int k n 0]
 | .bool b, vs => vs = [.bool b]
 | .str s, vs => vs = [ARx s]
 | .sl z l, vs => ∃ v LS, vs = [v] /\ elems v G H z = some LS /\ isStr v = false /\ AMF G H l LS
 | .st l, vs => ∃ LS, vs = LS.flatten /\ AMF G H l LS
def AMF (G : AP) (H : Heap) : List Dt -> Dk -> Prop
 | [], LS => LS = []
 | d :: ds, LS => ∃ L LS', LS = L :: LS' /\ Rep G H d L /\ AMF G H ds LS'
end
end Go.Eng
namespace Go.Eng
open Go.ChangeShapes Go.WideShapes Go.RowKit
variable {P : Program} {H : Type} {enc' : TypeId × Value -> H} {w : World} {base : Nat} {spare : Nat -> Bool} {held : Bool}
def Xe {H : Type} : Nat -> DataW H -> Option LV
 | 0, _ => none
 | n + 1, d => match d with
  | .lit (.int k i) => some [.int k i 0]
  | .lit (.bool b) => some [.bool b]
  | .lit (.string s) => some [.str s.length (enc s)]
  | .agg ds => (ds.mapM (Xe n)).map List.flatten
  | _ => none
def bW : Nat -> List (Nat × Nat) -> Nat -> Bool
 | o, [], tot => Nat.beq o tot
 | o, (a, l) :: r, tot => Nat.beq a o && bW (o + l) r tot
def nR (P : Program) : Nat -> TypeId -> Bool
 | 0, _ => false
 | d + 1, t => match P.underlying t with
  | some (.int _) => true
  | some .bool => true
  | some .string => true
  | some (.struct fs) => bW 0 (fs.toList.map fun f => (f.offset, P.cellsOf f.type)) (P.cellsOf t) && fs.toList.all fun f => nR P d f.type
  | some (.array n e) => Nat.beq (n * P.cellsOf e) (P.cellsOf t) && nR P d e
  | _ => false
theorem WB {α : Type} (cs : List α) : ∀ (ls : List (Nat × Nat)) (o : Nat), bW o ls cs.length = true -> cs.drop o = (ls.map fun p => (cs.drop p.1).take p.2).flatten
 | [], o, h => by
  have : o = cs.length := Nat.eq_of_beq_eq_true h
  subst this; simp
 | (a, l) :: r, o, h => by
  simp only [bW, Bool.and_eq_true] at h
  have ha : a = o := Nat.eq_of_beq_eq_true h.1
  subst ha
  have ih := WB cs r (a + l) h.2
  simp only [List.map_cons, List.flatten_cons]
  rw [<- ih, <- List.drop_drop, List.take_append_drop]
inductive ACc {α β : Type} (R : α -> β -> Prop) : List α -> List β -> Prop
 | nil : ACc R [] []
 | cons {a : α} {b : β} {l : List α} {m : List β} : R a b -> ACc R l m -> ACc R (a :: l) (b :: m)
theorem sD {ρ : Loc} : ∀ {xs : List LV} {ys : List (List Value)}, ACc (fun a b => Bf ρ a b) xs ys -> Bf ρ xs.flatten ys.flatten
 | _, _, .nil => by simp
 | _, _, .cons h t => by simp only [List.flatten_cons]; exact h.append (sD t)
theorem VX {α β γ : Type} {f : α -> Option β} {R : β -> γ -> Prop} : ∀ {l : List α} {r : List β} {ys : List γ}, l.mapM f = some r -> l.length = ys.length -> (∀ (i : Nat) (a : α) (b : β) (y : γ), l[i]? = some a -> f a = some b -> ys[i]? = some y -> R b y) -> ACc R r ys
 | [], r, ys, h, hl, _ => by
  simp at h; subst h
  cases ys with
  | nil => exact .nil
  | cons => simp at hl
 | a :: l, r, ys, h, hl, hR => by
  cases ys with
  | nil => simp at hl
  | cons y ys =>
   rw [List.mapM_cons] at h
   cases hfa : f a with
   | none => rw [hfa] at h; cases h
   | some b =>
    rw [hfa] at h
    cases hr : l.mapM f with
    | none => simp [hr] at h
    | some r' =>
     simp [hr] at h; subst h
     exact .cons (hR 0 a b y rfl hfa rfl) (VX hr (by simpa using hl) fun i a b y h1 h2 h3 => hR (i + 1) a b y (by simpa using h1) h2 (by simpa using h3))
theorem jS {α β : Type} {f : α -> Option β} : ∀ {l : List α} {r : List β}, l.mapM f = some r -> ∀ a ∈ l, ∃ b, f a = some b
 | [], _, _, _, h => by cases h
 | a :: l, r, h, x, hx => by
  rw [List.mapM_cons] at h
  cases hfa : f a with
  | none => rw [hfa] at h; cases h
  | some b =>
   rw [hfa] at h
   cases hr : l.mapM f with
   | none => simp [hr] at h
   | some r' =>
    rcases List.mem_cons.1 hx with rfl | hx
    ·exact ⟨b, hfa⟩
    ·exact jS hr x hx
theorem Y5 : ∀ (fuel : Nat) {t : TypeId} {cs : List Value} {d : DataW H} {ps : List MemPlace} {n m : Nat} {vs : LV}, DataW.trod enc' P w base spare held fuel t cs = some (d, ps) -> Xe n d = some vs -> nR P m t = true ->
    Bf (fun _ => none) vs cs /\ ∀ u ∈ cs, u.oneCell' = true
  | 0, _, _, _, _, _, _, _, h, _, _ => by simp [DataW.trod] at h
  | fuel + 1, t, cs, d, ps, n, 0, vs, h, hf, ht => by cases ht
  | fuel + 1, t, cs, d, ps, 0, m + 1, vs, h, hf, ht => by cases hf
  | fuel + 1, t, cs, d, ps, n + 1, m + 1, vs, h, hf, ht => by
    simp only [nR] at ht
    split at ht
    · rename_i k hu
      obtain ⟨i, rfl, e, _⟩ := DataW.trod_int hu h
      cases e
      simp only [Xe, Option.some.injEq] at hf; subst hf
      exact ⟨.cons (by simp [AV]) .nil, fun u hu => by simp at hu; subst hu; rfl⟩
    · rename_i hu
      obtain ⟨i, rfl, e⟩ := DataW.trod_bool hu h
      cases e
      simp only [Xe, Option.some.injEq] at hf; subst hf
      exact ⟨.cons (by simp [AV]) .nil, fun u hu => by simp at hu; subst hu; rfl⟩
    · rename_i hu
      obtain ⟨s, rfl, e, _⟩ := DataW.trod_string hu h
      cases e
      simp only [Xe, Option.some.injEq] at hf; subst hf
      exact ⟨.cons ⟨s, rfl, rfl, rfl⟩ .nil, fun u hu => by simp at hu; subst hu; rfl⟩
    · rename_i fs hu
      rw [Bool.and_eq_true] at ht
      obtain ⟨xs, n', hfe, e, hlen, hxl, hel⟩ := DataW.trod_struct hu h
      have hfe' : fuel = n' := by omega
      subst hfe'
      cases e
      have hflat := WB cs _ 0 (by rw [hlen]; exact ht.1)
      simp only [List.drop_zero, List.map_map] at hflat
      simp only [Xe] at hf
      cases hm : (xs.map (·.1)).mapM (Xe n) with
      | none => rw [hm] at hf; cases hf
      | some r =>
        rw [hm] at hf
        simp only [Option.map_some, Option.some.injEq] at hf
        subst hf
        have each : ∀ (i : Nat) (f : Field) (x : DataW H × List MemPlace), fs[i]? = some f -> xs[i]? = some x -> ∀ b, Xe n x.1 = some b -> Bf (fun _ => none) b ((cs.drop f.offset).take (P.cellsOf f.type)) /\ ∀ u ∈ (cs.drop f.offset).take (P.cellsOf f.type), u.oneCell' = true := by
          intro i f x hi hx b hb
          have h1 := hel i f hi
          rw [hx] at h1
          obtain ⟨x1, x2⟩ := x
          exact Y5 fuel h1 hb (List.all_eq_true.1 ht.2 f (by simpa using Array.mem_of_getElem? hi))
        constructor
        · rw [hflat]
          refine sD (VX hm (by simp [hxl]) ?_)
          intro i a b y ha hb hy
          rw [List.getElem?_map] at ha hy
          cases hx : xs[i]? with
          | none => rw [hx] at ha; cases ha
          | some x =>
            rw [hx] at ha
            cases ha
            cases hfi : fs.toList[i]? with
            | none => rw [hfi] at hy; cases hy
            | some f =>
              rw [hfi] at hy
              cases hy
              exact (each i f x (by simpa using hfi) hx b hb).1
        · intro u hu'
          rw [hflat] at hu'
          obtain ⟨l, hl, hul⟩ := List.mem_flatten.1 hu'
          obtain ⟨f, hf, rfl⟩ := List.mem_map.1 hl
          obtain ⟨i, hi⟩ := List.mem_iff_getElem?.1 hf
          have hil : i < xs.length := by rw [hxl]; simpa using (List.getElem?_eq_some_iff.1 hi).1
          have hm' := jS hm (xs[i]).1 (List.mem_map.2 ⟨xs[i], List.getElem_mem hil, rfl⟩)
          obtain ⟨b, hb⟩ := hm'
          exact (each i f _ (by simpa using hi) (List.getElem?_eq_getElem hil) b hb).2 u hul
    · rename_i k e hu
      rw [Bool.and_eq_true] at ht
      obtain ⟨xs, n', hfe, e', hlen, hxl, hel⟩ := DataW.trod_array hu h
      have hfe' : fuel = n' := by omega
      subst hfe'
      cases e'
      have hk : k * P.cellsOf e = P.cellsOf t := Nat.eq_of_beq_eq_true ht.1
      have hcon : ∀ (j o : Nat), bW (o * P.cellsOf e) ((List.range' o j).map fun i => (i * P.cellsOf e, P.cellsOf e)) ((o + j) * P.cellsOf e) = true := by
        intro j
        induction j with
        | zero => intro o; simp [bW]
        | succ j ih =>
          intro o
          simp only [List.range'_succ, List.map_cons, bW, Bool.and_eq_true]
          refine ⟨by simp, ?_⟩
          have := ih (o + 1)
          rw [Nat.add_mul, Nat.one_mul] at this
          rw [show o + (j + 1) = o + 1 + j by omega]
          exact this
      have hflat := WB cs ((List.range' 0 k).map fun i => (i * P.cellsOf e, P.cellsOf e)) 0 (by have := hcon k 0; rw [hlen, <- hk]; simpa using this)
      simp only [List.drop_zero, List.map_map] at hflat
      simp only [Xe] at hf
      cases hm : (xs.map (·.1)).mapM (Xe n) with
      | none => rw [hm] at hf; cases hf
      | some r =>
        rw [hm] at hf
        simp only [Option.map_some, Option.some.injEq] at hf
        subst hf
        have each : ∀ (i : Nat) (x : DataW H × List MemPlace), i < k -> xs[i]? = some x -> ∀ b, Xe n x.1 = some b -> Bf (fun _ => none) b ((cs.drop (i * P.cellsOf e)).take (P.cellsOf e)) /\ ∀ u ∈ (cs.drop (i * P.cellsOf e)).take (P.cellsOf e), u.oneCell' = true := by
          intro i x hi hx b hb
          have h1 := hel i hi
          rw [hx] at h1
          obtain ⟨x1, x2⟩ := x
          exact Y5 fuel h1 hb ht.2
        constructor
        · rw [hflat]
          refine sD (VX hm (by simp [hxl]) ?_)
          intro i a b y ha hb hy
          rw [List.getElem?_map] at ha hy
          cases hx : xs[i]? with
          | none => rw [hx] at ha; cases ha
          | some x =>
            rw [hx] at ha
            cases ha
            have hik : i < k := by rw [<- hxl]; exact (List.getElem?_eq_some_iff.1 hx).1
            rw [List.getElem?_range' hik] at hy
            simp only [Option.map_some, Function.comp, Option.some.injEq, Nat.zero_add, Nat.one_mul] at hy
            subst hy
            exact (each i x hik hx b hb).1
        · intro u hu'
          rw [hflat] at hu'
          obtain ⟨l, hl, hul⟩ := List.mem_flatten.1 hu'
          obtain ⟨i, hi, rfl⟩ := List.mem_map.1 hl
          have hik : i < k := by simp at hi; exact hi
          have hil : i < xs.length := by rw [hxl]; exact hik
          have hm' := jS hm (xs[i]).1 (List.mem_map.2 ⟨xs[i], List.getElem_mem hil, rfl⟩)
          obtain ⟨b, hb⟩ := hm'
          exact (each i _ hik (List.getElem?_eq_getElem hil) b hb).2 u hul
    · cases ht
noncomputable def AJH (g : Nat) (tab : LV) : AP := fun b off n => match Nat.beq b g && Nat.ble (off + n) tab.length with
 | true => some ((tab.drop off).take n)
 | false => none
theorem AOz {W : World} {g : Nat} {cs : List Value} {tab : LV} (hc : ∀ i, W.cell? ⟨g, i, none⟩ = cs[i]?) (hr : Bf (fun _ => none) tab cs) (h1 : ∀ u ∈ cs, u.oneCell' = true) : Oa W (AJH g tab) := by
 intro b off n L h
 unfold AJH at h
 split at h
 ·rename_i hb
  simp only [Bool.and_eq_true] at hb
  have hbg : b = g := Nat.eq_of_beq_eq_true hb.1
  have hle : off + n <= tab.length := Nat.le_of_ble_eq_true hb.2
  subst hbg
  cases h
  refine ⟨by simp; omega, fun j v hj => ?_⟩
  rw [List.getElem?_take] at hj
  split at hj
  ·rw [List.getElem?_drop] at hj
   obtain ⟨u, hu, hv⟩ := hr.get hj
   exact ⟨u, by rw [hc]; exact hu, hv, h1 u (List.mem_of_getElem? hu)⟩
  ·cases hj
 ·cases h
theorem Oa.with {W : World} {G G' : AP} {b : Nat} (h : Oa W G) (h' : Oa W G') : Oa W (G.with b G') := by
 intro c off n L hL
 unfold AP.with at hL
 split at hL
 ·exact h' c off n L hL
 ·exact h c off n L hL
theorem AO7 (W : World) : Oa W (fun _ _ _ => none) := fun _ _ _ _ h => by cases h
end Go.Eng
namespace Go.Eng
noncomputable def Oj (v : V) (_ : Heap) (_ : Nat) : Prop := v.yS fun b => Bool.rec (motive := fun _ => Prop) False True b
theorem qo {v : V} {H : Heap} {n : Nat} : Oj v H n -> v = .bool true := by
 intro h
 cases v <;> try exact (show False from h).elim
 rename_i b
 cases b
 ·exact (show False from h).elim
 ·rfl
noncomputable def AOJ (g len : Nat) (tab : LV) : AP := fun b off n =>
 Bool.rec (motive := fun _ => Option LV) none (some (TT n (YA off tab))) (band (Nat.beq b g) (Nat.ble (Nat.add off n) len))
theorem AQc {g : Nat} {tab : LV} : AOJ g tab.length tab = AJH g tab := by
 funext b off n
 unfold AOJ AJH
 simp only [Vr, XZ, BR]
 show (Bool.rec none (some (List.take n (List.drop off tab))) (Nat.beq b g && Nat.ble (off + n) tab.length) : Option LV) = _
 cases Nat.beq b g && Nat.ble (off + n) tab.length <;> rfl
theorem ARB {F : T AF} {G : AP} {f : Nat} {a : List V} {N : Nat} (h : run F G N N f a .e 0 Oj = True) : Runs F G f a .e 0 fun v _ _ => v = .bool true :=
 dV (k := Oj) (fun _ _ _ hv => qo hv) ⟨N, of_eq_true h⟩
end Go.Eng
namespace Go.Eng
def umod (a : Int) (m : Nat) : Nat := ((IntKind.wrap .u64 a).tmod m).toNat
theorem wrap_u64 (a : Int) : IntKind.wrap .u64 a = a % 18446744073709551616 := by
 simp [IntKind.wrap, IntKind.signed, IntKind.bits]
theorem wrap_i64_small {n : Nat} (h : n < 9223372036854775808) : IntKind.wrap .i64 (n : Int) = n := by
 simp only [IntKind.wrap, IntKind.signed, IntKind.bits]
 have h1 : (n : Int) % 2 ^ 64 = n := Int.emod_eq_of_lt (by omega) (by omega)
 simp only [h1, Bool.true_and]
 rw [if_neg]
 simp
 omega
theorem umod_lt (a : Int) {m : Nat} (h : 0 < m) : umod a m < m := by
 unfold umod
 have h0 : 0 <= IntKind.wrap .u64 a := by rw [wrap_u64]; exact Int.emod_nonneg _ (by decide)
 have h1 := Int.tmod_lt_of_pos (IntKind.wrap .u64 a) (show (0 : Int) < m by omega)
 have h2 := Int.tmod_nonneg (m : Int) h0
 omega
theorem umod_eq (a : Int) (m : Nat) : (IntKind.wrap .u64 a).tmod m = (umod a m : Int) := by
 have h0 : 0 <= IntKind.wrap .u64 a := by rw [wrap_u64]; exact Int.emod_nonneg _ (by decide)
 have h2 := Int.tmod_nonneg (m : Int) h0
 unfold umod
 omega
def qH (a : Int) (m : Nat) : Nat := (bits .and .i64 a (.ofNat m)).toNat
theorem ABB (a : Int) {m : Nat} (hm : m < 9223372036854775808) : ∃ x : Nat, bits .and .i64 a (.ofNat m) = x /\ x <= m := by
 refine ⟨(BitVec.ofInt 64 a &&& BitVec.ofInt 64 (.ofNat m)).toNat, ?_, ?_⟩
 ·have h1 : (BitVec.ofInt 64 a &&& BitVec.ofInt 64 (.ofNat m)).toNat < 9223372036854775808 := by
   rw [BitVec.toNat_and]
   refine Nat.lt_of_le_of_lt Nat.and_le_right ?_
   simp; omega
  exact wrap_i64_small h1
 ·rw [BitVec.toNat_and]
  refine Nat.le_trans Nat.and_le_right ?_
  simp; omega
theorem nT (a : Int) {m : Nat} (hm : m < 9223372036854775808) : bits .and .i64 a (.ofNat m) = (qH a m : Int) /\ qH a m <= m := by
 obtain ⟨x, hx, hle⟩ := ABB a hm
 unfold qH
 rw [hx]
 exact ⟨rfl, hle⟩
theorem wK (a : Int) {m : Nat} (hm : m < 9223372036854775808) : AFT .i64 a (.ofNat m) = .ofNat (qH a m) := by
 rw [<- show ((qH a m : Nat) : Int) = .ofNat (qH a m) from rfl, <- (nT a hm).1]
 cases a with
 | ofNat n => show PY .i64 (.ofNat (Nat.land n m)) = _; rw [Qh, kK]; rfl
 | negSucc n => rfl
end Go.Eng
