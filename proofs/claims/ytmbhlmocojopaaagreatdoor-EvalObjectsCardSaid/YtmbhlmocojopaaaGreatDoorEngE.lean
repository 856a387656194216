/- Part of a proof: texts En34 En35 En36 En37 En38 En39 En40 En41 En42 En44n of the engine and what is proved with it; nothing is assumed. -/
import Derived.Test.YtmbhlmocojopaaaGreatDoorEngD
import Derived.Scope
import Derived.Defers
import Derived.ChangeSame
import Derived.ChangeVars
import Derived.JoinedOf
import Derived.RowKit
import Derived.RowKitTokens
import Derived.LaidLaws
import Derived.LaidHandle
import Derived.Carry
import Derived.ProofKit
import Derived.Stop.Joined
import Derived.OpenShut
set_option linter.unusedVariables false
set_option linter.unusedSimpArgs false
/- The engine, part 34: a check that gives the static facts on a region whose order is open. -/
namespace Go.Eng
variable {P : Program}

/- all that an operation comes behind, as a table -/
def addAll : List Nat → List Nat → List Nat
  | [], l => l
  | x :: r, l => if l.elem x then addAll r l else addAll r (x :: l)
theorem mem_addAll {x : Nat} : ∀ (r l : List Nat), x ∈ addAll r l → x ∈ r ∨ x ∈ l
  | [], l, h => .inr h
  | y :: r, l, h => by
    simp only [addAll] at h
    split at h
    · rcases mem_addAll r l h with h | h
      · exact .inl (List.mem_cons_of_mem _ h)
      · exact .inr h
    · rcases mem_addAll r _ h with h | h
      · exact .inl (List.mem_cons_of_mem _ h)
      · rcases List.mem_cons.1 h with rfl | h
        · exact .inl List.mem_cons_self
        · exact .inr h
def ancOf (acc : List (List Nat)) : List Edge → List Nat
  | [] => []
  | e :: r => if Region.binds .any e then addAll (e.on :: (acc[e.on]?).getD []) (ancOf acc r) else ancOf acc r
def ancT : List Oper → List (List Nat) → List (List Nat)
  | [], acc => acc
  | o :: r, acc => ancT r (acc ++ [ancOf acc o.after.toList])
theorem mem_ancOf {acc : List (List Nat)} {x : Nat} : ∀ (es : List Edge), x ∈ ancOf acc es → ∃ e ∈ es, Region.binds .any e = true ∧ (x = e.on ∨ x ∈ (acc[e.on]?).getD [])
  | [], h => by cases h
  | e :: r, h => by
    simp only [ancOf] at h
    split at h
    · rename_i hb
      rcases mem_addAll _ _ h with h | h
      · exact ⟨e, List.mem_cons_self, hb, by rcases List.mem_cons.1 h with h | h; · exact .inl h
                                             · exact .inr h⟩
      · obtain ⟨e', he', h'⟩ := mem_ancOf r h; exact ⟨e', List.mem_cons_of_mem _ he', h'⟩
    · obtain ⟨e', he', h'⟩ := mem_ancOf r h; exact ⟨e', List.mem_cons_of_mem _ he', h'⟩
theorem before_direct {ops : Array Oper} {i : Nat} {o : Oper} (ho : ops[i]? = some o) {e : Edge} (he : e ∈ o.after) (hb : Region.binds .any e = true) : Before ops e.on i := fun S _ hd => hd o ho e he hb
theorem before_trans {ops : Array Oper} {x y i : Nat} (h1 : Before ops x y) (h2 : Before ops y i) : Before ops x i := fun S hc hd => by
  have hy := h2 S hc hd
  exact h1 S hc fun o ho e he hb => hc y o hy ho e he hb
theorem ancT_spec {ops : Array Oper} : ∀ (l : List Oper) (acc : List (List Nat)), (∀ j, l[j]? = ops[acc.length + j]?) → (∀ i x, x ∈ (acc[i]?).getD [] → Before ops x i) → ∀ i x, x ∈ ((ancT l acc)[i]?).getD [] → Before ops x i
  | [], acc, _, h => h
  | o :: r, acc, hl, h => by
    have ho : ops[acc.length]? = some o := by have := hl 0; simpa using this.symm
    refine ancT_spec r (acc ++ [ancOf acc o.after.toList]) (fun j => ?_) ?_
    · have := hl (j + 1)
      rw [List.getElem?_cons_succ] at this
      rw [this, List.length_append, List.length_singleton, Nat.add_assoc, Nat.add_comm 1 j]
    · intro i x hx
      by_cases hi : i < acc.length
      · rw [List.getElem?_append_left hi] at hx; exact h i x hx
      · rw [List.getElem?_append_right (by omega)] at hx
        have hi0 : i = acc.length := by
          cases hk : i - acc.length with
          | zero => omega
          | succ k => rw [hk] at hx; simp at hx
        subst hi0
        simp only [Nat.sub_self, List.getElem?_cons_zero, Option.getD_some] at hx
        obtain ⟨e, he, hb, hx⟩ := mem_ancOf _ hx
        have hd := before_direct ho (by simpa using he) hb
        rcases hx with rfl | hx
        · exact hd
        · exact before_trans (h _ _ hx) hd

noncomputable def stpsOf (P : Program) (C : FX) (ops : Array Oper) : List (Nat × Wk) → Option (List Stp)
  | [] => some []
  | (i, wk) :: r => bind2 (stpOf P C ops i wk) fun s => bind2 (stpsOf P C ops r) fun l => some (s :: l)
theorem stpsOf_ok {C : FX} {ops : Array Oper} : ∀ (l : List (Nat × Wk)) (ss : List Stp), stpsOf P C ops l = some ss → ∀ s ∈ ss, StpOk P C ops s
  | [], ss, h, s, hs => by cases h; cases hs
  | (i, wk) :: r, ss, h, s, hs => by
    simp only [stpsOf] at h
    obtain ⟨s0, h0, h⟩ := bind2_some.1 h
    obtain ⟨l, hl, e⟩ := bind2_some.1 h; cases e
    rcases List.mem_cons.1 hs with rfl | hs
    · exact (stpOf_ok h0).1
    · exact stpsOf_ok r l hl s hs
def hasI (i : Nat) : List Stp → Bool
  | [] => false
  | s :: r => Nat.beq s.i i || hasI i r
theorem hasI_iff {i : Nat} : ∀ {l : List Stp}, hasI i l = true ↔ ∃ s ∈ l, s.i = i
  | [] => by simp [hasI]
  | s :: r => by simp [hasI, hasI_iff (l := r)]
def chkAll (ss : List Stp) : Nat → Bool
  | 0 => true
  | n + 1 => hasI n ss && chkAll ss n
def chkTopo : List Stp → List Stp → Bool
  | _, [] => true
  | done, s :: r => !hasI s.i done && s.o.after.toList.all (fun e => !Region.binds .any e || hasI e.on done) && chkTopo (done ++ [s]) r
def chkAct (anc : Nat → List Nat) : List Stp → Bool
  | [] => true
  | j :: r => (!j.ao.isE || r.all fun s => (anc s.i).elem j.i) && chkAct anc r
def isTo : Dst → Bool
  | .to _ => true
  | _ => false
def isNoG : Gd → Bool
  | .no => true
  | _ => false
def chkOne (s : Stp) : Bool :=
  (s.ao.isE || match s.dt with | some t => !s.rd.elem t | none => true) && (!s.ao.isR || isTo s.dst)
def chkTwo (anc : Nat → List Nat) (s k : Stp) : Bool :=
  Nat.beq s.i k.i || match s.dt with
    | none => true
    | some t => (match k.dt with | some u => !Nat.beq t u | none => true) && (!k.rd.elem t || ((anc k.i).elem s.i || (s.ao.isE && (anc s.i).elem k.i)))
def chkReg (ops : Array Oper) (anc : Nat → List Nat) (ss : List Stp) : Bool :=
  Nat.ble ss.length ops.size && chkAll ss ops.size && chkTopo [] ss && chkAct anc ss && ss.all chkOne && ss.all fun s => ss.all (chkTwo anc s)
theorem chkAll_spec {ss : List Stp} : ∀ {n : Nat}, chkAll ss n = true → ∀ i, i < n → ∃ s ∈ ss, s.i = i
  | 0, _, i, hi => by omega
  | n + 1, h, i, hi => by
    simp only [chkAll, Bool.and_eq_true] at h
    rcases Nat.lt_or_ge i n with hlt | hge
    · exact chkAll_spec h.2 i hlt
    · have : i = n := by omega
      subst this; exact hasI_iff.1 h.1
theorem chkTopo_spec : ∀ {r done : List Stp}, chkTopo done r = true → ∀ pre s post, r = pre ++ s :: post → (∀ x ∈ done ++ pre, x.i ≠ s.i) ∧ ∀ e ∈ s.o.after, Region.binds .any e = true → ∃ x ∈ done ++ pre, x.i = e.on
  | [], done, _, pre, s, post, he => by cases pre <;> cases he
  | t :: r, done, h, pre, s, post, he => by
    simp only [chkTopo, Bool.and_eq_true, Bool.not_eq_true'] at h
    obtain ⟨⟨h1, h2⟩, h3⟩ := h
    cases pre with
    | nil =>
      simp only [List.nil_append, List.cons.injEq] at he
      obtain ⟨rfl, rfl⟩ := he
      refine ⟨fun x hx e => ?_, fun e he hb => ?_⟩
      · rw [List.append_nil] at hx
        rw [hasI_iff.2 ⟨x, hx, e⟩] at h1; cases h1
      · rw [List.append_nil]
        rw [List.all_eq_true] at h2
        have := h2 e (by simpa using he)
        rw [hb] at this
        exact hasI_iff.1 (by simpa using this)
    | cons u pre =>
      simp only [List.cons_append, List.cons.injEq] at he
      obtain ⟨rfl, rfl⟩ := he
      have := chkTopo_spec h3 pre s post rfl
      rw [List.append_assoc, List.singleton_append] at this
      exact this
theorem chkAct_spec {anc : Nat → List Nat} : ∀ {ss : List Stp}, chkAct anc ss = true → ∀ pre j mid s post, ss = pre ++ j :: (mid ++ s :: post) → j.ao.isE = true → j.i ∈ anc s.i
  | [], _, pre, j, mid, s, post, he => by cases pre <;> cases he
  | t :: r, h, pre, j, mid, s, post, he => by
    simp only [chkAct, Bool.and_eq_true] at h
    cases pre with
    | nil =>
      simp only [List.nil_append, List.cons.injEq] at he
      obtain ⟨rfl, rfl⟩ := he
      intro hE
      have h1 := h.1
      rw [hE] at h1
      simp only [Bool.not_true, Bool.false_or, List.all_eq_true] at h1
      simpa using h1 s (by simp)
    | cons u pre =>
      simp only [List.cons_append, List.cons.injEq] at he
      obtain ⟨rfl, rfl⟩ := he
      exact chkAct_spec h.2 pre j mid s post rfl
theorem chkReg_spec {C : FX} {ops : Array Oper} {l : List (Nat × Wk)} {ss : List Stp} (hs : stpsOf P C ops l = some ss) (h : chkReg ops (fun i => ((ancT ops.toList [])[i]?).getD []) ss = true) : RegOk P C ops ss (fun i => ((ancT ops.toList [])[i]?).getD []) := by
  have hanc := ancT_spec (ops := ops) ops.toList [] (fun j => by simp) (fun i x hx => by simp at hx)
  simp only [chkReg, Bool.and_eq_true] at h
  obtain ⟨⟨⟨⟨⟨h1, h2⟩, h3⟩, h4⟩, h5⟩, h6⟩ := h
  rw [List.all_eq_true] at h5 h6
  refine { ok := stpsOf_ok l ss hs, all := chkAll_spec h2, inj := ?_, topo := ?_, act := fun pre j mid s post he hE => hanc _ _ (chkAct_spec h4 pre j mid s post he hE), own := ?_, regs := ?_, anc := hanc, rdst := ?_, len := Nat.le_of_ble_eq_true h1 }
  · intro pre s post he
    refine ⟨fun x hx => by have := (chkTopo_spec h3 pre s post he).1; exact this x (by simpa using hx), fun x hx e => ?_⟩
    obtain ⟨q1, q2, rfl⟩ := List.append_of_mem hx
    have := (chkTopo_spec h3 (pre ++ s :: q1) x q2 (by rw [he]; simp)).1 s (by simp)
    exact this e.symm
  · intro pre s post he e hem hb
    have := (chkTopo_spec h3 pre s post he).2 e hem hb
    simpa using this
  · intro s hsm hE t hdt ht
    have := h5 s hsm
    simp only [chkOne, Bool.and_eq_true] at this
    have h7 := this.1
    rw [hE, hdt] at h7
    simp only [Bool.false_or, Bool.not_eq_true'] at h7
    rw [Bool.eq_false_iff] at h7
    exact h7 (by simpa using ht)
  · intro s hsm k hkm hne t hdt
    have := h6 s hsm
    rw [List.all_eq_true] at this
    have := this k hkm
    unfold chkTwo at this
    rw [hdt] at this
    have hb : Nat.beq s.i k.i = false := by rw [Bool.eq_false_iff]; intro e; exact hne (Nat.eq_of_beq_eq_true e)
    rw [hb] at this
    simp only [Bool.false_or, Bool.and_eq_true] at this
    refine ⟨fun hk => ?_, fun ht => ?_⟩
    · have h8 := this.1
      rw [hk] at h8
      simp at h8
    · have h8 := this.2
      have : k.rd.elem t = true := by simpa using ht
      rw [this] at h8
      simp only [Bool.not_true, Bool.false_or, Bool.or_eq_true, Bool.and_eq_true] at h8
      rcases h8 with h8 | ⟨h8, h9⟩
      · exact .inl (hanc _ _ (by simpa using h8))
      · exact .inr ⟨h8, hanc _ _ (by simpa using h9)⟩
  · intro s hsm hR
    have := h5 s hsm
    simp only [chkOne, Bool.and_eq_true] at this
    have h7 := this.2
    rw [hR] at h7
    cases hd : s.dst with
    | no => rw [hd] at h7; simp [isTo] at h7
    | ps => rw [hd] at h7; simp [isTo] at h7
    | to p => exact ⟨p, rfl⟩
end Go.Eng

/- The engine, part 35: code. -/
namespace Go.Eng
variable {P : Program}

abbrev Ords := List (Nat × List (Nat × Wk))
def ordOf (id : Nat) : Ords → Option (List (Nat × Wk))
  | [] => none
  | (i, l) :: r => if i = id then some l else ordOf id r
def ancs (ops : Array Oper) : Nat → List Nat := fun i => ((ancT ops.toList [])[i]?).getD []
noncomputable def trC (P : Program) (C : FX) (ords : Ords) : Code → Option AC
  | .skip => some .skip
  | .region id ops draw => match draw with
    | false => bind2 (trItems P C ops [] 0 ops.toList) fun l => some (.ops l)
    | true => bind2 (ordOf id ords) fun l => bind2 (stpsOf P C ops l) fun ss => match chkReg ops (fun i => ((ancT ops.toList [])[i]?).getD []) ss with
      | true => some (.reg (itemsOf (fun i => ((ancT ops.toList [])[i]?).getD []) [] ss))
      | false => none
  | .seq a b => bind2 (trC P C ords a) fun a => bind2 (trC P C ords b) fun b => some (.seq a b)
  | .cond c a b => bind2 (trX0 C [] 0 c) fun x => bind2 (trC P C ords a) fun a => bind2 (trC P C ords b) fun b => some (.cond x a b)
  | .block id c => bind2 (trC P C ords c) fun c => some (.block id c)
  | .loop c => bind2 (trC P C ords c) fun c => some (.loop c)
  | .exit id => some (.exit id)
  | .ret => some .ret
  | .scope c => trC P C ords c
  | .label _ => some .skip
  | _ => none

def Fr (w0 : World) (C : FX) (ρ0 : Loc) (H0 : Heap) (n0 : Nat) (R : Regs) (H : Heap) (n : Nat) (a : Act) (w : World) : Prop := ∃ ρ, HRel w0 ρ H n w ∧ Rg C ρ R a ∧ Guar ρ0 H0 n0 ρ H n
theorem least {p : Nat → Prop} (h : ∃ m, p m) : ∃ m, p m ∧ ∀ j, p j → m ≤ j := by
  obtain ⟨m, hm⟩ := h
  induction m using Nat.strongRecOn with
  | _ m ih =>
    by_cases h : ∃ j, j < m ∧ p j
    · obtain ⟨j, hj, hp⟩ := h; exact ih j hj hp
    · refine ⟨m, hm, fun j hj => ?_⟩
      rcases Nat.lt_or_ge j m with hlt | hge
      · exact absurd ⟨j, hlt, hj⟩ h
      · exact hge
open Classical in
noncomputable def lst (p : Nat → Prop) : Nat := if h : ∃ m, p m then (least h).choose else 0
theorem lst_spec {p : Nat → Prop} (h : ∃ m, p m) : p (lst p) ∧ ∀ j, p j → lst p ≤ j := by
  unfold lst
  rw [dif_pos h]
  exact (least h).choose_spec
theorem env_nil {C : FX} {ρ : Loc} {R : Regs} {a : Act} : EnvR C ρ (.mk [] R) 0 [] a := ⟨rfl, fun t ev h => by cases h⟩

section
variable {w0 : World} {C : FX} {ords : Ords} {ρ0 : Loc} {H0 : Heap} {n0 : Nat} {G : Roms} {call : CallT} {lf : Nat}
theorem code_sound (hm : P.follows .mixedOrders = true) (hc : CallOk P w0 call) (hg : GRel w0 G) : ∀ (c : Code) (ac : AC), trC P C ords c = some ac → ∀ (Q : Exit → Act → World → Prop) (R : Regs) (H : Heap) (n : Nat) (k : K) (x : KX) (r : K) (a : Act) (w : World),
    (∀ R H n a w, k R H n → Fr w0 C ρ0 H0 n0 R H n a w → Q .normal a w) → (∀ i R H n a w, x i R H n → Fr w0 C ρ0 H0 n0 R H n a w → Q (.exit i) a w) → (∀ R H n a w, r R H n → Fr w0 C ρ0 H0 n0 R H n a w → Q .ret a w) →
    ac.ex G call lf R H n k x r → Fr w0 C ρ0 H0 n0 R H n a w → c.wp P Q a w := by
  intro c
  induction c with
  | skip =>
    intro ac h Q R H n k x r a w hk hx hr he hf
    cases h
    exact wp_skip (hk _ _ _ _ _ he hf)
  | region id ops draw =>
    intro ac h Q R H n k x r a w hk hx hr he hf
    obtain ⟨ρ, hh, hrg, hgu⟩ := hf
    cases draw with
    | false =>
      simp only [trC] at h
      obtain ⟨l, hl, e⟩ := bind2_some.1 h; cases e
      have he' : exOps l G call (.mk [] R) H n (fun E H n => k E.rg H n) := he
      exact wp_region_list (items_sound (ρ0 := ρ0) (H0 := H0) (n0 := n0) hc hg (fun E H n a w ρ hK hh hr hgu => hk _ _ _ _ _ hK ⟨ρ, hh, hr, hgu⟩) ops.toList [] 0 l hl _ H n a w ρ he' hh hrg env_nil hgu)
    | true =>
      simp only [trC] at h
      obtain ⟨l, hl, h⟩ := bind2_some.1 h
      obtain ⟨ss, hss, h⟩ := bind2_some.1 h
      split at h
      · rename_i hchk
        cases h
        have R0 := chkReg_spec hss hchk
        have he' : exItems (itemsOf (fun i => ((ancT ops.toList [])[i]?).getD []) [] ss) G call (.mk [] R) H n (fun E H n => k E.rg H n) := he
        exact reg_sound hm R0 hc hg hh hrg he' fun E H n a w ρ' hK hh' hr' hgu' => hk _ _ _ _ _ hK ⟨ρ', hh', hr', hgu.trans hgu'⟩
      · cases h
  | seq c1 c2 ih1 ih2 =>
    intro ac h Q R H n k x r a w hk hx hr he hf
    simp only [trC] at h
    obtain ⟨a1, h1, h⟩ := bind2_some.1 h
    obtain ⟨a2, h2, e⟩ := bind2_some.1 h; cases e
    have he' : a1.ex G call lf R H n (fun R H n => a2.ex G call lf R H n k x r) x r := he
    refine wp_seq (ih1 a1 h1 _ R H n _ x r a w ?_ ?_ ?_ he' hf)
    · intro R H n a w hk' hf'
      exact ih2 a2 h2 Q R H n k x r a w hk hx hr hk' hf'
    · intro i R H n a w hx' hf'; exact hx i R H n a w hx' hf'
    · intro R H n a w hr' hf'; exact hr R H n a w hr' hf'
  | cond c c1 c2 ih1 ih2 =>
    intro ac h Q R H n k x r a w hk hx hr he hf
    simp only [trC] at h
    obtain ⟨cx, hcx, h⟩ := bind2_some.1 h
    obtain ⟨a1, h1, h⟩ := bind2_some.1 h
    obtain ⟨a2, h2, e⟩ := bind2_some.1 h; cases e
    have he' : onTst (cx.ev (.mk [] R)) true (a1.ex G call lf R H n k x r) (a2.ex G call lf R H n k x r) := he
    rw [onTst_iff] at he'
    obtain ⟨t, ht, he'⟩ := he'
    obtain ⟨ρ, hh, hrg, hgu⟩ := hf
    have hv := trX0_rel (E := .mk [] R) hrg env_nil c cx hcx
    rw [ht] at hv
    simp only [VRel] at hv
    refine wp_cond_split hv (fun e => ?_) (fun e => ?_)
    · rw [if_pos e] at he'
      exact ih1 a1 h1 Q R H n k x r a w hk hx hr he' ⟨ρ, hh, hrg, hgu⟩
    · rw [if_neg (by simp [e])] at he'
      exact ih2 a2 h2 Q R H n k x r a w hk hx hr he' ⟨ρ, hh, hrg, hgu⟩
  | block id c ih =>
    intro ac h Q R H n k x r a w hk hx hr he hf
    simp only [trC] at h
    obtain ⟨a1, h1, e⟩ := bind2_some.1 h; cases e
    have he' : a1.ex G call lf R H n k (blockX id k x) r := he
    refine wp_block (ih a1 h1 _ R H n k _ r a w ?_ ?_ ?_ he' hf)
    · intro R H n a w hk' hf'; exact hk R H n a w hk' hf'
    · intro i R H n a w hx' hf'
      simp only [Exit.inBlock]
      cases hb : Nat.beq i id with
      | true =>
        have hx2 : (Bool.rec (motive := fun _ => Prop → Prop → Prop) (fun a _ => a) (fun _ b => b) (Nat.beq i id) (x i R H n) (k R H n) : Prop) := hx'
        rw [hb] at hx2
        rw [if_pos (Nat.eq_of_beq_eq_true hb)]
        exact hk R H n a w hx2 hf'
      | false =>
        have hx2 : (Bool.rec (motive := fun _ => Prop → Prop → Prop) (fun a _ => a) (fun _ b => b) (Nat.beq i id) (x i R H n) (k R H n) : Prop) := hx'
        rw [hb] at hx2
        rw [if_neg (fun e => by subst e; simp at hb)]
        exact hx i R H n a w hx2 hf'
    · intro R H n a w hr' hf'; exact hr R H n a w hr' hf'
  | loop c ih =>
    intro ac h Q R H n k x r a w hk hx hr he hf
    simp only [trC] at h
    obtain ⟨a1, h1, e⟩ := bind2_some.1 h; cases e
    have he' : loopF (AC.ex a1) G call lf lf R H n x r := he
    have J : ∃ m R H n, loopF (AC.ex a1) G call lf m R H n x r ∧ Fr w0 C ρ0 H0 n0 R H n a w := ⟨lf, R, H, n, he', hf⟩
    refine wp_loop (fun a w => ∃ m R H n, loopF (AC.ex a1) G call lf m R H n x r ∧ Fr w0 C ρ0 H0 n0 R H n a w) (fun a w => lst fun m => ∃ R H n, loopF (AC.ex a1) G call lf m R H n x r ∧ Fr w0 C ρ0 H0 n0 R H n a w) J ?_
    intro a w hI
    obtain ⟨hp, _⟩ := lst_spec hI
    cases hm0 : lst (fun m => ∃ R H n, loopF (AC.ex a1) G call lf m R H n x r ∧ Fr w0 C ρ0 H0 n0 R H n a w) with
    | zero =>
      rw [hm0] at hp
      obtain ⟨R, H, n, hl, _⟩ := hp
      exact (show False from hl).elim
    | succ m =>
      rw [hm0] at hp
      obtain ⟨R, H, n, hl, hf⟩ := hp
      have hl' : a1.ex G call lf R H n (fun R H n => loopF (AC.ex a1) G call lf m R H n x r) x r := hl
      refine ih a1 h1 _ R H n _ x r a w ?_ ?_ ?_ hl' hf
      · intro R H n a' w' hk' hf'
        refine ⟨⟨m, R, H, n, hk', hf'⟩, ?_⟩
        have := (lst_spec (p := fun m => ∃ R H n, loopF (AC.ex a1) G call lf m R H n x r ∧ Fr w0 C ρ0 H0 n0 R H n a' w') ⟨m, R, H, n, hk', hf'⟩).2 m ⟨R, H, n, hk', hf'⟩
        omega
      · intro i R H n a w hx' hf'; exact hx i R H n a w hx' hf'
      · intro R H n a w hr' hf'; exact hr R H n a w hr' hf'
  | exit id =>
    intro ac h Q R H n k x r a w hk hx hr he hf
    cases h
    exact wp_exit (hx id _ _ _ _ _ he hf)
  | ret =>
    intro ac h Q R H n k x r a w hk hx hr he hf
    cases h
    exact wp_ret (hr _ _ _ _ _ he hf)
  | scope c ih =>
    intro ac h Q R H n k x r a w hk hx hr he hf
    simp only [trC] at h
    exact wp_scope_straight (ih ac h _ R H n k x r a w hk hx hr he hf)
  | label l =>
    intro ac h Q R H n k x r a w hk hx hr he hf
    cases h
    exact wp_label (hk _ _ _ _ _ he hf)
  | _ => intro ac h; simp only [trC] at h; cases h
end
end Go.Eng

/- The engine, part 36: functions. -/
namespace Go.Eng
variable {P : Program}

/- results -/
noncomputable def trRes (P : Program) (C : FX) : List ResultVar → Option (List AR)
  | [] => some []
  | .tmp t :: r => if t < C.nt then if C.loc t then none else bind2 (trRes P C r) fun l => some (.tmp (pth t) :: l) else none
  | .cell a ty :: r => if a < C.nt then if C.loc a then none else match isAggT P ty with
      | some true => bind2 (szT P ty) fun n => bind2 (trRes P C r) fun l => some (.celln (pth a) n :: l)
      | some false => bind2 (trRes P C r) fun l => some (.cell1 (pth a) :: l)
      | none => none
    else none
theorem getRs_cons (r : AR) (l : List AR) (G : Roms) (R : Regs) (H : Heap) : getRs (r :: l) G R H = gbind (r.get G R H) fun v => gbind (getRs l G R H) fun vs => some (v :: vs) := rfl
def resSem (tmps : Array Value) : ResultVar → Sem Value
  | .tmp t => pure (tmps.getD t undef)
  | .cell b t => do loadVar t (← asAddr (tmps.getD b undef))
theorem res_run {w0 : World} {C : FX} {ρ : Loc} {R : Regs} {H : Heap} {n : Nat} {a : Act} {w : World} {G : Roms} (hg : GRel w0 G) (hh : HRel w0 ρ H n w) (hr : Rg C ρ R a) : ∀ (rs : List ResultVar) (l : List AR) (vs : LV), trRes P C rs = some l → getRs l G R H = some vs →
    ∃ us, (rs.mapM (resSem a.tmps)).run P w = .ok us w ∧ LRel ρ vs us
  | [], l, vs, h, hv => by
    cases h
    have hv' : some [] = some vs := hv
    cases hv'
    exact ⟨[], by simp, LRel.nil⟩
  | .tmp t :: r, l, vs, h, hv => by
    simp only [trRes] at h
    split at h
    · rename_i ht
      split at h
      · cases h
      · rename_i hl
        obtain ⟨l', hl', e⟩ := bind2_some.1 h; cases e
        rw [getRs_cons, gbind_some] at hv
        obtain ⟨v, hv1, hv⟩ := hv
        rw [gbind_some] at hv
        obtain ⟨vs', hv2, hv⟩ := hv
        cases hv
        have hv1' : some (odef (T.getp (pth t) R)) = some v := hv1
        cases hv1'
        obtain ⟨us, hus, hrel⟩ := res_run hg hh hr r l' vs' hl' hv2
        refine ⟨a.tmps.getD t undef :: us, ?_, .cons (hr.reg t ht (by simpa using hl)) hrel⟩
        simp only [List.mapM_cons, resSem, Sem.run_bind, Sem.run_pure, Result.andThen_ok, hus]
    · cases h
  | .cell b ty :: r, l, vs, h, hv => by
    simp only [trRes] at h
    split at h
    · rename_i hb
      split at h
      · cases h
      · rename_i hl
        have hreg := hr.reg b hb (by simpa using hl)
        split at h
        · rename_i hag
          obtain ⟨m, hm, h⟩ := bind2_some.1 h
          obtain ⟨l', hl', e⟩ := bind2_some.1 h; cases e
          rw [getRs_cons, gbind_some] at hv
          obtain ⟨v, hv1, hv⟩ := hv
          rw [gbind_some] at hv
          obtain ⟨vs', hv2, hv⟩ := hv
          cases hv
          obtain ⟨us, hus, hrel⟩ := res_run hg hh hr r l' vs' hl' hv2
          have hv1' : lbind (ldP (odef (T.getp (pth b) R)) G H m) (fun L => some (.agg L)) = some v := hv1
          obtain ⟨val, hrun, hvr⟩ := run_ldn (P := P) hh hg hreg hag hm hv1'
          refine ⟨val :: us, ?_, .cons hvr hrel⟩
          have hq : (resSem a.tmps (.cell b ty)).run P w = .ok val w := by
            obtain ⟨L0, hL0, _⟩ := lbind_some.1 hv1'
            obtain ⟨a0, _, ha0, _⟩ := ldP_spec hh hg hreg hL0
            have ha1 : a.tmps.getD b undef = .pointer (some a0) := ha0
            rw [← hrun]
            simp only [resSem, Instr.loadAt, ha0, ha1, asAddr, Instr.sureAddr]
          simp only [List.mapM_cons, Sem.run_bind, hq, Sem.run_pure, Result.andThen_ok, hus]
        · rename_i hag
          obtain ⟨l', hl', e⟩ := bind2_some.1 h; cases e
          rw [getRs_cons, gbind_some] at hv
          obtain ⟨v, hv1, hv⟩ := hv
          rw [gbind_some] at hv
          obtain ⟨vs', hv2, hv⟩ := hv
          cases hv
          obtain ⟨us, hus, hrel⟩ := res_run hg hh hr r l' vs' hl' hv2
          have hv1' : lbind (ldP (odef (T.getp (pth b) R)) G H 1) (fun L => nth L 0) = some v := hv1
          obtain ⟨val, hrun, hvr⟩ := run_ld1 (P := P) hh hg hreg hag hv1'
          refine ⟨val :: us, ?_, .cons hvr hrel⟩
          have hq : (resSem a.tmps (.cell b ty)).run P w = .ok val w := by
            obtain ⟨L0, hL0, _⟩ := lbind_some.1 hv1'
            obtain ⟨a0, _, ha0, _⟩ := ldP_spec hh hg hreg hL0
            have ha1 : a.tmps.getD b undef = .pointer (some a0) := ha0
            rw [← hrun]
            simp only [resSem, Instr.loadAt, ha0, ha1, asAddr, Instr.sureAddr]
          simp only [List.mapM_cons, Sem.run_bind, hq, Sem.run_pure, Result.andThen_ok, hus]
        · cases h
    · cases h
end Go.Eng

/- The engine, part 37: functions, and runs. -/
namespace Go.Eng
variable {P : Program}

theorem oneV_rel {ρ : Loc} {vs : LV} {us : List Value} (h : LRel ρ vs us) : VRel ρ (oneV vs) (if h : us.toArray.size = 1 then us.toArray[0] else .tuple us.toArray) := by
  match vs, us, h with
  | [], us, h =>
    simp only [LRel_nil] at h; subst h
    simp only [List.size_toArray, List.length_nil]
    exact ⟨#[], rfl, by simp⟩
  | [v], us, h =>
    obtain ⟨u, us', rfl, hv, h'⟩ := LRel_cons.1 h
    simp only [LRel_nil] at h'; subst h'
    show VRel ρ v _
    simpa using hv
  | v :: w :: vs, us, h =>
    obtain ⟨u, us', rfl, hv, h'⟩ := LRel_cons.1 h
    obtain ⟨u2, us2, rfl, hv2, h2⟩ := LRel_cons.1 h'
    rw [dif_neg (by simp)]
    exact ⟨_, rfl, by simpa using h⟩
theorem results_run {w0 : World} {C : FX} {ρ : Loc} {R : Regs} {H : Heap} {n : Nat} {a : Act} {w : World} {G : Roms} (hg : GRel w0 G) (hh : HRel w0 ρ H n w) (hr : Rg C ρ R a) {fn : Func} {l : List AR} {vs : LV}
    (hl : trRes P C fn.results.toList = some l) (hv : getRs l G R H = some vs) : ∃ u, (results fn a.tmps).run P w = .ok u w ∧ VRel ρ (oneV vs) u := by
  obtain ⟨us, hus, hrel⟩ := res_run (P := P) hg hh hr fn.results.toList l vs hl hv
  refine ⟨_, ?_, oneV_rel hrel⟩
  unfold results
  rw [Array.mapM_eq_mapM_toList]
  have e : (fun x : ResultVar => match x with
      | .tmp t => (pure (a.tmps.getD t undef) : Sem Value)
      | .cell b t => do loadVar t (← asAddr (a.tmps.getD b undef))) = resSem a.tmps := by
    funext x; cases x <;> rfl
  simp only [map_eq_pure_bind, bind_assoc, pure_bind]
  rw [Sem.run_bind]
  have e2 : (List.mapM (fun x : ResultVar => match x with
      | .tmp t => (pure (a.tmps.getD t undef) : Sem Value)
      | .cell b t => do loadVar t (← asAddr (a.tmps.getD b undef))) fn.results.toList).run P w = .ok us w := by
    rw [e]; exact hus
  erw [e2]
  simp

/- a function, as it is translated -/
def allNot (f : Nat → Bool) : Nat → Bool
  | 0 => true
  | n + 1 => !f n && allNot f n
theorem allNot_spec {f : Nat → Bool} : ∀ {n : Nat}, allNot f n = true → ∀ i, i < n → f i = false
  | 0, _, i, hi => by omega
  | n + 1, h, i, hi => by
    simp only [allNot, Bool.and_eq_true, Bool.not_eq_true'] at h
    rcases Nat.lt_or_ge i n with hlt | hge
    · exact allNot_spec h.2 i hlt
    · have : i = n := by omega
      subst this; exact h.1
noncomputable def dpOf (nt : Nat) : Bool → Dst
  | true => .to (pth nt)
  | false => .no
noncomputable def trF (P : Program) (loc : Nat → Bool) (df : Bool) (ords : Ords) (dg : Nat) (fn : Func) : Option AF :=
  match fn.body with
  | some c => bind2 (trC P ⟨loc, fn.ntmps, df⟩ ords c) fun ac => bind2 (trRes P ⟨loc, fn.ntmps, df⟩ fn.results.toList) fun rs =>
    match Nat.ble (fn.params.size + fn.nfree) fn.ntmps && allNot loc (fn.params.size + fn.nfree) with
    | true => some (.mk (fn.params.size + fn.nfree) ac rs (dpOf fn.ntmps df) dg)
    | false => none
  | none => none
def isNo : Dst → Bool
  | .no => true
  | _ => false
def AF.dp : AF → Dst | .mk _ _ _ d _ => d | .nat _ => .ps
def AF.dg : AF → Nat | .mk _ _ _ _ g => g | .nat _ => 0
def AF.isNat : AF → Bool | .mk _ _ _ _ _ => false | .nat _ => true
def Ret (w0 : World) (ρ : Loc) (H : Heap) (n : Nat) (k : KV) (e : Ending) (w' : World) : Prop :=
  ∃ u v H' n' ρ', e = .returned u ∧ k v H' n' ∧ VRel ρ' v u ∧ HRel w0 ρ' H' n' w' ∧ Guar ρ H n ρ' H' n'
/- a function of the library does what is said of it -/
def NatOk (P : Program) (f : Nat) (k : Nk) : Prop := FnOk P f ∧ ∀ (w0 : World) (G : Roms), GRel w0 G → ∀ (vargs : List V) (H : Heap) (n : Nat) (kk : KV), natSem k G vargs H n kk → ∀ (ρ : Loc) (w : World) (args : Array Value), HRel w0 ρ H n w → LRel ρ vargs args.toList →
  Calls P f args w (Ret w0 ρ H n kk)
/- what is known of all functions -/
structure FnsOk (P : Program) (F : T AF) : Prop where
  mixed : P.follows .mixedOrders = true
  nats : ∀ f k, T.get F f = some (.nat k) → NatOk P f k
  fns : ∀ f af, T.get F f = some af → af.isNat = false → ∃ fn loc df ords, P.funcs[f]? = some fn ∧ (fn.name == "runtime.NumGoroutine") = false ∧ trF P loc df ords af.dg fn = some af
  dgs : ∀ f af af', T.get F f = some af → af.isNat = false → af.dp ≠ .no → T.get F af.dg = some af' → af'.dp = .no

def CallDOk (P : Program) (w0 : World) (call : CallT) (f : Nat) : Prop := ∀ (vargs : List V) (H : Heap) (n : Nat) (k : KV), call f vargs H n k → ∀ (ρ : Loc) (w : World) (args : Array Value), HRel w0 ρ H n w → LRel ρ vargs args.toList →
  CallsD P f args .returning w (fun e u' w' => u' = .returning ∧ Ret w0 ρ H n k e w')

theorem initR_get : ∀ (args : List V) (i : Nat) (R : Regs) (t : Nat), odef (T.getp (pth t) (initR args i R)) = if i ≤ t ∧ t < i + args.length then (args[t - i]?).getD .undef else odef (T.getp (pth t) R)
  | [], i, R, t => by
    show odef (T.getp (pth t) R) = _
    rw [if_neg (by simp)]
  | v :: vs, i, R, t => by
    show odef (T.getp (pth t) (initR vs (i + 1) (T.set R i v))) = _
    rw [initR_get vs (i + 1) (T.set R i v) t]
    by_cases h : i + 1 ≤ t ∧ t < i + 1 + vs.length
    · rw [if_pos h, if_pos (by simp; omega)]
      obtain ⟨m, hm⟩ : ∃ m, t = i + 1 + m := ⟨t - (i + 1), by omega⟩
      subst hm
      rw [show i + 1 + m - (i + 1) = m by omega, show i + 1 + m - i = m + 1 by omega]
      simp
    · rw [if_neg h]
      by_cases he : t = i
      · subst he
        rw [if_pos (by simp)]
        show odef (T.get (T.set R t v) t) = _
        simp
      · rw [if_neg (by simp; omega)]
        show odef (T.get (T.set R i v) t) = _
        rw [T.get_set_ne _ _ (fun e => he e.symm)]
        rfl

section
variable {w0 : World} {G : Roms} {F : T AF} {lf : Nat}
theorem start_rg {C : FX} {ρ : Loc} {vargs : List V} {args : Array Value} (hrel : LRel ρ vargs args.toList) (hsz : args.size ≤ C.nt) (hloc : ∀ i, i < args.size → C.loc i = false) :
    Rg C ρ (initR vargs 0 .e) { tmps := args ++ Array.replicate (C.nt - args.size) undef, defers := [] } := by
  have hlen : vargs.length = args.size := by rw [hrel.length]; simp
  refine ⟨by simp; omega, fun t ht hl => ?_, ?_⟩
  · rw [initR_get]
    by_cases h : t < vargs.length
    · rw [if_pos ⟨Nat.zero_le _, by omega⟩, Nat.sub_zero]
      obtain ⟨v, hv, hvr⟩ := hrel.get (i := t) (c := (vargs[t]?).getD .undef) (by rw [List.getElem?_eq_getElem h]; rfl)
      have : ({ tmps := args ++ Array.replicate (C.nt - args.size) undef, defers := [] } : Act).eval (.tmp t) = v := by
        have hv' : args[t]? = some v := by simpa using hv
        simp only [Act.eval]
        rw [Array.getD_eq_getD_getElem?, Array.getElem?_append_left (by omega), hv']
        rfl
      rw [this]; exact hvr
    · rw [if_neg (by omega)]
      simp [VRel]
  · rw [initR_get, if_neg (show ¬ (0 ≤ C.nt ∧ C.nt < 0 + vargs.length) by omega)]
    simp only [T.getp_e, odef_none]
    split
    · rfl
    · trivial
theorem exDef_ok {dg : Nat} {call : CallT} (hc : CallDOk P w0 call dg) (hfn : ∀ vargs H n k, call dg vargs H n k → FnOk P dg) {fn : Func} {tmps : Array Value} {R : Ending → World → Prop} (k : Heap → Nat → Prop) {ρ0 : Loc} {H0 : Heap} {n0 : Nat} :
    ∀ (l : List V) (ds : List Deferred) (ρ : Loc) (H : Heap) (n : Nat) (w : World), DL ρ l ds → HRel w0 ρ H n w → Guar ρ0 H0 n0 ρ H n → exDef dg l call H n k →
      (∀ ρ' H' n' w', k H' n' → HRel w0 ρ' H' n' w' → ρ.le ρ' → Guar ρ0 H0 n0 ρ' H' n' → Leaves P fn tmps R [] .returning w') → Leaves P fn tmps R ds .returning w
  | [], ds, ρ, H, n, w, hd, hh, hgu, hex, hk => by
    have : ds = [] := hd
    subst this
    exact hk ρ H n w hex hh (Loc.le.refl _) hgu
  | v :: l, ds, ρ, H, n, w, hd, hh, hgu, hex, hk => by
    obtain ⟨d, ds', rfl, ⟨f, fa, ca, fa', ca', rfl, rfl, hfa, hca⟩, hd'⟩ := hd
    have hex' : onB (Nat.beq f dg) (call f (cat fa ca) H n fun _ H n => exDef dg l call H n k) := hex
    rw [onB_eq] at hex'
    obtain ⟨hf, hcall⟩ := hex'
    have hf' : f = dg := Nat.eq_of_beq_eq_true hf
    subst hf'
    have hrun : (invoke (.fn (.func f) ca') fa').run P w = .ok (.enter f (fa' ++ ca')) w := by
      simpa [invoke] using run_callFunc (hfn _ _ _ _ hcall) (fa' ++ ca') w
    refine leaves_cons (by simp) hrun ?_
    rw [cat_eq] at hcall
    refine (hc _ H n _ hcall ρ w (fa' ++ ca') hh (by simpa using hfa.append hca)).mono ?_
    rintro e u' w' ⟨rfl, u, v, H', n', ρ', rfl, hex2, hv, hh', hg'⟩
    simp only [settle]
    exact exDef_ok hc hfn k l ds' ρ' H' n' w' (hd'.mono hg'.le) hh' (hgu.trans hg') hex2 fun ρ'' H'' n'' w'' h1 h2 h3 h4 => hk ρ'' H'' n'' w'' h1 h2 (hg'.le.trans h3) h4

theorem run_ok (hF : FnsOk P F) (hg : GRel w0 G) : ∀ fuel, CallOk P w0 (run F G lf fuel) ∧ ∀ f af, T.get F f = some af → af.dp = .no → CallDOk P w0 (run F G lf fuel) f
  | 0 => ⟨fun _ _ _ _ _ h => (show False from h).elim, fun _ _ _ _ _ _ _ _ h => (show False from h).elim⟩
  | fuel + 1 => by
    obtain ⟨ihc, ihd⟩ := run_ok hF hg fuel
    have main : ∀ (f : Nat) (vargs : List V) (H : Heap) (n : Nat) (k : KV), run F G lf (fuel + 1) f vargs H n k → (∀ nk, T.get F f ≠ some (.nat nk)) → FnOk P f ∧ ∃ af fn c, T.get F f = some af ∧ P.funcs[f]? = some fn ∧ fn.body = some c ∧
        ∀ (ρ : Loc) (w : World) (args : Array Value), HRel w0 ρ H n w → LRel ρ vargs args.toList →
          (c.wp P (bodyPostD P fn (Ret w0 ρ H n k)) { tmps := args ++ Array.replicate (fn.ntmps - args.size) undef, defers := [] } w) ∧
          (af.dp = .no → c.wp P (bodyPost P fn (Ret w0 ρ H n k)) { tmps := args ++ Array.replicate (fn.ntmps - args.size) undef, defers := [] } w) := by
      intro f vargs H n k h hnn
      have h' : onO (T.get F f) fun af => exFun af G (run F G lf fuel) lf vargs H n k := h
      rw [onO_iff] at h'
      obtain ⟨af, haf, h'⟩ := h'
      have hnf : af.isNat = false := by
        cases af with
        | mk => rfl
        | nat nk => exact absurd haf (hnn nk)
      obtain ⟨fn, loc, df, ords, hfn, hname, htr⟩ := hF.fns f af haf hnf
      unfold trF at htr
      split at htr
      · rename_i c hb
        obtain ⟨ac, hac, htr⟩ := bind2_some.1 htr
        obtain ⟨rs, hrs, htr⟩ := bind2_some.1 htr
        split at htr
        · rename_i hchk
          simp only [Bool.and_eq_true] at hchk
          have hle : fn.params.size + fn.nfree ≤ fn.ntmps := Nat.le_of_ble_eq_true hchk.1
          have hloc := allNot_spec hchk.2
          have haf' := Option.some.inj htr
          refine ⟨⟨fn, hfn, by rw [hb]; rfl, hname⟩, af, fn, c, haf, hfn, hb, ?_⟩
          intro ρ w args hh hrel
          rw [← haf'] at h'
          have h2 : onB (Nat.beq (len vargs) (fn.params.size + fn.nfree)) (ac.ex G (run F G lf fuel) lf (initR vargs 0 .e) H n
              (exFin rs af.dg (dpOf fn.ntmps df) G (run F G lf fuel) k) noX (exFin rs af.dg (dpOf fn.ntmps df) G (run F G lf fuel) k)) := h'
          rw [onB_eq] at h2
          obtain ⟨hlen, hex⟩ := h2
          have hlen' : vargs.length = fn.params.size + fn.nfree := by simpa using Nat.eq_of_beq_eq_true hlen
          have hsz : args.size = fn.params.size + fn.nfree := by rw [← hlen', hrel.length]; simp
          have hstart : Fr w0 ⟨loc, fn.ntmps, df⟩ ρ H n (initR vargs 0 .e) H n { tmps := args ++ Array.replicate (fn.ntmps - args.size) undef, defers := [] } w :=
            ⟨ρ, hh, start_rg (C := ⟨loc, fn.ntmps, df⟩) hrel (by show args.size ≤ fn.ntmps; omega) (fun i hi => hloc i (by omega)), Guar.refl _ _ _⟩
          -- the end of a body
          have hfin : ∀ R' H' n' a' w', (∃ l, getRs rs G R' H' = some l ∧ k (oneV l) H' n') → ∀ ρ', HRel w0 ρ' H' n' w' → Rg ⟨loc, fn.ntmps, df⟩ ρ' R' a' → Guar ρ H n ρ' H' n' →
              ∃ v, (results fn a'.tmps).run P w' = .ok v w' ∧ Ret w0 ρ H n k (.returned v) w' := by
            rintro R' H' n' a' w' ⟨l, hl, hk⟩ ρ' hh' hr' hgu'
            obtain ⟨u, hu, hvr⟩ := results_run (P := P) hg hh' hr' hrs hl
            exact ⟨u, hu, u, _, _, _, _, rfl, hk, hvr, hh', hgu'⟩
          cases df with
          | false =>
            have hend : ∀ R' H' n' a' w', exFin rs af.dg .no G (run F G lf fuel) k R' H' n' → Fr w0 ⟨loc, fn.ntmps, false⟩ ρ H n R' H' n' a' w' →
                a'.defers = [] ∧ ∃ v, (results fn a'.tmps).run P w' = .ok v w' ∧ Ret w0 ρ H n k (.returned v) w' := by
              rintro R' H' n' a' w' hx ⟨ρ', hh', hr', hgu'⟩
              have hx' : onO (getRs rs G R' H') fun l => k (oneV l) H' n' := hx
              rw [onO_iff] at hx'
              exact ⟨by simpa using hr'.dfs, hfin R' H' n' a' w' hx' ρ' hh' hr' hgu'⟩
            refine ⟨?_, fun _ => ?_⟩
            · refine code_sound hF.mixed ihc hg c ac hac _ _ _ _ _ _ _ _ _ ?_ ?_ ?_ hex hstart
              · intro R' H' n' a' w' hx hf
                obtain ⟨hd, hv⟩ := hend R' H' n' a' w' hx hf
                show Leaves P fn a'.tmps _ a'.defers .returning w'
                rw [hd]; exact hv
              · intro i R' H' n' a' w' hx hf; exact (show False from hx).elim
              · intro R' H' n' a' w' hx hf
                obtain ⟨hd, hv⟩ := hend R' H' n' a' w' hx hf
                show Leaves P fn a'.tmps _ a'.defers .returning w'
                rw [hd]; exact hv
            · refine code_sound hF.mixed ihc hg c ac hac _ _ _ _ _ _ _ _ _ ?_ ?_ ?_ hex hstart
              · intro R' H' n' a' w' hx hf; exact hend R' H' n' a' w' hx hf
              · intro i R' H' n' a' w' hx hf; exact (show False from hx).elim
              · intro R' H' n' a' w' hx hf; exact hend R' H' n' a' w' hx hf
          | true =>
            have hdp : af.dp = .to (pth fn.ntmps) := by rw [← haf']; rfl
            have hend : ∀ R' H' n' a' w', exFin rs af.dg (.to (pth fn.ntmps)) G (run F G lf fuel) k R' H' n' → Fr w0 ⟨loc, fn.ntmps, true⟩ ρ H n R' H' n' a' w' →
                Leaves P fn a'.tmps (Ret w0 ρ H n k) a'.defers .returning w' := by
              rintro R' H' n' a' w' hx ⟨ρ', hh', hr', hgu'⟩
              have hx' : exDef af.dg (tupL (odef (T.getp (pth fn.ntmps) R'))) (run F G lf fuel) H' n' (fun H n => finR rs G k R' H n) := hx
              have hd := hr'.dfs
              simp only [if_true] at hd
              have hlast : ∀ ρ'' H'' n'' w'', finR rs G k R' H'' n'' → HRel w0 ρ'' H'' n'' w'' → ρ'.le ρ'' → Guar ρ H n ρ'' H'' n'' → Leaves P fn a'.tmps (Ret w0 ρ H n k) [] .returning w'' := by
                intro ρ'' H'' n'' w'' hx2 hh'' hle hgu''
                have hx3 : onO (getRs rs G R' H'') fun l => k (oneV l) H'' n'' := hx2
                rw [onO_iff] at hx3
                exact hfin R' H'' n'' a' w'' hx3 ρ'' hh'' (hr'.mono hle) hgu''
              cases hl : tupL (odef (T.getp (pth fn.ntmps) R')) with
              | nil =>
                rw [hl] at hd hx'
                have : a'.defers = [] := hd
                rw [this]
                exact hlast ρ' H' n' w' hx' hh' (Loc.le.refl _) hgu'
              | cons v l =>
                rw [hl] at hd hx'
                -- the one that is put off is there
                obtain ⟨d, ds', he, ⟨f', fa, ca, fa', ca', rfl, _, _, _⟩, _⟩ := hd
                have hx4 : onB (Nat.beq f' af.dg) (run F G lf fuel f' (cat fa ca) H' n' fun _ H n => exDef af.dg l (run F G lf fuel) H n (fun H n => finR rs G k R' H n)) := hx'
                rw [onB_eq] at hx4
                obtain ⟨hf', hcall⟩ := hx4
                have hf2 : f' = af.dg := Nat.eq_of_beq_eq_true hf'
                have hget : ∃ af', T.get F af.dg = some af' := by
                  cases fuel with
                  | zero => exact (show False from hcall).elim
                  | succ m =>
                    have : onO (T.get F f') fun af => exFun af G (run F G lf m) lf (cat fa ca) H' n' (fun _ H n => exDef af.dg l (run F G lf (m + 1)) H n (fun H n => finR rs G k R' H n)) ∨ True := by
                      have h5 : onO (T.get F f') fun af1 => exFun af1 G (run F G lf m) lf (cat fa ca) H' n' (fun _ H n => exDef af.dg l (run F G lf (m + 1)) H n (fun H n => finR rs G k R' H n)) := hcall
                      rw [onO_iff] at h5 ⊢
                      obtain ⟨x, hx, _⟩ := h5
                      exact ⟨x, hx, .inr trivial⟩
                    rw [onO_iff] at this
                    obtain ⟨x, hx, _⟩ := this
                    exact ⟨x, by rw [← hf2]; exact hx⟩
                obtain ⟨af', haf2⟩ := hget
                have hno := hF.dgs f af af' haf hnf (by rw [hdp]; simp) haf2
                refine exDef_ok (ihd af.dg af' haf2 hno) (fun va H n k h => (ihc af.dg va H n k h).1) _ (.fn f' fa ca :: l) a'.defers ρ' H' n' w' ?_ hh' hgu' hx' hlast
                have := hr'.dfs
                simp only [if_true] at this
                rw [hl] at this
                exact this
            refine ⟨?_, fun hno => by rw [hdp] at hno; cases hno⟩
            refine code_sound hF.mixed ihc hg c ac hac _ _ _ _ _ _ _ _ _ ?_ ?_ ?_ hex hstart
            · intro R' H' n' a' w' hx hf; exact hend R' H' n' a' w' hx hf
            · intro i R' H' n' a' w' hx hf; exact (show False from hx).elim
            · intro R' H' n' a' w' hx hf; exact hend R' H' n' a' w' hx hf
        · cases htr
      · cases htr
    refine ⟨?_, ?_⟩
    · intro f vargs H n k h
      by_cases hnn : ∃ nk, T.get F f = some (.nat nk)
      · obtain ⟨nk, hnk⟩ := hnn
        have h' : onO (T.get F f) fun af => exFun af G (run F G lf fuel) lf vargs H n k := h
        rw [hnk] at h'
        have h' : natSem nk G vargs H n k := h'
        exact ⟨(hF.nats f nk hnk).1, fun ρ w args hh hrel => (hF.nats f nk hnk).2 w0 G hg vargs H n k h' ρ w args hh hrel⟩
      obtain ⟨hfn, af, fn, c, haf, hf, hb, hwp⟩ := main f vargs H n k h fun nk hk => hnn ⟨nk, hk⟩
      refine ⟨hfn, fun ρ w args hh hrel => ?_⟩
      exact calls_of_wp_defers hf hb (hwp ρ w args hh hrel).1
    · intro f af haf hno vargs H n k h ρ w args hh hrel
      obtain ⟨hfn, af2, fn, c, haf2, hf, hb, hwp⟩ := main f vargs H n k h fun nk hk => by rw [haf] at hk; cases hk; cases hno
      have : af2 = af := Option.some.inj (haf2.symm.trans haf)
      subst this
      exact callsD_of_wp hf hb ((hwp ρ w args hh hrel).2 hno)
end
end Go.Eng

/- The engine, part 38: runs are functions; runs without bounds on loops and calls. -/
namespace Go.Eng
variable {S S' : Type}

def Det (t : (S → Prop) → Prop) : Prop := ∃ o : Option S, ∀ k, t k ↔ ∃ s, o = some s ∧ k s
theorem det_ret (s : S) : Det (fun k : S → Prop => k s) := ⟨some s, fun k => by simp⟩
theorem det_no : Det (fun _ : S → Prop => False) := ⟨none, fun k => by simp⟩
theorem det_onO {α : Type} (o : Option α) {f : α → (S → Prop) → Prop} (h : ∀ x, Det (f x)) : Det (fun k => onO o fun x => f x k) := by
  cases o with
  | none => exact det_no
  | some x => exact h x
theorem det_onV (o : Option V) {f : V → (S → Prop) → Prop} (h : ∀ x, Det (f x)) : Det (fun k => onV o fun x => f x k) := by
  cases o with
  | none => exact det_no
  | some x => exact h x
theorem det_onB (b : Bool) {t : (S → Prop) → Prop} (h : Det t) : Det (fun k => onB b (t k)) := by
  cases b with
  | false => exact det_no
  | true => exact h
theorem det_onP (n : Nat) {f : Nat → (S → Prop) → Prop} (h : ∀ x, Det (f x)) : Det (fun k => forceP n fun n => f n k) := by
  have := h n
  have e : (fun k : S → Prop => forceP n fun n => f n k) = f n := by funext k; rw [forceP_eq]
  rw [e]; exact this
theorem det_tst (v : V) (b : Bool) {y m : (S → Prop) → Prop} (hy : Det y) (hm : Det m) : Det (fun k => onTst v b (y k) (m k)) := by
  cases v <;> try exact det_no
  rename_i t
  cases t <;> cases b <;> first | exact hy | exact hm
theorem det_gst (v : V) (b : Bool) {y m : (S → Prop) → Prop} (hy : Det y) (hm : Det m) : Det (fun k => gTst v b (y k) (m k)) := by
  cases v <;> try exact det_no
  · rename_i t
    cases t <;> cases b <;> first | exact hy | exact hm
  · rename_i l
    cases l
    · exact hm
    · exact det_no
theorem det_fn (v : V) {f : Nat → LV → LV → (S → Prop) → Prop} (h : ∀ g a c, Det (f g a c)) : Det (fun k => V.onFnP v fun g a c => f g a c k) := by
  cases v <;> try exact det_no
  exact h _ _ _
theorem det_bind {t : (S → Prop) → Prop} {u : S → (S' → Prop) → Prop} (ht : Det t) (hu : ∀ s, Det (u s)) : Det (fun k => t fun s => u s k) := by
  obtain ⟨o, ho⟩ := ht
  cases o with
  | none => exact ⟨none, fun k => by show t (fun s => u s k) ↔ _; rw [ho]; simp⟩
  | some s =>
    obtain ⟨o', ho'⟩ := hu s
    exact ⟨o', fun k => by show t (fun s => u s k) ↔ _; rw [ho]; simp [ho']⟩
theorem Det.mono {t : (S → Prop) → Prop} (h : Det t) {k k' : S → Prop} (hk : ∀ s, k s → k' s) (ht : t k) : t k' := by
  obtain ⟨o, ho⟩ := h
  obtain ⟨s, hs, h1⟩ := (ho k).1 ht
  exact (ho k').2 ⟨s, hs, hk s h1⟩
theorem Det.at {t : (S → Prop) → Prop} (h : Det t) {k : S → Prop} (ht : t k) : ∃ s, k s ∧ ∀ k', k' s → t k' := by
  obtain ⟨o, ho⟩ := h
  obtain ⟨s, hs, h1⟩ := (ho k).1 ht
  exact ⟨s, h1, fun k' hk' => (ho k').2 ⟨s, hs, hk'⟩⟩

/- a value, a heap, the next number -/
abbrev St := V × Heap × Nat
def D3 (t : KV → Prop) : Prop := Det fun k : St → Prop => t fun v H n => k (v, H, n)
theorem d3_ret (v : V) (H : Heap) (n : Nat) : D3 fun k => k v H n := det_ret (S := St) (v, H, n)
def CallDet (call : CallT) : Prop := ∀ f a H n, D3 (call f a H n)

theorem appNew_det (esz bs : Nat) (OS LS : LLV) (H : Heap) (n : Nat) : D3 (appNew esz bs OS LS H n) := det_onP _ fun _ => det_onB _ (det_onP _ fun _ => d3_ret _ _ _)
theorem appMove_det (id off ln esz bs : Nat) (LS : LLV) (H : Heap) (n : Nat) (b : Blk) : D3 fun k => appMove id off ln esz bs LS H n k b := by
  cases b with
  | arr e' cnt c =>
    cases off with
    | zero =>
      have e : ∀ k, appMove id 0 ln esz bs LS H n k (.arr e' cnt c) = onB (band (roomOk (Nat.add ln (len LS)) bs) (band (Nat.beq esz e') (Nat.ble (Nat.add 0 ln) cnt))) (k (.gsl n 0 (Nat.add ln (len LS)) esz) (T.set (T.set H id .dead) n (.arr esz (Nat.add ln (len LS)) (setEs LS ln c))) (Nat.succ n)) := by
        intro k
        show forceP _ _ = _
        simp only [forceP_eq]
        try rfl
      simp only [e]
      exact det_onB _ (d3_ret _ _ _)
    | succ off =>
      have e : ∀ k, appMove id (off + 1) ln esz bs LS H n k (.arr e' cnt c) = onB (band (roomOk (Nat.add ln (len LS)) bs) (band (Nat.beq esz e') (Nat.ble (Nat.add (off + 1) ln) cnt))) (onO (elemsB H id esz ln (off + 1)) fun OS => k (.gsl n 0 (Nat.add ln (len LS)) esz) (T.set (T.set H id .dead) n (.arr esz (Nat.add ln (len LS)) (setEs LS ln (setEs OS 0 .e)))) (Nat.succ n)) := by
        intro k
        show forceP _ _ = _
        simp only [forceP_eq]
        try rfl
      simp only [e]
      exact det_onB _ (det_onO _ fun _ => d3_ret _ _ _)
  | map => exact det_no
  | dead => exact det_no
  | bld => exact det_no
  | own => exact det_no
theorem appE_det (v : V) (G : Roms) (esz bs : Nat) (LS : LLV) (H : Heap) (n : Nat) : D3 (appE v G esz bs LS H n) := by
  cases v <;> try exact det_no
  case nils =>
    cases LS with
    | nil => exact d3_ret _ _ _
    | cons x xs => exact (show D3 (fun k => appNew esz bs [] (x :: xs) H n k) from appNew_det esz bs [] (x :: xs) H n)
  case sl id off ln cap e =>
    refine det_onB _ (det_onP _ fun need => ?_)
    cases h : Nat.ble need cap with
    | false => exact det_onO _ fun _ => appNew_det _ _ _ _ _ _
    | true =>
      refine det_onO _ fun b => ?_
      cases b with
      | arr e' cnt c => exact det_onB _ (d3_ret _ _ _)
      | map => exact det_no
      | dead => exact det_no
      | bld => exact det_no
      | own => exact det_no
  case gsl id off ln e =>
    refine det_onB _ ?_
    cases LS with
    | nil => exact d3_ret _ _ _
    | cons =>
      exact det_onO _ fun b => appMove_det _ _ _ _ _ _ _ _ b
  case rsl => exact det_onB _ (det_onO _ fun _ => appNew_det _ _ _ _ _ _)
theorem copyE_det (v : V) (esz : Nat) (LS : LLV) (H : Heap) (n : Nat) : D3 (copyE v esz LS H n) := by
  have hto : ∀ a b c, D3 (copyTo a b c esz LS H n) := fun a b c => by
    refine det_onO _ fun b => ?_
    cases b with
    | arr e' cnt c => exact det_onB _ (det_onP _ fun _ => d3_ret _ _ _)
    | map => exact det_no
    | dead => exact det_no
    | bld => exact det_no
    | own => exact det_no
  cases v <;> try exact det_no
  case nils => exact d3_ret _ _ _
  case sl => exact det_onB _ (hto _ _ _)
  case gsl => exact det_onB _ (hto _ _ _)
theorem mapE_det (m : V) (H : Heap) (f : ME → Nat → Option Blk) (v : V) (n : Nat) : D3 fun k => mapE m H f fun H => k v H n := by
  cases m <;> try exact det_no
  exact det_onO _ fun _ => det_onO _ fun _ => d3_ret _ _ _
theorem onPtrP2_det (v : V) {f : Nat → Nat → (S → Prop) → Prop} (h : ∀ a b, Det (f a b)) : Det (fun k => V.onPtrP2 v fun a b => f a b k) := by
  cases v <;> try exact det_no
  exact h _ _
theorem onPtrP_det (v : V) {f : Nat → (S → Prop) → Prop} (h : ∀ a, Det (f a)) : Det (fun k => V.onPtrP v fun a => f a k) := by
  cases v <;> try exact det_no
  exact h _
theorem ae_det {call : CallT} (hc : CallDet call) (o : AE) (G : Roms) (E : RS) (H : Heap) (n : Nat) : D3 (o.ex G call E H n) := by
  cases o with
  | asg x => exact d3_ret _ _ _
  | st sz x v => exact det_onB _ (det_onO _ fun _ => d3_ret _ _ _)
  | app esz bs x y => exact det_onO _ fun _ => appE_det _ _ _ _ _ _ _
  | copy esz x y => exact det_onO _ fun _ => copyE_det _ _ _ _ _
  | mapupd c m k v => exact mapE_det _ _ _ _ _
  | del c m k => exact mapE_det _ _ _ _ _
  | clrM m => exact mapE_det _ _ _ _ _
  | call f a => exact hc _ _ _ _
  | callv x a => exact det_fn _ fun _ _ _ => hc _ _ _ _
  | defer dp x a => exact det_fn _ fun _ _ _ => d3_ret _ _ _
  | cvB x => exact det_onO _ fun _ => onPtrP2_det _ fun _ _ => det_onP _ fun _ => d3_ret _ _ _
abbrev Sa := Blk × (Nat → V)
def DA (t : KA → Prop) : Prop := Det fun k : Sa → Prop => t fun b f => k (b, f)
theorem da_ret (b : Blk) (f : Nat → V) : DA fun k => k b f := det_ret (S := Sa) (b, f)
theorem aa_det (o : AA) (E : RS) : DA (o.al E) := by
  cases o with
  | alloc e es => exact det_onP _ fun _ => da_ret _ _
  | box x => exact det_onB _ (det_onP _ fun _ => da_ret _ _)
  | bslice => exact det_onB _ (da_ret _ _)
  | mkslice => exact det_onO _ fun _ => onPtrP_det _ fun _ => det_onO _ fun _ => onPtrP_det _ fun _ => det_onB _ (da_ret _ _)
  | mkmap => exact da_ret _ _
  | bld => exact da_ret _ _
abbrev Se := RS × Heap × Nat
def DE (t : KE → Prop) : Prop := Det fun k : Se → Prop => t fun E H n => k (E, H, n)
theorem de_ret (E : RS) (H : Heap) (n : Nat) : DE fun k => k E H n := det_ret (S := Se) (E, H, n)
theorem ao_det {call : CallT} (hc : CallDet call) (o : AO) (G : Roms) (d : Dst) (E : RS) (H : Heap) (n : Nat) : DE (o.ex G call d E H n) := by
  cases o with
  | n o => exact det_onV _ fun _ => de_ret _ _ _
  | a o => exact det_bind (u := fun s k => forceP n fun n => k (setD d (s.2 n) E, T.set H n s.1, Nat.succ n)) (aa_det o E) fun s => det_onP _ fun _ => det_ret _
  | e o => exact det_bind (u := fun s k => k (setD d s.1 E, s.2.1, s.2.2)) (ae_det hc o G E H n) fun s => det_ret _
theorem aop_det {call : CallT} (hc : CallDet call) (o : AOp) (G : Roms) (E : RS) (H : Heap) (n : Nat) : DE (o.ex G call E H n) := by
  obtain ⟨d, g, o⟩ := o
  cases g with
  | no => exact ao_det hc o G d E H n
  | on x b => exact det_gst _ _ (ao_det hc o G d E H n) (de_ret _ _ _)
theorem re_det (g : Gd) (G : Roms) (E : RS) (H : Heap) (d : P2) (o : AN) {t : (S → Prop) → Prop} (h : Det t) : Det fun k => exRe g G E H d o (t k) := by
  cases g with
  | no => exact det_onV _ fun _ => det_onB _ h
  | on x b => exact det_gst _ _ (det_onV _ fun _ => det_onB _ h) h
theorem ai_det {call : CallT} (hc : CallDet call) (i : AI) (G : Roms) (E : RS) (H : Heap) (n : Nat) : DE (i.ex G call E H n) := by
  cases i with
  | op o => exact aop_det hc o G E H n
  | re d g o => exact re_det g G E H d o (det_ret _)
theorem ops_det {call : CallT} (hc : CallDet call) (G : Roms) : ∀ (l : List AOp) (E : RS) (H : Heap) (n : Nat), DE (exOps l G call E H n)
  | [], E, H, n => de_ret _ _ _
  | o :: l, E, H, n => det_bind (u := fun (s : Se) (k : Se → Prop) => exOps l G call s.1 s.2.1 s.2.2 fun E H n => k (E, H, n)) (aop_det hc o G E H n) fun s => ops_det hc G l s.1 s.2.1 s.2.2
theorem items_det {call : CallT} (hc : CallDet call) (G : Roms) : ∀ (l : List AI) (E : RS) (H : Heap) (n : Nat), DE (exItems l G call E H n)
  | [], E, H, n => de_ret _ _ _
  | o :: l, E, H, n => det_bind (u := fun (s : Se) (k : Se → Prop) => exItems l G call s.1 s.2.1 s.2.2 fun E H n => k (E, H, n)) (ai_det hc o G E H n) fun s => items_det hc G l s.1 s.2.1 s.2.2

/- how code ends -/
inductive Out where
  | nrm (R : Regs) (H : Heap) (n : Nat) | ext (i : Nat) (R : Regs) (H : Heap) (n : Nat) | ret (R : Regs) (H : Heap) (n : Nat)
def Out.on (k : K) (x : KX) (r : K) : Out → Prop
  | .nrm R H n => k R H n | .ext i R H n => x i R H n | .ret R H n => r R H n
def DC (t : K → KX → K → Prop) : Prop := Det fun p : Out → Prop => t (fun R H n => p (.nrm R H n)) (fun i R H n => p (.ext i R H n)) (fun R H n => p (.ret R H n))
theorem DC.mono {t : K → KX → K → Prop} (h : DC t) {k k' : K} {x x' : KX} {r r' : K} (hk : ∀ R H n, k R H n → k' R H n) (hx : ∀ i R H n, x i R H n → x' i R H n) (hr : ∀ R H n, r R H n → r' R H n) (ht : t k x r) : t k' x' r' :=
  Det.mono h (k := Out.on k x r) (k' := Out.on k' x' r') (fun s => by cases s; exact hk _ _ _; exact hx _ _ _ _; exact hr _ _ _) ht
theorem DC.at {t : K → KX → K → Prop} (h : DC t) {k : K} {x : KX} {r : K} (ht : t k x r) : ∃ s, Out.on k x r s ∧ ∀ k' x' r', Out.on k' x' r' s → t k' x' r' := by
  obtain ⟨s, hs, hall⟩ := Det.at h (k := Out.on k x r) ht
  exact ⟨s, hs, fun k' x' r' hk => hall (Out.on k' x' r') hk⟩
theorem loopF_det {a : M} {G : Roms} {call : CallT} {lf0 : Nat} (ha : ∀ R H n, DC (a G call lf0 R H n)) : ∀ (m : Nat) (R : Regs) (H : Heap) (n : Nat), DC fun _ x r => loopF a G call lf0 m R H n x r
  | 0, _, _, _ => det_no
  | m + 1, R, H, n => det_bind (u := fun (s : Out) (p : Out → Prop) => match s with
      | .nrm R H n => loopF a G call lf0 m R H n (fun i R H n => p (.ext i R H n)) (fun R H n => p (.ret R H n))
      | .ext i R H n => p (.ext i R H n)
      | .ret R H n => p (.ret R H n)) (ha R H n) fun s => by
        cases s with
        | nrm R H n => exact loopF_det ha m R H n
        | ext i R H n => exact det_ret _
        | ret R H n => exact det_ret _
theorem ac_det {call : CallT} (hc : CallDet call) (G : Roms) (lf : Nat) : ∀ (c : AC) (R : Regs) (H : Heap) (n : Nat), DC (c.ex G call lf R H n)
  | .skip, R, H, n => det_ret (Out.nrm R H n)
  | .ops l, R, H, n => det_bind (u := fun (s : Se) (p : Out → Prop) => p (.nrm s.1.rg s.2.1 s.2.2)) (ops_det hc G l (.mk [] R) H n) fun s => det_ret _
  | .reg l, R, H, n => det_bind (u := fun (s : Se) (p : Out → Prop) => p (.nrm s.1.rg s.2.1 s.2.2)) (items_det hc G l (.mk [] R) H n) fun s => det_ret _
  | .seq a b, R, H, n => det_bind (u := fun (s : Out) (p : Out → Prop) => match s with
      | .nrm R H n => b.ex G call lf R H n (fun R H n => p (.nrm R H n)) (fun i R H n => p (.ext i R H n)) (fun R H n => p (.ret R H n))
      | .ext i R H n => p (.ext i R H n)
      | .ret R H n => p (.ret R H n)) (ac_det hc G lf a R H n) fun s => by
        cases s with
        | nrm R H n => exact ac_det hc G lf b R H n
        | ext i R H n => exact det_ret _
        | ret R H n => exact det_ret _
  | .cond x a b, R, H, n => det_tst _ _ (ac_det hc G lf a R H n) (ac_det hc G lf b R H n)
  | .block id a, R, H, n => det_bind (u := fun (s : Out) (p : Out → Prop) => match s with
      | .nrm R H n => p (.nrm R H n)
      | .ext i R H n => blockX id (fun R H n => p (.nrm R H n)) (fun i R H n => p (.ext i R H n)) i R H n
      | .ret R H n => p (.ret R H n)) (ac_det hc G lf a R H n) fun s => by
        cases s with
        | nrm R H n => exact det_ret _
        | ext i R H n =>
          cases hb : Nat.beq i id with
          | true =>
            have e : (fun p : Out → Prop => blockX id (fun R H n => p (.nrm R H n)) (fun i R H n => p (.ext i R H n)) i R H n) = fun p => p (.nrm R H n) := by
              funext p; unfold blockX; rw [hb]
            simp only [e]; exact det_ret _
          | false =>
            have e : (fun p : Out → Prop => blockX id (fun R H n => p (.nrm R H n)) (fun i R H n => p (.ext i R H n)) i R H n) = fun p => p (.ext i R H n) := by
              funext p; unfold blockX; rw [hb]
            simp only [e]; exact det_ret _
        | ret R H n => exact det_ret _
  | .loop a, R, H, n => loopF_det (fun R H n => ac_det hc G lf a R H n) lf R H n
  | .exit id, R, H, n => det_ret (Out.ext id R H n)
  | .ret, R, H, n => det_ret (Out.ret R H n)

theorem exDef_det {call : CallT} (hc : CallDet call) (dg : Nat) : ∀ (l : List V) (H : Heap) (n : Nat), Det fun p : Heap × Nat → Prop => exDef dg l call H n fun H n => p (H, n)
  | [], H, n => det_ret (H, n)
  | v :: l, H, n => det_fn v fun f a c => det_onB _ (det_bind (u := fun (s : St) (p : Heap × Nat → Prop) => exDef dg l call s.2.1 s.2.2 fun H n => p (H, n)) (hc _ _ _ _) fun s => exDef_det hc dg l _ _)
theorem finR_det (res : List AR) (G : Roms) (R : Regs) (H : Heap) (n : Nat) : D3 fun k => finR res G k R H n := det_onO _ fun _ => d3_ret _ _ _
theorem exFin_det {call : CallT} (hc : CallDet call) (res : List AR) (dg : Nat) (d : Dst) (G : Roms) (R : Regs) (H : Heap) (n : Nat) : D3 fun k => exFin res dg d G call k R H n := by
  cases d with
  | no => exact finR_det res G R H n
  | to p => exact det_bind (u := fun (s : Heap × Nat) (k : St → Prop) => finR res G (fun v H n => k (v, H, n)) R s.1 s.2) (exDef_det hc dg _ H n) fun s => finR_det res G R _ _
  | ps => exact finR_det res G R H n
theorem natSem_det (f : Nk) (G : Roms) (args : List V) (H : Heap) (n : Nat) : D3 (natSem f G args H n) := by
  have no : D3 (fun _ : KV => False) := det_no
  unfold natSem
  split
  · unfold natJoin
    split
    · exact det_onB _ (det_onO _ fun _ => det_onO _ fun _ => det_onB _ (d3_ret _ _ _))
    · exact no
  · unfold natRep
    split
    · exact det_onB _ (d3_ret _ _ _)
    · exact no
  · unfold natWstr
    split
    · split
      · exact det_onB _ (d3_ret _ _ _)
      · exact no
    · exact no
  · unfold natBstr
    split
    · split
      · exact det_onB _ (d3_ret _ _ _)
      · exact no
    · exact no
  · exact no
theorem exFun_det {call : CallT} (hc : CallDet call) (G : Roms) (lf : Nat) (f : AF) (args : List V) (H : Heap) (n : Nat) : D3 (exFun f G call lf args H n) := by
  cases f with
  | nat f => exact natSem_det f G args H n
  | mk np code res d dg =>
  refine det_onB _ (det_bind (u := fun (s : Out) (k : St → Prop) => match s with
    | .nrm R H n => exFin res dg d G call (fun v H n => k (v, H, n)) R H n
    | .ext _ _ _ _ => False
    | .ret R H n => exFin res dg d G call (fun v H n => k (v, H, n)) R H n) (ac_det hc G lf code _ H n) fun s => ?_)
  cases s with
  | nrm R H n => exact exFin_det hc res dg d G R H n
  | ext i R H n => exact det_no
  | ret R H n => exact exFin_det hc res dg d G R H n
theorem run_det (F : T AF) (G : Roms) (lf : Nat) : ∀ fuel, CallDet (run F G lf fuel)
  | 0 => fun _ _ _ _ => det_no
  | m + 1 => fun f a H n => det_onO _ fun af => exFun_det (run_det F G lf m) G lf af a H n

/- more calls come to an end -/
def CallLe (call call' : CallT) : Prop := ∀ f a H n k, call f a H n k → call' f a H n k
section
variable {call call' : CallT}
theorem ae_le (hle : CallLe call call') (o : AE) (G : Roms) (E : RS) (H : Heap) (n : Nat) (k : KV) (h : o.ex G call E H n k) : o.ex G call' E H n k := by
  cases o with
  | call f a => exact hle _ _ _ _ _ h
  | callv x a =>
    have h' : V.onFnP (x.ev E) (fun f a' c => call f (cat a' (cat (mapX a E) c)) H n k) := h
    show V.onFnP (x.ev E) (fun f a' c => call' f (cat a' (cat (mapX a E) c)) H n k)
    rw [onFnP_iff] at h' ⊢
    obtain ⟨g, fa, ca, he, h'⟩ := h'
    exact ⟨g, fa, ca, he, hle _ _ _ _ _ h'⟩
  | _ => exact h
theorem ao_le (hle : CallLe call call') (o : AO) (G : Roms) (d : Dst) (E : RS) (H : Heap) (n : Nat) (k : KE) (h : o.ex G call d E H n k) : o.ex G call' d E H n k := by
  cases o with
  | n o => exact h
  | a o => exact h
  | e o => exact ae_le hle o G E H n _ h
theorem aop_le (hle : CallLe call call') (o : AOp) (G : Roms) (E : RS) (H : Heap) (n : Nat) (k : KE) (h : o.ex G call E H n k) : o.ex G call' E H n k := by
  obtain ⟨d, g, o⟩ := o
  cases g with
  | no => exact ao_le hle o G d E H n k h
  | on x b =>
    have h' : gTst (x.ev E) b (o.ex G call d E H n k) (k (setD d (.tup []) E) H n) := h
    show gTst (x.ev E) b (o.ex G call' d E H n k) (k (setD d (.tup []) E) H n)
    rw [gTst_iff] at h' ⊢
    obtain ⟨t, ht, h'⟩ := h'
    refine ⟨t, ht, ?_⟩
    split
    · rename_i e; rw [if_pos e] at h'; exact ao_le hle o G d E H n k h'
    · rename_i e; rw [if_neg e] at h'; exact h'
theorem ai_le (hle : CallLe call call') (i : AI) (G : Roms) (E : RS) (H : Heap) (n : Nat) (k : KE) (h : i.ex G call E H n k) : i.ex G call' E H n k := by
  cases i with
  | op o => exact aop_le hle o G E H n k h
  | re d g o => exact h
theorem ops_le (hd : CallDet call') (hle : CallLe call call') (G : Roms) : ∀ (l : List AOp) (E : RS) (H : Heap) (n : Nat) (k : KE), exOps l G call E H n k → exOps l G call' E H n k
  | [], _, _, _, _, h => h
  | o :: l, E, H, n, k, h =>
    Det.mono (aop_det hd o G E H n) (k := fun s => exOps l G call s.1 s.2.1 s.2.2 k) (k' := fun s => exOps l G call' s.1 s.2.1 s.2.2 k) (fun s hs => ops_le hd hle G l _ _ _ _ hs)
      (aop_le hle o G E H n (fun E H n => exOps l G call E H n k) h)
theorem items_le (hd : CallDet call') (hle : CallLe call call') (G : Roms) : ∀ (l : List AI) (E : RS) (H : Heap) (n : Nat) (k : KE), exItems l G call E H n k → exItems l G call' E H n k
  | [], _, _, _, _, h => h
  | o :: l, E, H, n, k, h =>
    Det.mono (ai_det hd o G E H n) (k := fun s => exItems l G call s.1 s.2.1 s.2.2 k) (k' := fun s => exItems l G call' s.1 s.2.1 s.2.2 k) (fun s hs => items_le hd hle G l _ _ _ _ hs)
      (ai_le hle o G E H n (fun E H n => exItems l G call E H n k) h)
theorem loopF_le {a : M} {G : Roms} {lf0 lf0' : Nat} (hd : ∀ R H n, DC (a G call' lf0' R H n)) (ha : ∀ R H n k x r, a G call lf0 R H n k x r → a G call' lf0' R H n k x r) :
    ∀ (m m' : Nat), m ≤ m' → ∀ (R : Regs) (H : Heap) (n : Nat) (x : KX) (r : K), loopF a G call lf0 m R H n x r → loopF a G call' lf0' m' R H n x r
  | 0, _, _, _, _, _, _, _, h => (show False from h).elim
  | m + 1, 0, hm, _, _, _, _, _, _ => by omega
  | m + 1, m' + 1, hm, R, H, n, x, r, h =>
    DC.mono (hd R H n) (fun R H n hk => loopF_le hd ha m m' (by omega) R H n x r hk) (fun _ _ _ _ hx => hx) (fun _ _ _ hr => hr) (ha R H n _ x r h)
theorem ac_le (hd : CallDet call') (hle : CallLe call call') (G : Roms) {lf lf' : Nat} (hlf : lf ≤ lf') : ∀ (c : AC) (R : Regs) (H : Heap) (n : Nat) (k : K) (x : KX) (r : K), c.ex G call lf R H n k x r → c.ex G call' lf' R H n k x r
  | .skip, _, _, _, _, _, _, h => h
  | .ops l, R, H, n, k, _, _, h => ops_le hd hle G l (.mk [] R) H n (fun E H n => k E.rg H n) h
  | .reg l, R, H, n, k, _, _, h => items_le hd hle G l (.mk [] R) H n (fun E H n => k E.rg H n) h
  | .seq a b, R, H, n, k, x, r, h =>
    DC.mono (ac_det hd G lf' a R H n) (fun R H n hk => ac_le hd hle G hlf b R H n k x r hk) (fun _ _ _ _ hx => hx) (fun _ _ _ hr => hr) (ac_le hd hle G hlf a R H n _ x r h)
  | .cond c a b, R, H, n, k, x, r, h => by
    have h' : onTst (c.ev (.mk [] R)) true (a.ex G call lf R H n k x r) (b.ex G call lf R H n k x r) := h
    show onTst (c.ev (.mk [] R)) true (a.ex G call' lf' R H n k x r) (b.ex G call' lf' R H n k x r)
    rw [onTst_iff] at h' ⊢
    obtain ⟨t, ht, h'⟩ := h'
    refine ⟨t, ht, ?_⟩
    split
    · rename_i e; rw [if_pos e] at h'; exact ac_le hd hle G hlf a R H n k x r h'
    · rename_i e; rw [if_neg e] at h'; exact ac_le hd hle G hlf b R H n k x r h'
  | .block id a, R, H, n, k, x, r, h => ac_le hd hle G hlf a R H n k (blockX id k x) r h
  | .loop a, R, H, n, k, x, r, h => loopF_le (fun R H n => ac_det hd G lf' a R H n) (fun R H n k x r h => ac_le hd hle G hlf a R H n k x r h) lf lf' hlf R H n x r h
  | .exit _, _, _, _, _, _, _, h => h
  | .ret, _, _, _, _, _, _, h => h
theorem exDef_le (hd : CallDet call') (hle : CallLe call call') (dg : Nat) : ∀ (l : List V) (H : Heap) (n : Nat) (k : Heap → Nat → Prop), exDef dg l call H n k → exDef dg l call' H n k
  | [], _, _, _, h => h
  | v :: l, H, n, k, h => by
    have h' : V.onFnP v (fun f a c => onB (Nat.beq f dg) (call f (cat a c) H n fun _ H n => exDef dg l call H n k)) := h
    show V.onFnP v (fun f a c => onB (Nat.beq f dg) (call' f (cat a c) H n fun _ H n => exDef dg l call' H n k))
    rw [onFnP_iff] at h' ⊢
    obtain ⟨g, fa, ca, he, h'⟩ := h'
    rw [onB_eq] at h'
    refine ⟨g, fa, ca, he, (onB_eq _ _).2 ⟨h'.1, ?_⟩⟩
    exact Det.mono (hd g (cat fa ca) H n) (k := fun s => exDef dg l call s.2.1 s.2.2 k) (k' := fun s => exDef dg l call' s.2.1 s.2.2 k) (fun s hs => exDef_le hd hle dg l _ _ _ hs) (hle _ _ _ _ _ h'.2)
theorem exFin_le (hd : CallDet call') (hle : CallLe call call') (res : List AR) (dg : Nat) (d : Dst) (G : Roms) (k : KV) (R : Regs) (H : Heap) (n : Nat) (h : exFin res dg d G call k R H n) : exFin res dg d G call' k R H n := by
  cases d with
  | no => exact h
  | to p => exact exDef_le hd hle dg _ H n _ h
  | ps => exact h
theorem exFun_le (hd : CallDet call') (hle : CallLe call call') (G : Roms) {lf lf' : Nat} (hlf : lf ≤ lf') (f : AF) (args : List V) (H : Heap) (n : Nat) (k : KV) (h : exFun f G call lf args H n k) : exFun f G call' lf' args H n k := by
  cases f with
  | nat f => exact h
  | mk np code res d dg =>
  have h' : onB (Nat.beq (len args) np) (code.ex G call lf (initR args 0 .e) H n (exFin res dg d G call k) noX (exFin res dg d G call k)) := h
  show onB (Nat.beq (len args) np) (code.ex G call' lf' (initR args 0 .e) H n (exFin res dg d G call' k) noX (exFin res dg d G call' k))
  rw [onB_eq] at h' ⊢
  refine ⟨h'.1, ?_⟩
  exact DC.mono (ac_det hd G lf' code _ H n) (fun R H n hk => exFin_le hd hle res dg d G k R H n hk) (fun _ _ _ _ hx => hx) (fun R H n hk => exFin_le hd hle res dg d G k R H n hk) (ac_le hd hle G hlf code _ H n _ _ _ h'.2)
end
theorem run_le (F : T AF) (G : Roms) {lf lf' : Nat} (hlf : lf ≤ lf') : ∀ (m m' : Nat), m ≤ m' → CallLe (run F G lf m) (run F G lf' m')
  | 0, _, _, _, _, _, _, _, h => (show False from h).elim
  | m + 1, 0, hm, _, _, _, _, _, _ => by omega
  | m + 1, m' + 1, hm, f, a, H, n, k, h => by
    have h' : onO (T.get F f) fun af => exFun af G (run F G lf m) lf a H n k := h
    show onO (T.get F f) fun af => exFun af G (run F G lf' m') lf' a H n k
    rw [onO_iff] at h' ⊢
    obtain ⟨af, haf, h'⟩ := h'
    exact ⟨af, haf, exFun_le (run_det F G lf' m') (run_le F G hlf m m' (by omega)) G hlf af a H n k h'⟩

/- ## runs without bounds -/
def Runs (F : T AF) (G : Roms) : CallT := fun f a H n k => ∃ N, run F G N N f a H n k
theorem runs_mono {F : T AF} {G : Roms} {f : Nat} {a : List V} {H : Heap} {n : Nat} {k k' : KV} (hk : ∀ v H n, k v H n → k' v H n) (h : Runs F G f a H n k) : Runs F G f a H n k' := by
  obtain ⟨N, h⟩ := h
  exact ⟨N, Det.mono (run_det F G N N f a H n) (k := fun s => k s.1 s.2.1 s.2.2) (k' := fun s => k' s.1 s.2.1 s.2.2) (fun s hs => hk _ _ _ hs) h⟩
theorem runs_det (F : T AF) (G : Roms) : CallDet (Runs F G) := fun f a H n => by
  by_cases h : ∃ N s, ∀ k : St → Prop, k s → run F G N N f a H n fun v H n => k (v, H, n)
  · obtain ⟨N, s, hs⟩ := h
    refine ⟨some s, fun k => ⟨fun ⟨N', h'⟩ => ?_, fun ⟨s', e, hk⟩ => ?_⟩⟩
    · obtain ⟨s', hk', hall⟩ := Det.at (run_det F G N' N' f a H n) h'
      have h1 := run_le F G (Nat.le_max_left N N') N (max N N') (Nat.le_max_left _ _) f a H n _ (hs (fun q => q = s) rfl)
      have h2 := run_le F G (Nat.le_max_right N N') N' (max N N') (Nat.le_max_right _ _) f a H n _ (hall (fun q => q = s') rfl)
      obtain ⟨o, ho⟩ := run_det F G (max N N') (max N N') f a H n
      obtain ⟨q, hq, e1⟩ := (ho fun q => q = s).1 h1
      obtain ⟨q', hq', e2⟩ := (ho fun q => q = s').1 h2
      have : q = q' := by rw [hq] at hq'; exact Option.some.inj hq'
      refine ⟨s, rfl, ?_⟩
      have e3 : s = s' := by rw [← e1, ← e2]; exact this
      rw [e3]; exact hk'
    · cases e
      exact ⟨N, hs k hk⟩
  · refine ⟨none, fun k => ⟨fun ⟨N', h'⟩ => ?_, fun ⟨s', e, hk⟩ => by cases e⟩⟩
    obtain ⟨s', hk', hall⟩ := Det.at (run_det F G N' N' f a H n) h'
    exact absurd ⟨N', s', fun k hk => hall k hk⟩ h
noncomputable def loopL (a : M) (G : Roms) (call : CallT) : Regs → Heap → Nat → KX → K → Prop := fun R H n x r => ∀ I : K, (∀ R H n, a G call 0 R H n I x r → I R H n) → I R H n
noncomputable def loopLM (_ : AC) (a : M) : M := fun G call _ R H n _ x r => loopL a G call R H n x r
noncomputable def AC.exL (c : AC) : M := AC.rec (motive := fun _ => M) skipM opsM regM seqM condM blockM loopLM exitM retM c
noncomputable def exFunL (f : AF) : Roms → CallT → List V → Heap → Nat → KV → Prop :=
  AF.rec (motive := fun _ => Roms → CallT → List V → Heap → Nat → KV → Prop) (fun np code res d dg G call args H n k => onB (Nat.beq (len args) np) (code.exL G call 0 (initR args 0 .e) H n (exFin res dg d G call k) noX (exFin res dg d G call k))) (fun f G _ args H n k => natSem f G args H n k) f

section
variable {F : T AF} {G : Roms}
/- from some bound on -/
def Ev (p : Nat → Prop) : Prop := ∃ N, ∀ M, N ≤ M → p M
theorem Ev.ex {p : Nat → Prop} (h : Ev p) : ∃ N, p N := let ⟨N, h⟩ := h; ⟨N, h N (Nat.le_refl _)⟩
theorem runs_ev {f : Nat} {a : List V} {H : Heap} {n : Nat} {k : KV} (h : Runs F G f a H n k) : ∃ s : St, k s.1 s.2.1 s.2.2 ∧ ∃ N, ∀ M, N ≤ M → ∀ k' : KV, k' s.1 s.2.1 s.2.2 → run F G M M f a H n k' := by
  obtain ⟨N, h⟩ := h
  obtain ⟨s, hs, hall⟩ := Det.at (run_det F G N N f a H n) (k := fun s => k s.1 s.2.1 s.2.2) h
  exact ⟨s, hs, N, fun M hM k' hk' => run_le F G hM N M hM f a H n k' (hall (fun s => k' s.1 s.2.1 s.2.2) hk')⟩
theorem ae_ev (o : AE) (E : RS) (H : Heap) (n : Nat) (k : KV) (h : o.ex G (Runs F G) E H n k) : ∃ s : St, k s.1 s.2.1 s.2.2 ∧ ∃ N, ∀ M, N ≤ M → ∀ k' : KV, k' s.1 s.2.1 s.2.2 → o.ex G (run F G M M) E H n k' := by
  cases o with
  | call f a => exact runs_ev h
  | callv x a =>
    have h' : V.onFnP (x.ev E) (fun f a' c => Runs F G f (cat a' (cat (mapX a E) c)) H n k) := h
    rw [onFnP_iff] at h'
    obtain ⟨g, fa, ca, he, h'⟩ := h'
    obtain ⟨s, hs, N, hN⟩ := runs_ev h'
    refine ⟨s, hs, N, fun M hM k' hk' => ?_⟩
    show V.onFnP (x.ev E) (fun f a' c => run F G M M f (cat a' (cat (mapX a E) c)) H n k')
    rw [onFnP_iff]
    exact ⟨g, fa, ca, he, hN M hM k' hk'⟩
  | _ =>
    obtain ⟨s, hs, hall⟩ := Det.at (ae_det (runs_det F G) _ G E H n) (k := fun s => k s.1 s.2.1 s.2.2) h
    exact ⟨s, hs, 0, fun M _ k' hk' => hall (fun s => k' s.1 s.2.1 s.2.2) hk'⟩
theorem ao_ev (o : AO) (d : Dst) (E : RS) (H : Heap) (n : Nat) (k : KE) (h : o.ex G (Runs F G) d E H n k) : ∃ s : Se, k s.1 s.2.1 s.2.2 ∧ ∃ N, ∀ M, N ≤ M → ∀ k' : KE, k' s.1 s.2.1 s.2.2 → o.ex G (run F G M M) d E H n k' := by
  cases o with
  | e o =>
    obtain ⟨s, hs, N, hN⟩ := ae_ev o E H n _ h
    exact ⟨(setD d s.1 E, s.2.1, s.2.2), hs, N, fun M hM k' hk' => hN M hM (fun v H n => k' (setD d v E) H n) hk'⟩
  | _ =>
    obtain ⟨s, hs, hall⟩ := Det.at (ao_det (runs_det F G) _ G d E H n) (k := fun s => k s.1 s.2.1 s.2.2) h
    exact ⟨s, hs, 0, fun M _ k' hk' => hall (fun s => k' s.1 s.2.1 s.2.2) hk'⟩
theorem aop_ev (o : AOp) (E : RS) (H : Heap) (n : Nat) (k : KE) (h : o.ex G (Runs F G) E H n k) : ∃ s : Se, k s.1 s.2.1 s.2.2 ∧ ∃ N, ∀ M, N ≤ M → ∀ k' : KE, k' s.1 s.2.1 s.2.2 → o.ex G (run F G M M) E H n k' := by
  obtain ⟨d, g, o⟩ := o
  cases g with
  | no => exact ao_ev o d E H n k h
  | on x b =>
    have h' : gTst (x.ev E) b (o.ex G (Runs F G) d E H n k) (k (setD d (.tup []) E) H n) := h
    rw [gTst_iff] at h'
    obtain ⟨t, ht, h'⟩ := h'
    by_cases e : t = some b
    · rw [if_pos e] at h'
      obtain ⟨s, hs, N, hN⟩ := ao_ev o d E H n k h'
      refine ⟨s, hs, N, fun M hM k' hk' => ?_⟩
      show gTst (x.ev E) b (o.ex G (run F G M M) d E H n k') (k' (setD d (.tup []) E) H n)
      rw [gTst_iff]
      exact ⟨t, ht, by rw [if_pos e]; exact hN M hM k' hk'⟩
    · rw [if_neg e] at h'
      refine ⟨(setD d (.tup []) E, H, n), h', 0, fun M _ k' hk' => ?_⟩
      show gTst (x.ev E) b (o.ex G (run F G M M) d E H n k') (k' (setD d (.tup []) E) H n)
      rw [gTst_iff]
      exact ⟨t, ht, by rw [if_neg e]; exact hk'⟩
theorem ai_ev (i : AI) (E : RS) (H : Heap) (n : Nat) (k : KE) (h : i.ex G (Runs F G) E H n k) : ∃ s : Se, k s.1 s.2.1 s.2.2 ∧ ∃ N, ∀ M, N ≤ M → ∀ k' : KE, k' s.1 s.2.1 s.2.2 → i.ex G (run F G M M) E H n k' := by
  cases i with
  | op o => exact aop_ev o E H n k h
  | re d g o =>
    obtain ⟨s, hs, hall⟩ := Det.at (ai_det (runs_det F G) (.re d g o) G E H n) (k := fun s => k s.1 s.2.1 s.2.2) h
    exact ⟨s, hs, 0, fun M _ k' hk' => hall (fun s => k' s.1 s.2.1 s.2.2) hk'⟩
theorem ops_ev : ∀ (l : List AOp) (E : RS) (H : Heap) (n : Nat) (k : KE), exOps l G (Runs F G) E H n k → ∃ s : Se, k s.1 s.2.1 s.2.2 ∧ ∃ N, ∀ M, N ≤ M → ∀ k' : KE, k' s.1 s.2.1 s.2.2 → exOps l G (run F G M M) E H n k'
  | [], E, H, n, k, h => ⟨(E, H, n), h, 0, fun M _ k' hk' => hk'⟩
  | o :: l, E, H, n, k, h => by
    obtain ⟨s, hs, N, hN⟩ := aop_ev o E H n (fun E H n => exOps l G (Runs F G) E H n k) h
    obtain ⟨s', hs', N', hN'⟩ := ops_ev l _ _ _ k hs
    refine ⟨s', hs', max N N', fun M hM k' hk' => ?_⟩
    exact hN M (by omega) (fun E H n => exOps l G (run F G M M) E H n k') (hN' M (by omega) k' hk')
theorem items_ev : ∀ (l : List AI) (E : RS) (H : Heap) (n : Nat) (k : KE), exItems l G (Runs F G) E H n k → ∃ s : Se, k s.1 s.2.1 s.2.2 ∧ ∃ N, ∀ M, N ≤ M → ∀ k' : KE, k' s.1 s.2.1 s.2.2 → exItems l G (run F G M M) E H n k'
  | [], E, H, n, k, h => ⟨(E, H, n), h, 0, fun M _ k' hk' => hk'⟩
  | o :: l, E, H, n, k, h => by
    obtain ⟨s, hs, N, hN⟩ := ai_ev o E H n (fun E H n => exItems l G (Runs F G) E H n k) h
    obtain ⟨s', hs', N', hN'⟩ := items_ev l _ _ _ k hs
    refine ⟨s', hs', max N N', fun M hM k' hk' => ?_⟩
    exact hN M (by omega) (fun E H n => exItems l G (run F G M M) E H n k') (hN' M (by omega) k' hk')
def AcEv (F : T AF) (G : Roms) (c : AC) : Prop := ∀ (R : Regs) (H : Heap) (n : Nat) (k : K) (x : KX) (r : K), c.exL G (Runs F G) 0 R H n k x r →
  ∃ s, Out.on k x r s ∧ ∃ N, ∀ M, N ≤ M → ∀ k' x' r', Out.on k' x' r' s → c.ex G (run F G M M) M R H n k' x' r'
theorem loop_ev {a : AC} (ha : AcEv F G a) (R : Regs) (H : Heap) (n : Nat) (x : KX) (r : K) (h : loopL a.exL G (Runs F G) R H n x r) :
    ∃ s, Out.on (fun _ _ _ => False) x r s ∧ ∃ N, ∀ M, N ≤ M → ∀ j, N ≤ j → ∀ x' r', Out.on (fun _ _ _ => False) x' r' s → loopF a.ex G (run F G M M) M j R H n x' r' := by
  refine h (fun R H n => ∃ s, Out.on (fun _ _ _ => False) x r s ∧ ∃ N, ∀ M, N ≤ M → ∀ j, N ≤ j → ∀ x' r', Out.on (fun _ _ _ => False) x' r' s → loopF a.ex G (run F G M M) M j R H n x' r') ?_
  intro R H n hb
  obtain ⟨s, hs, N, hN⟩ := ha R H n _ x r hb
  cases s with
  | nrm R1 H1 n1 =>
    obtain ⟨s', hs', N', hN'⟩ := hs
    refine ⟨s', hs', max N N' + 1, fun M hM j hj x' r' ho => ?_⟩
    cases j with
    | zero => omega
    | succ j => exact hN M (by omega) (fun R H n => loopF a.ex G (run F G M M) M j R H n x' r') x' r' (hN' M (by omega) j (by omega) x' r' ho)
  | ext i R1 H1 n1 =>
    refine ⟨.ext i R1 H1 n1, hs, N + 1, fun M hM j hj x' r' ho => ?_⟩
    cases j with
    | zero => omega
    | succ j => exact hN M (by omega) (fun R H n => loopF a.ex G (run F G M M) M j R H n x' r') x' r' ho
  | ret R1 H1 n1 =>
    refine ⟨.ret R1 H1 n1, hs, N + 1, fun M hM j hj x' r' ho => ?_⟩
    cases j with
    | zero => omega
    | succ j => exact hN M (by omega) (fun R H n => loopF a.ex G (run F G M M) M j R H n x' r') x' r' ho
theorem ac_ev : ∀ c : AC, AcEv F G c
  | .skip => fun R H n k x r h => ⟨.nrm R H n, h, 0, fun M _ k' x' r' ho => ho⟩
  | .ops l => fun R H n k x r h => by
    obtain ⟨s, hs, N, hN⟩ := ops_ev l (.mk [] R) H n (fun E H n => k E.rg H n) h
    exact ⟨.nrm s.1.rg s.2.1 s.2.2, hs, N, fun M hM k' x' r' ho => hN M hM (fun E H n => k' E.rg H n) ho⟩
  | .reg l => fun R H n k x r h => by
    obtain ⟨s, hs, N, hN⟩ := items_ev l (.mk [] R) H n (fun E H n => k E.rg H n) h
    exact ⟨.nrm s.1.rg s.2.1 s.2.2, hs, N, fun M hM k' x' r' ho => hN M hM (fun E H n => k' E.rg H n) ho⟩
  | .seq a b => fun R H n k x r h => by
    obtain ⟨s, hs, N, hN⟩ := ac_ev a R H n (fun R H n => b.exL G (Runs F G) 0 R H n k x r) x r h
    cases s with
    | nrm R1 H1 n1 =>
      obtain ⟨s', hs', N', hN'⟩ := ac_ev b R1 H1 n1 k x r hs
      exact ⟨s', hs', max N N', fun M hM k' x' r' ho => hN M (by omega) (fun R H n => b.ex G (run F G M M) M R H n k' x' r') x' r' (hN' M (by omega) k' x' r' ho)⟩
    | ext i R1 H1 n1 => exact ⟨.ext i R1 H1 n1, hs, N, fun M hM k' x' r' ho => hN M hM (fun R H n => b.ex G (run F G M M) M R H n k' x' r') x' r' ho⟩
    | ret R1 H1 n1 => exact ⟨.ret R1 H1 n1, hs, N, fun M hM k' x' r' ho => hN M hM (fun R H n => b.ex G (run F G M M) M R H n k' x' r') x' r' ho⟩
  | .cond c a b => fun R H n k x r h => by
    have h' : onTst (c.ev (.mk [] R)) true (a.exL G (Runs F G) 0 R H n k x r) (b.exL G (Runs F G) 0 R H n k x r) := h
    rw [onTst_iff] at h'
    obtain ⟨t, ht, h'⟩ := h'
    by_cases e : t = true
    · rw [if_pos e] at h'
      obtain ⟨s, hs, N, hN⟩ := ac_ev a R H n k x r h'
      refine ⟨s, hs, N, fun M hM k' x' r' ho => ?_⟩
      show onTst (c.ev (.mk [] R)) true (a.ex G (run F G M M) M R H n k' x' r') (b.ex G (run F G M M) M R H n k' x' r')
      rw [onTst_iff]
      exact ⟨t, ht, by rw [if_pos e]; exact hN M hM k' x' r' ho⟩
    · rw [if_neg e] at h'
      obtain ⟨s, hs, N, hN⟩ := ac_ev b R H n k x r h'
      refine ⟨s, hs, N, fun M hM k' x' r' ho => ?_⟩
      show onTst (c.ev (.mk [] R)) true (a.ex G (run F G M M) M R H n k' x' r') (b.ex G (run F G M M) M R H n k' x' r')
      rw [onTst_iff]
      exact ⟨t, ht, by rw [if_neg e]; exact hN M hM k' x' r' ho⟩
  | .block id a => fun R H n k x r h => by
    obtain ⟨s, hs, N, hN⟩ := ac_ev a R H n k (blockX id k x) r h
    cases s with
    | nrm R1 H1 n1 => exact ⟨.nrm R1 H1 n1, hs, N, fun M hM k' x' r' ho => hN M hM k' (blockX id k' x') r' ho⟩
    | ret R1 H1 n1 => exact ⟨.ret R1 H1 n1, hs, N, fun M hM k' x' r' ho => hN M hM k' (blockX id k' x') r' ho⟩
    | ext i R1 H1 n1 =>
      have hs' : blockX id k x i R1 H1 n1 := hs
      unfold blockX at hs'
      cases hb : Nat.beq i id with
      | true =>
        rw [hb] at hs'
        refine ⟨.nrm R1 H1 n1, hs', N, fun M hM k' x' r' ho => hN M hM k' (blockX id k' x') r' ?_⟩
        show blockX id k' x' i R1 H1 n1
        unfold blockX; rw [hb]; exact ho
      | false =>
        rw [hb] at hs'
        refine ⟨.ext i R1 H1 n1, hs', N, fun M hM k' x' r' ho => hN M hM k' (blockX id k' x') r' ?_⟩
        show blockX id k' x' i R1 H1 n1
        unfold blockX; rw [hb]; exact ho
  | .loop a => fun R H n k x r h => by
    obtain ⟨s, hs, N, hN⟩ := loop_ev (ac_ev a) R H n x r h
    cases s with
    | nrm R1 H1 n1 => exact (show False from hs).elim
    | ext i R1 H1 n1 => exact ⟨.ext i R1 H1 n1, hs, N, fun M hM k' x' r' ho => hN M hM M hM x' r' ho⟩
    | ret R1 H1 n1 => exact ⟨.ret R1 H1 n1, hs, N, fun M hM k' x' r' ho => hN M hM M hM x' r' ho⟩
  | .exit i => fun R H n k x r h => ⟨.ext i R H n, h, 0, fun M _ k' x' r' ho => ho⟩
  | .ret => fun R H n k x r h => ⟨.ret R H n, h, 0, fun M _ k' x' r' ho => ho⟩
theorem exDef_ev (dg : Nat) : ∀ (l : List V) (H : Heap) (n : Nat) (k : Heap → Nat → Prop), exDef dg l (Runs F G) H n k → ∃ H' n', k H' n' ∧ ∃ N, ∀ M, N ≤ M → ∀ k' : Heap → Nat → Prop, k' H' n' → exDef dg l (run F G M M) H n k'
  | [], H, n, k, h => ⟨H, n, h, 0, fun M _ k' hk' => hk'⟩
  | v :: l, H, n, k, h => by
    have h' : V.onFnP v (fun f a c => onB (Nat.beq f dg) (Runs F G f (cat a c) H n fun _ H n => exDef dg l (Runs F G) H n k)) := h
    rw [onFnP_iff] at h'
    obtain ⟨g, fa, ca, he, h'⟩ := h'
    rw [onB_eq] at h'
    obtain ⟨s, hs, N, hN⟩ := runs_ev h'.2
    obtain ⟨H', n', hk, N', hN'⟩ := exDef_ev dg l _ _ k hs
    refine ⟨H', n', hk, max N N', fun M hM k' hk' => ?_⟩
    show V.onFnP v (fun f a c => onB (Nat.beq f dg) (run F G M M f (cat a c) H n fun _ H n => exDef dg l (run F G M M) H n k'))
    rw [onFnP_iff]
    exact ⟨g, fa, ca, he, (onB_eq _ _).2 ⟨h'.1, hN M (by omega) (fun _ H n => exDef dg l (run F G M M) H n k') (hN' M (by omega) k' hk')⟩⟩
theorem exFin_ev (res : List AR) (dg : Nat) (d : Dst) (k : KV) (R : Regs) (H : Heap) (n : Nat) (h : exFin res dg d G (Runs F G) k R H n) : ∃ N, ∀ M, N ≤ M → exFin res dg d G (run F G M M) k R H n := by
  cases d with
  | no => exact ⟨0, fun M _ => h⟩
  | to p =>
    obtain ⟨H', n', hk, N, hN⟩ := exDef_ev dg _ H n _ h
    exact ⟨N, fun M hM => hN M hM _ hk⟩
  | ps => exact ⟨0, fun M _ => h⟩
/- a function runs as its code does -/
theorem runs_intro {f : Nat} {af : AF} (hf : T.get F f = some af) {args : List V} {H : Heap} {n : Nat} {k : KV} (h : exFunL af G (Runs F G) args H n k) : Runs F G f args H n k := by
  cases af with
  | nat nk =>
    refine ⟨1, ?_⟩
    show onO (T.get F f) fun af => exFun af G (run F G 1 0) 1 args H n k
    rw [hf]; exact h
  | mk np code res d dg =>
  have h' : onB (Nat.beq (len args) np) (code.exL G (Runs F G) 0 (initR args 0 .e) H n (exFin res dg d G (Runs F G) k) noX (exFin res dg d G (Runs F G) k)) := h
  rw [onB_eq] at h'
  obtain ⟨s, hs, N, hN⟩ := ac_ev code _ H n _ _ _ h'.2
  have key : ∃ N', ∀ M, N' ≤ M → Out.on (exFin res dg d G (run F G M M) k) noX (exFin res dg d G (run F G M M) k) s := by
    cases s with
    | nrm R1 H1 n1 => exact exFin_ev res dg d k R1 H1 n1 hs
    | ext i R1 H1 n1 => exact (show False from hs).elim
    | ret R1 H1 n1 => exact exFin_ev res dg d k R1 H1 n1 hs
  obtain ⟨N', hN'⟩ := key
  refine ⟨max N N' + 1, ?_⟩
  show onO (T.get F f) fun af => exFun af G (run F G (max N N' + 1) (max N N')) (max N N' + 1) args H n k
  rw [hf]
  show onB (Nat.beq (len args) np) _
  rw [onB_eq]
  refine ⟨h'.1, ?_⟩
  have hle := run_le F G (Nat.le_succ (max N N')) (max N N') (max N N') (Nat.le_refl _)
  have h1 := hN (max N N') (by omega) _ _ _ (hN' (max N N') (by omega))
  have h2 := ac_le (run_det F G (max N N' + 1) (max N N')) hle G (Nat.le_succ (max N N')) code _ _ _ _ _ _ h1
  exact DC.mono (ac_det (run_det F G (max N N' + 1) (max N N')) G _ code _ _ _) (fun R H n hk => exFin_le (run_det F G _ _) hle res dg d G k R H n hk) (fun _ _ _ _ hx => hx) (fun R H n hk => exFin_le (run_det F G _ _) hle res dg d G k R H n hk) h2
end
/- loops: what holds at each round's head -/
section
variable {G : Roms} {call : CallT}
theorem loopL_rule {a : M} (hm : ∀ R H n (k k' : K) x r, (∀ R H n, k R H n → k' R H n) → a G call 0 R H n k x r → a G call 0 R H n k' x r) {x : KX} {r : K} (I : Nat → K)
    (h : ∀ m R H n, I m R H n → a G call 0 R H n (fun R H n => ∃ m', m' < m ∧ I m' R H n) x r) {m : Nat} {R : Regs} {H : Heap} {n : Nat} (h0 : I m R H n) : loopL a G call R H n x r := by
  intro J hJ
  induction m using Nat.strongRecOn generalizing R H n with
  | _ m ih =>
    refine hJ R H n (hm R H n _ _ x r ?_ (h m R H n h0))
    rintro R H n ⟨m', hlt, hI⟩
    exact ih m' hlt hI
/- code is monotone in what comes behind -/
theorem ops_mono (hc : CallDet call) (l : List AOp) (E : RS) (H : Heap) (n : Nat) {k k' : KE} (hk : ∀ E H n, k E H n → k' E H n) (h : exOps l G call E H n k) : exOps l G call E H n k' :=
  Det.mono (ops_det hc G l E H n) (k := fun s => k s.1 s.2.1 s.2.2) (k' := fun s => k' s.1 s.2.1 s.2.2) (fun s hs => hk _ _ _ hs) h
theorem items_mono (hc : CallDet call) (l : List AI) (E : RS) (H : Heap) (n : Nat) {k k' : KE} (hk : ∀ E H n, k E H n → k' E H n) (h : exItems l G call E H n k) : exItems l G call E H n k' :=
  Det.mono (items_det hc G l E H n) (k := fun s => k s.1 s.2.1 s.2.2) (k' := fun s => k' s.1 s.2.1 s.2.2) (fun s hs => hk _ _ _ hs) h
theorem exL_mono (hc : CallDet call) : ∀ (c : AC) (R : Regs) (H : Heap) (n : Nat) (k k' : K) (x x' : KX) (r r' : K), (∀ R H n, k R H n → k' R H n) → (∀ i R H n, x i R H n → x' i R H n) → (∀ R H n, r R H n → r' R H n) →
    c.exL G call 0 R H n k x r → c.exL G call 0 R H n k' x' r'
  | .skip, R, H, n, k, k', x, x', r, r', hk, hx, hr, h => hk _ _ _ h
  | .ops l, R, H, n, k, k', x, x', r, r', hk, hx, hr, h => ops_mono hc l _ H n (fun E H n h => hk _ _ _ h) h
  | .reg l, R, H, n, k, k', x, x', r, r', hk, hx, hr, h => items_mono hc l _ H n (fun E H n h => hk _ _ _ h) h
  | .seq a b, R, H, n, k, k', x, x', r, r', hk, hx, hr, h => exL_mono hc a R H n _ _ x x' r r' (fun R H n h => exL_mono hc b R H n k k' x x' r r' hk hx hr h) hx hr h
  | .cond c a b, R, H, n, k, k', x, x', r, r', hk, hx, hr, h => by
    have h' : onTst (c.ev (.mk [] R)) true (a.exL G call 0 R H n k x r) (b.exL G call 0 R H n k x r) := h
    show onTst (c.ev (.mk [] R)) true (a.exL G call 0 R H n k' x' r') (b.exL G call 0 R H n k' x' r')
    rw [onTst_iff] at h' ⊢
    obtain ⟨t, ht, h'⟩ := h'
    refine ⟨t, ht, ?_⟩
    split
    · rename_i e; rw [if_pos e] at h'; exact exL_mono hc a R H n k k' x x' r r' hk hx hr h'
    · rename_i e; rw [if_neg e] at h'; exact exL_mono hc b R H n k k' x x' r r' hk hx hr h'
  | .block id a, R, H, n, k, k', x, x', r, r', hk, hx, hr, h => by
    refine exL_mono hc a R H n k k' (blockX id k x) (blockX id k' x') r r' hk (fun i R H n h => ?_) hr h
    unfold blockX at h ⊢
    cases hb : Nat.beq i id with
    | true => rw [hb] at h; exact hk _ _ _ h
    | false => rw [hb] at h; exact hx _ _ _ _ h
  | .loop a, R, H, n, k, k', x, x', r, r', hk, hx, hr, h => by
    intro I hI
    exact h I fun R H n hb => hI R H n (exL_mono hc a R H n I I x x' r r' (fun _ _ _ h => h) hx hr hb)
  | .exit i, R, H, n, k, k', x, x', r, r', hk, hx, hr, h => hx _ _ _ _ h
  | .ret, R, H, n, k, k', x, x', r, r', hk, hx, hr, h => hr _ _ _ h
end
end Go.Eng

/- The engine, part 39: from runs to a law's row. -/
namespace Go.Eng
open Go.ChangeShapes Go.WideShapes Go.RowKit

/- what a run leaves of the world that was there -/
structure Old (W W' : World) : Prop where
  os : W'.os = W.os
  out : W'.output = W.output
  heap : ∀ b, b < W.heap.size → W'.heap[b]? = W.heap[b]?
theorem Old.kept {W W' : World} (h : Old W W') (may : MemPlace → Prop) : W.keptBut W' may := by
  refine ⟨h.os, h.out, fun i hi => ?_⟩
  rw [h.heap i hi]
  cases hh : W.heap[i]? with
  | none => rfl
  | some o => cases o <;> simp
theorem Old.cell {W W' : World} (h : Old W W') {a : Addr} (ha : a.block < W.heap.size) : W'.cell? a = W.cell? a := by
  unfold World.cell?
  rw [h.heap _ ha]
theorem Old.same {W W' : World} (h : Old W W') {p : MemPlace} (hp : p.block < W.heap.size) : W.sameAt W' p := by
  cases p with
  | cell b off => exact h.cell hp
  | map b => exact h.heap b hp
theorem Old.trodAll {H : Type} {enc : TypeId × Value → H} {P : Program} (hl : laidOutB P = true) {W W' : World} (h : Old W W') : ∀ {ts : List TypeId} {vs : List Value} {ds : List (DataW H)} {ps : List MemPlace},
    (∀ t ∈ ts, P.readableRec t = true ∧ t < P.types.size) → DataW.TrodAll enc P W 0 (fun _ => true) true ts vs ds ps → (∀ x ∈ ps, x.block < W.heap.size) → DataW.TrodAll enc P W' 0 (fun b => decide (b < W.heap.size)) true ts vs ds ps
  | [], [], [], _, _, ht, _ => ht
  | t :: ts, v :: vs, d :: ds, _, hr, ⟨p, q, h1, h2, e⟩, hlt => by
    subst e
    refine ⟨p, q, ?_, Old.trodAll hl h (fun t ht => hr t (List.mem_cons_of_mem _ ht)) h2 (fun x hx => hlt x (List.mem_append_right _ hx)), rfl⟩
    exact WideElems.Trod_stays hl (hr t List.mem_cons_self).1 (hr t List.mem_cons_self).2 h1 (fun x hx => h.same (hlt x (List.mem_append_left _ hx))) (fun x hx => by simpa using hlt x (List.mem_append_left _ hx))

section
variable {P : Program} {F : T AF}
/- a run that gives true -/
theorem calls_of_runs {G : Roms} {W : World} (hF : FnsOk P F) (hg : GRel W G) {f : Nat} {vargs : List V} {args : Array Value} (hr : LRel (fun _ => none) vargs args.toList) (h : Runs F G f vargs .e 0 fun v _ _ => v = .bool true) :
    Calls P f args W fun e W' => e = .returned (.bool true) ∧ Old W W' := by
  obtain ⟨N, h⟩ := h
  obtain ⟨hc, _⟩ := run_ok (P := P) (F := F) (lf := N) hF hg N
  have hh : HRel W (fun _ => none) .e 0 W := {
    lt := fun _ _ h => by cases h
    blk := fun _ _ h => by cases h
    inj := fun _ _ _ _ h => by cases h
    arr := fun _ _ _ _ _ h => by cases h
    map := fun _ _ _ _ h => by cases h
    bld := fun _ _ _ _ _ _ _ h => by cases h
    old := fun _ _ => rfl
    os := rfl
    out := rfl
    big := Nat.le_refl _
    top := fun _ _ => T.get_e _ }
  refine ((hc f vargs .e 0 _ h).2 _ W args hh hr).mono ?_
  rintro e W' ⟨u, v, H', n', ρ', rfl, rfl, hv, hh', _⟩
  simp only [VRel] at hv
  subst hv
  exact ⟨rfl, hh'.os, hh'.out, hh'.old⟩
end

theorem weights_app {H : Type} {P : Program} : ∀ (ts us : List TypeId) (ds : List (DataW H)), ds.length = ts.length → DataW.weightsEach P (ts ++ us) (ds ++ []) = DataW.weightsEach P ts ds
  | [], us, [], _ => by cases us <;> simp [DataW.weightsEach]
  | [], us, _ :: _, h => by simp at h
  | _ :: _, us, [], h => by simp at h
  | t :: ts, us, d :: ds, h => by
    show d.weights P t ++ DataW.weightsEach P (ts ++ us) (ds ++ []) = d.weights P t ++ DataW.weightsEach P ts ds
    rw [weights_app ts us ds (by simpa using h)]
/- a law: for every input it returns true, the input reads as it did -/
theorem law_lifted_w {C : Checked} {F : T AF} (hF : FnsOk C.prog F) {os : Os} (started : os.Started) {f : FuncId} {fn : Func} {s : ChangeSpec} {laid : List (String × DataW Unit)} {tb : TypeId} {apart fresh : Bool} {H : Type} {enc : TypeId × Value → H}
    (own : ownKnob C.prog.godebug = none) (noInit : C.prog.inits.idxOf? f = none) (hfn : C.prog.funcs[f]? = some fn)
    (hsv : s.vars = []) (hsf : ∀ ds : List (DataW H), ds.length = fn.params.toList.length → s.fn H ds = { results := [.lit (.bool true)], args := ds })
    (hres : fn.resultTypes = #[tb]) (hb : C.prog.underlying tb = some .bool) (hl : laidOutB C.prog = true) (hp : ∀ t ∈ fn.params.toList, C.prog.readableRec t = true ∧ t < C.prog.types.size)
    (w0 : World) (args0 : Array Value) (fuel : Nat) (hos : w0.os = os)
    (hv : (w0.forCall (fun _ _ => 0) ⟨#[], args0, []⟩).variablesB C.prog = true)
    (hrb : ((w0.forCall (fun _ _ => 0) ⟨#[], args0, []⟩).heap.toList.drop C.prog.globals.size).take ((begin C.prog (fun _ _ => 0) default).world.heap.size - C.prog.globals.size) =
      (begin C.prog (fun _ _ => 0) default).world.heap.toList.drop C.prog.globals.size)
    (hok : Input.okWideB C.prog (w0.forCall (fun _ _ => 0) ⟨#[], args0, []⟩) f ⟨#[], args0, []⟩ = true)
    (hpre : s.preB enc C.prog fn [] apart (w0.forCall (fun _ _ => 0) ⟨#[], args0, []⟩).memory args0 fuel = true)
    (hsz : s.sizedB enc C.prog fn apart (w0.forCall (fun _ _ => 0) ⟨#[], args0, []⟩).memory args0 fuel = true)
    (hx : laidMetH C.prog laid (w0.forCall (fun _ _ => 0) ⟨#[], args0, []⟩).memory)
    (hrun : ∀ (W : World) (args : Array Value) (ds : List (DataW H)) (ps : List MemPlace), (∀ (j : Nat) t v, fn.params[j]? = some t → args[j]? = some v → ∃ base, Value.okWide C.prog W .any base t v) →
      DataW.TrodAll enc C.prog W 0 (fun _ => true) true fn.params.toList args.toList ds ps → laidMetH C.prog laid W → (DataW.weightsEach C.prog fn.params.toList ds).all (· ≤ reachBytes) = true →
      ∃ G vargs, GRel W G ∧ LRel (fun _ => none) vargs args.toList ∧ Runs F G f vargs .e 0 fun v _ _ => v = .bool true) :
    ReturnsInHanded {} C os f .any (fun w args => (s.pre enc C.prog fn [] apart w args ∧ laidMetH C.prog laid w) ∧ sizedMet enc C.prog fn (OpenSpec.ofChange s) apart w args) (s.post enc C.prog fn apart fresh false false) := by
  refine returnsInHanded_of_change_and (C := C) (X := fun w _ => laidMetH C.prog laid w) (fun _ _ _ hh h => h.of_heap hh) own started noInit hfn
    (ChangeSpec.witness_at (enc := enc) (C := C) (os := os) (X := fun w _ => laidMetH C.prog laid w) false w0 args0 fuel hos hv hrb hok hpre hsz hx) ?_
  intro W base args ds gs before hval hW _ hz hL _
  have hW' := hW
  have hlt := hW.lt
  obtain ⟨p, q, hA, hV, rfl, hfz, hnd⟩ := hW
  have hgs : gs = [] ∧ q = [] := by
    rw [hsv] at hV
    cases gs with
    | nil => exact ⟨rfl, hV⟩
    | cons g r => exact absurd hV (by intro h; cases h)
  obtain ⟨rfl, rfl⟩ := hgs
  have hlen : ds.length = fn.params.toList.length := by
    have hlen : ∀ {ts : List TypeId} {vs : List Value} {ds : List (DataW H)} {ps : List MemPlace}, DataW.TrodAll enc C.prog W 0 (fun _ => true) true ts vs ds ps → ds.length = ts.length := by
      intro ts
      induction ts with
      | nil => intro vs ds ps h; cases vs <;> cases ds <;> first | rfl | exact h.elim
      | cons t ts ih =>
        intro vs ds ps h
        cases vs <;> cases ds <;> try exact h.elim
        obtain ⟨p, q, _, h2, _⟩ := h
        simp [ih h2]
    exact hlen hA
  rw [weights_app _ _ _ hlen] at hz
  obtain ⟨G, vargs, hg, hr, hrn⟩ := hrun W args ds p (fun j t v h1 h2 => ⟨base, hval j t v h1 h2⟩) hA hL hz
  refine (calls_of_runs hF hg hr hrn).mono fun e W' ⟨he, ho⟩ => ?_
  subst he
  have e1 : s.fn H (ds ++ []) = { results := [.lit (.bool true)], args := ds } := by rw [List.append_nil]; exact hsf ds hlen
  refine ⟨_, rfl, ds, [], _, [], p, [], hW', ?_, ?_, ?_, ho.kept _, fun h => by cases h⟩
  · rw [e1, hres]; exact trodAll_mk1 (shut_bool hb true)
  · rw [e1]; exact Old.trodAll hl ho hp hA (fun x hx => hlt x (by simpa using hx))
  · rw [e1, hsv]; rfl

theorem law_lifted {C : Checked} {F : T AF} (hF : FnsOk C.prog F) {os : Os} (started : os.Started) {f : FuncId} {fn : Func} {s : ChangeSpec} {laid : List (String × DataW Unit)} {tb : TypeId} {apart fresh : Bool} {H : Type} {enc : TypeId × Value → H}
    (own : ownKnob C.prog.godebug = none) (noInit : C.prog.inits.idxOf? f = none) (hfn : C.prog.funcs[f]? = some fn)
    (hsv : s.vars = []) (hsf : ∀ ds : List (DataW H), ds.length = fn.params.toList.length → s.fn H ds = { results := [.lit (.bool true)], args := ds })
    (hres : fn.resultTypes = #[tb]) (hb : C.prog.underlying tb = some .bool) (hl : laidOutB C.prog = true) (hp : ∀ t ∈ fn.params.toList, C.prog.readableRec t = true ∧ t < C.prog.types.size)
    (w0 : World) (args0 : Array Value) (fuel : Nat) (hos : w0.os = os)
    (hv : (w0.forCall (fun _ _ => 0) ⟨#[], args0, []⟩).variablesB C.prog = true)
    (hrb : ((w0.forCall (fun _ _ => 0) ⟨#[], args0, []⟩).heap.toList.drop C.prog.globals.size).take ((begin C.prog (fun _ _ => 0) default).world.heap.size - C.prog.globals.size) =
      (begin C.prog (fun _ _ => 0) default).world.heap.toList.drop C.prog.globals.size)
    (hok : Input.okWideB C.prog (w0.forCall (fun _ _ => 0) ⟨#[], args0, []⟩) f ⟨#[], args0, []⟩ = true)
    (hpre : s.preB enc C.prog fn [] apart (w0.forCall (fun _ _ => 0) ⟨#[], args0, []⟩).memory args0 fuel = true)
    (hsz : s.sizedB enc C.prog fn apart (w0.forCall (fun _ _ => 0) ⟨#[], args0, []⟩).memory args0 fuel = true)
    (hx : laidMetH C.prog laid (w0.forCall (fun _ _ => 0) ⟨#[], args0, []⟩).memory)
    (hrun : ∀ (W : World) (args : Array Value) (ds : List (DataW H)) (ps : List MemPlace), (∀ (j : Nat) t v, fn.params[j]? = some t → args[j]? = some v → ∃ base, Value.okWide C.prog W .any base t v) →
      DataW.TrodAll enc C.prog W 0 (fun _ => true) true fn.params.toList args.toList ds ps → laidMetH C.prog laid W →
      ∃ G vargs, GRel W G ∧ LRel (fun _ => none) vargs args.toList ∧ Runs F G f vargs .e 0 fun v _ _ => v = .bool true) :
    ReturnsInHanded {} C os f .any (fun w args => (s.pre enc C.prog fn [] apart w args ∧ laidMetH C.prog laid w) ∧ sizedMet enc C.prog fn (OpenSpec.ofChange s) apart w args) (s.post enc C.prog fn apart fresh false false) :=
  law_lifted_w hF started own noInit hfn hsv hsf hres hb hl hp w0 args0 fuel hos hv hrb hok hpre hsz hx fun W args ds ps h1 h2 h3 _ => hrun W args ds ps h1 h2 h3
end Go.Eng

/- The engine, part 40: what holds of all functions of a program; data that was there. -/
namespace Go.Eng
open Go.ChangeShapes Go.WideShapes Go.RowKit

/- ## all entries of a trie -/
inductive T.All {α : Type} : (P2 → α → Prop) → T α → Prop
  | e {Q : P2 → α → Prop} : T.All Q .e
  | n0 {Q : P2 → α → Prop} {l r : T α} : T.All (fun p => Q (.z p)) l → T.All (fun p => Q (.o p)) r → T.All Q (.n none l r)
  | n1 {Q : P2 → α → Prop} {x : α} {l r : T α} : Q .h x → T.All (fun p => Q (.z p)) l → T.All (fun p => Q (.o p)) r → T.All Q (.n (some x) l r)
theorem T.All.getp {α : Type} : ∀ {p : P2} {Q : P2 → α → Prop} {t : T α}, T.All Q t → ∀ {x : α}, T.getp p t = some x → Q p x
  | p, _, _, .e, x, h => by rw [T.getp_e] at h; cases h
  | .h, _, _, .n0 _ _, x, h => by rw [T.getp_h] at h; cases h
  | .z p, Q, _, .n0 hl _, x, h => by rw [T.getp_z] at h; exact T.All.getp (p := p) (Q := fun p => Q (.z p)) hl h
  | .o p, Q, _, .n0 _ hr, x, h => by rw [T.getp_o] at h; exact T.All.getp (p := p) (Q := fun p => Q (.o p)) hr h
  | .h, _, _, .n1 hx _ _, x, h => by rw [T.getp_h] at h; cases h; exact hx
  | .z p, Q, _, .n1 _ hl _, x, h => by rw [T.getp_z] at h; exact T.All.getp (p := p) (Q := fun p => Q (.z p)) hl h
  | .o p, Q, _, .n1 _ _ hr, x, h => by rw [T.getp_o] at h; exact T.All.getp (p := p) (Q := fun p => Q (.o p)) hr h
structure FnCode (P : Program) (F : T AF) (f : Nat) (af : AF) : Prop where
  tr : ∃ fn loc df ords, P.funcs[f]? = some fn ∧ (fn.name == "runtime.NumGoroutine") = false ∧ trF P loc df ords af.dg fn = some af
  dg : isNo af.dp = true ∨ ∃ af', T.get F af.dg = some af' ∧ isNo af'.dp = true
inductive FnGood (P : Program) (F : T AF) (f : Nat) (af : AF) : Prop
  | code (h : FnCode P F f af)
  | nat (k : Nk) (hk : af = .nat k) (h : NatOk P f k)
theorem isNo_iff {d : Dst} : isNo d = true ↔ d = .no := by cases d <;> simp [isNo]
theorem FnsOk.of_all {P : Program} {F : T AF} (hm : P.follows .mixedOrders = true) (h : T.All (fun p af => FnGood P F p.key af) F) : FnsOk P F where
  mixed := hm
  nats := fun f k hf => by
    have h' := T.All.getp (p := pth f) h hf
    rw [key_pth] at h'
    cases h' with
    | code h' =>
      obtain ⟨fn, loc, df, ords, _, _, ht⟩ := h'.tr
      unfold trF at ht
      split at ht
      · obtain ⟨_, _, ht⟩ := bind2_some.1 ht
        obtain ⟨_, _, ht⟩ := bind2_some.1 ht
        split at ht <;> cases ht
      · cases ht
    | nat k' hk h' => cases hk; exact h'
  fns := fun f af hf hn => by
    have h' := T.All.getp (p := pth f) h hf
    rw [key_pth] at h'
    cases h' with
    | code h' => exact h'.tr
    | nat k' hk h' => subst hk; cases hn
  dgs := fun f af af' hf hn hd hf' => by
    have h' := T.All.getp (p := pth f) h hf
    cases h' with
    | code h' =>
      rcases h'.dg with e | ⟨a, ha, hn⟩
      · exact absurd (isNo_iff.1 e) hd
      · rw [ha] at hf'; cases hf'; exact isNo_iff.1 hn
    | nat k' hk h' => subst hk; cases hn

/- ## values of memory that was there -/
open Classical in
noncomputable def toV : Value → V
  | .int k n => .int k n 0
  | .bool b => .bool b
  | .string s => .str s.data.toList.length (enc s.data.toList)
  | .slice none len cap => if len = 0 ∧ cap = 0 then .nils else .undef
  | .slice (some a) len cap => if len ≤ cap ∧ (cap = 0 ∨ a.spot = none) then .rsl a.block a.off len cap 0 else .undef
  | _ => .undef
theorem toV_rel (ρ : Loc) (u : Value) : VRel ρ (toV u) u := by
  cases u with
  | slice a len cap =>
    cases a with
    | none =>
      simp only [toV]
      split
      · rename_i h; obtain ⟨rfl, rfl⟩ := h; simp [VRel]
      · simp [VRel]
    | some a =>
      simp only [toV]
      split
      · rename_i h
        refine ⟨a, rfl, ?_, h.1⟩
        rcases h.2 with e | e
        · exact .inl e
        · right; cases a; simp_all
      · simp [VRel]
  | _ => simp [toV, VRel]
open Classical in
noncomputable def romsOf (W : World) : Roms := fun b off n =>
  if ∀ j, j < n → ∃ u, W.cell? ⟨b, off + j, none⟩ = some u ∧ u.oneCell' = true then some ((List.range n).map fun j => toV ((W.cell? ⟨b, off + j, none⟩).getD undef)) else none
theorem romsOf_rel (W : World) : GRel W (romsOf W) := by
  intro b off n L h
  unfold romsOf at h
  split at h
  · rename_i hc
    cases h
    refine ⟨by simp, fun j v hj => ?_⟩
    rw [List.getElem?_map] at hj
    cases hr : (List.range n)[j]? with
    | none => rw [hr] at hj; cases hj
    | some k =>
      rw [hr] at hj
      have hk : j < n := by have := (List.getElem?_eq_some_iff.1 hr).1; simpa using this
      rw [List.getElem?_range hk] at hr
      cases hr
      obtain ⟨u, hu, h1⟩ := hc j hk
      refine ⟨u, hu, ?_, h1⟩
      simp only [Option.map_some, Option.some.injEq] at hj
      subst hj
      rw [hu]
      exact toV_rel _ _
  · cases h
theorem romsOf_some {W : World} {b off n : Nat} {cs : List Value} (hl : cs.length = n) (h1 : ∀ u ∈ cs, u.oneCell' = true) (h : ∀ j u, cs[j]? = some u → W.cell? ⟨b, off + j, none⟩ = some u) : romsOf W b off n = some (cs.map toV) := by
  subst hl
  unfold romsOf
  rw [if_pos]
  · congr 1
    apply List.ext_getElem?
    intro j
    rw [List.getElem?_map, List.getElem?_map]
    by_cases hj : j < cs.length
    · rw [List.getElem?_range hj, List.getElem?_eq_getElem hj]
      simp only [Option.map_some]
      rw [h j _ (List.getElem?_eq_getElem hj)]
      rfl
    · rw [List.getElem?_eq_none (by simpa using hj), List.getElem?_eq_none (by simpa using hj)]
      rfl
  · intro j hj
    exact ⟨cs[j], h j _ (List.getElem?_eq_getElem hj), h1 _ (List.getElem_mem hj)⟩
/- one over another -/
def Roms.with (G : Roms) (b : Nat) (G' : Roms) : Roms := fun c off n => if c = b then G' c off n else G c off n

/- ## data -/
inductive Dt where
  | int (k : IntKind) (n : Int) | bool (b : Bool) | str (s : List UInt8) | sl (z : Nat) (l : List Dt) | st (l : List Dt)
noncomputable def strV (s : List UInt8) : V := .str s.length (enc s)
mutual
/- cells that hold a datum -/
def Rep (G : Roms) (H : Heap) : Dt → LV → Prop
  | .int k n, vs => vs = [.int k n 0]
  | .bool b, vs => vs = [.bool b]
  | .str s, vs => vs = [strV s]
  | .sl z l, vs => ∃ v LS, vs = [v] ∧ elems v G H z = some LS ∧ isStr v = false ∧ RepL G H l LS
  | .st l, vs => ∃ LS, vs = LS.flatten ∧ RepL G H l LS
def RepL (G : Roms) (H : Heap) : List Dt → LLV → Prop
  | [], LS => LS = []
  | d :: ds, LS => ∃ L LS', LS = L :: LS' ∧ Rep G H d L ∧ RepL G H ds LS'
end
end Go.Eng

/- The engine, part 41: variables that are laid. -/
namespace Go.Eng
open Go.ChangeShapes Go.WideShapes Go.RowKit
variable {P : Program} {H : Type} {enc' : TypeId × Value → H} {w : World} {base : Nat} {spare : Nat → Bool} {held : Bool}

/- plain data as cells -/
def flatF {H : Type} : Nat → DataW H → Option LV
  | 0, _ => none
  | n + 1, d => match d with
    | .lit (.int k i) => some [.int k i 0]
    | .lit (.bool b) => some [.bool b]
    | .lit (.string s) => some [.str s.length (enc s)]
    | .agg ds => (ds.mapM (flatF n)).map List.flatten
    | _ => none
/- parts one behind the other -/
def consec : Nat → List (Nat × Nat) → Nat → Bool
  | o, [], tot => Nat.beq o tot
  | o, (a, l) :: r, tot => Nat.beq a o && consec (o + l) r tot
def tightT (P : Program) : Nat → TypeId → Bool
  | 0, _ => false
  | d + 1, t => match P.underlying t with
    | some (.int _) => true
    | some .bool => true
    | some .string => true
    | some (.struct fs) => consec 0 (fs.toList.map fun f => (f.offset, P.cellsOf f.type)) (P.cellsOf t) && fs.toList.all fun f => tightT P d f.type
    | some (.array n e) => Nat.beq (n * P.cellsOf e) (P.cellsOf t) && tightT P d e
    | _ => false
theorem consec_flat {α : Type} (cs : List α) : ∀ (ls : List (Nat × Nat)) (o : Nat), consec o ls cs.length = true → cs.drop o = (ls.map fun p => (cs.drop p.1).take p.2).flatten
  | [], o, h => by
    have : o = cs.length := Nat.eq_of_beq_eq_true h
    subst this; simp
  | (a, l) :: r, o, h => by
    simp only [consec, Bool.and_eq_true] at h
    have ha : a = o := Nat.eq_of_beq_eq_true h.1
    subst ha
    have ih := consec_flat cs r (a + l) h.2
    simp only [List.map_cons, List.flatten_cons]
    rw [← ih, ← List.drop_drop, List.take_append_drop]
inductive All2 {α β : Type} (R : α → β → Prop) : List α → List β → Prop
  | nil : All2 R [] []
  | cons {a : α} {b : β} {l : List α} {m : List β} : R a b → All2 R l m → All2 R (a :: l) (b :: m)
theorem flat_rel {ρ : Loc} : ∀ {xs : List LV} {ys : List (List Value)}, All2 (fun a b => LRel ρ a b) xs ys → LRel ρ xs.flatten ys.flatten
  | _, _, .nil => by simp
  | _, _, .cons h t => by simp only [List.flatten_cons]; exact h.append (flat_rel t)
theorem mapM_forall₂ {α β γ : Type} {f : α → Option β} {R : β → γ → Prop} : ∀ {l : List α} {r : List β} {ys : List γ}, l.mapM f = some r → l.length = ys.length → (∀ (i : Nat) (a : α) (b : β) (y : γ), l[i]? = some a → f a = some b → ys[i]? = some y → R b y) → All2 R r ys
  | [], r, ys, h, hl, _ => by
    simp at h; subst h
    cases ys with
    | nil => exact .nil
    | cons => simp at hl
  | a :: l, r, ys, h, hl, hR => by
    cases ys with
    | nil => simp at hl
    | cons y ys =>
      rw [List.mapM_cons] at h
      cases hfa : f a with
      | none => rw [hfa] at h; cases h
      | some b =>
        rw [hfa] at h
        cases hr : l.mapM f with
        | none => simp [hr] at h
        | some r' =>
          simp [hr] at h; subst h
          exact .cons (hR 0 a b y rfl hfa rfl) (mapM_forall₂ hr (by simpa using hl) fun i a b y h1 h2 h3 => hR (i + 1) a b y (by simpa using h1) h2 (by simpa using h3))
theorem mapM_get {α β : Type} {f : α → Option β} : ∀ {l : List α} {r : List β}, l.mapM f = some r → ∀ a ∈ l, ∃ b, f a = some b
  | [], _, _, _, h => by cases h
  | a :: l, r, h, x, hx => by
    rw [List.mapM_cons] at h
    cases hfa : f a with
    | none => rw [hfa] at h; cases h
    | some b =>
      rw [hfa] at h
      cases hr : l.mapM f with
      | none => simp [hr] at h
      | some r' =>
        rcases List.mem_cons.1 hx with rfl | hx
        · exact ⟨b, hfa⟩
        · exact mapM_get hr x hx
theorem flat_sound : ∀ (fuel : Nat) {t : TypeId} {cs : List Value} {d : DataW H} {ps : List MemPlace} {n m : Nat} {vs : LV}, DataW.trod enc' P w base spare held fuel t cs = some (d, ps) → flatF n d = some vs → tightT P m t = true →
    LRel (fun _ => none) vs cs ∧ ∀ u ∈ cs, u.oneCell' = true
  | 0, _, _, _, _, _, _, _, h, _, _ => by simp [DataW.trod] at h
  | fuel + 1, t, cs, d, ps, n, 0, vs, h, hf, ht => by cases ht
  | fuel + 1, t, cs, d, ps, 0, m + 1, vs, h, hf, ht => by cases hf
  | fuel + 1, t, cs, d, ps, n + 1, m + 1, vs, h, hf, ht => by
    simp only [tightT] at ht
    split at ht
    · rename_i k hu
      obtain ⟨i, rfl, e, _⟩ := DataW.trod_int hu h
      cases e
      simp only [flatF, Option.some.injEq] at hf; subst hf
      exact ⟨.cons (by simp [VRel]) .nil, fun u hu => by simp at hu; subst hu; rfl⟩
    · rename_i hu
      obtain ⟨i, rfl, e⟩ := DataW.trod_bool hu h
      cases e
      simp only [flatF, Option.some.injEq] at hf; subst hf
      exact ⟨.cons (by simp [VRel]) .nil, fun u hu => by simp at hu; subst hu; rfl⟩
    · rename_i hu
      obtain ⟨s, rfl, e, _⟩ := DataW.trod_string hu h
      cases e
      simp only [flatF, Option.some.injEq] at hf; subst hf
      exact ⟨.cons ⟨s, rfl, rfl, rfl⟩ .nil, fun u hu => by simp at hu; subst hu; rfl⟩
    · rename_i fs hu
      rw [Bool.and_eq_true] at ht
      obtain ⟨xs, n', hfe, e, hlen, hxl, hel⟩ := DataW.trod_struct hu h
      have hfe' : fuel = n' := by omega
      subst hfe'
      cases e
      have hflat := consec_flat cs _ 0 (by rw [hlen]; exact ht.1)
      simp only [List.drop_zero, List.map_map] at hflat
      simp only [flatF] at hf
      cases hm : (xs.map (·.1)).mapM (flatF n) with
      | none => rw [hm] at hf; cases hf
      | some r =>
        rw [hm] at hf
        simp only [Option.map_some, Option.some.injEq] at hf
        subst hf
        have each : ∀ (i : Nat) (f : Field) (x : DataW H × List MemPlace), fs[i]? = some f → xs[i]? = some x → ∀ b, flatF n x.1 = some b → LRel (fun _ => none) b ((cs.drop f.offset).take (P.cellsOf f.type)) ∧ ∀ u ∈ (cs.drop f.offset).take (P.cellsOf f.type), u.oneCell' = true := by
          intro i f x hi hx b hb
          have h1 := hel i f hi
          rw [hx] at h1
          obtain ⟨x1, x2⟩ := x
          exact flat_sound fuel h1 hb (List.all_eq_true.1 ht.2 f (by simpa using Array.mem_of_getElem? hi))
        constructor
        · rw [hflat]
          refine flat_rel (mapM_forall₂ hm (by simp [hxl]) ?_)
          intro i a b y ha hb hy
          rw [List.getElem?_map] at ha hy
          cases hx : xs[i]? with
          | none => rw [hx] at ha; cases ha
          | some x =>
            rw [hx] at ha
            cases ha
            cases hfi : fs.toList[i]? with
            | none => rw [hfi] at hy; cases hy
            | some f =>
              rw [hfi] at hy
              cases hy
              exact (each i f x (by simpa using hfi) hx b hb).1
        · intro u hu'
          rw [hflat] at hu'
          obtain ⟨l, hl, hul⟩ := List.mem_flatten.1 hu'
          obtain ⟨f, hf, rfl⟩ := List.mem_map.1 hl
          obtain ⟨i, hi⟩ := List.mem_iff_getElem?.1 hf
          have hil : i < xs.length := by rw [hxl]; simpa using (List.getElem?_eq_some_iff.1 hi).1
          have hm' := mapM_get hm (xs[i]).1 (List.mem_map.2 ⟨xs[i], List.getElem_mem hil, rfl⟩)
          obtain ⟨b, hb⟩ := hm'
          exact (each i f _ (by simpa using hi) (List.getElem?_eq_getElem hil) b hb).2 u hul
    · rename_i k e hu
      rw [Bool.and_eq_true] at ht
      obtain ⟨xs, n', hfe, e', hlen, hxl, hel⟩ := DataW.trod_array hu h
      have hfe' : fuel = n' := by omega
      subst hfe'
      cases e'
      have hk : k * P.cellsOf e = P.cellsOf t := Nat.eq_of_beq_eq_true ht.1
      have hcon : ∀ (j o : Nat), consec (o * P.cellsOf e) ((List.range' o j).map fun i => (i * P.cellsOf e, P.cellsOf e)) ((o + j) * P.cellsOf e) = true := by
        intro j
        induction j with
        | zero => intro o; simp [consec]
        | succ j ih =>
          intro o
          simp only [List.range'_succ, List.map_cons, consec, Bool.and_eq_true]
          refine ⟨by simp, ?_⟩
          have := ih (o + 1)
          rw [Nat.add_mul, Nat.one_mul] at this
          rw [show o + (j + 1) = o + 1 + j by omega]
          exact this
      have hflat := consec_flat cs ((List.range' 0 k).map fun i => (i * P.cellsOf e, P.cellsOf e)) 0 (by have := hcon k 0; rw [hlen, ← hk]; simpa using this)
      simp only [List.drop_zero, List.map_map] at hflat
      simp only [flatF] at hf
      cases hm : (xs.map (·.1)).mapM (flatF n) with
      | none => rw [hm] at hf; cases hf
      | some r =>
        rw [hm] at hf
        simp only [Option.map_some, Option.some.injEq] at hf
        subst hf
        have each : ∀ (i : Nat) (x : DataW H × List MemPlace), i < k → xs[i]? = some x → ∀ b, flatF n x.1 = some b → LRel (fun _ => none) b ((cs.drop (i * P.cellsOf e)).take (P.cellsOf e)) ∧ ∀ u ∈ (cs.drop (i * P.cellsOf e)).take (P.cellsOf e), u.oneCell' = true := by
          intro i x hi hx b hb
          have h1 := hel i hi
          rw [hx] at h1
          obtain ⟨x1, x2⟩ := x
          exact flat_sound fuel h1 hb ht.2
        constructor
        · rw [hflat]
          refine flat_rel (mapM_forall₂ hm (by simp [hxl]) ?_)
          intro i a b y ha hb hy
          rw [List.getElem?_map] at ha hy
          cases hx : xs[i]? with
          | none => rw [hx] at ha; cases ha
          | some x =>
            rw [hx] at ha
            cases ha
            have hik : i < k := by rw [← hxl]; exact (List.getElem?_eq_some_iff.1 hx).1
            rw [List.getElem?_range' hik] at hy
            simp only [Option.map_some, Function.comp, Option.some.injEq, Nat.zero_add, Nat.one_mul] at hy
            subst hy
            exact (each i x hik hx b hb).1
        · intro u hu'
          rw [hflat] at hu'
          obtain ⟨l, hl, hul⟩ := List.mem_flatten.1 hu'
          obtain ⟨i, hi, rfl⟩ := List.mem_map.1 hl
          have hik : i < k := by simp at hi; exact hi
          have hil : i < xs.length := by rw [hxl]; exact hik
          have hm' := mapM_get hm (xs[i]).1 (List.mem_map.2 ⟨xs[i], List.getElem_mem hil, rfl⟩)
          obtain ⟨b, hb⟩ := hm'
          exact (each i _ hik (List.getElem?_eq_getElem hil) b hb).2 u hul
    · cases ht
/- a variable's cells -/
noncomputable def tabG (g : Nat) (tab : LV) : Roms := fun b off n => match Nat.beq b g && Nat.ble (off + n) tab.length with
  | true => some ((tab.drop off).take n)
  | false => none
theorem tabG_rel {W : World} {g : Nat} {cs : List Value} {tab : LV} (hc : ∀ i, W.cell? ⟨g, i, none⟩ = cs[i]?) (hr : LRel (fun _ => none) tab cs) (h1 : ∀ u ∈ cs, u.oneCell' = true) : GRel W (tabG g tab) := by
  intro b off n L h
  unfold tabG at h
  split at h
  · rename_i hb
    simp only [Bool.and_eq_true] at hb
    have hbg : b = g := Nat.eq_of_beq_eq_true hb.1
    have hle : off + n ≤ tab.length := Nat.le_of_ble_eq_true hb.2
    subst hbg
    cases h
    refine ⟨by simp; omega, fun j v hj => ?_⟩
    rw [List.getElem?_take] at hj
    split at hj
    · rw [List.getElem?_drop] at hj
      obtain ⟨u, hu, hv⟩ := hr.get hj
      exact ⟨u, by rw [hc]; exact hu, hv, h1 u (List.mem_of_getElem? hu)⟩
    · cases hj
  · cases h
theorem GRel.with {W : World} {G G' : Roms} {b : Nat} (h : GRel W G) (h' : GRel W G') : GRel W (G.with b G') := by
  intro c off n L hL
  unfold Roms.with at hL
  split at hL
  · exact h' c off n L hL
  · exact h c off n L hL
theorem none_rel (W : World) : GRel W (fun _ _ _ => none) := fun _ _ _ _ h => by cases h
end Go.Eng

/- The engine, part 42: runs by the kernel. -/
namespace Go.Eng
noncomputable def isT (v : V) (_ : Heap) (_ : Nat) : Prop := v.onBoolP fun b => Bool.rec (motive := fun _ => Prop) False True b
theorem isT_iff {v : V} {H : Heap} {n : Nat} : isT v H n → v = .bool true := by
  intro h
  cases v <;> try exact (show False from h).elim
  rename_i b
  cases b
  · exact (show False from h).elim
  · rfl
noncomputable def tabK (g len : Nat) (tab : LV) : Roms := fun b off n =>
  Bool.rec (motive := fun _ => Option LV) none (some (takeL n (dropL off tab))) (band (Nat.beq b g) (Nat.ble (Nat.add off n) len))
theorem tabK_eq {g : Nat} {tab : LV} : tabK g tab.length tab = tabG g tab := by
  funext b off n
  unfold tabK tabG
  simp only [takeL_eq, dropL_eq, band_eq]
  show (Bool.rec none (some (List.take n (List.drop off tab))) (Nat.beq b g && Nat.ble (off + n) tab.length) : Option LV) = _
  cases Nat.beq b g && Nat.ble (off + n) tab.length <;> rfl
theorem runs_of {F : T AF} {G : Roms} {f : Nat} {a : List V} {N : Nat} (h : run F G N N f a .e 0 isT = True) : Runs F G f a .e 0 fun v _ _ => v = .bool true :=
  runs_mono (k := isT) (fun _ _ _ hv => isT_iff hv) ⟨N, of_eq_true h⟩
end Go.Eng

/- The engine, part 44: whole numbers that are read to a remainder, or to a mask. -/
namespace Go.Eng
def umod (a : Int) (m : Nat) : Nat := ((IntKind.wrap .u64 a).tmod m).toNat
theorem wrap_u64 (a : Int) : IntKind.wrap .u64 a = a % 18446744073709551616 := by
  simp [IntKind.wrap, IntKind.signed, IntKind.bits]
theorem wrap_i64_small {n : Nat} (h : n < 9223372036854775808) : IntKind.wrap .i64 (n : Int) = n := by
  simp only [IntKind.wrap, IntKind.signed, IntKind.bits]
  have h1 : (n : Int) % 2 ^ 64 = n := Int.emod_eq_of_lt (by omega) (by omega)
  simp only [h1, Bool.true_and]
  rw [if_neg]
  simp
  omega
theorem umod_lt (a : Int) {m : Nat} (h : 0 < m) : umod a m < m := by
  unfold umod
  have h0 : 0 ≤ IntKind.wrap .u64 a := by rw [wrap_u64]; exact Int.emod_nonneg _ (by decide)
  have h1 := Int.tmod_lt_of_pos (IntKind.wrap .u64 a) (show (0 : Int) < m by omega)
  have h2 := Int.tmod_nonneg (m : Int) h0
  omega
theorem umod_eq (a : Int) (m : Nat) : (IntKind.wrap .u64 a).tmod m = (umod a m : Int) := by
  have h0 : 0 ≤ IntKind.wrap .u64 a := by rw [wrap_u64]; exact Int.emod_nonneg _ (by decide)
  have h2 := Int.tmod_nonneg (m : Int) h0
  unfold umod
  omega
def uand (a : Int) (m : Nat) : Nat := (bits .and .i64 a (.ofNat m)).toNat
theorem bits_and_le (a : Int) {m : Nat} (hm : m < 9223372036854775808) : ∃ x : Nat, bits .and .i64 a (.ofNat m) = x ∧ x ≤ m := by
  refine ⟨(BitVec.ofInt 64 a &&& BitVec.ofInt 64 (.ofNat m)).toNat, ?_, ?_⟩
  · have h1 : (BitVec.ofInt 64 a &&& BitVec.ofInt 64 (.ofNat m)).toNat < 9223372036854775808 := by
      rw [BitVec.toNat_and]
      refine Nat.lt_of_le_of_lt Nat.and_le_right ?_
      simp; omega
    exact wrap_i64_small h1
  · rw [BitVec.toNat_and]
    refine Nat.le_trans Nat.and_le_right ?_
    simp; omega
theorem uand_spec (a : Int) {m : Nat} (hm : m < 9223372036854775808) : bits .and .i64 a (.ofNat m) = (uand a m : Int) ∧ uand a m ≤ m := by
  obtain ⟨x, hx, hle⟩ := bits_and_le a hm
  unfold uand
  rw [hx]
  exact ⟨rfl, hle⟩
theorem iand_spec (a : Int) {m : Nat} (hm : m < 9223372036854775808) : iand .i64 a (.ofNat m) = .ofNat (uand a m) := by
  rw [← show ((uand a m : Nat) : Int) = .ofNat (uand a m) from rfl, ← (uand_spec a hm).1]
  cases a with
  | ofNat n => show wrapI .i64 (.ofNat (Nat.land n m)) = _; rw [wrapI_eq, bits_and_nat]; rfl
  | negSucc n => rfl
end Go.Eng

