/- Part of a proof; nothing is assumed. -/
import Derived.Test.YtmbhlmocojopaaaGreatDoorEngD
import Derived.Scope
import Derived.Defers
import Derived.ChangeSame
import Derived.ChangeVars
import Derived.JoinedOf
import Derived.RowKit
import Derived.RowKitTokens
import Derived.LaidLaws
import Derived.LaidHandle
import Derived.Carry
import Derived.ProofKit
import Derived.Stop.Joined
import Derived.OpenShut
set_option linter.unusedVariables false
set_option linter.unusedSimpArgs false
noncomputable section
namespace Go.DW
variable{P:Program}
def AEs:List Nat->List Nat->List Nat
 |[],l=>l
 |x::r,l=>if l.elem x then AEs r l else AEs r (x::l)
theorem zZ{x:Nat}:∀(r l:List Nat),x∈AEs r l->x∈r∨x∈l
 |[],l,h=>.inr h
 |y::r,l,h=>by
  simp only[AEs]at h
  split at h
  ·rcases zZ r l h with h|h
   ·exact .inl (List.mem_cons_of_mem _ h)
   ·exact .inr h
  ·rcases zZ r _ h with h|h
   ·exact .inl (List.mem_cons_of_mem _ h)
   ·rcases List.mem_cons.1 h with rfl|h
    ·exact .inl List.mem_cons_self
    ·exact .inr h
def AGX(acc:List (List Nat)):List Edge->List Nat
 |[]=>[]
 |e::r=>if Region.binds .any e then AEs (e.on::(acc[e.on]?).getD []) (AGX acc r)else AGX acc r
def AKe:List Oper->List (List Nat)->List (List Nat)
 |[],acc=>acc
 |o::r,acc=>AKe r (acc++[AGX acc o.after.toList])
theorem ACd{acc:List (List Nat)}{x:Nat}:∀(es:List Edge),x∈AGX acc es->∃e∈es,Region.binds .any e=true/\(x=e.on∨x∈(acc[e.on]?).getD [])
 |[],h=>by cases h
 |e::r,h=>by
  simp only[AGX]at h
  split at h
  ·rename_i hb
   rcases zZ _ _ h with h|h
   ·exact⟨e,List.mem_cons_self,hb,by rcases List.mem_cons.1 h with h|h; · exact .inl h
                                     ·exact .inr h⟩
   ·obtain⟨e',he',h'⟩:=ACd r h;exact⟨e',List.mem_cons_of_mem _ he',h'⟩
  ·obtain⟨e',he',h'⟩:=ACd r h;exact⟨e',List.mem_cons_of_mem _ he',h'⟩
theorem AF6{ops:Array Oper}{i:Nat}{o:Oper}(ho:ops[i]? =some o){e:Edge}(he:e∈o.after)(hb:Region.binds .any e=true):Before ops e.on i:=λS _ hd=>hd o ho e he hb
theorem before_trans{ops:Array Oper}{x y i:Nat}(h1:Before ops x y)(h2:Before ops y i):Before ops x i:=λS hc hd=>by
 have hy:=h2 S hc hd
 exact h1 S hc λo ho e he hb=>hc y o hy ho e he hb
theorem AGs{ops:Array Oper}:∀(l:List Oper) (acc:List (List Nat)),(∀j,l[j]? =ops[acc.length+j]?)->(∀i x,x∈(acc[i]?).getD []->Before ops x i)->∀i x,x∈((AKe l acc)[i]?).getD []->Before ops x i
 |[],acc,_,h=>h
 |o::r,acc,hl,h=>by
  have ho:ops[acc.length]? =some o:=by have:=hl 0;simpa using this.symm
  refine AGs r (acc++[AGX acc o.after.toList]) (λj=>?_) ?_
  ·have:=hl (j+1)
   rw[List.getElem?_cons_succ]at this
   rw[this,List.length_append,List.length_singleton,Nat.add_assoc,Nat.add_comm 1 j]
  ·intro i x hx
   by_cases hi:i<acc.length
   ·rw[List.getElem?_append_left hi]at hx;exact h i x hx
   ·rw[List.getElem?_append_right (by omega)]at hx
    have hi0:i=acc.length:=by
     cases hk:i-acc.length with
     |zero=>omega
     |succ k=>rw[hk]at hx;simp at hx
    subst hi0
    simp only[Nat.sub_self,List.getElem?_cons_zero,Option.getD_some]at hx
    obtain⟨e,he,hb,hx⟩:=ACd _ hx
    have hd:=AF6 ho (by simpa using he) hb
    rcases hx with rfl|hx
    ·exact hd
    ·exact before_trans (h _ _ hx) hd
def AET(P:Program)(C:FX)(ops:Array Oper):List (Nat×Wk)->Option (List Stp)
 |[]=>some []
 |(i,wk)::r=>A8 (AQO P C ops i wk) λs=>A8 (AET P C ops r) λl=>some (s::l)
theorem AG4{C:FX}{ops:Array Oper}:∀(l:List (Nat×Wk)) (ss:List Stp),AET P C ops l=some ss->∀s∈ss,yh P C ops s
 |[],ss,h,s,hs=>by cases h;cases hs
 |(i,wk)::r,ss,h,s,hs=>by
  simp only[AET]at h
  obtain⟨s0,h0,h⟩:=AL.1 h
  obtain⟨l,hl,e⟩:=AL.1 h;cases e
  rcases List.mem_cons.1 hs with rfl|hs
  ·exact(AQm h0).1
  ·exact AG4 r l hl s hs
def ALU(i:Nat):List Stp->Bool
 |[]=>false
 |s::r=>Nat.beq s.i i||ALU i r
theorem ABQ{i:Nat}:∀{l:List Stp},ALU i l=true↔∃s∈l,s.i=i
 |[]=>by simp[ALU]
 |s::r=>by simp[ALU,ABQ (l:=r)]
def AG8(ss:List Stp):Nat->Bool
 |0=>true
 |n+1=>ALU n ss&&AG8 ss n
def AD7:List Stp->List Stp->Bool
 |_,[]=>true
 |done,s::r=> !ALU s.i done&&s.o.after.toList.all (λe=> !Region.binds .any e||ALU e.on done)&&AD7 (done++[s]) r
def AIM(TN:Nat->List Nat):List Stp->Bool
 |[]=>true
 |j::r=>(!j.ao.isE||r.all λs=>(TN s.i).elem j.i)&&AIM TN r
def AUl:vM->Bool
 |.to _=>true
 |_=>false
def AK4(s:Stp):Bool:=
 (s.ao.isE||match s.dt with|some t=> !s.rd.elem t|none=>true)&&(!s.ao.isR||AUl s.dst)
def APm(TN:Nat->List Nat)(s k:Stp):Bool:=
 Nat.beq s.i k.i||match s.dt with
  |none=>true
  |some t=>(match k.dt with|some u=> !Nat.beq t u|none=>true)&&(!k.rd.elem t||((TN k.i).elem s.i||(s.ao.isE&&(TN s.i).elem k.i)))
def AKv(ops:Array Oper)(TN:Nat->List Nat)(ss:List Stp):Bool:=
 Nat.ble ss.length ops.size&&AG8 ss ops.size&&AD7 [] ss&&AIM TN ss&&ss.all AK4&&ss.all λs=>ss.all (APm TN s)
theorem ADI{ss:List Stp}:∀{n:Nat},AG8 ss n=true->∀i,i<n->∃s∈ss,s.i=i
 |0,_,i,hi=>by omega
 |n+1,h,i,hi=>by
  simp only[AG8,Bool.and_eq_true]at h
  rcases Nat.lt_or_ge i n with hlt|hge
  ·exact ADI h.2 i hlt
  ·have:i=n:=by omega
   subst this;exact ABQ.1 h.1
theorem aN:∀{r done:List Stp},AD7 done r=true->∀pre s post,r=pre++s::post->(∀x∈done++pre,x.i≠s.i)/\∀e∈s.o.after,Region.binds .any e=true->∃x∈done++pre,x.i=e.on
 |[],done,_,pre,s,post,he=>by cases pre<;>cases he
 |t::r,done,h,pre,s,post,he=>by
  simp only[AD7,Bool.and_eq_true,Bool.not_eq_true']at h
  obtain⟨⟨h1,h2⟩,h3⟩:=h
  cases pre with
  |nil=>
   simp only[List.nil_append,List.cons.injEq]at he
   obtain⟨rfl,rfl⟩:=he
   refine⟨λx hx e=>?_,λe he hb=>?_⟩
   ·rw[List.append_nil]at hx
    rw[ABQ.2 ⟨x,hx,e⟩]at h1;cases h1
   ·rw[List.append_nil]
    rw[List.all_eq_true]at h2
    have:=h2 e (by simpa using he)
    rw[hb]at this
    exact ABQ.1 (by simpa using this)
  |cons u pre=>
   simp only[List.cons_append,List.cons.injEq]at he
   obtain⟨rfl,rfl⟩:=he
   have:=aN h3 pre s post rfl
   rw[List.append_assoc,List.singleton_append]at this
   exact this
theorem ADN{TN:Nat->List Nat}:∀{ss:List Stp},AIM TN ss=true->∀pre j mid s post,ss=pre++j::(mid++s::post)->j.ao.isE=true->j.i∈TN s.i
 |[],_,pre,j,mid,s,post,he=>by cases pre<;>cases he
 |t::r,h,pre,j,mid,s,post,he=>by
  simp only[AIM,Bool.and_eq_true]at h
  cases pre with
  |nil=>
   simp only[List.nil_append,List.cons.injEq]at he
   obtain⟨rfl,rfl⟩:=he
   intro hE
   have h1:=h.1
   rw[hE]at h1
   simp only[Bool.not_true,Bool.false_or,List.all_eq_true]at h1
   simpa using h1 s (by simp)
  |cons u pre=>
   simp only[List.cons_append,List.cons.injEq]at he
   obtain⟨rfl,rfl⟩:=he
   exact ADN h.2 pre j mid s post rfl
theorem AIi{C:FX}{ops:Array Oper}{l:List (Nat×Wk)}{ss:List Stp}(hs:AET P C ops l=some ss)(h:AKv ops (λi=>((AKe ops.toList [])[i]?).getD []) ss=true):aF P C ops ss (λi=>((AKe ops.toList [])[i]?).getD []):=by
 have hanc:=AGs (ops:=ops) ops.toList [] (λj=>by simp) (λi x hx=>by simp at hx)
 simp only[AKv,Bool.and_eq_true]at h
 obtain⟨⟨⟨⟨⟨h1,h2⟩,h3⟩,h4⟩,h5⟩,h6⟩:=h
 rw[List.all_eq_true]at h5 h6
 refine{ok:=AG4 l ss hs,all:=ADI h2,inj:=?_,AVO:=?_,act:=λpre j mid s post he hE=>hanc _ _ (ADN h4 pre j mid s post he hE),own:=?_,regs:=?_,TN:=hanc,AYH:=?_,len:=Nat.le_of_ble_eq_true h1}
 ·intro pre s post he
  refine⟨λx hx=>by have:=(aN h3 pre s post he).1;exact this x (by simpa using hx),λx hx e=>?_⟩
  obtain⟨q1,q2,rfl⟩:=List.append_of_mem hx
  have:=(aN h3 (pre++s::q1) x q2 (by rw[he];simp)).1 s (by simp)
  exact this e.symm
 ·intro pre s post he e hem hb
  have:=(aN h3 pre s post he).2 e hem hb
  simpa using this
 ·intro s hsm hE t hdt ht
  have:=h5 s hsm
  simp only[AK4,Bool.and_eq_true]at this
  have h7:=this.1
  rw[hE,hdt]at h7
  simp only[Bool.false_or,Bool.not_eq_true']at h7
  rw[Bool.eq_false_iff]at h7
  exact h7 (by simpa using ht)
 ·intro s hsm k hkm hne t hdt
  have:=h6 s hsm
  rw[List.all_eq_true]at this
  have:=this k hkm
  unfold APm at this
  rw[hdt]at this
  have hb:Nat.beq s.i k.i=false:=by rw[Bool.eq_false_iff];intro e;exact hne (Nat.eq_of_beq_eq_true e)
  rw[hb]at this
  simp only[Bool.false_or,Bool.and_eq_true]at this
  refine⟨λhk=>?_,λht=>?_⟩
  ·have h8:=this.1
   rw[hk]at h8
   simp at h8
  ·have h8:=this.2
   have:k.rd.elem t=true:=by simpa using ht
   rw[this]at h8
   simp only[Bool.not_true,Bool.false_or,Bool.or_eq_true,Bool.and_eq_true]at h8
   rcases h8 with h8|⟨h8,h9⟩
   ·exact .inl (hanc _ _ (by simpa using h8))
   ·exact .inr ⟨h8,hanc _ _ (by simpa using h9)⟩
 ·intro s hsm hR
  have:=h5 s hsm
  simp only[AK4,Bool.and_eq_true]at this
  have h7:=this.2
  rw[hR]at h7
  cases hd:s.dst with
  |no=>rw[hd]at h7;simp[AUl]at h7
  |ps=>rw[hd]at h7;simp[AUl]at h7
  |to p=>exact⟨p,rfl⟩
variable{P:Program}
abbrev AJZ:=List (Nat×List (Nat×Wk))
def AT5(id:Nat):AJZ->Option (List (Nat×Wk))
 |[]=>none
 |(i,l)::r=>if i=id then some l else AT5 id r
def trC(P:Program)(C:FX)(ords:AJZ):Code->Option AC
 |.skip=>some .skip
 |.region id ops draw=>match draw with
  |false=>A8 (ADh P C ops [] 0 ops.toList) λl=>some (.ops l)
  |true=>A8 (AT5 id ords) λl=>A8 (AET P C ops l) λss=>match AKv ops (λi=>((AKe ops.toList [])[i]?).getD []) ss with
   |true=>some (.reg (F5 (λi=>((AKe ops.toList [])[i]?).getD []) [] ss))
   |false=>none
 |.seq a b=>A8 (trC P C ords a) λa=>A8 (trC P C ords b) λb=>some (.seq a b)
 |.cond c a b=>A8 (AOo C [] 0 c) λx=>A8 (trC P C ords a) λa=>A8 (trC P C ords b) λb=>some (.cond x a b)
 |.block id c=>A8 (trC P C ords c) λc=>some (.block id c)
 |.loop c=>A8 (trC P C ords c) λc=>some (.loop c)
 |.exit id=>some (.exit id)
 |.ret=>some .ret
 |.scope c=>trC P C ords c
 |.label _=>some .skip
 |_=>none
def Fr(w0:World)(C:FX)(ρ0:Loc)(H0:Heap)(n0:Nat)(R:LW)(H:Heap)(n:Nat)(a:Act)(w:World):Prop:=∃ρ,Et w0 ρ H n w/\Rg C ρ R a/\Jt ρ0 H0 n0 ρ H n
theorem least{p:Nat->Prop}(h:∃m,p m):∃m,p m/\∀j,p j->m<=j:=by
 obtain⟨m,hm⟩:=h
 induction m using Nat.strongRecOn with
 |_ m ih=>
  by_cases h:∃j,j<m/\p j
  ·obtain⟨j,hj,hp⟩:=h;exact ih j hj hp
  ·refine⟨m,hm,λj hj=>?_⟩
   rcases Nat.lt_or_ge j m with hlt|hge
   ·exact absurd ⟨j,hlt,hj⟩ h
   ·exact hge
open Classical in
def lst(p:Nat->Prop):Nat:=if h:∃m,p m then(least h).choose else 0
theorem AI6{p:Nat->Prop}(h:∃m,p m):p (lst p)/\∀j,p j->lst p<=j:=by
 unfold lst
 rw[dif_pos h]
 exact(least h).choose_spec
theorem AMz{C:FX}{ρ:Loc}{R:LW}{a:Act}:wE C ρ (.mk [] R) 0 [] a:=⟨rfl,λt ev h=>by cases h⟩
section
variable{w0:World}{C:FX}{ords:AJZ}{ρ0:Loc}{H0:Heap}{n0:Nat}{G:AX}{call:BG}{lf:Nat}
theorem zL(hm:P.follows .mixedOrders=true)(hc:jL P w0 call)(hg:Ye w0 G):∀(c:Code) (ac:AC),trC P C ords c=some ac->∀(Q:Exit->Act->World->Prop) (R:LW) (H:Heap) (n:Nat) (k:K) (x:KX) (r:K) (a:Act) (w:World),
 (∀R H n a w,k R H n->Fr w0 C ρ0 H0 n0 R H n a w->Q .normal a w)->(∀i R H n a w,x i R H n->Fr w0 C ρ0 H0 n0 R H n a w->Q (.exit i) a w)->(∀R H n a w,r R H n->Fr w0 C ρ0 H0 n0 R H n a w->Q .ret a w)->
 ac.ex G call lf R H n k x r->Fr w0 C ρ0 H0 n0 R H n a w->c.wp P Q a w:=by
 intro c
 induction c with
 |skip=>
  intro ac h Q R H n k x r a w hk hx hr he hf
  cases h
  exact wp_skip (hk _ _ _ _ _ he hf)
 |region id ops draw=>
  intro ac h Q R H n k x r a w hk hx hr he hf
  obtain⟨ρ,hh,hrg,hgu⟩:=hf
  cases draw with
  |false=>
   simp only[trC]at h
   obtain⟨l,hl,e⟩:=AL.1 h;cases e
   have he':UF l G call (.mk [] R) H n (λE H n=>k E.rg H n):=he
   exact wp_region_list (ACz (ρ0:=ρ0) (H0:=H0) (n0:=n0) hc hg (λE H n a w ρ hK hh hr hgu=>hk _ _ _ _ _ hK ⟨ρ,hh,hr,hgu⟩) ops.toList [] 0 l hl _ H n a w ρ he' hh hrg AMz hgu)
  |true=>
   simp only[trC]at h
   obtain⟨l,hl,h⟩:=AL.1 h
   obtain⟨ss,hss,h⟩:=AL.1 h
   split at h
   ·rename_i hchk
    cases h
    have R0:=AIi hss hchk
    have he':DY (F5 (λi=>((AKe ops.toList [])[i]?).getD []) [] ss) G call (.mk [] R) H n (λE H n=>k E.rg H n):=he
    exact ANs hm R0 hc hg hh hrg he' λE H n a w ρ' hK hh' hr' hgu'=>hk _ _ _ _ _ hK ⟨ρ',hh',hr',hgu.trans hgu'⟩
   ·cases h
 |seq c1 c2 ih1 ih2=>
  intro ac h Q R H n k x r a w hk hx hr he hf
  simp only[trC]at h
  obtain⟨a1,h1,h⟩:=AL.1 h
  obtain⟨a2,h2,e⟩:=AL.1 h;cases e
  have he':a1.ex G call lf R H n (λR H n=>a2.ex G call lf R H n k x r) x r:=he
  refine wp_seq (ih1 a1 h1 _ R H n _ x r a w ?_ ?_ ?_ he' hf)
  ·intro R H n a w hk' hf'
   exact ih2 a2 h2 Q R H n k x r a w hk hx hr hk' hf'
  ·intro i R H n a w hx' hf';exact hx i R H n a w hx' hf'
  ·intro R H n a w hr' hf';exact hr R H n a w hr' hf'
 |cond c c1 c2 ih1 ih2=>
  intro ac h Q R H n k x r a w hk hx hr he hf
  simp only[trC]at h
  obtain⟨cx,hcx,h⟩:=AL.1 h
  obtain⟨a1,h1,h⟩:=AL.1 h
  obtain⟨a2,h2,e⟩:=AL.1 h;cases e
  have he':Ae (cx.ev (.mk [] R)) true (a1.ex G call lf R H n k x r) (a2.ex G call lf R H n k x r):=he
  rw[aj]at he'
  obtain⟨t,ht,he'⟩:=he'
  obtain⟨ρ,hh,hrg,hgu⟩:=hf
  have hv:=AJx (E:=.mk [] R) hrg AMz c cx hcx
  rw[ht]at hv
  simp only[Ac]at hv
  refine wp_cond_split hv (λe=>?_) (λe=>?_)
  ·rw[if_pos e]at he'
   exact ih1 a1 h1 Q R H n k x r a w hk hx hr he' ⟨ρ,hh,hrg,hgu⟩
  ·rw[if_neg (by simp[e])]at he'
   exact ih2 a2 h2 Q R H n k x r a w hk hx hr he' ⟨ρ,hh,hrg,hgu⟩
 |block id c ih=>
  intro ac h Q R H n k x r a w hk hx hr he hf
  simp only[trC]at h
  obtain⟨a1,h1,e⟩:=AL.1 h;cases e
  have he':a1.ex G call lf R H n k (Jd id k x) r:=he
  refine wp_block (ih a1 h1 _ R H n k _ r a w ?_ ?_ ?_ he' hf)
  ·intro R H n a w hk' hf';exact hk R H n a w hk' hf'
  ·intro i R H n a w hx' hf'
   simp only[Exit.inBlock]
   cases hb:Nat.beq i id with
   |true=>
    have hx2:(Bool.rec (motive:=λ_=>Prop->Prop->Prop) (λa _=>a) (λ_ b=>b) (Nat.beq i id) (x i R H n) (k R H n):Prop):=hx'
    rw[hb]at hx2
    rw[if_pos (Nat.eq_of_beq_eq_true hb)]
    exact hk R H n a w hx2 hf'
   |false=>
    have hx2:(Bool.rec (motive:=λ_=>Prop->Prop->Prop) (λa _=>a) (λ_ b=>b) (Nat.beq i id) (x i R H n) (k R H n):Prop):=hx'
    rw[hb]at hx2
    rw[if_neg (λe=>by subst e;simp at hb)]
    exact hx i R H n a w hx2 hf'
  ·intro R H n a w hr' hf';exact hr R H n a w hr' hf'
 |loop c ih=>
  intro ac h Q R H n k x r a w hk hx hr he hf
  simp only[trC]at h
  obtain⟨a1,h1,e⟩:=AL.1 h;cases e
  have he':ZR (AC.ex a1) G call lf lf R H n x r:=he
  have J:∃m R H n,ZR (AC.ex a1) G call lf m R H n x r/\Fr w0 C ρ0 H0 n0 R H n a w:=⟨lf,R,H,n,he',hf⟩
  refine wp_loop (λa w=>∃m R H n,ZR (AC.ex a1) G call lf m R H n x r/\Fr w0 C ρ0 H0 n0 R H n a w) (λa w=>lst λm=>∃R H n,ZR (AC.ex a1) G call lf m R H n x r/\Fr w0 C ρ0 H0 n0 R H n a w) J ?_
  intro a w hI
  obtain⟨hp,_⟩:=AI6 hI
  cases hm0:lst (λm=>∃R H n,ZR (AC.ex a1) G call lf m R H n x r/\Fr w0 C ρ0 H0 n0 R H n a w)with
  |zero=>
   rw[hm0]at hp
   obtain⟨R,H,n,hl,_⟩:=hp
   exact(show False from hl).elim
  |succ m=>
   rw[hm0]at hp
   obtain⟨R,H,n,hl,hf⟩:=hp
   have hl':a1.ex G call lf R H n (λR H n=>ZR (AC.ex a1) G call lf m R H n x r) x r:=hl
   refine ih a1 h1 _ R H n _ x r a w ?_ ?_ ?_ hl' hf
   ·intro R H n a' w' hk' hf'
    refine⟨⟨m,R,H,n,hk',hf'⟩,?_⟩
    have:=(AI6 (p:=λm=>∃R H n,ZR (AC.ex a1) G call lf m R H n x r/\Fr w0 C ρ0 H0 n0 R H n a' w') ⟨m,R,H,n,hk',hf'⟩).2 m ⟨R,H,n,hk',hf'⟩
    omega
   ·intro i R H n a w hx' hf';exact hx i R H n a w hx' hf'
   ·intro R H n a w hr' hf';exact hr R H n a w hr' hf'
 |exit id=>
  intro ac h Q R H n k x r a w hk hx hr he hf
  cases h
  exact wp_exit (hx id _ _ _ _ _ he hf)
 |ret=>
  intro ac h Q R H n k x r a w hk hx hr he hf
  cases h
  exact wp_ret (hr _ _ _ _ _ he hf)
 |scope c ih=>
  intro ac h Q R H n k x r a w hk hx hr he hf
  simp only[trC]at h
  exact wp_scope_straight (ih ac h _ R H n k x r a w hk hx hr he hf)
 |label l=>
  intro ac h Q R H n k x r a w hk hx hr he hf
  cases h
  exact wp_label (hk _ _ _ _ _ he hf)
 |_=>intro ac h;simp only[trC]at h;cases h
end
variable{P:Program}
def ADB(P:Program)(C:FX):List ResultVar->Option (List AR)
 |[]=>some []
 |.tmp t::r=>if t<C.nt then if C.loc t then none else A8 (ADB P C r) λl=>some (.tmp (Q5 t)::l)else none
 |.cell a ty::r=>if a<C.nt then if C.loc a then none else match Ox P ty with
  |some true=>A8 (szT P ty) λn=>A8 (ADB P C r) λl=>some (.celln (Q5 a) n::l)
  |some false=>A8 (ADB P C r) λl=>some (.cell1 (Q5 a)::l)
  |none=>none
  else none
theorem AAM(r:AR)(l:List AR)(G:AX)(R:LW)(H:Heap):ADM (r::l) G R H=Ce (r.get G R H) λv=>Ce (ADM l G R H) λvs=>some (v::vs):=rfl
def AAX(tmps:Array Value):ResultVar->Sem Value
 |.tmp t=>pure (tmps.getD t undef)
 |.cell b t=>do loadVar t (<-asAddr (tmps.getD b undef))
theorem AD2{w0:World}{C:FX}{ρ:Loc}{R:LW}{H:Heap}{n:Nat}{a:Act}{w:World}{G:AX}(hg:Ye w0 G)(hh:Et w0 ρ H n w)(hr:Rg C ρ R a):∀(rs:List ResultVar) (l:List AR) (vs:LV),ADB P C rs=some l->ADM l G R H=some vs->
 ∃us,(rs.mapM (AAX a.tmps)).run P w=.ok us w/\Dc ρ vs us
 |[],l,vs,h,hv=>by
  cases h
  have hv':some []=some vs:=hv
  cases hv'
  exact⟨[],by simp,Dc.nil⟩
 |.tmp t::r,l,vs,h,hv=>by
  simp only[ADB]at h
  split at h
  ·rename_i ht
   split at h
   ·cases h
   ·rename_i hl
    obtain⟨l',hl',e⟩:=AL.1 h;cases e
    rw[AAM,Cc]at hv
    obtain⟨v,hv1,hv⟩:=hv
    rw[Cc]at hv
    obtain⟨vs',hv2,hv⟩:=hv
    cases hv
    have hv1':some (PD (T.FB (Q5 t) R))=some v:=hv1
    cases hv1'
    obtain⟨us,hus,hrel⟩:=AD2 hg hh hr r l' vs' hl' hv2
    refine⟨a.tmps.getD t undef::us,?_,.cons (hr.reg t ht (by simpa using hl)) hrel⟩
    simp only[List.mapM_cons,AAX,Sem.run_bind,Sem.run_pure,Result.andThen_ok,hus]
  ·cases h
 |.cell b ty::r,l,vs,h,hv=>by
  simp only[ADB]at h
  split at h
  ·rename_i hb
   split at h
   ·cases h
   ·rename_i hl
    have hreg:=hr.reg b hb (by simpa using hl)
    split at h
    ·rename_i hag
     obtain⟨m,hm,h⟩:=AL.1 h
     obtain⟨l',hl',e⟩:=AL.1 h;cases e
     rw[AAM,Cc]at hv
     obtain⟨v,hv1,hv⟩:=hv
     rw[Cc]at hv
     obtain⟨vs',hv2,hv⟩:=hv
     cases hv
     obtain⟨us,hus,hrel⟩:=AD2 hg hh hr r l' vs' hl' hv2
     have hv1':XU (ldP (PD (T.FB (Q5 b) R)) G H m) (λL=>some (.agg L))=some v:=hv1
     obtain⟨val,hrun,hvr⟩:=ALx (P:=P) hh hg hreg hag hm hv1'
     refine⟨val::us,?_,.cons hvr hrel⟩
     have hq:(AAX a.tmps (.cell b ty)).run P w=.ok val w:=by
      obtain⟨L0,hL0,_⟩:=Yl.1 hv1'
      obtain⟨a0,_,ha0,_⟩:=kY hh hg hreg hL0
      have ha1:a.tmps.getD b undef=.pointer (some a0):=ha0
      rw[<-hrun]
      simp only[AAX,Instr.loadAt,ha0,ha1,asAddr,Instr.sureAddr]
     simp only[List.mapM_cons,Sem.run_bind,hq,Sem.run_pure,Result.andThen_ok,hus]
    ·rename_i hag
     obtain⟨l',hl',e⟩:=AL.1 h;cases e
     rw[AAM,Cc]at hv
     obtain⟨v,hv1,hv⟩:=hv
     rw[Cc]at hv
     obtain⟨vs',hv2,hv⟩:=hv
     cases hv
     obtain⟨us,hus,hrel⟩:=AD2 hg hh hr r l' vs' hl' hv2
     have hv1':XU (ldP (PD (T.FB (Q5 b) R)) G H 1) (λL=>nth L 0)=some v:=hv1
     obtain⟨val,hrun,hvr⟩:=AL7 (P:=P) hh hg hreg hag hv1'
     refine⟨val::us,?_,.cons hvr hrel⟩
     have hq:(AAX a.tmps (.cell b ty)).run P w=.ok val w:=by
      obtain⟨L0,hL0,_⟩:=Yl.1 hv1'
      obtain⟨a0,_,ha0,_⟩:=kY hh hg hreg hL0
      have ha1:a.tmps.getD b undef=.pointer (some a0):=ha0
      rw[<-hrun]
      simp only[AAX,Instr.loadAt,ha0,ha1,asAddr,Instr.sureAddr]
     simp only[List.mapM_cons,Sem.run_bind,hq,Sem.run_pure,Result.andThen_ok,hus]
    ·cases h
  ·cases h
variable{P:Program}
theorem AOy{ρ:Loc}{vs:LV}{us:List Value}(h:Dc ρ vs us):Ac ρ (DX vs) (if h:us.toArray.size=1 then us.toArray[0]else .tuple us.toArray):=by
 match vs,us,h with
 |[],us,h=>
  simp only[ABi]at h;subst h
  simp only[List.size_toArray,List.length_nil]
  exact⟨#[],rfl,by simp⟩
 |[v],us,h=>
  obtain⟨u,us',rfl,hv,h'⟩:=MX.1 h
  simp only[ABi]at h';subst h'
  show Ac ρ v _
  simpa using hv
 |v::w::vs,us,h=>
  obtain⟨u,us',rfl,hv,h'⟩:=MX.1 h
  obtain⟨u2,us2,rfl,hv2,h2⟩:=MX.1 h'
  rw[dif_neg (by simp)]
  exact⟨_,rfl,by simpa using h⟩
theorem AKH{w0:World}{C:FX}{ρ:Loc}{R:LW}{H:Heap}{n:Nat}{a:Act}{w:World}{G:AX}(hg:Ye w0 G)(hh:Et w0 ρ H n w)(hr:Rg C ρ R a){fn:Func}{l:List AR}{vs:LV}
 (hl:ADB P C fn.results.toList=some l) (hv:ADM l G R H=some vs):∃u,(results fn a.tmps).run P w=.ok u w/\Ac ρ (DX vs) u:=by
 obtain⟨us,hus,hrel⟩:=AD2 (P:=P) hg hh hr fn.results.toList l vs hl hv
 refine⟨_,?_,AOy hrel⟩
 unfold results
 rw[Array.mapM_eq_mapM_toList]
 have e:(λx:ResultVar=>match x with
  |.tmp t=>(pure (a.tmps.getD t undef):Sem Value)
  |.cell b t=>do loadVar t (<-asAddr (a.tmps.getD b undef)))=AAX a.tmps:=by
  funext x;cases x<;>rfl
 simp only[map_eq_pure_bind,bind_assoc,pure_bind]
 rw[Sem.run_bind]
 have e2:(List.mapM (λx:ResultVar=>match x with
  |.tmp t=>(pure (a.tmps.getD t undef):Sem Value)
  |.cell b t=>do loadVar t (<-asAddr (a.tmps.getD b undef))) fn.results.toList).run P w=.ok us w:=by
  rw[e];exact hus
 erw [e2]
 simp
def AHL(f:Nat->Bool):Nat->Bool
 |0=>true
 |n+1=> !f n&&AHL f n
theorem ADO{f:Nat->Bool}:∀{n:Nat},AHL f n=true->∀i,i<n->f i=false
 |0,_,i,hi=>by omega
 |n+1,h,i,hi=>by
  simp only[AHL,Bool.and_eq_true,Bool.not_eq_true']at h
  rcases Nat.lt_or_ge i n with hlt|hge
  ·exact ADO h.2 i hlt
  ·have:i=n:=by omega
   subst this;exact h.1
def AVH(nt:Nat):Bool->vM
 |true=>.to (Q5 nt)
 |false=>.no
def trF(P:Program)(loc:Nat->Bool)(df:Bool)(ords:AJZ)(dg:Nat)(fn:Func):Option AF:=
 match fn.body with
 |some c=>A8 (trC P ⟨loc,fn.ntmps,df⟩ ords c) λac=>A8 (ADB P ⟨loc,fn.ntmps,df⟩ fn.results.toList) λrs=>
  match Nat.ble (fn.params.size+fn.nfree) fn.ntmps&&AHL loc (fn.params.size+fn.nfree)with
  |true=>some (.mk (fn.params.size+fn.nfree) ac rs (AVH fn.ntmps df) dg)
  |false=>none
 |none=>none
def AKs:vM->Bool
 |.no=>true
 |_=>false
def AF.dp:AF->vM|.mk _ _ _ d _=>d|.nat _=>.ps
def AF.dg:AF->Nat|.mk _ _ _ _ g=>g|.nat _=>0
def AF.isNat:AF->Bool|.mk _ _ _ _ _=>false|.nat _=>true
def Ret(w0:World)(ρ:Loc)(H:Heap)(n:Nat)(k:KV)(e:Ending)(w':World):Prop:=
 ∃u v H' n' ρ',e=.returned u/\k v H' n'/\Ac ρ' v u/\Et w0 ρ' H' n' w'/\Jt ρ H n ρ' H' n'
def AUJ(P:Program)(f:Nat)(k:Nk):Prop:=AOG P f/\∀(w0:World) (G:AX),Ye w0 G->∀(vargs:List V) (H:Heap) (n:Nat) (kk:KV),zo k G vargs H n kk->∀(ρ:Loc) (w:World) (args:Array Value),Et w0 ρ H n w->Dc ρ vargs args.toList->
 Calls P f args w (Ret w0 ρ H n kk)
structure AG1(P:Program)(F:T AF):Prop where
 mixed:P.follows .mixedOrders=true
 AU7:∀f k,T.get F f=some (.nat k)->AUJ P f k
 fns:∀f af,T.get F f=some af->af.isNat=false->∃fn loc df ords,P.funcs[f]? =some fn/\(fn.name== "runtime.NumGoroutine")=false/\trF P loc df ords af.dg fn=some af
 dgs:∀f af af',T.get F f=some af->af.isNat=false->af.dp≠.no->T.get F af.dg=some af'->af'.dp=.no
def AMx(P:Program)(w0:World)(call:BG)(f:Nat):Prop:=∀(vargs:List V) (H:Heap) (n:Nat) (k:KV),call f vargs H n k->∀(ρ:Loc) (w:World) (args:Array Value),Et w0 ρ H n w->Dc ρ vargs args.toList->
 CallsD P f args .returning w (λe u' w'=>u'=.returning/\Ret w0 ρ H n k e w')
theorem ACC:∀(args:List V) (i:Nat) (R:LW) (t:Nat),PD (T.FB (Q5 t) (je args i R))=if i<=t/\t<i+args.length then(args[t-i]?).getD .undef else PD (T.FB (Q5 t) R)
 |[],i,R,t=>by
  show PD (T.FB (Q5 t) R)=_
  rw[if_neg (by simp)]
 |v::vs,i,R,t=>by
  show PD (T.FB (Q5 t) (je vs (i+1) (T.set R i v)))=_
  rw[ACC vs (i+1) (T.set R i v) t]
  by_cases h:i+1<=t/\t<i+1+vs.length
  ·rw[if_pos h,if_pos (by simp;omega)]
   obtain⟨m,hm⟩:∃m,t=i+1+m:=⟨t-(i+1),by omega⟩
   subst hm
   rw[show i+1+m-(i+1)=m by omega,show i+1+m-i=m+1 by omega]
   simp
  ·rw[if_neg h]
   by_cases he:t=i
   ·subst he
    rw[if_pos (by simp)]
    show PD (T.get (T.set R t v) t)=_
    simp
   ·rw[if_neg (by simp;omega)]
    show PD (T.get (T.set R i v) t)=_
    rw[T.Ak _ _ (λe=>he e.symm)]
    rfl
section
variable{w0:World}{G:AX}{F:T AF}{lf:Nat}
theorem APC{C:FX}{ρ:Loc}{vargs:List V}{args:Array Value}(hrel:Dc ρ vargs args.toList)(hsz:args.size<=C.nt)(hloc:∀i,i<args.size->C.loc i=false):
 Rg C ρ (je vargs 0 .e) {tmps:=args++Array.replicate (C.nt-args.size) undef,defers:=[]}:=by
 have hlen:vargs.length=args.size:=by rw[hrel.length];simp
 refine⟨by simp;omega,λt ht hl=>?_,?_⟩
 ·rw[ACC]
  by_cases h:t<vargs.length
  ·rw[if_pos ⟨Nat.zero_le _,by omega⟩,Nat.sub_zero]
   obtain⟨v,hv,hvr⟩:=hrel.get (i:=t) (c:=(vargs[t]?).getD .undef) (by rw[List.getElem?_eq_getElem h];rfl)
   have:({tmps:=args++Array.replicate (C.nt-args.size) undef,defers:=[]}:Act).eval (.tmp t)=v:=by
    have hv':args[t]? =some v:=by simpa using hv
    simp only[Act.eval]
    rw[Array.getD_eq_getD_getElem?,Array.getElem?_append_left (by omega),hv']
    rfl
   rw[this];exact hvr
  ·rw[if_neg (by omega)]
   simp[Ac]
 ·rw[ACC,if_neg (show ¬(0<=C.nt/\C.nt<0+vargs.length)by omega)]
  simp only[T.AFZ,AN9]
  split
  ·rfl
  ·trivial
theorem AJF{dg:Nat}{call:BG}(hc:AMx P w0 call dg)(hfn:∀vargs H n k,call dg vargs H n k->AOG P dg){fn:Func}{tmps:Array Value}{R:Ending->World->Prop}(k:Heap->Nat->Prop){ρ0:Loc}{H0:Heap}{n0:Nat}:
 ∀(l:List V) (ds:List Deferred) (ρ:Loc) (H:Heap) (n:Nat) (w:World),DL ρ l ds->Et w0 ρ H n w->Jt ρ0 H0 n0 ρ H n->WQ dg l call H n k->
  (∀ρ' H' n' w',k H' n'->Et w0 ρ' H' n' w'->ρ.le ρ'->Jt ρ0 H0 n0 ρ' H' n'->Leaves P fn tmps R [] .returning w')->Leaves P fn tmps R ds .returning w
 |[],ds,ρ,H,n,w,hd,hh,hgu,hex,hk=>by
  have:ds=[]:=hd
  subst this
  exact hk ρ H n w hex hh (Loc.le.refl _) hgu
 |v::l,ds,ρ,H,n,w,hd,hh,hgu,hex,hk=>by
  obtain⟨d,ds',rfl,⟨f,fa,ca,fa',ca',rfl,rfl,hfa,hca⟩,hd'⟩:=hd
  have hex':ER (Nat.beq f dg) (call f (cat fa ca) H n λ_ H n=>WQ dg l call H n k):=hex
  rw[IE]at hex'
  obtain⟨hf,hcall⟩:=hex'
  have hf':f=dg:=Nat.eq_of_beq_eq_true hf
  subst hf'
  have hrun:(invoke (.fn (.func f) ca') fa').run P w=.ok (.enter f (fa'++ca')) w:=by
   simpa[invoke]using pF (hfn _ _ _ _ hcall) (fa'++ca') w
  refine leaves_cons (by simp) hrun ?_
  rw[AHl]at hcall
  refine(hc _ H n _ hcall ρ w (fa'++ca') hh (by simpa using hfa.append hca)).mono ?_
  rintro e u' w' ⟨rfl,u,v,H',n',ρ',rfl,hex2,hv,hh',hg'⟩
  simp only[settle]
  exact AJF hc hfn k l ds' ρ' H' n' w' (hd'.mono hg'.le) hh' (hgu.trans hg') hex2 fun ρ'' H'' n'' w'' h1 h2 h3 h4=>hk ρ'' H'' n'' w'' h1 h2 (hg'.le.trans h3) h4
theorem AQK(hF:AG1 P F)(hg:Ye w0 G):∀fuel,jL P w0 (run F G lf fuel)/\∀f af,T.get F f=some af->af.dp=.no->AMx P w0 (run F G lf fuel) f
 |0=>⟨λ_ _ _ _ _ h=>(show False from h).elim,λ_ _ _ _ _ _ _ _ h=>(show False from h).elim⟩
 |fuel+1=>by
  obtain⟨ihc,ihd⟩:=AQK hF hg fuel
  have main:∀(f:Nat) (vargs:List V) (H:Heap) (n:Nat) (k:KV),run F G lf (fuel+1) f vargs H n k->(∀nk,T.get F f≠some (.nat nk))->AOG P f/\∃af fn c,T.get F f=some af/\P.funcs[f]? =some fn/\fn.body=some c/\
   ∀(ρ:Loc) (w:World) (args:Array Value),Et w0 ρ H n w->Dc ρ vargs args.toList->
    (c.wp P (bodyPostD P fn (Ret w0 ρ H n k)) {tmps:=args++Array.replicate (fn.ntmps-args.size) undef,defers:=[]} w)/\
    (af.dp=.no->c.wp P (bodyPost P fn (Ret w0 ρ H n k)) {tmps:=args++Array.replicate (fn.ntmps-args.size) undef,defers:=[]} w):=by
   intro f vargs H n k h hnn
   have h':Ei (T.get F f) λaf=>pz af G (run F G lf fuel) lf vargs H n k:=h
   rw[Ls]at h'
   obtain⟨af,haf,h'⟩:=h'
   have hnf:af.isNat=false:=by
    cases af with
    |mk=>rfl
    |nat nk=>exact absurd haf (hnn nk)
   obtain⟨fn,loc,df,ords,hfn,hname,htr⟩:=hF.fns f af haf hnf
   unfold trF at htr
   split at htr
   ·rename_i c hb
    obtain⟨ac,hac,htr⟩:=AL.1 htr
    obtain⟨rs,hrs,htr⟩:=AL.1 htr
    split at htr
    ·rename_i hchk
     simp only[Bool.and_eq_true]at hchk
     have hle:fn.params.size+fn.nfree<=fn.ntmps:=Nat.le_of_ble_eq_true hchk.1
     have hloc:=ADO hchk.2
     have haf':=Option.some.inj htr
     refine⟨⟨fn,hfn,by rw[hb];rfl,hname⟩,af,fn,c,haf,hfn,hb,?_⟩
     intro ρ w args hh hrel
     rw[<-haf']at h'
     have h2:ER (Nat.beq (len vargs) (fn.params.size+fn.nfree)) (ac.ex G (run F G lf fuel) lf (je vargs 0 .e) H n
      (LZ rs af.dg (AVH fn.ntmps df) G (run F G lf fuel) k) noX (LZ rs af.dg (AVH fn.ntmps df) G (run F G lf fuel) k)):=h'
     rw[IE]at h2
     obtain⟨hlen,hex⟩:=h2
     have hlen':vargs.length=fn.params.size+fn.nfree:=by simpa using Nat.eq_of_beq_eq_true hlen
     have hsz:args.size=fn.params.size+fn.nfree:=by rw[<-hlen',hrel.length];simp
     have hstart:Fr w0 ⟨loc,fn.ntmps,df⟩ ρ H n (je vargs 0 .e) H n {tmps:=args++Array.replicate (fn.ntmps-args.size) undef,defers:=[]} w:=
      ⟨ρ,hh,APC (C:=⟨loc,fn.ntmps,df⟩) hrel (by show args.size<=fn.ntmps;omega) (λi hi=>hloc i (by omega)),Jt.refl _ _ _⟩
     have hfin:∀R' H' n' a' w',(∃l,ADM rs G R' H'=some l/\k (DX l) H' n')->∀ρ',Et w0 ρ' H' n' w'->Rg ⟨loc,fn.ntmps,df⟩ ρ' R' a'->Jt ρ H n ρ' H' n'->
      ∃v,(results fn a'.tmps).run P w'=.ok v w'/\Ret w0 ρ H n k (.returned v) w':=by
      rintro R' H' n' a' w' ⟨l,hl,hk⟩ ρ' hh' hr' hgu'
      obtain⟨u,hu,hvr⟩:=AKH (P:=P) hg hh' hr' hrs hl
      exact⟨u,hu,u,_,_,_,_,rfl,hk,hvr,hh',hgu'⟩
     cases df with
     |false=>
      have hend:∀R' H' n' a' w',LZ rs af.dg .no G (run F G lf fuel) k R' H' n'->Fr w0 ⟨loc,fn.ntmps,false⟩ ρ H n R' H' n' a' w'->
       a'.defers=[]/\∃v,(results fn a'.tmps).run P w'=.ok v w'/\Ret w0 ρ H n k (.returned v) w':=by
       rintro R' H' n' a' w' hx ⟨ρ',hh',hr',hgu'⟩
       have hx':Ei (ADM rs G R' H') λl=>k (DX l) H' n':=hx
       rw[Ls]at hx'
       exact⟨by simpa using hr'.dfs,hfin R' H' n' a' w' hx' ρ' hh' hr' hgu'⟩
      refine⟨?_,λ_=>?_⟩
      ·refine zL hF.mixed ihc hg c ac hac _ _ _ _ _ _ _ _ _ ?_ ?_ ?_ hex hstart
       ·intro R' H' n' a' w' hx hf
        obtain⟨hd,hv⟩:=hend R' H' n' a' w' hx hf
        show Leaves P fn a'.tmps _ a'.defers .returning w'
        rw[hd];exact hv
       ·intro i R' H' n' a' w' hx hf;exact(show False from hx).elim
       ·intro R' H' n' a' w' hx hf
        obtain⟨hd,hv⟩:=hend R' H' n' a' w' hx hf
        show Leaves P fn a'.tmps _ a'.defers .returning w'
        rw[hd];exact hv
      ·refine zL hF.mixed ihc hg c ac hac _ _ _ _ _ _ _ _ _ ?_ ?_ ?_ hex hstart
       ·intro R' H' n' a' w' hx hf;exact hend R' H' n' a' w' hx hf
       ·intro i R' H' n' a' w' hx hf;exact(show False from hx).elim
       ·intro R' H' n' a' w' hx hf;exact hend R' H' n' a' w' hx hf
     |true=>
      have hdp:af.dp=.to (Q5 fn.ntmps):=by rw[<-haf'];rfl
      have hend:∀R' H' n' a' w',LZ rs af.dg (.to (Q5 fn.ntmps)) G (run F G lf fuel) k R' H' n'->Fr w0 ⟨loc,fn.ntmps,true⟩ ρ H n R' H' n' a' w'->
       Leaves P fn a'.tmps (Ret w0 ρ H n k) a'.defers .returning w':=by
       rintro R' H' n' a' w' hx ⟨ρ',hh',hr',hgu'⟩
       have hx':WQ af.dg (AIo (PD (T.FB (Q5 fn.ntmps) R'))) (run F G lf fuel) H' n' (λH n=>AFl rs G k R' H n):=hx
       have hd:=hr'.dfs
       simp only[if_true]at hd
       have hlast:∀ρ'' H'' n'' w'',AFl rs G k R' H'' n''->Et w0 ρ'' H'' n'' w''->ρ'.le ρ''->Jt ρ H n ρ'' H'' n''->Leaves P fn a'.tmps (Ret w0 ρ H n k) [] .returning w'':=by
        intro ρ'' H'' n'' w'' hx2 hh'' hle hgu''
        have hx3:Ei (ADM rs G R' H'') λl=>k (DX l) H'' n'':=hx2
        rw[Ls]at hx3
        exact hfin R' H'' n'' a' w'' hx3 ρ'' hh'' (hr'.mono hle) hgu''
       cases hl:AIo (PD (T.FB (Q5 fn.ntmps) R'))with
       |nil=>
        rw[hl]at hd hx'
        have:a'.defers=[]:=hd
        rw[this]
        exact hlast ρ' H' n' w' hx' hh' (Loc.le.refl _) hgu'
       |cons v l=>
        rw[hl]at hd hx'
        obtain⟨d,ds',he,⟨f',fa,ca,fa',ca',rfl,_,_,_⟩,_⟩:=hd
        have hx4:ER (Nat.beq f' af.dg) (run F G lf fuel f' (cat fa ca) H' n' λ_ H n=>WQ af.dg l (run F G lf fuel) H n (λH n=>AFl rs G k R' H n)):=hx'
        rw[IE]at hx4
        obtain⟨hf',hcall⟩:=hx4
        have hf2:f'=af.dg:=Nat.eq_of_beq_eq_true hf'
        have hget:∃af',T.get F af.dg=some af':=by
         cases fuel with
         |zero=>exact(show False from hcall).elim
         |succ m=>
          have:Ei (T.get F f') λaf=>pz af G (run F G lf m) lf (cat fa ca) H' n' (λ_ H n=>WQ af.dg l (run F G lf (m+1)) H n (λH n=>AFl rs G k R' H n))∨True:=by
           have h5:Ei (T.get F f') λaf1=>pz af1 G (run F G lf m) lf (cat fa ca) H' n' (λ_ H n=>WQ af.dg l (run F G lf (m+1)) H n (λH n=>AFl rs G k R' H n)):=hcall
           rw[Ls]at h5⊢
           obtain⟨x,hx,_⟩:=h5
           exact⟨x,hx,.inr trivial⟩
          rw[Ls]at this
          obtain⟨x,hx,_⟩:=this
          exact⟨x,by rw[<-hf2];exact hx⟩
        obtain⟨af',haf2⟩:=hget
        have hno:=hF.dgs f af af' haf hnf (by rw[hdp];simp) haf2
        refine AJF (ihd af.dg af' haf2 hno) (λva H n k h=>(ihc af.dg va H n k h).1) _ (.fn f' fa ca::l) a'.defers ρ' H' n' w' ?_ hh' hgu' hx' hlast
        have:=hr'.dfs
        simp only[if_true]at this
        rw[hl]at this
        exact this
      refine⟨?_,λhno=>by rw[hdp]at hno;cases hno⟩
      refine zL hF.mixed ihc hg c ac hac _ _ _ _ _ _ _ _ _ ?_ ?_ ?_ hex hstart
      ·intro R' H' n' a' w' hx hf;exact hend R' H' n' a' w' hx hf
      ·intro i R' H' n' a' w' hx hf;exact(show False from hx).elim
      ·intro R' H' n' a' w' hx hf;exact hend R' H' n' a' w' hx hf
    ·cases htr
   ·cases htr
  refine⟨?_,?_⟩
  ·intro f vargs H n k h
   by_cases hnn:∃nk,T.get F f=some (.nat nk)
   ·obtain⟨nk,hnk⟩:=hnn
    have h':Ei (T.get F f) λaf=>pz af G (run F G lf fuel) lf vargs H n k:=h
    rw[hnk]at h'
    have h':zo nk G vargs H n k:=h'
    exact⟨(hF.AU7 f nk hnk).1,fun ρ w args hh hrel=>(hF.AU7 f nk hnk).2 w0 G hg vargs H n k h' ρ w args hh hrel⟩
   obtain⟨hfn,af,fn,c,haf,hf,hb,hwp⟩:=main f vargs H n k h λnk hk=>hnn ⟨nk,hk⟩
   refine⟨hfn,fun ρ w args hh hrel=>?_⟩
   exact calls_of_wp_defers hf hb (hwp ρ w args hh hrel).1
  ·intro f af haf hno vargs H n k h ρ w args hh hrel
   obtain⟨hfn,af2,fn,c,haf2,hf,hb,hwp⟩:=main f vargs H n k h λnk hk=>by rw[haf]at hk;cases hk;cases hno
   have:af2=af:=Option.some.inj (haf2.symm.trans haf)
   subst this
   exact callsD_of_wp hf hb ((hwp ρ w args hh hrel).2 hno)
end
variable{S S':Type}
def aY(t:(S->Prop)->Prop):Prop:=∃o:Option S,∀k,t k↔∃s,o=some s/\k s
theorem LK(s:S):aY (λk:S->Prop=>k s):=⟨some s,λk=>by simp⟩
theorem Jb:aY (λ_:S->Prop=>False):=⟨none,λk=>by simp⟩
theorem Nl{α:Type}(o:Option α){f:α->(S->Prop)->Prop}(h:∀x,aY (f x)):aY (λk=>Ei o λx=>f x k):=by
 cases o with
 |none=>exact Jb
 |some x=>exact h x
theorem AHw(o:Option V){f:V->(S->Prop)->Prop}(h:∀x,aY (f x)):aY (λk=>AP o λx=>f x k):=by
 cases o with
 |none=>exact Jb
 |some x=>exact h x
theorem JG(b:Bool){t:(S->Prop)->Prop}(h:aY t):aY (λk=>ER b (t k)):=by
 cases b with
 |false=>exact Jb
 |true=>exact h
theorem iD(n:Nat){f:Nat->(S->Prop)->Prop}(h:∀x,aY (f x)):aY (λk=>FT n λn=>f n k):=by
 have:=h n
 have e:(λk:S->Prop=>FT n λn=>f n k)=f n:=by funext k;rw[CS]
 rw[e];exact this
theorem ARZ(v:V)(b:Bool){y m:(S->Prop)->Prop}(hy:aY y)(hm:aY m):aY (λk=>Ae v b (y k) (m k)):=by
 cases v<;>try exact Jb
 rename_i t
 cases t<;>cases b<;>first|exact hy|exact hm
theorem AMA(v:V)(b:Bool){y m:(S->Prop)->Prop}(hy:aY y)(hm:aY m):aY (λk=>qV v b (y k) (m k)):=by
 cases v<;>try exact Jb
 ·rename_i t
  cases t<;>cases b<;>first|exact hy|exact hm
 ·rename_i l
  cases l
  ·exact hm
  ·exact Jb
theorem ALN(v:V){f:Nat->LV->LV->(S->Prop)->Prop}(h:∀g a c,aY (f g a c)):aY (λk=>V.Zc v λg a c=>f g a c k):=by
 cases v<;>try exact Jb
 exact h _ _ _
theorem Qz{t:(S->Prop)->Prop}{u:S->(S'->Prop)->Prop}(ht:aY t)(hu:∀s,aY (u s)):aY (λk=>t λs=>u s k):=by
 obtain⟨o,ho⟩:=ht
 cases o with
 |none=>exact⟨none,λk=>by show t (λs=>u s k)↔_;rw[ho];simp⟩
 |some s=>
  obtain⟨o',ho'⟩:=hu s
  exact⟨o',λk=>by show t (λs=>u s k)↔_;rw[ho];simp[ho']⟩
theorem aY.mono{t:(S->Prop)->Prop}(h:aY t){k k':S->Prop}(hk:∀s,k s->k' s)(ht:t k):t k':=by
 obtain⟨o,ho⟩:=h
 obtain⟨s,hs,h1⟩:=(ho k).1 ht
 exact(ho k').2 ⟨s,hs,hk s h1⟩
theorem aY.at{t:(S->Prop)->Prop}(h:aY t){k:S->Prop}(ht:t k):∃s,k s/\∀k',k' s->t k':=by
 obtain⟨o,ho⟩:=h
 obtain⟨s,hs,h1⟩:=(ho k).1 ht
 exact⟨s,h1,λk' hk'=>(ho k').2 ⟨s,hs,hk'⟩⟩
abbrev St:=V×Heap×Nat
def D3(t:KV->Prop):Prop:=aY λk:St->Prop=>t λv H n=>k (v,H,n)
theorem Rj(v:V)(H:Heap)(n:Nat):D3 λk=>k v H n:=LK (S:=St) (v,H,n)
def Io(call:BG):Prop:=∀f a H n,D3 (call f a H n)
theorem zU(esz bs:Nat)(OS LS:DZ)(H:Heap)(n:Nat):D3 (Nz esz bs OS LS H n):=iD _ λ_=>JG _ (iD _ λ_=>Rj _ _ _)
theorem AKM(id off ln esz bs:Nat)(LS:DZ)(H:Heap)(n:Nat)(b:SI):D3 λk=>fZ id off ln esz bs LS H n k b:=by
 cases b with
 |arr e' cnt c=>
  cases off with
  |zero=>
   have e:∀k,fZ id 0 ln esz bs LS H n k (.arr e' cnt c)=ER (band (TY (Nat.add ln (len LS)) bs) (band (Nat.beq esz e') (Nat.ble (Nat.add 0 ln) cnt))) (k (.PY n 0 (Nat.add ln (len LS)) esz) (T.set (T.set H id .dead) n (.arr esz (Nat.add ln (len LS)) (Ic LS ln c))) (Nat.succ n)):=by
    intro k
    show FT _ _=_
    simp only[CS]
    try rfl
   simp only[e]
   exact JG _ (Rj _ _ _)
  |succ off=>
   have e:∀k,fZ id (off+1) ln esz bs LS H n k (.arr e' cnt c)=ER (band (TY (Nat.add ln (len LS)) bs) (band (Nat.beq esz e') (Nat.ble (Nat.add (off+1) ln) cnt))) (Ei (DN H id esz ln (off+1)) λOS=>k (.PY n 0 (Nat.add ln (len LS)) esz) (T.set (T.set H id .dead) n (.arr esz (Nat.add ln (len LS)) (Ic LS ln (Ic OS 0 .e)))) (Nat.succ n)):=by
    intro k
    show FT _ _=_
    simp only[CS]
    try rfl
   simp only[e]
   exact JG _ (Nl _ λ_=>Rj _ _ _)
 |map=>exact Jb
 |dead=>exact Jb
 |mJ=>exact Jb
 |own=>exact Jb
theorem AP9(v:V)(G:AX)(esz bs:Nat)(LS:DZ)(H:Heap)(n:Nat):D3 (AH7 v G esz bs LS H n):=by
 cases v<;>try exact Jb
 case Ad=>
  cases LS with
  |nil=>exact Rj _ _ _
  |cons x xs=>exact(show D3 (λk=>Nz esz bs [] (x::xs) H n k)from zU esz bs [] (x::xs) H n)
 case sl id off ln cap e=>
  refine JG _ (iD _ λneed=>?_)
  cases h:Nat.ble need cap with
  |false=>exact Nl _ λ_=>zU _ _ _ _ _ _
  |true=>
   refine Nl _ λb=>?_
   cases b with
   |arr e' cnt c=>exact JG _ (Rj _ _ _)
   |map=>exact Jb
   |dead=>exact Jb
   |mJ=>exact Jb
   |own=>exact Jb
 case PY id off ln e=>
  refine JG _ ?_
  cases LS with
  |nil=>exact Rj _ _ _
  |cons=>
   exact Nl _ λb=>AKM _ _ _ _ _ _ _ _ b
 case rsl=>exact JG _ (Nl _ λ_=>zU _ _ _ _ _ _)
theorem ANx(v:V)(esz:Nat)(LS:DZ)(H:Heap)(n:Nat):D3 (AJE v esz LS H n):=by
 have hto:∀a b c,D3 (AEG a b c esz LS H n):=λa b c=>by
  refine Nl _ λb=>?_
  cases b with
  |arr e' cnt c=>exact JG _ (iD _ λ_=>Rj _ _ _)
  |map=>exact Jb
  |dead=>exact Jb
  |mJ=>exact Jb
  |own=>exact Jb
 cases v<;>try exact Jb
 case Ad=>exact Rj _ _ _
 case sl=>exact JG _ (hto _ _ _)
 case PY=>exact JG _ (hto _ _ _)
theorem AE5(m:V)(H:Heap)(f:ME->Nat->Option SI)(v:V)(n:Nat):D3 λk=>AFv m H f λH=>k v H n:=by
 cases m<;>try exact Jb
 exact Nl _ λ_=>Nl _ λ_=>Rj _ _ _
theorem AJy(v:V){f:Nat->Nat->(S->Prop)->Prop}(h:∀a b,aY (f a b)):aY (λk=>V.ADp v λa b=>f a b k):=by
 cases v<;>try exact Jb
 exact h _ _
theorem AE2(v:V){f:Nat->(S->Prop)->Prop}(h:∀a,aY (f a)):aY (λk=>V.APr v λa=>f a k):=by
 cases v<;>try exact Jb
 exact h _
theorem AQC{call:BG}(hc:Io call)(o:AE)(G:AX)(E:RS)(H:Heap)(n:Nat):D3 (o.ex G call E H n):=by
 cases o with
 |asg x=>exact Rj _ _ _
 |st sz x v=>exact JG _ (Nl _ λ_=>Rj _ _ _)
 |app esz bs x y=>exact Nl _ λ_=>AP9 _ _ _ _ _ _ _
 |copy esz x y=>exact Nl _ λ_=>ANx _ _ _ _ _
 |AKt c m k v=>exact AE5 _ _ _ _ _
 |del c m k=>exact AE5 _ _ _ _ _
 |AXc m=>exact AE5 _ _ _ _ _
 |call f a=>exact hc _ _ _ _
 |ALz x a=>exact ALN _ λ_ _ _=>hc _ _ _ _
 |defer dp x a=>exact ALN _ λ_ _ _=>Rj _ _ _
 |cvB x=>exact Nl _ λ_=>AJy _ λ_ _=>iD _ λ_=>Rj _ _ _
abbrev Sa:=SI×(Nat->V)
def DA(t:KA->Prop):Prop:=aY λk:Sa->Prop=>t λb f=>k (b,f)
theorem ACD(b:SI)(f:Nat->V):DA λk=>k b f:=LK (S:=Sa) (b,f)
theorem AWA(o:AA)(E:RS):DA (o.al E):=by
 cases o with
 |alloc e es=>exact iD _ λ_=>ACD _ _
 |box x=>exact JG _ (iD _ λ_=>ACD _ _)
 |AHS=>exact JG _ (ACD _ _)
 |ADr=>exact Nl _ λ_=>AE2 _ λ_=>Nl _ λ_=>AE2 _ λ_=>JG _ (ACD _ _)
 |APS=>exact ACD _ _
 |mJ=>exact ACD _ _
abbrev Se:=RS×Heap×Nat
def DE(t:KE->Prop):Prop:=aY λk:Se->Prop=>t λE H n=>k (E,H,n)
theorem AHM(E:RS)(H:Heap)(n:Nat):DE λk=>k E H n:=LK (S:=Se) (E,H,n)
theorem AKR{call:BG}(hc:Io call)(o:AO)(G:AX)(d:vM)(E:RS)(H:Heap)(n:Nat):DE (o.ex G call d E H n):=by
 cases o with
 |n o=>exact AHw _ λ_=>AHM _ _ _
 |a o=>exact Qz (u:=λs k=>FT n λn=>k (IU d (s.2 n) E,T.set H n s.1,Nat.succ n)) (AWA o E) λs=>iD _ λ_=>LK _
 |e o=>exact Qz (u:=λs k=>k (IU d s.1 E,s.2.1,s.2.2)) (AQC hc o G E H n) λs=>LK _
theorem AHK{call:BG}(hc:Io call)(o:AOp)(G:AX)(E:RS)(H:Heap)(n:Nat):DE (o.ex G call E H n):=by
 obtain⟨d,g,o⟩:=o
 cases g with
 |no=>exact AKR hc o G d E H n
 |on x b=>exact AMA _ _ (AKR hc o G d E H n) (AHM _ _ _)
theorem AUb(g:Gd)(G:AX)(E:RS)(H:Heap)(d:P2)(o:AN){t:(S->Prop)->Prop}(h:aY t):aY λk=>AWF g G E H d o (t k):=by
 cases g with
 |no=>exact AHw _ λ_=>JG _ h
 |on x b=>exact AMA _ _ (AHw _ λ_=>JG _ h) h
theorem AKo{call:BG}(hc:Io call)(i:AI)(G:AX)(E:RS)(H:Heap)(n:Nat):DE (i.ex G call E H n):=by
 cases i with
 |op o=>exact AHK hc o G E H n
 |re d g o=>exact AUb g G E H d o (LK _)
theorem AH3{call:BG}(hc:Io call)(G:AX):∀(l:List AOp) (E:RS) (H:Heap) (n:Nat),DE (UF l G call E H n)
 |[],E,H,n=>AHM _ _ _
 |o::l,E,H,n=>Qz (u:=λ(s:Se) (k:Se->Prop)=>UF l G call s.1 s.2.1 s.2.2 λE H n=>k (E,H,n)) (AHK hc o G E H n) λs=>AH3 hc G l s.1 s.2.1 s.2.2
theorem ACI{call:BG}(hc:Io call)(G:AX):∀(l:List AI) (E:RS) (H:Heap) (n:Nat),DE (DY l G call E H n)
 |[],E,H,n=>AHM _ _ _
 |o::l,E,H,n=>Qz (u:=λ(s:Se) (k:Se->Prop)=>DY l G call s.1 s.2.1 s.2.2 λE H n=>k (E,H,n)) (AKo hc o G E H n) λs=>ACI hc G l s.1 s.2.1 s.2.2
inductive Out where
 |nrm (R:LW) (H:Heap) (n:Nat)|ext (i:Nat) (R:LW) (H:Heap) (n:Nat)|ret (R:LW) (H:Heap) (n:Nat)
def Out.on(k:K)(x:KX)(r:K):Out->Prop
 |.nrm R H n=>k R H n|.ext i R H n=>x i R H n|.ret R H n=>r R H n
def DC(t:K->KX->K->Prop):Prop:=aY λp:Out->Prop=>t (λR H n=>p (.nrm R H n)) (λi R H n=>p (.ext i R H n)) (λR H n=>p (.ret R H n))
theorem DC.mono{t:K->KX->K->Prop}(h:DC t){k k':K}{x x':KX}{r r':K}(hk:∀R H n,k R H n->k' R H n)(hx:∀i R H n,x i R H n->x' i R H n)(hr:∀R H n,r R H n->r' R H n)(ht:t k x r):t k' x' r':=
 aY.mono h (k:=Out.on k x r) (k':=Out.on k' x' r') (λs=>by cases s;exact hk _ _ _;exact hx _ _ _ _;exact hr _ _ _) ht
theorem AG6{a:M}{G:AX}{call:BG}{lf0:Nat}(ha:∀R H n,DC (a G call lf0 R H n)):∀(m:Nat) (R:LW) (H:Heap) (n:Nat),DC λ_ x r=>ZR a G call lf0 m R H n x r
 |0,_,_,_=>Jb
 |m+1,R,H,n=>Qz (u:=λ(s:Out) (p:Out->Prop)=>match s with
  |.nrm R H n=>ZR a G call lf0 m R H n (λi R H n=>p (.ext i R H n)) (λR H n=>p (.ret R H n))
  |.ext i R H n=>p (.ext i R H n)
  |.ret R H n=>p (.ret R H n)) (ha R H n) λs=>by
   cases s with
   |nrm R H n=>exact AG6 ha m R H n
   |ext i R H n=>exact LK _
   |ret R H n=>exact LK _
theorem dB{call:BG}(hc:Io call)(G:AX)(lf:Nat):∀(c:AC) (R:LW) (H:Heap) (n:Nat),DC (c.ex G call lf R H n)
 |.skip,R,H,n=>LK (Out.nrm R H n)
 |.ops l,R,H,n=>Qz (u:=λ(s:Se) (p:Out->Prop)=>p (.nrm s.1.rg s.2.1 s.2.2)) (AH3 hc G l (.mk [] R) H n) λs=>LK _
 |.reg l,R,H,n=>Qz (u:=λ(s:Se) (p:Out->Prop)=>p (.nrm s.1.rg s.2.1 s.2.2)) (ACI hc G l (.mk [] R) H n) λs=>LK _
 |.seq a b,R,H,n=>Qz (u:=λ(s:Out) (p:Out->Prop)=>match s with
  |.nrm R H n=>b.ex G call lf R H n (λR H n=>p (.nrm R H n)) (λi R H n=>p (.ext i R H n)) (λR H n=>p (.ret R H n))
  |.ext i R H n=>p (.ext i R H n)
  |.ret R H n=>p (.ret R H n)) (dB hc G lf a R H n) λs=>by
   cases s with
   |nrm R H n=>exact dB hc G lf b R H n
   |ext i R H n=>exact LK _
   |ret R H n=>exact LK _
 |.cond x a b,R,H,n=>ARZ _ _ (dB hc G lf a R H n) (dB hc G lf b R H n)
 |.block id a,R,H,n=>Qz (u:=λ(s:Out) (p:Out->Prop)=>match s with
  |.nrm R H n=>p (.nrm R H n)
  |.ext i R H n=>Jd id (λR H n=>p (.nrm R H n)) (λi R H n=>p (.ext i R H n)) i R H n
  |.ret R H n=>p (.ret R H n)) (dB hc G lf a R H n) λs=>by
   cases s with
   |nrm R H n=>exact LK _
   |ext i R H n=>
    cases hb:Nat.beq i id with
    |true=>
     have e:(λp:Out->Prop=>Jd id (λR H n=>p (.nrm R H n)) (λi R H n=>p (.ext i R H n)) i R H n)=λp=>p (.nrm R H n):=by
      funext p;unfold Jd;rw[hb]
     simp only[e];exact LK _
    |false=>
     have e:(λp:Out->Prop=>Jd id (λR H n=>p (.nrm R H n)) (λi R H n=>p (.ext i R H n)) i R H n)=λp=>p (.ext i R H n):=by
      funext p;unfold Jd;rw[hb]
     simp only[e];exact LK _
   |ret R H n=>exact LK _
 |.loop a,R,H,n=>AG6 (λR H n=>dB hc G lf a R H n) lf R H n
 |.exit id,R,H,n=>LK (Out.ext id R H n)
 |.ret,R,H,n=>LK (Out.ret R H n)
theorem AGv{call:BG}(hc:Io call)(dg:Nat):∀(l:List V) (H:Heap) (n:Nat),aY λp:Heap×Nat->Prop=>WQ dg l call H n λH n=>p (H,n)
 |[],H,n=>LK (H,n)
 |v::l,H,n=>ALN v λf a c=>JG _ (Qz (u:=λ(s:St) (p:Heap×Nat->Prop)=>WQ dg l call s.2.1 s.2.2 λH n=>p (H,n)) (hc _ _ _ _) λs=>AGv hc dg l _ _)
theorem AEn(res:List AR)(G:AX)(R:LW)(H:Heap)(n:Nat):D3 λk=>AFl res G k R H n:=Nl _ λ_=>Rj _ _ _
theorem AGh{call:BG}(hc:Io call)(res:List AR)(dg:Nat)(d:vM)(G:AX)(R:LW)(H:Heap)(n:Nat):D3 λk=>LZ res dg d G call k R H n:=by
 cases d with
 |no=>exact AEn res G R H n
 |to p=>exact Qz (u:=λ(s:Heap×Nat) (k:St->Prop)=>AFl res G (λv H n=>k (v,H,n)) R s.1 s.2) (AGv hc dg _ H n) λs=>AEn res G R _ _
 |ps=>exact AEn res G R H n
theorem ALu(f:Nk)(G:AX)(args:List V)(H:Heap)(n:Nat):D3 (zo f G args H n):=by
 have no:D3 (λ_:KV=>False):=Jb
 unfold zo
 split
 ·unfold AMH
  split
  ·exact JG _ (Nl _ λ_=>Nl _ λ_=>JG _ (Rj _ _ _))
  ·exact no
 ·unfold AQ1
  split
  ·exact JG _ (Rj _ _ _)
  ·exact no
 ·unfold AMW
  split
  ·split
   ·exact JG _ (Rj _ _ _)
   ·exact no
  ·exact no
 ·unfold ANL
  split
  ·split
   ·exact JG _ (Rj _ _ _)
   ·exact no
  ·exact no
 ·exact no
theorem AN1{call:BG}(hc:Io call)(G:AX)(lf:Nat)(f:AF)(args:List V)(H:Heap)(n:Nat):D3 (pz f G call lf args H n):=by
 cases f with
 |nat f=>exact ALu f G args H n
 |mk np code res d dg=>
 refine JG _ (Qz (u:=λ(s:Out) (k:St->Prop)=>match s with
  |.nrm R H n=>LZ res dg d G call (λv H n=>k (v,H,n)) R H n
  |.ext _ _ _ _=>False
  |.ret R H n=>LZ res dg d G call (λv H n=>k (v,H,n)) R H n) (dB hc G lf code _ H n) λs=>?_)
 cases s with
 |nrm R H n=>exact AGh hc res dg d G R H n
 |ext i R H n=>exact Jb
 |ret R H n=>exact AGh hc res dg d G R H n
theorem Xr(F:T AF)(G:AX)(lf:Nat):∀fuel,Io (run F G lf fuel)
 |0=>λ_ _ _ _=>Jb
 |m+1=>λf a H n=>Nl _ λaf=>AN1 (Xr F G lf m) G lf af a H n
def V9(call call':BG):Prop:=∀f a H n k,call f a H n k->call' f a H n k
section
variable{call call':BG}
theorem AW7(hle:V9 call call')(o:AE)(G:AX)(E:RS)(H:Heap)(n:Nat)(k:KV)(h:o.ex G call E H n k):o.ex G call' E H n k:=by
 cases o with
 |call f a=>exact hle _ _ _ _ _ h
 |ALz x a=>
  have h':V.Zc (x.ev E) (λf a' c=>call f (cat a' (cat (jm a E) c)) H n k):=h
  show V.Zc (x.ev E) (λf a' c=>call' f (cat a' (cat (jm a E) c)) H n k)
  rw[WR]at h'⊢
  obtain⟨g,fa,ca,he,h'⟩:=h'
  exact⟨g,fa,ca,he,hle _ _ _ _ _ h'⟩
 |_=>exact h
theorem ATT(hle:V9 call call')(o:AO)(G:AX)(d:vM)(E:RS)(H:Heap)(n:Nat)(k:KE)(h:o.ex G call d E H n k):o.ex G call' d E H n k:=by
 cases o with
 |n o=>exact h
 |a o=>exact h
 |e o=>exact AW7 hle o G E H n _ h
theorem AQW(hle:V9 call call')(o:AOp)(G:AX)(E:RS)(H:Heap)(n:Nat)(k:KE)(h:o.ex G call E H n k):o.ex G call' E H n k:=by
 obtain⟨d,g,o⟩:=o
 cases g with
 |no=>exact ATT hle o G d E H n k h
 |on x b=>
  have h':qV (x.ev E) b (o.ex G call d E H n k) (k (IU d (.Il []) E) H n):=h
  show qV (x.ev E) b (o.ex G call' d E H n k) (k (IU d (.Il []) E) H n)
  rw[ZN]at h'⊢
  obtain⟨t,ht,h'⟩:=h'
  refine⟨t,ht,?_⟩
  split
  ·rename_i e;rw[if_pos e]at h';exact ATT hle o G d E H n k h'
  ·rename_i e;rw[if_neg e]at h';exact h'
theorem AWj(hle:V9 call call')(i:AI)(G:AX)(E:RS)(H:Heap)(n:Nat)(k:KE)(h:i.ex G call E H n k):i.ex G call' E H n k:=by
 cases i with
 |op o=>exact AQW hle o G E H n k h
 |re d g o=>exact h
theorem ALq(hd:Io call')(hle:V9 call call')(G:AX):∀(l:List AOp) (E:RS) (H:Heap) (n:Nat) (k:KE),UF l G call E H n k->UF l G call' E H n k
 |[],_,_,_,_,h=>h
 |o::l,E,H,n,k,h=>
  aY.mono (AHK hd o G E H n) (k:=λs=>UF l G call s.1 s.2.1 s.2.2 k) (k':=λs=>UF l G call' s.1 s.2.1 s.2.2 k) (λs hs=>ALq hd hle G l _ _ _ _ hs)
   (AQW hle o G E H n (λE H n=>UF l G call E H n k) h)
theorem AFe(hd:Io call')(hle:V9 call call')(G:AX):∀(l:List AI) (E:RS) (H:Heap) (n:Nat) (k:KE),DY l G call E H n k->DY l G call' E H n k
 |[],_,_,_,_,h=>h
 |o::l,E,H,n,k,h=>
  aY.mono (AKo hd o G E H n) (k:=λs=>DY l G call s.1 s.2.1 s.2.2 k) (k':=λs=>DY l G call' s.1 s.2.1 s.2.2 k) (λs hs=>AFe hd hle G l _ _ _ _ hs)
   (AWj hle o G E H n (λE H n=>DY l G call E H n k) h)
theorem AJV{a:M}{G:AX}{lf0 lf0':Nat}(hd:∀R H n,DC (a G call' lf0' R H n))(ha:∀R H n k x r,a G call lf0 R H n k x r->a G call' lf0' R H n k x r):
 ∀(m m':Nat),m<=m'->∀(R:LW) (H:Heap) (n:Nat) (x:KX) (r:K),ZR a G call lf0 m R H n x r->ZR a G call' lf0' m' R H n x r
 |0,_,_,_,_,_,_,_,h=>(show False from h).elim
 |m+1,0,hm,_,_,_,_,_,_=>by omega
 |m+1,m'+1,hm,R,H,n,x,r,h=>
  DC.mono (hd R H n) (λR H n hk=>AJV hd ha m m' (by omega) R H n x r hk) (λ_ _ _ _ hx=>hx) (λ_ _ _ hr=>hr) (ha R H n _ x r h)
theorem ADF(hd:Io call')(hle:V9 call call')(G:AX){lf lf':Nat}(hlf:lf<=lf'):∀(c:AC) (R:LW) (H:Heap) (n:Nat) (k:K) (x:KX) (r:K),c.ex G call lf R H n k x r->c.ex G call' lf' R H n k x r
 |.skip,_,_,_,_,_,_,h=>h
 |.ops l,R,H,n,k,_,_,h=>ALq hd hle G l (.mk [] R) H n (λE H n=>k E.rg H n) h
 |.reg l,R,H,n,k,_,_,h=>AFe hd hle G l (.mk [] R) H n (λE H n=>k E.rg H n) h
 |.seq a b,R,H,n,k,x,r,h=>
  DC.mono (dB hd G lf' a R H n) (λR H n hk=>ADF hd hle G hlf b R H n k x r hk) (λ_ _ _ _ hx=>hx) (λ_ _ _ hr=>hr) (ADF hd hle G hlf a R H n _ x r h)
 |.cond c a b,R,H,n,k,x,r,h=>by
  have h':Ae (c.ev (.mk [] R)) true (a.ex G call lf R H n k x r) (b.ex G call lf R H n k x r):=h
  show Ae (c.ev (.mk [] R)) true (a.ex G call' lf' R H n k x r) (b.ex G call' lf' R H n k x r)
  rw[aj]at h'⊢
  obtain⟨t,ht,h'⟩:=h'
  refine⟨t,ht,?_⟩
  split
  ·rename_i e;rw[if_pos e]at h';exact ADF hd hle G hlf a R H n k x r h'
  ·rename_i e;rw[if_neg e]at h';exact ADF hd hle G hlf b R H n k x r h'
 |.block id a,R,H,n,k,x,r,h=>ADF hd hle G hlf a R H n k (Jd id k x) r h
 |.loop a,R,H,n,k,x,r,h=>AJV (λR H n=>dB hd G lf' a R H n) (λR H n k x r h=>ADF hd hle G hlf a R H n k x r h) lf lf' hlf R H n x r h
 |.exit _,_,_,_,_,_,_,h=>h
 |.ret,_,_,_,_,_,_,h=>h
theorem AJi(hd:Io call')(hle:V9 call call')(dg:Nat):∀(l:List V) (H:Heap) (n:Nat) (k:Heap->Nat->Prop),WQ dg l call H n k->WQ dg l call' H n k
 |[],_,_,_,h=>h
 |v::l,H,n,k,h=>by
  have h':V.Zc v (λf a c=>ER (Nat.beq f dg) (call f (cat a c) H n λ_ H n=>WQ dg l call H n k)):=h
  show V.Zc v (λf a c=>ER (Nat.beq f dg) (call' f (cat a c) H n λ_ H n=>WQ dg l call' H n k))
  rw[WR]at h'⊢
  obtain⟨g,fa,ca,he,h'⟩:=h'
  rw[IE]at h'
  refine⟨g,fa,ca,he,(IE _ _).2 ⟨h'.1,?_⟩⟩
  exact aY.mono (hd g (cat fa ca) H n) (k:=λs=>WQ dg l call s.2.1 s.2.2 k) (k':=λs=>WQ dg l call' s.2.1 s.2.2 k) (λs hs=>AJi hd hle dg l _ _ _ hs) (hle _ _ _ _ _ h'.2)
theorem jw(hd:Io call')(hle:V9 call call')(res:List AR)(dg:Nat)(d:vM)(G:AX)(k:KV)(R:LW)(H:Heap)(n:Nat)(h:LZ res dg d G call k R H n):LZ res dg d G call' k R H n:=by
 cases d with
 |no=>exact h
 |to p=>exact AJi hd hle dg _ H n _ h
 |ps=>exact h
theorem AP6(hd:Io call')(hle:V9 call call')(G:AX){lf lf':Nat}(hlf:lf<=lf')(f:AF)(args:List V)(H:Heap)(n:Nat)(k:KV)(h:pz f G call lf args H n k):pz f G call' lf' args H n k:=by
 cases f with
 |nat f=>exact h
 |mk np code res d dg=>
 have h':ER (Nat.beq (len args) np) (code.ex G call lf (je args 0 .e) H n (LZ res dg d G call k) noX (LZ res dg d G call k)):=h
 show ER (Nat.beq (len args) np) (code.ex G call' lf' (je args 0 .e) H n (LZ res dg d G call' k) noX (LZ res dg d G call' k))
 rw[IE]at h'⊢
 refine⟨h'.1,?_⟩
 exact DC.mono (dB hd G lf' code _ H n) (λR H n hk=>jw hd hle res dg d G k R H n hk) (λ_ _ _ _ hx=>hx) (λR H n hk=>jw hd hle res dg d G k R H n hk) (ADF hd hle G hlf code _ H n _ _ _ h'.2)
end
theorem AFK(F:T AF)(G:AX){lf lf':Nat}(hlf:lf<=lf'):∀(m m':Nat),m<=m'->V9 (run F G lf m) (run F G lf' m')
 |0,_,_,_,_,_,_,_,h=>(show False from h).elim
 |m+1,0,hm,_,_,_,_,_,_=>by omega
 |m+1,m'+1,hm,f,a,H,n,k,h=>by
  have h':Ei (T.get F f) λaf=>pz af G (run F G lf m) lf a H n k:=h
  show Ei (T.get F f) λaf=>pz af G (run F G lf' m') lf' a H n k
  rw[Ls]at h'⊢
  obtain⟨af,haf,h'⟩:=h'
  exact⟨af,haf,AP6 (Xr F G lf' m') (AFK F G hlf m m' (by omega)) G hlf af a H n k h'⟩
def Runs(F:T AF)(G:AX):BG:=λf a H n k=>∃N,run F G N N f a H n k
theorem AOD{F:T AF}{G:AX}{f:Nat}{a:List V}{H:Heap}{n:Nat}{k k':KV}(hk:∀v H n,k v H n->k' v H n)(h:Runs F G f a H n k):Runs F G f a H n k':=by
 obtain⟨N,h⟩:=h
 exact⟨N,aY.mono (Xr F G N N f a H n) (k:=λs=>k s.1 s.2.1 s.2.2) (k':=λs=>k' s.1 s.2.1 s.2.2) (λs hs=>hk _ _ _ hs) h⟩
theorem ABE(F:T AF)(G:AX):Io (Runs F G):=λf a H n=>by
 by_cases h:∃N s,∀k:St->Prop,k s->run F G N N f a H n λv H n=>k (v,H,n)
 ·obtain⟨N,s,hs⟩:=h
  refine⟨some s,λk=>⟨λ⟨N',h'⟩=>?_,λ⟨s',e,hk⟩=>?_⟩⟩
  ·obtain⟨s',hk',hall⟩:=aY.at (Xr F G N' N' f a H n) h'
   have h1:=AFK F G (Nat.le_max_left N N') N (max N N') (Nat.le_max_left _ _) f a H n _ (hs (λq=>q=s) rfl)
   have h2:=AFK F G (Nat.le_max_right N N') N' (max N N') (Nat.le_max_right _ _) f a H n _ (hall (λq=>q=s') rfl)
   obtain⟨o,ho⟩:=Xr F G (max N N') (max N N') f a H n
   obtain⟨q,hq,e1⟩:=(ho λq=>q=s).1 h1
   obtain⟨q',hq',e2⟩:=(ho λq=>q=s').1 h2
   have:q=q':=by rw[hq]at hq';exact Option.some.inj hq'
   refine⟨s,rfl,?_⟩
   have e3:s=s':=by rw[<-e1,<-e2];exact this
   rw[e3];exact hk'
  ·cases e
   exact⟨N,hs k hk⟩
 ·refine⟨none,λk=>⟨λ⟨N',h'⟩=>?_,λ⟨s',e,hk⟩=>by cases e⟩⟩
  obtain⟨s',hk',hall⟩:=aY.at (Xr F G N' N' f a H n) h'
  exact absurd ⟨N',s',λk hk=>hall k hk⟩ h
def AT4(a:M)(G:AX)(call:BG):LW->Heap->Nat->KX->K->Prop:=λR H n x r=>∀I:K,(∀R H n,a G call 0 R H n I x r->I R H n)->I R H n
def AHg(_:AC)(a:M):M:=λG call _ R H n _ x r=>AT4 a G call R H n x r
def AC.exL(c:AC):M:=AC.rec (motive:=λ_=>M) AOk ASo AR0 APw AJb AEP AHg APD AVe c
def ALl(f:AF):AX->BG->List V->Heap->Nat->KV->Prop:=
 AF.rec (motive:=λ_=>AX->BG->List V->Heap->Nat->KV->Prop) (λnp code res d dg G call args H n k=>ER (Nat.beq (len args) np) (code.exL G call 0 (je args 0 .e) H n (LZ res dg d G call k) noX (LZ res dg d G call k))) (λf G _ args H n k=>zo f G args H n k) f
section
variable{F:T AF}{G:AX}
theorem AH8{f:Nat}{a:List V}{H:Heap}{n:Nat}{k:KV}(h:Runs F G f a H n k):∃s:St,k s.1 s.2.1 s.2.2/\∃N,∀M,N<=M->∀k':KV,k' s.1 s.2.1 s.2.2->run F G M M f a H n k':=by
 obtain⟨N,h⟩:=h
 obtain⟨s,hs,hall⟩:=aY.at (Xr F G N N f a H n) (k:=λs=>k s.1 s.2.1 s.2.2) h
 exact⟨s,hs,N,λM hM k' hk'=>AFK F G hM N M hM f a H n k' (hall (λs=>k' s.1 s.2.1 s.2.2) hk')⟩
theorem AWm(o:AE)(E:RS)(H:Heap)(n:Nat)(k:KV)(h:o.ex G (Runs F G) E H n k):∃s:St,k s.1 s.2.1 s.2.2/\∃N,∀M,N<=M->∀k':KV,k' s.1 s.2.1 s.2.2->o.ex G (run F G M M) E H n k':=by
 cases o with
 |call f a=>exact AH8 h
 |ALz x a=>
  have h':V.Zc (x.ev E) (λf a' c=>Runs F G f (cat a' (cat (jm a E) c)) H n k):=h
  rw[WR]at h'
  obtain⟨g,fa,ca,he,h'⟩:=h'
  obtain⟨s,hs,N,hN⟩:=AH8 h'
  refine⟨s,hs,N,λM hM k' hk'=>?_⟩
  show V.Zc (x.ev E) (λf a' c=>run F G M M f (cat a' (cat (jm a E) c)) H n k')
  rw[WR]
  exact⟨g,fa,ca,he,hN M hM k' hk'⟩
 |_=>
  obtain⟨s,hs,hall⟩:=aY.at (AQC (ABE F G) _ G E H n) (k:=λs=>k s.1 s.2.1 s.2.2) h
  exact⟨s,hs,0,λM _ k' hk'=>hall (λs=>k' s.1 s.2.1 s.2.2) hk'⟩
theorem ATz(o:AO)(d:vM)(E:RS)(H:Heap)(n:Nat)(k:KE)(h:o.ex G (Runs F G) d E H n k):∃s:Se,k s.1 s.2.1 s.2.2/\∃N,∀M,N<=M->∀k':KE,k' s.1 s.2.1 s.2.2->o.ex G (run F G M M) d E H n k':=by
 cases o with
 |e o=>
  obtain⟨s,hs,N,hN⟩:=AWm o E H n _ h
  exact⟨(IU d s.1 E,s.2.1,s.2.2),hs,N,λM hM k' hk'=>hN M hM (λv H n=>k' (IU d v E) H n) hk'⟩
 |_=>
  obtain⟨s,hs,hall⟩:=aY.at (AKR (ABE F G) _ G d E H n) (k:=λs=>k s.1 s.2.1 s.2.2) h
  exact⟨s,hs,0,λM _ k' hk'=>hall (λs=>k' s.1 s.2.1 s.2.2) hk'⟩
theorem APy(o:AOp)(E:RS)(H:Heap)(n:Nat)(k:KE)(h:o.ex G (Runs F G) E H n k):∃s:Se,k s.1 s.2.1 s.2.2/\∃N,∀M,N<=M->∀k':KE,k' s.1 s.2.1 s.2.2->o.ex G (run F G M M) E H n k':=by
 obtain⟨d,g,o⟩:=o
 cases g with
 |no=>exact ATz o d E H n k h
 |on x b=>
  have h':qV (x.ev E) b (o.ex G (Runs F G) d E H n k) (k (IU d (.Il []) E) H n):=h
  rw[ZN]at h'
  obtain⟨t,ht,h'⟩:=h'
  by_cases e:t=some b
  ·rw[if_pos e]at h'
   obtain⟨s,hs,N,hN⟩:=ATz o d E H n k h'
   refine⟨s,hs,N,λM hM k' hk'=>?_⟩
   show qV (x.ev E) b (o.ex G (run F G M M) d E H n k') (k' (IU d (.Il []) E) H n)
   rw[ZN]
   exact⟨t,ht,by rw[if_pos e];exact hN M hM k' hk'⟩
  ·rw[if_neg e]at h'
   refine⟨(IU d (.Il []) E,H,n),h',0,λM _ k' hk'=>?_⟩
   show qV (x.ev E) b (o.ex G (run F G M M) d E H n k') (k' (IU d (.Il []) E) H n)
   rw[ZN]
   exact⟨t,ht,by rw[if_neg e];exact hk'⟩
theorem AXs(i:AI)(E:RS)(H:Heap)(n:Nat)(k:KE)(h:i.ex G (Runs F G) E H n k):∃s:Se,k s.1 s.2.1 s.2.2/\∃N,∀M,N<=M->∀k':KE,k' s.1 s.2.1 s.2.2->i.ex G (run F G M M) E H n k':=by
 cases i with
 |op o=>exact APy o E H n k h
 |re d g o=>
  obtain⟨s,hs,hall⟩:=aY.at (AKo (ABE F G) (.re d g o) G E H n) (k:=λs=>k s.1 s.2.1 s.2.2) h
  exact⟨s,hs,0,λM _ k' hk'=>hall (λs=>k' s.1 s.2.1 s.2.2) hk'⟩
theorem AQw:∀(l:List AOp) (E:RS) (H:Heap) (n:Nat) (k:KE),UF l G (Runs F G) E H n k->∃s:Se,k s.1 s.2.1 s.2.2/\∃N,∀M,N<=M->∀k':KE,k' s.1 s.2.1 s.2.2->UF l G (run F G M M) E H n k'
 |[],E,H,n,k,h=>⟨(E,H,n),h,0,λM _ k' hk'=>hk'⟩
 |o::l,E,H,n,k,h=>by
  obtain⟨s,hs,N,hN⟩:=APy o E H n (λE H n=>UF l G (Runs F G) E H n k) h
  obtain⟨s',hs',N',hN'⟩:=AQw l _ _ _ k hs
  refine⟨s',hs',max N N',λM hM k' hk'=>?_⟩
  exact hN M (by omega) (λE H n=>UF l G (run F G M M) E H n k') (hN' M (by omega) k' hk')
theorem AJJ:∀(l:List AI) (E:RS) (H:Heap) (n:Nat) (k:KE),DY l G (Runs F G) E H n k->∃s:Se,k s.1 s.2.1 s.2.2/\∃N,∀M,N<=M->∀k':KE,k' s.1 s.2.1 s.2.2->DY l G (run F G M M) E H n k'
 |[],E,H,n,k,h=>⟨(E,H,n),h,0,λM _ k' hk'=>hk'⟩
 |o::l,E,H,n,k,h=>by
  obtain⟨s,hs,N,hN⟩:=AXs o E H n (λE H n=>DY l G (Runs F G) E H n k) h
  obtain⟨s',hs',N',hN'⟩:=AJJ l _ _ _ k hs
  refine⟨s',hs',max N N',λM hM k' hk'=>?_⟩
  exact hN M (by omega) (λE H n=>DY l G (run F G M M) E H n k') (hN' M (by omega) k' hk')
def AX1(F:T AF)(G:AX)(c:AC):Prop:=∀(R:LW) (H:Heap) (n:Nat) (k:K) (x:KX) (r:K),c.exL G (Runs F G) 0 R H n k x r->
 ∃s,Out.on k x r s/\∃N,∀M,N<=M->∀k' x' r',Out.on k' x' r' s->c.ex G (run F G M M) M R H n k' x' r'
theorem ARW{a:AC}(ha:AX1 F G a)(R:LW)(H:Heap)(n:Nat)(x:KX)(r:K)(h:AT4 a.exL G (Runs F G) R H n x r):
 ∃s,Out.on (λ_ _ _=>False) x r s/\∃N,∀M,N<=M->∀j,N<=j->∀x' r',Out.on (λ_ _ _=>False) x' r' s->ZR a.ex G (run F G M M) M j R H n x' r':=by
 refine h (λR H n=>∃s,Out.on (λ_ _ _=>False) x r s/\∃N,∀M,N<=M->∀j,N<=j->∀x' r',Out.on (λ_ _ _=>False) x' r' s->ZR a.ex G (run F G M M) M j R H n x' r') ?_
 intro R H n hb
 obtain⟨s,hs,N,hN⟩:=ha R H n _ x r hb
 cases s with
 |nrm R1 H1 n1=>
  obtain⟨s',hs',N',hN'⟩:=hs
  refine⟨s',hs',max N N'+1,λM hM j hj x' r' ho=>?_⟩
  cases j with
  |zero=>omega
  |succ j=>exact hN M (by omega) (λR H n=>ZR a.ex G (run F G M M) M j R H n x' r') x' r' (hN' M (by omega) j (by omega) x' r' ho)
 |ext i R1 H1 n1=>
  refine⟨.ext i R1 H1 n1,hs,N+1,λM hM j hj x' r' ho=>?_⟩
  cases j with
  |zero=>omega
  |succ j=>exact hN M (by omega) (λR H n=>ZR a.ex G (run F G M M) M j R H n x' r') x' r' ho
 |ret R1 H1 n1=>
  refine⟨.ret R1 H1 n1,hs,N+1,λM hM j hj x' r' ho=>?_⟩
  cases j with
  |zero=>omega
  |succ j=>exact hN M (by omega) (λR H n=>ZR a.ex G (run F G M M) M j R H n x' r') x' r' ho
theorem AEK:∀c:AC,AX1 F G c
 |.skip=>λR H n k x r h=>⟨.nrm R H n,h,0,λM _ k' x' r' ho=>ho⟩
 |.ops l=>λR H n k x r h=>by
  obtain⟨s,hs,N,hN⟩:=AQw l (.mk [] R) H n (λE H n=>k E.rg H n) h
  exact⟨.nrm s.1.rg s.2.1 s.2.2,hs,N,λM hM k' x' r' ho=>hN M hM (λE H n=>k' E.rg H n) ho⟩
 |.reg l=>λR H n k x r h=>by
  obtain⟨s,hs,N,hN⟩:=AJJ l (.mk [] R) H n (λE H n=>k E.rg H n) h
  exact⟨.nrm s.1.rg s.2.1 s.2.2,hs,N,λM hM k' x' r' ho=>hN M hM (λE H n=>k' E.rg H n) ho⟩
 |.seq a b=>λR H n k x r h=>by
  obtain⟨s,hs,N,hN⟩:=AEK a R H n (λR H n=>b.exL G (Runs F G) 0 R H n k x r) x r h
  cases s with
  |nrm R1 H1 n1=>
   obtain⟨s',hs',N',hN'⟩:=AEK b R1 H1 n1 k x r hs
   exact⟨s',hs',max N N',λM hM k' x' r' ho=>hN M (by omega) (λR H n=>b.ex G (run F G M M) M R H n k' x' r') x' r' (hN' M (by omega) k' x' r' ho)⟩
  |ext i R1 H1 n1=>exact⟨.ext i R1 H1 n1,hs,N,λM hM k' x' r' ho=>hN M hM (λR H n=>b.ex G (run F G M M) M R H n k' x' r') x' r' ho⟩
  |ret R1 H1 n1=>exact⟨.ret R1 H1 n1,hs,N,λM hM k' x' r' ho=>hN M hM (λR H n=>b.ex G (run F G M M) M R H n k' x' r') x' r' ho⟩
 |.cond c a b=>λR H n k x r h=>by
  have h':Ae (c.ev (.mk [] R)) true (a.exL G (Runs F G) 0 R H n k x r) (b.exL G (Runs F G) 0 R H n k x r):=h
  rw[aj]at h'
  obtain⟨t,ht,h'⟩:=h'
  by_cases e:t=true
  ·rw[if_pos e]at h'
   obtain⟨s,hs,N,hN⟩:=AEK a R H n k x r h'
   refine⟨s,hs,N,λM hM k' x' r' ho=>?_⟩
   show Ae (c.ev (.mk [] R)) true (a.ex G (run F G M M) M R H n k' x' r') (b.ex G (run F G M M) M R H n k' x' r')
   rw[aj]
   exact⟨t,ht,by rw[if_pos e];exact hN M hM k' x' r' ho⟩
  ·rw[if_neg e]at h'
   obtain⟨s,hs,N,hN⟩:=AEK b R H n k x r h'
   refine⟨s,hs,N,λM hM k' x' r' ho=>?_⟩
   show Ae (c.ev (.mk [] R)) true (a.ex G (run F G M M) M R H n k' x' r') (b.ex G (run F G M M) M R H n k' x' r')
   rw[aj]
   exact⟨t,ht,by rw[if_neg e];exact hN M hM k' x' r' ho⟩
 |.block id a=>λR H n k x r h=>by
  obtain⟨s,hs,N,hN⟩:=AEK a R H n k (Jd id k x) r h
  cases s with
  |nrm R1 H1 n1=>exact⟨.nrm R1 H1 n1,hs,N,λM hM k' x' r' ho=>hN M hM k' (Jd id k' x') r' ho⟩
  |ret R1 H1 n1=>exact⟨.ret R1 H1 n1,hs,N,λM hM k' x' r' ho=>hN M hM k' (Jd id k' x') r' ho⟩
  |ext i R1 H1 n1=>
   have hs':Jd id k x i R1 H1 n1:=hs
   unfold Jd at hs'
   cases hb:Nat.beq i id with
   |true=>
    rw[hb]at hs'
    refine⟨.nrm R1 H1 n1,hs',N,λM hM k' x' r' ho=>hN M hM k' (Jd id k' x') r' ?_⟩
    show Jd id k' x' i R1 H1 n1
    unfold Jd;rw[hb];exact ho
   |false=>
    rw[hb]at hs'
    refine⟨.ext i R1 H1 n1,hs',N,λM hM k' x' r' ho=>hN M hM k' (Jd id k' x') r' ?_⟩
    show Jd id k' x' i R1 H1 n1
    unfold Jd;rw[hb];exact ho
 |.loop a=>λR H n k x r h=>by
  obtain⟨s,hs,N,hN⟩:=ARW (AEK a) R H n x r h
  cases s with
  |nrm R1 H1 n1=>exact(show False from hs).elim
  |ext i R1 H1 n1=>exact⟨.ext i R1 H1 n1,hs,N,λM hM k' x' r' ho=>hN M hM M hM x' r' ho⟩
  |ret R1 H1 n1=>exact⟨.ret R1 H1 n1,hs,N,λM hM k' x' r' ho=>hN M hM M hM x' r' ho⟩
 |.exit i=>λR H n k x r h=>⟨.ext i R H n,h,0,λM _ k' x' r' ho=>ho⟩
 |.ret=>λR H n k x r h=>⟨.ret R H n,h,0,λM _ k' x' r' ho=>ho⟩
theorem AJU(dg:Nat):∀(l:List V) (H:Heap) (n:Nat) (k:Heap->Nat->Prop),WQ dg l (Runs F G) H n k->∃H' n',k H' n'/\∃N,∀M,N<=M->∀k':Heap->Nat->Prop,k' H' n'->WQ dg l (run F G M M) H n k'
 |[],H,n,k,h=>⟨H,n,h,0,λM _ k' hk'=>hk'⟩
 |v::l,H,n,k,h=>by
  have h':V.Zc v (λf a c=>ER (Nat.beq f dg) (Runs F G f (cat a c) H n λ_ H n=>WQ dg l (Runs F G) H n k)):=h
  rw[WR]at h'
  obtain⟨g,fa,ca,he,h'⟩:=h'
  rw[IE]at h'
  obtain⟨s,hs,N,hN⟩:=AH8 h'.2
  obtain⟨H',n',hk,N',hN'⟩:=AJU dg l _ _ k hs
  refine⟨H',n',hk,max N N',λM hM k' hk'=>?_⟩
  show V.Zc v (λf a c=>ER (Nat.beq f dg) (run F G M M f (cat a c) H n λ_ H n=>WQ dg l (run F G M M) H n k'))
  rw[WR]
  exact⟨g,fa,ca,he,(IE _ _).2 ⟨h'.1,hN M (by omega) (λ_ H n=>WQ dg l (run F G M M) H n k') (hN' M (by omega) k' hk')⟩⟩
theorem AKB(res:List AR)(dg:Nat)(d:vM)(k:KV)(R:LW)(H:Heap)(n:Nat)(h:LZ res dg d G (Runs F G) k R H n):∃N,∀M,N<=M->LZ res dg d G (run F G M M) k R H n:=by
 cases d with
 |no=>exact⟨0,λM _=>h⟩
 |to p=>
  obtain⟨H',n',hk,N,hN⟩:=AJU dg _ H n _ h
  exact⟨N,λM hM=>hN M hM _ hk⟩
 |ps=>exact⟨0,λM _=>h⟩
theorem ALA{f:Nat}{af:AF}(hf:T.get F f=some af){args:List V}{H:Heap}{n:Nat}{k:KV}(h:ALl af G (Runs F G) args H n k):Runs F G f args H n k:=by
 cases af with
 |nat nk=>
  refine⟨1,?_⟩
  show Ei (T.get F f) λaf=>pz af G (run F G 1 0) 1 args H n k
  rw[hf];exact h
 |mk np code res d dg=>
 have h':ER (Nat.beq (len args) np) (code.exL G (Runs F G) 0 (je args 0 .e) H n (LZ res dg d G (Runs F G) k) noX (LZ res dg d G (Runs F G) k)):=h
 rw[IE]at h'
 obtain⟨s,hs,N,hN⟩:=AEK code _ H n _ _ _ h'.2
 have key:∃N',∀M,N'<=M->Out.on (LZ res dg d G (run F G M M) k) noX (LZ res dg d G (run F G M M) k) s:=by
  cases s with
  |nrm R1 H1 n1=>exact AKB res dg d k R1 H1 n1 hs
  |ext i R1 H1 n1=>exact(show False from hs).elim
  |ret R1 H1 n1=>exact AKB res dg d k R1 H1 n1 hs
 obtain⟨N',hN'⟩:=key
 refine⟨max N N'+1,?_⟩
 show Ei (T.get F f) λaf=>pz af G (run F G (max N N'+1) (max N N')) (max N N'+1) args H n k
 rw[hf]
 show ER (Nat.beq (len args) np) _
 rw[IE]
 refine⟨h'.1,?_⟩
 have hle:=AFK F G (Nat.le_succ (max N N')) (max N N') (max N N') (Nat.le_refl _)
 have h1:=hN (max N N') (by omega) _ _ _ (hN' (max N N') (by omega))
 have h2:=ADF (Xr F G (max N N'+1) (max N N')) hle G (Nat.le_succ (max N N')) code _ _ _ _ _ _ h1
 exact DC.mono (dB (Xr F G (max N N'+1) (max N N')) G _ code _ _ _) (λR H n hk=>jw (Xr F G _ _) hle res dg d G k R H n hk) (λ_ _ _ _ hx=>hx) (λR H n hk=>jw (Xr F G _ _) hle res dg d G k R H n hk) h2
end
section
variable{G:AX}{call:BG}
theorem APR(hc:Io call)(l:List AOp)(E:RS)(H:Heap)(n:Nat){k k':KE}(hk:∀E H n,k E H n->k' E H n)(h:UF l G call E H n k):UF l G call E H n k':=
 aY.mono (AH3 hc G l E H n) (k:=λs=>k s.1 s.2.1 s.2.2) (k':=λs=>k' s.1 s.2.1 s.2.2) (λs hs=>hk _ _ _ hs) h
theorem AKj(hc:Io call)(l:List AI)(E:RS)(H:Heap)(n:Nat){k k':KE}(hk:∀E H n,k E H n->k' E H n)(h:DY l G call E H n k):DY l G call E H n k':=
 aY.mono (ACI hc G l E H n) (k:=λs=>k s.1 s.2.1 s.2.2) (k':=λs=>k' s.1 s.2.1 s.2.2) (λs hs=>hk _ _ _ hs) h
end
end Go.DW
namespace Go.DW
open Go.ChangeShapes Go.WideShapes Go.RowKit
structure Old(W W':World):Prop where
 os:W'.os=W.os
 out:W'.output=W.output
 heap:∀b,b<W.heap.size->W'.heap[b]? =W.heap[b]?
theorem Old.kept{W W':World}(h:Old W W')(may:MemPlace->Prop):W.keptBut W' may:=by
 refine⟨h.os,h.out,λi hi=>?_⟩
 rw[h.heap i hi]
 cases hh:W.heap[i]? with
 |none=>rfl
 |some o=>cases o<;>simp
theorem Old.cell{W W':World}(h:Old W W'){a:Addr}(ha:a.block<W.heap.size):W'.cell? a=W.cell? a:=by
 unfold World.cell?
 rw[h.heap _ ha]
theorem Old.same{W W':World}(h:Old W W'){p:MemPlace}(hp:p.block<W.heap.size):W.sameAt W' p:=by
 cases p with
 |cell b off=>exact h.cell hp
 |map b=>exact h.heap b hp
theorem Old.trodAll{H:Type}{enc:TypeId×Value->H}{P:Program}(hl:laidOutB P=true){W W':World}(h:Old W W'):∀{ts:List TypeId} {vs:List Value} {ds:List (DataW H)} {ps:List MemPlace},
 (∀t∈ts,P.readableRec t=true/\t<P.types.size)->DataW.TrodAll enc P W 0 (λ_=>true) true ts vs ds ps->(∀x∈ps,x.block<W.heap.size)->DataW.TrodAll enc P W' 0 (λb=>decide (b<W.heap.size)) true ts vs ds ps
 |[],[],[],_,_,ht,_=>ht
 |t::ts,v::vs,d::ds,_,hr,⟨p,q,h1,h2,e⟩,hlt=>by
  subst e
  refine⟨p,q,?_,Old.trodAll hl h (λt ht=>hr t (List.mem_cons_of_mem _ ht)) h2 (λx hx=>hlt x (List.mem_append_right _ hx)),rfl⟩
  exact WideElems.Trod_stays hl (hr t List.mem_cons_self).1 (hr t List.mem_cons_self).2 h1 (λx hx=>h.same (hlt x (List.mem_append_left _ hx))) (λx hx=>by simpa using hlt x (List.mem_append_left _ hx))
section
variable{P:Program}{F:T AF}
theorem AFo{G:AX}{W:World}(hF:AG1 P F)(hg:Ye W G){f:Nat}{vargs:List V}{args:Array Value}(hr:Dc (λ_=>none) vargs args.toList)(h:Runs F G f vargs .e 0 λv _ _=>v=.bool true):
 Calls P f args W λe W'=>e=.returned (.bool true)/\Old W W':=by
 obtain⟨N,h⟩:=h
 obtain⟨hc,_⟩:=AQK (P:=P) (F:=F) (lf:=N) hF hg N
 have hh:Et W (λ_=>none) .e 0 W:={
  lt:=λ_ _ h=>by cases h
  blk:=λ_ _ h=>by cases h
  inj:=λ_ _ _ _ h=>by cases h
  arr:=λ_ _ _ _ _ h=>by cases h
  map:=λ_ _ _ _ h=>by cases h
  mJ:=λ_ _ _ _ _ _ _ h=>by cases h
  old:=λ_ _=>rfl
  os:=rfl
  out:=rfl
  big:=Nat.le_refl _
  top:=λ_ _=>T.AXj _}
 refine((hc f vargs .e 0 _ h).2 _ W args hh hr).mono ?_
 rintro e W' ⟨u,v,H',n',ρ',rfl,rfl,hv,hh',_⟩
 simp only[Ac]at hv
 subst hv
 exact⟨rfl,hh'.os,hh'.out,hh'.old⟩
end
theorem ADR{H:Type}{P:Program}:∀(ts us:List TypeId) (ds:List (DataW H)),ds.length=ts.length->DataW.weightsEach P (ts++us) (ds++[])=DataW.weightsEach P ts ds
 |[],us,[],_=>by cases us<;>simp[DataW.weightsEach]
 |[],us,_::_,h=>by simp at h
 |_::_,us,[],h=>by simp at h
 |t::ts,us,d::ds,h=>by
  show d.weights P t++DataW.weightsEach P (ts++us) (ds++[])=d.weights P t++DataW.weightsEach P ts ds
  rw[ADR ts us ds (by simpa using h)]
theorem AHv{C:Checked}{F:T AF}(hF:AG1 C.prog F){os:Os}(started:os.Started){f:FuncId}{fn:Func}{s:ChangeSpec}{laid:List (String×DataW Unit)}{tb:TypeId}{apart fresh:Bool}{H:Type}{enc:TypeId×Value->H}
 (own:ownKnob C.prog.godebug=none) (noInit:C.prog.inits.idxOf? f=none) (hfn:C.prog.funcs[f]? =some fn)
 (hsv:s.vars=[]) (hsf:∀ds:List (DataW H),ds.length=fn.params.toList.length->s.fn H ds={results:=[.lit (.bool true)],args:=ds})
 (hres:fn.resultTypes= #[tb]) (hb:C.prog.underlying tb=some .bool) (hl:laidOutB C.prog=true) (hp:∀t∈fn.params.toList,C.prog.readableRec t=true/\t<C.prog.types.size)
 (w0:World) (args0:Array Value) (fuel:Nat) (hos:w0.os=os)
 (hv:(w0.forCall (λ_ _=>0) ⟨#[],args0,[]⟩).variablesB C.prog=true)
 (hrb:((w0.forCall (λ_ _=>0) ⟨#[],args0,[]⟩).heap.toList.drop C.prog.globals.size).take ((begin C.prog (λ_ _=>0) default).world.heap.size-C.prog.globals.size)=
  (begin C.prog (λ_ _=>0) default).world.heap.toList.drop C.prog.globals.size)
 (hok:Input.okWideB C.prog (w0.forCall (λ_ _=>0) ⟨#[],args0,[]⟩) f ⟨#[],args0,[]⟩=true)
 (hpre:s.preB enc C.prog fn [] apart (w0.forCall (λ_ _=>0) ⟨#[],args0,[]⟩).memory args0 fuel=true)
 (hsz:s.sizedB enc C.prog fn apart (w0.forCall (λ_ _=>0) ⟨#[],args0,[]⟩).memory args0 fuel=true)
 (hx:laidMetH C.prog laid (w0.forCall (λ_ _=>0) ⟨#[],args0,[]⟩).memory)
 (hrun:∀(W:World) (args:Array Value) (ds:List (DataW H)) (ps:List MemPlace),(∀(j:Nat) t v,fn.params[j]? =some t->args[j]? =some v->∃base,Value.okWide C.prog W .any base t v)->
  DataW.TrodAll enc C.prog W 0 (λ_=>true) true fn.params.toList args.toList ds ps->laidMetH C.prog laid W->(DataW.weightsEach C.prog fn.params.toList ds).all (· <=reachBytes)=true->
  ∃G vargs,Ye W G/\Dc (λ_=>none) vargs args.toList/\Runs F G f vargs .e 0 λv _ _=>v=.bool true):
 ReturnsInHanded {} C os f .any (λw args=>(s.pre enc C.prog fn [] apart w args/\laidMetH C.prog laid w)/\sizedMet enc C.prog fn (OpenSpec.ofChange s) apart w args) (s.post enc C.prog fn apart fresh false false):=by
 refine returnsInHanded_of_change_and (C:=C) (X:=λw _=>laidMetH C.prog laid w) (λ_ _ _ hh h=>h.of_heap hh) own started noInit hfn
  (ChangeSpec.witness_at (enc:=enc) (C:=C) (os:=os) (X:=λw _=>laidMetH C.prog laid w) false w0 args0 fuel hos hv hrb hok hpre hsz hx) ?_
 intro W base args ds gs before hval hW _ hz hL _
 have hW':=hW
 have hlt:=hW.lt
 obtain⟨p,q,hA,hV,rfl,hfz,hnd⟩:=hW
 have hgs:gs=[]/\q=[]:=by
  rw[hsv]at hV
  cases gs with
  |nil=>exact⟨rfl,hV⟩
  |cons g r=>exact absurd hV (by intro h;cases h)
 obtain⟨rfl,rfl⟩:=hgs
 have hlen:ds.length=fn.params.toList.length:=by
  have hlen:∀{ts:List TypeId} {vs:List Value} {ds:List (DataW H)} {ps:List MemPlace},DataW.TrodAll enc C.prog W 0 (λ_=>true) true ts vs ds ps->ds.length=ts.length:=by
   intro ts
   induction ts with
   |nil=>intro vs ds ps h;cases vs<;>cases ds<;>first|rfl|exact h.elim
   |cons t ts ih=>
    intro vs ds ps h
    cases vs<;>cases ds<;>try exact h.elim
    obtain⟨p,q,_,h2,_⟩:=h
    simp[ih h2]
  exact hlen hA
 rw[ADR _ _ _ hlen]at hz
 obtain⟨G,vargs,hg,hr,hrn⟩:=hrun W args ds p (λj t v h1 h2=>⟨base,hval j t v h1 h2⟩) hA hL hz
 refine(AFo hF hg hr hrn).mono λe W' ⟨he,ho⟩=>?_
 subst he
 have e1:s.fn H (ds++[])={results:=[.lit (.bool true)],args:=ds}:=by rw[List.append_nil];exact hsf ds hlen
 refine⟨_,rfl,ds,[],_,[],p,[],hW',?_,?_,?_,ho.kept _,λh=>by cases h⟩
 ·rw[e1,hres];exact trodAll_mk1 (shut_bool hb true)
 ·rw[e1];exact Old.trodAll hl ho hp hA (λx hx=>hlt x (by simpa using hx))
 ·rw[e1,hsv];rfl
inductive T.All{α:Type}:(P2->α->Prop)->T α->Prop
 |e {Q:P2->α->Prop}:T.All Q .e
 |n0 {Q:P2->α->Prop} {l r:T α}:T.All (λp=>Q (.z p)) l->T.All (λp=>Q (.o p)) r->T.All Q (.n none l r)
 |n1 {Q:P2->α->Prop} {x:α} {l r:T α}:Q .h x->T.All (λp=>Q (.z p)) l->T.All (λp=>Q (.o p)) r->T.All Q (.n (some x) l r)
theorem T.All.FB{α:Type}:∀{p:P2} {Q:P2->α->Prop} {t:T α},T.All Q t->∀{x:α},T.FB p t=some x->Q p x
 |p,_,_,.e,x,h=>by rw[T.AFZ]at h;cases h
 |.h,_,_,.n0 _ _,x,h=>by rw[T.AP3]at h;cases h
 |.z p,Q,_,.n0 hl _,x,h=>by rw[T.iw]at h;exact T.All.FB (p:=p) (Q:=λp=>Q (.z p)) hl h
 |.o p,Q,_,.n0 _ hr,x,h=>by rw[T.jT]at h;exact T.All.FB (p:=p) (Q:=λp=>Q (.o p)) hr h
 |.h,_,_,.n1 hx _ _,x,h=>by rw[T.AP3]at h;cases h;exact hx
 |.z p,Q,_,.n1 _ hl _,x,h=>by rw[T.iw]at h;exact T.All.FB (p:=p) (Q:=λp=>Q (.z p)) hl h
 |.o p,Q,_,.n1 _ _ hr,x,h=>by rw[T.jT]at h;exact T.All.FB (p:=p) (Q:=λp=>Q (.o p)) hr h
structure AVF(P:Program)(F:T AF)(f:Nat)(af:AF):Prop where
 tr:∃fn loc df ords,P.funcs[f]? =some fn/\(fn.name== "runtime.NumGoroutine")=false/\trF P loc df ords af.dg fn=some af
 dg:AKs af.dp=true∨∃af',T.get F af.dg=some af'/\AKs af'.dp=true
inductive zS(P:Program)(F:T AF)(f:Nat)(af:AF):Prop
 |code (h:AVF P F f af)
 |nat (k:Nk) (hk:af=.nat k) (h:AUJ P f k)
theorem AIr{d:vM}:AKs d=true↔d=.no:=by cases d<;>simp[AKs]
theorem AG1.AVf{P:Program}{F:T AF}(hm:P.follows .mixedOrders=true)(h:T.All (λp af=>zS P F p.key af) F):AG1 P F where
 mixed:=hm
 AU7:=λf k hf=>by
  have h':=T.All.FB (p:=Q5 f) h hf
  rw[ADx]at h'
  cases h' with
  |code h'=>
   obtain⟨fn,loc,df,ords,_,_,ht⟩:=h'.tr
   unfold trF at ht
   split at ht
   ·obtain⟨_,_,ht⟩:=AL.1 ht
    obtain⟨_,_,ht⟩:=AL.1 ht
    split at ht<;>cases ht
   ·cases ht
  |nat k' hk h'=>cases hk;exact h'
 fns:=λf af hf hn=>by
  have h':=T.All.FB (p:=Q5 f) h hf
  rw[ADx]at h'
  cases h' with
  |code h'=>exact h'.tr
  |nat k' hk h'=>subst hk;cases hn
 dgs:=λf af af' hf hn hd hf'=>by
  have h':=T.All.FB (p:=Q5 f) h hf
  cases h' with
  |code h'=>
   rcases h'.dg with e|⟨a,ha,hn⟩
   ·exact absurd (AIr.1 e) hd
   ·rw[ha]at hf';cases hf';exact AIr.1 hn
  |nat k' hk h'=>subst hk;cases hn
open Classical in
def sF:Value->V
 |.int k n=>.int k n 0
 |.bool b=>.bool b
 |.string s=>.str s.data.toList.length (enc s.data.toList)
 |.slice none len cap=>if len=0/\cap=0 then .Ad else .undef
 |.slice (some a) len cap=>if len<=cap/\(cap=0∨a.spot=none)then .rsl a.block a.off len cap 0 else .undef
 |_=>.undef
theorem AH2(ρ:Loc)(u:Value):Ac ρ (sF u) u:=by
 cases u with
 |slice a len cap=>
  cases a with
  |none=>
   simp only[sF]
   split
   ·rename_i h;obtain⟨rfl,rfl⟩:=h;simp[Ac]
   ·simp[Ac]
  |some a=>
   simp only[sF]
   split
   ·rename_i h
    refine⟨a,rfl,?_,h.1⟩
    rcases h.2 with e|e
    ·exact .inl e
    ·right;cases a;simp_all
   ·simp[Ac]
 |_=>simp[sF,Ac]
open Classical in
def NM(W:World):AX:=λb off n=>
 if ∀j,j<n->∃u,W.cell? ⟨b,off+j,none⟩=some u/\u.oneCell'=true then some ((List.range n).map λj=>sF ((W.cell? ⟨b,off+j,none⟩).getD undef))else none
theorem AKZ(W:World):Ye W (NM W):=by
 intro b off n L h
 unfold NM at h
 split at h
 ·rename_i hc
  cases h
  refine⟨by simp,λj v hj=>?_⟩
  rw[List.getElem?_map]at hj
  cases hr:(List.range n)[j]? with
  |none=>rw[hr]at hj;cases hj
  |some k=>
   rw[hr]at hj
   have hk:j<n:=by have:=(List.getElem?_eq_some_iff.1 hr).1;simpa using this
   rw[List.getElem?_range hk]at hr
   cases hr
   obtain⟨u,hu,h1⟩:=hc j hk
   refine⟨u,hu,?_,h1⟩
   simp only[Option.map_some,Option.some.injEq]at hj
   subst hj
   rw[hu]
   exact AH2 _ _
 ·cases h
theorem vJ{W:World}{b off n:Nat}{cs:List Value}(hl:cs.length=n)(h1:∀u∈cs,u.oneCell'=true)(h:∀j u,cs[j]? =some u->W.cell? ⟨b,off+j,none⟩=some u):NM W b off n=some (cs.map sF):=by
 subst hl
 unfold NM
 rw[if_pos]
 ·congr 1
  apply List.ext_getElem?
  intro j
  rw[List.getElem?_map,List.getElem?_map]
  by_cases hj:j<cs.length
  ·rw[List.getElem?_range hj,List.getElem?_eq_getElem hj]
   simp only[Option.map_some]
   rw[h j _ (List.getElem?_eq_getElem hj)]
   rfl
  ·rw[List.getElem?_eq_none (by simpa using hj),List.getElem?_eq_none (by simpa using hj)]
   rfl
 ·intro j hj
  exact⟨cs[j],h j _ (List.getElem?_eq_getElem hj),h1 _ (List.getElem_mem hj)⟩
inductive Dt where
 |int (k:IntKind) (n:Int)|bool (b:Bool)|str (s:List UInt8)|sl (z:Nat) (l:List Dt)|st (l:List Dt)
variable{P:Program}{H:Type}{enc':TypeId×Value->H}{w:World}{base:Nat}{spare:Nat->Bool}{held:Bool}
def qI{H:Type}:Nat->DataW H->Option LV
 |0,_=>none
 |n+1,d=>match d with
  |.lit (.int k i)=>some [.int k i 0]
  |.lit (.bool b)=>some [.bool b]
  |.lit (.string s)=>some [.str s.length (enc s)]
  |.agg ds=>(ds.mapM (qI n)).map List.flatten
  |_=>none
def oH:Nat->List (Nat×Nat)->Nat->Bool
 |o,[],tot=>Nat.beq o tot
 |o,(a,l)::r,tot=>Nat.beq a o&&oH (o+l) r tot
def AE7(P:Program):Nat->TypeId->Bool
 |0,_=>false
 |d+1,t=>match P.underlying t with
  |some (.int _)=>true
  |some .bool=>true
  |some .string=>true
  |some (.struct fs)=>oH 0 (fs.toList.map λf=>(f.offset,P.cellsOf f.type)) (P.cellsOf t)&&fs.toList.all λf=>AE7 P d f.type
  |some (.array n e)=>Nat.beq (n*P.cellsOf e) (P.cellsOf t)&&AE7 P d e
  |_=>false
theorem ZQ{α:Type}(cs:List α):∀(ls:List (Nat×Nat)) (o:Nat),oH o ls cs.length=true->cs.drop o=(ls.map λp=>(cs.drop p.1).take p.2).flatten
 |[],o,h=>by
  have:o=cs.length:=Nat.eq_of_beq_eq_true h
  subst this;simp
 |(a,l)::r,o,h=>by
  simp only[oH,Bool.and_eq_true]at h
  have ha:a=o:=Nat.eq_of_beq_eq_true h.1
  subst ha
  have ih:=ZQ cs r (a+l) h.2
  simp only[List.map_cons,List.flatten_cons]
  rw[<-ih,<-List.drop_drop,List.take_append_drop]
inductive ALX{α β:Type}(R:α->β->Prop):List α->List β->Prop
 |nil:ALX R [] []
 |cons {a:α} {b:β} {l:List α} {m:List β}:R a b->ALX R l m->ALX R (a::l) (b::m)
theorem AFI{ρ:Loc}:∀{xs:List LV} {ys:List (List Value)},ALX (λa b=>Dc ρ a b) xs ys->Dc ρ xs.flatten ys.flatten
 |_,_,.nil=>by simp
 |_,_,.cons h t=>by simp only[List.flatten_cons];exact h.append (AFI t)
theorem bG{α β γ:Type}{f:α->Option β}{R:β->γ->Prop}:∀{l:List α} {r:List β} {ys:List γ},l.mapM f=some r->l.length=ys.length->(∀(i:Nat) (a:α) (b:β) (y:γ),l[i]? =some a->f a=some b->ys[i]? =some y->R b y)->ALX R r ys
 |[],r,ys,h,hl,_=>by
  simp at h;subst h
  cases ys with
  |nil=>exact .nil
  |cons=>simp at hl
 |a::l,r,ys,h,hl,hR=>by
  cases ys with
  |nil=>simp at hl
  |cons y ys=>
   rw[List.mapM_cons]at h
   cases hfa:f a with
   |none=>rw[hfa]at h;cases h
   |some b=>
    rw[hfa]at h
    cases hr:l.mapM f with
    |none=>simp[hr]at h
    |some r'=>
     simp[hr]at h;subst h
     exact .cons (hR 0 a b y rfl hfa rfl) (bG hr (by simpa using hl) λi a b y h1 h2 h3=>hR (i+1) a b y (by simpa using h1) h2 (by simpa using h3))
theorem ABh{α β:Type}{f:α->Option β}:∀{l:List α} {r:List β},l.mapM f=some r->∀a∈l,∃b,f a=some b
 |[],_,_,_,h=>by cases h
 |a::l,r,h,x,hx=>by
  rw[List.mapM_cons]at h
  cases hfa:f a with
  |none=>rw[hfa]at h;cases h
  |some b=>
   rw[hfa]at h
   cases hr:l.mapM f with
   |none=>simp[hr]at h
   |some r'=>
    rcases List.mem_cons.1 hx with rfl|hx
    ·exact⟨b,hfa⟩
    ·exact ABh hr x hx
theorem AAE:∀(fuel:Nat) {t:TypeId} {cs:List Value} {d:DataW H} {ps:List MemPlace} {n m:Nat} {vs:LV},DataW.trod enc' P w base spare held fuel t cs=some (d,ps)->qI n d=some vs->AE7 P m t=true->
 Dc (λ_=>none) vs cs/\∀u∈cs,u.oneCell'=true
 |0,_,_,_,_,_,_,_,h,_,_=>by simp[DataW.trod]at h
 |fuel+1,t,cs,d,ps,n,0,vs,h,hf,ht=>by cases ht
 |fuel+1,t,cs,d,ps,0,m+1,vs,h,hf,ht=>by cases hf
 |fuel+1,t,cs,d,ps,n+1,m+1,vs,h,hf,ht=>by
  simp only[AE7]at ht
  split at ht
  ·rename_i k hu
   obtain⟨i,rfl,e,_⟩:=DataW.trod_int hu h
   cases e
   simp only[qI,Option.some.injEq]at hf;subst hf
   exact⟨.cons (by simp[Ac]) .nil,λu hu=>by simp at hu;subst hu;rfl⟩
  ·rename_i hu
   obtain⟨i,rfl,e⟩:=DataW.trod_bool hu h
   cases e
   simp only[qI,Option.some.injEq]at hf;subst hf
   exact⟨.cons (by simp[Ac]) .nil,λu hu=>by simp at hu;subst hu;rfl⟩
  ·rename_i hu
   obtain⟨s,rfl,e,_⟩:=DataW.trod_string hu h
   cases e
   simp only[qI,Option.some.injEq]at hf;subst hf
   exact⟨.cons ⟨s,rfl,rfl,rfl⟩ .nil,λu hu=>by simp at hu;subst hu;rfl⟩
  ·rename_i fs hu
   rw[Bool.and_eq_true]at ht
   obtain⟨xs,n',hfe,e,hlen,hxl,hel⟩:=DataW.trod_struct hu h
   have hfe':fuel=n':=by omega
   subst hfe'
   cases e
   have hflat:=ZQ cs _ 0 (by rw[hlen];exact ht.1)
   simp only[List.drop_zero,List.map_map]at hflat
   simp only[qI]at hf
   cases hm:(xs.map (·.1)).mapM (qI n)with
   |none=>rw[hm]at hf;cases hf
   |some r=>
    rw[hm]at hf
    simp only[Option.map_some,Option.some.injEq]at hf
    subst hf
    have each:∀(i:Nat) (f:Field) (x:DataW H×List MemPlace),fs[i]? =some f->xs[i]? =some x->∀b,qI n x.1=some b->Dc (λ_=>none) b ((cs.drop f.offset).take (P.cellsOf f.type))/\∀u∈(cs.drop f.offset).take (P.cellsOf f.type),u.oneCell'=true:=by
     intro i f x hi hx b hb
     have h1:=hel i f hi
     rw[hx]at h1
     obtain⟨x1,x2⟩:=x
     exact AAE fuel h1 hb (List.all_eq_true.1 ht.2 f (by simpa using Array.mem_of_getElem? hi))
    constructor
    ·rw[hflat]
     refine AFI (bG hm (by simp[hxl]) ?_)
     intro i a b y ha hb hy
     rw[List.getElem?_map]at ha hy
     cases hx:xs[i]? with
     |none=>rw[hx]at ha;cases ha
     |some x=>
      rw[hx]at ha
      cases ha
      cases hfi:fs.toList[i]? with
      |none=>rw[hfi]at hy;cases hy
      |some f=>
       rw[hfi]at hy
       cases hy
       exact(each i f x (by simpa using hfi) hx b hb).1
    ·intro u hu'
     rw[hflat]at hu'
     obtain⟨l,hl,hul⟩:=List.mem_flatten.1 hu'
     obtain⟨f,hf,rfl⟩:=List.mem_map.1 hl
     obtain⟨i,hi⟩:=List.mem_iff_getElem?.1 hf
     have hil:i<xs.length:=by rw[hxl];simpa using(List.getElem?_eq_some_iff.1 hi).1
     have hm':=ABh hm (xs[i]).1 (List.mem_map.2 ⟨xs[i],List.getElem_mem hil,rfl⟩)
     obtain⟨b,hb⟩:=hm'
     exact(each i f _ (by simpa using hi) (List.getElem?_eq_getElem hil) b hb).2 u hul
  ·rename_i k e hu
   rw[Bool.and_eq_true]at ht
   obtain⟨xs,n',hfe,e',hlen,hxl,hel⟩:=DataW.trod_array hu h
   have hfe':fuel=n':=by omega
   subst hfe'
   cases e'
   have hk:k*P.cellsOf e=P.cellsOf t:=Nat.eq_of_beq_eq_true ht.1
   have hcon:∀(j o:Nat),oH (o*P.cellsOf e) ((List.range' o j).map λi=>(i*P.cellsOf e,P.cellsOf e)) ((o+j)*P.cellsOf e)=true:=by
    intro j
    induction j with
    |zero=>intro o;simp[oH]
    |succ j ih=>
     intro o
     simp only[List.range'_succ,List.map_cons,oH,Bool.and_eq_true]
     refine⟨by simp,?_⟩
     have:=ih (o+1)
     rw[Nat.add_mul,Nat.one_mul]at this
     rw[show o+(j+1)=o+1+j by omega]
     exact this
   have hflat:=ZQ cs ((List.range' 0 k).map λi=>(i*P.cellsOf e,P.cellsOf e)) 0 (by have:=hcon k 0;rw[hlen,<-hk];simpa using this)
   simp only[List.drop_zero,List.map_map]at hflat
   simp only[qI]at hf
   cases hm:(xs.map (·.1)).mapM (qI n)with
   |none=>rw[hm]at hf;cases hf
   |some r=>
    rw[hm]at hf
    simp only[Option.map_some,Option.some.injEq]at hf
    subst hf
    have each:∀(i:Nat) (x:DataW H×List MemPlace),i<k->xs[i]? =some x->∀b,qI n x.1=some b->Dc (λ_=>none) b ((cs.drop (i*P.cellsOf e)).take (P.cellsOf e))/\∀u∈(cs.drop (i*P.cellsOf e)).take (P.cellsOf e),u.oneCell'=true:=by
     intro i x hi hx b hb
     have h1:=hel i hi
     rw[hx]at h1
     obtain⟨x1,x2⟩:=x
     exact AAE fuel h1 hb ht.2
    constructor
    ·rw[hflat]
     refine AFI (bG hm (by simp[hxl]) ?_)
     intro i a b y ha hb hy
     rw[List.getElem?_map]at ha hy
     cases hx:xs[i]? with
     |none=>rw[hx]at ha;cases ha
     |some x=>
      rw[hx]at ha
      cases ha
      have hik:i<k:=by rw[<-hxl];exact(List.getElem?_eq_some_iff.1 hx).1
      rw[List.getElem?_range' hik]at hy
      simp only[Option.map_some,Function.comp,Option.some.injEq,Nat.zero_add,Nat.one_mul]at hy
      subst hy
      exact(each i x hik hx b hb).1
    ·intro u hu'
     rw[hflat]at hu'
     obtain⟨l,hl,hul⟩:=List.mem_flatten.1 hu'
     obtain⟨i,hi,rfl⟩:=List.mem_map.1 hl
     have hik:i<k:=by simp at hi;exact hi
     have hil:i<xs.length:=by rw[hxl];exact hik
     have hm':=ABh hm (xs[i]).1 (List.mem_map.2 ⟨xs[i],List.getElem_mem hil,rfl⟩)
     obtain⟨b,hb⟩:=hm'
     exact(each i _ hik (List.getElem?_eq_getElem hil) b hb).2 u hul
  ·cases ht
end Go.DW
namespace Go.DW
end Go.DW
namespace Go.DW
end Go.DW
