/- Part of a proof; nothing is assumed. -/
import Derived.Test.YtdellhdojgpghaaGreatDoorEngD
import Derived.Scope
import Derived.Defers
import Derived.ChangeSame
import Derived.ChangeVars
import Derived.JoinedOf
import Derived.RowKit
import Derived.RowKitTokens
import Derived.LaidLaws
import Derived.LaidHandle
import Derived.Carry
import Derived.ProofKit
import Derived.Stop.Joined
import Derived.OpenShut
set_option linter.unusedVariables false
set_option linter.unusedSimpArgs false
noncomputable section
namespace Go.Bj
variable{P:Program}
def AFA:List Nat->List Nat->List Nat
 |[],l=>l
 |x::r,l=>if l.elem x then AFA r l else AFA r (x::l)
theorem zl{x:Nat}:∀(r l:List Nat),x∈AFA r l->x∈r∨x∈l
 |[],l,h=>.inr h
 |y::r,l,h=>by
  simp only[AFA]at h
  split at h
  ·rcases zl r l h with h|h
   ·exact .inl (List.mem_cons_of_mem _ h)
   ·exact .inr h
  ·rcases zl r _ h with h|h
   ·exact .inl (List.mem_cons_of_mem _ h)
   ·rcases List.mem_cons.1 h with rfl|h
    ·exact .inl List.mem_cons_self
    ·exact .inr h
def AHr(acc:List (List Nat)):List Edge->List Nat
 |[]=>[]
 |e::r=>if Region.binds .any e then AFA (e.on::(acc[e.on]?).getD []) (AHr acc r)else AHr acc r
def AMt:List Oper->List (List Nat)->List (List Nat)
 |[],acc=>acc
 |o::r,acc=>AMt r (acc++[AHr acc o.after.toList])
theorem ACd{acc:List (List Nat)}{x:Nat}:∀(es:List Edge),x∈AHr acc es->∃e∈es,Region.binds .any e=true/\(x=e.on∨x∈(acc[e.on]?).getD [])
 |[],h=>by cases h
 |e::r,h=>by
  simp only[AHr]at h
  split at h
  ·rename_i hb
   rcases zl _ _ h with h|h
   ·exact⟨e,List.mem_cons_self,hb,by rcases List.mem_cons.1 h with h|h; · exact .inl h
                                     ·exact .inr h⟩
   ·obtain⟨e',he',h'⟩:=ACd r h;exact⟨e',List.mem_cons_of_mem _ he',h'⟩
  ·obtain⟨e',he',h'⟩:=ACd r h;exact⟨e',List.mem_cons_of_mem _ he',h'⟩
theorem AGv{ops:Array Oper}{i:Nat}{o:Oper}(ho:ops[i]? =some o){e:Edge}(he:e∈o.after)(hb:Region.binds .any e=true):Before ops e.on i:=λS _ hd=>hd o ho e he hb
theorem before_trans{ops:Array Oper}{x y i:Nat}(h1:Before ops x y)(h2:Before ops y i):Before ops x i:=λS hc hd=>by
 have hy:=h2 S hc hd
 exact h1 S hc λo ho e he hb=>hc y o hy ho e he hb
theorem AHW{ops:Array Oper}:∀(l:List Oper) (acc:List (List Nat)),(∀j,l[j]? =ops[acc.length+j]?)->(∀i x,x∈(acc[i]?).getD []->Before ops x i)->∀i x,x∈((AMt l acc)[i]?).getD []->Before ops x i
 |[],acc,_,h=>h
 |o::r,acc,hl,h=>by
  have ho:ops[acc.length]? =some o:=by have:=hl 0;simpa using this.symm
  refine AHW r (acc++[AHr acc o.after.toList]) (λj=>?_) ?_
  ·have:=hl (j+1)
   rw[List.getElem?_cons_succ]at this
   rw[this,List.length_append,List.length_singleton,Nat.add_assoc,Nat.add_comm 1 j]
  ·intro i x hx
   by_cases hi:i<acc.length
   ·rw[List.getElem?_append_left hi]at hx;exact h i x hx
   ·rw[List.getElem?_append_right (by omega)]at hx
    have hi0:i=acc.length:=by
     cases hk:i-acc.length with
     |zero=>omega
     |succ k=>rw[hk]at hx;simp at hx
    subst hi0
    simp only[Nat.sub_self,List.getElem?_cons_zero,Option.getD_some]at hx
    obtain⟨e,he,hb,hx⟩:=ACd _ hx
    have hd:=AGv ho (by simpa using he) hb
    rcases hx with rfl|hx
    ·exact hd
    ·exact before_trans (h _ _ hx) hd
def AEk(P:Program)(C:FX)(ops:Array Oper):List (Nat×Wk)->Option (List Stp)
 |[]=>some []
 |(i,wk)::r=>Az (AR0 P C ops i wk) λs=>Az (AEk P C ops r) λl=>some (s::l)
theorem AH1{C:FX}{ops:Array Oper}:∀(l:List (Nat×Wk)) (ss:List Stp),AEk P C ops l=some ss->∀s∈ss,yF P C ops s
 |[],ss,h,s,hs=>by cases h;cases hs
 |(i,wk)::r,ss,h,s,hs=>by
  simp only[AEk]at h
  obtain⟨s0,h0,h⟩:=AL.1 h
  obtain⟨l,hl,e⟩:=AL.1 h;cases e
  rcases List.mem_cons.1 hs with rfl|hs
  ·exact(ASf h0).1
  ·exact AH1 r l hl s hs
def ANH(i:Nat):List Stp->Bool
 |[]=>false
 |s::r=>Nat.beq s.i i||ANH i r
theorem AA3{i:Nat}:∀{l:List Stp},ANH i l=true↔∃s∈l,s.i=i
 |[]=>by simp[ANH]
 |s::r=>by simp[ANH,AA3 (l:=r)]
def AIc(ss:List Stp):Nat->Bool
 |0=>true
 |n+1=>ANH n ss&&AIc ss n
def AEK:List Stp->List Stp->Bool
 |_,[]=>true
 |done,s::r=> !ANH s.i done&&s.o.after.toList.all (λe=> !Region.binds .any e||ANH e.on done)&&AEK (done++[s]) r
def AIf(Qd:Nat->List Nat):List Stp->Bool
 |[]=>true
 |j::r=>(!j.ao.isE||r.all λs=>(Qd s.i).elem j.i)&&AIf Qd r
def AXr:sW->Bool
 |.to _=>true
 |_=>false
def AMh(s:Stp):Bool:=
 (s.ao.isE||match s.dt with|some t=> !s.rd.elem t|none=>true)&&(!s.ao.isR||AXr s.dst)
def ATR(Qd:Nat->List Nat)(s k:Stp):Bool:=
 Nat.beq s.i k.i||match s.dt with
  |none=>true
  |some t=>(match k.dt with|some u=> !Nat.beq t u|none=>true)&&(!k.rd.elem t||((Qd k.i).elem s.i||(s.ao.isE&&(Qd s.i).elem k.i)))
def ANh(ops:Array Oper)(Qd:Nat->List Nat)(ss:List Stp):Bool:=
 Nat.ble ss.length ops.size&&AIc ss ops.size&&AEK [] ss&&AIf Qd ss&&ss.all AMh&&ss.all λs=>ss.all (ATR Qd s)
theorem ADu{ss:List Stp}:∀{n:Nat},AIc ss n=true->∀i,i<n->∃s∈ss,s.i=i
 |0,_,i,hi=>by omega
 |n+1,h,i,hi=>by
  simp only[AIc,Bool.and_eq_true]at h
  rcases Nat.lt_or_ge i n with hlt|hge
  ·exact ADu h.2 i hlt
  ·have:i=n:=by omega
   subst this;exact AA3.1 h.1
theorem Yt:∀{r done:List Stp},AEK done r=true->∀pre s post,r=pre++s::post->(∀x∈done++pre,x.i≠s.i)/\∀e∈s.o.after,Region.binds .any e=true->∃x∈done++pre,x.i=e.on
 |[],done,_,pre,s,post,he=>by cases pre<;>cases he
 |t::r,done,h,pre,s,post,he=>by
  simp only[AEK,Bool.and_eq_true,Bool.not_eq_true']at h
  obtain⟨⟨h1,h2⟩,h3⟩:=h
  cases pre with
  |nil=>
   simp only[List.nil_append,List.cons.injEq]at he
   obtain⟨rfl,rfl⟩:=he
   refine⟨λx hx e=>?_,λe he hb=>?_⟩
   ·rw[List.append_nil]at hx
    rw[AA3.2 ⟨x,hx,e⟩]at h1;cases h1
   ·rw[List.append_nil]
    rw[List.all_eq_true]at h2
    have:=h2 e (by simpa using he)
    rw[hb]at this
    exact AA3.1 (by simpa using this)
  |cons u pre=>
   simp only[List.cons_append,List.cons.injEq]at he
   obtain⟨rfl,rfl⟩:=he
   have:=Yt h3 pre s post rfl
   rw[List.append_assoc,List.singleton_append]at this
   exact this
theorem AC5{Qd:Nat->List Nat}:∀{ss:List Stp},AIf Qd ss=true->∀pre j mid s post,ss=pre++j::(mid++s::post)->j.ao.isE=true->j.i∈Qd s.i
 |[],_,pre,j,mid,s,post,he=>by cases pre<;>cases he
 |t::r,h,pre,j,mid,s,post,he=>by
  simp only[AIf,Bool.and_eq_true]at h
  cases pre with
  |nil=>
   simp only[List.nil_append,List.cons.injEq]at he
   obtain⟨rfl,rfl⟩:=he
   intro hE
   have h1:=h.1
   rw[hE]at h1
   simp only[Bool.not_true,Bool.false_or,List.all_eq_true]at h1
   simpa using h1 s (by simp)
  |cons u pre=>
   simp only[List.cons_append,List.cons.injEq]at he
   obtain⟨rfl,rfl⟩:=he
   exact AC5 h.2 pre j mid s post rfl
theorem AL7{C:FX}{ops:Array Oper}{l:List (Nat×Wk)}{ss:List Stp}(hs:AEk P C ops l=some ss)(h:ANh ops (λi=>((AMt ops.toList [])[i]?).getD []) ss=true):YM P C ops ss (λi=>((AMt ops.toList [])[i]?).getD []):=by
 have hanc:=AHW (ops:=ops) ops.toList [] (λj=>by simp) (λi x hx=>by simp at hx)
 simp only[ANh,Bool.and_eq_true]at h
 obtain⟨⟨⟨⟨⟨h1,h2⟩,h3⟩,h4⟩,h5⟩,h6⟩:=h
 rw[List.all_eq_true]at h5 h6
 refine{ok:=AH1 l ss hs,all:=ADu h2,inj:=?_,AZB:=?_,act:=λpre j mid s post he hE=>hanc _ _ (AC5 h4 pre j mid s post he hE),own:=?_,regs:=?_,Qd:=hanc,AaL:=?_,len:=Nat.le_of_ble_eq_true h1}
 ·intro pre s post he
  refine⟨λx hx=>by have:=(Yt h3 pre s post he).1;exact this x (by simpa using hx),λx hx e=>?_⟩
  obtain⟨q1,q2,rfl⟩:=List.append_of_mem hx
  have:=(Yt h3 (pre++s::q1) x q2 (by rw[he];simp)).1 s (by simp)
  exact this e.symm
 ·intro pre s post he e hem hb
  have:=(Yt h3 pre s post he).2 e hem hb
  simpa using this
 ·intro s hsm hE t hdt ht
  have:=h5 s hsm
  simp only[AMh,Bool.and_eq_true]at this
  have h7:=this.1
  rw[hE,hdt]at h7
  simp only[Bool.false_or,Bool.not_eq_true']at h7
  rw[Bool.eq_false_iff]at h7
  exact h7 (by simpa using ht)
 ·intro s hsm k hkm hne t hdt
  have:=h6 s hsm
  rw[List.all_eq_true]at this
  have:=this k hkm
  unfold ATR at this
  rw[hdt]at this
  have hb:Nat.beq s.i k.i=false:=by rw[Bool.eq_false_iff];intro e;exact hne (Nat.eq_of_beq_eq_true e)
  rw[hb]at this
  simp only[Bool.false_or,Bool.and_eq_true]at this
  refine⟨λhk=>?_,λht=>?_⟩
  ·have h8:=this.1
   rw[hk]at h8
   simp at h8
  ·have h8:=this.2
   have:k.rd.elem t=true:=by simpa using ht
   rw[this]at h8
   simp only[Bool.not_true,Bool.false_or,Bool.or_eq_true,Bool.and_eq_true]at h8
   rcases h8 with h8|⟨h8,h9⟩
   ·exact .inl (hanc _ _ (by simpa using h8))
   ·exact .inr ⟨h8,hanc _ _ (by simpa using h9)⟩
 ·intro s hsm hR
  have:=h5 s hsm
  simp only[AMh,Bool.and_eq_true]at this
  have h7:=this.2
  rw[hR]at h7
  cases hd:s.dst with
  |no=>rw[hd]at h7;simp[AXr]at h7
  |ps=>rw[hd]at h7;simp[AXr]at h7
  |to p=>exact⟨p,rfl⟩
variable{P:Program}
abbrev AKO:=List (Nat×List (Nat×Wk))
def AWO(id:Nat):AKO->Option (List (Nat×Wk))
 |[]=>none
 |(i,l)::r=>if i=id then some l else AWO id r
def trC(P:Program)(C:FX)(ords:AKO):Code->Option AC
 |.skip=>some .skip
 |.region id ops draw=>match draw with
  |false=>Az (AEE P C ops [] 0 ops.toList) λl=>some (.ops l)
  |true=>Az (AWO id ords) λl=>Az (AEk P C ops l) λss=>match ANh ops (λi=>((AMt ops.toList [])[i]?).getD []) ss with
   |true=>some (.reg (Eb (λi=>((AMt ops.toList [])[i]?).getD []) [] ss))
   |false=>none
 |.seq a b=>Az (trC P C ords a) λa=>Az (trC P C ords b) λb=>some (.seq a b)
 |.cond c a b=>Az (AQw C [] 0 c) λx=>Az (trC P C ords a) λa=>Az (trC P C ords b) λb=>some (.cond x a b)
 |.block id c=>Az (trC P C ords c) λc=>some (.block id c)
 |.loop c=>Az (trC P C ords c) λc=>some (.loop c)
 |.exit id=>some (.exit id)
 |.ret=>some .ret
 |.scope c=>trC P C ords c
 |.label _=>some .skip
 |_=>none
def Fr(w0:World)(C:FX)(ρ0:Loc)(H0:Heap)(n0:Nat)(R:Je)(H:Heap)(n:Nat)(a:Act)(w:World):Prop:=∃ρ,D8 w0 ρ H n w/\Rg C ρ R a/\Ij ρ0 H0 n0 ρ H n
theorem least{p:Nat->Prop}(h:∃m,p m):∃m,p m/\∀j,p j->m<=j:=by
 obtain⟨m,hm⟩:=h
 induction m using Nat.strongRecOn with
 |_ m ih=>
  by_cases h:∃j,j<m/\p j
  ·obtain⟨j,hj,hp⟩:=h;exact ih j hj hp
  ·refine⟨m,hm,λj hj=>?_⟩
   rcases Nat.lt_or_ge j m with hlt|hge
   ·exact absurd ⟨j,hlt,hj⟩ h
   ·exact hge
open Classical in
def lst(p:Nat->Prop):Nat:=if h:∃m,p m then(least h).choose else 0
theorem ALu{p:Nat->Prop}(h:∃m,p m):p (lst p)/\∀j,p j->lst p<=j:=by
 unfold lst
 rw[dif_pos h]
 exact(least h).choose_spec
theorem APK{C:FX}{ρ:Loc}{R:Je}{a:Act}:qZ C ρ (.mk [] R) 0 [] a:=⟨rfl,λt ev h=>by cases h⟩
section
variable{w0:World}{C:FX}{ords:AKO}{ρ0:Loc}{H0:Heap}{n0:Nat}{G:AV}{call:BD}{lf:Nat}
theorem AAB(hm:P.follows .mixedOrders=true)(hc:dw P w0 call)(hg:Vg w0 G):∀(c:Code) (ac:AC),trC P C ords c=some ac->∀(Q:Exit->Act->World->Prop) (R:Je) (H:Heap) (n:Nat) (k:K) (x:KX) (r:K) (a:Act) (w:World),
 (∀R H n a w,k R H n->Fr w0 C ρ0 H0 n0 R H n a w->Q .normal a w)->(∀i R H n a w,x i R H n->Fr w0 C ρ0 H0 n0 R H n a w->Q (.exit i) a w)->(∀R H n a w,r R H n->Fr w0 C ρ0 H0 n0 R H n a w->Q .ret a w)->
 ac.ex G call lf R H n k x r->Fr w0 C ρ0 H0 n0 R H n a w->c.wp P Q a w:=by
 intro c
 induction c with
 |skip=>
  intro ac h Q R H n k x r a w hk hx hr he hf
  cases h
  exact wp_skip (hk _ _ _ _ _ he hf)
 |region id ops draw=>
  intro ac h Q R H n k x r a w hk hx hr he hf
  obtain⟨ρ,hh,hrg,hgu⟩:=hf
  cases draw with
  |false=>
   simp only[trC]at h
   obtain⟨l,hl,e⟩:=AL.1 h;cases e
   have he':Qi l G call (.mk [] R) H n (λE H n=>k E.rg H n):=he
   exact wp_region_list (ADg (ρ0:=ρ0) (H0:=H0) (n0:=n0) hc hg (λE H n a w ρ hK hh hr hgu=>hk _ _ _ _ _ hK ⟨ρ,hh,hr,hgu⟩) ops.toList [] 0 l hl _ H n a w ρ he' hh hrg APK hgu)
  |true=>
   simp only[trC]at h
   obtain⟨l,hl,h⟩:=AL.1 h
   obtain⟨ss,hss,h⟩:=AL.1 h
   split at h
   ·rename_i hchk
    cases h
    have R0:=AL7 hss hchk
    have he':CU (Eb (λi=>((AMt ops.toList [])[i]?).getD []) [] ss) G call (.mk [] R) H n (λE H n=>k E.rg H n):=he
    exact AQf hm R0 hc hg hh hrg he' λE H n a w ρ' hK hh' hr' hgu'=>hk _ _ _ _ _ hK ⟨ρ',hh',hr',hgu.trans hgu'⟩
   ·cases h
 |seq c1 c2 ih1 ih2=>
  intro ac h Q R H n k x r a w hk hx hr he hf
  simp only[trC]at h
  obtain⟨a1,h1,h⟩:=AL.1 h
  obtain⟨a2,h2,e⟩:=AL.1 h;cases e
  have he':a1.ex G call lf R H n (λR H n=>a2.ex G call lf R H n k x r) x r:=he
  refine wp_seq (ih1 a1 h1 _ R H n _ x r a w ?_ ?_ ?_ he' hf)
  ·intro R H n a w hk' hf'
   exact ih2 a2 h2 Q R H n k x r a w hk hx hr hk' hf'
  ·intro i R H n a w hx' hf';exact hx i R H n a w hx' hf'
  ·intro R H n a w hr' hf';exact hr R H n a w hr' hf'
 |cond c c1 c2 ih1 ih2=>
  intro ac h Q R H n k x r a w hk hx hr he hf
  simp only[trC]at h
  obtain⟨cx,hcx,h⟩:=AL.1 h
  obtain⟨a1,h1,h⟩:=AL.1 h
  obtain⟨a2,h2,e⟩:=AL.1 h;cases e
  have he':Ac (cx.ev (.mk [] R)) true (a1.ex G call lf R H n k x r) (a2.ex G call lf R H n k x r):=he
  rw[Y3]at he'
  obtain⟨t,ht,he'⟩:=he'
  obtain⟨ρ,hh,hrg,hgu⟩:=hf
  have hv:=AK3 (E:=.mk [] R) hrg APK c cx hcx
  rw[ht]at hv
  simp only[AZ]at hv
  refine wp_cond_split hv (λe=>?_) (λe=>?_)
  ·rw[if_pos e]at he'
   exact ih1 a1 h1 Q R H n k x r a w hk hx hr he' ⟨ρ,hh,hrg,hgu⟩
  ·rw[if_neg (by simp[e])]at he'
   exact ih2 a2 h2 Q R H n k x r a w hk hx hr he' ⟨ρ,hh,hrg,hgu⟩
 |block id c ih=>
  intro ac h Q R H n k x r a w hk hx hr he hf
  simp only[trC]at h
  obtain⟨a1,h1,e⟩:=AL.1 h;cases e
  have he':a1.ex G call lf R H n k (IQ id k x) r:=he
  refine wp_block (ih a1 h1 _ R H n k _ r a w ?_ ?_ ?_ he' hf)
  ·intro R H n a w hk' hf';exact hk R H n a w hk' hf'
  ·intro i R H n a w hx' hf'
   simp only[Exit.inBlock]
   cases hb:Nat.beq i id with
   |true=>
    have hx2:(Bool.rec (motive:=λ_=>Prop->Prop->Prop) (λa _=>a) (λ_ b=>b) (Nat.beq i id) (x i R H n) (k R H n):Prop):=hx'
    rw[hb]at hx2
    rw[if_pos (Nat.eq_of_beq_eq_true hb)]
    exact hk R H n a w hx2 hf'
   |false=>
    have hx2:(Bool.rec (motive:=λ_=>Prop->Prop->Prop) (λa _=>a) (λ_ b=>b) (Nat.beq i id) (x i R H n) (k R H n):Prop):=hx'
    rw[hb]at hx2
    rw[if_neg (λe=>by subst e;simp at hb)]
    exact hx i R H n a w hx2 hf'
  ·intro R H n a w hr' hf';exact hr R H n a w hr' hf'
 |loop c ih=>
  intro ac h Q R H n k x r a w hk hx hr he hf
  simp only[trC]at h
  obtain⟨a1,h1,e⟩:=AL.1 h;cases e
  have he':Xa (AC.ex a1) G call lf lf R H n x r:=he
  have J:∃m R H n,Xa (AC.ex a1) G call lf m R H n x r/\Fr w0 C ρ0 H0 n0 R H n a w:=⟨lf,R,H,n,he',hf⟩
  refine wp_loop (λa w=>∃m R H n,Xa (AC.ex a1) G call lf m R H n x r/\Fr w0 C ρ0 H0 n0 R H n a w) (λa w=>lst λm=>∃R H n,Xa (AC.ex a1) G call lf m R H n x r/\Fr w0 C ρ0 H0 n0 R H n a w) J ?_
  intro a w hI
  obtain⟨hp,_⟩:=ALu hI
  cases hm0:lst (λm=>∃R H n,Xa (AC.ex a1) G call lf m R H n x r/\Fr w0 C ρ0 H0 n0 R H n a w)with
  |zero=>
   rw[hm0]at hp
   obtain⟨R,H,n,hl,_⟩:=hp
   exact(show False from hl).elim
  |succ m=>
   rw[hm0]at hp
   obtain⟨R,H,n,hl,hf⟩:=hp
   have hl':a1.ex G call lf R H n (λR H n=>Xa (AC.ex a1) G call lf m R H n x r) x r:=hl
   refine ih a1 h1 _ R H n _ x r a w ?_ ?_ ?_ hl' hf
   ·intro R H n a' w' hk' hf'
    refine⟨⟨m,R,H,n,hk',hf'⟩,?_⟩
    have:=(ALu (p:=λm=>∃R H n,Xa (AC.ex a1) G call lf m R H n x r/\Fr w0 C ρ0 H0 n0 R H n a' w') ⟨m,R,H,n,hk',hf'⟩).2 m ⟨R,H,n,hk',hf'⟩
    omega
   ·intro i R H n a w hx' hf';exact hx i R H n a w hx' hf'
   ·intro R H n a w hr' hf';exact hr R H n a w hr' hf'
 |exit id=>
  intro ac h Q R H n k x r a w hk hx hr he hf
  cases h
  exact wp_exit (hx id _ _ _ _ _ he hf)
 |ret=>
  intro ac h Q R H n k x r a w hk hx hr he hf
  cases h
  exact wp_ret (hr _ _ _ _ _ he hf)
 |scope c ih=>
  intro ac h Q R H n k x r a w hk hx hr he hf
  simp only[trC]at h
  exact wp_scope_straight (ih ac h _ R H n k x r a w hk hx hr he hf)
 |label l=>
  intro ac h Q R H n k x r a w hk hx hr he hf
  cases h
  exact wp_label (hk _ _ _ _ _ he hf)
 |_=>intro ac h;simp only[trC]at h;cases h
end
variable{P:Program}
def ADt(P:Program)(C:FX):List ResultVar->Option (List AR)
 |[]=>some []
 |.tmp t::r=>if t<C.nt then if C.loc t then none else Az (ADt P C r) λl=>some (.tmp (PN t)::l)else none
 |.cell a ty::r=>if a<C.nt then if C.loc a then none else match NR P ty with
  |some true=>Az (szT P ty) λn=>Az (ADt P C r) λl=>some (.celln (PN a) n::l)
  |some false=>Az (ADt P C r) λl=>some (.cell1 (PN a)::l)
  |none=>none
  else none
theorem yV(r:AR)(l:List AR)(G:AV)(R:Je)(H:Heap):ADa (r::l) G R H=Bl (r.get G R H) λv=>Bl (ADa l G R H) λvs=>some (v::vs):=rfl
def AAX(tmps:Array Value):ResultVar->Sem Value
 |.tmp t=>pure (tmps.getD t undef)
 |.cell b t=>do loadVar t (<-asAddr (tmps.getD b undef))
theorem AES{w0:World}{C:FX}{ρ:Loc}{R:Je}{H:Heap}{n:Nat}{a:Act}{w:World}{G:AV}(hg:Vg w0 G)(hh:D8 w0 ρ H n w)(hr:Rg C ρ R a):∀(rs:List ResultVar) (l:List AR) (vs:LV),ADt P C rs=some l->ADa l G R H=some vs->
 ∃us,(rs.mapM (AAX a.tmps)).run P w=.ok us w/\CV ρ vs us
 |[],l,vs,h,hv=>by
  cases h
  have hv':some []=some vs:=hv
  cases hv'
  exact⟨[],by simp,CV.nil⟩
 |.tmp t::r,l,vs,h,hv=>by
  simp only[ADt]at h
  split at h
  ·rename_i ht
   split at h
   ·cases h
   ·rename_i hl
    obtain⟨l',hl',e⟩:=AL.1 h;cases e
    rw[yV,Bg]at hv
    obtain⟨v,hv1,hv⟩:=hv
    rw[Bg]at hv
    obtain⟨vs',hv2,hv⟩:=hv
    cases hv
    have hv1':some (Nh (T.ED (PN t) R))=some v:=hv1
    cases hv1'
    obtain⟨us,hus,hrel⟩:=AES hg hh hr r l' vs' hl' hv2
    refine⟨a.tmps.getD t undef::us,?_,.cons (hr.reg t ht (by simpa using hl)) hrel⟩
    simp only[List.mapM_cons,AAX,Sem.run_bind,Sem.run_pure,Result.andThen_ok,hus]
  ·cases h
 |.cell b ty::r,l,vs,h,hv=>by
  simp only[ADt]at h
  split at h
  ·rename_i hb
   split at h
   ·cases h
   ·rename_i hl
    have hreg:=hr.reg b hb (by simpa using hl)
    split at h
    ·rename_i hag
     obtain⟨m,hm,h⟩:=AL.1 h
     obtain⟨l',hl',e⟩:=AL.1 h;cases e
     rw[yV,Bg]at hv
     obtain⟨v,hv1,hv⟩:=hv
     rw[Bg]at hv
     obtain⟨vs',hv2,hv⟩:=hv
     cases hv
     obtain⟨us,hus,hrel⟩:=AES hg hh hr r l' vs' hl' hv2
     have hv1':PY (ldP (Nh (T.ED (PN b) R)) G H m) (λL=>some (.agg L))=some v:=hv1
     obtain⟨val,hrun,hvr⟩:=APR (P:=P) hh hg hreg hag hm hv1'
     refine⟨val::us,?_,.cons hvr hrel⟩
     have hq:(AAX a.tmps (.cell b ty)).run P w=.ok val w:=by
      obtain⟨L0,hL0,_⟩:=WV.1 hv1'
      obtain⟨a0,_,ha0,_⟩:=fZ hh hg hreg hL0
      have ha1:a.tmps.getD b undef=.pointer (some a0):=ha0
      rw[<-hrun]
      simp only[AAX,Instr.loadAt,ha0,ha1,asAddr,Instr.sureAddr]
     simp only[List.mapM_cons,Sem.run_bind,hq,Sem.run_pure,Result.andThen_ok,hus]
    ·rename_i hag
     obtain⟨l',hl',e⟩:=AL.1 h;cases e
     rw[yV,Bg]at hv
     obtain⟨v,hv1,hv⟩:=hv
     rw[Bg]at hv
     obtain⟨vs',hv2,hv⟩:=hv
     cases hv
     obtain⟨us,hus,hrel⟩:=AES hg hh hr r l' vs' hl' hv2
     have hv1':PY (ldP (Nh (T.ED (PN b) R)) G H 1) (λL=>nth L 0)=some v:=hv1
     obtain⟨val,hrun,hvr⟩:=AOf (P:=P) hh hg hreg hag hv1'
     refine⟨val::us,?_,.cons hvr hrel⟩
     have hq:(AAX a.tmps (.cell b ty)).run P w=.ok val w:=by
      obtain⟨L0,hL0,_⟩:=WV.1 hv1'
      obtain⟨a0,_,ha0,_⟩:=fZ hh hg hreg hL0
      have ha1:a.tmps.getD b undef=.pointer (some a0):=ha0
      rw[<-hrun]
      simp only[AAX,Instr.loadAt,ha0,ha1,asAddr,Instr.sureAddr]
     simp only[List.mapM_cons,Sem.run_bind,hq,Sem.run_pure,Result.andThen_ok,hus]
    ·cases h
  ·cases h
variable{P:Program}
theorem ARo{ρ:Loc}{vs:LV}{us:List Value}(h:CV ρ vs us):AZ ρ (EG vs) (if h:us.toArray.size=1 then us.toArray[0]else .tuple us.toArray):=by
 match vs,us,h with
 |[],us,h=>
  simp only[ABW]at h;subst h
  simp only[List.size_toArray,List.length_nil]
  exact⟨#[],rfl,by simp⟩
 |[v],us,h=>
  obtain⟨u,us',rfl,hv,h'⟩:=KL.1 h
  simp only[ABW]at h';subst h'
  show AZ ρ v _
  simpa using hv
 |v::w::vs,us,h=>
  obtain⟨u,us',rfl,hv,h'⟩:=KL.1 h
  obtain⟨u2,us2,rfl,hv2,h2⟩:=KL.1 h'
  rw[dif_neg (by simp)]
  exact⟨_,rfl,by simpa using h⟩
theorem ALF{w0:World}{C:FX}{ρ:Loc}{R:Je}{H:Heap}{n:Nat}{a:Act}{w:World}{G:AV}(hg:Vg w0 G)(hh:D8 w0 ρ H n w)(hr:Rg C ρ R a){fn:Func}{l:List AR}{vs:LV}
 (hl:ADt P C fn.results.toList=some l) (hv:ADa l G R H=some vs):∃u,(results fn a.tmps).run P w=.ok u w/\AZ ρ (EG vs) u:=by
 obtain⟨us,hus,hrel⟩:=AES (P:=P) hg hh hr fn.results.toList l vs hl hv
 refine⟨_,?_,ARo hrel⟩
 unfold results
 rw[Array.mapM_eq_mapM_toList]
 have e:(λx:ResultVar=>match x with
  |.tmp t=>(pure (a.tmps.getD t undef):Sem Value)
  |.cell b t=>do loadVar t (<-asAddr (a.tmps.getD b undef)))=AAX a.tmps:=by
  funext x;cases x<;>rfl
 simp only[map_eq_pure_bind,bind_assoc,pure_bind]
 rw[Sem.run_bind]
 have e2:(List.mapM (λx:ResultVar=>match x with
  |.tmp t=>(pure (a.tmps.getD t undef):Sem Value)
  |.cell b t=>do loadVar t (<-asAddr (a.tmps.getD b undef))) fn.results.toList).run P w=.ok us w:=by
  rw[e];exact hus
 erw [e2]
 simp
def AI7(f:Nat->Bool):Nat->Bool
 |0=>true
 |n+1=> !f n&&AI7 f n
theorem ADC{f:Nat->Bool}:∀{n:Nat},AI7 f n=true->∀i,i<n->f i=false
 |0,_,i,hi=>by omega
 |n+1,h,i,hi=>by
  simp only[AI7,Bool.and_eq_true,Bool.not_eq_true']at h
  rcases Nat.lt_or_ge i n with hlt|hge
  ·exact ADC h.2 i hlt
  ·have:i=n:=by omega
   subst this;exact h.1
def AXu(nt:Nat):Bool->sW
 |true=>.to (PN nt)
 |false=>.no
def trF(P:Program)(loc:Nat->Bool)(df:Bool)(ords:AKO)(dg:Nat)(fn:Func):Option AF:=
 match fn.body with
 |some c=>Az (trC P ⟨loc,fn.ntmps,df⟩ ords c) λac=>Az (ADt P ⟨loc,fn.ntmps,df⟩ fn.results.toList) λrs=>
  match Nat.ble (fn.params.size+fn.nfree) fn.ntmps&&AI7 loc (fn.params.size+fn.nfree)with
  |true=>some (.mk (fn.params.size+fn.nfree) ac rs (AXu fn.ntmps df) dg)
  |false=>none
 |none=>none
def AMp:sW->Bool
 |.no=>true
 |_=>false
def AF.dp:AF->sW|.mk _ _ _ d _=>d|.nat _=>.ps
def AF.dg:AF->Nat|.mk _ _ _ _ g=>g|.nat _=>0
def AF.isNat:AF->Bool|.mk _ _ _ _ _=>false|.nat _=>true
def Ret(w0:World)(ρ:Loc)(H:Heap)(n:Nat)(k:KV)(e:Ending)(w':World):Prop:=
 ∃u v H' n' ρ',e=.returned u/\k v H' n'/\AZ ρ' v u/\D8 w0 ρ' H' n' w'/\Ij ρ H n ρ' H' n'
def AXF(P:Program)(f:Nat)(k:Nk):Prop:=APv P f/\∀(w0:World) (G:AV),Vg w0 G->∀(vargs:List V) (H:Heap) (n:Nat) (kk:KV),AAF k G vargs H n kk->∀(ρ:Loc) (w:World) (args:Array Value),D8 w0 ρ H n w->CV ρ vargs args.toList->
 Calls P f args w (Ret w0 ρ H n kk)
structure AFF(P:Program)(F:T AF):Prop where
 mixed:P.follows .mixedOrders=true
 AYz:∀f k,T.get F f=some (.nat k)->AXF P f k
 fns:∀f af,T.get F f=some af->af.isNat=false->∃fn loc df ords,P.funcs[f]? =some fn/\(fn.name== "runtime.NumGoroutine")=false/\trF P loc df ords af.dg fn=some af
 dgs:∀f af af',T.get F f=some af->af.isNat=false->af.dp≠.no->T.get F af.dg=some af'->af'.dp=.no
def AOa(P:Program)(w0:World)(call:BD)(f:Nat):Prop:=∀(vargs:List V) (H:Heap) (n:Nat) (k:KV),call f vargs H n k->∀(ρ:Loc) (w:World) (args:Array Value),D8 w0 ρ H n w->CV ρ vargs args.toList->
 CallsD P f args .returning w (λe u' w'=>u'=.returning/\Ret w0 ρ H n k e w')
theorem ACk:∀(args:List V) (i:Nat) (R:Je) (t:Nat),Nh (T.ED (PN t) (eU args i R))=if i<=t/\t<i+args.length then(args[t-i]?).getD .undef else Nh (T.ED (PN t) R)
 |[],i,R,t=>by
  show Nh (T.ED (PN t) R)=_
  rw[if_neg (by simp)]
 |v::vs,i,R,t=>by
  show Nh (T.ED (PN t) (eU vs (i+1) (T.set R i v)))=_
  rw[ACk vs (i+1) (T.set R i v) t]
  by_cases h:i+1<=t/\t<i+1+vs.length
  ·rw[if_pos h,if_pos (by simp;omega)]
   obtain⟨m,hm⟩:∃m,t=i+1+m:=⟨t-(i+1),by omega⟩
   subst hm
   rw[show i+1+m-(i+1)=m by omega,show i+1+m-i=m+1 by omega]
   simp
  ·rw[if_neg h]
   by_cases he:t=i
   ·subst he
    rw[if_pos (by simp)]
    show Nh (T.get (T.set R t v) t)=_
    simp
   ·rw[if_neg (by simp;omega)]
    show Nh (T.get (T.set R i v) t)=_
    rw[T.Ad _ _ (λe=>he e.symm)]
    rfl
section
variable{w0:World}{G:AV}{F:T AF}{lf:Nat}
theorem ASV{C:FX}{ρ:Loc}{vargs:List V}{args:Array Value}(hrel:CV ρ vargs args.toList)(hsz:args.size<=C.nt)(hloc:∀i,i<args.size->C.loc i=false):
 Rg C ρ (eU vargs 0 .e) {tmps:=args++Array.replicate (C.nt-args.size) undef,defers:=[]}:=by
 have hlen:vargs.length=args.size:=by rw[hrel.length];simp
 refine⟨by simp;omega,λt ht hl=>?_,?_⟩
 ·rw[ACk]
  by_cases h:t<vargs.length
  ·rw[if_pos ⟨Nat.zero_le _,by omega⟩,Nat.sub_zero]
   obtain⟨v,hv,hvr⟩:=hrel.get (i:=t) (c:=(vargs[t]?).getD .undef) (by rw[List.getElem?_eq_getElem h];rfl)
   have:({tmps:=args++Array.replicate (C.nt-args.size) undef,defers:=[]}:Act).eval (.tmp t)=v:=by
    have hv':args[t]? =some v:=by simpa using hv
    simp only[Act.eval]
    rw[Array.getD_eq_getD_getElem?,Array.getElem?_append_left (by omega),hv']
    rfl
   rw[this];exact hvr
  ·rw[if_neg (by omega)]
   simp[AZ]
 ·rw[ACk,if_neg (show ¬(0<=C.nt/\C.nt<0+vargs.length)by omega)]
  simp only[T.AFi,APg]
  split
  ·rfl
  ·trivial
theorem AK5{dg:Nat}{call:BD}(hc:AOa P w0 call dg)(hfn:∀vargs H n k,call dg vargs H n k->APv P dg){fn:Func}{tmps:Array Value}{R:Ending->World->Prop}(k:Heap->Nat->Prop){ρ0:Loc}{H0:Heap}{n0:Nat}:
 ∀(l:List V) (ds:List Deferred) (ρ:Loc) (H:Heap) (n:Nat) (w:World),DL ρ l ds->D8 w0 ρ H n w->Ij ρ0 H0 n0 ρ H n->Oe dg l call H n k->
  (∀ρ' H' n' w',k H' n'->D8 w0 ρ' H' n' w'->ρ.le ρ'->Ij ρ0 H0 n0 ρ' H' n'->Leaves P fn tmps R [] .returning w')->Leaves P fn tmps R ds .returning w
 |[],ds,ρ,H,n,w,hd,hh,hgu,hex,hk=>by
  have:ds=[]:=hd
  subst this
  exact hk ρ H n w hex hh (Loc.le.refl _) hgu
 |v::l,ds,ρ,H,n,w,hd,hh,hgu,hex,hk=>by
  obtain⟨d,ds',rfl,⟨f,fa,ca,fa',ca',rfl,rfl,hfa,hca⟩,hd'⟩:=hd
  have hex':EJ (Nat.beq f dg) (call f (cat fa ca) H n λ_ H n=>Oe dg l call H n k):=hex
  rw[Fp]at hex'
  obtain⟨hf,hcall⟩:=hex'
  have hf':f=dg:=Nat.eq_of_beq_eq_true hf
  subst hf'
  have hrun:(invoke (.fn (.func f) ca') fa').run P w=.ok (.enter f (fa'++ca')) w:=by
   simpa[invoke]using jA (hfn _ _ _ _ hcall) (fa'++ca') w
  refine leaves_cons (by simp) hrun ?_
  rw[AJA]at hcall
  refine(hc _ H n _ hcall ρ w (fa'++ca') hh (by simpa using hfa.append hca)).mono ?_
  rintro e u' w' ⟨rfl,u,v,H',n',ρ',rfl,hex2,hv,hh',hg'⟩
  simp only[settle]
  exact AK5 hc hfn k l ds' ρ' H' n' w' (hd'.mono hg'.le) hh' (hgu.trans hg') hex2 fun ρ'' H'' n'' w'' h1 h2 h3 h4=>hk ρ'' H'' n'' w'' h1 h2 (hg'.le.trans h3) h4
theorem ARj(hF:AFF P F)(hg:Vg w0 G):∀fuel,dw P w0 (run F G lf fuel)/\∀f af,T.get F f=some af->af.dp=.no->AOa P w0 (run F G lf fuel) f
 |0=>⟨λ_ _ _ _ _ h=>(show False from h).elim,λ_ _ _ _ _ _ _ _ h=>(show False from h).elim⟩
 |fuel+1=>by
  obtain⟨ihc,ihd⟩:=ARj hF hg fuel
  have main:∀(f:Nat) (vargs:List V) (H:Heap) (n:Nat) (k:KV),run F G lf (fuel+1) f vargs H n k->(∀nk,T.get F f≠some (.nat nk))->APv P f/\∃af fn c,T.get F f=some af/\P.funcs[f]? =some fn/\fn.body=some c/\
   ∀(ρ:Loc) (w:World) (args:Array Value),D8 w0 ρ H n w->CV ρ vargs args.toList->
    (c.wp P (bodyPostD P fn (Ret w0 ρ H n k)) {tmps:=args++Array.replicate (fn.ntmps-args.size) undef,defers:=[]} w)/\
    (af.dp=.no->c.wp P (bodyPost P fn (Ret w0 ρ H n k)) {tmps:=args++Array.replicate (fn.ntmps-args.size) undef,defers:=[]} w):=by
   intro f vargs H n k h hnn
   have h':EN (T.get F f) λaf=>lQ af G (run F G lf fuel) lf vargs H n k:=h
   rw[Jy]at h'
   obtain⟨af,haf,h'⟩:=h'
   have hnf:af.isNat=false:=by
    cases af with
    |mk=>rfl
    |nat nk=>exact absurd haf (hnn nk)
   obtain⟨fn,loc,df,ords,hfn,hname,htr⟩:=hF.fns f af haf hnf
   unfold trF at htr
   split at htr
   ·rename_i c hb
    obtain⟨ac,hac,htr⟩:=AL.1 htr
    obtain⟨rs,hrs,htr⟩:=AL.1 htr
    split at htr
    ·rename_i hchk
     simp only[Bool.and_eq_true]at hchk
     have hle:fn.params.size+fn.nfree<=fn.ntmps:=Nat.le_of_ble_eq_true hchk.1
     have hloc:=ADC hchk.2
     have haf':=Option.some.inj htr
     refine⟨⟨fn,hfn,by rw[hb];rfl,hname⟩,af,fn,c,haf,hfn,hb,?_⟩
     intro ρ w args hh hrel
     rw[<-haf']at h'
     have h2:EJ (Nat.beq (len vargs) (fn.params.size+fn.nfree)) (ac.ex G (run F G lf fuel) lf (eU vargs 0 .e) H n
      (Jq rs af.dg (AXu fn.ntmps df) G (run F G lf fuel) k) noX (Jq rs af.dg (AXu fn.ntmps df) G (run F G lf fuel) k)):=h'
     rw[Fp]at h2
     obtain⟨hlen,hex⟩:=h2
     have hlen':vargs.length=fn.params.size+fn.nfree:=by simpa using Nat.eq_of_beq_eq_true hlen
     have hsz:args.size=fn.params.size+fn.nfree:=by rw[<-hlen',hrel.length];simp
     have hstart:Fr w0 ⟨loc,fn.ntmps,df⟩ ρ H n (eU vargs 0 .e) H n {tmps:=args++Array.replicate (fn.ntmps-args.size) undef,defers:=[]} w:=
      ⟨ρ,hh,ASV (C:=⟨loc,fn.ntmps,df⟩) hrel (by show args.size<=fn.ntmps;omega) (λi hi=>hloc i (by omega)),Ij.refl _ _ _⟩
     have hfin:∀R' H' n' a' w',(∃l,ADa rs G R' H'=some l/\k (EG l) H' n')->∀ρ',D8 w0 ρ' H' n' w'->Rg ⟨loc,fn.ntmps,df⟩ ρ' R' a'->Ij ρ H n ρ' H' n'->
      ∃v,(results fn a'.tmps).run P w'=.ok v w'/\Ret w0 ρ H n k (.returned v) w':=by
      rintro R' H' n' a' w' ⟨l,hl,hk⟩ ρ' hh' hr' hgu'
      obtain⟨u,hu,hvr⟩:=ALF (P:=P) hg hh' hr' hrs hl
      exact⟨u,hu,u,_,_,_,_,rfl,hk,hvr,hh',hgu'⟩
     cases df with
     |false=>
      have hend:∀R' H' n' a' w',Jq rs af.dg .no G (run F G lf fuel) k R' H' n'->Fr w0 ⟨loc,fn.ntmps,false⟩ ρ H n R' H' n' a' w'->
       a'.defers=[]/\∃v,(results fn a'.tmps).run P w'=.ok v w'/\Ret w0 ρ H n k (.returned v) w':=by
       rintro R' H' n' a' w' hx ⟨ρ',hh',hr',hgu'⟩
       have hx':EN (ADa rs G R' H') λl=>k (EG l) H' n':=hx
       rw[Jy]at hx'
       exact⟨by simpa using hr'.dfs,hfin R' H' n' a' w' hx' ρ' hh' hr' hgu'⟩
      refine⟨?_,λ_=>?_⟩
      ·refine AAB hF.mixed ihc hg c ac hac _ _ _ _ _ _ _ _ _ ?_ ?_ ?_ hex hstart
       ·intro R' H' n' a' w' hx hf
        obtain⟨hd,hv⟩:=hend R' H' n' a' w' hx hf
        show Leaves P fn a'.tmps _ a'.defers .returning w'
        rw[hd];exact hv
       ·intro i R' H' n' a' w' hx hf;exact(show False from hx).elim
       ·intro R' H' n' a' w' hx hf
        obtain⟨hd,hv⟩:=hend R' H' n' a' w' hx hf
        show Leaves P fn a'.tmps _ a'.defers .returning w'
        rw[hd];exact hv
      ·refine AAB hF.mixed ihc hg c ac hac _ _ _ _ _ _ _ _ _ ?_ ?_ ?_ hex hstart
       ·intro R' H' n' a' w' hx hf;exact hend R' H' n' a' w' hx hf
       ·intro i R' H' n' a' w' hx hf;exact(show False from hx).elim
       ·intro R' H' n' a' w' hx hf;exact hend R' H' n' a' w' hx hf
     |true=>
      have hdp:af.dp=.to (PN fn.ntmps):=by rw[<-haf'];rfl
      have hend:∀R' H' n' a' w',Jq rs af.dg (.to (PN fn.ntmps)) G (run F G lf fuel) k R' H' n'->Fr w0 ⟨loc,fn.ntmps,true⟩ ρ H n R' H' n' a' w'->
       Leaves P fn a'.tmps (Ret w0 ρ H n k) a'.defers .returning w':=by
       rintro R' H' n' a' w' hx ⟨ρ',hh',hr',hgu'⟩
       have hx':Oe af.dg (xC (Nh (T.ED (PN fn.ntmps) R'))) (run F G lf fuel) H' n' (λH n=>AGr rs G k R' H n):=hx
       have hd:=hr'.dfs
       simp only[if_true]at hd
       have hlast:∀ρ'' H'' n'' w'',AGr rs G k R' H'' n''->D8 w0 ρ'' H'' n'' w''->ρ'.le ρ''->Ij ρ H n ρ'' H'' n''->Leaves P fn a'.tmps (Ret w0 ρ H n k) [] .returning w'':=by
        intro ρ'' H'' n'' w'' hx2 hh'' hle hgu''
        have hx3:EN (ADa rs G R' H'') λl=>k (EG l) H'' n'':=hx2
        rw[Jy]at hx3
        exact hfin R' H'' n'' a' w'' hx3 ρ'' hh'' (hr'.mono hle) hgu''
       cases hl:xC (Nh (T.ED (PN fn.ntmps) R'))with
       |nil=>
        rw[hl]at hd hx'
        have:a'.defers=[]:=hd
        rw[this]
        exact hlast ρ' H' n' w' hx' hh' (Loc.le.refl _) hgu'
       |cons v l=>
        rw[hl]at hd hx'
        obtain⟨d,ds',he,⟨f',fa,ca,fa',ca',rfl,_,_,_⟩,_⟩:=hd
        have hx4:EJ (Nat.beq f' af.dg) (run F G lf fuel f' (cat fa ca) H' n' λ_ H n=>Oe af.dg l (run F G lf fuel) H n (λH n=>AGr rs G k R' H n)):=hx'
        rw[Fp]at hx4
        obtain⟨hf',hcall⟩:=hx4
        have hf2:f'=af.dg:=Nat.eq_of_beq_eq_true hf'
        have hget:∃af',T.get F af.dg=some af':=by
         cases fuel with
         |zero=>exact(show False from hcall).elim
         |succ m=>
          have:EN (T.get F f') λaf=>lQ af G (run F G lf m) lf (cat fa ca) H' n' (λ_ H n=>Oe af.dg l (run F G lf (m+1)) H n (λH n=>AGr rs G k R' H n))∨True:=by
           have h5:EN (T.get F f') λaf1=>lQ af1 G (run F G lf m) lf (cat fa ca) H' n' (λ_ H n=>Oe af.dg l (run F G lf (m+1)) H n (λH n=>AGr rs G k R' H n)):=hcall
           rw[Jy]at h5⊢
           obtain⟨x,hx,_⟩:=h5
           exact⟨x,hx,.inr trivial⟩
          rw[Jy]at this
          obtain⟨x,hx,_⟩:=this
          exact⟨x,by rw[<-hf2];exact hx⟩
        obtain⟨af',haf2⟩:=hget
        have hno:=hF.dgs f af af' haf hnf (by rw[hdp];simp) haf2
        refine AK5 (ihd af.dg af' haf2 hno) (λva H n k h=>(ihc af.dg va H n k h).1) _ (.fn f' fa ca::l) a'.defers ρ' H' n' w' ?_ hh' hgu' hx' hlast
        have:=hr'.dfs
        simp only[if_true]at this
        rw[hl]at this
        exact this
      refine⟨?_,λhno=>by rw[hdp]at hno;cases hno⟩
      refine AAB hF.mixed ihc hg c ac hac _ _ _ _ _ _ _ _ _ ?_ ?_ ?_ hex hstart
      ·intro R' H' n' a' w' hx hf;exact hend R' H' n' a' w' hx hf
      ·intro i R' H' n' a' w' hx hf;exact(show False from hx).elim
      ·intro R' H' n' a' w' hx hf;exact hend R' H' n' a' w' hx hf
    ·cases htr
   ·cases htr
  refine⟨?_,?_⟩
  ·intro f vargs H n k h
   by_cases hnn:∃nk,T.get F f=some (.nat nk)
   ·obtain⟨nk,hnk⟩:=hnn
    have h':EN (T.get F f) λaf=>lQ af G (run F G lf fuel) lf vargs H n k:=h
    rw[hnk]at h'
    have h':AAF nk G vargs H n k:=h'
    exact⟨(hF.AYz f nk hnk).1,fun ρ w args hh hrel=>(hF.AYz f nk hnk).2 w0 G hg vargs H n k h' ρ w args hh hrel⟩
   obtain⟨hfn,af,fn,c,haf,hf,hb,hwp⟩:=main f vargs H n k h λnk hk=>hnn ⟨nk,hk⟩
   refine⟨hfn,fun ρ w args hh hrel=>?_⟩
   exact calls_of_wp_defers hf hb (hwp ρ w args hh hrel).1
  ·intro f af haf hno vargs H n k h ρ w args hh hrel
   obtain⟨hfn,af2,fn,c,haf2,hf,hb,hwp⟩:=main f vargs H n k h λnk hk=>by rw[haf]at hk;cases hk;cases hno
   have:af2=af:=Option.some.inj (haf2.symm.trans haf)
   subst this
   exact callsD_of_wp hf hb ((hwp ρ w args hh hrel).2 hno)
end
variable{S S':Type}
def Yu(t:(S->Prop)->Prop):Prop:=∃o:Option S,∀k,t k↔∃s,o=some s/\k s
theorem JW(s:S):Yu (λk:S->Prop=>k s):=⟨some s,λk=>by simp⟩
theorem IW:Yu (λ_:S->Prop=>False):=⟨none,λk=>by simp⟩
theorem Kt{α:Type}(o:Option α){f:α->(S->Prop)->Prop}(h:∀x,Yu (f x)):Yu (λk=>EN o λx=>f x k):=by
 cases o with
 |none=>exact IW
 |some x=>exact h x
theorem AIX(o:Option V){f:V->(S->Prop)->Prop}(h:∀x,Yu (f x)):Yu (λk=>AP o λx=>f x k):=by
 cases o with
 |none=>exact IW
 |some x=>exact h x
theorem Hz(b:Bool){t:(S->Prop)->Prop}(h:Yu t):Yu (λk=>EJ b (t k)):=by
 cases b with
 |false=>exact IW
 |true=>exact h
theorem aW(n:Nat){f:Nat->(S->Prop)->Prop}(h:∀x,Yu (f x)):Yu (λk=>DU n λn=>f n k):=by
 have:=h n
 have e:(λk:S->Prop=>DU n λn=>f n k)=f n:=by funext k;rw[BL]
 rw[e];exact this
theorem AUI(v:V)(b:Bool){y m:(S->Prop)->Prop}(hy:Yu y)(hm:Yu m):Yu (λk=>Ac v b (y k) (m k)):=by
 cases v<;>try exact IW
 rename_i t
 cases t<;>cases b<;>first|exact hy|exact hm
theorem AOJ(v:V)(b:Bool){y m:(S->Prop)->Prop}(hy:Yu y)(hm:Yu m):Yu (λk=>nM v b (y k) (m k)):=by
 cases v<;>try exact IW
 ·rename_i t
  cases t<;>cases b<;>first|exact hy|exact hm
 ·rename_i l
  cases l
  ·exact hm
  ·exact IW
theorem AM5(v:V){f:Nat->LV->LV->(S->Prop)->Prop}(h:∀g a c,Yu (f g a c)):Yu (λk=>V.WB v λg a c=>f g a c k):=by
 cases v<;>try exact IW
 exact h _ _ _
theorem PE{t:(S->Prop)->Prop}{u:S->(S'->Prop)->Prop}(ht:Yu t)(hu:∀s,Yu (u s)):Yu (λk=>t λs=>u s k):=by
 obtain⟨o,ho⟩:=ht
 cases o with
 |none=>exact⟨none,λk=>by show t (λs=>u s k)↔_;rw[ho];simp⟩
 |some s=>
  obtain⟨o',ho'⟩:=hu s
  exact⟨o',λk=>by show t (λs=>u s k)↔_;rw[ho];simp[ho']⟩
theorem Yu.mono{t:(S->Prop)->Prop}(h:Yu t){k k':S->Prop}(hk:∀s,k s->k' s)(ht:t k):t k':=by
 obtain⟨o,ho⟩:=h
 obtain⟨s,hs,h1⟩:=(ho k).1 ht
 exact(ho k').2 ⟨s,hs,hk s h1⟩
theorem Yu.at{t:(S->Prop)->Prop}(h:Yu t){k:S->Prop}(ht:t k):∃s,k s/\∀k',k' s->t k':=by
 obtain⟨o,ho⟩:=h
 obtain⟨s,hs,h1⟩:=(ho k).1 ht
 exact⟨s,h1,λk' hk'=>(ho k').2 ⟨s,hs,hk'⟩⟩
abbrev St:=V×Heap×Nat
def D3(t:KV->Prop):Prop:=Yu λk:St->Prop=>t λv H n=>k (v,H,n)
theorem QA(v:V)(H:Heap)(n:Nat):D3 λk=>k v H n:=JW (S:=St) (v,H,n)
def Gn(call:BD):Prop:=∀f a H n,D3 (call f a H n)
theorem zu(esz bs:Nat)(OS LS:CJ)(H:Heap)(n:Nat):D3 (Gv esz bs OS LS H n):=aW _ λ_=>Hz _ (aW _ λ_=>QA _ _ _)
theorem ALG(id off ln esz bs:Nat)(LS:CJ)(H:Heap)(n:Nat)(b:Qc):D3 λk=>Yx id off ln esz bs LS H n k b:=by
 cases b with
 |arr e' cnt c=>
  cases off with
  |zero=>
   have e:∀k,Yx id 0 ln esz bs LS H n k (.arr e' cnt c)=EJ (band (Lm (Nat.add ln (len LS)) bs) (band (Nat.beq esz e') (Nat.ble (Nat.add 0 ln) cnt))) (k (.G6 n 0 (Nat.add ln (len LS)) esz) (T.set (T.set H id .dead) n (.arr esz (Nat.add ln (len LS)) (Ew LS ln c))) (Nat.succ n)):=by
    intro k
    show DU _ _=_
    simp only[BL]
    try rfl
   simp only[e]
   exact Hz _ (QA _ _ _)
  |succ off=>
   have e:∀k,Yx id (off+1) ln esz bs LS H n k (.arr e' cnt c)=EJ (band (Lm (Nat.add ln (len LS)) bs) (band (Nat.beq esz e') (Nat.ble (Nat.add (off+1) ln) cnt))) (EN (BZ H id esz ln (off+1)) λOS=>k (.G6 n 0 (Nat.add ln (len LS)) esz) (T.set (T.set H id .dead) n (.arr esz (Nat.add ln (len LS)) (Ew LS ln (Ew OS 0 .e)))) (Nat.succ n)):=by
    intro k
    show DU _ _=_
    simp only[BL]
    try rfl
   simp only[e]
   exact Hz _ (Kt _ λ_=>QA _ _ _)
 |map=>exact IW
 |dead=>exact IW
 |iZ=>exact IW
 |own=>exact IW
theorem ASH(v:V)(G:AV)(esz bs:Nat)(LS:CJ)(H:Heap)(n:Nat):D3 (AGA v G esz bs LS H n):=by
 cases v<;>try exact IW
 case Af=>
  cases LS with
  |nil=>exact QA _ _ _
  |cons x xs=>exact(show D3 (λk=>Gv esz bs [] (x::xs) H n k)from zu esz bs [] (x::xs) H n)
 case sl id off ln cap e=>
  refine Hz _ (aW _ λneed=>?_)
  cases h:Nat.ble need cap with
  |false=>exact Kt _ λ_=>zu _ _ _ _ _ _
  |true=>
   refine Kt _ λb=>?_
   cases b with
   |arr e' cnt c=>exact Hz _ (QA _ _ _)
   |map=>exact IW
   |dead=>exact IW
   |iZ=>exact IW
   |own=>exact IW
 case G6 id off ln e=>
  refine Hz _ ?_
  cases LS with
  |nil=>exact QA _ _ _
  |cons=>
   exact Kt _ λb=>ALG _ _ _ _ _ _ _ _ b
 case rsl=>exact Hz _ (Kt _ λ_=>zu _ _ _ _ _ _)
theorem AQC(v:V)(esz:Nat)(LS:CJ)(H:Heap)(n:Nat):D3 (AKY v esz LS H n):=by
 have hto:∀a b c,D3 (AFI a b c esz LS H n):=λa b c=>by
  refine Kt _ λb=>?_
  cases b with
  |arr e' cnt c=>exact Hz _ (aW _ λ_=>QA _ _ _)
  |map=>exact IW
  |dead=>exact IW
  |iZ=>exact IW
  |own=>exact IW
 cases v<;>try exact IW
 case Af=>exact QA _ _ _
 case sl=>exact Hz _ (hto _ _ _)
 case G6=>exact Hz _ (hto _ _ _)
theorem AFH(m:V)(H:Heap)(f:ME->Nat->Option Qc)(v:V)(n:Nat):D3 λk=>AGx m H f λH=>k v H n:=by
 cases m<;>try exact IW
 exact Kt _ λ_=>Kt _ λ_=>QA _ _ _
theorem AKy(v:V){f:Nat->Nat->(S->Prop)->Prop}(h:∀a b,Yu (f a b)):Yu (λk=>V.ABm v λa b=>f a b k):=by
 cases v<;>try exact IW
 exact h _ _
theorem AE8(v:V){f:Nat->(S->Prop)->Prop}(h:∀a,Yu (f a)):Yu (λk=>V.ATU v λa=>f a k):=by
 cases v<;>try exact IW
 exact h _
theorem AR2{call:BD}(hc:Gn call)(o:AE)(G:AV)(E:RS)(H:Heap)(n:Nat):D3 (o.ex G call E H n):=by
 cases o with
 |asg x=>exact QA _ _ _
 |st sz x v=>exact Hz _ (Kt _ λ_=>QA _ _ _)
 |app esz bs x y=>exact Kt _ λ_=>ASH _ _ _ _ _ _ _
 |copy esz x y=>exact Kt _ λ_=>AQC _ _ _ _ _
 |AM7 c m k v=>exact AFH _ _ _ _ _
 |del c m k=>exact AFH _ _ _ _ _
 |Aac m=>exact AFH _ _ _ _ _
 |call f a=>exact hc _ _ _ _
 |AOl x a=>exact AM5 _ λ_ _ _=>hc _ _ _ _
 |defer dp x a=>exact AM5 _ λ_ _ _=>QA _ _ _
 |cvB x=>exact Kt _ λ_=>AKy _ λ_ _=>aW _ λ_=>QA _ _ _
abbrev Sa:=Qc×(Nat->V)
def DA(t:KA->Prop):Prop:=Yu λk:Sa->Prop=>t λb f=>k (b,f)
theorem ACN(b:Qc)(f:Nat->V):DA λk=>k b f:=JW (S:=Sa) (b,f)
theorem AXq(o:AA)(E:RS):DA (o.al E):=by
 cases o with
 |alloc e es=>exact aW _ λ_=>ACN _ _
 |box x=>exact Hz _ (aW _ λ_=>ACN _ _)
 |AIS=>exact Hz _ (ACN _ _)
 |AEV=>exact Kt _ λ_=>AE8 _ λ_=>Kt _ λ_=>AE8 _ λ_=>Hz _ (ACN _ _)
 |ASc=>exact ACN _ _
 |iZ=>exact ACN _ _
abbrev Se:=RS×Heap×Nat
def DE(t:KE->Prop):Prop:=Yu λk:Se->Prop=>t λE H n=>k (E,H,n)
theorem AIe(E:RS)(H:Heap)(n:Nat):DE λk=>k E H n:=JW (S:=Se) (E,H,n)
theorem ANU{call:BD}(hc:Gn call)(o:AO)(G:AV)(d:sW)(E:RS)(H:Heap)(n:Nat):DE (o.ex G call d E H n):=by
 cases o with
 |n o=>exact AIX _ λ_=>AIe _ _ _
 |a o=>exact PE (u:=λs k=>DU n λn=>k (GR d (s.2 n) E,T.set H n s.1,Nat.succ n)) (AXq o E) λs=>aW _ λ_=>JW _
 |e o=>exact PE (u:=λs k=>k (GR d s.1 E,s.2.1,s.2.2)) (AR2 hc o G E H n) λs=>JW _
theorem AJK{call:BD}(hc:Gn call)(o:AOp)(G:AV)(E:RS)(H:Heap)(n:Nat):DE (o.ex G call E H n):=by
 obtain⟨d,g,o⟩:=o
 cases g with
 |no=>exact ANU hc o G d E H n
 |on x b=>exact AOJ _ _ (ANU hc o G d E H n) (AIe _ _ _)
theorem AXT(g:Gd)(G:AV)(E:RS)(H:Heap)(d:P2)(o:AN){t:(S->Prop)->Prop}(h:Yu t):Yu λk=>AY1 g G E H d o (t k):=by
 cases g with
 |no=>exact AIX _ λ_=>Hz _ h
 |on x b=>exact AOJ _ _ (AIX _ λ_=>Hz _ h) h
theorem ANf{call:BD}(hc:Gn call)(i:AI)(G:AV)(E:RS)(H:Heap)(n:Nat):DE (i.ex G call E H n):=by
 cases i with
 |op o=>exact AJK hc o G E H n
 |re d g o=>exact AXT g G E H d o (JW _)
theorem AJy{call:BD}(hc:Gn call)(G:AV):∀(l:List AOp) (E:RS) (H:Heap) (n:Nat),DE (Qi l G call E H n)
 |[],E,H,n=>AIe _ _ _
 |o::l,E,H,n=>PE (u:=λ(s:Se) (k:Se->Prop)=>Qi l G call s.1 s.2.1 s.2.2 λE H n=>k (E,H,n)) (AJK hc o G E H n) λs=>AJy hc G l s.1 s.2.1 s.2.2
theorem ACh{call:BD}(hc:Gn call)(G:AV):∀(l:List AI) (E:RS) (H:Heap) (n:Nat),DE (CU l G call E H n)
 |[],E,H,n=>AIe _ _ _
 |o::l,E,H,n=>PE (u:=λ(s:Se) (k:Se->Prop)=>CU l G call s.1 s.2.1 s.2.2 λE H n=>k (E,H,n)) (ANf hc o G E H n) λs=>ACh hc G l s.1 s.2.1 s.2.2
inductive Out where
 |nrm (R:Je) (H:Heap) (n:Nat)|ext (i:Nat) (R:Je) (H:Heap) (n:Nat)|ret (R:Je) (H:Heap) (n:Nat)
def Out.on(k:K)(x:KX)(r:K):Out->Prop
 |.nrm R H n=>k R H n|.ext i R H n=>x i R H n|.ret R H n=>r R H n
def DC(t:K->KX->K->Prop):Prop:=Yu λp:Out->Prop=>t (λR H n=>p (.nrm R H n)) (λi R H n=>p (.ext i R H n)) (λR H n=>p (.ret R H n))
theorem DC.mono{t:K->KX->K->Prop}(h:DC t){k k':K}{x x':KX}{r r':K}(hk:∀R H n,k R H n->k' R H n)(hx:∀i R H n,x i R H n->x' i R H n)(hr:∀R H n,r R H n->r' R H n)(ht:t k x r):t k' x' r':=
 Yu.mono h (k:=Out.on k x r) (k':=Out.on k' x' r') (λs=>by cases s;exact hk _ _ _;exact hx _ _ _ _;exact hr _ _ _) ht
theorem AHP{a:M}{G:AV}{call:BD}{lf0:Nat}(ha:∀R H n,DC (a G call lf0 R H n)):∀(m:Nat) (R:Je) (H:Heap) (n:Nat),DC λ_ x r=>Xa a G call lf0 m R H n x r
 |0,_,_,_=>IW
 |m+1,R,H,n=>PE (u:=λ(s:Out) (p:Out->Prop)=>match s with
  |.nrm R H n=>Xa a G call lf0 m R H n (λi R H n=>p (.ext i R H n)) (λR H n=>p (.ret R H n))
  |.ext i R H n=>p (.ext i R H n)
  |.ret R H n=>p (.ret R H n)) (ha R H n) λs=>by
   cases s with
   |nrm R H n=>exact AHP ha m R H n
   |ext i R H n=>exact JW _
   |ret R H n=>exact JW _
theorem Zh{call:BD}(hc:Gn call)(G:AV)(lf:Nat):∀(c:AC) (R:Je) (H:Heap) (n:Nat),DC (c.ex G call lf R H n)
 |.skip,R,H,n=>JW (Out.nrm R H n)
 |.ops l,R,H,n=>PE (u:=λ(s:Se) (p:Out->Prop)=>p (.nrm s.1.rg s.2.1 s.2.2)) (AJy hc G l (.mk [] R) H n) λs=>JW _
 |.reg l,R,H,n=>PE (u:=λ(s:Se) (p:Out->Prop)=>p (.nrm s.1.rg s.2.1 s.2.2)) (ACh hc G l (.mk [] R) H n) λs=>JW _
 |.seq a b,R,H,n=>PE (u:=λ(s:Out) (p:Out->Prop)=>match s with
  |.nrm R H n=>b.ex G call lf R H n (λR H n=>p (.nrm R H n)) (λi R H n=>p (.ext i R H n)) (λR H n=>p (.ret R H n))
  |.ext i R H n=>p (.ext i R H n)
  |.ret R H n=>p (.ret R H n)) (Zh hc G lf a R H n) λs=>by
   cases s with
   |nrm R H n=>exact Zh hc G lf b R H n
   |ext i R H n=>exact JW _
   |ret R H n=>exact JW _
 |.cond x a b,R,H,n=>AUI _ _ (Zh hc G lf a R H n) (Zh hc G lf b R H n)
 |.block id a,R,H,n=>PE (u:=λ(s:Out) (p:Out->Prop)=>match s with
  |.nrm R H n=>p (.nrm R H n)
  |.ext i R H n=>IQ id (λR H n=>p (.nrm R H n)) (λi R H n=>p (.ext i R H n)) i R H n
  |.ret R H n=>p (.ret R H n)) (Zh hc G lf a R H n) λs=>by
   cases s with
   |nrm R H n=>exact JW _
   |ext i R H n=>
    cases hb:Nat.beq i id with
    |true=>
     have e:(λp:Out->Prop=>IQ id (λR H n=>p (.nrm R H n)) (λi R H n=>p (.ext i R H n)) i R H n)=λp=>p (.nrm R H n):=by
      funext p;unfold IQ;rw[hb]
     simp only[e];exact JW _
    |false=>
     have e:(λp:Out->Prop=>IQ id (λR H n=>p (.nrm R H n)) (λi R H n=>p (.ext i R H n)) i R H n)=λp=>p (.ext i R H n):=by
      funext p;unfold IQ;rw[hb]
     simp only[e];exact JW _
   |ret R H n=>exact JW _
 |.loop a,R,H,n=>AHP (λR H n=>Zh hc G lf a R H n) lf R H n
 |.exit id,R,H,n=>JW (Out.ext id R H n)
 |.ret,R,H,n=>JW (Out.ret R H n)
theorem AHl{call:BD}(hc:Gn call)(dg:Nat):∀(l:List V) (H:Heap) (n:Nat),Yu λp:Heap×Nat->Prop=>Oe dg l call H n λH n=>p (H,n)
 |[],H,n=>JW (H,n)
 |v::l,H,n=>AM5 v λf a c=>Hz _ (PE (u:=λ(s:St) (p:Heap×Nat->Prop)=>Oe dg l call s.2.1 s.2.2 λH n=>p (H,n)) (hc _ _ _ _) λs=>AHl hc dg l _ _)
theorem AGV(res:List AR)(G:AV)(R:Je)(H:Heap)(n:Nat):D3 λk=>AGr res G k R H n:=Kt _ λ_=>QA _ _ _
theorem AHA{call:BD}(hc:Gn call)(res:List AR)(dg:Nat)(d:sW)(G:AV)(R:Je)(H:Heap)(n:Nat):D3 λk=>Jq res dg d G call k R H n:=by
 cases d with
 |no=>exact AGV res G R H n
 |to p=>exact PE (u:=λ(s:Heap×Nat) (k:St->Prop)=>AGr res G (λv H n=>k (v,H,n)) R s.1 s.2) (AHl hc dg _ H n) λs=>AGV res G R _ _
 |ps=>exact AGV res G R H n
theorem ANQ(f:Nk)(G:AV)(args:List V)(H:Heap)(n:Nat):D3 (AAF f G args H n):=by
 have no:D3 (λ_:KV=>False):=IW
 unfold AAF
 split
 ·unfold APO
  split
  ·exact Hz _ (Kt _ λ_=>Kt _ λ_=>Hz _ (QA _ _ _))
  ·exact no
 ·unfold ASj
  split
  ·exact Hz _ (QA _ _ _)
  ·exact no
 ·unfold AO7
  split
  ·split
   ·exact Hz _ (QA _ _ _)
   ·exact no
  ·exact no
 ·unfold AOe
  split
  ·split
   ·exact Hz _ (QA _ _ _)
   ·exact no
  ·exact no
 ·exact no
theorem AQD{call:BD}(hc:Gn call)(G:AV)(lf:Nat)(f:AF)(args:List V)(H:Heap)(n:Nat):D3 (lQ f G call lf args H n):=by
 cases f with
 |nat f=>exact ANQ f G args H n
 |mk np code res d dg=>
 refine Hz _ (PE (u:=λ(s:Out) (k:St->Prop)=>match s with
  |.nrm R H n=>Jq res dg d G call (λv H n=>k (v,H,n)) R H n
  |.ext _ _ _ _=>False
  |.ret R H n=>Jq res dg d G call (λv H n=>k (v,H,n)) R H n) (Zh hc G lf code _ H n) λs=>?_)
 cases s with
 |nrm R H n=>exact AHA hc res dg d G R H n
 |ext i R H n=>exact IW
 |ret R H n=>exact AHA hc res dg d G R H n
theorem U9(F:T AF)(G:AV)(lf:Nat):∀fuel,Gn (run F G lf fuel)
 |0=>λ_ _ _ _=>IW
 |m+1=>λf a H n=>Kt _ λaf=>AQD (U9 F G lf m) G lf af a H n
def TW(call call':BD):Prop:=∀f a H n k,call f a H n k->call' f a H n k
section
variable{call call':BD}
theorem AaI(hle:TW call call')(o:AE)(G:AV)(E:RS)(H:Heap)(n:Nat)(k:KV)(h:o.ex G call E H n k):o.ex G call' E H n k:=by
 cases o with
 |call f a=>exact hle _ _ _ _ _ h
 |AOl x a=>
  have h':V.WB (x.ev E) (λf a' c=>call f (cat a' (cat (eP a E) c)) H n k):=h
  show V.WB (x.ev E) (λf a' c=>call' f (cat a' (cat (eP a E) c)) H n k)
  rw[Tj]at h'⊢
  obtain⟨g,fa,ca,he,h'⟩:=h'
  exact⟨g,fa,ca,he,hle _ _ _ _ _ h'⟩
 |_=>exact h
theorem AWg(hle:TW call call')(o:AO)(G:AV)(d:sW)(E:RS)(H:Heap)(n:Nat)(k:KE)(h:o.ex G call d E H n k):o.ex G call' d E H n k:=by
 cases o with
 |n o=>exact h
 |a o=>exact h
 |e o=>exact AaI hle o G E H n _ h
theorem ASq(hle:TW call call')(o:AOp)(G:AV)(E:RS)(H:Heap)(n:Nat)(k:KE)(h:o.ex G call E H n k):o.ex G call' E H n k:=by
 obtain⟨d,g,o⟩:=o
 cases g with
 |no=>exact AWg hle o G d E H n k h
 |on x b=>
  have h':nM (x.ev E) b (o.ex G call d E H n k) (k (GR d (.EI []) E) H n):=h
  show nM (x.ev E) b (o.ex G call' d E H n k) (k (GR d (.EI []) E) H n)
  rw[Wu]at h'⊢
  obtain⟨t,ht,h'⟩:=h'
  refine⟨t,ht,?_⟩
  split
  ·rename_i e;rw[if_pos e]at h';exact AWg hle o G d E H n k h'
  ·rename_i e;rw[if_neg e]at h';exact h'
theorem AaQ(hle:TW call call')(i:AI)(G:AV)(E:RS)(H:Heap)(n:Nat)(k:KE)(h:i.ex G call E H n k):i.ex G call' E H n k:=by
 cases i with
 |op o=>exact ASq hle o G E H n k h
 |re d g o=>exact h
theorem AMR(hd:Gn call')(hle:TW call call')(G:AV):∀(l:List AOp) (E:RS) (H:Heap) (n:Nat) (k:KE),Qi l G call E H n k->Qi l G call' E H n k
 |[],_,_,_,_,h=>h
 |o::l,E,H,n,k,h=>
  Yu.mono (AJK hd o G E H n) (k:=λs=>Qi l G call s.1 s.2.1 s.2.2 k) (k':=λs=>Qi l G call' s.1 s.2.1 s.2.2 k) (λs hs=>AMR hd hle G l _ _ _ _ hs)
   (ASq hle o G E H n (λE H n=>Qi l G call E H n k) h)
theorem AGC(hd:Gn call')(hle:TW call call')(G:AV):∀(l:List AI) (E:RS) (H:Heap) (n:Nat) (k:KE),CU l G call E H n k->CU l G call' E H n k
 |[],_,_,_,_,h=>h
 |o::l,E,H,n,k,h=>
  Yu.mono (ANf hd o G E H n) (k:=λs=>CU l G call s.1 s.2.1 s.2.2 k) (k':=λs=>CU l G call' s.1 s.2.1 s.2.2 k) (λs hs=>AGC hd hle G l _ _ _ _ hs)
   (AaQ hle o G E H n (λE H n=>CU l G call E H n k) h)
theorem ALN{a:M}{G:AV}{lf0 lf0':Nat}(hd:∀R H n,DC (a G call' lf0' R H n))(ha:∀R H n k x r,a G call lf0 R H n k x r->a G call' lf0' R H n k x r):
 ∀(m m':Nat),m<=m'->∀(R:Je) (H:Heap) (n:Nat) (x:KX) (r:K),Xa a G call lf0 m R H n x r->Xa a G call' lf0' m' R H n x r
 |0,_,_,_,_,_,_,_,h=>(show False from h).elim
 |m+1,0,hm,_,_,_,_,_,_=>by omega
 |m+1,m'+1,hm,R,H,n,x,r,h=>
  DC.mono (hd R H n) (λR H n hk=>ALN hd ha m m' (by omega) R H n x r hk) (λ_ _ _ _ hx=>hx) (λ_ _ _ hr=>hr) (ha R H n _ x r h)
theorem ADV(hd:Gn call')(hle:TW call call')(G:AV){lf lf':Nat}(hlf:lf<=lf'):∀(c:AC) (R:Je) (H:Heap) (n:Nat) (k:K) (x:KX) (r:K),c.ex G call lf R H n k x r->c.ex G call' lf' R H n k x r
 |.skip,_,_,_,_,_,_,h=>h
 |.ops l,R,H,n,k,_,_,h=>AMR hd hle G l (.mk [] R) H n (λE H n=>k E.rg H n) h
 |.reg l,R,H,n,k,_,_,h=>AGC hd hle G l (.mk [] R) H n (λE H n=>k E.rg H n) h
 |.seq a b,R,H,n,k,x,r,h=>
  DC.mono (Zh hd G lf' a R H n) (λR H n hk=>ADV hd hle G hlf b R H n k x r hk) (λ_ _ _ _ hx=>hx) (λ_ _ _ hr=>hr) (ADV hd hle G hlf a R H n _ x r h)
 |.cond c a b,R,H,n,k,x,r,h=>by
  have h':Ac (c.ev (.mk [] R)) true (a.ex G call lf R H n k x r) (b.ex G call lf R H n k x r):=h
  show Ac (c.ev (.mk [] R)) true (a.ex G call' lf' R H n k x r) (b.ex G call' lf' R H n k x r)
  rw[Y3]at h'⊢
  obtain⟨t,ht,h'⟩:=h'
  refine⟨t,ht,?_⟩
  split
  ·rename_i e;rw[if_pos e]at h';exact ADV hd hle G hlf a R H n k x r h'
  ·rename_i e;rw[if_neg e]at h';exact ADV hd hle G hlf b R H n k x r h'
 |.block id a,R,H,n,k,x,r,h=>ADV hd hle G hlf a R H n k (IQ id k x) r h
 |.loop a,R,H,n,k,x,r,h=>ALN (λR H n=>Zh hd G lf' a R H n) (λR H n k x r h=>ADV hd hle G hlf a R H n k x r h) lf lf' hlf R H n x r h
 |.exit _,_,_,_,_,_,_,h=>h
 |.ret,_,_,_,_,_,_,h=>h
theorem AKs(hd:Gn call')(hle:TW call call')(dg:Nat):∀(l:List V) (H:Heap) (n:Nat) (k:Heap->Nat->Prop),Oe dg l call H n k->Oe dg l call' H n k
 |[],_,_,_,h=>h
 |v::l,H,n,k,h=>by
  have h':V.WB v (λf a c=>EJ (Nat.beq f dg) (call f (cat a c) H n λ_ H n=>Oe dg l call H n k)):=h
  show V.WB v (λf a c=>EJ (Nat.beq f dg) (call' f (cat a c) H n λ_ H n=>Oe dg l call' H n k))
  rw[Tj]at h'⊢
  obtain⟨g,fa,ca,he,h'⟩:=h'
  rw[Fp]at h'
  refine⟨g,fa,ca,he,(Fp _ _).2 ⟨h'.1,?_⟩⟩
  exact Yu.mono (hd g (cat fa ca) H n) (k:=λs=>Oe dg l call s.2.1 s.2.2 k) (k':=λs=>Oe dg l call' s.2.1 s.2.2 k) (λs hs=>AKs hd hle dg l _ _ _ hs) (hle _ _ _ _ _ h'.2)
theorem eG(hd:Gn call')(hle:TW call call')(res:List AR)(dg:Nat)(d:sW)(G:AV)(k:KV)(R:Je)(H:Heap)(n:Nat)(h:Jq res dg d G call k R H n):Jq res dg d G call' k R H n:=by
 cases d with
 |no=>exact h
 |to p=>exact AKs hd hle dg _ H n _ h
 |ps=>exact h
theorem ATa(hd:Gn call')(hle:TW call call')(G:AV){lf lf':Nat}(hlf:lf<=lf')(f:AF)(args:List V)(H:Heap)(n:Nat)(k:KV)(h:lQ f G call lf args H n k):lQ f G call' lf' args H n k:=by
 cases f with
 |nat f=>exact h
 |mk np code res d dg=>
 have h':EJ (Nat.beq (len args) np) (code.ex G call lf (eU args 0 .e) H n (Jq res dg d G call k) noX (Jq res dg d G call k)):=h
 show EJ (Nat.beq (len args) np) (code.ex G call' lf' (eU args 0 .e) H n (Jq res dg d G call' k) noX (Jq res dg d G call' k))
 rw[Fp]at h'⊢
 refine⟨h'.1,?_⟩
 exact DC.mono (Zh hd G lf' code _ H n) (λR H n hk=>eG hd hle res dg d G k R H n hk) (λ_ _ _ _ hx=>hx) (λR H n hk=>eG hd hle res dg d G k R H n hk) (ADV hd hle G hlf code _ H n _ _ _ h'.2)
end
theorem AFz(F:T AF)(G:AV){lf lf':Nat}(hlf:lf<=lf'):∀(m m':Nat),m<=m'->TW (run F G lf m) (run F G lf' m')
 |0,_,_,_,_,_,_,_,h=>(show False from h).elim
 |m+1,0,hm,_,_,_,_,_,_=>by omega
 |m+1,m'+1,hm,f,a,H,n,k,h=>by
  have h':EN (T.get F f) λaf=>lQ af G (run F G lf m) lf a H n k:=h
  show EN (T.get F f) λaf=>lQ af G (run F G lf' m') lf' a H n k
  rw[Jy]at h'⊢
  obtain⟨af,haf,h'⟩:=h'
  exact⟨af,haf,ATa (U9 F G lf' m') (AFz F G hlf m m' (by omega)) G hlf af a H n k h'⟩
def Runs(F:T AF)(G:AV):BD:=λf a H n k=>∃N,run F G N N f a H n k
theorem APj{F:T AF}{G:AV}{f:Nat}{a:List V}{H:Heap}{n:Nat}{k k':KV}(hk:∀v H n,k v H n->k' v H n)(h:Runs F G f a H n k):Runs F G f a H n k':=by
 obtain⟨N,h⟩:=h
 exact⟨N,Yu.mono (U9 F G N N f a H n) (k:=λs=>k s.1 s.2.1 s.2.2) (k':=λs=>k' s.1 s.2.1 s.2.2) (λs hs=>hk _ _ _ hs) h⟩
theorem ABz(F:T AF)(G:AV):Gn (Runs F G):=λf a H n=>by
 by_cases h:∃N s,∀k:St->Prop,k s->run F G N N f a H n λv H n=>k (v,H,n)
 ·obtain⟨N,s,hs⟩:=h
  refine⟨some s,λk=>⟨λ⟨N',h'⟩=>?_,λ⟨s',e,hk⟩=>?_⟩⟩
  ·obtain⟨s',hk',hall⟩:=Yu.at (U9 F G N' N' f a H n) h'
   have h1:=AFz F G (Nat.le_max_left N N') N (max N N') (Nat.le_max_left _ _) f a H n _ (hs (λq=>q=s) rfl)
   have h2:=AFz F G (Nat.le_max_right N N') N' (max N N') (Nat.le_max_right _ _) f a H n _ (hall (λq=>q=s') rfl)
   obtain⟨o,ho⟩:=U9 F G (max N N') (max N N') f a H n
   obtain⟨q,hq,e1⟩:=(ho λq=>q=s).1 h1
   obtain⟨q',hq',e2⟩:=(ho λq=>q=s').1 h2
   have:q=q':=by rw[hq]at hq';exact Option.some.inj hq'
   refine⟨s,rfl,?_⟩
   have e3:s=s':=by rw[<-e1,<-e2];exact this
   rw[e3];exact hk'
  ·cases e
   exact⟨N,hs k hk⟩
 ·refine⟨none,λk=>⟨λ⟨N',h'⟩=>?_,λ⟨s',e,hk⟩=>by cases e⟩⟩
  obtain⟨s',hk',hall⟩:=Yu.at (U9 F G N' N' f a H n) h'
  exact absurd ⟨N',s',λk hk=>hall k hk⟩ h
def AWa(a:M)(G:AV)(call:BD):Je->Heap->Nat->KX->K->Prop:=λR H n x r=>∀I:K,(∀R H n,a G call 0 R H n I x r->I R H n)->I R H n
def AIj(_:AC)(a:M):M:=λG call _ R H n _ x r=>AWa a G call R H n x r
def AC.exL(c:AC):M:=AC.rec (motive:=λ_=>M) DJ AT7 AUG ARm AKo AFw AIj AQx AYC c
def ANT(f:AF):AV->BD->List V->Heap->Nat->KV->Prop:=
 AF.rec (motive:=λ_=>AV->BD->List V->Heap->Nat->KV->Prop) (λnp code res d dg G call args H n k=>EJ (Nat.beq (len args) np) (code.exL G call 0 (eU args 0 .e) H n (Jq res dg d G call k) noX (Jq res dg d G call k))) (λf G _ args H n k=>AAF f G args H n k) f
section
variable{F:T AF}{G:AV}
theorem AJV{f:Nat}{a:List V}{H:Heap}{n:Nat}{k:KV}(h:Runs F G f a H n k):∃s:St,k s.1 s.2.1 s.2.2/\∃N,∀M,N<=M->∀k':KV,k' s.1 s.2.1 s.2.2->run F G M M f a H n k':=by
 obtain⟨N,h⟩:=h
 obtain⟨s,hs,hall⟩:=Yu.at (U9 F G N N f a H n) (k:=λs=>k s.1 s.2.1 s.2.2) h
 exact⟨s,hs,N,λM hM k' hk'=>AFz F G hM N M hM f a H n k' (hall (λs=>k' s.1 s.2.1 s.2.2) hk')⟩
theorem Aav(o:AE)(E:RS)(H:Heap)(n:Nat)(k:KV)(h:o.ex G (Runs F G) E H n k):∃s:St,k s.1 s.2.1 s.2.2/\∃N,∀M,N<=M->∀k':KV,k' s.1 s.2.1 s.2.2->o.ex G (run F G M M) E H n k':=by
 cases o with
 |call f a=>exact AJV h
 |AOl x a=>
  have h':V.WB (x.ev E) (λf a' c=>Runs F G f (cat a' (cat (eP a E) c)) H n k):=h
  rw[Tj]at h'
  obtain⟨g,fa,ca,he,h'⟩:=h'
  obtain⟨s,hs,N,hN⟩:=AJV h'
  refine⟨s,hs,N,λM hM k' hk'=>?_⟩
  show V.WB (x.ev E) (λf a' c=>run F G M M f (cat a' (cat (eP a E) c)) H n k')
  rw[Tj]
  exact⟨g,fa,ca,he,hN M hM k' hk'⟩
 |_=>
  obtain⟨s,hs,hall⟩:=Yu.at (AR2 (ABz F G) _ G E H n) (k:=λs=>k s.1 s.2.1 s.2.2) h
  exact⟨s,hs,0,λM _ k' hk'=>hall (λs=>k' s.1 s.2.1 s.2.2) hk'⟩
theorem AWh(o:AO)(d:sW)(E:RS)(H:Heap)(n:Nat)(k:KE)(h:o.ex G (Runs F G) d E H n k):∃s:Se,k s.1 s.2.1 s.2.2/\∃N,∀M,N<=M->∀k':KE,k' s.1 s.2.1 s.2.2->o.ex G (run F G M M) d E H n k':=by
 cases o with
 |e o=>
  obtain⟨s,hs,N,hN⟩:=Aav o E H n _ h
  exact⟨(GR d s.1 E,s.2.1,s.2.2),hs,N,λM hM k' hk'=>hN M hM (λv H n=>k' (GR d v E) H n) hk'⟩
 |_=>
  obtain⟨s,hs,hall⟩:=Yu.at (ANU (ABz F G) _ G d E H n) (k:=λs=>k s.1 s.2.1 s.2.2) h
  exact⟨s,hs,0,λM _ k' hk'=>hall (λs=>k' s.1 s.2.1 s.2.2) hk'⟩
theorem ASu(o:AOp)(E:RS)(H:Heap)(n:Nat)(k:KE)(h:o.ex G (Runs F G) E H n k):∃s:Se,k s.1 s.2.1 s.2.2/\∃N,∀M,N<=M->∀k':KE,k' s.1 s.2.1 s.2.2->o.ex G (run F G M M) E H n k':=by
 obtain⟨d,g,o⟩:=o
 cases g with
 |no=>exact AWh o d E H n k h
 |on x b=>
  have h':nM (x.ev E) b (o.ex G (Runs F G) d E H n k) (k (GR d (.EI []) E) H n):=h
  rw[Wu]at h'
  obtain⟨t,ht,h'⟩:=h'
  by_cases e:t=some b
  ·rw[if_pos e]at h'
   obtain⟨s,hs,N,hN⟩:=AWh o d E H n k h'
   refine⟨s,hs,N,λM hM k' hk'=>?_⟩
   show nM (x.ev E) b (o.ex G (run F G M M) d E H n k') (k' (GR d (.EI []) E) H n)
   rw[Wu]
   exact⟨t,ht,by rw[if_pos e];exact hN M hM k' hk'⟩
  ·rw[if_neg e]at h'
   refine⟨(GR d (.EI []) E,H,n),h',0,λM _ k' hk'=>?_⟩
   show nM (x.ev E) b (o.ex G (run F G M M) d E H n k') (k' (GR d (.EI []) E) H n)
   rw[Wu]
   exact⟨t,ht,by rw[if_neg e];exact hk'⟩
theorem AbX(i:AI)(E:RS)(H:Heap)(n:Nat)(k:KE)(h:i.ex G (Runs F G) E H n k):∃s:Se,k s.1 s.2.1 s.2.2/\∃N,∀M,N<=M->∀k':KE,k' s.1 s.2.1 s.2.2->i.ex G (run F G M M) E H n k':=by
 cases i with
 |op o=>exact ASu o E H n k h
 |re d g o=>
  obtain⟨s,hs,hall⟩:=Yu.at (ANf (ABz F G) (.re d g o) G E H n) (k:=λs=>k s.1 s.2.1 s.2.2) h
  exact⟨s,hs,0,λM _ k' hk'=>hall (λs=>k' s.1 s.2.1 s.2.2) hk'⟩
theorem ASQ:∀(l:List AOp) (E:RS) (H:Heap) (n:Nat) (k:KE),Qi l G (Runs F G) E H n k->∃s:Se,k s.1 s.2.1 s.2.2/\∃N,∀M,N<=M->∀k':KE,k' s.1 s.2.1 s.2.2->Qi l G (run F G M M) E H n k'
 |[],E,H,n,k,h=>⟨(E,H,n),h,0,λM _ k' hk'=>hk'⟩
 |o::l,E,H,n,k,h=>by
  obtain⟨s,hs,N,hN⟩:=ASu o E H n (λE H n=>Qi l G (Runs F G) E H n k) h
  obtain⟨s',hs',N',hN'⟩:=ASQ l _ _ _ k hs
  refine⟨s',hs',max N N',λM hM k' hk'=>?_⟩
  exact hN M (by omega) (λE H n=>Qi l G (run F G M M) E H n k') (hN' M (by omega) k' hk')
theorem AKX:∀(l:List AI) (E:RS) (H:Heap) (n:Nat) (k:KE),CU l G (Runs F G) E H n k->∃s:Se,k s.1 s.2.1 s.2.2/\∃N,∀M,N<=M->∀k':KE,k' s.1 s.2.1 s.2.2->CU l G (run F G M M) E H n k'
 |[],E,H,n,k,h=>⟨(E,H,n),h,0,λM _ k' hk'=>hk'⟩
 |o::l,E,H,n,k,h=>by
  obtain⟨s,hs,N,hN⟩:=AbX o E H n (λE H n=>CU l G (Runs F G) E H n k) h
  obtain⟨s',hs',N',hN'⟩:=AKX l _ _ _ k hs
  refine⟨s',hs',max N N',λM hM k' hk'=>?_⟩
  exact hN M (by omega) (λE H n=>CU l G (run F G M M) E H n k') (hN' M (by omega) k' hk')
def Abg(F:T AF)(G:AV)(c:AC):Prop:=∀(R:Je) (H:Heap) (n:Nat) (k:K) (x:KX) (r:K),c.exL G (Runs F G) 0 R H n k x r->
 ∃s,Out.on k x r s/\∃N,∀M,N<=M->∀k' x' r',Out.on k' x' r' s->c.ex G (run F G M M) M R H n k' x' r'
theorem AUQ{a:AC}(ha:Abg F G a)(R:Je)(H:Heap)(n:Nat)(x:KX)(r:K)(h:AWa a.exL G (Runs F G) R H n x r):
 ∃s,Out.on (λ_ _ _=>False) x r s/\∃N,∀M,N<=M->∀j,N<=j->∀x' r',Out.on (λ_ _ _=>False) x' r' s->Xa a.ex G (run F G M M) M j R H n x' r':=by
 refine h (λR H n=>∃s,Out.on (λ_ _ _=>False) x r s/\∃N,∀M,N<=M->∀j,N<=j->∀x' r',Out.on (λ_ _ _=>False) x' r' s->Xa a.ex G (run F G M M) M j R H n x' r') ?_
 intro R H n hb
 obtain⟨s,hs,N,hN⟩:=ha R H n _ x r hb
 cases s with
 |nrm R1 H1 n1=>
  obtain⟨s',hs',N',hN'⟩:=hs
  refine⟨s',hs',max N N'+1,λM hM j hj x' r' ho=>?_⟩
  cases j with
  |zero=>omega
  |succ j=>exact hN M (by omega) (λR H n=>Xa a.ex G (run F G M M) M j R H n x' r') x' r' (hN' M (by omega) j (by omega) x' r' ho)
 |ext i R1 H1 n1=>
  refine⟨.ext i R1 H1 n1,hs,N+1,λM hM j hj x' r' ho=>?_⟩
  cases j with
  |zero=>omega
  |succ j=>exact hN M (by omega) (λR H n=>Xa a.ex G (run F G M M) M j R H n x' r') x' r' ho
 |ret R1 H1 n1=>
  refine⟨.ret R1 H1 n1,hs,N+1,λM hM j hj x' r' ho=>?_⟩
  cases j with
  |zero=>omega
  |succ j=>exact hN M (by omega) (λR H n=>Xa a.ex G (run F G M M) M j R H n x' r') x' r' ho
theorem AGI:∀c:AC,Abg F G c
 |.skip=>λR H n k x r h=>⟨.nrm R H n,h,0,λM _ k' x' r' ho=>ho⟩
 |.ops l=>λR H n k x r h=>by
  obtain⟨s,hs,N,hN⟩:=ASQ l (.mk [] R) H n (λE H n=>k E.rg H n) h
  exact⟨.nrm s.1.rg s.2.1 s.2.2,hs,N,λM hM k' x' r' ho=>hN M hM (λE H n=>k' E.rg H n) ho⟩
 |.reg l=>λR H n k x r h=>by
  obtain⟨s,hs,N,hN⟩:=AKX l (.mk [] R) H n (λE H n=>k E.rg H n) h
  exact⟨.nrm s.1.rg s.2.1 s.2.2,hs,N,λM hM k' x' r' ho=>hN M hM (λE H n=>k' E.rg H n) ho⟩
 |.seq a b=>λR H n k x r h=>by
  obtain⟨s,hs,N,hN⟩:=AGI a R H n (λR H n=>b.exL G (Runs F G) 0 R H n k x r) x r h
  cases s with
  |nrm R1 H1 n1=>
   obtain⟨s',hs',N',hN'⟩:=AGI b R1 H1 n1 k x r hs
   exact⟨s',hs',max N N',λM hM k' x' r' ho=>hN M (by omega) (λR H n=>b.ex G (run F G M M) M R H n k' x' r') x' r' (hN' M (by omega) k' x' r' ho)⟩
  |ext i R1 H1 n1=>exact⟨.ext i R1 H1 n1,hs,N,λM hM k' x' r' ho=>hN M hM (λR H n=>b.ex G (run F G M M) M R H n k' x' r') x' r' ho⟩
  |ret R1 H1 n1=>exact⟨.ret R1 H1 n1,hs,N,λM hM k' x' r' ho=>hN M hM (λR H n=>b.ex G (run F G M M) M R H n k' x' r') x' r' ho⟩
 |.cond c a b=>λR H n k x r h=>by
  have h':Ac (c.ev (.mk [] R)) true (a.exL G (Runs F G) 0 R H n k x r) (b.exL G (Runs F G) 0 R H n k x r):=h
  rw[Y3]at h'
  obtain⟨t,ht,h'⟩:=h'
  by_cases e:t=true
  ·rw[if_pos e]at h'
   obtain⟨s,hs,N,hN⟩:=AGI a R H n k x r h'
   refine⟨s,hs,N,λM hM k' x' r' ho=>?_⟩
   show Ac (c.ev (.mk [] R)) true (a.ex G (run F G M M) M R H n k' x' r') (b.ex G (run F G M M) M R H n k' x' r')
   rw[Y3]
   exact⟨t,ht,by rw[if_pos e];exact hN M hM k' x' r' ho⟩
  ·rw[if_neg e]at h'
   obtain⟨s,hs,N,hN⟩:=AGI b R H n k x r h'
   refine⟨s,hs,N,λM hM k' x' r' ho=>?_⟩
   show Ac (c.ev (.mk [] R)) true (a.ex G (run F G M M) M R H n k' x' r') (b.ex G (run F G M M) M R H n k' x' r')
   rw[Y3]
   exact⟨t,ht,by rw[if_neg e];exact hN M hM k' x' r' ho⟩
 |.block id a=>λR H n k x r h=>by
  obtain⟨s,hs,N,hN⟩:=AGI a R H n k (IQ id k x) r h
  cases s with
  |nrm R1 H1 n1=>exact⟨.nrm R1 H1 n1,hs,N,λM hM k' x' r' ho=>hN M hM k' (IQ id k' x') r' ho⟩
  |ret R1 H1 n1=>exact⟨.ret R1 H1 n1,hs,N,λM hM k' x' r' ho=>hN M hM k' (IQ id k' x') r' ho⟩
  |ext i R1 H1 n1=>
   have hs':IQ id k x i R1 H1 n1:=hs
   unfold IQ at hs'
   cases hb:Nat.beq i id with
   |true=>
    rw[hb]at hs'
    refine⟨.nrm R1 H1 n1,hs',N,λM hM k' x' r' ho=>hN M hM k' (IQ id k' x') r' ?_⟩
    show IQ id k' x' i R1 H1 n1
    unfold IQ;rw[hb];exact ho
   |false=>
    rw[hb]at hs'
    refine⟨.ext i R1 H1 n1,hs',N,λM hM k' x' r' ho=>hN M hM k' (IQ id k' x') r' ?_⟩
    show IQ id k' x' i R1 H1 n1
    unfold IQ;rw[hb];exact ho
 |.loop a=>λR H n k x r h=>by
  obtain⟨s,hs,N,hN⟩:=AUQ (AGI a) R H n x r h
  cases s with
  |nrm R1 H1 n1=>exact(show False from hs).elim
  |ext i R1 H1 n1=>exact⟨.ext i R1 H1 n1,hs,N,λM hM k' x' r' ho=>hN M hM M hM x' r' ho⟩
  |ret R1 H1 n1=>exact⟨.ret R1 H1 n1,hs,N,λM hM k' x' r' ho=>hN M hM M hM x' r' ho⟩
 |.exit i=>λR H n k x r h=>⟨.ext i R H n,h,0,λM _ k' x' r' ho=>ho⟩
 |.ret=>λR H n k x r h=>⟨.ret R H n,h,0,λM _ k' x' r' ho=>ho⟩
theorem AK1(dg:Nat):∀(l:List V) (H:Heap) (n:Nat) (k:Heap->Nat->Prop),Oe dg l (Runs F G) H n k->∃H' n',k H' n'/\∃N,∀M,N<=M->∀k':Heap->Nat->Prop,k' H' n'->Oe dg l (run F G M M) H n k'
 |[],H,n,k,h=>⟨H,n,h,0,λM _ k' hk'=>hk'⟩
 |v::l,H,n,k,h=>by
  have h':V.WB v (λf a c=>EJ (Nat.beq f dg) (Runs F G f (cat a c) H n λ_ H n=>Oe dg l (Runs F G) H n k)):=h
  rw[Tj]at h'
  obtain⟨g,fa,ca,he,h'⟩:=h'
  rw[Fp]at h'
  obtain⟨s,hs,N,hN⟩:=AJV h'.2
  obtain⟨H',n',hk,N',hN'⟩:=AK1 dg l _ _ k hs
  refine⟨H',n',hk,max N N',λM hM k' hk'=>?_⟩
  show V.WB v (λf a c=>EJ (Nat.beq f dg) (run F G M M f (cat a c) H n λ_ H n=>Oe dg l (run F G M M) H n k'))
  rw[Tj]
  exact⟨g,fa,ca,he,(Fp _ _).2 ⟨h'.1,hN M (by omega) (λ_ H n=>Oe dg l (run F G M M) H n k') (hN' M (by omega) k' hk')⟩⟩
theorem AKj(res:List AR)(dg:Nat)(d:sW)(k:KV)(R:Je)(H:Heap)(n:Nat)(h:Jq res dg d G (Runs F G) k R H n):∃N,∀M,N<=M->Jq res dg d G (run F G M M) k R H n:=by
 cases d with
 |no=>exact⟨0,λM _=>h⟩
 |to p=>
  obtain⟨H',n',hk,N,hN⟩:=AK1 dg _ H n _ h
  exact⟨N,λM hM=>hN M hM _ hk⟩
 |ps=>exact⟨0,λM _=>h⟩
theorem AM9{f:Nat}{af:AF}(hf:T.get F f=some af){args:List V}{H:Heap}{n:Nat}{k:KV}(h:ANT af G (Runs F G) args H n k):Runs F G f args H n k:=by
 cases af with
 |nat nk=>
  refine⟨1,?_⟩
  show EN (T.get F f) λaf=>lQ af G (run F G 1 0) 1 args H n k
  rw[hf];exact h
 |mk np code res d dg=>
 have h':EJ (Nat.beq (len args) np) (code.exL G (Runs F G) 0 (eU args 0 .e) H n (Jq res dg d G (Runs F G) k) noX (Jq res dg d G (Runs F G) k)):=h
 rw[Fp]at h'
 obtain⟨s,hs,N,hN⟩:=AGI code _ H n _ _ _ h'.2
 have key:∃N',∀M,N'<=M->Out.on (Jq res dg d G (run F G M M) k) noX (Jq res dg d G (run F G M M) k) s:=by
  cases s with
  |nrm R1 H1 n1=>exact AKj res dg d k R1 H1 n1 hs
  |ext i R1 H1 n1=>exact(show False from hs).elim
  |ret R1 H1 n1=>exact AKj res dg d k R1 H1 n1 hs
 obtain⟨N',hN'⟩:=key
 refine⟨max N N'+1,?_⟩
 show EN (T.get F f) λaf=>lQ af G (run F G (max N N'+1) (max N N')) (max N N'+1) args H n k
 rw[hf]
 show EJ (Nat.beq (len args) np) _
 rw[Fp]
 refine⟨h'.1,?_⟩
 have hle:=AFz F G (Nat.le_succ (max N N')) (max N N') (max N N') (Nat.le_refl _)
 have h1:=hN (max N N') (by omega) _ _ _ (hN' (max N N') (by omega))
 have h2:=ADV (U9 F G (max N N'+1) (max N N')) hle G (Nat.le_succ (max N N')) code _ _ _ _ _ _ h1
 exact DC.mono (Zh (U9 F G (max N N'+1) (max N N')) G _ code _ _ _) (λR H n hk=>eG (U9 F G _ _) hle res dg d G k R H n hk) (λ_ _ _ _ hx=>hx) (λR H n hk=>eG (U9 F G _ _) hle res dg d G k R H n hk) h2
end
section
variable{G:AV}{call:BD}
theorem ASE(hc:Gn call)(l:List AOp)(E:RS)(H:Heap)(n:Nat){k k':KE}(hk:∀E H n,k E H n->k' E H n)(h:Qi l G call E H n k):Qi l G call E H n k':=
 Yu.mono (AJy hc G l E H n) (k:=λs=>k s.1 s.2.1 s.2.2) (k':=λs=>k' s.1 s.2.1 s.2.2) (λs hs=>hk _ _ _ hs) h
theorem AMk(hc:Gn call)(l:List AI)(E:RS)(H:Heap)(n:Nat){k k':KE}(hk:∀E H n,k E H n->k' E H n)(h:CU l G call E H n k):CU l G call E H n k':=
 Yu.mono (ACh hc G l E H n) (k:=λs=>k s.1 s.2.1 s.2.2) (k':=λs=>k' s.1 s.2.1 s.2.2) (λs hs=>hk _ _ _ hs) h
end
end Go.Bj
namespace Go.Bj
open Go.ChangeShapes Go.WideShapes Go.RowKit
structure Old(W W':World):Prop where
 os:W'.os=W.os
 out:W'.output=W.output
 heap:∀b,b<W.heap.size->W'.heap[b]? =W.heap[b]?
theorem Old.kept{W W':World}(h:Old W W')(may:MemPlace->Prop):W.keptBut W' may:=by
 refine⟨h.os,h.out,λi hi=>?_⟩
 rw[h.heap i hi]
 cases hh:W.heap[i]? with
 |none=>rfl
 |some o=>cases o<;>simp
theorem Old.cell{W W':World}(h:Old W W'){a:Addr}(ha:a.block<W.heap.size):W'.cell? a=W.cell? a:=by
 unfold World.cell?
 rw[h.heap _ ha]
theorem Old.same{W W':World}(h:Old W W'){p:MemPlace}(hp:p.block<W.heap.size):W.sameAt W' p:=by
 cases p with
 |cell b off=>exact h.cell hp
 |map b=>exact h.heap b hp
theorem Old.trodAll{H:Type}{enc:TypeId×Value->H}{P:Program}(hl:laidOutB P=true){W W':World}(h:Old W W'):∀{ts:List TypeId} {vs:List Value} {ds:List (DataW H)} {ps:List MemPlace},
 (∀t∈ts,P.readableRec t=true/\t<P.types.size)->DataW.TrodAll enc P W 0 (λ_=>true) true ts vs ds ps->(∀x∈ps,x.block<W.heap.size)->DataW.TrodAll enc P W' 0 (λb=>decide (b<W.heap.size)) true ts vs ds ps
 |[],[],[],_,_,ht,_=>ht
 |t::ts,v::vs,d::ds,_,hr,⟨p,q,h1,h2,e⟩,hlt=>by
  subst e
  refine⟨p,q,?_,Old.trodAll hl h (λt ht=>hr t (List.mem_cons_of_mem _ ht)) h2 (λx hx=>hlt x (List.mem_append_right _ hx)),rfl⟩
  exact WideElems.Trod_stays hl (hr t List.mem_cons_self).1 (hr t List.mem_cons_self).2 h1 (λx hx=>h.same (hlt x (List.mem_append_left _ hx))) (λx hx=>by simpa using hlt x (List.mem_append_left _ hx))
section
variable{P:Program}{F:T AF}
theorem AG3{G:AV}{W:World}(hF:AFF P F)(hg:Vg W G){f:Nat}{vargs:List V}{args:Array Value}(hr:CV (λ_=>none) vargs args.toList)(h:Runs F G f vargs .e 0 λv _ _=>v=.bool true):
 Calls P f args W λe W'=>e=.returned (.bool true)/\Old W W':=by
 obtain⟨N,h⟩:=h
 obtain⟨hc,_⟩:=ARj (P:=P) (F:=F) (lf:=N) hF hg N
 have hh:D8 W (λ_=>none) .e 0 W:={
  lt:=λ_ _ h=>by cases h
  blk:=λ_ _ h=>by cases h
  inj:=λ_ _ _ _ h=>by cases h
  arr:=λ_ _ _ _ _ h=>by cases h
  map:=λ_ _ _ _ h=>by cases h
  iZ:=λ_ _ _ _ _ _ _ h=>by cases h
  old:=λ_ _=>rfl
  os:=rfl
  out:=rfl
  big:=Nat.le_refl _
  top:=λ_ _=>T.Aad _}
 refine((hc f vargs .e 0 _ h).2 _ W args hh hr).mono ?_
 rintro e W' ⟨u,v,H',n',ρ',rfl,rfl,hv,hh',_⟩
 simp only[AZ]at hv
 subst hv
 exact⟨rfl,hh'.os,hh'.out,hh'.old⟩
end
theorem ADJ{H:Type}{P:Program}:∀(ts us:List TypeId) (ds:List (DataW H)),ds.length=ts.length->DataW.weightsEach P (ts++us) (ds++[])=DataW.weightsEach P ts ds
 |[],us,[],_=>by cases us<;>simp[DataW.weightsEach]
 |[],us,_::_,h=>by simp at h
 |_::_,us,[],h=>by simp at h
 |t::ts,us,d::ds,h=>by
  show d.weights P t++DataW.weightsEach P (ts++us) (ds++[])=d.weights P t++DataW.weightsEach P ts ds
  rw[ADJ ts us ds (by simpa using h)]
theorem AJP{C:Checked}{F:T AF}(hF:AFF C.prog F){os:Os}(started:os.Started){f:FuncId}{fn:Func}{s:ChangeSpec}{laid:List (String×DataW Unit)}{tb:TypeId}{apart fresh:Bool}{H:Type}{enc:TypeId×Value->H}
 (own:ownKnob C.prog.godebug=none) (noInit:C.prog.inits.idxOf? f=none) (hfn:C.prog.funcs[f]? =some fn)
 (hsv:s.vars=[]) (hsf:∀ds:List (DataW H),ds.length=fn.params.toList.length->s.fn H ds={results:=[.lit (.bool true)],args:=ds})
 (hres:fn.resultTypes= #[tb]) (hb:C.prog.underlying tb=some .bool) (hl:laidOutB C.prog=true) (hp:∀t∈fn.params.toList,C.prog.readableRec t=true/\t<C.prog.types.size)
 (w0:World) (args0:Array Value) (fuel:Nat) (hos:w0.os=os)
 (hv:(w0.forCall (λ_ _=>0) ⟨#[],args0,[]⟩).variablesB C.prog=true)
 (hrb:((w0.forCall (λ_ _=>0) ⟨#[],args0,[]⟩).heap.toList.drop C.prog.globals.size).take ((begin C.prog (λ_ _=>0) default).world.heap.size-C.prog.globals.size)=
  (begin C.prog (λ_ _=>0) default).world.heap.toList.drop C.prog.globals.size)
 (hok:Input.okWideB C.prog (w0.forCall (λ_ _=>0) ⟨#[],args0,[]⟩) f ⟨#[],args0,[]⟩=true)
 (hpre:s.preB enc C.prog fn [] apart (w0.forCall (λ_ _=>0) ⟨#[],args0,[]⟩).memory args0 fuel=true)
 (hsz:s.sizedB enc C.prog fn apart (w0.forCall (λ_ _=>0) ⟨#[],args0,[]⟩).memory args0 fuel=true)
 (hx:laidMetH C.prog laid (w0.forCall (λ_ _=>0) ⟨#[],args0,[]⟩).memory)
 (hrun:∀(W:World) (args:Array Value) (ds:List (DataW H)) (ps:List MemPlace),(∀(j:Nat) t v,fn.params[j]? =some t->args[j]? =some v->∃base,Value.okWide C.prog W .any base t v)->
  DataW.TrodAll enc C.prog W 0 (λ_=>true) true fn.params.toList args.toList ds ps->laidMetH C.prog laid W->(DataW.weightsEach C.prog fn.params.toList ds).all (· <=reachBytes)=true->
  ∃G vargs,Vg W G/\CV (λ_=>none) vargs args.toList/\Runs F G f vargs .e 0 λv _ _=>v=.bool true):
 ReturnsInHanded {} C os f .any (λw args=>(s.pre enc C.prog fn [] apart w args/\laidMetH C.prog laid w)/\sizedMet enc C.prog fn (OpenSpec.ofChange s) apart w args) (s.post enc C.prog fn apart fresh false false):=by
 refine returnsInHanded_of_change_and (C:=C) (X:=λw _=>laidMetH C.prog laid w) (λ_ _ _ hh h=>h.of_heap hh) own started noInit hfn
  (ChangeSpec.witness_at (enc:=enc) (C:=C) (os:=os) (X:=λw _=>laidMetH C.prog laid w) false w0 args0 fuel hos hv hrb hok hpre hsz hx) ?_
 intro W base args ds gs before hval hW _ hz hL _
 have hW':=hW
 have hlt:=hW.lt
 obtain⟨p,q,hA,hV,rfl,hfz,hnd⟩:=hW
 have hgs:gs=[]/\q=[]:=by
  rw[hsv]at hV
  cases gs with
  |nil=>exact⟨rfl,hV⟩
  |cons g r=>exact absurd hV (by intro h;cases h)
 obtain⟨rfl,rfl⟩:=hgs
 have hlen:ds.length=fn.params.toList.length:=by
  have hlen:∀{ts:List TypeId} {vs:List Value} {ds:List (DataW H)} {ps:List MemPlace},DataW.TrodAll enc C.prog W 0 (λ_=>true) true ts vs ds ps->ds.length=ts.length:=by
   intro ts
   induction ts with
   |nil=>intro vs ds ps h;cases vs<;>cases ds<;>first|rfl|exact h.elim
   |cons t ts ih=>
    intro vs ds ps h
    cases vs<;>cases ds<;>try exact h.elim
    obtain⟨p,q,_,h2,_⟩:=h
    simp[ih h2]
  exact hlen hA
 rw[ADJ _ _ _ hlen]at hz
 obtain⟨G,vargs,hg,hr,hrn⟩:=hrun W args ds p (λj t v h1 h2=>⟨base,hval j t v h1 h2⟩) hA hL hz
 refine(AG3 hF hg hr hrn).mono λe W' ⟨he,ho⟩=>?_
 subst he
 have e1:s.fn H (ds++[])={results:=[.lit (.bool true)],args:=ds}:=by rw[List.append_nil];exact hsf ds hlen
 refine⟨_,rfl,ds,[],_,[],p,[],hW',?_,?_,?_,ho.kept _,λh=>by cases h⟩
 ·rw[e1,hres];exact trodAll_mk1 (shut_bool hb true)
 ·rw[e1];exact Old.trodAll hl ho hp hA (λx hx=>hlt x (by simpa using hx))
 ·rw[e1,hsv];rfl
theorem law_lifted{C:Checked}{F:T AF}(hF:AFF C.prog F){os:Os}(started:os.Started){f:FuncId}{fn:Func}{s:ChangeSpec}{laid:List (String×DataW Unit)}{tb:TypeId}{apart fresh:Bool}{H:Type}{enc:TypeId×Value->H}
 (own:ownKnob C.prog.godebug=none) (noInit:C.prog.inits.idxOf? f=none) (hfn:C.prog.funcs[f]? =some fn)
 (hsv:s.vars=[]) (hsf:∀ds:List (DataW H),ds.length=fn.params.toList.length->s.fn H ds={results:=[.lit (.bool true)],args:=ds})
 (hres:fn.resultTypes= #[tb]) (hb:C.prog.underlying tb=some .bool) (hl:laidOutB C.prog=true) (hp:∀t∈fn.params.toList,C.prog.readableRec t=true/\t<C.prog.types.size)
 (w0:World) (args0:Array Value) (fuel:Nat) (hos:w0.os=os)
 (hv:(w0.forCall (λ_ _=>0) ⟨#[],args0,[]⟩).variablesB C.prog=true)
 (hrb:((w0.forCall (λ_ _=>0) ⟨#[],args0,[]⟩).heap.toList.drop C.prog.globals.size).take ((begin C.prog (λ_ _=>0) default).world.heap.size-C.prog.globals.size)=
  (begin C.prog (λ_ _=>0) default).world.heap.toList.drop C.prog.globals.size)
 (hok:Input.okWideB C.prog (w0.forCall (λ_ _=>0) ⟨#[],args0,[]⟩) f ⟨#[],args0,[]⟩=true)
 (hpre:s.preB enc C.prog fn [] apart (w0.forCall (λ_ _=>0) ⟨#[],args0,[]⟩).memory args0 fuel=true)
 (hsz:s.sizedB enc C.prog fn apart (w0.forCall (λ_ _=>0) ⟨#[],args0,[]⟩).memory args0 fuel=true)
 (hx:laidMetH C.prog laid (w0.forCall (λ_ _=>0) ⟨#[],args0,[]⟩).memory)
 (hrun:∀(W:World) (args:Array Value) (ds:List (DataW H)) (ps:List MemPlace),(∀(j:Nat) t v,fn.params[j]? =some t->args[j]? =some v->∃base,Value.okWide C.prog W .any base t v)->
  DataW.TrodAll enc C.prog W 0 (λ_=>true) true fn.params.toList args.toList ds ps->laidMetH C.prog laid W->
  ∃G vargs,Vg W G/\CV (λ_=>none) vargs args.toList/\Runs F G f vargs .e 0 λv _ _=>v=.bool true):
 ReturnsInHanded {} C os f .any (λw args=>(s.pre enc C.prog fn [] apart w args/\laidMetH C.prog laid w)/\sizedMet enc C.prog fn (OpenSpec.ofChange s) apart w args) (s.post enc C.prog fn apart fresh false false):=
 AJP hF started own noInit hfn hsv hsf hres hb hl hp w0 args0 fuel hos hv hrb hok hpre hsz hx λW args ds ps h1 h2 h3 _=>hrun W args ds ps h1 h2 h3
inductive T.All{α:Type}:(P2->α->Prop)->T α->Prop
 |e {Q:P2->α->Prop}:T.All Q .e
 |n0 {Q:P2->α->Prop} {l r:T α}:T.All (λp=>Q (.z p)) l->T.All (λp=>Q (.o p)) r->T.All Q (.n none l r)
 |n1 {Q:P2->α->Prop} {x:α} {l r:T α}:Q .h x->T.All (λp=>Q (.z p)) l->T.All (λp=>Q (.o p)) r->T.All Q (.n (some x) l r)
theorem T.All.ED{α:Type}:∀{p:P2} {Q:P2->α->Prop} {t:T α},T.All Q t->∀{x:α},T.ED p t=some x->Q p x
 |p,_,_,.e,x,h=>by rw[T.AFi]at h;cases h
 |.h,_,_,.n0 _ _,x,h=>by rw[T.ASg]at h;cases h
 |.z p,Q,_,.n0 hl _,x,h=>by rw[T.dP]at h;exact T.All.ED (p:=p) (Q:=λp=>Q (.z p)) hl h
 |.o p,Q,_,.n0 _ hr,x,h=>by rw[T.dA]at h;exact T.All.ED (p:=p) (Q:=λp=>Q (.o p)) hr h
 |.h,_,_,.n1 hx _ _,x,h=>by rw[T.ASg]at h;cases h;exact hx
 |.z p,Q,_,.n1 _ hl _,x,h=>by rw[T.dP]at h;exact T.All.ED (p:=p) (Q:=λp=>Q (.z p)) hl h
 |.o p,Q,_,.n1 _ _ hr,x,h=>by rw[T.dA]at h;exact T.All.ED (p:=p) (Q:=λp=>Q (.o p)) hr h
structure AYP(P:Program)(F:T AF)(f:Nat)(af:AF):Prop where
 tr:∃fn loc df ords,P.funcs[f]? =some fn/\(fn.name== "runtime.NumGoroutine")=false/\trF P loc df ords af.dg fn=some af
 dg:AMp af.dp=true∨∃af',T.get F af.dg=some af'/\AMp af'.dp=true
inductive zX(P:Program)(F:T AF)(f:Nat)(af:AF):Prop
 |code (h:AYP P F f af)
 |nat (k:Nk) (hk:af=.nat k) (h:AXF P f k)
theorem AKH{d:sW}:AMp d=true↔d=.no:=by cases d<;>simp[AMp]
theorem AFF.AXl{P:Program}{F:T AF}(hm:P.follows .mixedOrders=true)(h:T.All (λp af=>zX P F p.key af) F):AFF P F where
 mixed:=hm
 AYz:=λf k hf=>by
  have h':=T.All.ED (p:=PN f) h hf
  rw[AEG]at h'
  cases h' with
  |code h'=>
   obtain⟨fn,loc,df,ords,_,_,ht⟩:=h'.tr
   unfold trF at ht
   split at ht
   ·obtain⟨_,_,ht⟩:=AL.1 ht
    obtain⟨_,_,ht⟩:=AL.1 ht
    split at ht<;>cases ht
   ·cases ht
  |nat k' hk h'=>cases hk;exact h'
 fns:=λf af hf hn=>by
  have h':=T.All.ED (p:=PN f) h hf
  rw[AEG]at h'
  cases h' with
  |code h'=>exact h'.tr
  |nat k' hk h'=>subst hk;cases hn
 dgs:=λf af af' hf hn hd hf'=>by
  have h':=T.All.ED (p:=PN f) h hf
  cases h' with
  |code h'=>
   rcases h'.dg with e|⟨a,ha,hn⟩
   ·exact absurd (AKH.1 e) hd
   ·rw[ha]at hf';cases hf';exact AKH.1 hn
  |nat k' hk h'=>subst hk;cases hn
open Classical in
def toV:Value->V
 |.int k n=>.int k n 0
 |.bool b=>.bool b
 |.string s=>.str s.data.toList.length (enc s.data.toList)
 |.slice none len cap=>if len=0/\cap=0 then .Af else .undef
 |.slice (some a) len cap=>if len<=cap/\(cap=0∨a.spot=none)then .rsl a.block a.off len cap 0 else .undef
 |_=>.undef
theorem ATz(ρ:Loc)(u:Value):AZ ρ (toV u) u:=by
 cases u with
 |slice a len cap=>
  cases a with
  |none=>
   simp only[toV]
   split
   ·rename_i h;obtain⟨rfl,rfl⟩:=h;simp[AZ]
   ·simp[AZ]
  |some a=>
   simp only[toV]
   split
   ·rename_i h
    refine⟨a,rfl,?_,h.1⟩
    rcases h.2 with e|e
    ·exact .inl e
    ·right;cases a;simp_all
   ·simp[AZ]
 |_=>simp[toV,AZ]
open Classical in
def X9(W:World):AV:=λb off n=>
 if ∀j,j<n->∃u,W.cell? ⟨b,off+j,none⟩=some u/\u.oneCell'=true then some ((List.range n).map λj=>toV ((W.cell? ⟨b,off+j,none⟩).getD undef))else none
theorem ANz(W:World):Vg W (X9 W):=by
 intro b off n L h
 unfold X9 at h
 split at h
 ·rename_i hc
  cases h
  refine⟨by simp,λj v hj=>?_⟩
  rw[List.getElem?_map]at hj
  cases hr:(List.range n)[j]? with
  |none=>rw[hr]at hj;cases hj
  |some k=>
   rw[hr]at hj
   have hk:j<n:=by have:=(List.getElem?_eq_some_iff.1 hr).1;simpa using this
   rw[List.getElem?_range hk]at hr
   cases hr
   obtain⟨u,hu,h1⟩:=hc j hk
   refine⟨u,hu,?_,h1⟩
   simp only[Option.map_some,Option.some.injEq]at hj
   subst hj
   rw[hu]
   exact ATz _ _
 ·cases h
theorem ALv{W:World}{b off n:Nat}{cs:List Value}(hl:cs.length=n)(h1:∀u∈cs,u.oneCell'=true)(h:∀j u,cs[j]? =some u->W.cell? ⟨b,off+j,none⟩=some u):X9 W b off n=some (cs.map toV):=by
 subst hl
 unfold X9
 rw[if_pos]
 ·congr 1
  apply List.ext_getElem?
  intro j
  rw[List.getElem?_map,List.getElem?_map]
  by_cases hj:j<cs.length
  ·rw[List.getElem?_range hj,List.getElem?_eq_getElem hj]
   simp only[Option.map_some]
   rw[h j _ (List.getElem?_eq_getElem hj)]
   rfl
  ·rw[List.getElem?_eq_none (by simpa using hj),List.getElem?_eq_none (by simpa using hj)]
   rfl
 ·intro j hj
  exact⟨cs[j],h j _ (List.getElem?_eq_getElem hj),h1 _ (List.getElem_mem hj)⟩
inductive Dt where
 |int (k:IntKind) (n:Int)|bool (b:Bool)|str (s:List UInt8)|sl (z:Nat) (l:List Dt)|st (l:List Dt)
variable{P:Program}{H:Type}{enc':TypeId×Value->H}{w:World}{base:Nat}{spare:Nat->Bool}{held:Bool}
def lU{H:Type}:Nat->DataW H->Option LV
 |0,_=>none
 |n+1,d=>match d with
  |.lit (.int k i)=>some [.int k i 0]
  |.lit (.bool b)=>some [.bool b]
  |.lit (.string s)=>some [.str s.length (enc s)]
  |.agg ds=>(ds.mapM (lU n)).map List.flatten
  |_=>none
def yU:Nat->List (Nat×Nat)->Nat->Bool
 |o,[],tot=>Nat.beq o tot
 |o,(a,l)::r,tot=>Nat.beq a o&&yU (o+l) r tot
def AFl(P:Program):Nat->TypeId->Bool
 |0,_=>false
 |d+1,t=>match P.underlying t with
  |some (.int _)=>true
  |some .bool=>true
  |some .string=>true
  |some (.struct fs)=>yU 0 (fs.toList.map λf=>(f.offset,P.cellsOf f.type)) (P.cellsOf t)&&fs.toList.all λf=>AFl P d f.type
  |some (.array n e)=>Nat.beq (n*P.cellsOf e) (P.cellsOf t)&&AFl P d e
  |_=>false
theorem pI{α:Type}(cs:List α):∀(ls:List (Nat×Nat)) (o:Nat),yU o ls cs.length=true->cs.drop o=(ls.map λp=>(cs.drop p.1).take p.2).flatten
 |[],o,h=>by
  have:o=cs.length:=Nat.eq_of_beq_eq_true h
  subst this;simp
 |(a,l)::r,o,h=>by
  simp only[yU,Bool.and_eq_true]at h
  have ha:a=o:=Nat.eq_of_beq_eq_true h.1
  subst ha
  have ih:=pI cs r (a+l) h.2
  simp only[List.map_cons,List.flatten_cons]
  rw[<-ih,<-List.drop_drop,List.take_append_drop]
inductive ASk{α β:Type}(R:α->β->Prop):List α->List β->Prop
 |nil:ASk R [] []
 |cons {a:α} {b:β} {l:List α} {m:List β}:R a b->ASk R l m->ASk R (a::l) (b::m)
theorem AFQ{ρ:Loc}:∀{xs:List LV} {ys:List (List Value)},ASk (λa b=>CV ρ a b) xs ys->CV ρ xs.flatten ys.flatten
 |_,_,.nil=>by simp
 |_,_,.cons h t=>by simp only[List.flatten_cons];exact h.append (AFQ t)
theorem ZP{α β γ:Type}{f:α->Option β}{R:β->γ->Prop}:∀{l:List α} {r:List β} {ys:List γ},l.mapM f=some r->l.length=ys.length->(∀(i:Nat) (a:α) (b:β) (y:γ),l[i]? =some a->f a=some b->ys[i]? =some y->R b y)->ASk R r ys
 |[],r,ys,h,hl,_=>by
  simp at h;subst h
  cases ys with
  |nil=>exact .nil
  |cons=>simp at hl
 |a::l,r,ys,h,hl,hR=>by
  cases ys with
  |nil=>simp at hl
  |cons y ys=>
   rw[List.mapM_cons]at h
   cases hfa:f a with
   |none=>rw[hfa]at h;cases h
   |some b=>
    rw[hfa]at h
    cases hr:l.mapM f with
    |none=>simp[hr]at h
    |some r'=>
     simp[hr]at h;subst h
     exact .cons (hR 0 a b y rfl hfa rfl) (ZP hr (by simpa using hl) λi a b y h1 h2 h3=>hR (i+1) a b y (by simpa using h1) h2 (by simpa using h3))
theorem AEd{α β:Type}{f:α->Option β}:∀{l:List α} {r:List β},l.mapM f=some r->∀a∈l,∃b,f a=some b
 |[],_,_,_,h=>by cases h
 |a::l,r,h,x,hx=>by
  rw[List.mapM_cons]at h
  cases hfa:f a with
  |none=>rw[hfa]at h;cases h
  |some b=>
   rw[hfa]at h
   cases hr:l.mapM f with
   |none=>simp[hr]at h
   |some r'=>
    rcases List.mem_cons.1 hx with rfl|hx
    ·exact⟨b,hfa⟩
    ·exact AEd hr x hx
theorem zS:∀(fuel:Nat) {t:TypeId} {cs:List Value} {d:DataW H} {ps:List MemPlace} {n m:Nat} {vs:LV},DataW.trod enc' P w base spare held fuel t cs=some (d,ps)->lU n d=some vs->AFl P m t=true->
 CV (λ_=>none) vs cs/\∀u∈cs,u.oneCell'=true
 |0,_,_,_,_,_,_,_,h,_,_=>by simp[DataW.trod]at h
 |fuel+1,t,cs,d,ps,n,0,vs,h,hf,ht=>by cases ht
 |fuel+1,t,cs,d,ps,0,m+1,vs,h,hf,ht=>by cases hf
 |fuel+1,t,cs,d,ps,n+1,m+1,vs,h,hf,ht=>by
  simp only[AFl]at ht
  split at ht
  ·rename_i k hu
   obtain⟨i,rfl,e,_⟩:=DataW.trod_int hu h
   cases e
   simp only[lU,Option.some.injEq]at hf;subst hf
   exact⟨.cons (by simp[AZ]) .nil,λu hu=>by simp at hu;subst hu;rfl⟩
  ·rename_i hu
   obtain⟨i,rfl,e⟩:=DataW.trod_bool hu h
   cases e
   simp only[lU,Option.some.injEq]at hf;subst hf
   exact⟨.cons (by simp[AZ]) .nil,λu hu=>by simp at hu;subst hu;rfl⟩
  ·rename_i hu
   obtain⟨s,rfl,e,_⟩:=DataW.trod_string hu h
   cases e
   simp only[lU,Option.some.injEq]at hf;subst hf
   exact⟨.cons ⟨s,rfl,rfl,rfl⟩ .nil,λu hu=>by simp at hu;subst hu;rfl⟩
  ·rename_i fs hu
   rw[Bool.and_eq_true]at ht
   obtain⟨xs,n',hfe,e,hlen,hxl,hel⟩:=DataW.trod_struct hu h
   have hfe':fuel=n':=by omega
   subst hfe'
   cases e
   have hflat:=pI cs _ 0 (by rw[hlen];exact ht.1)
   simp only[List.drop_zero,List.map_map]at hflat
   simp only[lU]at hf
   cases hm:(xs.map (·.1)).mapM (lU n)with
   |none=>rw[hm]at hf;cases hf
   |some r=>
    rw[hm]at hf
    simp only[Option.map_some,Option.some.injEq]at hf
    subst hf
    have each:∀(i:Nat) (f:Field) (x:DataW H×List MemPlace),fs[i]? =some f->xs[i]? =some x->∀b,lU n x.1=some b->CV (λ_=>none) b ((cs.drop f.offset).take (P.cellsOf f.type))/\∀u∈(cs.drop f.offset).take (P.cellsOf f.type),u.oneCell'=true:=by
     intro i f x hi hx b hb
     have h1:=hel i f hi
     rw[hx]at h1
     obtain⟨x1,x2⟩:=x
     exact zS fuel h1 hb (List.all_eq_true.1 ht.2 f (by simpa using Array.mem_of_getElem? hi))
    constructor
    ·rw[hflat]
     refine AFQ (ZP hm (by simp[hxl]) ?_)
     intro i a b y ha hb hy
     rw[List.getElem?_map]at ha hy
     cases hx:xs[i]? with
     |none=>rw[hx]at ha;cases ha
     |some x=>
      rw[hx]at ha
      cases ha
      cases hfi:fs.toList[i]? with
      |none=>rw[hfi]at hy;cases hy
      |some f=>
       rw[hfi]at hy
       cases hy
       exact(each i f x (by simpa using hfi) hx b hb).1
    ·intro u hu'
     rw[hflat]at hu'
     obtain⟨l,hl,hul⟩:=List.mem_flatten.1 hu'
     obtain⟨f,hf,rfl⟩:=List.mem_map.1 hl
     obtain⟨i,hi⟩:=List.mem_iff_getElem?.1 hf
     have hil:i<xs.length:=by rw[hxl];simpa using(List.getElem?_eq_some_iff.1 hi).1
     have hm':=AEd hm (xs[i]).1 (List.mem_map.2 ⟨xs[i],List.getElem_mem hil,rfl⟩)
     obtain⟨b,hb⟩:=hm'
     exact(each i f _ (by simpa using hi) (List.getElem?_eq_getElem hil) b hb).2 u hul
  ·rename_i k e hu
   rw[Bool.and_eq_true]at ht
   obtain⟨xs,n',hfe,e',hlen,hxl,hel⟩:=DataW.trod_array hu h
   have hfe':fuel=n':=by omega
   subst hfe'
   cases e'
   have hk:k*P.cellsOf e=P.cellsOf t:=Nat.eq_of_beq_eq_true ht.1
   have hcon:∀(j o:Nat),yU (o*P.cellsOf e) ((List.range' o j).map λi=>(i*P.cellsOf e,P.cellsOf e)) ((o+j)*P.cellsOf e)=true:=by
    intro j
    induction j with
    |zero=>intro o;simp[yU]
    |succ j ih=>
     intro o
     simp only[List.range'_succ,List.map_cons,yU,Bool.and_eq_true]
     refine⟨by simp,?_⟩
     have:=ih (o+1)
     rw[Nat.add_mul,Nat.one_mul]at this
     rw[show o+(j+1)=o+1+j by omega]
     exact this
   have hflat:=pI cs ((List.range' 0 k).map λi=>(i*P.cellsOf e,P.cellsOf e)) 0 (by have:=hcon k 0;rw[hlen,<-hk];simpa using this)
   simp only[List.drop_zero,List.map_map]at hflat
   simp only[lU]at hf
   cases hm:(xs.map (·.1)).mapM (lU n)with
   |none=>rw[hm]at hf;cases hf
   |some r=>
    rw[hm]at hf
    simp only[Option.map_some,Option.some.injEq]at hf
    subst hf
    have each:∀(i:Nat) (x:DataW H×List MemPlace),i<k->xs[i]? =some x->∀b,lU n x.1=some b->CV (λ_=>none) b ((cs.drop (i*P.cellsOf e)).take (P.cellsOf e))/\∀u∈(cs.drop (i*P.cellsOf e)).take (P.cellsOf e),u.oneCell'=true:=by
     intro i x hi hx b hb
     have h1:=hel i hi
     rw[hx]at h1
     obtain⟨x1,x2⟩:=x
     exact zS fuel h1 hb ht.2
    constructor
    ·rw[hflat]
     refine AFQ (ZP hm (by simp[hxl]) ?_)
     intro i a b y ha hb hy
     rw[List.getElem?_map]at ha hy
     cases hx:xs[i]? with
     |none=>rw[hx]at ha;cases ha
     |some x=>
      rw[hx]at ha
      cases ha
      have hik:i<k:=by rw[<-hxl];exact(List.getElem?_eq_some_iff.1 hx).1
      rw[List.getElem?_range' hik]at hy
      simp only[Option.map_some,Function.comp,Option.some.injEq,Nat.zero_add,Nat.one_mul]at hy
      subst hy
      exact(each i x hik hx b hb).1
    ·intro u hu'
     rw[hflat]at hu'
     obtain⟨l,hl,hul⟩:=List.mem_flatten.1 hu'
     obtain⟨i,hi,rfl⟩:=List.mem_map.1 hl
     have hik:i<k:=by simp at hi;exact hi
     have hil:i<xs.length:=by rw[hxl];exact hik
     have hm':=AEd hm (xs[i]).1 (List.mem_map.2 ⟨xs[i],List.getElem_mem hil,rfl⟩)
     obtain⟨b,hb⟩:=hm'
     exact(each i _ hik (List.getElem?_eq_getElem hil) b hb).2 u hul
  ·cases ht
end Go.Bj
namespace Go.Bj
def WZ(v:V)(_:Heap)(_:Nat):Prop:=v.AIt λb=>Bool.rec (motive:=λ_=>Prop) False True b
theorem AUL{v:V}{H:Heap}{n:Nat}:WZ v H n->v=.bool true:=by
 intro h
 cases v<;>try exact(show False from h).elim
 rename_i b
 cases b
 ·exact(show False from h).elim
 ·rfl
theorem wrap_i64_small{n:Nat}(h:n<9223372036854775808):IntKind.wrap .i64 (n:Int)=n:=by
 simp only[IntKind.wrap,IntKind.signed,IntKind.bits]
 have h1:(n:Int)%2^64=n:=Int.emod_eq_of_lt (by omega) (by omega)
 simp only[h1,Bool.true_and]
 rw[if_neg]
 simp
 omega
def AGo(a:Int)(m:Nat):Nat:=(bits .and .i64 a (.ofNat m)).toNat
theorem AK8(a:Int){m:Nat}(hm:m<9223372036854775808):∃x:Nat,bits .and .i64 a (.ofNat m)=x/\x<=m:=by
 refine⟨(BitVec.ofInt 64 a&&&BitVec.ofInt 64 (.ofNat m)).toNat,?_,?_⟩
 ·have h1:(BitVec.ofInt 64 a&&&BitVec.ofInt 64 (.ofNat m)).toNat<9223372036854775808:=by
   rw[BitVec.toNat_and]
   refine Nat.lt_of_le_of_lt Nat.and_le_right ?_
   simp;omega
  exact wrap_i64_small h1
 ·rw[BitVec.toNat_and]
  refine Nat.le_trans Nat.and_le_right ?_
  simp;omega
theorem ACQ(a:Int){m:Nat}(hm:m<9223372036854775808):bits .and .i64 a (.ofNat m)=(AGo a m:Int)/\AGo a m<=m:=by
 obtain⟨x,hx,hle⟩:=AK8 a hm
 unfold AGo
 rw[hx]
 exact⟨rfl,hle⟩
theorem AHe(a:Int){m:Nat}(hm:m<9223372036854775808):AR4 .i64 a (.ofNat m)=.ofNat (AGo a m):=by
 rw[<-show((AGo a m:Nat):Int)=.ofNat (AGo a m)from rfl,<-(ACQ a hm).1]
 cases a with
 |ofNat n=>show YP .i64 (.ofNat (Nat.land n m))=_;rw[Qn,AB4];rfl
 |negSucc n=>rfl
end Go.Bj
