/- Part of a proof; nothing is assumed. -/
import Derived.Test.YtldgkimnlbkddaaGreatDoorEngD
import Derived.Scope
import Derived.Defers
import Derived.ChangeSame
import Derived.ChangeVars
import Derived.JoinedOf
import Derived.RowKit
import Derived.RowKitTokens
import Derived.LaidLaws
import Derived.LaidHandle
import Derived.Carry
import Derived.ProofKit
import Derived.Stop.Joined
import Derived.OpenShut
set_option linter.unusedVariables false
set_option linter.unusedSimpArgs false
noncomputable section
namespace Go.Bf
variable{P:Program}
def AKF:List Nat->List Nat->List Nat
 |[],l=>l
 |x::r,l=>if l.elem x then AKF r l else AKF r (x::l)
theorem ADy{x:Nat}:∀(r l:List Nat),x∈AKF r l->x∈r∨x∈l
 |[],l,h=>.inr h
 |y::r,l,h=>by
  simp only[AKF]at h
  split at h
  ·rcases ADy r l h with h|h
   ·exact .inl (List.mem_cons_of_mem _ h)
   ·exact .inr h
  ·rcases ADy r _ h with h|h
   ·exact .inl (List.mem_cons_of_mem _ h)
   ·rcases List.mem_cons.1 h with rfl|h
    ·exact .inl List.mem_cons_self
    ·exact .inr h
def ANK(acc:List (List Nat)):List Edge->List Nat
 |[]=>[]
 |e::r=>if Region.binds .any e then AKF (e.on::(acc[e.on]?).getD []) (ANK acc r)else ANK acc r
def ASB:List Oper->List (List Nat)->List (List Nat)
 |[],acc=>acc
 |o::r,acc=>ASB r (acc++[ANK acc o.after.toList])
theorem AG8{f:List (List Nat)}{x:Nat}:∀(k:List Edge),x∈ANK f k->∃e∈k,Region.binds .any e=true/\(x=e.on∨x∈(f[e.on]?).getD [])
 |[],h=>by cases h
 |e::r,h=>by
  simp only[ANK]at h
  split at h
  ·rename_i m
   rcases ADy _ _ h with h|h
   ·exact⟨e,List.mem_cons_self,m,by rcases List.mem_cons.1 h with h|h; · exact .inl h
                                    ·exact .inr h⟩
   ·obtain⟨g,d,i⟩:=AG8 r h;exact⟨g,List.mem_cons_of_mem _ d,i⟩
  ·obtain⟨g,d,i⟩:=AG8 r h;exact⟨g,List.mem_cons_of_mem _ d,i⟩
theorem AMC{ops:Array Oper}{i:Nat}{o:Oper}(d:ops[i]? =some o){e:Edge}(f:e∈o.after)(g:Region.binds .any e=true):Before ops e.on i:=λS _ hd=>hd o d e f g
theorem before_trans{ops:Array Oper}{x y i:Nat}(f:Before ops x y)(g:Before ops y i):Before ops x i:=λS d hd=>by
 have k:=g S d hd
 exact f S d λo m e p q=>d y o k m e p q
theorem AM2{ops:Array Oper}:∀(l:List Oper) (d:List (List Nat)),(∀j,l[j]? =ops[d.length+j]?)->(∀i x,x∈(d[i]?).getD []->Before ops x i)->∀i x,x∈((ASB l d)[i]?).getD []->Before ops x i
 |[],d,_,h=>h
 |o::r,d,m,h=>by
  have p:ops[d.length]? =some o:=by have:=m 0;simpa using this.symm
  refine AM2 r (d++[ANK d o.after.toList]) (λj=>?_) ?_
  ·have:=m (j+1)
   rw[List.getElem?_cons_succ]at this
   rw[this,List.length_append,List.length_singleton,Nat.add_assoc,Nat.add_comm 1 j]
  ·intro i x f
   by_cases q:i<d.length
   ·rw[List.getElem?_append_left q]at f;exact h i x f
   ·rw[List.getElem?_append_right (by omega)]at f
    have g:i=d.length:=by
     cases u:i-d.length with
     |zero=>omega
     |succ k=>rw[u]at f;simp at f
    subst g
    simp only[Nat.sub_self,List.getElem?_cons_zero,Option.getD_some]at f
    obtain⟨e,v,w,f⟩:=AG8 _ f
    have hd:=AMC p (by simpa using v) w
    rcases f with rfl|f
    ·exact hd
    ·exact before_trans (h _ _ f) hd
def AJs(P:Program)(C:FX)(ops:Array Oper):List (Nat×Wk)->Option (List Stp)
 |[]=>some []
 |(i,wk)::r=>Ap (AXN P C ops i wk) λs=>Ap (AJs P C ops r) λl=>some (s::l)
theorem ANV{C:FX}{ops:Array Oper}:∀(l:List (Nat×Wk)) (d:List Stp),AJs P C ops l=some d->∀s∈d,ACj P C ops s
 |[],d,h,s,hs=>by cases h;cases hs
 |(i,k)::r,d,h,s,hs=>by
  simp only[AJs]at h
  obtain⟨m,f,h⟩:=AB.1 h
  obtain⟨l,g,e⟩:=AB.1 h;cases e
  rcases List.mem_cons.1 hs with rfl|hs
  ·exact(AXr f).1
  ·exact ANV r l g s hs
def ASh(i:Nat):List Stp->Bool
 |[]=>false
 |s::r=>Nat.beq s.i i||ASh i r
theorem AFe{i:Nat}:∀{l:List Stp},ASh i l=true↔∃s∈l,s.i=i
 |[]=>by simp[ASh]
 |s::r=>by simp[ASh,AFe (l:=r)]
def AN4(ss:List Stp):Nat->Bool
 |0=>true
 |n+1=>ASh n ss&&AN4 ss n
def AJQ:List Stp->List Stp->Bool
 |_,[]=>true
 |done,s::r=> !ASh s.i done&&s.o.after.toList.all (λe=> !Region.binds .any e||ASh e.on done)&&AJQ (done++[s]) r
def AN6(Qr:Nat->List Nat):List Stp->Bool
 |[]=>true
 |j::r=>(!j.ao.isE||r.all λs=>(Qr s.i).elem j.i)&&AN6 Qr r
def AcV:Dst->Bool
 |.to _=>true
 |_=>false
def AR3(s:Stp):Bool:=
 (s.ao.isE||match s.dt with|some t=> !s.rd.elem t|none=>true)&&(!s.ao.isR||AcV s.dst)
def AYj(Qr:Nat->List Nat)(s k:Stp):Bool:=
 Nat.beq s.i k.i||match s.dt with
  |none=>true
  |some t=>(match k.dt with|some u=> !Nat.beq t u|none=>true)&&(!k.rd.elem t||((Qr k.i).elem s.i||(s.ao.isE&&(Qr s.i).elem k.i)))
def ATB(ops:Array Oper)(Qr:Nat->List Nat)(ss:List Stp):Bool:=
 Nat.ble ss.length ops.size&&AN4 ss ops.size&&AJQ [] ss&&AN6 Qr ss&&ss.all AR3&&ss.all λs=>ss.all (AYj Qr s)
theorem AIo{f:List Stp}:∀{n:Nat},AN4 f n=true->∀i,i<n->∃s∈f,s.i=i
 |0,_,i,hi=>by omega
 |n+1,h,i,hi=>by
  simp only[AN4,Bool.and_eq_true]at h
  rcases Nat.lt_or_ge i n with d|g
  ·exact AIo h.2 i d
  ·have:i=n:=by omega
   subst this;exact AFe.1 h.1
theorem bC:∀{r done:List Stp},AJQ done r=true->∀d s post,r=d++s::post->(∀x∈done++d,x.i≠s.i)/\∀e∈s.o.after,Region.binds .any e=true->∃x∈done++d,x.i=e.on
 |[],done,_,d,s,post,f=>by cases d<;>cases f
 |t::r,done,h,d,s,post,f=>by
  simp only[AJQ,Bool.and_eq_true,Bool.not_eq_true']at h
  obtain⟨⟨g,k⟩,p⟩:=h
  cases d with
  |nil=>
   simp only[List.nil_append,List.cons.injEq]at f
   obtain⟨rfl,rfl⟩:=f
   refine⟨λx m e=>?_,λe f q=>?_⟩
   ·rw[List.append_nil]at m
    rw[AFe.2 ⟨x,m,e⟩]at g;cases g
   ·rw[List.append_nil]
    rw[List.all_eq_true]at k
    have:=k e (by simpa using f)
    rw[q]at this
    exact AFe.1 (by simpa using this)
  |cons u d=>
   simp only[List.cons_append,List.cons.injEq]at f
   obtain⟨rfl,rfl⟩:=f
   have:=bC p d s post rfl
   rw[List.append_assoc,List.singleton_append]at this
   exact this
theorem AHx{Qr:Nat->List Nat}:∀{m:List Stp},AN6 Qr m=true->∀d j f s post,m=d++j::(f++s::post)->j.ao.isE=true->j.i∈Qr s.i
 |[],_,d,j,f,s,post,g=>by cases d<;>cases g
 |t::r,h,d,j,f,s,post,g=>by
  simp only[AN6,Bool.and_eq_true]at h
  cases d with
  |nil=>
   simp only[List.nil_append,List.cons.injEq]at g
   obtain⟨rfl,rfl⟩:=g
   intro p
   have k:=h.1
   rw[p]at k
   simp only[Bool.not_true,Bool.false_or,List.all_eq_true]at k
   simpa using k s (by simp)
  |cons u d=>
   simp only[List.cons_append,List.cons.injEq]at g
   obtain⟨rfl,rfl⟩:=g
   exact AHx h.2 d j f s post rfl
theorem ARh{C:FX}{ops:Array Oper}{l:List (Nat×Wk)}{A:List Stp}(hs:AJs P C ops l=some A)(h:ATB ops (λi=>((ASB ops.toList [])[i]?).getD []) A=true):Zx P C ops A (λi=>((ASB ops.toList [])[i]?).getD []):=by
 have f:=AM2 (ops:=ops) ops.toList [] (λj=>by simp) (λi x y=>by simp at y)
 simp only[ATB,Bool.and_eq_true]at h
 obtain⟨⟨⟨⟨⟨M,N⟩,B⟩,O⟩,D⟩,L⟩:=h
 rw[List.all_eq_true]at D L
 refine{ok:=ANV l A hs,all:=AIo N,inj:=?_,Adj:=?_,act:=λg j E s d w F=>f _ _ (AHx O g j E s d w F),own:=?_,regs:=?_,Qr:=f,Aep:=?_,len:=Nat.le_of_ble_eq_true M}
 ·intro g s d w
  refine⟨λx y=>by have:=(bC B g s d w).1;exact this x (by simpa using y),λx y e=>?_⟩
  obtain⟨q1,q2,rfl⟩:=List.append_of_mem y
  have:=(bC B (g++s::q1) x q2 (by rw[w];simp)).1 s (by simp)
  exact this e.symm
 ·intro g s d w e G H
  have:=(bC B g s d w).2 e G H
  simpa using this
 ·intro s m F t v I
  have:=D s m
  simp only[AR3,Bool.and_eq_true]at this
  have q:=this.1
  rw[F,v]at q
  simp only[Bool.false_or,Bool.not_eq_true']at q
  rw[Bool.eq_false_iff]at q
  exact q (by simpa using I)
 ·intro s m k J K t v
  have:=L s m
  rw[List.all_eq_true]at this
  have:=this k J
  unfold AYj at this
  rw[v]at this
  have H:Nat.beq s.i k.i=false:=by rw[Bool.eq_false_iff];intro e;exact K (Nat.eq_of_beq_eq_true e)
  rw[H]at this
  simp only[Bool.false_or,Bool.and_eq_true]at this
  refine⟨λQ=>?_,λI=>?_⟩
  ·have u:=this.1
   rw[Q]at u
   simp at u
  ·have u:=this.2
   have:k.rd.elem t=true:=by simpa using I
   rw[this]at u
   simp only[Bool.not_true,Bool.false_or,Bool.or_eq_true,Bool.and_eq_true]at u
   rcases u with u|⟨u,R⟩
   ·exact .inl (f _ _ (by simpa using u))
   ·exact .inr ⟨u,f _ _ (by simpa using R)⟩
 ·intro s m S
  have:=D s m
  simp only[AR3,Bool.and_eq_true]at this
  have q:=this.2
  rw[S]at q
  cases hd:s.dst with
  |no=>rw[hd]at q;simp[AcV]at q
  |ps=>rw[hd]at q;simp[AcV]at q
  |to p=>exact⟨p,rfl⟩
variable{P:Program}
abbrev APj:=List (Nat×List (Nat×Wk))
def AbK(id:Nat):APj->Option (List (Nat×Wk))
 |[]=>none
 |(i,l)::r=>if i=id then some l else AbK id r
def trC(P:Program)(C:FX)(ords:APj):Code->Option AC
 |.skip=>some .skip
 |.region id ops draw=>match draw with
  |false=>Ap (AJF P C ops [] 0 ops.toList) λl=>some (.ops l)
  |true=>Ap (AbK id ords) λl=>Ap (AJs P C ops l) λss=>match ATB ops (λi=>((ASB ops.toList [])[i]?).getD []) ss with
   |true=>some (.reg (EC (λi=>((ASB ops.toList [])[i]?).getD []) [] ss))
   |false=>none
 |.seq a b=>Ap (trC P C ords a) λa=>Ap (trC P C ords b) λb=>some (.seq a b)
 |.cond c a b=>Ap (AWI C [] 0 c) λx=>Ap (trC P C ords a) λa=>Ap (trC P C ords b) λb=>some (.cond x a b)
 |.block id c=>Ap (trC P C ords c) λc=>some (.block id c)
 |.loop c=>Ap (trC P C ords c) λc=>some (.loop c)
 |.exit id=>some (.exit id)
 |.ret=>some .ret
 |.scope c=>trC P C ords c
 |.label _=>some .skip
 |_=>none
def Fr(w0:World)(C:FX)(ρ0:Loc)(H0:Heap)(n0:Nat)(R:Ih)(H:Heap)(n:Nat)(a:Act)(w:World):Prop:=∃ρ,DZ w0 ρ H n w/\Rg C ρ R a/\IE ρ0 H0 n0 ρ H n
theorem least{p:Nat->Prop}(h:∃m,p m):∃m,p m/\∀j,p j->m<=j:=by
 obtain⟨m,i⟩:=h
 induction m using Nat.strongRecOn with
 |_ m k=>
  by_cases h:∃j,j<m/\p j
  ·obtain⟨j,d,q⟩:=h;exact k j d q
  ·refine⟨m,i,λj d=>?_⟩
   rcases Nat.lt_or_ge j m with f|g
   ·exact absurd ⟨j,f,d⟩ h
   ·exact g
open Classical in
def lst(p:Nat->Prop):Nat:=if h:∃m,p m then(least h).choose else 0
theorem ARP{p:Nat->Prop}(h:∃m,p m):p (lst p)/\∀j,p j->lst p<=j:=by
 unfold lst
 rw[dif_pos h]
 exact(least h).choose_spec
theorem AUk{C:FX}{ρ:Loc}{R:Ih}{a:Act}:zH C ρ (.mk [] R) 0 [] a:=⟨rfl,λt ev h=>by cases h⟩
section
variable{w0:World}{C:FX}{ords:APj}{ρ0:Loc}{H0:Heap}{n0:Nat}{G:AY}{call:Au}{lf:Nat}
theorem AD6(hm:P.follows .mixedOrders=true)(hc:mV P w0 call)(hg:Xf w0 G):∀(c:Code) (I:AC),trC P C ords c=some I->∀(Q:Exit->Act->World->Prop) (R:Ih) (H:Heap) (n:Nat) (k:K) (x:KX) (r:K) (a:Act) (w:World),
 (∀R H n a w,k R H n->Fr w0 C ρ0 H0 n0 R H n a w->Q .normal a w)->(∀i R H n a w,x i R H n->Fr w0 C ρ0 H0 n0 R H n a w->Q (.exit i) a w)->(∀R H n a w,r R H n->Fr w0 C ρ0 H0 n0 R H n a w->Q .ret a w)->
 I.ex G call lf R H n k x r->Fr w0 C ρ0 H0 n0 R H n a w->c.wp P Q a w:=by
 intro c
 induction c with
 |skip=>
  intro I h Q R H n k x r a w u A v q g
  cases h
  exact wp_skip (u _ _ _ _ _ q g)
 |region id X Y=>
  intro I h Q R H n k x r a w u A v q g
  obtain⟨V,O,L,B⟩:=g
  cases Y with
  |false=>
   simp only[trC]at h
   obtain⟨l,W,e⟩:=AB.1 h;cases e
   have f:Qa l G call (.mk [] R) H n (λE H n=>k E.rg H n):=q
   exact wp_region_list (AIa (ρ0:=ρ0) (H0:=H0) (n0:=n0) hc hg (λE H n a w V hK O v B=>u _ _ _ _ _ hK ⟨V,O,v,B⟩) X.toList [] 0 l W _ H n a w V f O L AUk B)
  |true=>
   simp only[trC]at h
   obtain⟨l,W,h⟩:=AB.1 h
   obtain⟨ss,d2,h⟩:=AB.1 h
   split at h
   ·rename_i Z
    cases h
    have R0:=ARh d2 Z
    have f:Bl (EC (λi=>((ASB X.toList [])[i]?).getD []) [] ss) G call (.mk [] R) H n (λE H n=>k E.rg H n):=q
    exact AV8 hm R0 hc hg O L f λE H n a w d3 hK d4 D d0=>u _ _ _ _ _ hK ⟨d3,d4,D,B.trans d0⟩
   ·cases h
 |seq c1 c2 S T=>
  intro I h Q R H n k x r a w u A v q g
  simp only[trC]at h
  obtain⟨y,U,h⟩:=AB.1 h
  obtain⟨a2,h2,e⟩:=AB.1 h;cases e
  have f:y.ex G call lf R H n (λR H n=>a2.ex G call lf R H n k x r) x r:=q
  refine wp_seq (S y U _ R H n _ x r a w ?_ ?_ ?_ f g)
  ·intro R H n a w F d
   exact T a2 h2 Q R H n k x r a w u A v F d
  ·intro i R H n a w M d;exact A i R H n a w M d
  ·intro R H n a w D d;exact v R H n a w D d
 |cond c c1 c2 S T=>
  intro I h Q R H n k x r a w u A v q g
  simp only[trC]at h
  obtain⟨cx,d5,h⟩:=AB.1 h
  obtain⟨y,U,h⟩:=AB.1 h
  obtain⟨a2,h2,e⟩:=AB.1 h;cases e
  have f:AZ (cx.ev (.mk [] R)) true (y.ex G call lf R H n k x r) (a2.ex G call lf R H n k x r):=q
  rw[bV]at f
  obtain⟨t,ht,f⟩:=f
  obtain⟨V,O,L,B⟩:=g
  have hv:=AQc (E:=.mk [] R) L AUk c cx d5
  rw[ht]at hv
  simp only[Aa]at hv
  refine wp_cond_split hv (λe=>?_) (λe=>?_)
  ·rw[if_pos e]at f
   exact S y U Q R H n k x r a w u A v f ⟨V,O,L,B⟩
  ·rw[if_neg (by simp[e])]at f
   exact T a2 h2 Q R H n k x r a w u A v f ⟨V,O,L,B⟩
 |block id c ih=>
  intro I h Q R H n k x r a w u A v q g
  simp only[trC]at h
  obtain⟨y,U,e⟩:=AB.1 h;cases e
  have f:y.ex G call lf R H n k (Gz id k x) r:=q
  refine wp_block (ih y U _ R H n k _ r a w ?_ ?_ ?_ f g)
  ·intro R H n a w F d;exact u R H n a w F d
  ·intro i R H n a w M d
   simp only[Exit.inBlock]
   cases hb:Nat.beq i id with
   |true=>
    have N:(Bool.rec (motive:=λ_=>Prop->Prop->Prop) (λa _=>a) (λ_ b=>b) (Nat.beq i id) (x i R H n) (k R H n):Prop):=M
    rw[hb]at N
    rw[if_pos (Nat.eq_of_beq_eq_true hb)]
    exact u R H n a w N d
   |false=>
    have N:(Bool.rec (motive:=λ_=>Prop->Prop->Prop) (λa _=>a) (λ_ b=>b) (Nat.beq i id) (x i R H n) (k R H n):Prop):=M
    rw[hb]at N
    rw[if_neg (λe=>by subst e;simp at hb)]
    exact A i R H n a w N d
  ·intro R H n a w D d;exact v R H n a w D d
 |loop c ih=>
  intro I h Q R H n k x r a w u A v q g
  simp only[trC]at h
  obtain⟨y,U,e⟩:=AB.1 h;cases e
  have f:Y1 (AC.ex y) G call lf lf R H n x r:=q
  have J:∃m R H n,Y1 (AC.ex y) G call lf m R H n x r/\Fr w0 C ρ0 H0 n0 R H n a w:=⟨lf,R,H,n,f,g⟩
  refine wp_loop (λa w=>∃m R H n,Y1 (AC.ex y) G call lf m R H n x r/\Fr w0 C ρ0 H0 n0 R H n a w) (λa w=>lst λm=>∃R H n,Y1 (AC.ex y) G call lf m R H n x r/\Fr w0 C ρ0 H0 n0 R H n a w) J ?_
  intro a w hI
  obtain⟨hp,_⟩:=ARP hI
  cases d1:lst (λm=>∃R H n,Y1 (AC.ex y) G call lf m R H n x r/\Fr w0 C ρ0 H0 n0 R H n a w)with
  |zero=>
   rw[d1]at hp
   obtain⟨R,H,n,W,_⟩:=hp
   exact(show False from W).elim
  |succ m=>
   rw[d1]at hp
   obtain⟨R,H,n,W,g⟩:=hp
   have d6:y.ex G call lf R H n (λR H n=>Y1 (AC.ex y) G call lf m R H n x r) x r:=W
   refine ih y U _ R H n _ x r a w ?_ ?_ ?_ d6 g
   ·intro R H n a' w' F d
    refine⟨⟨m,R,H,n,F,d⟩,?_⟩
    have:=(ARP (p:=λm=>∃R H n,Y1 (AC.ex y) G call lf m R H n x r/\Fr w0 C ρ0 H0 n0 R H n a' w') ⟨m,R,H,n,F,d⟩).2 m ⟨R,H,n,F,d⟩
    omega
   ·intro i R H n a w M d;exact A i R H n a w M d
   ·intro R H n a w D d;exact v R H n a w D d
 |exit id=>
  intro I h Q R H n k x r a w u A v q g
  cases h
  exact wp_exit (A id _ _ _ _ _ q g)
 |ret=>
  intro I h Q R H n k x r a w u A v q g
  cases h
  exact wp_ret (v _ _ _ _ _ q g)
 |scope c ih=>
  intro I h Q R H n k x r a w u A v q g
  simp only[trC]at h
  exact wp_scope_straight (ih I h _ R H n k x r a w u A v q g)
 |label l=>
  intro I h Q R H n k x r a w u A v q g
  cases h
  exact wp_label (u _ _ _ _ _ q g)
 |_=>intro I h;simp only[trC]at h;cases h
end
variable{P:Program}
def AIn(P:Program)(C:FX):List ResultVar->Option (List AR)
 |[]=>some []
 |.tmp t::r=>if t<C.nt then if C.loc t then none else Ap (AIn P C r) λl=>some (.tmp (PK t)::l)else none
 |.cell a ty::r=>if a<C.nt then if C.loc a then none else match La P ty with
  |some true=>Ap (szT P ty) λn=>Ap (AIn P C r) λl=>some (.celln (PK a) n::l)
  |some false=>Ap (AIn P C r) λl=>some (.cell1 (PK a)::l)
  |none=>none
  else none
theorem AC6(r:AR)(l:List AR)(G:AY)(R:Ih)(H:Heap):AIV (r::l) G R H=BO (r.get G R H) λv=>BO (AIV l G R H) λvs=>some (v::vs):=rfl
def AEn(tmps:Array Value):ResultVar->Sem Value
 |.tmp t=>pure (tmps.getD t undef)
 |.cell b t=>do loadVar t (<-asAddr (tmps.getD b undef))
theorem AJX{w0:World}{C:FX}{ρ:Loc}{R:Ih}{H:Heap}{n:Nat}{a:Act}{w:World}{G:AY}(D:Xf w0 G)(hh:DZ w0 ρ H n w)(K:Rg C ρ R a):∀(U:List ResultVar) (l:List AR) (vs:LV),AIn P C U=some l->AIV l G R H=some vs->
 ∃B,(U.mapM (AEn a.tmps)).run P w=.ok B w/\Bq ρ vs B
 |[],l,vs,h,d=>by
  cases h
  have N:some []=some vs:=d
  cases N
  exact⟨[],by simp,Bq.nil⟩
 |.tmp t::r,l,vs,h,d=>by
  simp only[AIn]at h
  split at h
  ·rename_i V
   split at h
   ·cases h
   ·rename_i O
    obtain⟨M,k,e⟩:=AB.1 h;cases e
    rw[AC6,BX]at d
    obtain⟨v,p,d⟩:=d
    rw[BX]at d
    obtain⟨q,u,d⟩:=d
    cases d
    have f:some (Ls (T.Du (PK t) R))=some v:=p
    cases f
    obtain⟨B,x,g⟩:=AJX D hh K r M q k u
    refine⟨a.tmps.getD t undef::B,?_,.cons (K.reg t V (by simpa using O)) g⟩
    simp only[List.mapM_cons,AEn,Sem.run_bind,Sem.run_pure,Result.andThen_ok,x]
  ·cases h
 |.cell b ty::r,l,vs,h,d=>by
  simp only[AIn]at h
  split at h
  ·rename_i W
   split at h
   ·cases h
   ·rename_i O
    have i:=K.reg b W (by simpa using O)
    split at h
    ·rename_i E
     obtain⟨m,X,h⟩:=AB.1 h
     obtain⟨M,k,e⟩:=AB.1 h;cases e
     rw[AC6,BX]at d
     obtain⟨v,p,d⟩:=d
     rw[BX]at d
     obtain⟨q,u,d⟩:=d
     cases d
     obtain⟨B,x,g⟩:=AJX D hh K r M q k u
     have f:Va (ldP (Ls (T.Du (PK b) R)) G H m) (λL=>some (.agg L))=some v:=p
     obtain⟨val,y,F⟩:=AUp (P:=P) hh D i E X f
     refine⟨val::B,?_,.cons F g⟩
     have Q:(AEn a.tmps (.cell b ty)).run P w=.ok val w:=by
      obtain⟨Y,I,_⟩:=YJ.1 f
      obtain⟨S,_,A,_⟩:=oV hh D i I
      have J:a.tmps.getD b undef=.pointer (some S):=A
      rw[<-y]
      simp only[AEn,Instr.loadAt,A,J,asAddr,Instr.sureAddr]
     simp only[List.mapM_cons,Sem.run_bind,Q,Sem.run_pure,Result.andThen_ok,x]
    ·rename_i E
     obtain⟨M,k,e⟩:=AB.1 h;cases e
     rw[AC6,BX]at d
     obtain⟨v,p,d⟩:=d
     rw[BX]at d
     obtain⟨q,u,d⟩:=d
     cases d
     obtain⟨B,x,g⟩:=AJX D hh K r M q k u
     have f:Va (ldP (Ls (T.Du (PK b) R)) G H 1) (λL=>nth L 0)=some v:=p
     obtain⟨val,y,F⟩:=ATy (P:=P) hh D i E f
     refine⟨val::B,?_,.cons F g⟩
     have Q:(AEn a.tmps (.cell b ty)).run P w=.ok val w:=by
      obtain⟨Y,I,_⟩:=YJ.1 f
      obtain⟨S,_,A,_⟩:=oV hh D i I
      have J:a.tmps.getD b undef=.pointer (some S):=A
      rw[<-y]
      simp only[AEn,Instr.loadAt,A,J,asAddr,Instr.sureAddr]
     simp only[List.mapM_cons,Sem.run_bind,Q,Sem.run_pure,Result.andThen_ok,x]
    ·cases h
  ·cases h
variable{P:Program}
theorem AXB{ρ:Loc}{vs:LV}{d:List Value}(h:Bq ρ vs d):Aa ρ (JF vs) (if h:d.toArray.size=1 then d.toArray[0]else .tuple d.toArray):=by
 match vs,d,h with
 |[],d,h=>
  simp only[AF1]at h;subst h
  simp only[List.size_toArray,List.length_nil]
  exact⟨#[],rfl,by simp⟩
 |[v],d,h=>
  obtain⟨u,g,rfl,i,f⟩:=Jg.1 h
  simp only[AF1]at f;subst f
  show Aa ρ v _
  simpa using i
 |v::w::vs,d,h=>
  obtain⟨u,g,rfl,i,f⟩:=Jg.1 h
  obtain⟨p,k,rfl,m,q⟩:=Jg.1 f
  rw[dif_neg (by simp)]
  exact⟨_,rfl,by simpa using h⟩
theorem AQm{w0:World}{C:FX}{ρ:Loc}{R:Ih}{H:Heap}{n:Nat}{a:Act}{w:World}{G:AY}(g:Xf w0 G)(hh:DZ w0 ρ H n w)(i:Rg C ρ R a){fn:Func}{l:List AR}{vs:LV}
 (k:AIn P C fn.results.toList=some l) (m:AIV l G R H=some vs):∃u,(results fn a.tmps).run P w=.ok u w/\Aa ρ (JF vs) u:=by
 obtain⟨p,f,d⟩:=AJX (P:=P) g hh i fn.results.toList l vs k m
 refine⟨_,?_,AXB d⟩
 unfold results
 rw[Array.mapM_eq_mapM_toList]
 have e:(λx:ResultVar=>match x with
  |.tmp t=>(pure (a.tmps.getD t undef):Sem Value)
  |.cell b t=>do loadVar t (<-asAddr (a.tmps.getD b undef)))=AEn a.tmps:=by
  funext x;cases x<;>rfl
 simp only[map_eq_pure_bind,bind_assoc,pure_bind]
 rw[Sem.run_bind]
 have q:(List.mapM (λx:ResultVar=>match x with
  |.tmp t=>(pure (a.tmps.getD t undef):Sem Value)
  |.cell b t=>do loadVar t (<-asAddr (a.tmps.getD b undef))) fn.results.toList).run P w=.ok p w:=by
  rw[e];exact f
 erw [q]
 simp
def AOg(f:Nat->Bool):Nat->Bool
 |0=>true
 |n+1=> !f n&&AOg f n
theorem AH7{f:Nat->Bool}:∀{n:Nat},AOg f n=true->∀i,i<n->f i=false
 |0,_,i,hi=>by omega
 |n+1,h,i,hi=>by
  simp only[AOg,Bool.and_eq_true,Bool.not_eq_true']at h
  rcases Nat.lt_or_ge i n with d|g
  ·exact AH7 h.2 i d
  ·have:i=n:=by omega
   subst this;exact h.1
def AcX(nt:Nat):Bool->Dst
 |true=>.to (PK nt)
 |false=>.no
def trF(P:Program)(loc:Nat->Bool)(df:Bool)(ords:APj)(dg:Nat)(fn:Func):Option AF:=
 match fn.body with
 |some c=>Ap (trC P ⟨loc,fn.ntmps,df⟩ ords c) λac=>Ap (AIn P ⟨loc,fn.ntmps,df⟩ fn.results.toList) λrs=>
  match Nat.ble (fn.params.size+fn.nfree) fn.ntmps&&AOg loc (fn.params.size+fn.nfree)with
  |true=>some (.mk (fn.params.size+fn.nfree) ac rs (AcX fn.ntmps df) dg)
  |false=>none
 |none=>none
def AR9:Dst->Bool
 |.no=>true
 |_=>false
def AF.dp:AF->Dst|.mk _ _ _ d _=>d|.nat _=>.ps
def AF.dg:AF->Nat|.mk _ _ _ _ g=>g|.nat _=>0
def AF.isNat:AF->Bool|.mk _ _ _ _ _=>false|.nat _=>true
def Ret(w0:World)(ρ:Loc)(H:Heap)(n:Nat)(k:KV)(e:Ending)(w':World):Prop:=
 ∃u v H' n' ρ',e=.returned u/\k v H' n'/\Aa ρ' v u/\DZ w0 ρ' H' n' w'/\IE ρ H n ρ' H' n'
def Abt(P:Program)(f:Nat)(k:Nk):Prop:=AVP P f/\∀(w0:World) (G:AY),Xf w0 G->∀(vargs:List V) (H:Heap) (n:Nat) (kk:KV),AEH k G vargs H n kk->∀(ρ:Loc) (w:World) (args:Array Value),DZ w0 ρ H n w->Bq ρ vargs args.toList->
 Calls P f args w (Ret w0 ρ H n kk)
structure AKK(P:Program)(F:T AF):Prop where
 mixed:P.follows .mixedOrders=true
 AdR:∀f k,T.get F f=some (.nat k)->Abt P f k
 fns:∀f af,T.get F f=some af->af.isNat=false->∃fn loc df ords,P.funcs[f]? =some fn/\(fn.name== "runtime.NumGoroutine")=false/\trF P loc df ords af.dg fn=some af
 dgs:∀f af af',T.get F f=some af->af.isNat=false->af.dp≠.no->T.get F af.dg=some af'->af'.dp=.no
def ATs(P:Program)(w0:World)(call:Au)(f:Nat):Prop:=∀(vargs:List V) (H:Heap) (n:Nat) (k:KV),call f vargs H n k->∀(ρ:Loc) (w:World) (args:Array Value),DZ w0 ρ H n w->Bq ρ vargs args.toList->
 CallsD P f args .returning w (λe u' w'=>u'=.returning/\Ret w0 ρ H n k e w')
theorem AHF:∀(args:List V) (i:Nat) (R:Ih) (t:Nat),Ls (T.Du (PK t) (nJ args i R))=if i<=t/\t<i+args.length then(args[t-i]?).getD .undef else Ls (T.Du (PK t) R)
 |[],i,R,t=>by
  show Ls (T.Du (PK t) R)=_
  rw[if_neg (by simp)]
 |v::vs,i,R,t=>by
  show Ls (T.Du (PK t) (nJ vs (i+1) (T.set R i v)))=_
  rw[AHF vs (i+1) (T.set R i v) t]
  by_cases h:i+1<=t/\t<i+1+vs.length
  ·rw[if_pos h,if_pos (by simp;omega)]
   obtain⟨m,f⟩:∃m,t=i+1+m:=⟨t-(i+1),by omega⟩
   subst f
   rw[show i+1+m-(i+1)=m by omega,show i+1+m-i=m+1 by omega]
   simp
  ·rw[if_neg h]
   by_cases d:t=i
   ·subst d
    rw[if_pos (by simp)]
    show Ls (T.get (T.set R t v) t)=_
    simp
   ·rw[if_neg (by simp;omega)]
    show Ls (T.get (T.set R i v) t)=_
    rw[T.Ac _ _ (λe=>d e.symm)]
    rfl
section
variable{w0:World}{G:AY}{F:T AF}{lf:Nat}
theorem AXk{C:FX}{ρ:Loc}{vargs:List V}{args:Array Value}(d:Bq ρ vargs args.toList)(p:args.size<=C.nt)(k:∀i,i<args.size->C.loc i=false):
 Rg C ρ (nJ vargs 0 .e) {tmps:=args++Array.replicate (C.nt-args.size) undef,defers:=[]}:=by
 have m:vargs.length=args.size:=by rw[d.length];simp
 refine⟨by simp;omega,λt u w=>?_,?_⟩
 ·rw[AHF]
  by_cases h:t<vargs.length
  ·rw[if_pos ⟨Nat.zero_le _,by omega⟩,Nat.sub_zero]
   obtain⟨v,q,f⟩:=d.get (i:=t) (c:=(vargs[t]?).getD .undef) (by rw[List.getElem?_eq_getElem h];rfl)
   have:({tmps:=args++Array.replicate (C.nt-args.size) undef,defers:=[]}:Act).eval (.tmp t)=v:=by
    have g:args[t]? =some v:=by simpa using q
    simp only[Act.eval]
    rw[Array.getD_eq_getD_getElem?,Array.getElem?_append_left (by omega),g]
    rfl
   rw[this];exact f
  ·rw[if_neg (by omega)]
   simp[Aa]
 ·rw[AHF,if_neg (show ¬(0<=C.nt/\C.nt<0+vargs.length)by omega)]
  simp only[T.AKk,AU2]
  split
  ·rfl
  ·trivial
theorem AQd{dg:Nat}{call:Au}(O:ATs P w0 call dg)(C:∀x H n k,call dg x H n k->AVP P dg){fn:Func}{tmps:Array Value}{R:Ending->World->Prop}(k:Heap->Nat->Prop){ρ0:Loc}{H0:Heap}{n0:Nat}:
 ∀(l:List V) (D:List Deferred) (ρ:Loc) (H:Heap) (n:Nat) (w:World),DL ρ l D->DZ w0 ρ H n w->IE ρ0 H0 n0 ρ H n->VI dg l call H n k->
  (∀i H' n' w',k H' n'->DZ w0 i H' n' w'->ρ.le i->IE ρ0 H0 n0 i H' n'->Leaves P fn tmps R [] .returning w')->Leaves P fn tmps R D .returning w
 |[],D,ρ,H,n,w,hd,hh,y,A,G=>by
  have:D=[]:=hd
  subst this
  exact G ρ H n w A hh (Loc.le.refl _) y
 |v::l,D,ρ,H,n,w,hd,hh,y,A,G=>by
  obtain⟨d,I,rfl,⟨f,Q,S,m,p,rfl,rfl,J,K⟩,L⟩:=hd
  have q:Ji (Nat.beq f dg) (call f (cat Q S) H n λ_ H n=>VI dg l call H n k):=A
  rw[FM]at q
  obtain⟨T,g⟩:=q
  have M:f=dg:=Nat.eq_of_beq_eq_true T
  subst M
  have E:(invoke (.fn (.func f) p) m).run P w=.ok (.enter f (m++p)) w:=by
   simpa[invoke]using qj (C _ _ _ _ g) (m++p) w
  refine leaves_cons (by simp) E ?_
  rw[AOk]at g
  refine(O _ H n _ g ρ w (m++p) hh (by simpa using J.append K)).mono ?_
  rintro e U w' ⟨rfl,u,v,H',n',i,rfl,F,W,N,B⟩
  simp only[settle]
  exact AQd O C k l I i H' n' w' (L.mono B.le) N (y.trans B) F fun ρ'' H'' n'' w'' h1 h2 h3 h4=>G ρ'' H'' n'' w'' h1 h2 (B.le.trans h3) h4
theorem AWz(hF:AKK P F)(hg:Xf w0 G):∀fuel,mV P w0 (run F G lf fuel)/\∀f I,T.get F f=some I->I.dp=.no->ATs P w0 (run F G lf fuel) f
 |0=>⟨λ_ _ _ _ _ h=>(show False from h).elim,λ_ _ _ _ _ _ _ _ h=>(show False from h).elim⟩
 |fuel+1=>by
  obtain⟨d9,i2⟩:=AWz hF hg fuel
  have f3:∀(f:Nat) (g:List V) (H:Heap) (n:Nat) (k:KV),run F G lf (fuel+1) f g H n k->(∀nk,T.get F f≠some (.nat nk))->AVP P f/\∃I q c,T.get F f=some I/\P.funcs[f]? =some q/\q.body=some c/\
   ∀(M:Loc) (w:World) (p:Array Value),DZ w0 M H n w->Bq M g p.toList->
    (c.wp P (bodyPostD P q (Ret w0 M H n k)) {tmps:=p++Array.replicate (q.ntmps-p.size) undef,defers:=[]} w)/\
    (I.dp=.no->c.wp P (bodyPost P q (Ret w0 M H n k)) {tmps:=p++Array.replicate (q.ntmps-p.size) undef,defers:=[]} w):=by
   intro f g H n k h f0
   have h':Gu (T.get F f) λI=>uz I G (run F G lf fuel) lf g H n k:=h
   rw[JR]at h'
   obtain⟨I,U,h'⟩:=h'
   have g3:I.isNat=false:=by
    cases I with
    |mk=>rfl
    |nat nk=>exact absurd U (f0 nk)
   obtain⟨q,d4,df,ords,d5,f6,N⟩:=hF.fns f I U g3
   unfold trF at N
   split at N
   ·rename_i c hb
    obtain⟨ac,f7,N⟩:=AB.1 N
    obtain⟨rs,i3,N⟩:=AB.1 N
    split at N
    ·rename_i d6
     simp only[Bool.and_eq_true]at d6
     have g4:q.params.size+q.nfree<=q.ntmps:=Nat.le_of_ble_eq_true d6.1
     have g5:=AH7 d6.2
     have f4:=Option.some.inj N
     refine⟨⟨q,d5,by rw[hb];rfl,f6⟩,I,q,c,U,d5,hb,?_⟩
     intro M w p hh J
     rw[<-f4]at h'
     have h2:Ji (Nat.beq (len g) (q.params.size+q.nfree)) (ac.ex G (run F G lf fuel) lf (nJ g 0 .e) H n
      (JE rs I.dg (AcX q.ntmps df) G (run F G lf fuel) k) noX (JE rs I.dg (AcX q.ntmps df) G (run F G lf fuel) k)):=h'
     rw[FM]at h2
     obtain⟨g6,f8⟩:=h2
     have f9:g.length=q.params.size+q.nfree:=by simpa using Nat.eq_of_beq_eq_true g6
     have k0:p.size=q.params.size+q.nfree:=by rw[<-f9,J.length];simp
     have R:Fr w0 ⟨d4,q.ntmps,df⟩ M H n (nJ g 0 .e) H n {tmps:=p++Array.replicate (q.ntmps-p.size) undef,defers:=[]} w:=
      ⟨M,hh,AXk (C:=⟨d4,q.ntmps,df⟩) J (by show p.size<=q.ntmps;omega) (λi hi=>g5 i (by omega)),IE.refl _ _ _⟩
     have f5:∀y A D B E,(∃l,AIV rs G y A=some l/\k (JF l) A D)->∀O,DZ w0 O A D E->Rg ⟨d4,q.ntmps,df⟩ O y B->IE M H n O A D->
      ∃v,(results q B.tmps).run P E=.ok v E/\Ret w0 M H n k (.returned v) E:=by
      rintro y A D B E ⟨l,hl,hk⟩ O Z W Q
      obtain⟨u,hu,i4⟩:=AQm (P:=P) hg Z W i3 hl
      exact⟨u,hu,u,_,_,_,_,rfl,hk,i4,Z,Q⟩
     cases df with
     |false=>
      have L:∀y A D B E,JE rs I.dg .no G (run F G lf fuel) k y A D->Fr w0 ⟨d4,q.ntmps,false⟩ M H n y A D B E->
       B.defers=[]/\∃v,(results q B.tmps).run P E=.ok v E/\Ret w0 M H n k (.returned v) E:=by
       rintro y A D B E K ⟨O,Z,W,Q⟩
       have X:Gu (AIV rs G y A) λl=>k (JF l) A D:=K
       rw[JR]at X
       exact⟨by simpa using W.dfs,f5 y A D B E X O Z W Q⟩
      refine⟨?_,λ_=>?_⟩
      ·refine AD6 hF.mixed d9 hg c ac f7 _ _ _ _ _ _ _ _ _ ?_ ?_ ?_ f8 R
       ·intro y A D B E K S
        obtain⟨hd,hv⟩:=L y A D B E K S
        show Leaves P q B.tmps _ B.defers .returning E
        rw[hd];exact hv
       ·intro i y A D B E K S;exact(show False from K).elim
       ·intro y A D B E K S
        obtain⟨hd,hv⟩:=L y A D B E K S
        show Leaves P q B.tmps _ B.defers .returning E
        rw[hd];exact hv
      ·refine AD6 hF.mixed d9 hg c ac f7 _ _ _ _ _ _ _ _ _ ?_ ?_ ?_ f8 R
       ·intro y A D B E K S;exact L y A D B E K S
       ·intro i y A D B E K S;exact(show False from K).elim
       ·intro y A D B E K S;exact L y A D B E K S
     |true=>
      have g7:I.dp=.to (PK q.ntmps):=by rw[<-f4];rfl
      have L:∀y A D B E,JE rs I.dg (.to (PK q.ntmps)) G (run F G lf fuel) k y A D->Fr w0 ⟨d4,q.ntmps,true⟩ M H n y A D B E->
       Leaves P q B.tmps (Ret w0 M H n k) B.defers .returning E:=by
       rintro y A D B E K ⟨O,Z,W,Q⟩
       have X:VI I.dg (AQu (Ls (T.Du (PK q.ntmps) y))) (run F G lf fuel) A D (λH n=>AL8 rs G k y H n):=K
       have hd:=W.dfs
       simp only[if_true]at hd
       have d7:∀Y d0 d3 f1,AL8 rs G k y d0 d3->DZ w0 Y d0 d3 f1->O.le Y->IE M H n Y d0 d3->Leaves P q B.tmps (Ret w0 M H n k) [] .returning f1:=by
        intro Y d0 d3 f1 i5 g8 g4 g0
        have g9:Gu (AIV rs G y d0) λl=>k (JF l) d0 d3:=i5
        rw[JR]at g9
        exact f5 y d0 d3 B f1 g9 Y g8 (W.mono g4) g0
       cases hl:AQu (Ls (T.Du (PK q.ntmps) y))with
       |nil=>
        rw[hl]at hd X
        have:B.defers=[]:=hd
        rw[this]
        exact d7 O A D E X Z (Loc.le.refl _) Q
       |cons v l=>
        rw[hl]at hd X
        obtain⟨d,k1,he,⟨f',fa,ca,k2,k3,rfl,_,_,_⟩,_⟩:=hd
        have i0:Ji (Nat.beq f' I.dg) (run F G lf fuel f' (cat fa ca) A D λ_ H n=>VI I.dg l (run F G lf fuel) H n (λH n=>AL8 rs G k y H n)):=X
        rw[FM]at i0
        obtain⟨i6,d8⟩:=i0
        have i7:f'=I.dg:=Nat.eq_of_beq_eq_true i6
        have i1:∃f2,T.get F I.dg=some f2:=by
         cases fuel with
         |zero=>exact(show False from d8).elim
         |succ m=>
          have:Gu (T.get F f') λI=>uz I G (run F G lf m) lf (cat fa ca) A D (λ_ H n=>VI I.dg l (run F G lf (m+1)) H n (λH n=>AL8 rs G k y H n))∨True:=by
           have h5:Gu (T.get F f') λi8=>uz i8 G (run F G lf m) lf (cat fa ca) A D (λ_ H n=>VI I.dg l (run F G lf (m+1)) H n (λH n=>AL8 rs G k y H n)):=d8
           rw[JR]at h5⊢
           obtain⟨x,K,_⟩:=h5
           exact⟨x,K,.inr trivial⟩
          rw[JR]at this
          obtain⟨x,K,_⟩:=this
          exact⟨x,by rw[<-i7];exact K⟩
        obtain⟨f2,d2⟩:=i1
        have d1:=hF.dgs f I f2 U g3 (by rw[g7];simp) d2
        refine AQd (i2 I.dg f2 d2 d1) (λva H n k h=>(d9 I.dg va H n k h).1) _ (.fn f' fa ca::l) B.defers O A D E ?_ Z Q X d7
        have:=W.dfs
        simp only[if_true]at this
        rw[hl]at this
        exact this
      refine⟨?_,λd1=>by rw[g7]at d1;cases d1⟩
      refine AD6 hF.mixed d9 hg c ac f7 _ _ _ _ _ _ _ _ _ ?_ ?_ ?_ f8 R
      ·intro y A D B E K S;exact L y A D B E K S
      ·intro i y A D B E K S;exact(show False from K).elim
      ·intro y A D B E K S;exact L y A D B E K S
    ·cases N
   ·cases N
  refine⟨?_,?_⟩
  ·intro f g H n k h
   by_cases f0:∃nk,T.get F f=some (.nat nk)
   ·obtain⟨nk,g1⟩:=f0
    have h':Gu (T.get F f) λI=>uz I G (run F G lf fuel) lf g H n k:=h
    rw[g1]at h'
    have h':AEH nk G g H n k:=h'
    exact⟨(hF.AdR f nk g1).1,fun M w p hh J=>(hF.AdR f nk g1).2 w0 G hg g H n k h' M w p hh J⟩
   obtain⟨d5,I,q,c,U,S,hb,g2⟩:=f3 f g H n k h λnk hk=>f0 ⟨nk,hk⟩
   refine⟨d5,fun M w p hh J=>?_⟩
   exact calls_of_wp_defers S hb (g2 M w p hh J).1
  ·intro f I U d1 g H n k h M w p hh J
   obtain⟨d5,i9,q,c,d2,S,hb,g2⟩:=f3 f g H n k h λnk hk=>by rw[U]at hk;cases hk;cases d1
   have:i9=I:=Option.some.inj (d2.symm.trans U)
   subst this
   exact callsD_of_wp S hb ((g2 M w p hh J).2 d1)
end
variable{S S':Type}
def bF(t:(S->Prop)->Prop):Prop:=∃o:Option S,∀k,t k↔∃s,o=some s/\k s
theorem Ik(s:S):bF (λk:S->Prop=>k s):=⟨some s,λk=>by simp⟩
theorem G8:bF (λ_:S->Prop=>False):=⟨none,λk=>by simp⟩
theorem Jw{α:Type}(o:Option α){f:α->(S->Prop)->Prop}(h:∀x,bF (f x)):bF (λk=>Gu o λx=>f x k):=by
 cases o with
 |none=>exact G8
 |some x=>exact h x
theorem ANw(o:Option V){f:V->(S->Prop)->Prop}(h:∀x,bF (f x)):bF (λk=>AL o λx=>f x k):=by
 cases o with
 |none=>exact G8
 |some x=>exact h x
theorem Gp(b:Bool){t:(S->Prop)->Prop}(h:bF t):bF (λk=>Ji b (t k)):=by
 cases b with
 |false=>exact G8
 |true=>exact h
theorem jU(n:Nat){f:Nat->(S->Prop)->Prop}(h:∀x,bF (f x)):bF (λk=>DT n λn=>f n k):=by
 have:=h n
 have e:(λk:S->Prop=>DT n λn=>f n k)=f n:=by funext k;rw[BL]
 rw[e];exact this
theorem AZU(v:V)(b:Bool){y m:(S->Prop)->Prop}(d:bF y)(f:bF m):bF (λk=>AZ v b (y k) (m k)):=by
 cases v<;>try exact G8
 rename_i t
 cases t<;>cases b<;>first|exact d|exact f
theorem ATj(v:V)(b:Bool){y m:(S->Prop)->Prop}(f:bF y)(d:bF m):bF (λk=>wP v b (y k) (m k)):=by
 cases v<;>try exact G8
 ·rename_i t
  cases t<;>cases b<;>first|exact f|exact d
 ·rename_i l
  cases l
  ·exact d
  ·exact G8
theorem ASV(v:V){f:Nat->LV->LV->(S->Prop)->Prop}(h:∀g a c,bF (f g a c)):bF (λk=>V.Y8 v λg a c=>f g a c k):=by
 cases v<;>try exact G8
 exact h _ _ _
theorem PE{t:(S->Prop)->Prop}{u:S->(S'->Prop)->Prop}(g:bF t)(i:∀s,bF (u s)):bF (λk=>t λs=>u s k):=by
 obtain⟨o,f⟩:=g
 cases o with
 |none=>exact⟨none,λk=>by show t (λs=>u s k)↔_;rw[f];simp⟩
 |some s=>
  obtain⟨m,d⟩:=i s
  exact⟨m,λk=>by show t (λs=>u s k)↔_;rw[f];simp[d]⟩
theorem bF.mono{t:(S->Prop)->Prop}(h:bF t){k k':S->Prop}(f:∀s,k s->k' s)(g:t k):t k':=by
 obtain⟨o,d⟩:=h
 obtain⟨s,i,m⟩:=(d k).1 g
 exact(d k').2 ⟨s,i,f s m⟩
theorem bF.at{t:(S->Prop)->Prop}(h:bF t){k:S->Prop}(g:t k):∃s,k s/\∀k',k' s->t k':=by
 obtain⟨o,f⟩:=h
 obtain⟨s,i,m⟩:=(f k).1 g
 exact⟨s,m,λk' d=>(f k').2 ⟨s,i,d⟩⟩
abbrev St:=V×Heap×Nat
def D3(t:KV->Prop):Prop:=bF λk:St->Prop=>t λv H n=>k (v,H,n)
theorem QT(v:V)(H:Heap)(n:Nat):D3 λk=>k v H n:=Ik (S:=St) (v,H,n)
def F8(call:Au):Prop:=∀f a H n,D3 (call f a H n)
theorem AD0(esz d:Nat)(OS LS:EL)(H:Heap)(n:Nat):D3 (KH esz d OS LS H n):=jU _ λ_=>Gp _ (jU _ λ_=>QT _ _ _)
theorem AQo(id off ln esz f:Nat)(LS:EL)(H:Heap)(n:Nat)(b:Nu):D3 λk=>jw id off ln esz f LS H n k b:=by
 cases b with
 |arr g d c=>
  cases off with
  |zero=>
   have e:∀k,jw id 0 ln esz f LS H n k (.arr g d c)=Ji (band (Rk (Nat.add ln (len LS)) f) (band (Nat.beq esz g) (Nat.ble (Nat.add 0 ln) d))) (k (.F9 n 0 (Nat.add ln (len LS)) esz) (T.set (T.set H id .dead) n (.arr esz (Nat.add ln (len LS)) (Et LS ln c))) (Nat.succ n)):=by
    intro k
    show DT _ _=_
    simp only[BL]
    try rfl
   simp only[e]
   exact Gp _ (QT _ _ _)
  |succ off=>
   have e:∀k,jw id (off+1) ln esz f LS H n k (.arr g d c)=Ji (band (Rk (Nat.add ln (len LS)) f) (band (Nat.beq esz g) (Nat.ble (Nat.add (off+1) ln) d))) (Gu (CQ H id esz ln (off+1)) λi=>k (.F9 n 0 (Nat.add ln (len LS)) esz) (T.set (T.set H id .dead) n (.arr esz (Nat.add ln (len LS)) (Et LS ln (Et i 0 .e)))) (Nat.succ n)):=by
    intro k
    show DT _ _=_
    simp only[BL]
    try rfl
   simp only[e]
   exact Gp _ (Jw _ λ_=>QT _ _ _)
 |map=>exact G8
 |dead=>exact G8
 |qU=>exact G8
 |own=>exact G8
theorem AXa(v:V)(G:AY)(esz f:Nat)(LS:EL)(H:Heap)(n:Nat):D3 (APB v G esz f LS H n):=by
 cases v<;>try exact G8
 case Ad=>
  cases LS with
  |nil=>exact QT _ _ _
  |cons x g=>exact(show D3 (λk=>KH esz f [] (x::g) H n k)from AD0 esz f [] (x::g) H n)
 case sl id off ln cap e=>
  refine Gp _ (jU _ λd=>?_)
  cases h:Nat.ble d cap with
  |false=>exact Jw _ λ_=>AD0 _ _ _ _ _ _
  |true=>
   refine Jw _ λb=>?_
   cases b with
   |arr m i c=>exact Gp _ (QT _ _ _)
   |map=>exact G8
   |dead=>exact G8
   |qU=>exact G8
   |own=>exact G8
 case F9 id off ln e=>
  refine Gp _ ?_
  cases LS with
  |nil=>exact QT _ _ _
  |cons=>
   exact Jw _ λb=>AQo _ _ _ _ _ _ _ _ b
 case rsl=>exact Gp _ (Jw _ λ_=>AD0 _ _ _ _ _ _)
theorem AVc(v:V)(esz:Nat)(LS:EL)(H:Heap)(n:Nat):D3 (AMg v esz LS H n):=by
 have d:∀a b c,D3 (AKO a b c esz LS H n):=λa b c=>by
  refine Jw _ λb=>?_
  cases b with
  |arr g f c=>exact Gp _ (jU _ λ_=>QT _ _ _)
  |map=>exact G8
  |dead=>exact G8
  |qU=>exact G8
  |own=>exact G8
 cases v<;>try exact G8
 case Ad=>exact QT _ _ _
 case sl=>exact Gp _ (d _ _ _)
 case F9=>exact Gp _ (d _ _ _)
theorem AKM(m:V)(H:Heap)(f:ME->Nat->Option Nu)(v:V)(n:Nat):D3 λk=>AMG m H f λH=>k v H n:=by
 cases m<;>try exact G8
 exact Jw _ λ_=>Jw _ λ_=>QT _ _ _
theorem AQV(v:V){f:Nat->Nat->(S->Prop)->Prop}(h:∀a b,bF (f a b)):bF (λk=>V.AJY v λa b=>f a b k):=by
 cases v<;>try exact G8
 exact h _ _
theorem AKD(v:V){f:Nat->(S->Prop)->Prop}(h:∀a,bF (f a)):bF (λk=>V.AYk v λa=>f a k):=by
 cases v<;>try exact G8
 exact h _
theorem AXO{call:Au}(g:F8 call)(o:AE)(G:AY)(E:RS)(H:Heap)(n:Nat):D3 (o.ex G call E H n):=by
 cases o with
 |asg x=>exact QT _ _ _
 |st i x v=>exact Gp _ (Jw _ λ_=>QT _ _ _)
 |app d p x y=>exact Jw _ λ_=>AXa _ _ _ _ _ _ _
 |copy d x y=>exact Jw _ λ_=>AVc _ _ _ _ _
 |ASW c m k v=>exact AKM _ _ _ _ _
 |del c m k=>exact AKM _ _ _ _ _
 |AfG m=>exact AKM _ _ _ _ _
 |call f a=>exact g _ _ _ _
 |AT1 x a=>exact ASV _ λ_ _ _=>g _ _ _ _
 |defer dp x a=>exact ASV _ λ_ _ _=>QT _ _ _
 |cvB x=>exact Jw _ λ_=>AQV _ λ_ _=>jU _ λ_=>QT _ _ _
abbrev Sa:=Nu×(Nat->V)
def DA(t:KA->Prop):Prop:=bF λk:Sa->Prop=>t λb f=>k (b,f)
theorem AGy(b:Nu)(f:Nat->V):DA λk=>k b f:=Ik (S:=Sa) (b,f)
theorem AcU(o:AA)(E:RS):DA (o.al E):=by
 cases o with
 |alloc e d=>exact jU _ λ_=>AGy _ _
 |box x=>exact Gp _ (jU _ λ_=>AGy _ _)
 |ANv=>exact Gp _ (AGy _ _)
 |AJa=>exact Jw _ λ_=>AKD _ λ_=>Jw _ λ_=>AKD _ λ_=>Gp _ (AGy _ _)
 |AXp=>exact AGy _ _
 |qU=>exact AGy _ _
abbrev Se:=RS×Heap×Nat
def DE(t:KE->Prop):Prop:=bF λk:Se->Prop=>t λE H n=>k (E,H,n)
theorem AN5(E:RS)(H:Heap)(n:Nat):DE λk=>k E H n:=Ik (S:=Se) (E,H,n)
theorem AS0{call:Au}(f:F8 call)(o:AO)(G:AY)(d:Dst)(E:RS)(H:Heap)(n:Nat):DE (o.ex G call d E H n):=by
 cases o with
 |n o=>exact ANw _ λ_=>AN5 _ _ _
 |a o=>exact PE (u:=λs k=>DT n λn=>k (FW d (s.2 n) E,T.set H n s.1,Nat.succ n)) (AcU o E) λs=>jU _ λ_=>Ik _
 |e o=>exact PE (u:=λs k=>k (FW d s.1 E,s.2.1,s.2.2)) (AXO f o G E H n) λs=>Ik _
theorem AOs{call:Au}(f:F8 call)(o:AOp)(G:AY)(E:RS)(H:Heap)(n:Nat):DE (o.ex G call E H n):=by
 obtain⟨d,g,o⟩:=o
 cases g with
 |no=>exact AS0 f o G d E H n
 |on x b=>exact ATj _ _ (AS0 f o G d E H n) (AN5 _ _ _)
theorem Ab4(g:Gd)(G:AY)(E:RS)(H:Heap)(d:P2)(o:AN){t:(S->Prop)->Prop}(h:bF t):bF λk=>AdT g G E H d o (t k):=by
 cases g with
 |no=>exact ANw _ λ_=>Gp _ h
 |on x b=>exact ATj _ _ (ANw _ λ_=>Gp _ h) h
theorem AS8{call:Au}(f:F8 call)(i:AI)(G:AY)(E:RS)(H:Heap)(n:Nat):DE (i.ex G call E H n):=by
 cases i with
 |op o=>exact AOs f o G E H n
 |re d g o=>exact Ab4 g G E H d o (Ik _)
theorem APS{call:Au}(d:F8 call)(G:AY):∀(l:List AOp) (E:RS) (H:Heap) (n:Nat),DE (Qa l G call E H n)
 |[],E,H,n=>AN5 _ _ _
 |o::l,E,H,n=>PE (u:=λ(s:Se) (k:Se->Prop)=>Qa l G call s.1 s.2.1 s.2.2 λE H n=>k (E,H,n)) (AOs d o G E H n) λs=>APS d G l s.1 s.2.1 s.2.2
theorem AHC{call:Au}(d:F8 call)(G:AY):∀(l:List AI) (E:RS) (H:Heap) (n:Nat),DE (Bl l G call E H n)
 |[],E,H,n=>AN5 _ _ _
 |o::l,E,H,n=>PE (u:=λ(s:Se) (k:Se->Prop)=>Bl l G call s.1 s.2.1 s.2.2 λE H n=>k (E,H,n)) (AS8 d o G E H n) λs=>AHC d G l s.1 s.2.1 s.2.2
inductive Out where
 |nrm (R:Ih) (H:Heap) (n:Nat)|ext (i:Nat) (R:Ih) (H:Heap) (n:Nat)|ret (R:Ih) (H:Heap) (n:Nat)
def Out.on(k:K)(x:KX)(r:K):Out->Prop
 |.nrm R H n=>k R H n|.ext i R H n=>x i R H n|.ret R H n=>r R H n
def DC(t:K->KX->K->Prop):Prop:=bF λp:Out->Prop=>t (λR H n=>p (.nrm R H n)) (λi R H n=>p (.ext i R H n)) (λR H n=>p (.ret R H n))
theorem DC.mono{t:K->KX->K->Prop}(h:DC t){k k':K}{x d:KX}{r f:K}(g:∀R H n,k R H n->k' R H n)(m:∀i R H n,x i R H n->d i R H n)(p:∀R H n,r R H n->f R H n)(q:t k x r):t k' d f:=
 bF.mono h (k:=Out.on k x r) (k':=Out.on k' d f) (λs=>by cases s;exact g _ _ _;exact m _ _ _ _;exact p _ _ _) q
theorem AMv{a:M}{G:AY}{call:Au}{d:Nat}(f:∀R H n,DC (a G call d R H n)):∀(m:Nat) (R:Ih) (H:Heap) (n:Nat),DC λ_ x r=>Y1 a G call d m R H n x r
 |0,_,_,_=>G8
 |m+1,R,H,n=>PE (u:=λ(s:Out) (p:Out->Prop)=>match s with
  |.nrm R H n=>Y1 a G call d m R H n (λi R H n=>p (.ext i R H n)) (λR H n=>p (.ret R H n))
  |.ext i R H n=>p (.ext i R H n)
  |.ret R H n=>p (.ret R H n)) (f R H n) λs=>by
   cases s with
   |nrm R H n=>exact AMv f m R H n
   |ext i R H n=>exact Ik _
   |ret R H n=>exact Ik _
theorem fO{call:Au}(d:F8 call)(G:AY)(lf:Nat):∀(c:AC) (R:Ih) (H:Heap) (n:Nat),DC (c.ex G call lf R H n)
 |.skip,R,H,n=>Ik (Out.nrm R H n)
 |.ops l,R,H,n=>PE (u:=λ(s:Se) (p:Out->Prop)=>p (.nrm s.1.rg s.2.1 s.2.2)) (APS d G l (.mk [] R) H n) λs=>Ik _
 |.reg l,R,H,n=>PE (u:=λ(s:Se) (p:Out->Prop)=>p (.nrm s.1.rg s.2.1 s.2.2)) (AHC d G l (.mk [] R) H n) λs=>Ik _
 |.seq a b,R,H,n=>PE (u:=λ(s:Out) (p:Out->Prop)=>match s with
  |.nrm R H n=>b.ex G call lf R H n (λR H n=>p (.nrm R H n)) (λi R H n=>p (.ext i R H n)) (λR H n=>p (.ret R H n))
  |.ext i R H n=>p (.ext i R H n)
  |.ret R H n=>p (.ret R H n)) (fO d G lf a R H n) λs=>by
   cases s with
   |nrm R H n=>exact fO d G lf b R H n
   |ext i R H n=>exact Ik _
   |ret R H n=>exact Ik _
 |.cond x a b,R,H,n=>AZU _ _ (fO d G lf a R H n) (fO d G lf b R H n)
 |.block f a,R,H,n=>PE (u:=λ(s:Out) (p:Out->Prop)=>match s with
  |.nrm R H n=>p (.nrm R H n)
  |.ext i R H n=>Gz f (λR H n=>p (.nrm R H n)) (λi R H n=>p (.ext i R H n)) i R H n
  |.ret R H n=>p (.ret R H n)) (fO d G lf a R H n) λs=>by
   cases s with
   |nrm R H n=>exact Ik _
   |ext i R H n=>
    cases g:Nat.beq i f with
    |true=>
     have e:(λp:Out->Prop=>Gz f (λR H n=>p (.nrm R H n)) (λi R H n=>p (.ext i R H n)) i R H n)=λp=>p (.nrm R H n):=by
      funext p;unfold Gz;rw[g]
     simp only[e];exact Ik _
    |false=>
     have e:(λp:Out->Prop=>Gz f (λR H n=>p (.nrm R H n)) (λi R H n=>p (.ext i R H n)) i R H n)=λp=>p (.ext i R H n):=by
      funext p;unfold Gz;rw[g]
     simp only[e];exact Ik _
   |ret R H n=>exact Ik _
 |.loop a,R,H,n=>AMv (λR H n=>fO d G lf a R H n) lf R H n
 |.exit f,R,H,n=>Ik (Out.ext f R H n)
 |.ret,R,H,n=>Ik (Out.ret R H n)
theorem ANC{call:Au}(d:F8 call)(dg:Nat):∀(l:List V) (H:Heap) (n:Nat),bF λp:Heap×Nat->Prop=>VI dg l call H n λH n=>p (H,n)
 |[],H,n=>Ik (H,n)
 |v::l,H,n=>ASV v λf a c=>Gp _ (PE (u:=λ(s:St) (p:Heap×Nat->Prop)=>VI dg l call s.2.1 s.2.2 λH n=>p (H,n)) (d _ _ _ _) λs=>ANC d dg l _ _)
theorem ALn(d:List AR)(G:AY)(R:Ih)(H:Heap)(n:Nat):D3 λk=>AL8 d G k R H n:=Jw _ λ_=>QT _ _ _
theorem AMS{call:Au}(g:F8 call)(f:List AR)(dg:Nat)(d:Dst)(G:AY)(R:Ih)(H:Heap)(n:Nat):D3 λk=>JE f dg d G call k R H n:=by
 cases d with
 |no=>exact ALn f G R H n
 |to p=>exact PE (u:=λ(s:Heap×Nat) (k:St->Prop)=>AL8 f G (λv H n=>k (v,H,n)) R s.1 s.2) (ANC g dg _ H n) λs=>ALn f G R _ _
 |ps=>exact ALn f G R H n
theorem ASw(f:Nk)(G:AY)(args:List V)(H:Heap)(n:Nat):D3 (AEH f G args H n):=by
 have d:D3 (λ_:KV=>False):=G8
 unfold AEH
 split
 ·unfold AUn
  split
  ·exact Gp _ (Jw _ λ_=>Jw _ λ_=>Gp _ (QT _ _ _))
  ·exact d
 ·unfold AXz
  split
  ·exact Gp _ (QT _ _ _)
  ·exact d
 ·unfold AUS
  split
  ·split
   ·exact Gp _ (QT _ _ _)
   ·exact d
  ·exact d
 ·unfold ATx
  split
  ·split
   ·exact Gp _ (QT _ _ _)
   ·exact d
  ·exact d
 ·exact d
theorem AVd{call:Au}(p:F8 call)(G:AY)(lf:Nat)(f:AF)(args:List V)(H:Heap)(n:Nat):D3 (uz f G call lf args H n):=by
 cases f with
 |nat f=>exact ASw f G args H n
 |mk q m g d dg=>
 refine Gp _ (PE (u:=λ(s:Out) (k:St->Prop)=>match s with
  |.nrm R H n=>JE g dg d G call (λv H n=>k (v,H,n)) R H n
  |.ext _ _ _ _=>False
  |.ret R H n=>JE g dg d G call (λv H n=>k (v,H,n)) R H n) (fO p G lf m _ H n) λs=>?_)
 cases s with
 |nrm R H n=>exact AMS p g dg d G R H n
 |ext i R H n=>exact G8
 |ret R H n=>exact AMS p g dg d G R H n
theorem Wx(F:T AF)(G:AY)(lf:Nat):∀fuel,F8 (run F G lf fuel)
 |0=>λ_ _ _ _=>G8
 |m+1=>λf a H n=>Jw _ λd=>AVd (Wx F G lf m) G lf d a H n
def U5(call call':Au):Prop:=∀f a H n k,call f a H n k->call' f a H n k
section
variable{call call':Au}
theorem Ael(d:U5 call call')(o:AE)(G:AY)(E:RS)(H:Heap)(n:Nat)(k:KV)(h:o.ex G call E H n k):o.ex G call' E H n k:=by
 cases o with
 |call f a=>exact d _ _ _ _ _ h
 |AT1 x a=>
  have i:V.Y8 (x.ev E) (λf m c=>call f (cat m (cat (nH a E) c)) H n k):=h
  show V.Y8 (x.ev E) (λf m c=>call' f (cat m (cat (nH a E) c)) H n k)
  rw[VG]at i⊢
  obtain⟨g,p,q,u,i⟩:=i
  exact⟨g,p,q,u,d _ _ _ _ _ i⟩
 |_=>exact h
theorem AbW(f:U5 call call')(o:AO)(G:AY)(d:Dst)(E:RS)(H:Heap)(n:Nat)(k:KE)(h:o.ex G call d E H n k):o.ex G call' d E H n k:=by
 cases o with
 |n o=>exact h
 |a o=>exact h
 |e o=>exact Ael f o G E H n _ h
theorem AX6(i:U5 call call')(o:AOp)(G:AY)(E:RS)(H:Heap)(n:Nat)(k:KE)(h:o.ex G call E H n k):o.ex G call' E H n k:=by
 obtain⟨d,g,o⟩:=o
 cases g with
 |no=>exact AbW i o G d E H n k h
 |on x b=>
  have f:wP (x.ev E) b (o.ex G call d E H n k) (k (FW d (.Dl []) E) H n):=h
  show wP (x.ev E) b (o.ex G call' d E H n k) (k (FW d (.Dl []) E) H n)
  rw[YZ]at f⊢
  obtain⟨t,m,f⟩:=f
  refine⟨t,m,?_⟩
  split
  ·rename_i e;rw[if_pos e]at f;exact AbW i o G d E H n k f
  ·rename_i e;rw[if_neg e]at f;exact f
theorem Aex(f:U5 call call')(i:AI)(G:AY)(E:RS)(H:Heap)(n:Nat)(k:KE)(h:i.ex G call E H n k):i.ex G call' E H n k:=by
 cases i with
 |op o=>exact AX6 f o G E H n k h
 |re d g o=>exact h
theorem ARt(hd:F8 call')(d:U5 call call')(G:AY):∀(l:List AOp) (E:RS) (H:Heap) (n:Nat) (k:KE),Qa l G call E H n k->Qa l G call' E H n k
 |[],_,_,_,_,h=>h
 |o::l,E,H,n,k,h=>
  bF.mono (AOs hd o G E H n) (k:=λs=>Qa l G call s.1 s.2.1 s.2.2 k) (k':=λs=>Qa l G call' s.1 s.2.1 s.2.2 k) (λs f=>ARt hd d G l _ _ _ _ f)
   (AX6 d o G E H n (λE H n=>Qa l G call E H n k) h)
theorem ALG(hd:F8 call')(d:U5 call call')(G:AY):∀(l:List AI) (E:RS) (H:Heap) (n:Nat) (k:KE),Bl l G call E H n k->Bl l G call' E H n k
 |[],_,_,_,_,h=>h
 |o::l,E,H,n,k,h=>
  bF.mono (AS8 hd o G E H n) (k:=λs=>Bl l G call s.1 s.2.1 s.2.2 k) (k':=λs=>Bl l G call' s.1 s.2.1 s.2.2 k) (λs f=>ALG hd d G l _ _ _ _ f)
   (Aex d o G E H n (λE H n=>Bl l G call E H n k) h)
theorem AQv{a:M}{G:AY}{f d:Nat}(hd:∀R H n,DC (a G call' d R H n))(i:∀R H n k x r,a G call f R H n k x r->a G call' d R H n k x r):
 ∀(m g:Nat),m<=g->∀(R:Ih) (H:Heap) (n:Nat) (x:KX) (r:K),Y1 a G call f m R H n x r->Y1 a G call' d g R H n x r
 |0,_,_,_,_,_,_,_,h=>(show False from h).elim
 |m+1,0,p,_,_,_,_,_,_=>by omega
 |m+1,g+1,p,R,H,n,x,r,h=>
  DC.mono (hd R H n) (λR H n q=>AQv hd i m g (by omega) R H n x r q) (λ_ _ _ _ u=>u) (λ_ _ _ v=>v) (i R H n _ x r h)
theorem AIN(hd:F8 call')(d:U5 call call')(G:AY){lf f:Nat}(g:lf<=f):∀(c:AC) (R:Ih) (H:Heap) (n:Nat) (k:K) (x:KX) (r:K),c.ex G call lf R H n k x r->c.ex G call' f R H n k x r
 |.skip,_,_,_,_,_,_,h=>h
 |.ops l,R,H,n,k,_,_,h=>ARt hd d G l (.mk [] R) H n (λE H n=>k E.rg H n) h
 |.reg l,R,H,n,k,_,_,h=>ALG hd d G l (.mk [] R) H n (λE H n=>k E.rg H n) h
 |.seq a b,R,H,n,k,x,r,h=>
  DC.mono (fO hd G f a R H n) (λR H n m=>AIN hd d G g b R H n k x r m) (λ_ _ _ _ p=>p) (λ_ _ _ q=>q) (AIN hd d G g a R H n _ x r h)
 |.cond c a b,R,H,n,k,x,r,h=>by
  have i:AZ (c.ev (.mk [] R)) true (a.ex G call lf R H n k x r) (b.ex G call lf R H n k x r):=h
  show AZ (c.ev (.mk [] R)) true (a.ex G call' f R H n k x r) (b.ex G call' f R H n k x r)
  rw[bV]at i⊢
  obtain⟨t,u,i⟩:=i
  refine⟨t,u,?_⟩
  split
  ·rename_i e;rw[if_pos e]at i;exact AIN hd d G g a R H n k x r i
  ·rename_i e;rw[if_neg e]at i;exact AIN hd d G g b R H n k x r i
 |.block v a,R,H,n,k,x,r,h=>AIN hd d G g a R H n k (Gz v k x) r h
 |.loop a,R,H,n,k,x,r,h=>AQv (λR H n=>fO hd G f a R H n) (λR H n k x r h=>AIN hd d G g a R H n k x r h) lf f g R H n x r h
 |.exit _,_,_,_,_,_,_,h=>h
 |.ret,_,_,_,_,_,_,h=>h
theorem AQN(hd:F8 call')(i:U5 call call')(dg:Nat):∀(l:List V) (H:Heap) (n:Nat) (k:Heap->Nat->Prop),VI dg l call H n k->VI dg l call' H n k
 |[],_,_,_,h=>h
 |v::l,H,n,k,h=>by
  have d:V.Y8 v (λf a c=>Ji (Nat.beq f dg) (call f (cat a c) H n λ_ H n=>VI dg l call H n k)):=h
  show V.Y8 v (λf a c=>Ji (Nat.beq f dg) (call' f (cat a c) H n λ_ H n=>VI dg l call' H n k))
  rw[VG]at d⊢
  obtain⟨g,m,p,q,d⟩:=d
  rw[FM]at d
  refine⟨g,m,p,q,(FM _ _).2 ⟨d.1,?_⟩⟩
  exact bF.mono (hd g (cat m p) H n) (k:=λs=>VI dg l call s.2.1 s.2.2 k) (k':=λs=>VI dg l call' s.2.1 s.2.2 k) (λs u=>AQN hd i dg l _ _ _ u) (i _ _ _ _ _ d.2)
theorem nD(hd:F8 call')(g:U5 call call')(f:List AR)(dg:Nat)(d:Dst)(G:AY)(k:KV)(R:Ih)(H:Heap)(n:Nat)(h:JE f dg d G call k R H n):JE f dg d G call' k R H n:=by
 cases d with
 |no=>exact h
 |to p=>exact AQN hd g dg _ H n _ h
 |ps=>exact h
theorem AYo(hd:F8 call')(p:U5 call call')(G:AY){lf m:Nat}(q:lf<=m)(f:AF)(args:List V)(H:Heap)(n:Nat)(k:KV)(h:uz f G call lf args H n k):uz f G call' m args H n k:=by
 cases f with
 |nat f=>exact h
 |mk w g i d dg=>
 have u:Ji (Nat.beq (len args) w) (g.ex G call lf (nJ args 0 .e) H n (JE i dg d G call k) noX (JE i dg d G call k)):=h
 show Ji (Nat.beq (len args) w) (g.ex G call' m (nJ args 0 .e) H n (JE i dg d G call' k) noX (JE i dg d G call' k))
 rw[FM]at u⊢
 refine⟨u.1,?_⟩
 exact DC.mono (fO hd G m g _ H n) (λR H n v=>nD hd p i dg d G k R H n v) (λ_ _ _ _ x=>x) (λR H n v=>nD hd p i dg d G k R H n v) (AIN hd p G q g _ H n _ _ _ u.2)
end
theorem AK1(F:T AF)(G:AY){lf d:Nat}(p:lf<=d):∀(m g:Nat),m<=g->U5 (run F G lf m) (run F G d g)
 |0,_,_,_,_,_,_,_,h=>(show False from h).elim
 |m+1,0,v,_,_,_,_,_,_=>by omega
 |m+1,g+1,v,f,a,H,n,k,h=>by
  have q:Gu (T.get F f) λi=>uz i G (run F G lf m) lf a H n k:=h
  show Gu (T.get F f) λi=>uz i G (run F G d g) d a H n k
  rw[JR]at q⊢
  obtain⟨i,u,q⟩:=q
  exact⟨i,u,AYo (Wx F G d g) (AK1 F G p m g (by omega)) G p i a H n k q⟩
def Runs(F:T AF)(G:AY):Au:=λf a H n k=>∃N,run F G N N f a H n k
theorem AU5{F:T AF}{G:AY}{f:Nat}{a:List V}{H:Heap}{n:Nat}{k k':KV}(d:∀v H n,k v H n->k' v H n)(h:Runs F G f a H n k):Runs F G f a H n k':=by
 obtain⟨N,h⟩:=h
 exact⟨N,bF.mono (Wx F G N N f a H n) (k:=λs=>k s.1 s.2.1 s.2.2) (k':=λs=>k' s.1 s.2.1 s.2.2) (λs g=>d _ _ _ g) h⟩
theorem AGX(F:T AF)(G:AY):F8 (Runs F G):=λf a H n=>by
 by_cases h:∃N s,∀k:St->Prop,k s->run F G N N f a H n λv H n=>k (v,H,n)
 ·obtain⟨N,s,x⟩:=h
  refine⟨some s,λk=>⟨λ⟨d,w⟩=>?_,λ⟨i,e,u⟩=>?_⟩⟩
  ·obtain⟨i,m,g⟩:=bF.at (Wx F G d d f a H n) w
   have A:=AK1 F G (Nat.le_max_left N d) N (max N d) (Nat.le_max_left _ _) f a H n _ (x (λq=>q=s) rfl)
   have B:=AK1 F G (Nat.le_max_right N d) d (max N d) (Nat.le_max_right _ _) f a H n _ (g (λq=>q=i) rfl)
   obtain⟨o,y⟩:=Wx F G (max N d) (max N d) f a H n
   obtain⟨q,C,D⟩:=(y λq=>q=s).1 A
   obtain⟨E,p,I⟩:=(y λq=>q=i).1 B
   have:q=E:=by rw[C]at p;exact Option.some.inj p
   refine⟨s,rfl,?_⟩
   have J:s=i:=by rw[<-D,<-I];exact this
   rw[J];exact m
  ·cases e
   exact⟨N,x k u⟩
 ·refine⟨none,λk=>⟨λ⟨d,w⟩=>?_,λ⟨i,e,u⟩=>by cases e⟩⟩
  obtain⟨i,m,g⟩:=bF.at (Wx F G d d f a H n) w
  exact absurd ⟨d,i,λk u=>g k u⟩ h
def AbS(a:M)(G:AY)(call:Au):Ih->Heap->Nat->KX->K->Prop:=λR H n x r=>∀I:K,(∀R H n,a G call 0 R H n I x r->I R H n)->I R H n
def AOC(_:AC)(a:M):M:=λG call _ R H n _ x r=>AbS a G call R H n x r
def AC.exL(c:AC):M:=AC.rec (motive:=λ_=>M) AXf AZG AZS AW8 AQJ AKy AOC AWJ Acp c
def ASz(f:AF):AY->Au->List V->Heap->Nat->KV->Prop:=
 AF.rec (motive:=λ_=>AY->Au->List V->Heap->Nat->KV->Prop) (λnp code res d dg G call args H n k=>Ji (Nat.beq (len args) np) (code.exL G call 0 (nJ args 0 .e) H n (JE res dg d G call k) noX (JE res dg d G call k))) (λf G _ args H n k=>AEH f G args H n k) f
section
variable{F:T AF}{G:AY}
def Ev(p:Nat->Prop):Prop:=∃N,∀M,N<=M->p M
theorem AO1{f:Nat}{a:List V}{H:Heap}{n:Nat}{k:KV}(h:Runs F G f a H n k):∃s:St,k s.1 s.2.1 s.2.2/\∃N,∀M,N<=M->∀k':KV,k' s.1 s.2.1 s.2.2->run F G M M f a H n k':=by
 obtain⟨N,h⟩:=h
 obtain⟨s,m,d⟩:=bF.at (Wx F G N N f a H n) (k:=λs=>k s.1 s.2.1 s.2.2) h
 exact⟨s,m,N,λM i k' g=>AK1 F G i N M i f a H n k' (d (λs=>k' s.1 s.2.1 s.2.2) g)⟩
theorem AfY(o:AE)(E:RS)(H:Heap)(n:Nat)(k:KV)(h:o.ex G (Runs F G) E H n k):∃s:St,k s.1 s.2.1 s.2.2/\∃N,∀M,N<=M->∀k':KV,k' s.1 s.2.1 s.2.2->o.ex G (run F G M M) E H n k':=by
 cases o with
 |call f a=>exact AO1 h
 |AT1 x a=>
  have m:V.Y8 (x.ev E) (λf p c=>Runs F G f (cat p (cat (nH a E) c)) H n k):=h
  rw[VG]at m
  obtain⟨g,u,v,w,m⟩:=m
  obtain⟨s,q,N,y⟩:=AO1 m
  refine⟨s,q,N,λM A k' d=>?_⟩
  show V.Y8 (x.ev E) (λf p c=>run F G M M f (cat p (cat (nH a E) c)) H n k')
  rw[VG]
  exact⟨g,u,v,w,y M A k' d⟩
 |_=>
  obtain⟨s,q,i⟩:=bF.at (AXO (AGX F G) _ G E H n) (k:=λs=>k s.1 s.2.1 s.2.2) h
  exact⟨s,q,0,λM _ k' d=>i (λs=>k' s.1 s.2.1 s.2.2) d⟩
theorem AbX(o:AO)(d:Dst)(E:RS)(H:Heap)(n:Nat)(k:KE)(h:o.ex G (Runs F G) d E H n k):∃s:Se,k s.1 s.2.1 s.2.2/\∃N,∀M,N<=M->∀k':KE,k' s.1 s.2.1 s.2.2->o.ex G (run F G M M) d E H n k':=by
 cases o with
 |e o=>
  obtain⟨s,i,N,m⟩:=AfY o E H n _ h
  exact⟨(FW d s.1 E,s.2.1,s.2.2),i,N,λM p k' f=>m M p (λv H n=>k' (FW d v E) H n) f⟩
 |_=>
  obtain⟨s,i,g⟩:=bF.at (AS0 (AGX F G) _ G d E H n) (k:=λs=>k s.1 s.2.1 s.2.2) h
  exact⟨s,i,0,λM _ k' f=>g (λs=>k' s.1 s.2.1 s.2.2) f⟩
theorem AX9(o:AOp)(E:RS)(H:Heap)(n:Nat)(k:KE)(h:o.ex G (Runs F G) E H n k):∃s:Se,k s.1 s.2.1 s.2.2/\∃N,∀M,N<=M->∀k':KE,k' s.1 s.2.1 s.2.2->o.ex G (run F G M M) E H n k':=by
 obtain⟨d,g,o⟩:=o
 cases g with
 |no=>exact AbX o d E H n k h
 |on x b=>
  have f:wP (x.ev E) b (o.ex G (Runs F G) d E H n k) (k (FW d (.Dl []) E) H n):=h
  rw[YZ]at f
  obtain⟨t,m,f⟩:=f
  by_cases e:t=some b
  ·rw[if_pos e]at f
   obtain⟨s,p,N,q⟩:=AbX o d E H n k f
   refine⟨s,p,N,λM u k' i=>?_⟩
   show wP (x.ev E) b (o.ex G (run F G M M) d E H n k') (k' (FW d (.Dl []) E) H n)
   rw[YZ]
   exact⟨t,m,by rw[if_pos e];exact q M u k' i⟩
  ·rw[if_neg e]at f
   refine⟨(FW d (.Dl []) E,H,n),f,0,λM _ k' i=>?_⟩
   show wP (x.ev E) b (o.ex G (run F G M M) d E H n k') (k' (FW d (.Dl []) E) H n)
   rw[YZ]
   exact⟨t,m,by rw[if_neg e];exact i⟩
theorem Afw(i:AI)(E:RS)(H:Heap)(n:Nat)(k:KE)(h:i.ex G (Runs F G) E H n k):∃s:Se,k s.1 s.2.1 s.2.2/\∃N,∀M,N<=M->∀k':KE,k' s.1 s.2.1 s.2.2->i.ex G (run F G M M) E H n k':=by
 cases i with
 |op o=>exact AX9 o E H n k h
 |re d g o=>
  obtain⟨s,p,f⟩:=bF.at (AS8 (AGX F G) (.re d g o) G E H n) (k:=λs=>k s.1 s.2.1 s.2.2) h
  exact⟨s,p,0,λM _ k' m=>f (λs=>k' s.1 s.2.1 s.2.2) m⟩
theorem AXi:∀(l:List AOp) (E:RS) (H:Heap) (n:Nat) (k:KE),Qa l G (Runs F G) E H n k->∃s:Se,k s.1 s.2.1 s.2.2/\∃N,∀M,N<=M->∀k':KE,k' s.1 s.2.1 s.2.2->Qa l G (run F G M M) E H n k'
 |[],E,H,n,k,h=>⟨(E,H,n),h,0,λM _ k' d=>d⟩
 |o::l,E,H,n,k,h=>by
  obtain⟨s,hs,N,i⟩:=AX9 o E H n (λE H n=>Qa l G (Runs F G) E H n k) h
  obtain⟨m,f,p,g⟩:=AXi l _ _ _ k hs
  refine⟨m,f,max N p,λM q k' d=>?_⟩
  exact i M (by omega) (λE H n=>Qa l G (run F G M M) E H n k') (g M (by omega) k' d)
theorem APt:∀(l:List AI) (E:RS) (H:Heap) (n:Nat) (k:KE),Bl l G (Runs F G) E H n k->∃s:Se,k s.1 s.2.1 s.2.2/\∃N,∀M,N<=M->∀k':KE,k' s.1 s.2.1 s.2.2->Bl l G (run F G M M) E H n k'
 |[],E,H,n,k,h=>⟨(E,H,n),h,0,λM _ k' d=>d⟩
 |o::l,E,H,n,k,h=>by
  obtain⟨s,hs,N,i⟩:=Afw o E H n (λE H n=>Bl l G (Runs F G) E H n k) h
  obtain⟨m,f,p,g⟩:=APt l _ _ _ k hs
  refine⟨m,f,max N p,λM q k' d=>?_⟩
  exact i M (by omega) (λE H n=>Bl l G (run F G M M) E H n k') (g M (by omega) k' d)
def Af3(F:T AF)(G:AY)(c:AC):Prop:=∀(R:Ih) (H:Heap) (n:Nat) (k:K) (x:KX) (r:K),c.exL G (Runs F G) 0 R H n k x r->
 ∃s,Out.on k x r s/\∃N,∀M,N<=M->∀k' x' r',Out.on k' x' r' s->c.ex G (run F G M M) M R H n k' x' r'
theorem AZe{a:AC}(B:Af3 F G a)(R:Ih)(H:Heap)(n:Nat)(x:KX)(r:K)(h:AbS a.exL G (Runs F G) R H n x r):
 ∃s,Out.on (λ_ _ _=>False) x r s/\∃N,∀M,N<=M->∀j,N<=j->∀d f,Out.on (λ_ _ _=>False) d f s->Y1 a.ex G (run F G M M) M j R H n d f:=by
 refine h (λR H n=>∃s,Out.on (λ_ _ _=>False) x r s/\∃N,∀M,N<=M->∀j,N<=j->∀d f,Out.on (λ_ _ _=>False) d f s->Y1 a.ex G (run F G M M) M j R H n d f) ?_
 intro R H n C
 obtain⟨s,q,N,u⟩:=B R H n _ x r C
 cases s with
 |nrm k m p=>
  obtain⟨D,v,E,w⟩:=q
  refine⟨D,v,max N E+1,λM y j A d f g=>?_⟩
  cases j with
  |zero=>omega
  |succ j=>exact u M (by omega) (λR H n=>Y1 a.ex G (run F G M M) M j R H n d f) d f (w M (by omega) j (by omega) d f g)
 |ext i k m p=>
  refine⟨.ext i k m p,q,N+1,λM y j A d f g=>?_⟩
  cases j with
  |zero=>omega
  |succ j=>exact u M (by omega) (λR H n=>Y1 a.ex G (run F G M M) M j R H n d f) d f g
 |ret k m p=>
  refine⟨.ret k m p,q,N+1,λM y j A d f g=>?_⟩
  cases j with
  |zero=>omega
  |succ j=>exact u M (by omega) (λR H n=>Y1 a.ex G (run F G M M) M j R H n d f) d f g
theorem ALU:∀c:AC,Af3 F G c
 |.skip=>λR H n k x r h=>⟨.nrm R H n,h,0,λM _ k' d f g=>g⟩
 |.ops l=>λR H n k x r h=>by
  obtain⟨s,hs,N,v⟩:=AXi l (.mk [] R) H n (λE H n=>k E.rg H n) h
  exact⟨.nrm s.1.rg s.2.1 s.2.2,hs,N,λM m k' d f g=>v M m (λE H n=>k' E.rg H n) g⟩
 |.reg l=>λR H n k x r h=>by
  obtain⟨s,hs,N,v⟩:=APt l (.mk [] R) H n (λE H n=>k E.rg H n) h
  exact⟨.nrm s.1.rg s.2.1 s.2.2,hs,N,λM m k' d f g=>v M m (λE H n=>k' E.rg H n) g⟩
 |.seq a b=>λR H n k x r h=>by
  obtain⟨s,hs,N,v⟩:=ALU a R H n (λR H n=>b.exL G (Runs F G) 0 R H n k x r) x r h
  cases s with
  |nrm p q u=>
   obtain⟨I,w,J,C⟩:=ALU b p q u k x r hs
   exact⟨I,w,max N J,λM m k' d f g=>v M (by omega) (λR H n=>b.ex G (run F G M M) M R H n k' d f) d f (C M (by omega) k' d f g)⟩
  |ext i p q u=>exact⟨.ext i p q u,hs,N,λM m k' d f g=>v M m (λR H n=>b.ex G (run F G M M) M R H n k' d f) d f g⟩
  |ret p q u=>exact⟨.ret p q u,hs,N,λM m k' d f g=>v M m (λR H n=>b.ex G (run F G M M) M R H n k' d f) d f g⟩
 |.cond c a b=>λR H n k x r h=>by
  have A:AZ (c.ev (.mk [] R)) true (a.exL G (Runs F G) 0 R H n k x r) (b.exL G (Runs F G) 0 R H n k x r):=h
  rw[bV]at A
  obtain⟨t,D,A⟩:=A
  by_cases e:t=true
  ·rw[if_pos e]at A
   obtain⟨s,hs,N,v⟩:=ALU a R H n k x r A
   refine⟨s,hs,N,λM m k' d f g=>?_⟩
   show AZ (c.ev (.mk [] R)) true (a.ex G (run F G M M) M R H n k' d f) (b.ex G (run F G M M) M R H n k' d f)
   rw[bV]
   exact⟨t,D,by rw[if_pos e];exact v M m k' d f g⟩
  ·rw[if_neg e]at A
   obtain⟨s,hs,N,v⟩:=ALU b R H n k x r A
   refine⟨s,hs,N,λM m k' d f g=>?_⟩
   show AZ (c.ev (.mk [] R)) true (a.ex G (run F G M M) M R H n k' d f) (b.ex G (run F G M M) M R H n k' d f)
   rw[bV]
   exact⟨t,D,by rw[if_neg e];exact v M m k' d f g⟩
 |.block y a=>λR H n k x r h=>by
  obtain⟨s,hs,N,v⟩:=ALU a R H n k (Gz y k x) r h
  cases s with
  |nrm p q u=>exact⟨.nrm p q u,hs,N,λM m k' d f g=>v M m k' (Gz y k' d) f g⟩
  |ret p q u=>exact⟨.ret p q u,hs,N,λM m k' d f g=>v M m k' (Gz y k' d) f g⟩
  |ext i p q u=>
   have w:Gz y k x i p q u:=hs
   unfold Gz at w
   cases B:Nat.beq i y with
   |true=>
    rw[B]at w
    refine⟨.nrm p q u,w,N,λM m k' d f g=>v M m k' (Gz y k' d) f ?_⟩
    show Gz y k' d i p q u
    unfold Gz;rw[B];exact g
   |false=>
    rw[B]at w
    refine⟨.ext i p q u,w,N,λM m k' d f g=>v M m k' (Gz y k' d) f ?_⟩
    show Gz y k' d i p q u
    unfold Gz;rw[B];exact g
 |.loop a=>λR H n k x r h=>by
  obtain⟨s,hs,N,v⟩:=AZe (ALU a) R H n x r h
  cases s with
  |nrm p q u=>exact(show False from hs).elim
  |ext i p q u=>exact⟨.ext i p q u,hs,N,λM m k' d f g=>v M m M m d f g⟩
  |ret p q u=>exact⟨.ret p q u,hs,N,λM m k' d f g=>v M m M m d f g⟩
 |.exit i=>λR H n k x r h=>⟨.ext i R H n,h,0,λM _ k' d f g=>g⟩
 |.ret=>λR H n k x r h=>⟨.ret R H n,h,0,λM _ k' d f g=>g⟩
theorem AQZ(dg:Nat):∀(l:List V) (H:Heap) (n:Nat) (k:Heap->Nat->Prop),VI dg l (Runs F G) H n k->∃H' n',k H' n'/\∃N,∀M,N<=M->∀k':Heap->Nat->Prop,k' H' n'->VI dg l (run F G M M) H n k'
 |[],H,n,k,h=>⟨H,n,h,0,λM _ k' d=>d⟩
 |v::l,H,n,k,h=>by
  have i:V.Y8 v (λf a c=>Ji (Nat.beq f dg) (Runs F G f (cat a c) H n λ_ H n=>VI dg l (Runs F G) H n k)):=h
  rw[VG]at i
  obtain⟨g,p,q,u,i⟩:=i
  rw[FM]at i
  obtain⟨s,w,N,x⟩:=AO1 i.2
  obtain⟨H',n',y,A,m⟩:=AQZ dg l _ _ k w
  refine⟨H',n',y,max N A,λM B k' d=>?_⟩
  show V.Y8 v (λf a c=>Ji (Nat.beq f dg) (run F G M M f (cat a c) H n λ_ H n=>VI dg l (run F G M M) H n k'))
  rw[VG]
  exact⟨g,p,q,u,(FM _ _).2 ⟨i.1,x M (by omega) (λ_ H n=>VI dg l (run F G M M) H n k') (m M (by omega) k' d)⟩⟩
theorem AQB(f:List AR)(dg:Nat)(d:Dst)(k:KV)(R:Ih)(H:Heap)(n:Nat)(h:JE f dg d G (Runs F G) k R H n):∃N,∀M,N<=M->JE f dg d G (run F G M M) k R H n:=by
 cases d with
 |no=>exact⟨0,λM _=>h⟩
 |to p=>
  obtain⟨q,u,g,N,i⟩:=AQZ dg _ H n _ h
  exact⟨N,λM m=>i M m _ g⟩
 |ps=>exact⟨0,λM _=>h⟩
theorem ASa{f:Nat}{q:AF}(D:T.get F f=some q){args:List V}{H:Heap}{n:Nat}{k:KV}(h:ASz q G (Runs F G) args H n k):Runs F G f args H n k:=by
 cases q with
 |nat O=>
  refine⟨1,?_⟩
  show Gu (T.get F f) λq=>uz q G (run F G 1 0) 1 args H n k
  rw[D];exact h
 |mk E p g d dg=>
 have y:Ji (Nat.beq (len args) E) (p.exL G (Runs F G) 0 (nJ args 0 .e) H n (JE g dg d G (Runs F G) k) noX (JE g dg d G (Runs F G) k)):=h
 rw[FM]at y
 obtain⟨s,A,N,I⟩:=ALU p _ H n _ _ _ y.2
 have key:∃m,∀M,m<=M->Out.on (JE g dg d G (run F G M M) k) noX (JE g dg d G (run F G M M) k) s:=by
  cases s with
  |nrm v w x=>exact AQB g dg d k v w x A
  |ext i v w x=>exact(show False from A).elim
  |ret v w x=>exact AQB g dg d k v w x A
 obtain⟨m,B⟩:=key
 refine⟨max N m+1,?_⟩
 show Gu (T.get F f) λq=>uz q G (run F G (max N m+1) (max N m)) (max N m+1) args H n k
 rw[D]
 show Ji (Nat.beq (len args) E) _
 rw[FM]
 refine⟨y.1,?_⟩
 have u:=AK1 F G (Nat.le_succ (max N m)) (max N m) (max N m) (Nat.le_refl _)
 have J:=I (max N m) (by omega) _ _ _ (B (max N m) (by omega))
 have K:=AIN (Wx F G (max N m+1) (max N m)) u G (Nat.le_succ (max N m)) p _ _ _ _ _ _ J
 exact DC.mono (fO (Wx F G (max N m+1) (max N m)) G _ p _ _ _) (λR H n C=>nD (Wx F G _ _) u g dg d G k R H n C) (λ_ _ _ _ L=>L) (λR H n C=>nD (Wx F G _ _) u g dg d G k R H n C) K
end
section
variable{G:AY}{call:Au}
theorem AXY(d:F8 call)(l:List AOp)(E:RS)(H:Heap)(n:Nat){k k':KE}(f:∀E H n,k E H n->k' E H n)(h:Qa l G call E H n k):Qa l G call E H n k':=
 bF.mono (APS d G l E H n) (k:=λs=>k s.1 s.2.1 s.2.2) (k':=λs=>k' s.1 s.2.1 s.2.2) (λs g=>f _ _ _ g) h
theorem AR5(d:F8 call)(l:List AI)(E:RS)(H:Heap)(n:Nat){k k':KE}(f:∀E H n,k E H n->k' E H n)(h:Bl l G call E H n k):Bl l G call E H n k':=
 bF.mono (AHC d G l E H n) (k:=λs=>k s.1 s.2.1 s.2.2) (k':=λs=>k' s.1 s.2.1 s.2.2) (λs g=>f _ _ _ g) h
end
end Go.Bf
namespace Go.Bf
open Go.ChangeShapes Go.WideShapes Go.RowKit
structure Old(W W':World):Prop where
 os:W'.os=W.os
 out:W'.output=W.output
 heap:∀b,b<W.heap.size->W'.heap[b]? =W.heap[b]?
theorem Old.kept{W W':World}(h:Old W W')(d:MemPlace->Prop):W.keptBut W' d:=by
 refine⟨h.os,h.out,λi f=>?_⟩
 rw[h.heap i f]
 cases g:W.heap[i]? with
 |none=>rfl
 |some o=>cases o<;>simp
theorem Old.cell{W W':World}(h:Old W W'){a:Addr}(d:a.block<W.heap.size):W'.cell? a=W.cell? a:=by
 unfold World.cell?
 rw[h.heap _ d]
theorem Old.same{W W':World}(h:Old W W'){p:MemPlace}(hp:p.block<W.heap.size):W.sameAt W' p:=by
 cases p with
 |cell b d=>exact h.cell hp
 |map b=>exact h.heap b hp
theorem Old.trodAll{H:Type}{enc:TypeId×Value->H}{P:Program}(w:laidOutB P=true){W W':World}(h:Old W W'):∀{i:List TypeId} {vs:List Value} {k:List (DataW H)} {ps:List MemPlace},
 (∀t∈i,P.readableRec t=true/\t<P.types.size)->DataW.TrodAll enc P W 0 (λ_=>true) true i vs k ps->(∀x∈ps,x.block<W.heap.size)->DataW.TrodAll enc P W' 0 (λb=>decide (b<W.heap.size)) true i vs k ps
 |[],[],[],_,_,m,_=>m
 |t::i,v::vs,d::k,_,u,⟨p,q,y,A,e⟩,f=>by
  subst e
  refine⟨p,q,?_,Old.trodAll w h (λt m=>u t (List.mem_cons_of_mem _ m)) A (λx g=>f x (List.mem_append_right _ g)),rfl⟩
  exact WideElems.Trod_stays w (u t List.mem_cons_self).1 (u t List.mem_cons_self).2 y (λx g=>h.same (f x (List.mem_append_left _ g))) (λx g=>by simpa using f x (List.mem_append_left _ g))
section
variable{P:Program}{F:T AF}
theorem AML{G:AY}{W:World}(i:AKK P F)(k:Xf W G){f:Nat}{vargs:List V}{args:Array Value}(m:Bq (λ_=>none) vargs args.toList)(h:Runs F G f vargs .e 0 λv _ _=>v=.bool true):
 Calls P f args W λe W'=>e=.returned (.bool true)/\Old W W':=by
 obtain⟨N,h⟩:=h
 obtain⟨p,_⟩:=AWz (P:=P) (F:=F) (lf:=N) i k N
 have q:DZ W (λ_=>none) .e 0 W:={
  lt:=λ_ _ h=>by cases h
  blk:=λ_ _ h=>by cases h
  inj:=λ_ _ _ _ h=>by cases h
  arr:=λ_ _ _ _ _ h=>by cases h
  map:=λ_ _ _ _ h=>by cases h
  qU:=λ_ _ _ _ _ _ _ h=>by cases h
  old:=λ_ _=>rfl
  os:=rfl
  out:=rfl
  big:=Nat.le_refl _
  top:=λ_ _=>T.AfJ _}
 refine((p f vargs .e 0 _ h).2 _ W args q m).mono ?_
 rintro e W' ⟨u,v,x,y,w,rfl,rfl,g,d,_⟩
 simp only[Aa]at g
 subst g
 exact⟨rfl,d.os,d.out,d.old⟩
end
theorem AIC{H:Type}{P:Program}:∀(g f:List TypeId) (i:List (DataW H)),i.length=g.length->DataW.weightsEach P (g++f) (i++[])=DataW.weightsEach P g i
 |[],f,[],_=>by cases f<;>simp[DataW.weightsEach]
 |[],f,_::_,h=>by simp at h
 |_::_,f,[],h=>by simp at h
 |t::g,f,d::i,h=>by
  show d.weights P t++DataW.weightsEach P (g++f) (i++[])=d.weights P t++DataW.weightsEach P g i
  rw[AIC g f i (by simpa using h)]
theorem AOz{C:Checked}{F:T AF}(hF:AKK C.prog F){os:Os}(A:os.Started){f:FuncId}{fn:Func}{s:ChangeSpec}{m:List (String×DataW Unit)}{tb:TypeId}{i fresh:Bool}{H:Type}{enc:TypeId×Value->H}
 (own:ownKnob C.prog.godebug=none) (B:C.prog.inits.idxOf? f=none) (P:C.prog.funcs[f]? =some fn)
 (D:s.vars=[]) (Q:∀k:List (DataW H),k.length=fn.params.toList.length->s.fn H k={results:=[.lit (.bool true)],args:=k})
 (E:fn.resultTypes= #[tb]) (hb:C.prog.underlying tb=some .bool) (hl:laidOutB C.prog=true) (hp:∀t∈fn.params.toList,C.prog.readableRec t=true/\t<C.prog.types.size)
 (w0:World) (d:Array Value) (fuel:Nat) (R:w0.os=os)
 (hv:(w0.forCall (λ_ _=>0) ⟨#[],d,[]⟩).variablesB C.prog=true)
 (S:((w0.forCall (λ_ _=>0) ⟨#[],d,[]⟩).heap.toList.drop C.prog.globals.size).take ((begin C.prog (λ_ _=>0) default).world.heap.size-C.prog.globals.size)=
  (begin C.prog (λ_ _=>0) default).world.heap.toList.drop C.prog.globals.size)
 (U:Input.okWideB C.prog (w0.forCall (λ_ _=>0) ⟨#[],d,[]⟩) f ⟨#[],d,[]⟩=true)
 (I:s.preB enc C.prog fn [] i (w0.forCall (λ_ _=>0) ⟨#[],d,[]⟩).memory d fuel=true)
 (V:s.sizedB enc C.prog fn i (w0.forCall (λ_ _=>0) ⟨#[],d,[]⟩).memory d fuel=true)
 (Y:laidMetH C.prog m (w0.forCall (λ_ _=>0) ⟨#[],d,[]⟩).memory)
 (J:∀(W:World) (args:Array Value) (k:List (DataW H)) (K:List MemPlace),(∀(j:Nat) t v,fn.params[j]? =some t->args[j]? =some v->∃base,Value.okWide C.prog W .any base t v)->
  DataW.TrodAll enc C.prog W 0 (λ_=>true) true fn.params.toList args.toList k K->laidMetH C.prog m W->(DataW.weightsEach C.prog fn.params.toList k).all (· <=reachBytes)=true->
  ∃G u,Xf W G/\Bq (λ_=>none) u args.toList/\Runs F G f u .e 0 λv _ _=>v=.bool true):
 ReturnsInHanded {} C os f .any (λw args=>(s.pre enc C.prog fn [] i w args/\laidMetH C.prog m w)/\sizedMet enc C.prog fn (OpenSpec.ofChange s) i w args) (s.post enc C.prog fn i fresh false false):=by
 refine returnsInHanded_of_change_and (C:=C) (X:=λw _=>laidMetH C.prog m w) (λ_ _ _ hh h=>h.of_heap hh) own A B P
  (ChangeSpec.witness_at (enc:=enc) (C:=C) (os:=os) (X:=λw _=>laidMetH C.prog m w) false w0 d fuel R hv S U I V Y) ?_
 intro W base args k gs O L Z _ hz hL _
 have d0:=Z
 have d1:=Z.lt
 obtain⟨p,q,hA,hV,rfl,d4,d5⟩:=Z
 have d2:gs=[]/\q=[]:=by
  rw[D]at hV
  cases gs with
  |nil=>exact⟨rfl,hV⟩
  |cons g r=>exact absurd hV (by intro h;cases h)
 obtain⟨rfl,rfl⟩:=d2
 have y:k.length=fn.params.toList.length:=by
  have y:∀{M:List TypeId} {N:List Value} {k:List (DataW H)} {K:List MemPlace},DataW.TrodAll enc C.prog W 0 (λ_=>true) true M N k K->k.length=M.length:=by
   intro M
   induction M with
   |nil=>intro N k K h;cases N<;>cases k<;>first|rfl|exact h.elim
   |cons t M ih=>
    intro N k K h
    cases N<;>cases k<;>try exact h.elim
    obtain⟨p,q,_,h2,_⟩:=h
    simp[ih h2]
  exact y hA
 rw[AIC _ _ _ y]at hz
 obtain⟨G,u,hg,hr,d3⟩:=J W args k p (λj t v h1 h2=>⟨base,L j t v h1 h2⟩) hA hL hz
 refine(AML hF hg hr d3).mono λe W' ⟨he,ho⟩=>?_
 subst he
 have e1:s.fn H (k++[])={results:=[.lit (.bool true)],args:=k}:=by rw[List.append_nil];exact Q k y
 refine⟨_,rfl,k,[],_,[],p,[],d0,?_,?_,?_,ho.kept _,λh=>by cases h⟩
 ·rw[e1,E];exact trodAll_mk1 (shut_bool hb true)
 ·rw[e1];exact Old.trodAll hl ho hp hA (λx Y=>d1 x (by simpa using Y))
 ·rw[e1,D];rfl
theorem law_lifted{C:Checked}{F:T AF}(M:AKK C.prog F){os:Os}(i:os.Started){f:FuncId}{fn:Func}{s:ChangeSpec}{k:List (String×DataW Unit)}{tb:TypeId}{g fresh:Bool}{H:Type}{enc:TypeId×Value->H}
 (own:ownKnob C.prog.godebug=none) (p:C.prog.inits.idxOf? f=none) (A:C.prog.funcs[f]? =some fn)
 (B:s.vars=[]) (D:∀q:List (DataW H),q.length=fn.params.toList.length->s.fn H q={results:=[.lit (.bool true)],args:=q})
 (u:fn.resultTypes= #[tb]) (N:C.prog.underlying tb=some .bool) (O:laidOutB C.prog=true) (hp:∀t∈fn.params.toList,C.prog.readableRec t=true/\t<C.prog.types.size)
 (w0:World) (d:Array Value) (fuel:Nat) (E:w0.os=os)
 (P:(w0.forCall (λ_ _=>0) ⟨#[],d,[]⟩).variablesB C.prog=true)
 (I:((w0.forCall (λ_ _=>0) ⟨#[],d,[]⟩).heap.toList.drop C.prog.globals.size).take ((begin C.prog (λ_ _=>0) default).world.heap.size-C.prog.globals.size)=
  (begin C.prog (λ_ _=>0) default).world.heap.toList.drop C.prog.globals.size)
 (J:Input.okWideB C.prog (w0.forCall (λ_ _=>0) ⟨#[],d,[]⟩) f ⟨#[],d,[]⟩=true)
 (x:s.preB enc C.prog fn [] g (w0.forCall (λ_ _=>0) ⟨#[],d,[]⟩).memory d fuel=true)
 (K:s.sizedB enc C.prog fn g (w0.forCall (λ_ _=>0) ⟨#[],d,[]⟩).memory d fuel=true)
 (Q:laidMetH C.prog k (w0.forCall (λ_ _=>0) ⟨#[],d,[]⟩).memory)
 (y:∀(W:World) (args:Array Value) (q:List (DataW H)) (L:List MemPlace),(∀(j:Nat) t v,fn.params[j]? =some t->args[j]? =some v->∃base,Value.okWide C.prog W .any base t v)->
  DataW.TrodAll enc C.prog W 0 (λ_=>true) true fn.params.toList args.toList q L->laidMetH C.prog k W->
  ∃G m,Xf W G/\Bq (λ_=>none) m args.toList/\Runs F G f m .e 0 λv _ _=>v=.bool true):
 ReturnsInHanded {} C os f .any (λw args=>(s.pre enc C.prog fn [] g w args/\laidMetH C.prog k w)/\sizedMet enc C.prog fn (OpenSpec.ofChange s) g w args) (s.post enc C.prog fn g fresh false false):=
 AOz M i own p A B D u N O hp w0 d fuel E P I J x K Q λW args q L R S U _=>y W args q L R S U
inductive T.All{α:Type}:(P2->α->Prop)->T α->Prop
 |e {Q:P2->α->Prop}:T.All Q .e
 |n0 {Q:P2->α->Prop} {l r:T α}:T.All (λp=>Q (.z p)) l->T.All (λp=>Q (.o p)) r->T.All Q (.n none l r)
 |n1 {Q:P2->α->Prop} {x:α} {l r:T α}:Q .h x->T.All (λp=>Q (.z p)) l->T.All (λp=>Q (.o p)) r->T.All Q (.n (some x) l r)
theorem T.All.Du{α:Type}:∀{p:P2} {Q:P2->α->Prop} {t:T α},T.All Q t->∀{x:α},T.Du p t=some x->Q p x
 |p,_,_,.e,x,h=>by rw[T.AKk]at h;cases h
 |.h,_,_,.n0 _ _,x,h=>by rw[T.AXs]at h;cases h
 |.z p,Q,_,.n0 d _,x,h=>by rw[T.mD]at h;exact T.All.Du (p:=p) (Q:=λp=>Q (.z p)) d h
 |.o p,Q,_,.n0 _ f,x,h=>by rw[T.lG]at h;exact T.All.Du (p:=p) (Q:=λp=>Q (.o p)) f h
 |.h,_,_,.n1 g _ _,x,h=>by rw[T.AXs]at h;cases h;exact g
 |.z p,Q,_,.n1 _ d _,x,h=>by rw[T.mD]at h;exact T.All.Du (p:=p) (Q:=λp=>Q (.z p)) d h
 |.o p,Q,_,.n1 _ _ f,x,h=>by rw[T.lG]at h;exact T.All.Du (p:=p) (Q:=λp=>Q (.o p)) f h
structure Ac1(P:Program)(F:T AF)(f:Nat)(af:AF):Prop where
 tr:∃fn loc df ords,P.funcs[f]? =some fn/\(fn.name== "runtime.NumGoroutine")=false/\trF P loc df ords af.dg fn=some af
 dg:AR9 af.dp=true∨∃af',T.get F af.dg=some af'/\AR9 af'.dp=true
inductive ADl(P:Program)(F:T AF)(f:Nat)(af:AF):Prop
 |code (h:Ac1 P F f af)
 |nat (k:Nk) (hk:af=.nat k) (h:Abt P f k)
theorem APe{d:Dst}:AR9 d=true↔d=.no:=by cases d<;>simp[AR9]
theorem AKK.AcO{P:Program}{F:T AF}(x:P.follows .mixedOrders=true)(h:T.All (λp v=>ADl P F p.key v) F):AKK P F where
 mixed:=x
 AdR:=λf k i=>by
  have d:=T.All.Du (p:=PK f) h i
  rw[AJL]at d
  cases d with
  |code d=>
   obtain⟨C,y,D,ords,_,_,g⟩:=d.tr
   unfold trF at g
   split at g
   ·obtain⟨_,_,g⟩:=AB.1 g
    obtain⟨_,_,g⟩:=AB.1 g
    split at g<;>cases g
   ·cases g
  |nat w m d=>cases m;exact d
 fns:=λf v i q=>by
  have d:=T.All.Du (p:=PK f) h i
  rw[AJL]at d
  cases d with
  |code d=>exact d.tr
  |nat w m d=>subst m;cases q
 dgs:=λf v A i q hd u=>by
  have d:=T.All.Du (p:=PK f) h i
  cases d with
  |code d=>
   rcases d.dg with e|⟨a,B,q⟩
   ·exact absurd (APe.1 e) hd
   ·rw[B]at u;cases u;exact APe.1 q
  |nat w m d=>subst m;cases q
open Classical in
def toV:Value->V
 |.int k n=>.int k n 0
 |.bool b=>.bool b
 |.string s=>.str s.data.toList.length (enc s.data.toList)
 |.slice none len cap=>if len=0/\cap=0 then .Ad else .undef
 |.slice (some a) len cap=>if len<=cap/\(cap=0∨a.spot=none)then .rsl a.block a.off len cap 0 else .undef
 |_=>.undef
theorem ATZ(ρ:Loc)(u:Value):Aa ρ (toV u) u:=by
 cases u with
 |slice a len d=>
  cases a with
  |none=>
   simp only[toV]
   split
   ·rename_i h;obtain⟨rfl,rfl⟩:=h;simp[Aa]
   ·simp[Aa]
  |some a=>
   simp only[toV]
   split
   ·rename_i h
    refine⟨a,rfl,?_,h.1⟩
    rcases h.2 with e|e
    ·exact .inl e
    ·right;cases a;simp_all
   ·simp[Aa]
 |_=>simp[toV,Aa]
open Classical in
def O9(W:World):AY:=λb off n=>
 if ∀j,j<n->∃u,W.cell? ⟨b,off+j,none⟩=some u/\u.oneCell'=true then some ((List.range n).map λj=>toV ((W.cell? ⟨b,off+j,none⟩).getD undef))else none
theorem ATQ(W:World):Xf W (O9 W):=by
 intro b m n L h
 unfold O9 at h
 split at h
 ·rename_i p
  cases h
  refine⟨by simp,λj v d=>?_⟩
  rw[List.getElem?_map]at d
  cases f:(List.range n)[j]? with
  |none=>rw[f]at d;cases d
  |some k=>
   rw[f]at d
   have g:j<n:=by have:=(List.getElem?_eq_some_iff.1 f).1;simpa using this
   rw[List.getElem?_range g]at f
   cases f
   obtain⟨u,i,q⟩:=p j g
   refine⟨u,i,?_,q⟩
   simp only[Option.map_some,Option.some.injEq]at d
   subst d
   rw[i]
   exact ATZ _ _
 ·cases h
theorem AIi{W:World}{b off n:Nat}{cs:List Value}(f:cs.length=n)(g:∀u∈cs,u.oneCell'=true)(h:∀j u,cs[j]? =some u->W.cell? ⟨b,off+j,none⟩=some u):O9 W b off n=some (cs.map toV):=by
 subst f
 unfold O9
 rw[if_pos]
 ·congr 1
  apply List.ext_getElem?
  intro j
  rw[List.getElem?_map,List.getElem?_map]
  by_cases d:j<cs.length
  ·rw[List.getElem?_range d,List.getElem?_eq_getElem d]
   simp only[Option.map_some]
   rw[h j _ (List.getElem?_eq_getElem d)]
   rfl
  ·rw[List.getElem?_eq_none (by simpa using d),List.getElem?_eq_none (by simpa using d)]
   rfl
 ·intro j d
  exact⟨cs[j],h j _ (List.getElem?_eq_getElem d),g _ (List.getElem_mem d)⟩
inductive Dt where
 |int (k:IntKind) (n:Int)|bool (b:Bool)|str (s:List UInt8)|sl (z:Nat) (l:List Dt)|st (l:List Dt)
variable{P:Program}{H:Type}{enc':TypeId×Value->H}{w:World}{base:Nat}{spare:Nat->Bool}{held:Bool}
def pO{H:Type}:Nat->DataW H->Option LV
 |0,_=>none
 |n+1,d=>match d with
  |.lit (.int k i)=>some [.int k i 0]
  |.lit (.bool b)=>some [.bool b]
  |.lit (.string s)=>some [.str s.length (enc s)]
  |.agg ds=>(ds.mapM (pO n)).map List.flatten
  |_=>none
def yC:Nat->List (Nat×Nat)->Nat->Bool
 |o,[],tot=>Nat.beq o tot
 |o,(a,l)::r,tot=>Nat.beq a o&&yC (o+l) r tot
def AG7(P:Program):Nat->TypeId->Bool
 |0,_=>false
 |d+1,t=>match P.underlying t with
  |some (.int _)=>true
  |some .bool=>true
  |some .string=>true
  |some (.struct fs)=>yC 0 (fs.toList.map λf=>(f.offset,P.cellsOf f.type)) (P.cellsOf t)&&fs.toList.all λf=>AG7 P d f.type
  |some (.array n e)=>Nat.beq (n*P.cellsOf e) (P.cellsOf t)&&AG7 P d e
  |_=>false
theorem iY{α:Type}(cs:List α):∀(d:List (Nat×Nat)) (o:Nat),yC o d cs.length=true->cs.drop o=(d.map λp=>(cs.drop p.1).take p.2).flatten
 |[],o,h=>by
  have:o=cs.length:=Nat.eq_of_beq_eq_true h
  subst this;simp
 |(a,l)::r,o,h=>by
  simp only[yC,Bool.and_eq_true]at h
  have f:a=o:=Nat.eq_of_beq_eq_true h.1
  subst f
  have g:=iY cs r (a+l) h.2
  simp only[List.map_cons,List.flatten_cons]
  rw[<-g,<-List.drop_drop,List.take_append_drop]
inductive ASv{α β:Type}(R:α->β->Prop):List α->List β->Prop
 |nil:ASv R [] []
 |cons {a:α} {b:β} {l:List α} {m:List β}:R a b->ASv R l m->ASv R (a::l) (b::m)
theorem AKV{ρ:Loc}:∀{xs:List LV} {ys:List (List Value)},ASv (λa b=>Bq ρ a b) xs ys->Bq ρ xs.flatten ys.flatten
 |_,_,.nil=>by simp
 |_,_,.cons h t=>by simp only[List.flatten_cons];exact h.append (AKV t)
theorem dw{α g m:Type}{f:α->Option g}{R:g->m->Prop}:∀{l:List α} {r:List g} {ys:List m},l.mapM f=some r->l.length=ys.length->(∀(i:Nat) (a:α) (b:g) (y:m),l[i]? =some a->f a=some b->ys[i]? =some y->R b y)->ASv R r ys
 |[],r,ys,h,k,_=>by
  simp at h;subst h
  cases ys with
  |nil=>exact .nil
  |cons=>simp at k
 |a::l,r,ys,h,k,q=>by
  cases ys with
  |nil=>simp at k
  |cons y ys=>
   rw[List.mapM_cons]at h
   cases d:f a with
   |none=>rw[d]at h;cases h
   |some b=>
    rw[d]at h
    cases p:l.mapM f with
    |none=>simp[p]at h
    |some x=>
     simp[p]at h;subst h
     exact .cons (q 0 a b y rfl d rfl) (dw p (by simpa using k) λi a b y u v w=>q (i+1) a b y (by simpa using u) v (by simpa using w))
theorem AFD{α i:Type}{f:α->Option i}:∀{l:List α} {r:List i},l.mapM f=some r->∀a∈l,∃b,f a=some b
 |[],_,_,_,h=>by cases h
 |a::l,r,h,x,g=>by
  rw[List.mapM_cons]at h
  cases d:f a with
  |none=>rw[d]at h;cases h
  |some b=>
   rw[d]at h
   cases k:l.mapM f with
   |none=>simp[k]at h
   |some m=>
    rcases List.mem_cons.1 g with rfl|g
    ·exact⟨b,d⟩
    ·exact AFD k x g
theorem rV:∀(fuel:Nat) {t:TypeId} {cs:List Value} {d:DataW H} {ps:List MemPlace} {n m:Nat} {vs:LV},DataW.trod enc' P w base spare held fuel t cs=some (d,ps)->pO n d=some vs->AG7 P m t=true->
 Bq (λ_=>none) vs cs/\∀u∈cs,u.oneCell'=true
 |0,_,_,_,_,_,_,_,h,_,_=>by simp[DataW.trod]at h
 |fuel+1,t,cs,d,ps,n,0,vs,h,p,C=>by cases C
 |fuel+1,t,cs,d,ps,0,m+1,vs,h,p,C=>by cases p
 |fuel+1,t,cs,d,ps,n+1,m+1,vs,h,p,C=>by
  simp only[AG7]at C
  split at C
  ·rename_i k q
   obtain⟨i,rfl,e,_⟩:=DataW.trod_int q h
   cases e
   simp only[pO,Option.some.injEq]at p;subst p
   exact⟨.cons (by simp[Aa]) .nil,λu q=>by simp at q;subst q;rfl⟩
  ·rename_i q
   obtain⟨i,rfl,e⟩:=DataW.trod_bool q h
   cases e
   simp only[pO,Option.some.injEq]at p;subst p
   exact⟨.cons (by simp[Aa]) .nil,λu q=>by simp at q;subst q;rfl⟩
  ·rename_i q
   obtain⟨s,rfl,e,_⟩:=DataW.trod_string q h
   cases e
   simp only[pO,Option.some.injEq]at p;subst p
   exact⟨.cons ⟨s,rfl,rfl,rfl⟩ .nil,λu q=>by simp at q;subst q;rfl⟩
  ·rename_i Z q
   rw[Bool.and_eq_true]at C
   obtain⟨A,W,X,e,E,B,Q⟩:=DataW.trod_struct q h
   have F:fuel=W:=by omega
   subst F
   cases e
   have g:=iY cs _ 0 (by rw[E];exact C.1)
   simp only[List.drop_zero,List.map_map]at g
   simp only[pO]at p
   cases O:(A.map (·.1)).mapM (pO n)with
   |none=>rw[O]at p;cases p
   |some r=>
    rw[O]at p
    simp only[Option.map_some,Option.some.injEq]at p
    subst p
    have v:∀(i:Nat) (f:Field) (x:DataW H×List MemPlace),Z[i]? =some f->A[i]? =some x->∀b,pO n x.1=some b->Bq (λ_=>none) b ((cs.drop f.offset).take (P.cellsOf f.type))/\∀u∈(cs.drop f.offset).take (P.cellsOf f.type),u.oneCell'=true:=by
     intro i f x M D b G
     have U:=Q i f M
     rw[D]at U
     obtain⟨x1,x2⟩:=x
     exact rV fuel U G (List.all_eq_true.1 C.2 f (by simpa using Array.mem_of_getElem? M))
    constructor
    ·rw[g]
     refine AKV (dw O (by simp[B]) ?_)
     intro i a b y I G N
     rw[List.getElem?_map]at I N
     cases D:A[i]? with
     |none=>rw[D]at I;cases I
     |some x=>
      rw[D]at I
      cases I
      cases R:Z.toList[i]? with
      |none=>rw[R]at N;cases N
      |some f=>
       rw[R]at N
       cases N
       exact(v i f x (by simpa using R) D b G).1
    ·intro u J
     rw[g]at J
     obtain⟨l,Y,S⟩:=List.mem_flatten.1 J
     obtain⟨f,p,rfl⟩:=List.mem_map.1 Y
     obtain⟨i,M⟩:=List.mem_iff_getElem?.1 p
     have K:i<A.length:=by rw[B];simpa using(List.getElem?_eq_some_iff.1 M).1
     have T:=AFD O (A[i]).1 (List.mem_map.2 ⟨A[i],List.getElem_mem K,rfl⟩)
     obtain⟨b,G⟩:=T
     exact(v i f _ (by simpa using M) (List.getElem?_eq_getElem K) b G).2 u S
  ·rename_i k e q
   rw[Bool.and_eq_true]at C
   obtain⟨A,W,X,e',E,B,Q⟩:=DataW.trod_array q h
   have F:fuel=W:=by omega
   subst F
   cases e'
   have hk:k*P.cellsOf e=P.cellsOf t:=Nat.eq_of_beq_eq_true C.1
   have V:∀(j o:Nat),yC (o*P.cellsOf e) ((List.range' o j).map λi=>(i*P.cellsOf e,P.cellsOf e)) ((o+j)*P.cellsOf e)=true:=by
    intro j
    induction j with
    |zero=>intro o;simp[yC]
    |succ j ih=>
     intro o
     simp only[List.range'_succ,List.map_cons,yC,Bool.and_eq_true]
     refine⟨by simp,?_⟩
     have:=ih (o+1)
     rw[Nat.add_mul,Nat.one_mul]at this
     rw[show o+(j+1)=o+1+j by omega]
     exact this
   have g:=iY cs ((List.range' 0 k).map λi=>(i*P.cellsOf e,P.cellsOf e)) 0 (by have:=V k 0;rw[E,<-hk];simpa using this)
   simp only[List.drop_zero,List.map_map]at g
   simp only[pO]at p
   cases O:(A.map (·.1)).mapM (pO n)with
   |none=>rw[O]at p;cases p
   |some r=>
    rw[O]at p
    simp only[Option.map_some,Option.some.injEq]at p
    subst p
    have v:∀(i:Nat) (x:DataW H×List MemPlace),i<k->A[i]? =some x->∀b,pO n x.1=some b->Bq (λ_=>none) b ((cs.drop (i*P.cellsOf e)).take (P.cellsOf e))/\∀u∈(cs.drop (i*P.cellsOf e)).take (P.cellsOf e),u.oneCell'=true:=by
     intro i x M D b G
     have U:=Q i M
     rw[D]at U
     obtain⟨x1,x2⟩:=x
     exact rV fuel U G C.2
    constructor
    ·rw[g]
     refine AKV (dw O (by simp[B]) ?_)
     intro i a b y I G N
     rw[List.getElem?_map]at I N
     cases D:A[i]? with
     |none=>rw[D]at I;cases I
     |some x=>
      rw[D]at I
      cases I
      have L:i<k:=by rw[<-B];exact(List.getElem?_eq_some_iff.1 D).1
      rw[List.getElem?_range' L]at N
      simp only[Option.map_some,Function.comp,Option.some.injEq,Nat.zero_add,Nat.one_mul]at N
      subst N
      exact(v i x L D b G).1
    ·intro u J
     rw[g]at J
     obtain⟨l,Y,S⟩:=List.mem_flatten.1 J
     obtain⟨i,M,rfl⟩:=List.mem_map.1 Y
     have L:i<k:=by simp at M;exact M
     have K:i<A.length:=by rw[B];exact L
     have T:=AFD O (A[i]).1 (List.mem_map.2 ⟨A[i],List.getElem_mem K,rfl⟩)
     obtain⟨b,G⟩:=T
     exact(v i _ L (List.getElem?_eq_getElem K) b G).2 u S
  ·cases C
end Go.Bf
namespace Go.Bf
end Go.Bf
namespace Go.Bf
theorem wrap_i64_small{n:Nat}(h:n<9223372036854775808):IntKind.wrap .i64 (n:Int)=n:=by
 simp only[IntKind.wrap,IntKind.signed,IntKind.bits]
 have d:(n:Int)%2^64=n:=Int.emod_eq_of_lt (by omega) (by omega)
 simp only[d,Bool.true_and]
 rw[if_neg]
 simp
 omega
def ASj(a:Int)(m:Nat):Nat:=(bits .and .i64 a (.ofNat m)).toNat
theorem AQh(a:Int){m:Nat}(f:m<9223372036854775808):∃x:Nat,bits .and .i64 a (.ofNat m)=x/\x<=m:=by
 refine⟨(BitVec.ofInt 64 a&&&BitVec.ofInt 64 (.ofNat m)).toNat,?_,?_⟩
 ·have d:(BitVec.ofInt 64 a&&&BitVec.ofInt 64 (.ofNat m)).toNat<9223372036854775808:=by
   rw[BitVec.toNat_and]
   refine Nat.lt_of_le_of_lt Nat.and_le_right ?_
   simp;omega
  exact wrap_i64_small d
 ·rw[BitVec.toNat_and]
  refine Nat.le_trans Nat.and_le_right ?_
  simp;omega
theorem AMx(a:Int){m:Nat}(f:m<9223372036854775808):bits .and .i64 a (.ofNat m)=(ASj a m:Int)/\ASj a m<=m:=by
 obtain⟨x,g,d⟩:=AQh a f
 unfold ASj
 rw[g]
 exact⟨rfl,d⟩
theorem AVb(a:Int){m:Nat}(d:m<9223372036854775808):AZ4 .i64 a (.ofNat m)=.ofNat (ASj a m):=by
 rw[<-show((ASj a m:Nat):Int)=.ofNat (ASj a m)from rfl,<-(AMx a d).1]
 cases a with
 |ofNat n=>show Z7 .i64 (.ofNat (Nat.land n m))=_;rw[UM,AGc];rfl
 |negSucc n=>rfl
end Go.Bf
