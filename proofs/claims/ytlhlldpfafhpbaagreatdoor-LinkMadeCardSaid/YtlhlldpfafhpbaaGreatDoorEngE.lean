/- Part of a proof; nothing is assumed. -/
import Derived.Test.YtlhlldpfafhpbaaGreatDoorEngD
import Derived.Scope
import Derived.Defers
import Derived.ChangeSame
import Derived.ChangeVars
import Derived.JoinedOf
import Derived.RowKit
import Derived.RowKitTokens
import Derived.LaidLaws
import Derived.LaidHandle
import Derived.Carry
import Derived.ProofKit
import Derived.Stop.Joined
import Derived.OpenShut
set_option linter.unusedVariables false
set_option linter.unusedSimpArgs false
noncomputable section
namespace Go.BN
variable{P:Program}
def zC:aAw->aAw->aAw
 |[],l=>l
 |x::r,l=>if l.elem x then zC r l else zC r (x::l)
variable{x:Nat}
abbrev oL:∀(r l:aAw),x∈zC r l->x∈r∨x∈l
 |[],l,h=>.inr h
 |y::r,l,h=>by
  simp only[zC]at h;split at h
  .rcases oL r l h with h|h<;>simp_all
  .rcases oL r _ h with h|h
   .simp[*]
   .rcases qk.1 h with rfl|h<;>simp_all
def ABs(acc:List (aAw)):List Edge->aAw
 |[]=>[]
 |e::r=>if Region.binds .any e then zC (e.on::(acc[e.on]?).getD []) (ABs acc r)else ABs acc r
def AHw:List Oper->List (aAw)->List (aAw)
 |[],acc=>acc
 |o::r,acc=>AHw r (acc++[ABs acc o.after.toList])
theorem sZ{f:List _}{x:Nat}:∀(es:List Edge),x∈ABs f es->∃e∈es,Region.binds .any e=true/\(x=e.on∨x∈(f[e.on]?).getD [])
 |[],h=>by cases h
 |e::r,h=>by
  simp only[ABs]at h
  split at h
  ·rcases oL _ _ h with h|h
   ·simp_all
   ·obtain⟨g,d,i⟩:=sZ r h;exact⟨g,List.mem_cons_of_mem _ d,i⟩
  ·obtain⟨g,d,i⟩:=sZ r h;exact⟨g,List.mem_cons_of_mem _ d,i⟩
variable{i:Nat}
abbrev AAM{ops:Array Oper}{o:Oper}(d:ops[i]? =some o){e:Edge}(f:e∈o.after)(g:Region.binds .any e=true):Before ops e.on i:=λS _ k=>k o d e f g
abbrev before_trans{ops:Array Oper}{y:Nat}(f:Before ops x y)(g:Before ops y i):Before ops x i:=λS d k=>by have m:=g S d k;exact f S d λo p e q u=>d y o m p e q u
abbrev AAn{ops:Array Oper}:∀(l:List Oper) (d:List (aAw)),(∀j,l[j]? =ops[d.length+j]?)->(∀i x,x∈(d[i]?).getD []->Before ops x i)->∀i x,x∈((AHw l d)[i]?).getD []->Before ops x i
 |[],d,_,h=>h
 |o::r,d,m,h=>by
  have p:ops[d.length]? =some o:=by have:=m 0;simp_all
  refine AAn r (d++[ABs d o.after.toList]) (λj=>?_) ?_
  .have:=m (j+1);rw[_G]at this;simp[this,G_,Nat.add_comm 1 j]
  .intro i x f;by_cases q:i<d.length
   .simp_all[qi q]
   .rw[i_ a6]at f;have g:i=d.length:=by
     cases w:i-d.length with
     |zero=>omega
     |succ k=>simp_all
    subst g;simp only[b7]at f;have⟨e,y,u,f⟩:=sZ _ f;have v:=AAM p (by simp_all) u;rcases f with rfl|f
    .omega
    .exact before_trans (h _ _ f) v
def Tn(P:Program)(C:FX)(ops:Array Oper):List (Nat×Wk)->Option (aAy)
 |[]=>some []
 |(i,wk)::r=>Aq (AL0 P C ops i wk) λs=>Aq (Tn P C ops r) λl=>some (s::l)
variable{C:FX}
abbrev AA0{ops:Array Oper}:∀(l:List _) (ss:aAy),Tn P C ops l=some ss->∀s∈ss,mM P C ops s
 |[],ss,h,s,d=>by cases h;trivial
 |(i,k)::r,ss,h,s,d=>by
  have⟨m,f,h⟩:=AH.1 h;have⟨l,g,e⟩:=AH.1 h;cases e;rcases qk.1 d with rfl|d
  .exact(AMr f).1
  .exact AA0 r l g s d
def AGV(i:Nat):aAy->Bool
 |[]=>false
 |s::r=>Nat.beq s.i i||AGV i r
abbrev pW:∀{l:aAy},AGV i l=true↔∃s∈l,s.i=i
 |[]=>by simp[AGV]
 |s::r=>by simp[AGV,pW]
def ADU(ss:aAy):Nat->Bool
 |0=>true
 |n+1=>AGV n ss&&ADU ss n
def xU:aAy->aAy->Bool
 |_,[]=>true
 |done,s::r=> !AGV s.i done&&s.o.after.toList.all (λe=> !Region.binds .any e||AGV e.on done)&&xU (done++[s]) r
def AB3(Mc:Nat->aAw):aAy->Bool
 |[]=>true
 |j::r=>(!j.ao.UD||r.all λs=>(Mc s.i).elem j.i)&&AB3 Mc r
def AR5:jK->Bool
 |.to _=>true
 |_=>false
def AHR(s:Stp):Bool:=
 (s.ao.UD||match s.dt with|some t=> !s.rd.elem t|none=>true)&&(!s.ao.lC||AR5 s.dst)
def AN3(Mc:Nat->aAw)(s k:Stp):Bool:=
 Nat.beq s.i k.i||match s.dt with
  |none=>true
  |some t=>(match k.dt with|some u=> !Nat.beq t u|none=>true)&&(!k.rd.elem t||((Mc k.i).elem s.i||(s.ao.UD&&(Mc s.i).elem k.i)))
def AHC(ops:Array Oper)(Mc:Nat->aAw)(ss:aAy):Bool:=
 Nat.ble ss.length ops.size&&ADU ss ops.size&&xU [] ss&&AB3 Mc ss&&ss.all AHR&&ss.all λs=>ss.all (AN3 Mc s)
variable{ss:List Stp}
abbrev AXt{ss:aAy}:∀{n:Nat},ADU ss n=true->∀i,i<n->∃s∈ss,s.i=i
 |0,_,i,hi=>a6
 |n+1,h,i,hi=>by
  simp only[ADU,ez]at h;rcases _O i n with d|f
  .exact AXt h.2 i d
  .have:i=n:=a6;subst this;exact pW.1 h.1
abbrev VG:∀{r done:aAy},xU done r=true->∀d s f,r=d++s::f->(∀x∈done++d,x.i≠s.i)/\∀e∈s.o.after,Region.binds .any e=true->∃x∈done++d,x.i=e.on
 |[],done,_,d,s,f,g=>by simp_all
 |t::r,done,h,d,s,f,g=>by
  simp only[xU,ez,_l]at h;have⟨⟨v,k⟩,p⟩:=h;cases d with
  |nil=>
   simp only[_W,_h]at g;obtain⟨rfl,rfl⟩:=g;refine⟨λx m e=>?_,λe g q=>?_⟩
   .rw[qs]at m;simp_all[pW.2 ⟨x,m,e⟩]
   .rw[qs];rw[_A]at k;have:=k e (by simp[*]);rw[q]at this;exact pW.1 (by trivial)
  |cons u d=>
   obtain⟨rfl,rfl⟩:=g;have:=VG p d s f rfl;simp_all
abbrev vV{Mc:Nat->aAw}:∀{ss:aAy},AB3 Mc ss=true->∀f j g s d,ss=f++j::(g++s::d)->j.ao.UD=true->j.i∈Mc s.i
 |[],_,f,j,g,s,d,k=>by simp_all
 |t::r,h,f,j,g,s,d,k=>by
  simp only[AB3,ez]at h;cases f with
  |nil=>
   intro m;simp_all
  |cons u f=>
   obtain⟨rfl,rfl⟩:=k;exact vV h.2 f j g s d rfl
abbrev AEw{ops:Array Oper}{l:List (Nat×Wk)}{ss:aAy}(H:Tn P C ops l=some ss)(h:AHC ops (λi=>((AHw ops.toList [])[i]?).getD []) ss=true):Ur P C ops ss (λi=>((AHw ops.toList [])[i]?).getD []):=by
 have m:=AAn (ops:=ops) ops.toList [] (λj=>o6) (λi x v=>by trivial);simp only[AHC,ez]at h;have⟨⟨⟨⟨⟨I,J⟩,w⟩,K⟩,y⟩,F⟩:=h;rw[_A]at y F;refine{ok:=AA0 l ss H,all:=AXt J,inj:=?_,AUO:=?_,act:=λf j A s d p G=>m _ _ (vV K f j A s d p G),own:=?_,regs:=?_,Mc:=m,AU7:=?_,len:=h_ I}
 .intro f s d p;refine⟨λx v=>by have:=(VG w f s d p).1;simp_all,λx v e=>?_⟩;obtain⟨q1,q2,rfl⟩:=I_ v;have:=(VG w (f++s::q1) x q2 (by simp_all)).1 s o6;omega
 .intro f s d p e B D;have:=(VG w f s d p).2 e B D;trivial
 .intro s g G t q L;have:=y s g;simp only[AHR,ez]at this;simp_all
 .intro s g k E M t q;have:=F s g;rw[_A]at this;have:=this k E;unfold AN3 at this;rw[q]at this;have D:Nat.beq s.i k.i=false:=by simp_all[_q]
  rw[D]at this;simp only[_P,ez]at this;refine⟨λR=>?_,λL=>?_⟩
  .simp_all
  .have u:=this.2;have:k.rd.elem t=true:=by simp_all
   rw[this]at u;simp only[k_,_P,Bool.or_eq_true,ez]at u;rcases u with u|⟨u,S⟩<;>simp_all
 .intro s g N;have:=y s g;simp only[AHR,ez]at this;have O:=this.2;rw[N]at O;cases Q:s.dst<;>simp_all[Q,AR5]
variable{P:Program}
abbrev AFc:=List (Nat×List (Nat×Wk))
def AQp(id:Nat):AFc->Option (List (Nat×Wk))
 |[]=>none
 |(i,l)::r=>if i=id then some l else AQp id r
def Va(P:Program)(C:FX)(ords:AFc):Code->Option AC
 |.skip=>some .skip
 |.region id ops draw=>match draw with
  |false=>Aq (xH P C ops [] 0 ops.toList) λl=>some (.ops l)
  |true=>Aq (AQp id ords) λl=>Aq (Tn P C ops l) λss=>match AHC ops (λi=>((AHw ops.toList [])[i]?).getD []) ss with
   |true=>some (.reg (C1 (λi=>((AHw ops.toList [])[i]?).getD []) [] ss))
   |false=>none
 |.seq a b=>Aq (Va P C ords a) λa=>Aq (Va P C ords b) λb=>some (.seq a b)
 |.cond c a b=>Aq (ANE C [] 0 c) λx=>Aq (Va P C ords a) λa=>Aq (Va P C ords b) λb=>some (.cond x a b)
 |.block id c=>Aq (Va P C ords c) λc=>some (.block id c)
 |.loop c=>Aq (Va P C ords c) λc=>some (.loop c)
 |.exit id=>some (.exit id)
 |.ret=>some .ret
 |.scope c=>Va P C ords c
 |.label _=>some .skip
 |_=>none
def Fr(w0:World)(C:FX)(ρ0:Loc)(H0:Heap)(n0:Nat)(R:F3)(H:Heap)(n:Nat)(a:Act)(w:World):Prop:=∃ρ,Cb w0 ρ H n w/\Rg C ρ R a/\FC ρ0 H0 n0 ρ H n
variable{p:Nat->Prop}
abbrev least(h:∃m,p m):∃m,p m/\∀j,p j->m<=j:=by
 have⟨m,f⟩:=h;induction m using Nat.strongRecOn with
 |_ m g=>
  by_cases h:∃j,j<m/\p j
  .obtain⟨j,d,i⟩:=h;exact g j d i
  .refine⟨m,f,λj d=>?_⟩;rcases _O j m with k|q<;>simp_all
open Classical in
def lst(p:Nat->Prop):Nat:=if h:∃m,p m then(least h).choose else 0
abbrev AEM(h:∃m,p m):p (lst p)/\∀j,p j->lst p<=j:=by unfold lst;rw[dif_pos h];exact(least h).choose_spec
variable{ρ:Loc}{R:F3}{a:Act}
abbrev AJE:iu C ρ (.mk [] R) 0 [] a:=⟨rfl,λt ev h=>by cases h⟩
section
variable{w0:World}{C:FX}{ords:AFc}{ρ0:Loc}{H0:Heap}{n0:Nat}{G:AQ}{call:Am}{lf:Nat}
abbrev nC(hm:P.follows .mixedOrders=true)(hc:Y5 P w0 call)(hg:Sj w0 G):∀(c:Code) (I:AC),Va P C ords c=some I->∀(Q:Exit->Act->World->Prop) (R:F3) (H:Heap) (n:Nat) (k:K) (x:KX) (r:K) (a:Act) (w:World),
 (∀R H n a w,k R H n->Fr w0 C ρ0 H0 n0 R H n a w->Q .normal a w)->(∀i R H n a w,x i R H n->Fr w0 C ρ0 H0 n0 R H n a w->Q (.exit i) a w)->(∀R H n a w,r R H n->Fr w0 C ρ0 H0 n0 R H n a w->Q .ret a w)->
 I.ex G call lf R H n k x r->Fr w0 C ρ0 H0 n0 R H n a w->c.wp P Q a w:=by
 intro c;induction c with
 |skip=>
  intro I h Q R H n k x r a w u A v q g;cases h;exact wp_skip (u _ _ _ _ _ q g)
 |region id X Y=>
  intro I h Q R H n k x r a w u A v q g;have⟨V,O,L,B⟩:=g;cases Y with
  |false=>
   simp only[Va]at h;have⟨l,W,e⟩:=AH.1 h;cases e;have f:Mu l G call (.mk [] R) H n (λE H n=>k E.rg H n):=q;exact wp_region_list (vR (ρ0:=ρ0) (H0:=H0) (n0:=n0) hc hg (λE H n a w V hK O v B=>u _ _ _ _ _ hK ⟨V,O,v,B⟩) X.toList [] 0 l W _ H n a w V f O L AJE B)
  |true=>
   simp only[Va]at h;have⟨l,W,h⟩:=AH.1 h;have⟨ss,d2,h⟩:=AH.1 h;split at h
   .rename_i Z;cases h;have R0:=AEw d2 Z;have f:Bg (C1 (λi=>((AHw X.toList [])[i]?).getD []) [] ss) G call (.mk [] R) H n (λE H n=>k E.rg H n):=q;exact AKE hm R0 hc hg O L f λE H n a w d3 hK d4 D d0=>u _ _ _ _ _ hK ⟨d3,d4,D,B.trans d0⟩
   .cases h
 |seq c1 c2 S T=>
  intro I h Q R H n k x r a w u A v q g;simp only[Va]at h;have⟨y,U,h⟩:=AH.1 h;have⟨a2,h2,e⟩:=AH.1 h;cases e;have f:y.ex G call lf R H n (λR H n=>a2.ex G call lf R H n k x r) x r:=q;refine wp_seq (S y U _ R H n _ x r a w ?_ ?_ ?_ f g)
  .intro R H n a w F d;exact T a2 h2 Q R H n k x r a w u A v F d
  .intro i R H n a w M d;exact A i R H n a w M d
  .intro R H n a w D d;exact v R H n a w D d
 |cond c c1 c2 S T=>
  intro I h Q R H n k x r a w u A v q g;simp only[Va]at h;have⟨cx,d5,h⟩:=AH.1 h;have⟨y,U,h⟩:=AH.1 h;have⟨a2,h2,e⟩:=AH.1 h;cases e;have f:AS (cx.ev (.mk [] R)) (y.ex G call lf R H n k x r) (a2.ex G call lf R H n k x r):=q;rw[VM]at f;have⟨t,ht,f⟩:=f;have⟨V,O,L,B⟩:=g;have hv:=AFE (E:=.mk [] R) L AJE c cx d5;rw[ht]at hv;simp only[AW]at hv;refine wp_cond_split hv (λe=>?_) (λe=>?_)
  .rw[hD e]at f;exact S y U Q R H n k x r a w u A v f ⟨V,O,L,B⟩
  .rw[g_ (by simp[e])]at f;exact T a2 h2 Q R H n k x r a w u A v f ⟨V,O,L,B⟩
 |block id c ih=>
  intro I h Q R H n k x r a w u A v q g;simp only[Va]at h;have⟨y,U,e⟩:=AH.1 h;cases e;have f:y.ex G call lf R H n k (Ew id k x) r:=q;refine wp_block (ih y U _ R H n k _ r a w ?_ ?_ ?_ f g)
  .intro R H n a w F d;exact u R H n a w F d
  .intro i R H n a w M d;simp only[Exit.inBlock];cases hb:Nat.beq i id with
   |true=>
    have N:(Bool.rec (motive:=λ_=>Prop->Prop->Prop) (λa _=>a) (λ_ b=>b) (Nat.beq i id) (x i R H n) (k R H n):Prop):=M;rw[hb]at N;rw[hD (r_ hb)];exact u R H n a w N d
   |false=>
    have N:(Bool.rec (motive:=λ_=>Prop->Prop->Prop) (λa _=>a) (λ_ b=>b) (Nat.beq i id) (x i R H n) (k R H n):Prop):=M;rw[hb]at N;rw[g_ (λe=>by subst e;simp at hb)];exact A i R H n a w N d
  .intro R H n a w D d;exact v R H n a w D d
 |loop c ih=>
  intro I h Q R H n k x r a w u A v q g;simp only[Va]at h;have⟨y,U,e⟩:=AH.1 h;cases e;have f:Tb (AC.ex y) G call lf lf R H n x r:=q;have J:∃m R H n,Tb (AC.ex y) G call lf m R H n x r/\Fr w0 C ρ0 H0 n0 R H n a w:=⟨lf,R,H,n,f,g⟩;refine wp_loop (λa w=>∃m R H n,Tb (AC.ex y) G call lf m R H n x r/\Fr w0 C ρ0 H0 n0 R H n a w) (λa w=>lst λm=>∃R H n,Tb (AC.ex y) G call lf m R H n x r/\Fr w0 C ρ0 H0 n0 R H n a w) J ?_;intro a w hI;have⟨hp,_⟩:=AEM hI;cases d1:lst (λm=>∃R H n,Tb (AC.ex y) G call lf m R H n x r/\Fr w0 C ρ0 H0 n0 R H n a w)with
  |zero=>
   rw[d1]at hp;have⟨R,H,n,W,_⟩:=hp;exact(show False from W).elim
  |succ m=>
   rw[d1]at hp;have⟨R,H,n,W,g⟩:=hp;have d6:y.ex G call lf R H n (λR H n=>Tb (AC.ex y) G call lf m R H n x r) x r:=W;refine ih y U _ R H n _ x r a w ?_ ?_ ?_ d6 g
   .intro R H n a' w' F d;refine⟨⟨m,R,H,n,F,d⟩,?_⟩;have:=(AEM (p:=λm=>∃R H n,Tb (AC.ex y) G call lf m R H n x r/\Fr w0 C ρ0 H0 n0 R H n a' w') ⟨m,R,H,n,F,d⟩).2 m ⟨R,H,n,F,d⟩;omega
   .intro i R H n a w M d;exact A i R H n a w M d
   .intro R H n a w D d;exact v R H n a w D d
 |exit id=>
  intro I h Q R H n k x r a w u A v q g;cases h;exact wp_exit (A id _ _ _ _ _ q g)
 |ret=>
  intro I h Q R H n k x r a w u A v q g;cases h;exact wp_ret (v _ _ _ _ _ q g)
 |scope c ih=>
  intro I h Q R H n k x r a w u A v q g;simp only[Va]at h;exact wp_scope_straight (ih I h _ R H n k x r a w u A v q g)
 |label l=>
  intro I h Q R H n k x r a w u A v q g;cases h;exact wp_label (u _ _ _ _ _ q g)
 |_=>intro I h;simp only[Va]at h;cases h
end
variable{P:Program}
def AX8(P:Program)(C:FX):List ResultVar->Option (List AR)
 |[]=>some []
 |.tmp t::r=>if t<C.nt then if C.loc t then none else Aq (AX8 P C r) λl=>some (.tmp (Kw t)::l)else none
 |.cell a ty::r=>if a<C.nt then if C.loc a then none else match Ib P ty with
  |some true=>Aq (pI P ty) λn=>Aq (AX8 P C r) λl=>some (.celln (Kw a) n::l)
  |some false=>Aq (AX8 P C r) λl=>some (.cell1 (Kw a)::l)
  |none=>none
  else none
abbrev oD(r:AR)(l:List AR)(G:AQ)(R:F3)(H:Heap):ASg (r::l) G R H=BB (r.get G R H) λv=>BB (ASg l G R H) λvs=>some (v::vs):=rfl
def AWj(tmps:aAr):ResultVar->Sem Value
 |.tmp t=>pure (tmps.getD t undef)
 |.cell b t=>do loadVar t (<-asAddr (tmps.getD b undef))
variable{w0:World}{H:Heap}{n:Nat}{w:World}{G:AQ}
abbrev xD(B:Sj w0 G)(hh:Cb w0 ρ H n w)(K:Rg C ρ R a):∀(O:List ResultVar) (l:List AR) (vs:LV),AX8 P C O=some l->ASg l G R H=some vs->
 ∃A,(O.mapM (AWj a.tmps)).run P w=.ok A w/\Bj ρ vs A
 |[],l,vs,h,d=>by cases h;have S:some []=some vs:=d;simp_all
 |.tmp t::r,l,vs,h,d=>by
  simp only[AX8]at h;split at h
  .rename_i U;split at h
   .cases h
   .rename_i V;have⟨M,k,e⟩:=AH.1 h;cases e;rw[oD,BQ]at d;have⟨v,p,d⟩:=d;rw[BQ]at d;have⟨q,u,d⟩:=d;cases d;have f:some (Ij (T.Ch (Kw t) R))=some v:=p;cases f;have⟨A,D,g⟩:=xD B hh K r M q k u;refine⟨a.tmps.getD t undef::A,?_,.cons (K.reg t U (by simp_all)) g⟩;simp[_R,AWj,p_,E_,s_,D]
  trivial
 |.cell b Q::r,l,vs,h,d=>by
  simp only[AX8]at h;split at h
  .rename_i W;split at h
   .cases h
   .rename_i V;have i:=K.reg b W (by simp_all);split at h
    .rename_i E;have⟨m,X,h⟩:=AH.1 h;have⟨M,k,e⟩:=AH.1 h;cases e;rw[oD,BQ]at d;have⟨v,p,d⟩:=d;rw[BQ]at d;have⟨q,u,d⟩:=d;cases d;have⟨A,D,g⟩:=xD B hh K r M q k u;have f:Pe (lG (Ij (T.Ch (Kw b) R)) G H m) (λL=>some (.agg L))=some v:=p;have⟨val,x,F⟩:=AIT (P:=P) hh B i E X f;refine⟨val::A,?_,.cons F g⟩;have Y:(AWj a.tmps (.cell b Q)).run P w=.ok val w:=by have⟨Z,I,_⟩:=Sy.1 f;have⟨N,_,y,_⟩:=Zd hh B i I;have J:a.tmps.getD b undef=.pointer (some N):=y;simp_all[x,AWj,Instr.loadAt,y,J,asAddr,Instr.sureAddr]
     simp_all
    .rename_i E;have⟨M,k,e⟩:=AH.1 h;cases e;rw[oD,BQ]at d;have⟨v,p,d⟩:=d;rw[BQ]at d;have⟨q,u,d⟩:=d;cases d;have⟨A,D,g⟩:=xD B hh K r M q k u;have f:Pe (lG (Ij (T.Ch (Kw b) R)) G H 1) (λL=>nth L 0)=some v:=p;have⟨val,x,F⟩:=AJP (P:=P) hh B i E f;refine⟨val::A,?_,.cons F g⟩;have Y:(AWj a.tmps (.cell b Q)).run P w=.ok val w:=by have⟨Z,I,_⟩:=Sy.1 f;have⟨N,_,y,_⟩:=Zd hh B i I;have J:a.tmps.getD b undef=.pointer (some N):=y;simp_all[x,AWj,Instr.loadAt,y,J,asAddr,Instr.sureAddr]
     simp_all
    trivial
  trivial
variable{P:Program}
variable{vs:LV}
abbrev ALv{d:aAp}(h:Bj ρ vs d):AW ρ (Bb vs) (if h:d.toArray.size=1 then d.toArray[0]else .tuple d.toArray):=by
 match vs,d,h with
 |[],d,h=>
  subst h;exact⟨#[],rfl,o6⟩
 |[v],d,h=>
  obtain⟨u,f,rfl,i,g⟩:=HB.1 h;subst g;trivial
 |v::w::vs,d,h=>
  obtain⟨u,f,rfl,i,g⟩:=HB.1 h;obtain⟨p,k,rfl,m,q⟩:=HB.1 g;exact⟨_,rfl,a6⟩
variable{fn:Func}
abbrev AFp(f:Sj w0 G)(hh:Cb w0 ρ H n w)(g:Rg C ρ R a){l:List AR}
 (i:AX8 P C fn.results.toList=some l) (k:ASg l G R H=some vs):∃u,(results fn a.tmps).run P w=.ok u w/\AW ρ (Bb vs) u:=by
 have⟨m,p,d⟩:=xD (P:=P) f hh g fn.results.toList l vs i k;refine⟨_,?_,ALv d⟩;unfold results;rw[Array.mapM_eq_mapM_toList];have e:(λx:ResultVar=>match x with
  |.tmp t=>(pure (a.tmps.getD t undef):Sem Value)
  |.cell b t=>do loadVar t (<-asAddr (a.tmps.getD b undef)))=AWj a.tmps:=by rfl
 simp only[map_eq_pure_bind,bind_assoc,pure_bind];rw[p_];have q:(List.mapM (λx:ResultVar=>match x with
  |.tmp t=>(pure (a.tmps.getD t undef):Sem Value)
  |.cell b t=>do loadVar t (<-asAddr (a.tmps.getD b undef))) fn.results.toList).run P w=.ok m w:=by trivial
 erw [q];simp
def ADd(f:Nat->Bool):Nat->Bool
 |0=>true
 |n+1=> !f n&&ADd f n
abbrev uq{f:Nat->Bool}:∀{n:Nat},ADd f n=true->∀i,i<n->f i=false
 |0,_,i,hi=>a6
 |n+1,h,i,hi=>by
  simp only[ADd,ez,_l]at h;rcases _O i n with d|g
  .exact uq h.2 i d
  .have:i=n:=a6;simp[*]
def ASp(nt:Nat):Bool->jK
 |true=>.to (Kw nt)
 |false=>.no
def fr(P:Program)(loc:Nat->Bool)(df:Bool)(ords:AFc)(dg:Nat)(fn:Func):Option AF:=
 match fn.body with
 |some c=>Aq (Va P ⟨loc,fn.ntmps,df⟩ ords c) λac=>Aq (AX8 P ⟨loc,fn.ntmps,df⟩ fn.results.toList) λrs=>
  match Nat.ble (fn.params.size+fn.nfree) fn.ntmps&&ADd loc (fn.params.size+fn.nfree)with
  |true=>some (.mk (fn.params.size+fn.nfree) ac rs (ASp fn.ntmps df) dg)
  |false=>none
 |none=>none
def AGM:jK->Bool
 |.no=>true
 |_=>false
def AF.dp:AF->jK|.mk _ _ _ d _=>d|.nat _=>.ps
def AF.dg:AF->Nat|.mk _ _ _ _ g=>g|.nat _=>0
def AF.isNat:AF->Bool|.mk _ _ _ _ _=>false|.nat _=>true
def gS(w0:World)(ρ:Loc)(H:Heap)(n:Nat)(k:KV)(e:Ending)(w':World):Prop:=
 ∃u v H' n' ρ',e=.returned u/\k v H' n'/\AW ρ' v u/\Cb w0 ρ' H' n' w'/\FC ρ H n ρ' H' n'
def ARP(P:Program)(f:Nat)(k:Nk):Prop:=AJ7 P f/\∀(w0:World) (G:AQ),Sj w0 G->∀(vargs:aAo) (H:Heap) (n:Nat) (kk:KV),nE k G vargs H n kk->∀(ρ:Loc) (w:World) (args:aAr),Cb w0 ρ H n w->Bj ρ vargs args.toList->
 Calls P f args w (gS w0 ρ H n kk)
structure ABA(P:Program)(F:T AF):Prop where
 mixed:P.follows .mixedOrders=true
 ATn:∀f k,T.get F f=some (.nat k)->ARP P f k
 fns:∀f af,T.get F f=some af->af.isNat=false->∃fn loc df ords,P.funcs[f]? =some fn/\(fn.name== "runtime.NumGoroutine")=false/\fr P loc df ords af.dg fn=some af
 dgs:∀f af af',T.get F f=some af->af.isNat=false->af.dp≠.no->T.get F af.dg=some af'->af'.dp=.no
def AII(P:Program)(w0:World)(call:Am)(f:Nat):Prop:=∀(vargs:aAo) (H:Heap) (n:Nat) (k:KV),call f vargs H n k->∀(ρ:Loc) (w:World) (args:aAr),Cb w0 ρ H n w->Bj ρ vargs args.toList->
 CallsD P f args .returning w (λe u' w'=>u'=.returning/\gS w0 ρ H n k e w')
abbrev tp:∀(args:aAo) (i:Nat) (R:F3) (t:Nat),Ij (T.Ch (Kw t) (ZR args i R))=if i<=t/\t<i+args.length then(args[t-i]?).getD .undef else Ij (T.Ch (Kw t) R)
 |[],i,R,t=>by show Ij (T.Ch (Kw t) R)=_;simp;omega
 |v::vs,i,R,t=>by
  show Ij (T.Ch (Kw t) (ZR vs (i+1) (T.set R i v)))=_;rw[tp vs _ _ t];by_cases h:i+1<=t/\t<i+1+vs.length
  .rw[hD h,hD (by simp;omega)];obtain⟨m,f⟩:∃m,t=i+1+m:=⟨t-(i+1),a6⟩;simp[*,show i+1+m-i=m+1 by omega]
  .rw[g_ h];by_cases d:t=i
   .subst d;show Ij (T.get _ t)=_;simp
   .rw[g_ (by simp;omega)];show Ij (T.get _ t)=_;rw[T.Ac _ _ (λe=>d e.symm)];rfl
section
variable{w0:World}{G:AQ}{F:T AF}{lf:Nat}
abbrev AL9{vargs:aAo}{args:aAr}(d:Bj ρ vargs args.toList)(m:args.size<=C.nt)(g:∀i,i<args.size->C.loc i=false):
 Rg C ρ (ZR vargs 0 .e) {tmps:=args++Array.replicate (C.nt-args.size) undef,defers:=[]}:=by
 have k:vargs.length=args.size:=by simp[d.length]
 refine⟨by simp[*],λt u w=>?_,?_⟩
 .rw[tp];by_cases h:t<vargs.length
  .rw[hD ⟨j_ _,a6⟩,aAd];have⟨v,p,q⟩:=d.get (i:=t) (c:=(vargs[t]?).getD .undef) (by simp_all);have:({tmps:=args++Array.replicate (C.nt-args.size) undef,defers:=[]}:Act).eval (.tmp t)=v:=by
    have f:args[t]? =some v:=by simpa using p
    simp only[Act.eval];rw[Array.getD_eq_getD_getElem?,Array.getElem?_append_left a6,f];rfl
   rwa [this]
  simp[g_ a6,AW]
 .rw[tp,g_ (show ¬(0<=C.nt/\C.nt<0+vargs.length)by omega)];simp only[T.yh];split
  .rfl
  simp
abbrev AD7{dg:Nat}{call:Am}(Q:AII P w0 call dg)(A:∀p H n k,call dg p H n k->AJ7 P dg){tmps:aAr}{R:Ending->World->Prop}(k:Heap->Nat->Prop){ρ0:Loc}{H0:Heap}{n0:Nat}:
 ∀(l:aAo) (F:List Deferred) (ρ:Loc) (H:Heap) (n:Nat) (w:World),DL ρ l F->Cb w0 ρ H n w->FC ρ0 H0 n0 ρ H n->Po dg l call H n k->
  (∀g H' n' w',k H' n'->Cb w0 g H' n' w'->ρ.le g->FC ρ0 H0 n0 g H' n'->Leaves P fn tmps R [] .returning w')->Leaves P fn tmps R F .returning w
 |[],F,ρ,H,n,w,G,hh,q,x,I=>by have:=G;subst this;exact I ρ H n w x hh (Loc.le.refl _) q
 |v::l,F,ρ,H,n,w,G,hh,q,x,I=>by
  obtain⟨d,J,rfl,⟨f,T,U,B,C,rfl,rfl,K,L⟩,M⟩:=G;have m:B7 _ _:=x;rw[Du]at m;have⟨S,i⟩:=m;have N:=r_ S;subst N;have D:(invoke (.fn (.func f) C) B).run P w=.ok (.enter f (B++C)) w:=by simpa[invoke]using az (A _ _ _ _ i) _ w
  refine leaves_cons o6 D ?_;refine(Q _ H n _ i ρ w _ hh (by simpa using K.append L)).mono ?_;rintro e W w' ⟨rfl,u,v,H',n',g,rfl,E,X,O,y⟩;exact AD7 Q A k l J g H' n' w' (M.mono y.le) O (q.trans y) E fun ρ'' H'' n'' w'' h1 h2 h3 h4=>I ρ'' H'' n'' w'' h1 h2 (y.le.trans h3) h4
abbrev AMk(hF:ABA P F)(hg:Sj w0 G):∀fuel,Y5 P w0 (run F G lf fuel)/\∀f y,T.get F f=some y->y.dp=.no->AII P w0 (run F G lf fuel) f
 |0=>⟨λ_ _ _ _ _ h=>(show False from h).elim,λ_ _ _ _ _ _ _ _ h=>(show False from h).elim⟩
 |fuel+1=>by
  have⟨d4,g7⟩:=AMk hF hg fuel;have d8:∀(f:Nat) (g:aAo) (H:Heap) (n:Nat) (k:KV),run F G lf (fuel+1) f g H n k->(∀nk,T.get F f≠some (.nat nk))->AJ7 P f/\∃y q c,T.get F f=some y/\P.funcs[f]? =some q/\q.body=some c/\
   ∀(K:Loc) (w:World) (p:aAr),Cb w0 K H n w->Bj K g p.toList->
    (c.wp P (bodyPostD P q (gS w0 K H n k)) {tmps:=p++Array.replicate (q.ntmps-p.size) undef,defers:=[]} w)/\
    (y.dp=.no->c.wp P (bodyPost P q (gS w0 K H n k)) {tmps:=p++Array.replicate (q.ntmps-p.size) undef,defers:=[]} w):=by
   intro f g H n k h f1;have h':CR (T.get F f) λy=>dO y G (run F G lf fuel) lf g H n k:=h;rw[G1]at h';have⟨y,U,h'⟩:=h';have g0:y.isNat=false:=by
    cases y with
    |mk=>rfl
    |nat nk=>simp_all
   have⟨q,loc,df,ords,d0,f2,O⟩:=hF.fns f y U g0;unfold fr at O;split at O
   .rename_i c hb;have⟨ac,f3,O⟩:=AH.1 O;have⟨rs,g8,O⟩:=AH.1 O;split at O
    .rename_i d1;simp only[ez]at d1;have g1:q.params.size+q.nfree<=q.ntmps:=h_ d1.1;have g2:=uq d1.2;have d9:=e_ O;refine⟨⟨q,d0,by simp_all,f2⟩,y,q,c,U,d0,hb,?_⟩;intro K w p hh J;rw[<-d9]at h';have h2:B7 (Nat.beq (len g) (q.params.size+q.nfree)) (ac.ex G (run F G lf fuel) lf (ZR g 0 .e) H n
      (GZ rs y.dg (ASp q.ntmps df) G (run F G lf fuel) k) iE (GZ rs y.dg (ASp q.ntmps df) G (run F G lf fuel) k)):=h'
     rw[Du]at h2;have⟨i5,f4⟩:=h2;have f5:g.length=q.params.size+q.nfree:=by simp_all
     have i6:p.size=q.params.size+q.nfree:=by simp_all[f5,J.length]
     have N:Fr w0 ⟨loc,q.ntmps,df⟩ K H n (ZR g 0 .e) H n {tmps:=p++Array.replicate (q.ntmps-p.size) undef,defers:=[]} w:=
      ⟨K,hh,AL9 (C:=⟨loc,q.ntmps,df⟩) J (by simp_all) (λi hi=>g2 i a6),FC.refl _ _ _⟩
     have f0:∀A B E D I,(∃l,ASg rs G A B=some l/\k (Bb l) B E)->∀L,Cb w0 L B E I->Rg ⟨loc,q.ntmps,df⟩ L A D->FC K H n L B E->
      ∃v,(results q D.tmps).run P I=.ok v I/\gS w0 K H n k (.returned v) I:=by rintro A B E D I ⟨l,hl,hk⟩ L W Q M;have⟨u,hu,g9⟩:=AFp (P:=P) hg W Q g8 hl;exact⟨u,hu,u,_,_,_,_,rfl,hk,g9,W,M⟩
     cases df with
     |false=>
      have d2:∀A B E D I,GZ rs y.dg .no G (run F G lf fuel) k A B E->Fr w0 ⟨loc,q.ntmps,false⟩ K H n A B E D I->
       D.defers=[]/\∃v,(results q D.tmps).run P I=.ok v I/\gS w0 K H n k (.returned v) I:=by rintro A B E D I hx ⟨L,W,Q,M⟩;have R:CR (ASg rs G A B) λl=>k (Bb l) B E:=hx;rw[G1]at R;exact⟨by simpa using Q.Uw,f0 A B E D I R L W Q M⟩
      refine⟨?_,λ_=>?_⟩
      .refine nC hF.mixed d4 hg c ac f3 _ _ _ _ _ _ _ _ _ ?_ ?_ ?_ f4 N
       .intro A B E D I hx hf;have⟨hd,hv⟩:=d2 A B E D I hx hf;show Leaves P q D.tmps _ D.defers .returning I;rw[hd];trivial
       .intro i A B E D I hx hf;trivial
       .intro A B E D I hx hf;have⟨hd,hv⟩:=d2 A B E D I hx hf;show Leaves P q D.tmps _ D.defers .returning I;rw[hd];trivial
      .refine nC hF.mixed d4 hg c ac f3 _ _ _ _ _ _ _ _ _ ?_ ?_ ?_ f4 N
       .trivial
       .intro i A B E D I hx hf;trivial
       trivial
     |true=>
      have i7:y.dp=.to (Kw q.ntmps):=by rw[<-d9];rfl
      have d2:∀A B E D I,GZ rs y.dg (.to (Kw q.ntmps)) G (run F G lf fuel) k A B E->Fr w0 ⟨loc,q.ntmps,true⟩ K H n A B E D I->
       Leaves P q D.tmps (gS w0 K H n k) D.defers .returning I:=by
       rintro A B E D I hx ⟨L,W,Q,M⟩;have R:Po y.dg (AEF (Ij (T.Ch (Kw q.ntmps) A))) (run F G lf fuel) B E (λH n=>AAZ rs G k A H n):=hx;have hd:=Q.Uw;simp only[_1]at hd;have d3:∀S X Z d5,AAZ rs G k A X Z->Cb w0 S X Z d5->L.le S->FC K H n S X Z->Leaves P q D.tmps (gS w0 K H n k) [] .returning d5:=by intro S X Z d5 i0 g3 g1 f6;have g4:CR (ASg rs G A X) λl=>k (Bb l) X Z:=i0;rw[G1]at g4;exact f0 A X Z D d5 g4 S g3 (Q.mono g1) f6
       cases hl:AEF (Ij (T.Ch (Kw q.ntmps) A))with
       |nil=>
        rw[hl]at hd R;have:D.defers=[]:=hd;rw[this];exact d3 L B E I R W (Loc.le.refl _) M
       |cons v l=>
        rw[hl]at hd R;obtain⟨d,i8,he,⟨f',fa,ca,i9,k0,rfl,_,_,_⟩,_⟩:=hd;have g5:B7 (Nat.beq f' y.dg) (run F G lf fuel f' (cat fa ca) B E λ_ H n=>Po y.dg l (run F G lf fuel) H n (λH n=>AAZ rs G k A H n)):=R;rw[Du]at g5;have⟨i1,f7⟩:=g5;have i2:f'=y.dg:=r_ i1;have g6:∃d6,T.get F y.dg=some d6:=by
         cases fuel with
         |zero=>trivial
         |succ m=>
          have:CR (T.get F f') λy=>dO y G (run F G lf m) lf (cat fa ca) B E (λ_ H n=>Po y.dg l (run F G lf (m+1)) H n (λH n=>AAZ rs G k A H n))∨True:=by have h5:CR (T.get F f') λi3=>dO i3 G (run F G lf m) lf (cat fa ca) B E (λ_ H n=>Po y.dg l (run F G lf (m+1)) H n (λH n=>AAZ rs G k A H n)):=f7;rw[G1]at h5⊢;have⟨x,hx,_⟩:=h5;simp_all
          simp_all[G1,i2]
        have⟨d6,Y⟩:=g6;have d7:=hF.dgs f y d6 U g0 (by simp_all) Y;refine AD7 (g7 y.dg d6 Y d7) (λva H n k h=>(d4 y.dg va H n k h).1) _ (.fn f' fa ca::l) D.defers L B E I ?_ W M R d3;have:=Q.Uw;simp_all
      refine⟨?_,λd7=>by simp_all⟩;refine nC hF.mixed d4 hg c ac f3 _ _ _ _ _ _ _ _ _ ?_ ?_ ?_ f4 N
      .trivial
      .intro i A B E D I hx hf;trivial
      trivial
    trivial
   trivial
  refine⟨?_,?_⟩
  .intro f g H n k h;by_cases f1:∃nk,T.get F f=some (.nat nk)
   .obtain⟨nk,f8⟩:=f1;have h':CR (T.get F f) λy=>dO y G (run F G lf fuel) lf g H n k:=h;rw[f8]at h';have h':nE nk G g H n k:=h';exact⟨(hF.ATn f nk f8).1,fun K w p hh J=>(hF.ATn f nk f8).2 w0 G hg g H n k h' K w p hh J⟩
   have⟨d0,y,q,c,U,hf,hb,f9⟩:=d8 f g H n k h λnk hk=>f1 ⟨nk,hk⟩;refine⟨d0,fun K w p hh J=>?_⟩;exact calls_of_wp_defers hf hb (f9 K w p hh J).1
  .intro f y U d7 g H n k h K w p hh J;have⟨d0,i4,q,c,Y,hf,hb,f9⟩:=d8 f g H n k h λnk hk=>by rw[U]at hk;cases hk;trivial
   have:i4=y:=e_ (Y.symm.trans U);subst this;exact callsD_of_wp hf hb ((f9 K w p hh J).2 d7)
end
variable{S S':Type}
def U3(t:(S->Prop)->Prop):Prop:=∃o:Option S,∀k,t k↔∃s,o=some s/\k s
abbrev GA(s:S):U3 (λk:S->Prop=>k s):=⟨some s,λk=>o6⟩
abbrev E3:U3 (λ_:S->Prop=>False):=⟨none,λk=>o6⟩
abbrev Hc{d:Type}(o:Option d){f:d->(S->Prop)->Prop}(h:∀x,U3 (f x)):U3 (λk=>CR o λx=>f x k):=by
 cases o with
 |none=>exact E3
 |some x=>exact h x
abbrev ACx(o:aAl){f:V->(S->Prop)->Prop}(h:∀x,U3 (f x)):U3 (λk=>AD o λx=>f x k):=by
 cases o with
 |none=>exact E3
 |some x=>exact h x
abbrev ES(b:Bool){t:(S->Prop)->Prop}(h:U3 t):U3 (λk=>B7 b (t k)):=by
 cases b with
 |false=>exact E3
 |true=>exact h
abbrev Xl(n:Nat){f:Nat->(S->Prop)->Prop}(h:∀x,U3 (f x)):U3 (λk=>CS n λn=>f n k):=by simp[*]
abbrev APf(v:V){y m:(S->Prop)->Prop}(d:U3 y)(f:U3 m):U3 (λk=>AS v (y k) (m k)):=by
 cases v<;>try exact E3
 rename_i t;cases t<;>first|trivial|trivial
abbrev AJK(v:V)(b:Bool){y m:(S->Prop)->Prop}(d:U3 y)(f:U3 m):U3 (λk=>dr v b (y k) (m k)):=by
 cases v<;>try exact E3
 .rename_i t;cases t<;>cases b<;>first|trivial|trivial
 .rename_i l;cases l
  .trivial
  .exact E3
abbrev AGR(v:V){f:Nat->LV->LV->(S->Prop)->Prop}(h:∀g a c,U3 (f g a c)):U3 (λk=>V.Ts v λg a c=>f g a c k):=by
 cases v<;>try exact E3
 exact h _ _ _
abbrev K2{t:(S->Prop)->Prop}{u:S->(S'->Prop)->Prop}(d:U3 t)(f:∀s,U3 (u s)):U3 (λk=>t λs=>u s k):=by
 have⟨o,g⟩:=d;cases o with
 |none=>exact⟨none,λk=>by simp[*]⟩
 |some s=>
  simp[*]
abbrev U3.mono{t:(S->Prop)->Prop}(h:U3 t){k k':S->Prop}(g:∀s,k s->k' s)(d:t k):t k':=by have⟨o,f⟩:=h;have⟨s,i,m⟩:=(f k).1 d;simp[*]
abbrev U3.at{t:(S->Prop)->Prop}(h:U3 t){k:S->Prop}(g:t k):∃s,k s/\∀k',k' s->t k':=by have⟨o,f⟩:=h;have⟨s,i,m⟩:=(f k).1 g;exact⟨s,m,λk' d=>(f k').2 ⟨s,i,d⟩⟩
abbrev St:=V×Heap×Nat
abbrev aAx:=List St
def D3(t:KV->Prop):Prop:=U3 λk:St->Prop=>t λv H n=>k (v,H,n)
abbrev LU(v:V)(H:Heap)(n:Nat):D3 λk=>k v H n:=GA (v,H,n)
def EJ(call:Am):Prop:=∀f a H n,D3 (call f a H n)
abbrev ou(esz bs:Nat)(OS LS:Bh)(H:Heap)(n:Nat):D3 (GR esz bs OS LS H n):=Xl _ λ_=>ES _ (Xl _ λ_=>LU _ _ _)
abbrev AEf(id off ln esz bs:Nat)(LS:Bh)(H:Heap)(n:Nat)(b:LF):D3 λk=>X2 id off ln esz bs LS H n k b:=by
 cases b with
 |arr f d c=>
  cases off with
  |zero=>
   have e:∀k,X2 id 0 ln esz bs LS H n k (.arr f d c)=B7 (band (KZ (Nat.add ln (len LS)) bs) (band (Nat.beq esz f) (Nat.ble (Nat.add 0 ln) d))) (k (.Hf n 0 (Nat.add ln (len LS)) esz) (T.set (T.set H id .dead) n (.arr esz (Nat.add ln (len LS)) (Dk LS ln c))) (Nat.succ n)):=by intro k;show CS _ _=_;simp only[A8];rfl
   simp only[e];exact ES _ (LU _ _ _)
  |succ off=>
   have e:∀k,X2 id (off+1) ln esz bs LS H n k (.arr f d c)=B7 (band (KZ (Nat.add ln (len LS)) bs) (band (Nat.beq esz f) (Nat.ble (Nat.add (off+1) ln) d))) (CR (BP H id esz ln (off+1)) λg=>k (.Hf n 0 (Nat.add ln (len LS)) esz) (T.set (T.set H id .dead) n (.arr esz (Nat.add ln (len LS)) (Dk LS ln (Dk g 0 .e)))) (Nat.succ n)):=by intro k;show CS _ _=_;simp
   simp only[e];exact ES _ (Hc _ λ_=>LU _ _ _)
 |map=>exact E3
 |dead=>exact E3
 |aq=>exact E3
 |own=>exact E3
abbrev AL5(v:V)(G:AQ)(esz bs:Nat)(LS:Bh)(H:Heap)(n:Nat):D3 (AAb v G esz bs LS H n):=by
 cases v<;>try exact E3
 case AT=>
  cases LS with
  |nil=>exact LU _ _ _
  |cons x f=>exact(show D3 (λk=>GR esz bs [] (x::f) H n k)from ou esz bs [] _ H n)
 case sl id off ln cap e=>
  refine ES _ (Xl _ λd=>?_);cases h:Nat.ble d cap with
  |false=>exact Hc _ λ_=>ou _ _ _ _ _ _
  |true=>
   refine Hc _ λb=>?_;cases b with
   |arr i g c=>exact ES _ (LU _ _ _)
   |map=>exact E3
   |dead=>exact E3
   |aq=>exact E3
   |own=>exact E3
 case Hf id off ln e=>
  refine ES _ ?_;cases LS with
  |nil=>exact LU _ _ _
  |cons=>
   exact Hc _ λb=>AEf _ _ _ _ _ _ _ _ b
 case rsl=>exact ES _ (Hc _ λ_=>ou _ _ _ _ _ _)
abbrev AKW(v:V)(esz:Nat)(LS:Bh)(H:Heap)(n:Nat):D3 (AFe v esz LS H n):=by
 have d:∀a b c,D3 (yY a b c esz LS H n):=λa b c=>by
  refine Hc _ λb=>?_;cases b with
  |arr g f c=>exact ES _ (Xl _ λ_=>LU _ _ _)
  |map=>exact E3
  |dead=>exact E3
  |aq=>exact E3
  |own=>exact E3
 cases v<;>try exact E3
 case AT=>exact LU _ _ _
 case sl=>exact ES _ (d _ _ _)
 case Hf=>exact ES _ (d _ _ _)
abbrev zh(m:V)(H:Heap)(f:ME->Nat->aAC)(v:V)(n:Nat):D3 λk=>AAd m H f λH=>k v H n:=by
 cases m<;>try exact E3
 exact Hc _ λ_=>Hc _ λ_=>LU _ _ _
abbrev AD5(v:V){f:Nat->Nat->(S->Prop)->Prop}(h:∀a b,U3 (f a b)):U3 (λk=>V.wy v λa b=>f a b k):=by
 cases v<;>try exact E3
 exact h _ _
abbrev zf(v:V){f:Nat->(S->Prop)->Prop}(h:∀a,U3 (f a)):U3 (λk=>V.ALZ v λa=>f a k):=by
 cases v<;>try exact E3
 exact h _
abbrev ALA{call:Am}(g:EJ call)(o:AE)(G:AQ)(E:RS)(H:Heap)(n:Nat):D3 (o.ex G call E H n):=by
 cases o with
 |asg x=>exact LU _ _ _
 |st i x v=>exact ES _ (Hc _ λ_=>LU _ _ _)
 |app d p x y=>exact Hc _ λ_=>AL5 _ _ _ _ _ _ _
 |copy d x y=>exact Hc _ λ_=>AKW _ _ _ _ _
 |AGS c m k v=>exact zh _ _ _ _ _
 |del c m k=>exact zh _ _ _ _ _
 |AWq m=>exact zh _ _ _ _ _
 |call f a=>exact g _ _ _ _
 |AIz x a=>exact AGR _ λ_ _ _=>g _ _ _ _
 |defer dp x a=>exact AGR _ λ_ _ _=>LU _ _ _
 |cvB x=>exact Hc _ λ_=>AD5 _ λ_ _=>Xl _ λ_=>LU _ _ _
abbrev Sa:=LF×(Nat->V)
def DA(t:KA->Prop):Prop:=U3 λk:Sa->Prop=>t λb f=>k (b,f)
abbrev AXf(b:LF)(f:Nat->V):DA λk=>k b f:=GA (b,f)
abbrev AR4(o:AA)(E:RS):DA (o.al E):=by
 cases o with
 |alloc e d=>exact Xl _ λ_=>AXf _ _
 |box x=>exact ES _ (Xl _ λ_=>AXf _ _)
 |ACw=>exact ES _ (AXf _ _)
 |xF=>exact Hc _ λ_=>zf _ λ_=>Hc _ λ_=>zf _ λ_=>ES _ (AXf _ _)
 |AMA=>exact AXf _ _
 |aq=>exact AXf _ _
abbrev Se:=RS×Heap×Nat
def DE(t:KE->Prop):Prop:=U3 λk:Se->Prop=>t λE H n=>k (E,H,n)
abbrev AC0(E:RS)(H:Heap)(n:Nat):DE λk=>k E H n:=GA (E,H,n)
abbrev AG6{call:Am}(f:EJ call)(o:AO)(G:AQ)(d:jK)(E:RS)(H:Heap)(n:Nat):DE (o.ex G call d E H n):=by
 cases o with
 |n o=>exact ACx _ λ_=>AC0 _ _ _
 |a o=>exact K2 (u:=λs k=>CS n λn=>k (D0 d (s.2 n) E,T.set H n s.1,Nat.succ n)) (AR4 o E) λs=>Xl _ λ_=>GA _
 |e o=>exact K2 (u:=λs k=>k (D0 d s.1 E,s.2.1,s.2.2)) (ALA f o G E H n) λs=>GA _
abbrev ACi{call:Am}(f:EJ call)(o:pH)(G:AQ)(E:RS)(H:Heap)(n:Nat):DE (o.ex G call E H n):=by
 have⟨d,g,o⟩:=o;cases g with
 |no=>exact AG6 f o G d E H n
 |on x b=>exact AJK _ _ (AG6 f o G d E H n) (AC0 _ _ _)
abbrev ATN(g:Gd)(G:AQ)(E:RS)(H:Heap)(d:P2)(o:AN){t:(S->Prop)->Prop}(h:U3 t):U3 λk=>ATo g G E H d o (t k):=by
 cases g with
 |no=>exact ACx _ λ_=>ES _ h
 |on x b=>exact AJK _ _ (ACx _ λ_=>ES _ h) h
abbrev AHA{call:Am}(f:EJ call)(i:AI)(G:AQ)(E:RS)(H:Heap)(n:Nat):DE (i.ex G call E H n):=by
 cases i with
 |op o=>exact ACi f o G E H n
 |re d g o=>exact ATN g G E H d o (GA _)
abbrev ACs{call:Am}(d:EJ call)(G:AQ):∀(l:List pH) (E:RS) (H:Heap) (n:Nat),DE (Mu l G call E H n)
 |[],E,H,n=>AC0 _ _ _
 |o::l,E,H,n=>K2 (ACi d o G E H n) λs=>ACs d G l s.1 s.2.1 s.2.2
abbrev tL{call:Am}(d:EJ call)(G:AQ):∀(l:List AI) (E:RS) (H:Heap) (n:Nat),DE (Bg l G call E H n)
 |[],E,H,n=>AC0 _ _ _
 |o::l,E,H,n=>K2 (AHA d o G E H n) λs=>tL d G l s.1 s.2.1 s.2.2
inductive Out where
 |nrm (R:F3) (H:Heap) (n:Nat)|ext (i:Nat) (R:F3) (H:Heap) (n:Nat)|ret (R:F3) (H:Heap) (n:Nat)
def Out.on(k:K)(x:KX)(r:K):Out->Prop
 |.nrm R H n=>k R H n|.ext i R H n=>x i R H n|.ret R H n=>r R H n
def DC(t:K->KX->K->Prop):Prop:=U3 λp:Out->Prop=>t (λR H n=>p (.nrm R H n)) (λi R H n=>p (.ext i R H n)) (λR H n=>p (.ret R H n))
abbrev DC.mono{t:K->KX->K->Prop}(h:DC t){k k':K}{x d:KX}{r f:K}(g:∀R H n,k R H n->k' R H n)(m:∀i R H n,x i R H n->d i R H n)(p:∀R H n,r R H n->f R H n)(q:t k x r):t k' d f:=
 U3.mono h (k:=Out.on k x r) (k':=Out.on k' d f) (λs=>by cases s;exact g _ _ _;exact m _ _ _ _;exact p _ _ _) q
variable{d:Nat}
abbrev ABd{a:M}{call:Am}(f:∀R H n,DC (a G call d R H n)):∀(m:Nat) (R:F3) (H:Heap) (n:Nat),DC λ_ x r=>Tb a G call d m R H n x r
 |0,_,_,_=>E3
 |m+1,R,H,n=>K2 (u:=λ(s:Out) (p:Out->Prop)=>match s with
  |.nrm R H n=>Tb a G call d m R H n (λi R H n=>p (.ext i R H n)) (λR H n=>p (.ret R H n))
  |.ext i R H n=>p (.ext i R H n)
  |.ret R H n=>p (.ret R H n)) (f R H n) λs=>by
   cases s with
   |nrm R H n=>exact ABd f m R H n
   |ext i R H n=>exact GA _
   |ret R H n=>exact GA _
abbrev Vv{call:Am}(d:EJ call)(G:AQ)(lf:Nat):∀(c:AC) (R:F3) (H:Heap) (n:Nat),DC (c.ex G call lf R H n)
 |.skip,R,H,n=>GA _
 |.ops l,R,H,n=>K2 (u:=λ(s:Se) (p:Out->Prop)=>p (.nrm s.1.rg s.2.1 s.2.2)) (ACs d G l _ H n) λs=>GA _
 |.reg l,R,H,n=>K2 (u:=λ(s:Se) (p:Out->Prop)=>p (.nrm s.1.rg s.2.1 s.2.2)) (tL d G l _ H n) λs=>GA _
 |.seq a b,R,H,n=>K2 (u:=λ(s:Out) (p:Out->Prop)=>match s with
  |.nrm R H n=>b.ex G call lf R H n (λR H n=>p (.nrm R H n)) (λi R H n=>p (.ext i R H n)) (λR H n=>p (.ret R H n))
  |.ext i R H n=>p (.ext i R H n)
  |.ret R H n=>p (.ret R H n)) (Vv d G lf a R H n) λs=>by
   cases s with
   |nrm R H n=>exact Vv d G lf b R H n
   |ext i R H n=>exact GA _
   |ret R H n=>exact GA _
 |.cond x a b,R,H,n=>APf _ (Vv d G lf a R H n) (Vv d G lf b R H n)
 |.block f a,R,H,n=>K2 (u:=λ(s:Out) (p:Out->Prop)=>match s with
  |.nrm R H n=>p (.nrm R H n)
  |.ext i R H n=>Ew f (λR H n=>p (.nrm R H n)) (λi R H n=>p (.ext i R H n)) i R H n
  |.ret R H n=>p (.ret R H n)) (Vv d G lf a R H n) λs=>by
   cases s with
   |nrm R H n=>exact GA _
   |ext i R H n=>
    cases g:Nat.beq i f with
    |true=>
     have e:(λp:Out->Prop=>Ew f (λR H n=>p (.nrm R H n)) (λi R H n=>p (.ext i R H n)) i R H n)=λp=>p (.nrm R H n):=by simp[Ew,g]
     simp only[e];exact GA _
    |false=>
     have e:(λp:Out->Prop=>Ew f (λR H n=>p (.nrm R H n)) (λi R H n=>p (.ext i R H n)) i R H n)=λp=>p (.ext i R H n):=by simp[Ew,g]
     simp only[e];exact GA _
   |ret R H n=>exact GA _
 |.loop a,R,H,n=>ABd (λR H n=>Vv d G lf a R H n) lf R H n
 |.exit f,R,H,n=>GA _
 |.ret,R,H,n=>GA _
abbrev ABh{call:Am}(d:EJ call)(dg:Nat):∀(l:aAo) (H:Heap) (n:Nat),U3 λp:Heap×Nat->Prop=>Po dg l call H n λH n=>p (H,n)
 |[],H,n=>GA (H,n)
 |v::l,H,n=>AGR v λf a c=>ES _ (K2 (u:=λ(s:St) (p:Heap×Nat->Prop)=>Po dg l call s.2.1 s.2.2 λH n=>p (H,n)) (d _ _ _ _) λs=>ABh d dg l _ _)
abbrev AAD(d:List AR)(G:AQ)(R:F3)(H:Heap)(n:Nat):D3 λk=>AAZ d G k R H n:=Hc _ λ_=>LU _ _ _
abbrev AAf{call:Am}(g:EJ call)(f:List AR)(dg:Nat)(d:jK)(G:AQ)(R:F3)(H:Heap)(n:Nat):D3 λk=>GZ f dg d G call k R H n:=by
 cases d with
 |no=>exact AAD f G R H n
 |to p=>exact K2 (u:=λ(s:Heap×Nat) (k:St->Prop)=>AAZ f G _ R s.1 s.2) (ABh g dg _ H n) λs=>AAD f G R _ _
 |ps=>exact AAD f G R H n
abbrev AHb(f:Nk)(G:AQ)(args:aAo)(H:Heap)(n:Nat):D3 (nE f G args H n):=by
 have d:D3 (λ_:KV=>False):=E3;unfold nE;split
 .unfold AJF;split
  .exact ES _ (Hc _ λ_=>Hc _ λ_=>ES _ (LU _ _ _))
  omega
 .unfold ANp;split
  .exact ES _ (LU _ _ _)
  omega
 .unfold AJY;split
  .split
   .exact ES _ (LU _ _ _)
   omega
  omega
 .unfold AIy;split
  .split
   .exact ES _ (LU _ _ _)
   omega
  omega
 omega
abbrev AJu{call:Am}(p:EJ call)(G:AQ)(lf:Nat)(f:AF)(args:aAo)(H:Heap)(n:Nat):D3 (dO f G call lf args H n):=by
 cases f with
 |nat f=>exact AHb f G args H n
 |mk q m g d dg=>
 refine ES _ (K2 (u:=λ(s:Out) (k:St->Prop)=>match s with
  |.nrm R H n=>GZ g dg d G call (λv H n=>k (v,H,n)) R H n
  |.ext _ _ _ _=>False
  |.ret R H n=>GZ g dg d G call (λv H n=>k (v,H,n)) R H n) (Vv p G lf m _ H n) λs=>?_)
 cases s with
 |nrm R H n=>exact AAf p g dg d G R H n
 |ext i R H n=>exact E3
 |ret R H n=>exact AAf p g dg d G R H n
abbrev Qn(F:T AF)(G:AQ)(lf:Nat):∀fuel,EJ (run F G lf fuel)
 |0=>λ_ _ _ _=>E3
 |m+1=>λf a H n=>Hc _ λd=>AJu (Qn F G lf m) G lf d a H n
def O7(call call':Am):Prop:=∀f a H n k,call f a H n k->call' f a H n k
variable{f:Nat}{lf:Nat}
section
variable{call call':Am}
abbrev AVc(d:O7 call call')(o:AE)(G:AQ)(E:RS)(H:Heap)(n:Nat)(k:KV)(h:o.ex G call E H n k):o.ex G call' E H n k:=by
 cases o with
 |call f a=>exact d _ _ _ _ _ h
 |AIz x a=>
  have i:V.Ts _ _:=h;show V.Ts _ _;rw[Ph]at i⊢;have⟨g,m,p,q,i⟩:=i;exact⟨g,m,p,q,d _ _ _ _ _ i⟩
 |_=>exact h
abbrev AQv(f:O7 call call')(o:AO)(G:AQ)(d:jK)(E:RS)(H:Heap)(n:Nat)(k:KE)(h:o.ex G call d E H n k):o.ex G call' d E H n k:=by
 cases o with
 |n o=>exact h
 |a o=>exact h
 |e o=>exact AVc f o G E H n _ h
abbrev AMG(f:O7 call call')(o:pH)(G:AQ)(E:RS)(H:Heap)(n:Nat)(k:KE)(h:o.ex G call E H n k):o.ex G call' E H n k:=by
 have⟨d,g,o⟩:=o;cases g with
 |no=>exact AQv f o G d E H n k h
 |on x b=>
  have i:dr _ b _ _:=h;show dr _ b _ _;rw[TL]at i⊢;have⟨t,m,i⟩:=i;refine⟨t,m,?_⟩;split
  .rename_i e;rw[hD e]at i;exact AQv f o G d E H n k i
  simp_all
abbrev AVh(f:O7 call call')(i:AI)(G:AQ)(E:RS)(H:Heap)(n:Nat)(k:KE)(h:i.ex G call E H n k):i.ex G call' E H n k:=by
 cases i with
 |op o=>exact AMG f o G E H n k h
 |re d g o=>exact h
abbrev AHp(f:EJ call')(d:O7 call call')(G:AQ):∀(l:List pH) (E:RS) (H:Heap) (n:Nat) (k:KE),Mu l G call E H n k->Mu l G call' E H n k
 |[],_,_,_,_,h=>h
 |o::l,E,H,n,k,h=>
  U3.mono (ACi f o G E H n) (k:=λs=>Mu l G call s.1 s.2.1 s.2.2 k) (λs g=>AHp f d G l _ _ _ _ g)
   (AMG d o G E H n _ h)
abbrev yo(f:EJ call')(d:O7 call call')(G:AQ):∀(l:List AI) (E:RS) (H:Heap) (n:Nat) (k:KE),Bg l G call E H n k->Bg l G call' E H n k
 |[],_,_,_,_,h=>h
 |o::l,E,H,n,k,h=>
  U3.mono (AHA f o G E H n) (k:=λs=>Bg l G call s.1 s.2.1 s.2.2 k) (λs g=>yo f d G l _ _ _ _ g)
   (AVh d o G E H n _ h)
abbrev AFr{a:M}(i:∀R H n,DC (a G call' d R H n))(p:∀R H n k x r,a G call f R H n k x r->a G call' d R H n k x r):
 ∀(m g:Nat),m<=g->∀(R:F3) (H:Heap) (n:Nat) (x:KX) (r:K),Tb a G call f m R H n x r->Tb a G call' d g R H n x r
 |0,_,_,_,_,_,_,_,h=>(show False from h).elim
 |m+1,0,q,_,_,_,_,_,_=>a6
 |m+1,g+1,q,R,H,n,x,r,h=>
  DC.mono (i R H n) (λR H n u=>AFr i p m g a6 R H n x r u) (λ_ _ _ _ v=>v) (λ_ _ _ w=>w) (p R H n _ x r h)
abbrev uz(i:EJ call')(d:O7 call call')(G:AQ){g:Nat}(f:lf<=g):∀(c:AC) (R:F3) (H:Heap) (n:Nat) (k:K) (x:KX) (r:K),c.ex G call lf R H n k x r->c.ex G call' g R H n k x r
 |.skip,_,_,_,_,_,_,h=>h
 |.ops l,R,H,n,k,_,_,h=>AHp i d G l _ H n _ h
 |.reg l,R,H,n,k,_,_,h=>yo i d G l _ H n _ h
 |.seq a b,R,H,n,k,x,r,h=>
  DC.mono (Vv i G g a R H n) (λR H n p=>uz i d G f b R H n k x r p) (λ_ _ _ _ q=>q) (λ_ _ _ u=>u) (uz i d G f a R H n _ x r h)
 |.cond c a b,R,H,n,k,x,r,h=>by
  have m:AS _ _ _:=h;show AS _ _ _;rw[VM]at m⊢;have⟨t,v,m⟩:=m;refine⟨t,v,?_⟩;split
  .rename_i e;rw[hD e]at m;exact uz i d G f a R H n k x r m
  .rename_i e;rw[g_ e]at m;exact uz i d G f b R H n k x r m
 |.block w a,R,H,n,k,x,r,h=>uz i d G f a R H n k _ r h
 |.loop a,R,H,n,k,x,r,h=>AFr (λR H n=>Vv i G g a R H n) (λR H n k x r h=>uz i d G f a R H n k x r h) lf g f R H n x r h
 |.exit _,_,_,_,_,_,_,h=>h
 |.ret,_,_,_,_,_,_,h=>h
abbrev AD4(i:EJ call')(f:O7 call call')(dg:Nat):∀(l:aAo) (H:Heap) (n:Nat) (k:Heap->Nat->Prop),Po dg l call H n k->Po dg l call' H n k
 |[],_,_,_,h=>h
 |v::l,H,n,k,h=>by have d:V.Ts v _:=h;show V.Ts v _;rw[Ph]at d⊢;have⟨g,m,p,q,d⟩:=d;rw[Du]at d;refine⟨g,m,p,q,(Du _ _).2 ⟨d.1,?_⟩⟩;exact U3.mono (i g _ H n) (k:=λs=>Po dg l call s.2.1 s.2.2 k) (λs u=>AD4 i f dg l _ _ _ u) (f _ _ _ _ _ d.2)
abbrev Y7(i:EJ call')(g:O7 call call')(f:List AR)(dg:Nat)(d:jK)(G:AQ)(k:KV)(R:F3)(H:Heap)(n:Nat)(h:GZ f dg d G call k R H n):GZ f dg d G call' k R H n:=by
 cases d with
 |no=>exact h
 |to p=>exact AD4 i g dg _ H n _ h
 |ps=>exact h
abbrev ALb(q:EJ call')(i:O7 call call')(G:AQ){m:Nat}(u:lf<=m)(f:AF)(args:aAo)(H:Heap)(n:Nat)(k:KV)(h:dO f G call lf args H n k):dO f G call' m args H n k:=by
 cases f with
 |nat f=>exact h
 |mk y g p d dg=>
 have v:B7 _ _:=h;show B7 _ _;rw[Du]at v⊢;refine⟨v.1,?_⟩;exact DC.mono (Vv q G m g _ H n) (λR H n w=>Y7 q i p dg d G k R H n w) (λ_ _ _ _ x=>x) (λR H n w=>Y7 q i p dg d G k R H n w) (uz q i G u g _ H n _ _ _ v.2)
end
abbrev zw(F:T AF)(G:AQ)(i:lf<=d):∀(m p:Nat),m<=p->O7 (run F G lf m) (run F G d p)
 |0,_,_,_,_,_,_,_,h=>(show False from h).elim
 |m+1,0,v,_,_,_,_,_,_=>a6
 |m+1,p+1,v,f,a,H,n,k,h=>by have q:CR _ λg=>dO g G _ lf a H n k:=h;show CR _ λg=>dO g G _ d a H n k;rw[G1]at q⊢;have⟨g,u,q⟩:=q;exact⟨g,u,ALb (Qn F G d p) (zw F G i m p a6) G i g a H n k q⟩
def Runs(F:T AF)(G:AQ):Am:=λf a H n k=>∃N,run F G N N f a H n k
variable{F:T AF}{k:KV}
abbrev AKI{a:aAo}{k':KV}(d:∀v H n,k v H n->k' v H n)(h:Runs F G f a H n k):Runs F G f a H n k':=by have⟨N,h⟩:=h;exact⟨N,U3.mono (Qn F G N N f a H n) (k:=λs=>k s.1 s.2.1 s.2.2) (λs g=>d _ _ _ g) h⟩
abbrev rY(F:T AF)(G:AQ):EJ (Runs F G):=λf a H n=>by
 by_cases h:∃N s,∀k:St->Prop,k s->run F G N N f a H n λv H n=>k (v,H,n)
 .obtain⟨N,s,w⟩:=h;refine⟨some s,λk=>⟨λ⟨d,p⟩=>?_,λ⟨i,e,m⟩=>?_⟩⟩
  .obtain⟨i,u,g⟩:=U3.at (Qn F G d d f a H n) p;have y:=zw F G (Nat.le_max_left N d) N (max N d) (Nat.le_max_left _ _) f a H n _ (w (λq=>q=s) rfl);have A:=zw F G (Nat.le_max_right N d) d (max N d) (Nat.le_max_right _ _) f a H n _ (g (λq=>q=i) rfl);obtain⟨o,x⟩:=Qn F G _ _ f a H n;obtain⟨q,C,D⟩:=(x λq=>q=s).1 y;obtain⟨E,B,I⟩:=(x λq=>q=i).1 A;simp_all
  .cases e;exact⟨N,w k m⟩
 .refine⟨none,λk=>⟨λ⟨d,p⟩=>?_,λ⟨i,e,m⟩=>by cases e⟩⟩;obtain⟨i,u,g⟩:=U3.at (Qn F G d d f a H n) p;exact absurd ⟨d,i,λk m=>g k m⟩ h
def ARj(a:M)(G:AQ)(call:Am):F3->Heap->Nat->KX->K->Prop:=λR H n x r=>∀I:K,(∀R H n,a G call 0 R H n I x r->I R H n)->I R H n
def AC1(_:AC)(a:M):M:=λG call _ R H n _ x r=>ARj a G call R H n x r
def AC.Tl(c:AC):M:=AC.rec (motive:=λ_=>M) ANk AOK AOO ANc AE9 zu AC1 ANG AUE c
def AGZ(f:AF):AQ->Am->aAo->Heap->Nat->KV->Prop:=
 AF.rec (motive:=λ_=>AQ->Am->aAo->Heap->Nat->KV->Prop) (λnp code res d dg G call args H n k=>B7 (Nat.beq (len args) np) (code.Tl G call 0 (ZR args 0 .e) H n (GZ res dg d G call k) iE (GZ res dg d G call k))) (λf G _ args H n k=>nE f G args H n k) f
section
variable{F:T AF}{G:AQ}
abbrev ACJ{a:aAo}(h:Runs F G f a H n k):∃s:St,k s.1 s.2.1 s.2.2/\∃N,∀M,N<=M->∀k':KV,k' s.1 s.2.1 s.2.2->run F G M M f a H n k':=by have⟨N,h⟩:=h;have⟨s,m,d⟩:=U3.at (Qn F G N N f a H n) (k:=λs=>k s.1 s.2.1 s.2.2) h;exact⟨s,m,N,λM i k' g=>zw F G i N M i f a H n k' (d (λs=>k' s.1 s.2.1 s.2.2) g)⟩
abbrev AWv(o:AE)(E:RS)(H:Heap)(n:Nat)(k:KV)(h:o.ex G (Runs F G) E H n k):∃s:St,k s.1 s.2.1 s.2.2/\∃N,∀M,N<=M->∀k':KV,k' s.1 s.2.1 s.2.2->o.ex G (run F G M M) E H n k':=by
 cases o with
 |call f a=>exact ACJ h
 |AIz x a=>
  have m:V.Ts _ _:=h;rw[Ph]at m;have⟨g,q,u,v,m⟩:=m;have⟨s,p,N,w⟩:=ACJ m;refine⟨s,p,N,λM y k' d=>?_⟩;show V.Ts _ _;rw[Ph];exact⟨g,q,u,v,w M y k' d⟩
 |_=>
  have⟨s,p,i⟩:=U3.at (ALA (rY F G) _ G E H n) (k:=λs=>k s.1 s.2.1 s.2.2) h;exact⟨s,p,0,λM _ k' d=>i (λs=>k' s.1 s.2.1 s.2.2) d⟩
abbrev AQ9(o:AO)(d:jK)(E:RS)(H:Heap)(n:Nat)(k:KE)(h:o.ex G (Runs F G) d E H n k):∃s:Se,k s.1 s.2.1 s.2.2/\∃N,∀M,N<=M->∀k':KE,k' s.1 s.2.1 s.2.2->o.ex G (run F G M M) d E H n k':=by
 cases o with
 |e o=>
  have⟨s,i,N,m⟩:=AWv o E H n _ h;exact⟨(D0 d s.1 E,s.2.1,s.2.2),i,N,λM p k' f=>m M p _ f⟩
 |_=>
  have⟨s,i,g⟩:=U3.at (AG6 (rY F G) _ G d E H n) (k:=λs=>k s.1 s.2.1 s.2.2) h;exact⟨s,i,0,λM _ k' f=>g (λs=>k' s.1 s.2.1 s.2.2) f⟩
abbrev AMH(o:pH)(E:RS)(H:Heap)(n:Nat)(k:KE)(h:o.ex G (Runs F G) E H n k):∃s:Se,k s.1 s.2.1 s.2.2/\∃N,∀M,N<=M->∀k':KE,k' s.1 s.2.1 s.2.2->o.ex G (run F G M M) E H n k':=by
 have⟨d,g,o⟩:=o;cases g with
 |no=>exact AQ9 o d E H n k h
 |on x b=>
  have f:dr (x.ev E) b (o.ex G (Runs F G) d E H n k) (k (D0 d (.CV []) E) H n):=h;rw[TL]at f;have⟨t,p,f⟩:=f;by_cases e:t=some b
  .rw[hD e]at f;have⟨s,m,N,q⟩:=AQ9 o d E H n k f;refine⟨s,m,N,λM u k' i=>?_⟩;show dr (x.ev E) b (o.ex G (run F G M M) d E H n k') (k' (D0 d (.CV []) E) H n);simp[*,TL,hD e]
  .rw[g_ e]at f;refine⟨(D0 d (.CV []) E,H,n),f,0,λM _ k' i=>?_⟩;show dr (x.ev E) b (o.ex G (run F G M M) d E H n k') (k' (D0 d (.CV []) E) H n);simp[*,TL,g_ e]
abbrev AVQ(i:AI)(E:RS)(H:Heap)(n:Nat)(k:KE)(h:i.ex G (Runs F G) E H n k):∃s:Se,k s.1 s.2.1 s.2.2/\∃N,∀M,N<=M->∀k':KE,k' s.1 s.2.1 s.2.2->i.ex G (run F G M M) E H n k':=by
 cases i with
 |op o=>exact AMH o E H n k h
 |re d g o=>
  have⟨s,p,f⟩:=U3.at (AHA (rY F G) _ G E H n) (k:=λs=>k s.1 s.2.1 s.2.2) h;exact⟨s,p,0,λM _ k' m=>f (λs=>k' s.1 s.2.1 s.2.2) m⟩
abbrev ALH:∀(l:List pH) (E:RS) (H:Heap) (n:Nat) (k:KE),Mu l G (Runs F G) E H n k->∃s:Se,k s.1 s.2.1 s.2.2/\∃N,∀M,N<=M->∀k':KE,k' s.1 s.2.1 s.2.2->Mu l G (run F G M M) E H n k'
 |[],E,H,n,k,h=>⟨(E,H,n),h,0,λM _ k' d=>d⟩
 |o::l,E,H,n,k,h=>by have⟨s,i,N,m⟩:=AMH o E H n _ h;have⟨p,f,q,g⟩:=ALH l _ _ _ k i;refine⟨p,f,max N q,λM u k' d=>?_⟩;exact m M a6 _ (g M a6 k' d)
abbrev AE3:∀(l:List AI) (E:RS) (H:Heap) (n:Nat) (k:KE),Bg l G (Runs F G) E H n k->∃s:Se,k s.1 s.2.1 s.2.2/\∃N,∀M,N<=M->∀k':KE,k' s.1 s.2.1 s.2.2->Bg l G (run F G M M) E H n k'
 |[],E,H,n,k,h=>⟨(E,H,n),h,0,λM _ k' d=>d⟩
 |o::l,E,H,n,k,h=>by have⟨s,i,N,m⟩:=AVQ o E H n _ h;have⟨p,f,q,g⟩:=AE3 l _ _ _ k i;refine⟨p,f,max N q,λM u k' d=>?_⟩;exact m M a6 _ (g M a6 k' d)
def AWY(F:T AF)(G:AQ)(c:AC):Prop:=∀(R:F3) (H:Heap) (n:Nat) (k:K) (x:KX) (r:K),c.Tl G (Runs F G) 0 R H n k x r->
 ∃s,Out.on k x r s/\∃N,∀M,N<=M->∀k' x' r',Out.on k' x' r' s->c.ex G (run F G M M) M R H n k' x' r'
abbrev AOT{a:AC}(B:AWY F G a)(R:F3)(H:Heap)(n:Nat)(x:KX)(r:K)(h:ARj a.Tl G (Runs F G) R H n x r):
 ∃s,Out.on (λ_ _ _=>False) x r s/\∃N,∀M,N<=M->∀j,N<=j->∀d f,Out.on (λ_ _ _=>False) d f s->Tb a.ex G (run F G M M) M j R H n d f:=by
 refine h (λR H n=>∃s,Out.on _ x r s/\∃N,∀M,N<=M->∀j,N<=j->∀d f,Out.on _ d f s->Tb a.ex G (run F G M M) M j R H n d f) ?_;intro R H n C;have⟨s,q,N,u⟩:=B R H n _ x r C;cases s with
 |nrm k m p=>
  have⟨D,v,E,w⟩:=q;refine⟨D,v,max N E+1,λM y j A d f g=>?_⟩;cases j with
  |zero=>omega
  |succ j=>exact u M a6 _ d f (w M a6 j a6 d f g)
 |ext i k m p=>
  refine⟨.ext i k m p,q,N+1,λM y j A d f g=>?_⟩;cases j with
  |zero=>omega
  |succ j=>exact u M a6 _ d f g
 |ret k m p=>
  refine⟨.ret k m p,q,N+1,λM y j A d f g=>?_⟩;cases j with
  |zero=>omega
  |succ j=>exact u M a6 _ d f g
abbrev yp:∀c:AC,AWY F G c
 |.skip=>λR H n k x r h=>⟨.nrm R H n,h,0,λM _ k' d f g=>g⟩
 |.ops l=>λR H n k x r h=>by have⟨s,v,N,w⟩:=ALH l (.mk [] R) H n (λE H n=>k E.rg H n) h;exact⟨.nrm s.1.rg s.2.1 s.2.2,v,N,λM m k' d f g=>w M m (λE H n=>k' E.rg H n) g⟩
 |.reg l=>λR H n k x r h=>by have⟨s,v,N,w⟩:=AE3 l (.mk [] R) H n (λE H n=>k E.rg H n) h;exact⟨.nrm s.1.rg s.2.1 s.2.2,v,N,λM m k' d f g=>w M m (λE H n=>k' E.rg H n) g⟩
 |.seq a b=>λR H n k x r h=>by
  have⟨s,v,N,w⟩:=yp a R H n (λR H n=>b.Tl G (Runs F G) 0 R H n k x r) x r h;cases s with
  |nrm p q u=>
   have⟨I,y,J,D⟩:=yp b p q u k x r v;exact⟨I,y,max N J,λM m k' d f g=>w M a6 (λR H n=>b.ex G (run F G M M) M R H n k' d f) d f (D M a6 k' d f g)⟩
  |ext i p q u=>exact⟨.ext i p q u,v,N,λM m k' d f g=>w M m (λR H n=>b.ex G (run F G M M) M R H n k' d f) d f g⟩
  |ret p q u=>exact⟨.ret p q u,v,N,λM m k' d f g=>w M m (λR H n=>b.ex G (run F G M M) M R H n k' d f) d f g⟩
 |.cond c a b=>λR H n k x r h=>by
  have B:AS (c.ev (.mk [] R)) (a.Tl G (Runs F G) 0 R H n k x r) (b.Tl G (Runs F G) 0 R H n k x r):=h;rw[VM]at B;have⟨t,K,B⟩:=B;by_cases e:t=true
  .rw[hD e]at B;have⟨s,v,N,w⟩:=yp a R H n k x r B;refine⟨s,v,N,λM m k' d f g=>?_⟩;show AS (c.ev (.mk [] R)) (a.ex G (run F G M M) M R H n k' d f) (b.ex G (run F G M M) M R H n k' d f);simp[*,VM,hD e]
  .rw[g_ e]at B;have⟨s,v,N,w⟩:=yp b R H n k x r B;refine⟨s,v,N,λM m k' d f g=>?_⟩;show AS (c.ev (.mk [] R)) (a.ex G (run F G M M) M R H n k' d f) (b.ex G (run F G M M) M R H n k' d f);simp[*,VM,g_ e]
 |.block A a=>λR H n k x r h=>by
  have⟨s,v,N,w⟩:=yp a R H n k (Ew A k x) r h;cases s with
  |nrm p q u=>exact⟨.nrm p q u,v,N,λM m k' d f g=>w M m k' (Ew A k' d) f g⟩
  |ret p q u=>exact⟨.ret p q u,v,N,λM m k' d f g=>w M m k' (Ew A k' d) f g⟩
  |ext i p q u=>
   have y:Ew A k x i p q u:=v;unfold Ew at y;cases C:Nat.beq i A with
   |true=>
    rw[C]at y;refine⟨.nrm p q u,y,N,λM m k' d f g=>w M m k' (Ew A k' d) f ?_⟩;show Ew A k' d i p q u;unfold Ew;rw[C];trivial
   |false=>
    rw[C]at y;refine⟨.ext i p q u,y,N,λM m k' d f g=>w M m k' (Ew A k' d) f ?_⟩;show Ew A k' d i p q u;unfold Ew;rw[C];trivial
 |.loop a=>λR H n k x r h=>by
  have⟨s,v,N,w⟩:=AOT (yp a) R H n x r h;cases s with
  |nrm p q u=>trivial
  |ext i p q u=>exact⟨.ext i p q u,v,N,λM m k' d f g=>w M m M m d f g⟩
  |ret p q u=>exact⟨.ret p q u,v,N,λM m k' d f g=>w M m M m d f g⟩
 |.exit i=>λR H n k x r h=>⟨.ext i R H n,h,0,λM _ k' d f g=>g⟩
 |.ret=>λR H n k x r h=>⟨.ret R H n,h,0,λM _ k' d f g=>g⟩
abbrev AEb(dg:Nat):∀(l:aAo) (H:Heap) (n:Nat) (k:Heap->Nat->Prop),Po dg l (Runs F G) H n k->∃H' n',k H' n'/\∃N,∀M,N<=M->∀k':Heap->Nat->Prop,k' H' n'->Po dg l (run F G M M) H n k'
 |[],H,n,k,h=>⟨H,n,h,0,λM _ k' d=>d⟩
 |v::l,H,n,k,h=>by have f:V.Ts v _:=h;rw[Ph]at f;have⟨g,m,p,q,f⟩:=f;rw[Du]at f;have⟨s,u,N,w⟩:=ACJ f.2;have⟨H',n',x,y,i⟩:=AEb dg l _ _ k u;refine⟨H',n',x,max N y,λM A k' d=>?_⟩;show V.Ts v _;rw[Ph];exact⟨g,m,p,q,(Du _ _).2 ⟨f.1,w M a6 _ (i M a6 k' d)⟩⟩
abbrev AFi(f:List AR)(dg:Nat)(d:jK)(k:KV)(R:F3)(H:Heap)(n:Nat)(h:GZ f dg d G (Runs F G) k R H n):∃N,∀M,N<=M->GZ f dg d G (run F G M M) k R H n:=by
 cases d with
 |no=>exact⟨0,λM _=>h⟩
 |to p=>
  have⟨q,u,g,N,i⟩:=AEb dg _ H n _ h;exact⟨N,λM m=>i M m _ g⟩
 |ps=>exact⟨0,λM _=>h⟩
abbrev AGw{p:AF}(C:T.get F f=some p){args:aAo}(h:AGZ p G (Runs F G) args H n k):Runs F G f args H n k:=by
 cases p with
 |nat L=>
  refine⟨1,?_⟩;show CR _ λp=>dO p G _ 1 args H n k;rwa [C]
 |mk O m g d dg=>
 have y:B7 _ _:=h;rw[Du]at y;have⟨s,D,N,E⟩:=yp m _ H n _ _ _ y.2;have key:∃q,∀M,q<=M->Out.on (GZ g dg d G (run F G M M) k) iE (GZ g dg d G (run F G M M) k) s:=by
  cases s with
  |nrm v w x=>exact AFi g dg d k v w x D
  |ext i v w x=>trivial
  |ret v w x=>exact AFi g dg d k v w x D
 have⟨q,A⟩:=key;refine⟨max N q+1,?_⟩;show CR _ λp=>dO p G _ _ args H n k;rw[C];show B7 _ _;rw[Du];refine⟨y.1,?_⟩;have u:=zw F G (_a (max N q)) (max N q) _ o_;have I:=E (max N q) a6 _ _ _ (A (max N q) a6);have J:=uz (Qn F G _ _) u G (_a _) m _ _ _ _ _ _ I;exact DC.mono (Vv (Qn F G _ _) G _ m _ _ _) (λR H n B=>Y7 (Qn F G _ _) u g dg d G k R H n B) (λ_ _ _ _ K=>K) (λR H n B=>Y7 (Qn F G _ _) u g dg d G k R H n B) J
end
variable{k':KE}
section
variable{G:AQ}{call:Am}
abbrev ANh(d:EJ call)(l:List pH)(E:RS)(H:Heap)(n:Nat){k:KE}(f:∀E H n,k E H n->k' E H n)(h:Mu l G call E H n k):Mu l G call E H n k':=
 U3.mono (ACs d G l E H n) (k:=λs=>k s.1 s.2.1 s.2.2) (λs g=>f _ _ _ g) h
abbrev AHS(d:EJ call)(l:List AI)(E:RS)(H:Heap)(n:Nat){k:KE}(f:∀E H n,k E H n->k' E H n)(h:Bg l G call E H n k):Bg l G call E H n k':=
 U3.mono (tL d G l E H n) (k:=λs=>k s.1 s.2.1 s.2.2) (λs g=>f _ _ _ g) h
end
end Go.BN
namespace Go.BN
open Go.ChangeShapes Go.WideShapes Go.RowKit
structure Old(W W':World):Prop where
 os:W'.os=W.os
 out:W'.output=W.output
 heap:∀b,b<W.heap.size->W'.heap[b]? =W.heap[b]?
variable{W:World}{W':World}
abbrev Old.kept(h:Old W W')(d:MemPlace->Prop):W.keptBut W' d:=by
 refine⟨h.os,h.out,λi f=>?_⟩;rw[h.heap i f];cases g:W.heap[i]? with
 |none=>rfl
 |some o=>cases o<;>simp
abbrev Old.cell(h:Old W W'){a:Addr}(d:a.block<W.heap.size):W'.cell? a=W.cell? a:=by simp[World.cell?,h.heap _ d]
abbrev Old.same(h:Old W W'){p:MemPlace}(d:p.block<W.heap.size):W.sameAt W' p:=by
 cases p with
 |cell b f=>exact h.cell d
 |map b=>exact h.heap b d
variable{P:Program}
abbrev Old.trodAll{H:Type}{enc:TypeId×Value->H}(w:laidOutB P=true)(h:Old W W'):∀{g:List TypeId} {vs:aAp} {k:List _} {ps:List MemPlace},
 (∀t∈g,P.readableRec t=true/\t<P.types.size)->DataW.TrodAll enc P W 0 (λ_=>true) true g vs k ps->(∀x∈ps,x.block<W.heap.size)->DataW.TrodAll enc P W' 0 (λb=>decide (b<W.heap.size)) true g vs k ps
 |[],[],[],_,_,m,_=>m
 |t::g,v::vs,d::k,_,u,⟨p,q,y,A,e⟩,f=>by subst e;refine⟨p,q,?_,Old.trodAll w h (λt m=>u t (c_ _ m)) A (λx i=>f x (List.mem_append_right _ i)),rfl⟩;exact WideElems.Trod_stays w (u t u_).1 (u t u_).2 y (λx i=>h.same (f x (n_ _ i))) (λx i=>by simp[*])
variable{G:AQ}{f:Nat}
section
variable{P:Program}{F:T AF}
theorem AAQ{G:AQ}{W:World}(g:ABA P F)(i:Sj W G){f:Nat}{vargs:List V}{args:Array Value}(k:Bj (λ_=>none) vargs args.toList)(h:Runs F G f vargs .e 0 λv _ _=>v=.bool true):
 Calls P f args W λe W'=>e=.returned (.bool true)/\Old W W':=by
 obtain⟨N,h⟩:=h
 obtain⟨m,_⟩:=AMk g i N
 have p:Cb W (λ_=>none) .e 0 W:={
  lt:=λ_ _ h=>by cases h
  blk:=λ_ _ h=>by cases h
  inj:=λ_ _ _ _ h=>by simp
  arr:=λ_ _ _ _ _ h=>by simp
  map:=λ_ _ _ _ h=>by simp
  aq:=λ_ _ _ _ _ _ _ h=>by simp
  old:=λ_ _=>rfl
  os:=rfl
  out:=rfl
  big:=Nat.le_refl _
  top:=λ_ _=>T.AVB _}
 refine((m f vargs .e 0 _ h).2 _ W args p k).mono ?_
 rintro e W' ⟨u,v,x,y,q,rfl,rfl,w,d,_⟩
 subst w
 exact⟨rfl,d.os,d.out,d.old⟩
end
abbrev ur{H:Type}:∀(f g:List TypeId) (i:List (DataW H)),i.length=f.length->DataW.weightsEach P (f++g) (i++[])=DataW.weightsEach P f i
 |[],g,[],_=>by simp[DataW.weightsEach]
 |[],g,_::_,h=>by trivial
 |_::_,g,[],h=>by rfl
 |t::f,g,d::i,h=>by show d.weights P t++DataW.weightsEach P (f++g) (i++[])=d.weights P t++DataW.weightsEach P f i;rw[ur f g i (by simp_all)]
variable{F:T AF}{fn:Func}
abbrev ADC{C:Checked}(hF:ABA C.prog F){os:Os}(y:os.Started){f:FuncId}{s:ChangeSpec}{m:List (String×DataW Unit)}{tb:TypeId}{i fresh:Bool}{H:Type}{enc:TypeId×Value->H}
 (own:ownKnob C.prog.godebug=none) (B:C.prog.inits.idxOf? f=none) (P:C.prog.funcs[f]? =some fn)
 (D:s.vars=[]) (d2:∀k:List (DataW H),k.length=fn.params.toList.length->s.fn H k={results:=[.lit (.bool true)],args:=k})
 (E:fn.resultTypes= #[tb]) (hb:C.prog.underlying tb=some .bool) (hl:laidOutB C.prog=true) (hp:∀t∈fn.params.toList,C.prog.readableRec t=true/\t<C.prog.types.size)
 (w0:World) (d:aAr) (fuel:Nat) (Q:w0.os=os)
 (hv:(w0.forCall (λ_ _=>0) ⟨#[],d,[]⟩).variablesB C.prog=true)
 (R:((w0.forCall (λ_ _=>0) ⟨#[],d,[]⟩).heap.toList.drop C.prog.globals.size).take ((begin C.prog (λ_ _=>0) default).world.heap.size-C.prog.globals.size)=
  (begin C.prog (λ_ _=>0) default).world.heap.toList.drop C.prog.globals.size)
 (S:Input.okWideB C.prog (w0.forCall (λ_ _=>0) ⟨#[],d,[]⟩) f ⟨#[],d,[]⟩=true)
 (I:s.preB enc C.prog fn [] i (w0.forCall (λ_ _=>0) ⟨#[],d,[]⟩).memory d fuel=true)
 (U:s.sizedB enc C.prog fn i (w0.forCall (λ_ _=>0) ⟨#[],d,[]⟩).memory d fuel=true)
 (hx:laidMetH C.prog m (w0.forCall (λ_ _=>0) ⟨#[],d,[]⟩).memory)
 (J:∀(W:World) (args:aAr) (k:List (DataW H)) (K:List MemPlace),(∀(j:Nat) t v,fn.params[j]? =some t->args[j]? =some v->∃base,Value.okWide C.prog W .any base t v)->
  DataW.TrodAll enc C.prog W 0 (λ_=>true) true fn.params.toList args.toList k K->laidMetH C.prog m W->(DataW.weightsEach C.prog fn.params.toList k).all (· <=reachBytes)=true->
  ∃G u,Sj W G/\Bj (λ_=>none) u args.toList/\Runs F G f u .e 0 λv _ _=>v=.bool true):
 ReturnsInHanded {} C os f .any (λw args=>(s.pre enc C.prog fn [] i w args/\laidMetH C.prog m w)/\sizedMet enc C.prog fn (OpenSpec.ofChange s) i w args) (s.post enc C.prog fn i fresh false false):=by
 refine returnsInHanded_of_change_and (C:=C) (X:=λw _=>laidMetH C.prog m w) (λ_ _ _ hh h=>h.of_heap hh) own y B P
  (ChangeSpec.witness_at (enc:=enc) (C:=C) (os:=os) (X:=λw _=>laidMetH C.prog m w) false w0 d fuel Q hv R S I U hx) ?_
 intro W base args k gs O L V _ hz hL _;have Y:=V;have Z:=V.lt;obtain⟨p,q,hA,hV,rfl,d3,d4⟩:=V;have d0:gs=[]/\q=[]:=by
  rw[D]at hV;cases gs with
  |nil=>trivial
  |cons g r=>trivial
 obtain⟨rfl,rfl⟩:=d0;have A:k.length=fn.params.toList.length:=by
  have A:∀{M:List TypeId} {N:aAp} {k:List (DataW H)} {K:List MemPlace},DataW.TrodAll enc C.prog W 0 (λ_=>true) true M N k K->k.length=M.length:=by
   intro M;induction M with
   |nil=>intro N k K h;cases N<;>cases k<;>first|rfl|trivial
   |cons t M ih=>
    intro N k K h;cases N<;>cases k<;>try exact h.elim
    have⟨p,q,_,h2,_⟩:=h;simp[ih h2]
  exact A hA
 rw[ur _ _ _ A]at hz;have⟨G,u,hg,hr,d1⟩:=J W args k p (λj t v h1 h2=>⟨base,L j t v h1 h2⟩) hA hL hz;refine(AAQ hF hg hr d1).mono λe W' ⟨he,ho⟩=>?_;subst he;have e1:s.fn H (k++[])={results:=[.lit (.bool true)],args:=k}:=by simp_all
 refine⟨_,rfl,k,[],_,[],p,[],Y,?_,?_,?_,ho.kept _,λh=>by cases h⟩
 .rw[e1,E];exact trodAll_mk1 (shut_bool hb true)
 .rw[e1];exact Old.trodAll hl ho hp hA (λx hx=>Z x (by simp_all))
 .rw[e1,D];rfl
inductive T.All{α:Type}:(P2->α->Prop)->T α->Prop
 |e {Q:P2->α->Prop}:T.All Q .e
 |n0 {Q:P2->α->Prop} {l r:T α}:T.All (λp=>Q (.z p)) l->T.All (λp=>Q (.o p)) r->T.All Q (.n none l r)
 |n1 {Q:P2->α->Prop} {x:α} {l r:T α}:Q .h x->T.All (λp=>Q (.z p)) l->T.All (λp=>Q (.o p)) r->T.All Q (.n (some x) l r)
abbrev T.All.Ch{d:Type}:∀{p:P2} {Q:P2->d->Prop} {t:T d},T.All Q t->∀{x:d},T.Ch p t=some x->Q p x
 |p,_,_,.e,x,h=>by simp_all
 |.h,_,_,.n0 _ _,x,h=>by trivial
 |.z p,Q,_,.n0 f _,x,h=>by exact T.All.Ch f h
 |.o p,Q,_,.n0 _ g,x,h=>by exact T.All.Ch g h
 |.h,_,_,.n1 i _ _,x,h=>by simp_all[T.ANn]
 |.z p,Q,_,.n1 _ f _,x,h=>by exact T.All.Ch f h
 |.o p,Q,_,.n1 _ _ g,x,h=>by exact T.All.Ch g h
structure ASx(P:Program)(F:T AF)(f:Nat)(af:AF):Prop where
 tr:∃fn loc df ords,P.funcs[f]? =some fn/\(fn.name== "runtime.NumGoroutine")=false/\fr P loc df ords af.dg fn=some af
 dg:AGM af.dp=true∨∃af',T.get F af.dg=some af'/\AGM af'.dp=true
inductive mp(P:Program)(F:T AF)(f:Nat)(af:AF):Prop
 |code (h:ASx P F f af)
 |nat (k:Nk) (hk:af=.nat k) (h:ARP P f k)
abbrev AE0{d:jK}:AGM d=true↔d=.no:=by cases d<;>simp[AGM]
abbrev ABA.AR2(x:P.follows .mixedOrders=true)(h:T.All (λp u=>mp P F p.key u) F):ABA P F where
 mixed:=x;ATn:=λf k i=>by
  have d:=T.All.Ch h i;cases d with
  |code d=>
   have⟨C,loc,D,ords,_,_,g⟩:=d.tr;unfold fr at g;split at g
   .obtain⟨_,_,g⟩:=AH.1 g;have⟨_,_,g⟩:=AH.1 g;split at g<;>cases g
   trivial
  |nat w q d=>simp_all
 fns:=λf u i v=>by
  have d:=T.All.Ch h i;rw[xJ]at d;cases d with
  |code d=>exact d.tr
  |nat w q d=>subst q;trivial
 dgs:=λf u y i v A m=>by
  have d:=T.All.Ch h i;cases d with
  |code d=>
   rcases d.dg with e|⟨a,B,v⟩
   .exact absurd (AE0.1 e) A
   .rw[B]at m;cases m;exact AE0.1 v
  |nat w q d=>subst q;trivial
open Classical in
def xj:Value->V
 |.int k n=>.int k n 0
 |.bool b=>.bool b
 |.string s=>.str s.data.toList.length (enc s.data.toList)
 |.slice none len cap=>if len=0/\cap=0 then .AT else .undef
 |.slice (some a) len cap=>if len<=cap/\(cap=0∨a.spot=none)then .rsl a.block a.off len cap 0 else .undef
 |_=>.undef
abbrev AIV(ρ:Loc)(u:Value):AW ρ (xj u) u:=by
 cases u with
 |slice a len d=>
  cases a with
  |none=>
   simp only[xj];split<;>simp_all[AW]
  |some a=>
   simp only[xj];split
   .rename_i h;refine⟨a,rfl,?_,h.1⟩;rcases h.2 with e|e
    .omega
    .cases a;simp_all
   trivial
 |_=>simp[xj,AW]
open Classical in
def Kc(W:World):AQ:=λb off n=>
 if ∀j,j<n->∃u,W.cell? ⟨b,off+j,none⟩=some u/\u.oneCell'=true then some ((List.range n).map λj=>xj ((W.cell? ⟨b,off+j,none⟩).getD undef))else none
abbrev AH7(W:World):Sj W (Kc W):=by
 intro b m n L h;unfold Kc at h;split at h
 .rename_i p;cases h;refine⟨o6,λj v d=>?_⟩;rw[pe]at d;cases f:(List.range n)[j]? with
  |none=>simp_all
  |some k=>
   rw[f]at d;have g:j<n:=by have:=(us.1 f).1;simp_all
   rw[_C g]at f;cases f;have⟨u,i,q⟩:=p j g;refine⟨u,i,?_,q⟩;simp only[_E,_u]at d;subst d;rw[i];exact AIV _ _
 trivial
variable{n:Nat}
abbrev vu{b off:Nat}{cs:aAp}(d:cs.length=n)(f:∀u∈cs,u.oneCell'=true)(h:∀j u,cs[j]? =some u->W.cell? ⟨b,off+j,none⟩=some u):Kc W b off n=some (cs.map xj):=by
 unfold Kc;rw[hD]
 .congr 1;apply _D;intro j;by_cases g:j<cs.length<;>simp_all
 simp_all
inductive Dt where
 |int (k:IntKind) (n:Int)|bool (b:Bool)|str (s:List UInt8)|sl (z:Nat) (l:List Dt)|st (l:List Dt)
variable{P:Program}{H:Type}{enc':TypeId×Value->H}{w:World}{base:Nat}{spare:Nat->Bool}{held:Bool}
def ZH{H:Type}:Nat->DataW H->aAB
 |0,_=>none
 |n+1,d=>match d with
  |.lit (.int k i)=>some [.int k i 0]
  |.lit (.bool b)=>some [.bool b]
  |.lit (.string s)=>some [.str s.length (enc s)]
  |.agg ds=>(ds.mapM (ZH n)).map List.flatten
  |_=>none
def gG:Nat->List (Nat×Nat)->Nat->Bool
 |o,[],tot=>Nat.beq o tot
 |o,(a,l)::r,tot=>Nat.beq a o&&gG (o+l) r tot
def tH(P:Program):Nat->TypeId->Bool
 |0,_=>false
 |d+1,t=>match P.underlying t with
  |some (.int _)=>true
  |some .bool=>true
  |some .string=>true
  |some (.struct fs)=>gG 0 (fs.toList.map λf=>(f.offset,P.cellsOf f.type)) (P.cellsOf t)&&fs.toList.all λf=>tH P d f.type
  |some (.array n e)=>Nat.beq (n*P.cellsOf e) (P.cellsOf t)&&tH P d e
  |_=>false
abbrev Xt{f:Type}(cs:List f):∀(d:List _) (o:Nat),gG o d cs.length=true->cs.drop o=(d.map λp=>(cs.drop p.1).take p.2).flatten
 |[],o,h=>by have:=r_ h;simp[*]
 |(a,l)::r,o,h=>by simp only[gG,ez]at h;have g:=r_ h.1;subst g;have i:=Xt cs r _ h.2;simp only[rl,_L];rw[<-i,<-C',List.take_append_drop]
inductive AG1{α β:Type}(R:α->β->Prop):List α->List β->Prop
 |nil:AG1 R [] []
 |cons {a:α} {b:β} {l:List α} {m:List β}:R a b->AG1 R l m->AG1 R (a::l) (b::m)
variable{ρ:Loc}
abbrev yZ:∀{xs:List LV} {ys:List _},AG1 (λa b=>Bj ρ a b) xs ys->Bj ρ xs.flatten ys.flatten
 |_,_,.nil=>o6
 |_,_,.cons h t=>by exact h.append (yZ t)
abbrev Vp{k g m:Type}{f:k->Option g}{R:g->m->Prop}:∀{l:List k} {r:List g} {ys:List m},l.mapM f=some r->l.length=ys.length->(∀(i:Nat) (a:k) (b:g) (y:m),l[i]? =some a->f a=some b->ys[i]? =some y->R b y)->AG1 R r ys
 |[],r,ys,h,u,_=>by
  simp at h;subst h;cases ys with
  |nil=>exact .nil
  |cons=>trivial
 |a::l,r,ys,h,u,p=>by
  cases ys with
  |nil=>trivial
  |cons y ys=>
   rw[_R]at h;cases d:f a with
   |none=>simp_all
   |some b=>
    rw[d]at h;cases q:l.mapM f with
    |none=>simp_all
    |some w=>
     simp[q]at h;subst h;exact .cons (p 0 a b y rfl d rfl) (Vp q (by simp_all) λi a b y x v A=>p (i+1) a b y (by trivial) v (by trivial))
abbrev qj{g i:Type}{f:g->Option i}:∀{l:List g} {r:List i},l.mapM f=some r->∀a∈l,∃b,f a=some b
 |[],_,_,_,h=>by cases h
 |a::l,r,h,x,d=>by
  cases k:f a with
  |none=>simp_all
  |some b=>
   cases m:l.mapM f with
   |none=>simp_all
   |some p=>
    rcases qk.1 d with rfl|d
    .simp[*]
    .exact qj m x d
abbrev ci:∀(fuel:Nat) {t:TypeId} {cs:aAp} {d:DataW H} {ps:List MemPlace} {n m:Nat} {vs:LV},DataW.trod enc' P w base spare held fuel t cs=some (d,ps)->ZH n d=some vs->tH P m t=true->
 Bj (λ_=>none) vs cs/\∀u∈cs,u.oneCell'=true
 |0,_,_,_,_,_,_,_,h,_,_=>by trivial
 |fuel+1,t,cs,d,ps,n,0,vs,h,p,I=>by trivial
 |fuel+1,t,cs,d,ps,0,m+1,vs,h,p,I=>by trivial
 |fuel+1,t,cs,d,ps,n+1,m+1,vs,h,p,I=>by
  simp only[tH]at I;split at I
  .rename_i k q;obtain⟨i,rfl,e,_⟩:=DataW.trod_int q h;cases e;simp only[ZH,_u]at p;subst p;exact⟨.cons (by rfl) .nil,λu q=>by simp at q;subst q;rfl⟩
  .rename_i q;obtain⟨i,rfl,e⟩:=DataW.trod_bool q h;cases e;simp only[ZH,_u]at p;subst p;exact⟨.cons (by rfl) .nil,λu q=>by simp at q;subst q;rfl⟩
  .rename_i q;obtain⟨s,rfl,e,_⟩:=DataW.trod_string q h;cases e;simp only[ZH,_u]at p;subst p;exact⟨.cons ⟨s,rfl,rfl,rfl⟩ .nil,λu q=>by simp at q;subst q;rfl⟩
  .rename_i Z q;rw[ez]at I;have⟨A,W,X,e,O,C,Q⟩:=DataW.trod_struct q h;have D:fuel=W:=a6;subst D;cases e;have g:=Xt cs _ 0 (by rw[O];exact I.1);simp only[_S,T']at g;simp only[ZH]at p;cases J:(A.map (·.1)).mapM (ZH n)with
   |none=>rw[J]at p;trivial
   |some r=>
    rw[J]at p;simp only[_E,_u]at p;subst p;have v:∀(i:Nat) (f:Field) (x:DataW H×List MemPlace),Z[i]? =some f->A[i]? =some x->∀b,ZH n x.1=some b->Bj (λ_=>none) b ((cs.drop f.offset).take (P.cellsOf f.type))/\∀u∈(cs.drop f.offset).take (P.cellsOf f.type),u.oneCell'=true:=by intro i f x K B b E;have U:=Q i f K;rw[B]at U;have⟨x1,x2⟩:=x;exact ci fuel U E (_A.1 I.2 f (by simpa using M' K))
    constructor
    .rw[g];refine yZ (Vp J (by simp[C]) ?_);intro i a b y L E M;rw[pe]at L M;cases B:A[i]? with
     |none=>rw[B]at L;trivial
     |some x=>
      rw[B]at L;cases L;cases R:Z.toList[i]? with
      |none=>rw[R]at M;trivial
      |some f=>
       rw[R]at M;cases M;exact(v i f x (by simpa using R) B b E).1
    .intro u F;rw[g]at F;have⟨l,Y,S⟩:=Z'.1 F;obtain⟨f,p,rfl⟩:=_c.1 Y;have⟨i,K⟩:=_m.1 p;have G:i<A.length:=by rw[C];simpa using(us.1 K).1
     have T:=qj J (A[i]).1 (_c.2 ⟨A[i],f_ G,rfl⟩);have⟨b,E⟩:=T;exact(v i f _ (by simpa using K) (eb G) b E).2 u S
  .rename_i k e q;rw[ez]at I;have⟨A,W,X,e',O,C,Q⟩:=DataW.trod_array q h;have D:fuel=W:=a6;subst D;cases e';have hk:k*P.cellsOf e=P.cellsOf t:=r_ I.1;have V:∀(j o:Nat),gG (o*P.cellsOf e) ((List.range' o j).map λi=>(i*P.cellsOf e,P.cellsOf e)) ((o+j)*P.cellsOf e)=true:=by
    intro j;induction j with
    |zero=>simp[gG]
    |succ j ih=>
     intro o;simp only[List.range'_succ,rl,gG,ez];refine⟨o6,?_⟩;have:=ih (o+1);simp_all[pp,_g,show o+(j+1)=o+1+j by omega]
   have g:=Xt cs ((List.range' 0 k).map λi=>(i*P.cellsOf e,P.cellsOf e)) 0 (by have:=V k 0;simp_all);simp only[_S,T']at g;simp only[ZH]at p;cases J:(A.map (·.1)).mapM (ZH n)with
   |none=>rw[J]at p;trivial
   |some r=>
    rw[J]at p;simp only[_E,_u]at p;subst p;have v:∀(i:Nat) (x:DataW H×List MemPlace),i<k->A[i]? =some x->∀b,ZH n x.1=some b->Bj (λ_=>none) b ((cs.drop (i*P.cellsOf e)).take (P.cellsOf e))/\∀u∈(cs.drop (i*P.cellsOf e)).take (P.cellsOf e),u.oneCell'=true:=by intro i x K B b E;have U:=Q i K;rw[B]at U;have⟨x1,x2⟩:=x;exact ci fuel U E I.2
    constructor
    .rw[g];refine yZ (Vp J (by simp[C]) ?_);intro i a b y L E M;rw[pe]at L M;cases B:A[i]? with
     |none=>rw[B]at L;trivial
     |some x=>
      rw[B]at L;cases L;have N:i<k:=by rw[<-C];exact(us.1 B).1
      rw[List.getElem?_range' N]at M;simp only[_E,Function.comp,_u,t_,_g]at M;subst M;exact(v i x N B b E).1
    .intro u F;rw[g]at F;have⟨l,Y,S⟩:=Z'.1 F;obtain⟨i,K,rfl⟩:=_c.1 Y;have N:i<k:=by simp at K;omega
     have G:i<A.length:=a6;have T:=qj J (A[i]).1 (_c.2 ⟨A[i],f_ G,rfl⟩);have⟨b,E⟩:=T;exact(v i _ N (eb G) b E).2 u S
  trivial
end Go.BN
namespace Go.BN
end Go.BN
namespace Go.BN
end Go.BN
