/- Part of a proof; nothing is assumed. -/
import Derived.Test.YtlhlldpfafhpbaaGreatDoorConA
set_option linter.unusedVariables false
set_option linter.unusedSimpArgs false
namespace Go.RL
open Go.BN
set_option maxRecDepth 100000
structure Ke(G:AQ)(H:Heap)(n:Nat)(H':Heap)(n':Nat):Prop where
 le:n<=n'
 el:∀v z LS,Lo v n->El G H v z LS->El G H' v z LS
variable{m:Nat}{z:Nat}{LS:Bh}{xs:List Ty}{ws:List V}{L:LV}{c:Fc}{v:V}{w:V}{v0:V}{v1:V}{v2:V}{v3:V}{v4:V}{f:Fl}{b:Nat}{o:Nat}
section
variable{G:AQ}{H H' H'':Heap}{n n' n'':Nat}{v:V}
abbrev Ke.refl:Ke G H n H n:=⟨ea _,λ_ _ _ _ h=>h⟩
abbrev Ke.trans(a:Ke G H n H' n')(b:Ke G H' n' H'' n''):Ke G H n H'' n'':=⟨w_ a.le b.le,λv z d f h=>b.el v z d (f.mono a.le) (a.el v z d f h)⟩
abbrev _root_.Go.BN.Kp.ke(f:Kp H n H' n'):Ke G H n H' n':=⟨f.le,λ_ _ _ d h=>h.kp d f⟩
abbrev Ke.low(f:Ke G H n H' n')(d:m<=n):Ke G H m H' m:=⟨ea _,λv z g i h=>f.el v z g (i.mono d) h⟩
abbrev _root_.Go.BN.El.ke(h:El G H v z LS)(d:Lo v n)(f:Ke G H n H' n'):El G H' v z LS:=f.el v z LS d h
abbrev Ji.ke{xs:aAv}(h:Ji G H n v xs)(f:Ke G H n H' n'):Ji G H' n' v xs:=⟨h.el.ke h.lo f,h.lo.mono f.le,h.lt,h.ok⟩
abbrev O3.ke{xs:aAm}(h:O3 G H n v xs)(f:Ke G H n H' n'):O3 G H' n' v xs:=⟨h.el.ke h.lo f,h.lo.mono f.le,h.lt,h.ok⟩
abbrev IW.ke{xs:aAF}{ws:aAo}(h:IW G H n v xs ws)(f:Ke G H n H' n'):IW G H' n' v xs ws:=
 ⟨h.el.ke h.lo f,h.lo.mono f.le,h.lt,h.len,λi m w a b=>(h.at' i m w a b).ke f,h.ok⟩
abbrev Vk.ke{ws:aAo}(h:Vk G H n L c v w ws)(f:Ke G H n H' n'):Vk G H' n' L c v w ws:=⟨h.is,h.fs.ke f,h.ms.ke f,h.ok⟩
abbrev Kr.ke{p:Pool}{ws:aAo}(h:Kr G H n p v0 v1 v2 v3 v4 ws)(f:Ke G H n H' n'):Kr G H' n' p v0 v1 v2 v3 v4 ws:=
 ⟨h.e0.ke h.l0 f,h.l0.mono f.le,h.b0,h.e1.ke h.l1 f,h.l1.mono f.le,h.b1,h.o1,h.t2.ke f,h.e3.ke h.l3 f,h.l3.mono f.le,h.b3,h.o3,h.e4.ke h.l4 f,h.l4.mono f.le,h.b4,h.AEJ,
  λi m w a b=>(h.at4 i m w a b).ke f,h.o4⟩
abbrev Yr.ke{is:List Ins}(h:Yr G H n v is)(f:Ke G H n H' n'):Yr G H' n' v is:=⟨h.el.ke h.lo f,h.lo.mono f.le,h.lt⟩
abbrev OY.ke{bs:List Bd}{ws:aAo}(h:OY G H n v bs ws)(f:Ke G H n H' n'):OY G H' n' v bs ws:=
 ⟨h.el.ke h.lo f,h.lo.mono f.le,h.lt,h.len,λi b w x y=>(h.at' i b w x y).ke f⟩
abbrev tg.ke{i k vb:V}{d ws g:aAo}(h:tg G H n L f i k v0 v1 v2 v3 v4 vb d ws g)(e:Ke G H n H' n'):tg G H' n' L f i k v0 v1 v2 v3 v4 vb d ws g:=
 ⟨h.is,h.face.ke e,h.pool.ke e,h.bodies.ke e⟩
def Jz(G:AQ)(H:Heap)(n:Nat)(v:V)(c:Fc):Prop:=∃vf vm ws,Vk G H n [c.nm.v,c.sup.v,vf,vm] c vf vm ws/\v=.agg [c.nm.v,c.sup.v,vf,vm]
abbrev Jz.ke(h:Jz G H n v c)(f:Ke G H n H' n'):Jz G H' n' v c:=by have⟨d,g,ws,h,i⟩:=h;exact⟨d,g,ws,h.ke f,i⟩
def sH(G:AQ)(H:Heap)(n:Nat)(v:V)(f:Fl):Prop:=∃L vf vm v0 v1 v2 v3 v4 vb mws ws bws,tg G H n L f vf vm v0 v1 v2 v3 v4 vb mws ws bws/\v=.agg L
abbrev sH.ke(h:sH G H n v f)(e:Ke G H n H' n'):sH G H' n' v f:=by have⟨L,i,k,v0,v1,v2,v3,v4,m,d,ws,g,h,p⟩:=h;exact⟨L,i,k,v0,v1,v2,v3,v4,m,d,ws,g,h.ke e,p⟩
def E1(H:Heap)(b:Nat):Prop:=∃ps,qc H b ps
structure Kb(b:Nat)(H:Heap)(n:Nat)(H':Heap)(n':Nat):Prop where
 le:n<=n'
 same:∀id,id<n->id≠b->T.get H' id=T.get H id
 seen:E1 H b->E1 H' b
abbrev Kb.refl(b:Nat)(H:Heap)(n:Nat):Kb b H n H n:=⟨ea _,λ_ _ _=>rfl,λh=>h⟩
abbrev Kb.trans(x:Kb b H n H' n')(y:Kb b H' n' H'' n''):Kb b H n H'' n'':=
 ⟨w_ x.le y.le,λd h f=>(y.same d (b_ h x.le) f).trans (x.same d h f),λh=>y.seen (x.seen h)⟩
abbrev Kb.trans'(x:Kb b H n H' n')(y:∀id,id<n->T.get H'' id=T.get H' id)(f:n'<=m)(g:b<n):Kb b H n H'' m:=
 ⟨w_ x.le f,λid h d=>(y id h).trans (x.same id h d),λh=>by have⟨i,k,ck,p,q⟩:=x.seen h;exact⟨i,k,ck,(y b g).trans p,q⟩⟩
abbrev Kb.low(f:Kb b H n H' n')(d:m<=n):Kb b H m H' m:=⟨ea _,λg h i=>f.same g (b_ h d) i,f.seen⟩
abbrev Kb.AWh(f:Kb b H n H' n')(d:m<=n):Kb b H m H' n':=⟨w_ d f.le,λg h i=>f.same g (b_ h d) i,f.seen⟩
abbrev E1.same(h:E1 H b)(e:T.get H' b=T.get H b):E1 H' b:=by have⟨d,f,ck,g,i⟩:=h;exact⟨d,f,ck,e.trans g,i⟩
abbrev _root_.Go.BN.Kp.kb(f:Kp H n H' n')(d:b<n):Kb b H n H' n':=⟨f.le,λg h _=>f.same g h,λh=>h.same (f.same b d)⟩
abbrev Kb.get{id:Nat}{B:LF}(f:Kb b H n H' n')(h:T.get H id=some B)(hi:id<n)(d:id≠b):T.get H' id=some B:=(f.same id hi d).trans h
abbrev E1.ld(h:E1 H b):ZB H b o z=none:=by obtain⟨f,g,ck,d,-⟩:=h;unfold ZB;rw[d];rfl
abbrev E1.elems(h:E1 H b)(f:BP H b z m o=some LS):m=0:=by
 cases m with
 |zero=>rfl
 |succ m=>
  have d:BB (ZB H b (Nat.mul o z) z) (λL=>BB (BP H b z m (Nat.succ o)) λLS=>some (L::LS))=some LS:=f;rw[h.ld]at d;cases d
abbrev Kb.ke(f:Kb b H n H' n')(x:E1 H b):Ke G H n H' n':=⟨f.le,λv z p A h=>by
 by_cases w:v.CD=some b
 .obtain⟨B,y⟩:=h;refine⟨B,?_⟩;cases v<;>try (cases w;done)
  .rename_i k g m c e;have i:k=b:=e_ w;subst i;have d:(Bool.rec (motive:=λ_=>aAs) none (BP H k z m g) (Nat.beq e z):aAs)=some p:=y;show(Bool.rec (motive:=λ_=>aAs) none (BP H' k z m g) (Nat.beq e z):aAs)=some p;cases q:Nat.beq e z with
   |false=>rw[q]at d;cases d
   |true=>
    rw[q]at d;have u:BP H k z m g=some p:=d;have:=x.elems u;subst this;exact u
  .rename_i k g m e;have i:k=b:=e_ w;subst i;have d:(Bool.rec (motive:=λ_=>aAs) none (BP H k z m g) (Nat.beq e z):aAs)=some p:=y;show(Bool.rec (motive:=λ_=>aAs) none (BP H' k z m g) (Nat.beq e z):aAs)=some p;cases q:Nat.beq e z with
   |false=>rw[q]at d;cases d
   |true=>
    rw[q]at d;have u:BP H k z m g=some p:=d;have:=x.elems u;subst this;exact u
 .exact h.same λk i=>f.same k (A k i) (by intro e;subst e;exact w i)⟩
end
abbrev Tab:=List (St×Fc)
def keyed{α β:Type}(ps:List (St×α))(fs:List (St×β)):Prop:=ps.map (·.1)=fs.map (·.1)
abbrev ABM{k m:Type}:∀{ps:List (St×k)} {fs:List (St×m)} (_:keyed ps fs) (s:St),(DU ps s).isSome=(DU fs s).isSome
 |[],[],_,s=>rfl
 |p::ps,f::fs,h,s=>by
  simp only[keyed,rl,_h]at h;have i:=ABM (ps:=ps) (fs:=fs) h.2 s;by_cases d:p.1=s
  .have g:f.1=s:=h.1▸d;simp[DU,d,g]
  .have g:¬f.1=s:=h.1▸d;simp only[DU,List.find?_cons,d,g,v_]at i⊢;exact i
 |[],_::_,h,_=>by simp[keyed]at h
 |_::_,[],h,_=>by simp[keyed]at h
abbrev AA1{i k:Type}(s:St)(a:i)(b:k):∀{ps:List (St×i)} {fs:List (St×k)} (_:keyed ps fs),keyed (Sr s a ps) (Sr s b fs)
 |[],[],_=>rfl
 |p::ps,f::fs,h=>by
  simp only[keyed,rl,_h]at h;unfold Sr;by_cases d:p.1=s
  .have g:f.1=s:=h.1▸d;rw[hD d,hD g];simp[keyed,h.2]
  .have g:¬f.1=s:=h.1▸d;rw[g_ d,g_ g];have:=AA1 s a b (ps:=ps) (fs:=fs) h.2;simp only[keyed,rl,_h]at this⊢;exact⟨h.1,this⟩
 |[],_::_,h=>by simp[keyed]at h
 |_::_,[],h=>by simp[keyed]at h
structure jf(G:AQ)(H:Heap)(n:Nat)(a:Nat)(fs:Tab):Prop where
 is:∃ps,qc H a ps/\keyed ps fs/\∀s v c,DU ps s=some v->DU fs s=some c->Jz G H n v c
structure TabAt(G:AQ)(H:Heap)(n t a b:Nat)(fs:Tab):Prop where
 tn:t<n
 an:a<n
 bn:b<n
 tb:t≠b
 ab:a≠b
 at':T.get H t=some (one [.map a,.map b])
 faces:jf G H n a fs
 seen:E1 H b
variable{H:Heap}{H':Heap}{a:Nat}
abbrev xu{ps:List (St×V)}(h:qc H a ps)(e:T.get H' a=T.get H a):qc H' a ps:=by have⟨d,ck,f,g⟩:=h;exact⟨d,ck,e.trans f,g⟩
variable{G:AQ}{n:Nat}{n':Nat}{t:Nat}{fs:Tab}
abbrev TabAt.kb(h:TabAt G H n t a b fs)(f:Kb b H n H' n'):TabAt G H' n' t a b fs:=by
 have⟨d,g,i,k⟩:=h.faces.is;exact⟨b_ h.tn f.le,b_ h.an f.le,b_ h.bn f.le,h.tb,h.ab,f.get h.at' h.tn h.tb,
  ⟨d,xu g (f.same a h.an h.ab),i,λs v c x y=>(k s v c x y).ke (f.ke h.seen)⟩,f.seen h.seen⟩
variable{k:KV}
abbrev run_set{f:Nat}{args:aAo}{b:LF}(h:∀H',Kp H n H' (n+1)->T.get H' n=some b->Runs F G f args H' m k):Runs F G f args (T.set H n b) m k:=
 h _ ((Kp.refl H n).new _ o_ a6) (T.B4 ..)
abbrev AVT(i o:Nat):BM (.one .ptr) false (.ptr i o) .zU=some (.bool false):=rfl
abbrev Cf:Fc:=⟨(0,0),(0,0),[],[]⟩
abbrev uG:El G H .AT z []:=⟨rfl,rfl⟩
abbrev ADf:Lo .AT n:=λ_ h=>by cases h
abbrev AOx:Jz G H n (.agg [.str 0 0,.str 0 0,.AT,.AT]) Cf:=
 ⟨.AT,.AT,[],⟨rfl,⟨uG,ADf,a_,λ_ h=>by cases h⟩,⟨uG,ADf,a_,rfl,λi m w h=>by simp at h,λ_ h=>by cases h⟩,λ_=>rfl,λ_=>rfl⟩,rfl⟩
abbrev jC(L:LV):BT L []=some (.agg L):=rfl
variable{n0:Nat}{s:St}
abbrev fV(h:TabAt G H n0 t a b fs)(p:n0<=n)
 (N:∀H' n' v,Kb b H n H' n'->Jz G H' n0 v ((DU fs s).getD Cf)->k (.CV [v,.bool (DU fs s).isSome]) H' n'):Runs F G Dj [.ptr t 0,s.v] H n k:=by
 refine go2 (oq Ae G) ?_;delta X3;have f:b<n:=b_ h.bn p;refine Ao rfl λO I P=>?_;have J:=h.kb ((I.kb f).low p);simp only[go_sem,AVT,Nat.reduceAdd,AK (off:=1) J.at' (v:=.map b) rfl];have⟨X,u⟩:=J.seen;refine AJD u s _ λg w y=>?_;have K:Kb b O (n+1) g (n+1):=⟨ea _,λQ _ R=>y Q R,λ_=>⟨_,w⟩⟩;have f3:=(I.kb f).trans K;have L:TabAt G g n0 t a b fs:=h.kb (f3.low p);have S:=K.get P a6 a6;have⟨M,U,i,V⟩:=L.faces.is;simp only[go_sem,Nat.reduceAdd,AK (off:=0) L.at' (v:=.map a) rfl];rw[show s.v=.str s.1 s.2 from rfl,ANv U];have d:=ABM i s;have A:∃v,AQt (.agg [.str 0 0,.str 0 0,.AT,.AT]) (DU M s)=.CV [v,.bool (DU fs s).isSome]/\Jz G g n0 v ((DU fs s).getD Cf):=by
  cases B:DU M s with
  |none=>
   rw[B]at d;cases q:DU fs s with
   |none=>exact⟨_,rfl,AOx⟩
   |some x=>rw[q]at d;cases d
  |some v=>
   rw[B]at d;cases q:DU fs s with
   |none=>rw[q]at d;cases d
   |some x=>exact⟨v,rfl,V _ _ _ B q⟩
 have⟨v,e,C⟩:=A;obtain⟨D,E,ws,C,rfl⟩:=C;rw[e];simp only[go_sem,Nat.reduceAdd];rw[MG (m:=4) ((T.Ac _ _ a6).trans ((T.Ac _ _ a6).trans S)) a6 rfl rfl,By (m:=4) (T.B4 ..) a6 rfl];simp only[go_sem];have e:Kp g n (T.set (T.set (T.set g (n+1) (one [.str 0 0,.str 0 0,.AT,.AT])) (n+1) (one [((DU fs s).getD Cf).nm.v,((DU fs s).getD Cf).sup.v,D,E])) n (one [((DU fs s).getD Cf).nm.v,((DU fs s).getD Cf).sup.v,D,E])) (n+1+1):=
  ((((Kp.refl g n).new (m:=n+1+1) _ a6 a6).set _ a6).set _ o_)
 have W:Kb b H n g n:=⟨ea _,f3.same,f3.seen⟩;exact N _ _ _ (W.trans (e.kb f)) ⟨D,E,ws,C.ke ((e.ke).low p),rfl⟩
def HH:Nat->Tab->List St->St->List St×Bool
 |0,_,out,_=>(out,false)
 |m+1,fs,out,s=>bif decide (s.1=0/\s.2=0)then(out,true)else
  match DU fs s with
  |none=>(out,false)
  |some c=>bif iP s out then(out,false)else HH m fs (out++[s]) c.sup
def above(fs:Tab)(s:St):List St×Bool:=HH (fs.length+1) fs [] s
theorem AK2{s:St}{xs:List St}:iP s xs=true↔s∈xs:=by
 unfold iP
 rw[List.any_eq_true]
 constructor
 ·rintro⟨x,d,h⟩
  have:=of_decide_eq_true h
  have e:s=x:=Prod.ext this.1 this.2
  exact e▸d
 ·intro h;exact⟨s,h,by simp⟩
abbrev AP3{f:Type}{ps:List (St×f)}{v:f}(h:DU ps s=some v):s∈ps.map (·.1):=by
 unfold DU at h;cases d:ps.find? λp=>decide (p.1=s)with
 |none=>rw[d]at h;cases h
 |some p=>
  have g:=ae d;have i:=List.find?_some d;exact _c.2 ⟨p,g,kh i⟩
theorem AFY:∀{xs ys:List St} (_:xs.Nodup) (_:∀x∈xs,x∈ys),xs.length<=ys.length
 |[],_,_,_=>Nat.zero_le _
 |x::xs,ys,d,h=>by
  rw[List.nodup_cons]at d
  have i:=h x (List.mem_cons_self ..)
  have:=AFY (xs:=xs) (ys:=ys.erase x) d.2 λz k=>by
   have f:=h z (List.mem_cons_of_mem _ k)
   have g:z≠x:=by intro e;subst e;exact d.1 k
   exact(List.mem_erase_of_ne g).2 f
  rw[List.length_erase_of_mem i]at this
  have m:0<ys.length:=List.length_pos_of_mem i
  simp only[List.length_cons];omega
structure Own(G:AQ)(H:Heap)(m n:Nat)(z:Nat)(v:V)(LS:Bh):Prop where
 gr:Gr G H m z v LS
 lo:Lo v n
abbrev Own.el(h:Own G H m n z v LS)(d:0<z):El G H v z LS:=h.gr.el d
abbrev Own.kb(h:Own G H m n z v LS)(f:Kb b H n H' n')(i:b<m):Own G H' m n' z v LS:=
 ⟨h.gr.mono λg d=>f.same g (h.lo g d) (hN ((h.gr.lo d).1)),h.lo.mono f.le⟩
abbrev Own.kp(h:Own G H m n z v LS)(f:Kp H n H' n'):Own G H' m n' z v LS:=
 ⟨h.gr.mono λg d=>f.same g (h.lo g d),h.lo.mono f.le⟩
variable{Z:V}{P:KV}
abbrev AQd(d:Rb w=true)(f:At w=[w]):
 Au (AY 1 1 [Z] [(0,.c w)] E0) H n P=P (.sl n 0 1 1 1) (T.set H n (.arr 1 1 (T.set (T.set .e 0 [Z]) 0 [w]))) (n+1):=by show B7 (band (band (Rb w) (band true (Nat.beq (len (At w)) 1))) true) (CS n λn=>P (.sl n 0 1 1 1) (T.set H n (.arr 1 1 (T.set (T.set .e 0 [Z]) 0 (At w)))) (Nat.succ n))=_;rw[d,f,A8];rfl
abbrev ATZ(d:Rb w=true)(f:At w=[w])(h:∀H',Kp H n H' (n+1)->elems (.sl n 0 1 1 1) G H' 1=some [[w]]->P (.sl n 0 1 1 1) H' (n+1)):
 Au (AY 1 1 [Z] [(0,.c w)] E0) H n P:=by rw[AQd d f];exact h _ ((Kp.refl H n).new _ o_ a6) (xS (z:=1) a6 rfl (T.B4 ..)).2
abbrev AP8(s:St):Ak s.v s.v=true:=by show band (Nat.beq s.1 s.1) (Nat.beq s.2 s.2)=true;simp
abbrev pz(h:TabAt G H n t a b fs)(d0:fs.length<=1000)
 (g:∀H' n' v,Kb b H n H' n'->Own G H' n n' 1 v (strs (above fs s).1)->(above fs s).1.length<=1001->k (.CV [v,.bool (above fs s).2]) H' n'):Runs F G HC [.ptr t 0,s.v] H n k:=by
 refine go2 (lP Ae G) ?_;delta WT;have B:=h.bn;refine ET (J:=λm st=>∃d s v C D,m+d.length=fs.length+1/\st=(.ptr t 0,St.v s,v,C,D)/\Kb b H n C D/\Own G C n D 1 v (strs d)/\d.Nodup/\(∀x∈d,x∈fs.map (·.1))/\
  (∀H' n' v,Kb b H n H' n'->Own G H' n n' 1 v (strs (HH m fs d s).1)->(HH m fs d s).1.length<=1001->k (.CV [v,.bool (HH m fs d s).2]) H' n')) ?_ (m:=fs.length+1)
  ⟨[],s,.AT,H,n,rfl,rfl,Kb.refl _ _ _,⟨.nil,ADf⟩,List.nodup_nil,λ_ h=>absurd h _3,g⟩
 rintro I m st ⟨d,s,v,C,D,hm,rfl,f,P,E,i,g⟩ ih;show Ld lfp G (Runs F G) k I (.ptr t 0) s.v v C D;delta Ld;have Q:=AFY E i;rw[uc]at Q;obtain⟨m,rfl⟩:∃m',m=m'+1:=⟨m-1,a6⟩;unfold HH at g;simp only[go_sem,St.v,ATh];cases X:decide (s.1=0/\s.2=0)with
 |true=>
  rw[X]at g;simp only[k_,go_sem];delta Lt;exact g _ _ _ f P (by show d.length<=1001;omega)
 |false=>
  rw[X]at g;simp only[l_,go_sem];refine fV (s:=s) (h.kb f) o_ λY q w f3 Z=>?_;have M:=f.trans f3;have K:=P.kb f3 B;obtain⟨vf,vm,ws,Z,rfl⟩:=Z;simp only[go_sem,Nat.reduceAdd,Bw];rw[T.set_set];cases R:DU fs s with
  |none=>
   rw[R]at g;simp only[_6,l_,go_sem];have L:Kp Y q (T.set Y q (one [((none:Option Fc).getD Cf).nm.v,((none:Option Fc).getD Cf).sup.v,vf,vm])) (q+1):=(Kp.refl _ _).new _ o_ a6;exact g _ _ _ (M.trans (L.kb (hN M.le))) (K.kp L) (by show d.length<=1001;omega)
  |some c=>
   rw[R]at g;simp only[_7,k_,go_sem,_z];have d1:=M.le;refine run_set λH4 L g5=>?_;have f6:=M.trans (L.kb (b:=b) a6);have u:=K.kp L;refine nl (s:=s) (xs:=d) (u.el a6) a6 ?_;cases N:iP s d with
   |true=>
    simp only[N,_K]at g;simp only[go_sem];exact g _ _ _ f6 u (by show d.length<=1001;omega)
   |false=>
    simp only[N,_j]at g;have S:¬s∈d:=λh=>by rw[AK2.2 h]at N;cases N
    simp only[go_sem];refine ATZ (G:=G) rfl rfl λH5 O g7=>?_;have e1:AM (.ptr q 1) G H5=some c.sup.v:=AK (O.get g5 a6) rfl;rw[e1,AJ];have A:=u.kp O;refine A.gr.app a6 A.lo g7 ?_ ?_ ?_
    .rw[Mo];simp;omega
    .intro v' U hg hs V;have f8:Kb b H n U (q+1+1+1):=(f6.trans (O.kb a6)).trans' (λid d2=>hs id a6 (λW=>hN ((A.gr.lo W).1))) a6 B;have e2:AM (.ptr q 1) G U=some c.sup.v:=AK ((hs q a6 (λW=>tw (P.lo _ W) f3.le)).trans (O.get g5 a6)) rfl;simp only[go_sem,e2,AP8];refine ih _ _ (_p m) ⟨d++[s],c.sup,v',U,_,by simp;omega,rfl,f8,⟨?_,V⟩,?_,?_,g⟩
     .rw[strs,wm];exact hg
     .rw[List.nodup_append];refine⟨E,o6,?_⟩;intro x p y hy;simp at hy;subst hy;intro e;subst e;exact S p
     .intro x p;rcases q_.1 p with p|p
      .exact i x p
      .simp at p;subst p;exact AP3 R
    .intro h;cases h
abbrev Vq:Ty:=⟨(0,0),false⟩
abbrev Sv:Bk:=⟨(0,0),false,[],Vq⟩
def QM(s:St):aAm->Option Ty
 |[]=>none
 |f::fs=>bif decide (f.nm.1=s.1/\f.nm.2=s.2)then some f.ty else QM s fs
def HP(s:St):aAF->Option Bk
 |[]=>none
 |m::ms=>bif decide (m.nm.1=s.1/\m.nm.2=s.2)then some m else HP s ms
def gT(G:AQ)(H:Heap)(n:Nat)(v:V)(m:Bk):Prop:=∃w,v=.agg (m.cells w)/\Ji G H n w m.ps
abbrev gT.ke{m:Bk}(h:gT G H n v m)(f:Ke G H n H' n'):gT G H' n' v m:=by have⟨w,e,h⟩:=h;exact⟨w,e,h.ke f⟩
abbrev AGs:gT G H n (.agg (Sv.cells .AT)) Sv:=⟨.AT,rfl,uG,ADf,a_,λ_ h=>by cases h⟩
abbrev AEX(h:Jz G H n v c)
 (d:∀H' n',Kp H n H' n'->k (.CV [((QM s c.fs).getD Vq).v,.bool (QM s c.fs).isSome]) H' n'):Runs F G YI [v,s.v] H n k:=by
 refine go2 (oS Ae G) ?_;obtain⟨w,Q,ws,h,rfl⟩:=h;delta Xp;refine BE λR E K=>?_;refine Ao rfl λL B M=>?_;simp only[go_sem,Nat.reduceAdd,AK (off:=2) (B.get K a6) (v:=w) rfl,h.fs.len];have p:=h.fs.lt;refine BL (N:=c.fs.length) (J:=λi st=>∃H' n',st=(s.v,.ptr (n+1) 0,w,iN c.fs.length,iN i,H',n')/\Kp H n H' n'/\n+1<n'/\T.get H' (n+1)=some (one [.str 0 0,.bool false])/\
  (∀H' n',Kp H n H' n'->k (.CV [((QM s (c.fs.drop i)).getD Vq).v,.bool (QM s (c.fs.drop i)).isSome]) H' n')) ?_ ?_ ⟨L,_,rfl,E.trans B,_p _,M,d⟩
 .rintro I i st f ⟨y,u,rfl,f3,A,x,d⟩ O;show Fk lfp G (Runs F G) k I s.v (.ptr (n+1) 0) w (iN c.fs.length) (iN i) y u;delta Fk;have⟨q,P,g⟩:=(h.fs.kp f3).at f;rw[uv f]at d;unfold QM at d;generalize c.fs[i]=m at g d;unfold BU.cells at g;simp only[go_sem,Bf,f,_b,P,BZ g,Nat.reduceAdd,show BM (.one .str) false m.nm.v s.v=_ from cK ..];rw[T.set_set];have C:=f3.new (m:=u+1) (id:=u) (one [m.nm.v,m.ty.nm.v,.bool m.ty.arr]) f3.le a6;cases D:decide (m.nm.1=s.1/\m.nm.2=s.2)with
  |true=>
   simp only[D,_K]at d;simp only[go_sem,Nat.reduceAdd];rw[BV (m:=2) (off:=1) (T.B4 ..) a6 (by show 3<=3;omega),AJ];show A1 2 (.ptr (n+1) 0) (.agg [m.ty.nm.v,.bool m.ty.arr]) _ _ _;rw[MG (m:=2) ((T.Ac _ _ a6).trans x) a6 rfl rfl,By (m:=2) (T.B4 ..) a6 rfl];simp only[go_sem];exact d _ _ (C.set _ a6)
  |false=>
   simp only[D,_j]at d;simp only[go_sem,CA (show i+1<9223372036854775808 by unfold big at p;omega)];exact O _ ⟨_,_,rfl,C,a6,(T.Ac _ _ a6).trans x,d⟩
 .rintro I st ⟨y,u,rfl,f3,A,x,d⟩;show Fk lfp G (Runs F G) k I s.v (.ptr (n+1) 0) w (iN c.fs.length) (iN c.fs.length) y u;delta Fk;rw[sw o_]at d;simp only[go_sem,Bf,m_,v_];delta Mv;simp only[jC,AJ];rw[MG (m:=2) x a6 rfl rfl,By (m:=2) (T.B4 ..) a6 rfl];simp only[go_sem];exact d _ _ (f3.set _ a6)
abbrev sF(h:Jz G H n0 v c)(M:n0<=n)
 (d:∀H' n' w,Kp H n H' n'->gT G H' n0 w ((HP s c.ms).getD Sv)->k (.CV [w,.bool (HP s c.ms).isSome]) H' n'):Runs F G WM [v,s.v] H n k:=by
 refine go2 (ky Ae G) ?_;obtain⟨Y,x,ws,h,rfl⟩:=h;delta Vm;refine BE λZ O P=>?_;refine Ao rfl λQ C R=>?_;simp only[go_sem,Nat.reduceAdd,AK (off:=3) (C.get P a6) (v:=x) rfl,h.ms.len'];have u:=h.ms.lt;refine BL (N:=c.ms.length) (J:=λi st=>∃H' n',st=(s.v,.ptr (n+1) 0,x,iN c.ms.length,iN i,H',n')/\Kp H n H' n'/\n+1<n'/\T.get H' (n+1)=some (one (Sv.cells .AT))/\
  (∀H' n' w,Kp H n H' n'->gT G H' n0 w ((HP s (c.ms.drop i)).getD Sv)->k (.CV [w,.bool (HP s (c.ms.drop i)).isSome]) H' n')) ?_ ?_ ⟨Q,_,rfl,O.trans C,_p _,R,d⟩
 .rintro I i st f ⟨A,p,rfl,f3,B,y,d⟩ S;show FB lfp G (Runs F G) k I s.v (.ptr (n+1) 0) x (iN c.ms.length) (iN i) A p;delta FB;have⟨q,w,U,g,D⟩:=(h.ms.ke ((f3.ke).low M)).at f;rw[uv f]at d;unfold HP at d;generalize c.ms[i]=m at g d D;unfold Bk.cells at g;simp only[go_sem,Bf,f,_b,U,BZ g,Nat.reduceAdd,show BM (.one .str) false m.nm.v s.v=_ from cK ..];rw[T.set_set];have E:=f3.new (m:=p+1) (id:=p) (one [m.nm.v,.bool m.st,w,m.ret.nm.v,.bool m.ret.arr]) f3.le a6;cases L:decide (m.nm.1=s.1/\m.nm.2=s.2)with
  |true=>
   simp only[L,_K]at d;simp only[go_sem,Nat.reduceAdd];rw[MG (m:=5) ((T.Ac _ _ a6).trans y) a6 rfl rfl,By (m:=5) (T.B4 ..) a6 rfl];simp only[go_sem];have W:=E.set (one [m.nm.v,.bool m.st,w,m.ret.nm.v,.bool m.ret.arr]) (id:=n+1) a6;refine d _ _ _ W ⟨w,rfl,D.ke ?_⟩;refine(Kp.ke (n:=n0) (n':=p+1) ⟨a6,λK X=>?_⟩).low o_;rw[T.Ac _ _ a6,T.Ac _ _ a6]
  |false=>
   simp only[L,_j]at d;simp only[go_sem,CA (show i+1<9223372036854775808 by unfold big at u;omega)];exact S _ ⟨_,_,rfl,E,a6,(T.Ac _ _ a6).trans y,d⟩
 .rintro I st ⟨A,p,rfl,f3,B,y,d⟩;show FB lfp G (Runs F G) k I s.v (.ptr (n+1) 0) x (iN c.ms.length) (iN c.ms.length) A p;delta FB;rw[sw o_]at d;simp only[go_sem,Bf,m_,v_];delta LM;simp only[jC,AJ];rw[MG (m:=5) y a6 rfl rfl,By (m:=5) (T.B4 ..) a6 rfl];simp only[go_sem];exact d _ _ _ (f3.set _ a6) AGs
def Bk.same(a b:Bk):Bool:=decide (a.nm.1=b.nm.1/\a.nm.2=b.nm.2)&&((a.st==b.st)&&(a.ret.is b.ret&&Ze a.ps b.ps))
abbrev ASP(a b:Bool):BM (.one .bool) false (.bool a) (.bool b)=some (.bool (a==b)):=by cases a<;>cases b<;>rfl
abbrev uZ{a b:Bk}(h:gT G H n v a)(i:gT G H n w b)
 (d:∀H' n',Kp H n H' n'->k (.bool (a.same b)) H' n'):Runs F G En [v,w] H n k:=by
 refine go2 (tJ Ae G) ?_;obtain⟨x,rfl,h⟩:=h;obtain⟨y,rfl,i⟩:=i;delta dI;unfold Bk.same at d;refine BE λE B f=>?_;refine BE λm p g=>?_;have f:=p.get f a6;have f3:=B.trans p;unfold Bk.cells at f g;simp only[go_sem,Nat.reduceAdd,AK (off:=0) f rfl,AK (off:=0) g rfl,show BM (.one .str) false a.nm.v b.nm.v=_ from cK ..];cases q:decide (a.nm.1=b.nm.1/\a.nm.2=b.nm.2)with
 |false=>rw[q]at d;simp only[go_sem];exact d _ _ f3
 |true=>
  rw[q]at d;simp only[go_sem,Nat.reduceAdd,AK (off:=1) f rfl,AK (off:=1) g rfl,ASP];cases u:a.st==b.st with
  |false=>rw[u]at d;simp only[go_sem];exact d _ _ f3
  |true=>
   rw[u]at d;have C:AX 2 (.ptr n 3) G m=some a.ret.v:=BV f a6 (by show 5<=5;omega);have D:AX 2 (.ptr (n+1) 3) G m=some b.ret.v:=BV g a6 (by show 5<=5;omega);have e:BM (.agg [.str,.bool]) false a.ret.v b.ret.v=_:=UX a.ret b.ret;simp only[go_sem,Nat.reduceAdd,C,D,e];cases A:a.ret.is b.ret with
   |false=>rw[A]at d;simp only[go_sem];exact d _ _ f3
   |true=>
    rw[A]at d;simp only[go_sem,Nat.reduceAdd,AK (off:=2) f (v:=x) rfl,AK (off:=2) g (v:=y) rfl];refine ALV (h.el.kp h.lo f3) (i.el.kp i.lo f3) h.lt ?_;exact d _ _ f3
def BD(fs:Tab)(t:Ty):Bool:=Eo t.nm&&(!upper t.nm.1 t.nm.2||(DU fs t.nm).isSome)
abbrev bN(h:TabAt G H n t a b fs){xs:aAv}(E:Ji G H n v xs)
 (d:∀H' n',Kb b H n H' n'->k (.bool (xs.all (BD fs))) H' n'):Runs F G B6 [.ptr t 0,v] H n k:=by
 refine go2 (jy Ae G) ?_;delta Vw;have d1:=h.bn;have A:=E.lt;rw[E.len,AJ];refine BL (N:=xs.length) (J:=λi st=>∃H' n',st=(.ptr t 0,v,iN xs.length,iN i,H',n')/\Kb b H n H' n'/\
  (∀H' n',Kb b H n H' n'->k (.bool ((xs.drop i).all (BD fs))) H' n')) ?_ ?_ ⟨H,n,rfl,Kb.refl _ _ _,d⟩
 .rintro I i st g ⟨L,M,rfl,f3,d⟩ ih;show FJ lfp G (Runs F G) k I (.ptr t 0) v (iN xs.length) (iN i) L M;delta FJ;have O:=h.kb f3;have P:=E.ke (f3.ke h.seen);have⟨q,hp,p⟩:=P.el.at (tu g);have u:=E.ok _ (f_ g);rw[uv g,_9]at d;generalize xs[i]=m at u p d;unfold Ty.cells at p;unfold BD at d;have d2:=f3.le;simp only[go_sem,Bf,g,_b,hp,BZ p,Nat.reduceAdd];rw[T.set_set];refine run_set λH4 f4 g4=>?_;have f5:=f3.trans (f4.kb (b:=b) a6);refine tT u λH6 n6 Q=>?_;have X:=f5.trans (Q.kb (b:=b) a6);have Y:=Q.get g4 a6;have d3:=Q.le;simp only[Bw,go_sem];cases K:Eo m.nm with
  |false=>
   rw[show mS m.nm.1 m.nm.2=false from K];simp only[K,J']at d;simp only[l_,go_sem];exact d _ _ X
  |true=>
   rw[show mS m.nm.1 m.nm.2=true from K];simp only[K,_']at d;simp only[k_,go_sem,Nat.reduceAdd,AK (off:=0) Y (v:=m.nm.v) rfl];refine U0 λH8 n8 R=>?_;refine jn u λH9 n9 S=>?_;have x:=X.trans ((R.trans S).kb (b:=b) a6);have g9:=(R.trans S).get Y a6;have d4:=(R.trans S).le;rw[show isClass m.nm.1 m.nm.2 false=upper m.nm.1 m.nm.2 by simp[isClass]];have Z:∀H' n',Kb b H n H' n'->(∀H' n',Kb b H n H' n'->k (.bool ((xs.drop (i+1)).all (BD fs))) H' n')->FF lfp G (Runs F G) k I (.ptr t 0) v (iN xs.length) (iN i) H' n':=by intro H' n' f d;delta FF;simp only[go_sem,CA (show i+1<9223372036854775808 by unfold big at A;omega)];exact ih _ ⟨_,_,rfl,f,d⟩
   cases h2:upper m.nm.1 m.nm.2 with
   |false=>
    simp only[h2,l_,Bool.true_or,_']at d;simp only[go_sem];exact Z _ _ x d
   |true=>
    simp only[h2,k_,_P]at d;simp only[go_sem,Nat.reduceAdd,AK (off:=0) g9 (v:=m.nm.v) rfl];refine fV (s:=m.nm) (h.kb x) o_ λB y w U hw=>?_;obtain⟨vf,vm,ws,hw,rfl⟩:=hw;have C:=x.trans U;have d0:=C.le;simp only[go_sem,Nat.reduceAdd,Bw];rw[T.set_set];have W:Kp B y (T.set B y (one [((DU fs m.nm).getD Cf).nm.v,((DU fs m.nm).getD Cf).sup.v,vf,vm])) (y+1):=(Kp.refl _ _).new _ o_ a6;have D:=C.trans (W.kb (b:=b) a6);cases O:(DU fs m.nm).isSome with
    |false=>
     simp only[O,J']at d;simp only[l_,go_sem];exact d _ _ D
    |true=>
     simp only[O,_']at d;simp only[k_,go_sem];exact Z _ _ D d
 .rintro I st ⟨L,M,rfl,f3,d⟩;show FJ lfp G (Runs F G) k I (.ptr t 0) v (iN xs.length) (iN xs.length) L M;delta FJ;rw[sw o_]at d;simp only[go_sem,Bf,m_,v_];delta Le;exact d _ _ f3
def Xe(fs:Tab)(s:St):List St->Option (St×Ty)
 |[]=>none
 |c::cs=>match QM s ((DU fs c).getD Cf).fs with
  |some t=>some (c,t)
  |none=>Xe fs s cs
def QU(fs:Tab)(c s:St):Option (St×Ty):=Xe fs s (above fs c).1
abbrev AIh(h:TabAt G H n t a b fs)(O:fs.length<=1000){c:St}
 (d:∀H' n',Kb b H n H' n'->k (.CV [((QU fs c s).getD ((0,0),Vq)).1.v,((QU fs c s).getD ((0,0),Vq)).2.v,.bool (QU fs c s).isSome]) H' n'):Runs F G PI [.ptr t 0,c.v,s.v] H n k:=by
 refine xN (lJ Ae G) ?_;delta We;have f:=h.bn;unfold QU at d;refine Ao rfl λH1 K g1=>?_;have K:=K.kb (b:=b) f;refine pz (h.kb K) O λH2 n2 v P g u=>?_;generalize(above fs c).1=cs at g d u;have f3:=K.trans P;have g2:=P.get g1 a6 a6;have d0:=P.le;simp only[go_sem,(g.el a6).len,Mo];refine BL (N:=cs.length) (J:=λi st=>∃H' n',st=(.ptr t 0,s.v,.ptr n 0,v,iN cs.length,iN i,H',n')/\Kb b H n H' n'/\n<n'/\Own G H' (n+1) n' 1 v (strs cs)/\T.get H' n=some (one [.str 0 0,.bool false])/\
  (∀H' n',Kb b H n H' n'->k (.CV [((Xe fs s (cs.drop i)).getD ((0,0),Vq)).1.v,((Xe fs s (cs.drop i)).getD ((0,0),Vq)).2.v,.bool (Xe fs s (cs.drop i)).isSome]) H' n')) ?_ ?_ ⟨H2,n2,rfl,f3,a6,g,g2,d⟩
 .rintro I i st p ⟨Q,L,rfl,f3,x,g,R,d⟩ ih;show FD lfp G (Runs F G) k I (.ptr t 0) s.v (.ptr n 0) v (iN cs.length) (iN i) Q L;delta FD;have⟨q,hp,y⟩:=(g.el a6).at (jk p);rw[uv p]at d;unfold Xe at d;generalize cs[i]=m at y d;simp only[go_sem,Bf,p,_b,hp,OE y];refine fV (s:=m) (h.kb f3) o_ λH4 n4 w M S=>?_;obtain⟨U,V,ws,S,rfl⟩:=S;have f5:=f3.trans M;have d1:=M.le;simp only[go_sem,Nat.reduceAdd];rw[T.set_set];refine run_set λH6 W g6=>?_;have A:=W.kb (b:=b) a6;have f7:=f5.trans A;refine AEX (s:=s) (n:=n4+1) (v:=.agg [((DU fs m).getD Cf).nm.v,((DU fs m).getD Cf).sup.v,U,V]) (c:=(DU fs m).getD Cf) ⟨U,V,ws,S.ke ⟨a6,λv z LS hl he=>(W.ke).el v z LS (hl.mono M.le) he⟩,rfl⟩ λH8 X Y=>?_;have B:=Y.kb (b:=b) a6;have Z:=f7.trans B;have d2:=Y.le;have C:=M.trans (A.trans B);have g:=g.kb C a6;have D:=C.get R x a6;unfold Ty.v Ty.cells;simp only[go_sem,Nat.reduceAdd];rw[T.set_set];cases h1:QM s ((DU fs m).getD Cf).fs with
  |some ty=>
   rw[h1]at d;simp only[_7,go_sem,_z];rw[MG (m:=2) ((T.Ac _ _ a6).trans D) a6 rfl rfl];rw[By (m:=2) (T.B4 ..) a6 rfl];simp only[go_sem];refine d _ _ (Z.trans' (m:=X+1) (λid E=>?_) a6 f);rw[T.Ac _ _ a6,T.Ac _ _ a6]
  |none=>
   rw[h1]at d;simp only[_6,go_sem,Option.getD_none];simp only[go_sem,CA (show i+1<9223372036854775808 by omega)];refine ih _ ⟨_,_,rfl,Z.trans' (m:=X+1) (λid E=>?_) a6 f,a6,g.kp ((Kp.refl _ _).new _ o_ a6),(T.Ac _ _ a6).trans D,d⟩;rw[T.Ac _ _ a6]
 .rintro I st ⟨Q,L,rfl,f3,x,g,R,d⟩;show FD lfp G (Runs F G) k I (.ptr t 0) s.v (.ptr n 0) v (iN cs.length) (iN cs.length) Q L;delta FD;rw[sw o_]at d;simp only[go_sem,Bf,m_,v_];delta Lc;simp only[jC,AJ];rw[MG (m:=2) R a6 rfl rfl,AZe,By (m:=2) (T.B4 ..) a6 rfl];simp only[go_sem];refine d _ _ (f3.trans' (m:=L) (λid E=>?_) a6 f);rw[T.Ac _ _ a6]
def Ht(st:Bool)(s:St)(ms:aAF):Option Bk:=match HP s ms with
 |some m=>bif m.st==st then some m else none
 |none=>none
def FP(fs:Tab)(s:St)(st:Bool):List St->Option (St×Bk)
 |[]=>none
 |c::cs=>match Ht st s ((DU fs c).getD Cf).ms with
  |some m=>some (c,m)
  |none=>FP fs s st cs
def Cq(fs:Tab)(c s:St)(st:Bool):Option (St×Bk):=FP fs s st (above fs c).1
abbrev AEO{p:Nat}(h:TabAt G H p t a b fs)(Z:fs.length<=1000){c:St}{st:Bool}
 (d:∀H' n' w,Kb b H n H' n'->gT G H' p w ((Cq fs c s st).getD ((0,0),Sv)).2->k (.CV [((Cq fs c s st).getD ((0,0),Sv)).1.v,w,.bool (Cq fs c s st).isSome]) H' n')
 (C:p<=n:=by first|exact ea _|omega):Runs F G GX [.ptr t 0,c.v,s.v,.bool st] H n k:=by
 refine tS (Ti Ae G) ?_;delta N7;have u:=b_ h.bn C;unfold Cq at d;refine Ao rfl λH1 X g1=>?_;have X:=X.kb (b:=b) u;refine pz ((h.kb (n':=n) ⟨C,λ_ _ _=>rfl,λh=>h⟩).kb X) Z λH2 n2 v f2 y L=>?_;generalize(above fs c).1=cs at y d L;have f3:=X.trans f2;have g2:=f2.get g1 a6 a6;have d0:=f2.le;simp only[go_sem,(y.el a6).len,Mo];refine BL (N:=cs.length) (J:=λi q=>∃H' n',q=(.ptr t 0,s.v,.bool st,.ptr n 0,v,iN cs.length,iN i,H',n')/\Kb b H n H' n'/\n<n'/\Own G H' (n+1) n' 1 v (strs cs)/\T.get H' n=some (one (Sv.cells .AT))/\
  (∀H' n' w,Kb b H n H' n'->gT G H' p w ((FP fs s st (cs.drop i)).getD ((0,0),Sv)).2->k (.CV [((FP fs s st (cs.drop i)).getD ((0,0),Sv)).1.v,w,.bool (FP fs s st (cs.drop i)).isSome]) H' n')) ?_ ?_ ⟨H2,n2,rfl,f3,a6,y,g2,d⟩
 .rintro I i q D ⟨H3,Y,rfl,f3,M,y,g3,d⟩ ih;show CF lfp G (Runs F G) k I (.ptr t 0) s.v (.bool st) (.ptr n 0) v (iN cs.length) (iN i) H3 Y;delta CF;have⟨q,hp,O⟩:=(y.el a6).at (jk D);rw[uv D]at d;unfold FP at d;generalize cs[i]=m at O d;simp only[go_sem,Bf,D,_b,hp,OE O];refine fV (s:=m) (n0:=p) (h.kb (f3.low C)) a6 λH4 n4 w f4 P=>?_;obtain⟨vf,vm,ws,P,rfl⟩:=P;have f5:=f3.trans f4;have d1:=f4.le;simp only[go_sem,Nat.reduceAdd];rw[T.set_set];refine run_set λH6 f6 g6=>?_;have Q:=f6.kb (b:=b) a6;have f7:=f5.trans Q;refine sF (s:=s) (n:=n4+1) (n0:=p) (v:=.agg [((DU fs m).getD Cf).nm.v,((DU fs m).getD Cf).sup.v,vf,vm]) (c:=(DU fs m).getD Cf) ⟨vf,vm,ws,P.ke ((f6.ke).low a6),rfl⟩ a6 λR A w f8 P=>?_;have S:=f8.kb (b:=b) a6;have f9:=f7.trans S;have d2:=f8.le;have U:=f4.trans (Q.trans S);have y:=y.kb U a6;have V:=U.get g3 M a6;obtain⟨x,rfl,hx⟩:=P;unfold Ht at d;have f:T.get (T.set R A (one (((HP s ((DU fs m).getD Cf).ms).getD Sv).cells x))) A=_:=T.B4 ..;have g:T.get (T.set R A (one (((HP s ((DU fs m).getD Cf).ms).getD Sv).cells x))) n=_:=(T.Ac _ _ a6).trans V;unfold Bk.cells at f g⊢;simp only[go_sem,Nat.reduceAdd];rw[T.set_set];have K:(∀H' n' w,Kb b H n H' n'->gT G H' p w ((FP fs s st (cs.drop (i+1))).getD ((0,0),Sv)).2->k (.CV [((FP fs s st (cs.drop (i+1))).getD ((0,0),Sv)).1.v,w,.bool (FP fs s st (cs.drop (i+1))).isSome]) H' n')->
   I (.ptr t 0,s.v,.bool st,.ptr n 0,v,iN cs.length,iN (i+1),T.set R A (one (((HP s ((DU fs m).getD Cf).ms).getD Sv).cells x)),A+1):=λd=>by refine ih _ ⟨_,_,rfl,f9.trans' (m:=A+1) (λB E=>T.Ac _ _ a6) a6 u,a6,y.kp ((Kp.refl _ _).new _ o_ a6),(T.Ac _ _ a6).trans V,d⟩
  unfold Bk.cells at K;cases h1:HP s ((DU fs m).getD Cf).ms with
  |none=>
   rw[h1]at d f g K;simp only[_6,go_sem,Option.getD_none,CA (show i+1<9223372036854775808 by omega)];exact K d
  |some o=>
   rw[h1]at d f g K hx;simp only[_z]at f g K hx;simp only[_7,go_sem,_z,Nat.reduceAdd,AK (off:=1) f rfl,ASP];cases h2:o.st==st with
   |false=>
    simp only[h2,_j]at d;simp only[go_sem,CA (show i+1<9223372036854775808 by omega)];exact K d
   |true=>
    simp only[h2,_K]at d;simp only[go_sem];rw[MG (m:=5) g a6 rfl rfl];rw[By (m:=5) (T.B4 ..) a6 rfl];simp only[go_sem];have W:∀B,B<n->T.get (T.set (T.set R A (one [o.nm.v,.bool o.st,x,o.ret.nm.v,.bool o.ret.arr])) n (one [o.nm.v,.bool o.st,x,o.ret.nm.v,.bool o.ret.arr])) B=T.get R B:=λB E=>by rw[T.Ac _ _ a6,T.Ac _ _ a6]
    exact d _ _ _ (f9.trans' (m:=A+1) W a6 u) ⟨x,rfl,hx.ke ((Kp.ke (n:=p) (n':=p) ⟨ea _,λB E=>W B a6⟩))⟩
 .rintro I q ⟨H3,Y,rfl,f3,M,y,g3,d⟩;show CF lfp G (Runs F G) k I (.ptr t 0) s.v (.bool st) (.ptr n 0) v (iN cs.length) (iN cs.length) H3 Y;delta CF;rw[sw o_]at d;simp only[go_sem,Bf,m_,v_];delta Gt;simp only[jC,AJ];rw[MG (m:=5) g3 a6 rfl rfl,AZe,By (m:=5) (T.B4 ..) a6 rfl];simp only[go_sem];refine d _ _ _ (f3.trans' (m:=Y) (λB E=>?_) a6 u) AGs;rw[T.Ac _ _ a6]
def twin(a:Option St):List St->Bool
 |[]=>false
 |x::xs=>(match a with|some y=>decide (y.1=x.1/\y.2=x.2)|none=>false)||twin (some x) xs
abbrev AEp(fs:List BU):List St:=fs.map λf=>f.nm
abbrev AAO(fs:List Bk):List St:=fs.map λf=>f.nm
def twice(c:Fc):Bool:=twin none (AEp c.fs)||twin none (AAO c.ms)
abbrev AVC(a b:St):BM (.one .str) false a.v b.v=some (.bool (decide (a.1=b.1/\a.2=b.2))):=cK ..
abbrev AU9(i:Nat):B2.ev .gtr (iN i) (iN 0)=some (.bool (decide (0<i))):=V5 ..
abbrev AOt(O:RN G)(h:Jz G H n v c)(d:∀H' n',Kp H n H' n'->k (.bool (twice c)) H' n'):Runs F G rX [v] H n k:=by
 refine go1 (AAY Ae G) ?_;obtain⟨Z,vm,ws,h,rfl⟩:=h;delta qU;unfold twice at d;refine BE λm P W=>?_;have Q:=h.fs.kp P;have R:=h.ms.kp P;have X:AM (.ptr n 2) G m=some Z:=AK W rfl;have Y:AM (.ptr n 3) G m=some vm:=AK W rfl;have K:=Q.lt;have L:=R.lt;simp only[go_sem,Nat.reduceAdd,X,h.fs.len];have M:(∀H' n',Kp H n H' n'->k (.bool (twin none (AAO c.ms))) H' n')->Ot lfp G (Runs F G) k (.ptr n 0) m (n+1):=by
  intro d;delta Ot;simp only[go_sem,Nat.reduceAdd,Y,h.ms.len'];refine BL (N:=c.ms.length) (J:=λi q=>q=(.ptr n 0,iN c.ms.length,iN i,m,n+1)/\
   (k (.bool (twin (match i with|0=>none|i+1=>(AAO c.ms)[i]?) ((AAO c.ms).drop i))) m (n+1))) ?_ ?_ ⟨rfl,d _ _ P⟩
  .rintro I i q p ⟨rfl,d⟩ S;show K9 lfp G (Runs F G) k I (.ptr n 0) (iN c.ms.length) (iN i) m (n+1);delta K9;have f:i<(AAO c.ms).length:=by simpa using p
   rw[uv f,_B]at d;unfold twin at d;obtain⟨q,w,T,C,-⟩:=R.at p;have⟨q',D,y⟩:=Z0 O C rfl (o:=0) (x:=c.ms[i].nm.v) rfl;simp only[go_sem,Bf,p,_b,AU9];have next:(k (.bool (twin (some c.ms[i].nm) ((AAO c.ms).drop (i+1)))) m (n+1))->I (.ptr n 0,iN c.ms.length,iN (i+1),m,n+1):=λd=>by refine S _ ⟨rfl,?_⟩;show k (.bool (twin ((AAO c.ms)[i]?) _)) m (n+1);rw[eb f,_B];exact d
   cases i with
   |zero=>
    simp only[m_,v_,go_sem,CA (show 0+1<9223372036854775808 by omega)];exact next d
   |succ i=>
    have g:i<c.ms.length:=a6;obtain⟨r,w2,U,A,-⟩:=R.at g;have⟨r',E,u⟩:=Z0 O A rfl (o:=0) (x:=c.ms[i].nm.v) rfl;simp only[Nat.zero_lt_succ,_b,go_sem,Nat.reduceAdd,Y,AGY (show i+1<9223372036854775808 by unfold big at L;omega),U,E,u,T,D,y,AVC];have d:k (.bool (decide (c.ms[i].nm.1=c.ms[i+1].nm.1/\c.ms[i].nm.2=c.ms[i+1].nm.2)||twin (some c.ms[i+1].nm) ((AAO c.ms).drop (i+1+1)))) m (n+1):=by
     have e:(AAO c.ms)[i]? =some c.ms[i].nm:=by rw[pe,eb g];rfl
     simp only[e]at d;exact d
    cases e:decide (c.ms[i].nm.1=c.ms[i+1].nm.1/\c.ms[i].nm.2=c.ms[i+1].nm.2)with
    |true=>rw[e]at d;simp only[go_sem];exact d
    |false=>
     rw[e]at d;simp only[go_sem,CA (show i+1+1<9223372036854775808 by unfold big at L;omega)];exact next d
  .rintro I q ⟨rfl,d⟩;show K9 lfp G (Runs F G) k I (.ptr n 0) (iN c.ms.length) (iN c.ms.length) m (n+1);delta K9;rw[sw o6]at d;simp only[go_sem,Bf,m_,v_];delta T6;exact d
 generalize twin none (AAO c.ms)=B at d M;refine BL (N:=c.fs.length) (J:=λi q=>q=(.ptr n 0,iN c.fs.length,iN i,m,n+1)/\
  (∀H' n',Kp H n H' n'->k (.bool (twin (match i with|0=>none|i+1=>(AEp c.fs)[i]?) ((AEp c.fs).drop i)||B)) H' n')) ?_ ?_ ⟨rfl,d⟩
 .rintro I i q p ⟨rfl,d⟩ S;show Jj lfp G (Runs F G) k I (.ptr n 0) (iN c.fs.length) (iN i) m (n+1);delta Jj;have f:i<(AEp c.fs).length:=by simpa using p
  rw[uv f,_B]at d;unfold twin at d;have⟨q,T,C⟩:=Q.at p;have⟨q',D,y⟩:=Z0 O C rfl (o:=0) (x:=c.fs[i].nm.v) rfl;simp only[go_sem,Bf,p,_b,AU9];have next:(∀H' n',Kp H n H' n'->k (.bool (twin (some c.fs[i].nm) ((AEp c.fs).drop (i+1))||B)) H' n')->I (.ptr n 0,iN c.fs.length,iN (i+1),m,n+1):=λd=>by refine S _ ⟨rfl,?_⟩;show ∀H' n',Kp H n H' n'->k (.bool (twin ((AEp c.fs)[i]?) _||_)) H' n';rw[eb f,_B];exact d
  cases i with
  |zero=>
   simp only[m_,v_,go_sem,CA (show 0+1<9223372036854775808 by omega)];simp only[_P]at d;exact next d
  |succ i=>
   have g:i<c.fs.length:=a6;have⟨r,U,A⟩:=Q.at g;have⟨r',E,u⟩:=Z0 O A rfl (o:=0) (x:=c.fs[i].nm.v) rfl;simp only[Nat.zero_lt_succ,_b,go_sem,Nat.reduceAdd,X,AGY (show i+1<9223372036854775808 by unfold big at K;omega),U,E,u,T,D,y,AVC];have d:∀H' n',Kp H n H' n'->k (.bool ((decide (c.fs[i].nm.1=c.fs[i+1].nm.1/\c.fs[i].nm.2=c.fs[i+1].nm.2)||twin (some c.fs[i+1].nm) ((AEp c.fs).drop (i+1+1)))||B)) H' n':=by
    have e:(AEp c.fs)[i]? =some c.fs[i].nm:=by rw[pe,eb g];rfl
    simp only[e]at d;exact d
   cases e:decide (c.fs[i].nm.1=c.fs[i+1].nm.1/\c.fs[i].nm.2=c.fs[i+1].nm.2)with
   |true=>rw[e]at d;simp only[go_sem];exact d _ _ P
   |false=>
    rw[e]at d;simp only[go_sem,CA (show i+1+1<9223372036854775808 by unfold big at K;omega)];exact next d
 .rintro I q ⟨rfl,d⟩;show Jj lfp G (Runs F G) k I (.ptr n 0) (iN c.fs.length) (iN c.fs.length) m (n+1);delta Jj;rw[sw o6]at d;simp only[go_sem,Bf,m_,v_];exact M d
structure ATF(G:AQ)(H:Heap)(n m:Nat)(v:V)(cs:List Fc):Prop where
 is:∃LS:Bh,El G H v 4 LS/\LS.length=cs.length/\∀(i:Nat) (L:LV) (c:Fc),LS[i]? =some L->cs[i]? =some c->Jz G H m (.agg L) c
 lo:Lo v n
 lt:cs.length<=1000
 mn:m<=n
def xT(fs:Tab):b9->Tab
 |[]=>fs
 |c::cs=>xT (Sr c.nm c fs) cs
def Ef(cs:b9):Tab:=xT [] cs
abbrev jf.put{ps:List (St×V)}(q:qc H a ps)(f:keyed ps fs)(k:∀s v c,DU ps s=some v->DU fs s=some c->Jz G H' n v c)(m:qc H' a (Sr c.nm v ps))(p:Jz G H' n v c):
 jf G H' n a (Sr c.nm c fs):=
 ⟨_,m,AA1 _ _ _ f,λs w d g i=>by
  rw[AUi]at g i;by_cases e:c.nm=s
  .rw[hD e]at g i;cases g;cases i;exact p
  .rw[g_ e]at g i;exact k _ _ _ g i⟩
abbrev Jz.up(h:Jz G H n v c)(d:n<=n'):Jz G H n' v c:=h.ke ⟨d,λ_ _ _ _ h=>h⟩
variable{cs:List Fc}
abbrev AWw{cs:b9}(h:ATF G H n m v cs)
 (hk:∀H' n' t a b,Kp H n H' n'->T.get H' t=some (one [.map a,.map b])->jf G H' m a (Ef cs)->E1 H' b->n<=a->a<b->b<t->t<n'->k (.ptr t 0) H' n'):Runs F G xm [v] H n k:=by
 refine go1 (AEl Ae G) ?_;delta zP;have⟨⟨LS,p,u,Q⟩,R,d1,w⟩:=h;simp only[AQK,go_sem,Nat.reduceAdd,show BT [V.AEe,.AEe] [(0,1,.c (.map n)),(1,1,.c (.map (n+1)))]=some (.agg [.map n,.map (n+1)])from rfl,p.len,u];have f1:Kp H n (T.set (T.set (T.set H n (.map [] 0)) (n+1) (.map [] 0)) (n+1+1) (one [.map n,.map (n+1)])) (n+1+1+1):=((((Kp.refl H n).new (m:=n+1) _ o_ a6).new (m:=n+1+1) _ a6 a6).new _ a6 a6);refine BL (N:=cs.length) (J:=λi q=>∃H' n' fs,q=(.ptr (n+1+1) 0,v,iN cs.length,iN i,H',n')/\Kp H n H' n'/\n+1+1<n'/\T.get H' (n+1+1)=some (one [.map n,.map (n+1)])/\jf G H' m n fs/\E1 H' (n+1)/\
  xT fs (cs.drop i)=Ef cs) ?_ ?_ ⟨_,_,[],rfl,f1,a6,T.B4 ..,⟨[],⟨[],0,by rw[T.Ac _ _ a6,T.Ac _ _ a6,T.B4],rfl⟩,rfl,λs v c h=>by cases h⟩,⟨[],[],0,by rw[T.Ac _ _ a6,T.B4],rfl⟩,rfl⟩
 .rintro I i q S ⟨A,B,fs,rfl,f3,U,M,g,W,d⟩ ih;show OW lfp G (Runs F G) k I (.ptr (n+1+1) 0) v (iN cs.length) (iN i) A B;delta OW;have⟨q,hp,C⟩:=(p.kp R f3).at (i:=i) (c:=LS[i]'a6) (eb _);have O:=Q i _ _ (eb a6) (eb S);rw[uv S]at d;unfold xT at d;generalize cs[i]=fc at O d;have⟨X,Y,ws,O,e⟩:=O;have e':LS[i]'a6=[fc.nm.v,fc.sup.v,X,Y]:=by injection e
  rw[e']at C;simp only[go_sem,Bf,S,_b,hp,BZ C,Nat.reduceAdd];rw[T.set_set];rw[show AM (.ptr (n+1+1) 0) G (T.set A B (one [fc.nm.v,fc.sup.v,X,Y]))=some (.map n)from AK ((T.Ac _ _ a6).trans M) rfl];have⟨ps,D,E,K⟩:=g.is;simp only[go_sem];refine AJD (xu D (T.Ac _ _ a6)) fc.nm _ λZ d0 f=>?_;simp only[go_sem,CA (show i+1<9223372036854775808 by omega)];have f4:Kp H n Z (B+1):=⟨a6,λP L=>by rw[f P a6,T.Ac _ _ a6];exact f3.same P L⟩;have f5:Kp A n Z n:=⟨ea _,λP L=>by rw[f P a6,T.Ac _ _ a6]⟩;refine ih _ ⟨Z,_,Sr fc.nm fc fs,rfl,f4,a6,?_,jf.put D E (λs v c x y=>(K s v c x y).ke (f5.ke.low w)) d0 ⟨X,Y,ws,O.ke ((f4.ke).low w),rfl⟩,?_,d⟩
  .rw[f _ a6,T.Ac _ _ a6];exact M
  .exact W.same (by rw[f _ a6,T.Ac _ _ a6])
 .rintro I q ⟨A,B,fs,rfl,f3,U,M,g,W,d⟩;show OW lfp G (Runs F G) k I (.ptr (n+1+1) 0) v (iN cs.length) (iN cs.length) A B;delta OW;simp only[go_sem,Bf,m_,v_];delta Yw;rw[sw o_]at d;have d:fs=Ef cs:=d;subst d;exact hk _ _ _ n (n+1) f3 M g W a6 a6 a6 a6
def ABt(fs:Tab)(sup:St)(m:Bk):Bool:=match Cq fs sup m.nm false with
 |some o=> !m.st&& !m.same o.2
 |none=>false
def OB(fs:Tab)(sup:St):aAF->Int
 |[]=>0
 |m::ms=>bif !((m.ret::m.ps).all (BD fs))then 23 else bif ABt fs sup m then 27 else OB fs sup ms
def mO(fs:Tab)(sup:St)(r:Int):aAm->Int
 |[]=>r
 |f::l=>bif !([f.ty].all (BD fs))then 23 else bif (QU fs sup f.nm).isSome then 6 else mO fs sup r l
structure AIQ(G:AQ)(H0:Heap)(n0:Nat)(H:Heap)(n t a b e:Nat)(fs:Tab)(c:Fc)(vf vm:V)(ws:List V):Prop where
 f:Kb b H0 n0 H n
 en:e<n
 e0:n0<=e
 g:T.get H e=some (one [c.nm.v,c.sup.v,vf,vm])
variable{H0:Heap}{e:Nat}{u:V}
abbrev ACt(h:TabAt G H0 n0 t a b fs)(d2:fs.length<=1000){S:V}{ws:aAo}(E:AIQ G H0 n0 H n t a b e fs c S u ws)
 (hf:Vk G H0 n0 [c.nm.v,c.sup.v,S,u] c S u ws) (O:∀m∈c.ms,m.ps.length<=100000) (d:∀H' n',Kb b H0 n0 H' n'->k (.int .i64 (OB fs c.sup c.ms) 0) H' n'):
 Gq lfp G (Runs F G) k (.ptr t 0) (.ptr e 0) H n:=by
 delta Gq;have A:=hf.ms.lt;have g2:=h.bn;simp only[go_sem,Nat.reduceAdd,AK (off:=3) E.g (v:=u) rfl,hf.ms.len'];refine BL (N:=c.ms.length) (J:=λi q=>∃H' n',q=(.ptr t 0,.ptr e 0,u,iN c.ms.length,iN i,H',n')/\AIQ G H0 n0 H' n' t a b e fs c S u ws/\
  (∀H' n',Kb b H0 n0 H' n'->k (.int .i64 (OB fs c.sup (c.ms.drop i)) 0) H' n')) ?_ ?_ ⟨H,n,rfl,E,d⟩
 .rintro I i q B ⟨K,p,rfl,E,d⟩ ih;show EP lfp G (Runs F G) k I (.ptr t 0) (.ptr e 0) u (iN c.ms.length) (iN i) K p;delta EP;have f3:=E.f;have d3:=E.en;have d4:=E.e0;have d5:IW G K n0 u c.ms ws:=hf.ms.ke ((f3.ke h.seen).low o_);have⟨q,w,hp,P,hw⟩:=d5.at B;have O:=O _ (f_ B);have U:=hf.ms.ok _ (f_ B);rw[uv B]at d;unfold OB at d;generalize c.ms[i]=m at P d hw O U;unfold Bk.cells at P;simp only[go_sem,Bf,B,_b,hp,BZ P,Nat.reduceAdd];rw[T.set_set];have g4:=T.B4 K p (one [m.nm.v,.bool m.st,w,m.ret.nm.v,.bool m.ret.arr]);have f4:Kp K p (T.set K p (one [m.nm.v,.bool m.st,w,m.ret.nm.v,.bool m.ret.arr])) (p+1):=(Kp.refl _ _).new _ o_ a6;generalize T.set K p (one [m.nm.v,.bool m.st,w,m.ret.nm.v,.bool m.ret.arr])=H4 at f4 g4;rw[show AX 2 (.ptr p 3) G H4=some (.agg m.ret.cells)from BV g4 a6 (by show 5<=5;omega)];simp only[go_sem,Nat.reduceAdd];rw[AHQ (z:=2) (L:=m.ret.cells) rfl];have C:=T.B4 H4 (p+1) (.arr 2 1 (T.set (T.set .e 0 [.str 0 0,.bool false]) 0 m.ret.cells));have W:Kp H4 (p+1) (T.set H4 (p+1) (.arr 2 1 (T.set (T.set .e 0 [.str 0 0,.bool false]) 0 m.ret.cells))) (p+1+1):=(Kp.refl _ _).new _ o_ a6;generalize T.set H4 (p+1) (.arr 2 1 (T.set (T.set .e 0 [.str 0 0,.bool false]) 0 m.ret.cells))=H5 at W C;have g5:=W.get g4 a6;have d6:=xS (G:=G) a6 (show m.ret.cells.length=2 from rfl) C;have d7:=f3.trans ((f4.trans W).kb (b:=b) a6);have d8:=hw.ke (((f4.trans W).ke).low (m:=n0) a6);simp only[go_sem,AK (off:=2) g5 (v:=w) rfl];refine APr a6 C a6 d6.2 d8.el.2 (by rw[pw];omega) λv6 H6 n6 X d9 f0 Y=>?_;have f6:Kp H5 (p+1+1) H6 n6:=⟨f0,d9⟩;have Z:=d7.trans (f6.kb (b:=b) a6);have g6:=f6.get g5 a6;refine bN (xs:=m.ret::m.ps) (h.kb Z) ⟨X,Y,by simp[big];omega,?_⟩ λH7 n7 f7=>?_
  .intro x hx;rcases qk.1 hx with rfl|hx
   .exact U.2
   .exact hw.ok _ hx
  have Q:=Z.trans f7;have g3:=f7.le;have g7:=f7.get g6 a6 a6;simp only[go_sem,Nat.reduceAdd,Bw];cases h1:(m.ret::m.ps).all (BD fs)with
  |false=>
   rw[h1]at d;simp only[l_,_K]at d;simp only[l_,go_sem];exact d _ _ Q
  |true=>
   rw[h1]at d;simp only[k_,_j]at d;have fe:Kb b K p H7 n7:=((f4.trans (W.trans f6)).kb (b:=b) a6).trans f7;have ge:T.get H7 e=some (one [c.nm.v,c.sup.v,S,u]):=fe.get E.g d3 a6;simp only[k_,go_sem,Nat.reduceAdd,AK (off:=1) ge (v:=c.sup.v) rfl,AK (off:=0) g7 (v:=m.nm.v) rfl];refine AEO (c:=c.sup) (s:=m.nm) (st:=false) (h.kb Q) d2 λR M x f8 hx=>?_;have d0:=Q.trans f8;have i0:=f8.le;have g8:=f8.get g7 a6 a6;have f1:gT G R n7 (.agg (m.cells w)) m:=⟨w,rfl,(hw.ke (((fe.trans f8).ke (f3.seen h.seen)).low (m:=n0) a6)).ke ⟨a6,λ_ _ _ _ h=>h⟩⟩;obtain⟨y,rfl,hy⟩:=hx;unfold ABt at d;have next:∀H' n',Kb b R M H' n'->(∀H' n',Kb b H0 n0 H' n'->k (.int .i64 (OB fs c.sup (c.ms.drop (i+1))) 0) H' n')->I (.ptr t 0,.ptr e 0,u,iN c.ms.length,iN (i+1),H',n'):=λH' n' f d=>
    ih _ ⟨_,_,rfl,⟨d0.trans f,hN f.le,d4,f.get (f8.get ge a6 a6) a6 a6⟩,d⟩
   simp only[go_sem,Nat.reduceAdd];have g9:=T.B4 R M (one (((Cq fs c.sup m.nm false).getD ((0,0),Sv)).2.cells y));have D:Kp R M (T.set R M (one (((Cq fs c.sup m.nm false).getD ((0,0),Sv)).2.cells y))) (M+1):=(Kp.refl _ _).new _ o_ a6;unfold Bk.cells at g9 D⊢;simp only[go_sem,Nat.reduceAdd];rw[T.set_set];cases h2:Cq fs c.sup m.nm false with
   |none=>
    rw[h2]at d D;simp only[_j]at d;simp only[_6,go_sem,CA (show i+1<9223372036854775808 by unfold big at A;omega)];exact next _ _ (D.kb a6) d
   |some o=>
    rw[h2]at d D g9 hy;simp only[_z]at D g9 hy;simp only[_7,_z];generalize T.set R M (one [o.2.nm.v,.bool o.2.st,y,o.2.ret.nm.v,.bool o.2.ret.arr])=H9 at D g9;have gm:=D.get g8 a6;simp only[go_sem,Nat.reduceAdd,AK (off:=1) gm (v:=.bool m.st) rfl,Bw];cases h3:m.st with
    |true=>
     rw[h3]at d;simp only[k_,J',_j]at d;simp only[k_,go_sem,CA (show i+1<9223372036854775808 by unfold big at A;omega)];exact next _ _ (D.kb a6) d
    |false=>
     rw[h3]at d;simp only[l_,_']at d;simp only[l_,go_sem,As (m:=5) gm a6 rfl,As (m:=5) g9 a6 rfl];have f2:gT G H9 (M+1) (.agg [m.nm.v,.bool m.st,w,m.ret.nm.v,.bool m.ret.arr]) m:=f1.ke ⟨a6,λv z LS hl he=>(D.ke).el v z LS (hl.mono a6) he⟩;have g0:gT G H9 (M+1) (.agg [o.2.nm.v,.bool o.2.st,y,o.2.ret.nm.v,.bool o.2.ret.arr]) o.2:=⟨y,rfl,hy.ke ⟨a6,λv z LS hl he=>(D.ke).el v z LS (hl.mono a6) he⟩⟩;refine uZ f2 g0 λi1 i2 g1=>?_;have d1:=(D.trans g1).kb (b:=b) a6;simp only[go_sem,Bw];cases h4:m.same o.2 with
     |false=>
      rw[h4]at d;simp only[l_,_K]at d;simp only[l_,go_sem];exact d _ _ (d0.trans d1)
     |true=>
      rw[h4]at d;simp only[k_,_j]at d;simp only[k_,go_sem,CA (show i+1<9223372036854775808 by unfold big at A;omega)];exact next _ _ d1 d
 .rintro I q ⟨K,p,rfl,E,d⟩;show EP lfp G (Runs F G) k I (.ptr t 0) (.ptr e 0) u (iN c.ms.length) (iN c.ms.length) K p;delta EP;rw[sw o_]at d;simp only[go_sem,Bf,m_,v_];delta KD;exact d _ _ E.f
abbrev AD8(h:TabAt G H0 n0 t a b fs)(E:fs.length<=1000){K:V}{ws:aAo}(A:AIQ G H0 n0 H n t a b e fs c u K ws)
 (R:Vk G H0 n0 [c.nm.v,c.sup.v,u,K] c u K ws) (W:∀m∈c.ms,m.ps.length<=100000) (d:∀H' n',Kb b H0 n0 H' n'->k (.int .i64 (mO fs c.sup (OB fs c.sup c.ms) c.fs) 0) H' n'):
 lfp (V×V×V×V×V×Heap×Nat) (JP lfp G (Runs F G) k) (.ptr t 0,.ptr e 0,u,iN c.fs.length,iN 0,H,n):=by
 have M:=R.fs.lt;have d3:=h.bn;refine BL (N:=c.fs.length) (J:=λi q=>∃H' n',q=(.ptr t 0,.ptr e 0,u,iN c.fs.length,iN i,H',n')/\AIQ G H0 n0 H' n' t a b e fs c u K ws/\
  (∀H' n',Kb b H0 n0 H' n'->k (.int .i64 (mO fs c.sup (OB fs c.sup c.ms) (c.fs.drop i)) 0) H' n')) ?_ ?_ ⟨H,n,rfl,A,d⟩
 .rintro I i q w ⟨y,p,rfl,A,d⟩ ih;show Ea lfp G (Runs F G) k I (.ptr t 0) (.ptr e 0) u (iN c.fs.length) (iN i) y p;delta Ea;have f3:=A.f;have X:=A.en;have Y:=A.e0;have Z:O3 G y n0 u c.fs:=R.fs.ke ((f3.ke h.seen).low o_);have⟨q,hp,C⟩:=Z.at w;have O:=R.fs.ok _ (f_ w);rw[uv w]at d;unfold mO at d;generalize c.fs[i]=m at C d O;unfold BU.cells at C;simp only[go_sem,Bf,w,_b,hp,BZ C,Nat.reduceAdd];rw[T.set_set];have g4:=T.B4 y p (one [m.nm.v,m.ty.nm.v,.bool m.ty.arr]);have f4:Kp y p (T.set y p (one [m.nm.v,m.ty.nm.v,.bool m.ty.arr])) (p+1):=(Kp.refl _ _).new _ o_ a6;generalize T.set y p (one [m.nm.v,m.ty.nm.v,.bool m.ty.arr])=H4 at f4 g4;rw[show AX 2 (.ptr p 1) G H4=some (.agg m.ty.cells)from BV g4 a6 (by show 3<=3;omega)];simp only[go_sem,Nat.reduceAdd];rw[AHQ (z:=2) (L:=m.ty.cells) rfl];have B:=T.B4 H4 (p+1) (.arr 2 1 (T.set (T.set .e 0 [.str 0 0,.bool false]) 0 m.ty.cells));have S:Kp H4 (p+1) (T.set H4 (p+1) (.arr 2 1 (T.set (T.set .e 0 [.str 0 0,.bool false]) 0 m.ty.cells))) (p+1+1):=(Kp.refl _ _).new _ o_ a6;generalize T.set H4 (p+1) (.arr 2 1 (T.set (T.set .e 0 [.str 0 0,.bool false]) 0 m.ty.cells))=H5 at S B;have g5:=S.get g4 a6;have d0:=xS (G:=G) a6 (show m.ty.cells.length=2 from rfl) B;have P:=f3.trans ((f4.trans S).kb (b:=b) a6);refine bN (xs:=[m.ty]) (h.kb P) ⟨d0,λid d1=>by cases d1;omega,by show 1<big;decide,?_⟩ λH7 n7 U=>?_
  .intro x hx;simp at hx;subst hx;exact O.2
  have D:=P.trans U;have d4:=U.le;have g7:=U.get g5 a6 a6;simp only[go_sem,Nat.reduceAdd,Bw];cases h1:[m.ty].all (BD fs)with
  |false=>
   rw[h1]at d;simp only[l_,_K]at d;simp only[l_,go_sem];exact d _ _ D
  |true=>
   rw[h1]at d;simp only[k_,_j]at d;have fe:Kb b y p H7 n7:=((f4.trans S).kb (b:=b) a6).trans U;have ge:T.get H7 e=some (one [c.nm.v,c.sup.v,u,K]):=fe.get A.g X a6;simp only[k_,go_sem,Nat.reduceAdd,AK (off:=1) ge (v:=c.sup.v) rfl,AK (off:=0) g7 (v:=m.nm.v) rfl];refine AIh (c:=c.sup) (s:=m.nm) (h.kb D) E λH8 n8 f8=>?_;have d2:=D.trans f8;have d5:=f8.le;unfold Ty.v Ty.cells;simp only[go_sem,Nat.reduceAdd];rw[T.set_set];have f9:Kp H8 n8 (T.set H8 n8 (one [((QU fs c.sup m.nm).getD ((0,0),Vq)).2.nm.v,.bool ((QU fs c.sup m.nm).getD ((0,0),Vq)).2.arr])) (n8+1):=(Kp.refl _ _).new _ o_ a6;have Q:=d2.trans (f9.kb (b:=b) a6);cases h2:(QU fs c.sup m.nm).isSome with
   |true=>
    rw[h2]at d;simp only[_K]at d;simp only[go_sem];exact d _ _ Q
   |false=>
    rw[h2]at d;simp only[_j]at d;simp only[go_sem,CA (show i+1<9223372036854775808 by unfold big at M;omega)];exact ih _ ⟨_,_,rfl,⟨Q,a6,Y,f9.get (f8.get ge a6 a6) a6⟩,d⟩
 .rintro I q ⟨y,p,rfl,A,d⟩;show Ea lfp G (Runs F G) k I (.ptr t 0) (.ptr e 0) u (iN c.fs.length) (iN c.fs.length) y p;delta Ea;rw[sw o_]at d;simp only[go_sem,Bf,m_,v_];exact ACt h E A R W d
theorem AAp:∀(m:Nat) (fs:Tab) (out:List St) (s:St),out.length<=(HH m fs out s).1.length
 |0,_,_,_=>Nat.le_refl _
 |m+1,fs,out,s=>by
  unfold HH
  cases decide (s.1=0/\s.2=0)with
  |true=>exact Nat.le_refl _
  |false=>
   simp only[cond_false]
   cases DU fs s with
   |none=>exact Nat.le_refl _
   |some c=>
    show _<=(bif iP s out then(out,false)else HH m fs (out++[s]) c.sup).1.length
    cases iP s out with
    |true=>exact Nat.le_refl _
    |false=>have:=AAp m fs (out++[s]) c.sup;simp only[List.length_append,List.length_singleton]at this;simp only[cond_false];omega
abbrev AJd(h:DU fs s=some c)(d:¬(s.1=0/\s.2=0)):1<=(above fs s).1.length:=by unfold above HH;rw[eg d,h];show 1<=(HH fs.length fs [s] c.sup).1.length;exact AAp fs.length fs [s] c.sup
def lastOf(xs:List St):St:=(xs[xs.length-1]?).getD (0,0)
def Cj(fs:Tab)(s:St):Int:=match DU fs s with
 |none=>23
 |some c=>bif decide (s.1=0/\s.2=0)then 23 else
  bif !(above fs s).2&& !iP ((DU fs (lastOf (above fs s).1)).getD Cf).sup (above fs s).1 then 23 else
  bif !(above fs s).2 then 26 else bif twice c then 6 else mO fs c.sup (OB fs c.sup c.ms) c.fs
abbrev APk(hG:RN G)(h:TabAt G H n t a b fs)(I:fs.length<=1000)(d0:∀s c,DU fs s=some c->∀m∈c.ms,m.ps.length<=100000)
 (d:∀H' n',Kb b H n H' n'->k (.int .i64 (Cj fs s) 0) H' n'):Runs F G VY [.ptr t 0,s.v] H n k:=by
 refine go2 (lZ Ae G) ?_;delta Wg;have d6:=h.bn;unfold Cj at d;refine fV (s:=s) h o_ λJ D w K i=>?_;obtain⟨E,L,ws,i,rfl⟩:=i;have p:=K.le;simp only[go_sem,Nat.reduceAdd,Bw];rw[T.set_set];have W:=T.B4 J D (one [((DU fs s).getD Cf).nm.v,((DU fs s).getD Cf).sup.v,E,L]);have M:Kp J D (T.set J D (one [((DU fs s).getD Cf).nm.v,((DU fs s).getD Cf).sup.v,E,L])) (D+1):=(Kp.refl _ _).new _ o_ a6;have g:=K.trans (M.kb (b:=b) a6);cases X:DU fs s with
 |none=>
  rw[X]at d g;simp only[_6,l_,go_sem];exact d _ _ g
 |some c=>
  rw[X]at d g W M i;simp only[_z]at d g W M i;simp only[_7,k_,go_sem,_z,show BM (.one .str) false s.v (.str 0 0)=some (.bool (decide (s.1=0/\s.2=0)))from cK ..];cases h0:decide (s.1=0/\s.2=0)with
  |true=>
   rw[h0]at d;simp only[go_sem];exact d _ _ g
  |false=>
   rw[h0]at d;simp only[_j]at d;simp only[go_sem];generalize T.set J D (one [c.nm.v,c.sup.v,E,L])=H2 at g W M;refine pz (s:=s) (h.kb g) I λH3 n3 v f3 ho N=>?_;have O:=AJd X (_w h0);generalize(above fs s).1=up at ho N O d;generalize(above fs s).2=whole at d;have P:=g.trans f3;have d7:=f3.le;have g3:=f3.get W a6 a6;have Q:=ho.el a6;obtain⟨m,hm⟩:∃m,up.length=m+1:=⟨up.length-1,a6⟩;have R:m<up.length:=a6;have⟨q,hp,d1⟩:=Q.at (jk R);have u:lastOf up=up[m]:=by unfold lastOf;rw[show up.length-1=m by omega,eb R];rfl
   simp only[go_sem,Q.len,Mo,hm,AGY (show m+1<9223372036854775808 by omega),hp,OE d1];rw[<-u];refine fV (s:=lastOf up) (h.kb P) o_ λY x w S y=>?_;obtain⟨A,B,vG,y,rfl⟩:=y;have d2:=P.trans S;have d8:=S.le;have g4:=S.get g3 a6 a6;have d3:=ho.kb S a6;simp only[go_sem,Nat.reduceAdd,Bw];rw[T.set_set];generalize(DU fs (lastOf up)).getD Cf=lc at y d;have g5:=T.B4 Y x (one [lc.nm.v,lc.sup.v,A,B]);have U:Kp Y x (T.set Y x (one [lc.nm.v,lc.sup.v,A,B])) (x+1):=(Kp.refl _ _).new _ o_ a6;generalize T.set Y x (one [lc.nm.v,lc.sup.v,A,B])=H5 at g5 U;have C:=d2.trans (U.kb (b:=b) a6);have ge:=U.get g4 a6;cases whole with
   |false=>
    simp only[l_,_']at d;simp only[l_,go_sem,Nat.reduceAdd,AK (off:=1) g5 (v:=lc.sup.v) rfl];refine nl (s:=lc.sup) (xs:=up) ((d3.kp U).el a6) a6 ?_;simp only[go_sem,Bw];cases h6:iP lc.sup up with
    |false=>
     rw[h6]at d;simp only[l_,_K]at d;simp only[l_,go_sem];exact d _ _ C
    |true=>
     rw[h6]at d;simp only[k_,_j,_K]at d;simp only[k_,go_sem];exact d _ _ C
   |true=>
    simp only[k_,J',_j]at d;have fe:Kb b J D H5 (x+1):=(M.kb a6).trans (f3.trans (S.trans (U.kb a6)));simp only[k_,go_sem];rw[As (m:=4) ge a6 rfl,AJ];have d4:Jz G H5 (x+1) (.agg [c.nm.v,c.sup.v,E,L]) c:=⟨E,L,ws,(i.ke ((fe.ke (K.seen h.seen)).low p)).ke ⟨a6,λ_ _ _ _ h=>h⟩,rfl⟩;refine AOt hG d4 λH6 n6 Z=>?_;have d5:=C.trans (Z.kb (b:=b) a6);have d9:=Z.le;cases h7:twice c with
    |true=>
     rw[h7]at d;simp only[_K]at d;simp only[go_sem];exact d _ _ d5
    |false=>
     rw[h7]at d;simp only[_j]at d;have V:=Z.get ge a6;simp only[go_sem,Nat.reduceAdd,AK (off:=2) V (v:=E) rfl,i.fs.len];exact AD8 (h.kb (K.low o_)) I ⟨(fe.trans (Z.kb a6)).AWh p,a6,p,V⟩ i (d0 s c X) λH' n' f=>d _ _ ((K.low o_).trans f)
structure NK(G:AQ)(H:Heap)(n i t a b fm:Nat)(vn:V)(fs:Tab):Prop where
 iN:i<n
 ib:i≠b
 at':T.get H i=some (one [.ptr t 0,.map fm,vn])
 tab:TabAt G H n t a b fs
variable{i:Nat}{fm:Nat}{vn:V}
abbrev NK.kb(h:NK G H n i t a b fm vn fs)(f:Kb b H n H' n'):NK G H' n' i t a b fm vn fs:=
 ⟨b_ h.iN f.le,h.ib,f.get h.at' h.iN h.ib,h.tab.kb f⟩
def PMV(G:AQ)(H:Heap)(n:Nat)(v:V)(p:PM):Prop:=∃w,v=.agg (p.cells w)/\Ji G H n w p.m.ps
def AGn(fs:Tab)(p:PM):List St->Option St
 |[]=>none
 |c::cs=>match HP p.m.nm ((DU fs c).getD Cf).ms with
  |some o=>bif o.same p.m then some c else AGn fs p cs
  |none=>AGn fs p cs
def ARQ(fs:Tab)(p:PM):Option St:=AGn fs p (above fs p.own).1
abbrev j4(h:NK G H n i t a b fm vn fs)(d0:fs.length<=1000){p:PM}(hp:PMV G H n v p)
 (d:∀H' n',Kb b H n H' n'->k (.CV [((ARQ fs p).getD (0,0)).v,.bool (ARQ fs p).isSome]) H' n'):Runs F G Kf [.ptr i 0,v] H n k:=by
 refine go2 (Of Ae G) ?_;obtain⟨w,rfl,hw⟩:=hp;delta LR;have d1:=h.tab.bn;unfold ARQ at d;refine BE λH1 f1 g1=>?_;have L:=f1.kb (b:=b) d1;have M:=h.kb L;unfold PM.cells at g1;simp only[go_sem,Nat.reduceAdd,AK (off:=0) M.at' (v:=.ptr t 0) rfl,AK (off:=5) g1 (v:=p.own.v) rfl];refine pz (s:=p.own) M.tab d0 λH2 n2 x f2 D O=>?_;generalize(above fs p.own).1=cs at D d O;have f3:=L.trans f2;have g2:=f2.get g1 a6 a6;have d5:=f2.le;simp only[go_sem,(D.el a6).len,Mo];refine BL (N:=cs.length) (J:=λj q=>∃H' n',q=(.ptr i 0,.ptr n 0,x,iN cs.length,iN j,H',n')/\Kb b H n H' n'/\n<n'/\Own G H' (n+1) n' 1 x (strs cs)/\T.get H' n=some (one [p.m.nm.v,.bool p.m.st,w,p.m.ret.nm.v,.bool p.m.ret.arr,p.own.v])/\
  (∀H' n',Kb b H n H' n'->k (.CV [((AGn fs p (cs.drop j)).getD (0,0)).v,.bool (AGn fs p (cs.drop j)).isSome]) H' n')) ?_ ?_ ⟨H2,n2,rfl,f3,a6,D,g2,d⟩
 .rintro I j q E ⟨W,X,rfl,f3,B,D,Y,d⟩ ih;show DM lfp G (Runs F G) k I (.ptr i 0) (.ptr n 0) x (iN cs.length) (iN j) W X;delta DM;have h3:=h.kb f3;have⟨q,hp,P⟩:=(D.el a6).at (jk E);rw[uv E]at d;unfold AGn at d;generalize cs[j]=m at P d;simp only[go_sem,Bf,E,_b,hp,OE P,Nat.reduceAdd,AK (off:=0) h3.at' (v:=.ptr t 0) rfl];refine fV (s:=m) (n0:=n) (h.tab.kb (f3.low o_)) a6 λH4 Q y Z R=>?_;obtain⟨vf,vm,ws,R,rfl⟩:=R;have f5:=f3.trans Z;have d6:=Z.le;simp only[go_sem,Nat.reduceAdd];rw[T.set_set];have f6:Kp H4 Q (T.set H4 Q (one [((DU fs m).getD Cf).nm.v,((DU fs m).getD Cf).sup.v,vf,vm])) (Q+1):=(Kp.refl _ _).new _ o_ a6;generalize T.set H4 Q (one [((DU fs m).getD Cf).nm.v,((DU fs m).getD Cf).sup.v,vf,vm])=H6 at f6;have S:=f6.kb (b:=b) a6;have g6:=S.get (Z.get Y B a6) a6 a6;rw[show AM (.ptr n 0) G H6=some p.m.nm.v from AK g6 rfl,AJ];refine sF (s:=p.m.nm) (n:=Q+1) (n0:=n) (v:=.agg [((DU fs m).getD Cf).nm.v,((DU fs m).getD Cf).sup.v,vf,vm]) (c:=(DU fs m).getD Cf) ⟨vf,vm,ws,R.ke ((f6.ke).low a6),rfl⟩ a6 λH8 K y f8 R=>?_;have d2:=f8.kb (b:=b) a6;have C:=Z.trans (S.trans d2);have f9:=f3.trans C;have d7:=f8.le;have D:=D.kb C a6;have d3:=C.get Y B a6;obtain⟨z,rfl,hz⟩:=R;have A:=T.B4 H8 K (one (((HP p.m.nm ((DU fs m).getD Cf).ms).getD Sv).cells z));have g:Kp H8 K (T.set H8 K (one (((HP p.m.nm ((DU fs m).getD Cf).ms).getD Sv).cells z))) (K+1):=(Kp.refl _ _).new _ o_ a6;unfold Bk.cells at A g⊢;simp only[go_sem,Nat.reduceAdd];rw[T.set_set];have u:=C.trans (g.kb (b:=b) a6);have next:∀H' n',Kb b W X H' n'->(∀H' n',Kb b H n H' n'->k (.CV [((AGn fs p (cs.drop (j+1))).getD (0,0)).v,.bool (AGn fs p (cs.drop (j+1))).isSome]) H' n')->I (.ptr i 0,.ptr n 0,x,iN cs.length,iN (j+1),H',n'):=λH' n' f d=>
   ih _ ⟨_,_,rfl,f3.trans f,hN f.le,Own.kb (by assumption) f a6,f.get Y B a6,d⟩
  cases M:HP p.m.nm ((DU fs m).getD Cf).ms with
  |none=>
   rw[M]at d u;simp only[_6,go_sem,CA (show j+1<9223372036854775808 by omega)];exact next _ _ u d
  |some o=>
   rw[M]at d g u A hz;simp only[_z]at g u A hz;simp only[_7,_z];generalize T.set H8 K (one [o.nm.v,.bool o.st,z,o.ret.nm.v,.bool o.ret.arr])=H12 at g u A;have gp:=g.get d3 a6;simp only[go_sem,Nat.reduceAdd,As (m:=5) A a6 rfl,show AX 5 (.ptr n 0) G H12=some (.agg [p.m.nm.v,.bool p.m.st,w,p.m.ret.nm.v,.bool p.m.ret.arr])from BV gp a6 (by show 5<=6;omega)];have s1:gT G H12 (K+1) (.agg [o.nm.v,.bool o.st,z,o.ret.nm.v,.bool o.ret.arr]) o:=⟨z,rfl,(hz.ke ((g.ke).low a6)).ke ⟨a6,λ_ _ _ _ h=>h⟩⟩;have s2:gT G H12 (K+1) (.agg [p.m.nm.v,.bool p.m.st,w,p.m.ret.nm.v,.bool p.m.ret.arr]) p.m:=⟨w,rfl,(hw.ke (((f3.trans u).ke h.tab.seen).low o_)).ke ⟨a6,λ_ _ _ _ h=>h⟩⟩;refine uZ s1 s2 λd8 d9 d4=>?_;have U:=u.trans (d4.kb (b:=b) a6);cases h2:o.same p.m with
   |true=>
    simp only[h2,_K]at d;simp only[go_sem];exact d _ _ (f3.trans U)
   |false=>
    simp only[h2,_j]at d;simp only[go_sem,CA (show j+1<9223372036854775808 by omega)];exact next _ _ U d
 .rintro I q ⟨W,X,rfl,f3,B,D,Y,d⟩;show DM lfp G (Runs F G) k I (.ptr i 0) (.ptr n 0) x (iN cs.length) (iN cs.length) W X;delta DM;rw[sw o_]at d;simp only[go_sem,Bf,m_,v_];delta GM;exact d _ _ f3
def AKp(fs:Tab)(f:PF):Bool:=match QU fs f.own f.f.nm with
 |none=>false
 |some o=>o.2.is f.f.ty
def L6(fs:Tab)(p:Pool):Bool:=p.names.all (λc=>[(⟨c,false⟩:Ty)].all (BD fs))&&(p.types.all (BD fs)&&(p.fields.all (AKp fs)&&p.BS.all λm=>(ARQ fs m).isSome))
section
variable{G:AQ}{H0 H:Heap}{n0 n i t a b fm e:Nat}{vn:V}{fs:Tab}{p:Pool}{v0 v1 v2 v3 v4:V}{ws:List V}{k:KV}
structure Vz(G:AQ)(H0:Heap)(n0:Nat)(H:Heap)(n b e:Nat)(v0 v1 v2 v3 v4:V):Prop where
 f:Kb b H0 n0 H n
 en:e<n
 e0:n0<=e
 g:T.get H e=some (one [v0,v1,v2,v3,v4])
abbrev Vz.kb(h:Vz G H0 n0 H n b e v0 v1 v2 v3 v4)(d:b<n0)(f:Kb b H n H' n'):Vz G H0 n0 H' n' b e v0 v1 v2 v3 v4:=
 ⟨h.f.trans f,b_ h.en f.le,h.e0,f.get h.g h.en (hN h.e0)⟩
abbrev bT(h:NK G H0 n0 i t a b fm vn fs)(E:fs.length<=1000)(A:Kr G H0 n0 p v0 v1 v2 v3 v4 ws)(O:Vz G H0 n0 H n b e v0 v1 v2 v3 v4)
 (d:∀H' n',Kb b H0 n0 H' n'->k (.bool (p.BS.all λm=>(ARQ fs m).isSome)) H' n'):EO lfp G (Runs F G) k (.ptr i 0) (.ptr e 0) H n:=by
 delta EO;have U:=h.tab.bn;have B:=A.b4;have V:lenV v4=some (iN p.BS.length):=by rw[A.e4.len,_x,A.AEJ,_4]
 simp only[go_sem,Nat.reduceAdd,AK (off:=4) O.g (v:=v4) rfl,V];refine BL (N:=p.BS.length) (J:=λj q=>∃H' n',q=(.ptr i 0,v4,iN p.BS.length,iN j,H',n')/\Kb b H0 n0 H' n'/\
  (∀H' n',Kb b H0 n0 H' n'->k (.bool ((p.BS.drop j).all λm=>(ARQ fs m).isSome)) H' n')) ?_ ?_ ⟨H,n,rfl,O.f,d⟩
 .rintro I j q u ⟨K,L,rfl,f3,d⟩ W;show Bl lfp G (Runs F G) k I (.ptr i 0) v4 (iN p.BS.length) (iN j) K L;delta Bl;have P:j<ws.length:=by rw[A.AEJ];exact u
  have C:=A.ke (f3.ke h.tab.seen);have X:=f3.le;have⟨q,M,x⟩:=C.e4.at (i:=j) (c:=p.BS[j].cells ws[j]) (by rw[_U];simp[u,P]);have y:=C.at4 j _ _ (eb u) (eb P);rw[uv u,_9]at d;generalize p.BS[j]=m at x y d;generalize ws[j]=w at x y;unfold PM.cells at x;simp only[go_sem,Nat.reduceAdd,Bf,u,_b,M,BZ x];rw[T.set_set];refine run_set λZ Q g4=>?_;have D:=Q.kb (b:=b) a6;refine j4 (p:=m) (h.kb (f3.trans D)) E ⟨w,rfl,y.kp Q⟩ λH5 n5 Y=>?_;have R:=f3.trans (D.trans Y);simp only[go_sem,Bw];cases S:(ARQ fs m).isSome with
  |false=>simp only[S,J']at d;simp only[l_,go_sem];exact d _ _ R
  |true=>
   simp only[S,_']at d;simp only[k_,go_sem,CA (show j+1<9223372036854775808 by unfold big at B;omega)];exact W _ ⟨_,_,rfl,R,d⟩
 .rintro I q ⟨K,L,rfl,f3,d⟩;show Bl lfp G (Runs F G) k I (.ptr i 0) v4 (iN p.BS.length) (iN p.BS.length) K L;delta Bl;rw[sw o_]at d;simp only[go_sem,Bf,m_,v_];delta Fu;exact d _ _ f3
abbrev cE(h:NK G H0 n0 i t a b fm vn fs)(A:fs.length<=1000)(Q:Kr G H0 n0 p v0 v1 v2 v3 v4 ws)(y:Vz G H0 n0 H n b e v0 v1 v2 v3 v4)
 (d:∀H' n',Kb b H0 n0 H' n'->k (.bool (p.fields.all (AKp fs)&&p.BS.all λm=>(ARQ fs m).isSome)) H' n'):
 lfp (V×V×V×V×V×Heap×Nat) (FL lfp G (Runs F G) k) (.ptr i 0,.ptr e 0,v3,iN p.fields.length,iN 0,H,n):=by
 have R:=h.tab.bn;have B:=Q.b3;refine BL (N:=p.fields.length) (J:=λj q=>∃H' n',q=(.ptr i 0,.ptr e 0,v3,iN p.fields.length,iN j,H',n')/\Vz G H0 n0 H' n' b e v0 v1 v2 v3 v4/\
  (∀H' n',Kb b H0 n0 H' n'->k (.bool ((p.fields.drop j).all (AKp fs)&&p.BS.all λm=>(ARQ fs m).isSome)) H' n')) ?_ ?_ ⟨H,n,rfl,y,d⟩
 .rintro I j q w ⟨u,g,rfl,y,d⟩ ih;show DR lfp G (Runs F G) k I (.ptr i 0) (.ptr e 0) v3 (iN p.fields.length) (iN j) u g;delta DR;have f3:=y.f;have S:=Q.ke (f3.ke h.tab.seen);have d0:=f3.le;have⟨q,U,x⟩:=S.e3.at (i:=j) (c:=p.fields[j].cells) (by simp[w]);rw[uv w,_9]at d;generalize p.fields[j]=m at x d;unfold PF.cells at x;simp only[go_sem,Nat.reduceAdd,Bf,w,_b,U,BZ x];rw[T.set_set];have K:=T.B4 u g (one [m.f.nm.v,m.f.ty.nm.v,.bool m.f.ty.arr,m.own.v]);have f4:Kp u g (T.set u g (one [m.f.nm.v,m.f.ty.nm.v,.bool m.f.ty.arr,m.own.v])) (g+1):=(Kp.refl _ _).new _ o_ a6;generalize T.set u g (one [m.f.nm.v,m.f.ty.nm.v,.bool m.f.ty.arr,m.own.v])=H4 at K f4;have C:=f4.kb (b:=b) a6;have W:=h.kb (f3.trans C);simp only[go_sem,Nat.reduceAdd,AK (off:=0) W.at' (v:=.ptr t 0) rfl,AK (off:=3) K (v:=m.own.v) rfl,AK (off:=0) K (v:=m.f.nm.v) rfl];refine run_set λH5 f5 g5=>?_;have X:=f5.kb (b:=b) a6;have D:=C.trans X;refine AIh (c:=m.own) (s:=m.f.nm) (h.tab.kb (f3.trans D)) A λL n6 M=>?_;have Y:=D.trans M;have d1:=M.le;have g6:=M.get g5 a6 a6;have Z:=M.get (f5.get K a6) a6 a6;unfold Ty.v Ty.cells;simp only[go_sem];rw[MG (m:=2) g6 a6 rfl rfl];have O:Kb b u g (T.set L (g+1) (one [((QU fs m.own m.f.nm).getD ((0,0),Vq)).2.nm.v,.bool ((QU fs m.own m.f.nm).getD ((0,0),Vq)).2.arr])) n6:=
   Y.trans' (λid d2=>T.Ac _ _ a6) o_ a6
  have P:=T.B4 L (g+1) (one [((QU fs m.own m.f.nm).getD ((0,0),Vq)).2.nm.v,.bool ((QU fs m.own m.f.nm).getD ((0,0),Vq)).2.arr]);have E:T.get (T.set L (g+1) (one [((QU fs m.own m.f.nm).getD ((0,0),Vq)).2.nm.v,.bool ((QU fs m.own m.f.nm).getD ((0,0),Vq)).2.arr])) g=_:=(T.Ac _ _ a6).trans Z;generalize T.set L (g+1) (one [((QU fs m.own m.f.nm).getD ((0,0),Vq)).2.nm.v,.bool ((QU fs m.own m.f.nm).getD ((0,0),Vq)).2.arr])=H7 at O P E;simp only[Bw,go_sem];unfold AKp at d;cases h1:QU fs m.own m.f.nm with
  |none=>rw[h1]at d;simp only[_6,l_,go_sem];exact d _ _ (f3.trans O)
  |some o=>
   rw[h1]at d P;simp only[_z]at P d;have e1:BM (.agg [.str,.bool]) true (.agg [o.2.nm.v,.bool o.2.arr]) (.agg [m.f.ty.nm.v,.bool m.f.ty.arr])=_:=AXC o.2 m.f.ty;simp only[_7,k_,go_sem,Nat.reduceAdd,As (m:=2) P a6 rfl,show AX 2 (.ptr g 1) G H7=some (.agg [m.f.ty.nm.v,.bool m.f.ty.arr])from BV E a6 (by show 3<=4;omega),e1];cases h2:o.2.is m.f.ty with
   |false=>simp only[h2,J']at d;simp only[l_,go_sem];exact d _ _ (f3.trans O)
   |true=>
    simp only[h2,_']at d;simp only[k_,go_sem,CA (show j+1<9223372036854775808 by unfold big at B;omega)];exact ih _ ⟨_,_,rfl,y.kb (G:=G) R O,d⟩
 .rintro I q ⟨u,g,rfl,y,d⟩;show DR lfp G (Runs F G) k I (.ptr i 0) (.ptr e 0) v3 (iN p.fields.length) (iN p.fields.length) u g;delta DR;rw[sw o_]at d;simp only[go_sem,Bf,m_,v_];exact bT h A Q y d
abbrev eG(i:Nat):Ak (.ptr i 0) (.ptr i 0)=true:=by show band (Nat.beq i i) (Nat.beq 0 0)=true;simp
abbrev iR(h:NK G H n i t a b fm vn fs)(S:fs.length<=1000)(A:Kr G H n p v0 v1 v2 v3 v4 ws)
 (d:∀H' n',Kb b H n H' n'->k (.bool (L6 fs p)) H' n'):Runs F G K7 [.ptr i 0,.agg [v0,v1,v2,v3,v4]] H n k:=by
 refine go2 (Nw Ae G) ?_;delta KL;have B:=h.tab.bn;have E:=A.b1;unfold L6 at d;refine BE λZ f1 g1=>?_;have T:=f1.kb (b:=b) B;simp only[go_sem,Nat.reduceAdd,AK (off:=1) g1 (v:=v1) rfl,A.e1.len,Mo];have y:Vz G H n Z (n+1) b n v0 v1 v2 v3 v4:=⟨T,a6,ea _,g1⟩;refine BL (N:=p.names.length) (J:=λj q=>∃H' n',q=(.ptr i 0,.ptr n 0,v1,iN p.names.length,iN j,H',n')/\Vz G H n H' n' b n v0 v1 v2 v3 v4/\
  (∀H' n',Kb b H n H' n'->k (.bool ((p.names.drop j).all (λc=>[(⟨c,false⟩:Ty)].all (BD fs))&&(p.types.all (BD fs)&&(p.fields.all (AKp fs)&&p.BS.all λm=>(ARQ fs m).isSome)))) H' n')) ?_ ?_ ⟨Z,n+1,rfl,y,d⟩
 .rintro I j q u ⟨U,V,rfl,y,d⟩ ih;show Dm lfp G (Runs F G) k I (.ptr i 0) (.ptr n 0) v1 (iN p.names.length) (iN j) U V;delta Dm;have f3:=y.f;have C:=A.ke (f3.ke h.tab.seen);have d0:=f3.le;have w:=h.kb f3;have⟨q,W,K⟩:=C.e1.at (jk u);have M:=A.o1 _ (f_ u);rw[uv u,_9]at d;generalize p.names[j]=m at K d M;simp only[go_sem,Nat.reduceAdd,Bf,u,_b,W,OE K,AK (off:=0) w.at' (v:=.ptr t 0) rfl];refine U0 λH4 n4 f4=>?_;have D:=f4.kb (b:=b) a6;have X:=h.kb (f3.trans D);have d1:=f4.le;simp only[go_sem,Nat.reduceAdd,AK (off:=0) X.at' (v:=.ptr t 0) rfl,eG];rw[AHQ (z:=2) (L:=[.str m.1 m.2,.bool false]) rfl];refine run_set λH5 f5 g5=>?_;have O:=f5.kb (b:=b) a6;refine bN (xs:=[(⟨m,false⟩:Ty)]) (h.tab.kb (f3.trans (D.trans O))) ⟨xS a6 rfl g5,λid Y=>by cases Y;omega,by show 1<big;decide,λx hx=>by simp at hx;subst hx;exact M⟩ λH6 n6 R=>?_;have f7:=D.trans (O.trans R);simp only[go_sem,Bw];cases P:[(⟨m,false⟩:Ty)].all (BD fs)with
  |false=>simp only[P,J']at d;simp only[l_,go_sem];exact d _ _ (f3.trans f7)
  |true=>
   simp only[P,_']at d;simp only[k_,go_sem,CA (show j+1<9223372036854775808 by unfold big at E;omega)];exact ih _ ⟨_,_,rfl,y.kb (G:=G) B f7,d⟩
 .rintro I q ⟨U,V,rfl,y,d⟩;show Dm lfp G (Runs F G) k I (.ptr i 0) (.ptr n 0) v1 (iN p.names.length) (iN p.names.length) U V;delta Dm;rw[sw o_]at d;simp only[List.all_nil,_']at d;simp only[go_sem,Bf,m_,v_];delta GQ;have f3:=y.f;have w:=h.kb f3;have C:=A.ke (f3.ke h.tab.seen);simp only[go_sem,Nat.reduceAdd,AK (off:=0) w.at' (v:=.ptr t 0) rfl,AK (off:=2) y.g (v:=v2) rfl];refine bN (xs:=p.types) w.tab C.t2 λH6 n6 R=>?_;have Q:=y.kb (G:=G) B R;have l3:lenV v3=some (iN p.fields.length):=by rw[A.e3.len,uc]
  simp only[Bw,go_sem];cases P:p.types.all (BD fs)with
  |false=>simp only[P,J']at d;simp only[l_,go_sem];exact d _ _ (f3.trans R)
  |true=>
   simp only[P,_']at d;simp only[k_,go_sem,Nat.reduceAdd,AK (off:=3) Q.g (v:=v3) rfl,l3];exact cE h S A Q d
end
structure Iu(G:AQ)(H:Heap)(n:Nat)(v:V)(Cp:List Fl):Prop where
 is:∃LS:Bh,El G H v 10 LS/\LS.length=Cp.length/\∀(i:Nat) (L:LV) (f:Fl),LS[i]? =some L->Cp[i]? =some f->sH G H n (.agg L) f
 lo:Lo v n
 lt:Cp.length<big
variable{Cp:List Fl}
abbrev Iu.ke{Cp:kE}(h:Iu G H n v Cp)(f:Ke G H n H' n'):Iu G H' n' v Cp:=by have⟨⟨g,k,m,p⟩,d,q⟩:=h;exact⟨⟨g,k.ke d f,m,λi L c x y=>(p i L c x y).ke f⟩,d.mono f.le,q⟩
abbrev Iu.len{Cp:kE}(h:Iu G H n v Cp):lenV v=some (iN Cp.length):=by have⟨⟨g,d,f,i⟩,k,m⟩:=h;rw[d.len,f]
abbrev Iu.at{Cp:kE}(h:Iu G H n v Cp)(hi:i<Cp.length):∃p g k v0 v1 v2 v3 v4 vb d ws f,Ai 10 v (iN i)=some p/\
 lG p G H 10=some [Cp[i].face.nm.v,Cp[i].face.sup.v,g,k,v0,v1,v2,v3,v4,vb]/\tg G H n [Cp[i].face.nm.v,Cp[i].face.sup.v,g,k,v0,v1,v2,v3,v4,vb] Cp[i] g k v0 v1 v2 v3 v4 vb d ws f:=by
 have⟨⟨q,w,B,x⟩,C,D⟩:=h;have⟨p,y,m⟩:=w.at (i:=i) (c:=q[i]'a6) (eb _);have⟨L,g,k,v0,v1,v2,v3,v4,vb,d,ws,f,u,e⟩:=x i _ _ (eb a6) (eb hi);have A:q[i]'a6=L:=by injection e
 have:=u.is;subst this;rw[A]at m;exact⟨p,g,k,v0,v1,v2,v3,v4,vb,d,ws,f,y,m,u⟩
structure Fj(G:AQ)(H:Heap)(n a:Nat)(fs:List (St×Fl)):Prop where
 is:∃ps,qc H a ps/\keyed ps fs/\∀s v c,DU ps s=some v->DU fs s=some c->sH G H n v c
abbrev Fj.ke{fs:List (St×Fl)}(h:Fj G H n a fs)(f:Ke G H n H' n')(e:T.get H' a=T.get H a):Fj G H' n' a fs:=by have⟨d,g,i,k⟩:=h.is;exact⟨d,xu g e,i,λs v c x y=>(k s v c x y).ke f⟩
abbrev Fj.put{fs:List (St×Fl)}{c:Fl}{ps:List (St×V)}(f:keyed ps fs)(k:∀s v c,DU ps s=some v->DU fs s=some c->sH G H' n v c)(m:qc H' a (Sr s v ps))(p:sH G H' n v c):
 Fj G H' n a (Sr s c fs):=
 ⟨_,m,AA1 _ _ _ f,λt w d g i=>by
  rw[AUi]at g i;by_cases e:s=t
  .rw[hD e]at g i;cases g;cases i;exact p
  .rw[g_ e]at g i;exact k _ _ _ g i⟩
def NC(fs:List (St×Fl)):kE->List (St×Fl)
 |[]=>fs
 |c::cs=>NC (Sr c.face.nm c fs) cs
abbrev R2(Cp:kE):=NC [] Cp
noncomputable def Ii:List (St×Fl)->List Fl->Int
 |_,[]=>0
 |acc,f::fs=>bif !bq f then 2 else bif (DU acc f.face.nm).isSome then 6 else Ii (Sr f.face.nm f acc) fs
def link2(t:Tab):kE->Int
 |[]=>0
 |f::fs=>bif !(Cj t f.face.nm==0)then Cj t f.face.nm else bif !L6 t f.pool then 30 else link2 t fs
abbrev Ag(Cp:kE):b9:=Cp.map λf=>f.face
abbrev Gl(Cp:List Fl):List St:=Cp.map λf=>f.face.nm
noncomputable def HO(Cp:List Fl):Int:=bif decide (200<Cp.length)then 4 else bif !(Ii [] Cp==0)then Ii [] Cp else link2 (Ef (Ag Cp)) Cp
abbrev AS5:∀(cs:b9) (fs:Tab),(xT fs cs).length<=fs.length+cs.length
 |[],_=>ea _
 |c::cs,fs=>by
  have d:∀(fs:Tab),(Sr c.nm c fs).length<=fs.length+1:=by
   intro fs;induction fs with
   |nil=>exact ea _
   |cons p f g=>unfold Sr;split<;>simp only[j']<;>omega
  have:=AS5 cs (Sr c.nm c fs);have:=d fs;simp only[xT,j'];omega
abbrev Qp:∀(cs:b9) (fs:Tab) (s:St) (c:Fc),DU (xT fs cs) s=some c->c∈cs∨DU fs s=some c
 |[],_,_,_,h=>.inr h
 |d::cs,fs,s,c,h=>by
  rcases Qp cs _ s c h with h|h
  .exact .inl (c_ _ h)
  .rw[AUi]at h;split at h
   .cases h;exact .inl (u_ ..)
   .exact .inr h
abbrev Zt{cs:b9}(h:DU (Ef cs) s=some c):c∈cs:=by
 rcases Qp cs [] s c h with h|h
 .exact h
 .cases h
structure j9(G:AQ)(H:Heap)(n m i:Nat)(Cp:List Fl):Prop where
 is:∃t a b fm vn,NK G H n i t a b fm vn (Ef (Ag Cp))/\Fj G H n fm (R2 Cp)/\fm<n/\fm≠b/\El G H vn 1 (strs (Gl Cp))/\Lo vn n/\m<=i/\m<=t/\m<=a/\m<=b/\m<=fm
abbrev Gr.ok(h:Gr G H m z v LS):Rb v=true/\At v=[v]:=by cases h<;>exact⟨rfl,rfl⟩
abbrev ap(hG:RN G){Cp:kE}(y:(Ef (Ag Cp)).length<=1000)(K:∀s c,DU (Ef (Ag Cp)) s=some c->∀m∈c.ms,m.ps.length<=100000)
 (h:NK G H0 n0 i t a b fm vn (Ef (Ag Cp))) (U:Iu G H0 n0 v Cp)
 (A:link2 (Ef (Ag Cp)) Cp=0->∀H' n',Kb b H0 n0 H' n'->k (.CV [.ptr i 0,iN 0]) H' n')
 (u:link2 (Ef (Ag Cp)) Cp≠0->∀H' n',Kb b H0 n0 H' n'->k (.CV [.zU,.int .i64 (link2 (Ef (Ag Cp)) Cp) 0]) H' n'):
 lfp (V×V×V×V×Heap×Nat) (IP lfp G (Runs F G) k) (.ptr i 0,v,iN Cp.length,iN 0,H0,n0):=by
 generalize hT:Ef (Ag Cp)=tb at*;have d0:=h.tab.bn;obtain⟨R,W⟩:∃R,R=link2 tb Cp:=⟨_,rfl⟩;rw[<-W]at A u;have B:=U.lt;refine BL (N:=Cp.length) (J:=λj q=>∃H' n',q=(.ptr i 0,v,iN Cp.length,iN j,H',n')/\Kb b H0 n0 H' n'/\link2 tb (Cp.drop j)=R) ?_ ?_ ⟨H0,n0,rfl,Kb.refl _ _ _,W.symm⟩
 .rintro I j q w ⟨x,g,rfl,f3,d⟩ ih;show Fq lfp G (Runs F G) k I (.ptr i 0) v (iN Cp.length) (iN j) x g;delta Fq;have d1:=f3.le;have⟨q,L,M,v0,v1,v2,v3,v4,O,d2,ws,d3,hp,C,f⟩:=(U.ke (f3.ke h.tab.seen)).at w;rw[uv w]at d;unfold link2 at d;generalize Cp[j]=m at C d f;simp only[go_sem,Nat.reduceAdd,Bf,w,_b,hp,BZ C];rw[T.set_set];have P:=T.B4 x g (one [m.face.nm.v,m.face.sup.v,L,M,v0,v1,v2,v3,v4,O]);have X:Kp x g (T.set x g (one [m.face.nm.v,m.face.sup.v,L,M,v0,v1,v2,v3,v4,O])) (g+1):=(Kp.refl _ _).new _ o_ a6;generalize T.set x g (one [m.face.nm.v,m.face.sup.v,L,M,v0,v1,v2,v3,v4,O])=H4 at P X;have D:=X.kb (b:=b) a6;have E:=h.kb (f3.trans D);simp only[go_sem,Nat.reduceAdd,AK (off:=0) E.at' (v:=.ptr t 0) rfl,AK (off:=0) P (v:=m.face.nm.v) rfl];refine APk hG (s:=m.face.nm) E.tab y K λH5 n5 Q=>?_;have H:=D.trans Q;have d4:=Q.le;have g5:=Q.get P a6 a6;simp only[AML,go_sem];rw[show(Cj tb m.face.nm==Int.ofNat 0)=(Cj tb m.face.nm==0)from rfl];cases S:Cj tb m.face.nm==0 with
  |false=>
   rw[S]at d;simp only[l_,_K]at d;simp only[l_,go_sem];rw[d];refine u ?_ _ _ (f3.trans H);rw[<-d];simpa using S
  |true=>
   rw[S]at d;simp only[k_,_j]at d;simp only[k_,go_sem,Nat.reduceAdd,show AX 5 (.ptr g 4) G H5=some (.agg [v0,v1,v2,v3,v4])from BV g5 a6 (by show 9<=10;omega)];refine iR (h.kb (f3.trans H)) y (p:=m.pool) (f.pool.ke ((H.ke (f3.seen h.tab.seen)))) λH7 n7 f7=>?_;have Y:=f3.trans (H.trans f7);simp only[Bw,go_sem];cases Z:L6 tb m.pool with
   |false=>
    rw[Z]at d;simp only[l_,_K]at d;simp only[l_,go_sem];have:=u (by rw[<-d];decide) _ _ Y;rw[<-d]at this;exact this
   |true=>
    rw[Z]at d;simp only[k_,_j]at d;simp only[k_,go_sem,CA (show j+1<9223372036854775808 by unfold big at B;omega)];exact ih _ ⟨_,_,rfl,Y,d⟩
 .rintro I q ⟨x,g,rfl,f3,d⟩;show Fq lfp G (Runs F G) k I (.ptr i 0) v (iN Cp.length) (iN Cp.length) x g;delta Fq;rw[sw o_]at d;simp only[go_sem,Bf,m_,v_];delta Ir;exact A d.symm _ _ f3
abbrev ZU:LV:=[.str 0 0,.str 0 0,.AT,.AT,.AT,.AT,.AT,.AT,.AT,.AT]
abbrev sH.cells(h:sH G H n v f):∃L:LV,v=.agg L/\L.length=10:=by have⟨L,k,m,v0,v1,v2,v3,v4,p,d,ws,g,h,i⟩:=h;exact⟨L,i,by rw[h.is];rfl⟩
abbrev Fj.look{fs:List (St×Fl)}(h:Fj G H n a fs)(s:St):∃L:LV,ANB .str true (.agg ZU) (.map a) s.v H=some (.CV [.agg L,.bool (DU fs s).isSome])/\L.length=10/\∀f,DU fs s=some f->sH G H n (.agg L) f:=by
 have⟨m,p,q,u⟩:=h.is;have d:=ABM q s;rw[show s.v=.str s.1 s.2 from rfl,ANv p];cases i:DU m s with
 |none=>
  rw[i]at d;cases g:DU fs s with
  |none=>exact⟨ZU,rfl,rfl,λf h=>by cases h⟩
  |some x=>rw[g]at d;cases d
 |some v=>
  rw[i]at d;cases g:DU fs s with
  |none=>rw[g]at d;cases d
  |some x=>
   have k:=u _ _ _ i g;obtain⟨L,rfl,w⟩:=k.cells;exact⟨L,rfl,w,λf h=>by cases h;exact k⟩
abbrev Fj.up{fs:List (St×Fl)}(h:Fj G H n a fs)(d:n<=n'):Fj G H n' a fs:=h.ke ⟨d,λ_ _ _ _ h=>h⟩ rfl
abbrev NM{d f:Type}(g:d->f)(l:List d){j:Nat}(h:j<l.length):(l.take (j+1)).map g=(l.take j).map g++[g l[j]]:=by rw[List.take_add_one,eb h,wm];rfl
theorem R7{G:AQ}(hG:RN G)(hO:dZ G){H:Heap}{n:Nat}{v:V}{Cp:List Fl}(hf:Iu G H n v Cp){k:KV}
 (U:HO Cp=0->∀H' n' i,Kp H n H' n'->j9 G H' n' n i Cp->k (.CV [.ptr i 0,iN 0]) H' n')
 (B:HO Cp≠0->∀H' n',Kp H n H' n'->k (.CV [.zU,.int .i64 (HO Cp) 0]) H' n'):Runs F G EW [v] H n k:=by
 refine go1 (Uq Ae G) ?_
 delta Qw
 simp only[hf.len,go_sem,V5]
 unfold HO at U B
 obtain⟨R,hR⟩:∃R,R=Ii [] Cp:=⟨_,rfl⟩
 rw[<-hR]at U B
 obtain⟨Q,hQ⟩:∃Q,Q=R2 Cp:=⟨_,rfl⟩
 cases ag:decide (200<Cp.length)with
 |true=>rw[ag]at B;simp only[go_sem];exact B (show(4:Int)≠0 by decide) _ _ (Kp.refl _ _)
 |false=>
 have ag:=of_decide_eq_false ag
 rw[show decide (200<Cp.length)=false from decide_eq_false ag]at U B
 simp only[cond_false]at U B
 simp only[go_sem,AQK,Nat.reduceAdd,show BT [V.zU,.AEe,.AT] [(1,1,.c (.map n))]=some (.agg [.zU,.map n,.AT])from rfl]
 have f1:Kp H n (T.set (T.set H n (.map [] 0)) (n+1) (one [.zU,.map n,.AT])) (n+1+1):=((Kp.refl H n).new (m:=n+1) _ (Nat.le_refl _) (by omega)).new _ (by omega) (by omega)
 refine BL (N:=Cp.length) (J:=λj q=>∃H' n' va vn M,∃W:Bh,q=(v,va,.ptr (n+1) 0,v,iN Cp.length,iN j,H',n')/\Kp H n H' n'/\n+1<n'/\T.get H' (n+1)=some (one [.zU,.map n,vn])/\
  Fj G H' n n M/\Own G H' (n+2) n' 1 vn (strs (Gl (Cp.take j)))/\Own G H' (n+2) n' 4 va W/\W.length=j/\(∀(i:Nat) (L:LV) (c:Fc),W[i]? =some L->(Ag (Cp.take j))[i]? =some c->Jz G H' n (.agg L) c)/\
  Ii M (Cp.drop j)=R/\NC M (Cp.drop j)=Q/\(∀f∈Cp.take j,bq f=true)) ?_ ?_
  ⟨_,_,.AT,.AT,[],[],rfl,f1,by omega,T.B4 ..,⟨[],⟨[],0,by rw[T.Ac _ _ (by omega),T.B4],rfl⟩,rfl,λs v c h=>by cases h⟩,⟨.nil,ADf⟩,⟨.nil,ADf⟩,rfl,λi L c h=>by simp at h,hR.symm,hQ.symm,λf h=>by simp at h⟩
 ·rintro I j q d1 ⟨H3,E,va,vn,M,W,rfl,f3,p8,g3,Z,A,C,d4,f2,u,O,f9⟩ ih
  show Fp lfp G (Runs F G) k I v va (.ptr (n+1) 0) v (iN Cp.length) (iN j) H3 E
  delta Fp
  obtain⟨q,vf,vm,v0,v1,v2,v3,v4,vb,m0,ws,p9,hp,m1,P⟩:=(hf.ke (f3.ke.low (Nat.le_refl _))).at d1
  have i5:=NM (λf:Fl=>f.face.nm) Cp d1
  have m2:=NM (λf:Fl=>f.face) Cp d1
  have i6:=List.take_add_one (l:=Cp) (i:=j)
  rw[List.getElem?_eq_getElem d1]at i6
  rw[List.drop_eq_getElem_cons d1]at u O
  unfold Ii at u
  unfold NC at O
  generalize Cp[j]=m at m1 u O P i5 m2 i6
  simp only[go_sem,Nat.reduceAdd,Bf,d1,decide_true,hp,BZ m1]
  rw[T.set_set]
  have g4:=T.B4 H3 E (one [m.face.nm.v,m.face.sup.v,vf,vm,v0,v1,v2,v3,v4,vb])
  have f4:Kp H3 E (T.set H3 E (one [m.face.nm.v,m.face.sup.v,vf,vm,v0,v1,v2,v3,v4,vb])) (E+1):=(Kp.refl _ _).new _ (Nat.le_refl _) (by omega)
  generalize T.set H3 E (one [m.face.nm.v,m.face.sup.v,vf,vm,v0,v1,v2,v3,v4,vb])=H4 at g4 f4
  obtain⟨L,i7,hL,-⟩:=(Z.ke ((f4.ke).low (by omega)) (f4.same n (by omega))).look m.face.nm
  simp only[go_sem,Nat.reduceAdd,AK (off:=1) (f4.get g3 (by omega)) (v:=.map n) rfl,AK (off:=0) g4 (v:=m.face.nm.v) rfl,i7]
  rw[AKF (m:=10) rfl (by omega) hL,T.set_set]
  have f5:Kp H4 (E+1) (T.set H4 (E+1) (one L)) (E+1+1):=(Kp.refl _ _).new _ (Nat.le_refl _) (by omega)
  generalize T.set H4 (E+1) (one L)=H5 at f5
  have g5:=f5.get g4 (by omega)
  have m3:=f4.trans f5
  rw[As (m:=10) g5 (by omega) rfl,AJ]
  refine AFj hO (f:=m) ((P.ke ((m3.ke).low (by omega))).ke ⟨by omega,λ_ _ _ _ h=>h⟩) λH6 n6 f6=>?_
  have S:=m3.trans f6
  have q9:=f6.le
  have g6:=f6.get g5 (by omega)
  have gb:=S.get g3 (by omega)
  simp only[Bw,go_sem]
  cases h1:bq m with
  |false=>
   rw[h1]at u
   simp only[Bool.not_false,cond_true]at u
   rw[<-u]at B
   simp only[Bool.not_false,go_sem]
   exact B (show(2:Int)≠0 by decide) _ _ (f3.trans S)
  |true=>
  rw[h1]at u
  simp only[Bool.not_true,cond_false]at u
  simp only[Bool.not_true,go_sem]
  cases h2:(DU M m.face.nm).isSome with
  |true=>
   rw[h2]at u
   simp only[cond_true]at u
   rw[<-u]at B
   simp only[go_sem]
   exact B (show(6:Int)≠0 by decide) _ _ (f3.trans S)
  |false=>
  rw[h2]at u
  simp only[cond_false]at u
  simp only[go_sem,Nat.reduceAdd,AK (off:=1) gb (v:=.map n) rfl,AK (off:=0) g6 (v:=m.face.nm.v) rfl,As (m:=10) g6 (by omega) rfl]
  obtain⟨ps,i8,d5,d6⟩:=(Z.ke ((S.ke).low (by omega)) (S.same n (by omega))).is
  refine AJD i8 m.face.nm _ λH7 q0 d7=>?_
  have f7:Kp H6 n H7 n:=⟨Nat.le_refl _,λg p=>d7 g (by omega)⟩
  have g7:=(d7 E (by omega)).trans g6
  have m4:=(d7 (n+1) (by omega)).trans gb
  have i9:Fj G H7 n n (Sr m.face.nm m M):=Fj.put d5 (λs v c x y=>(d6 s v c x y).ke f7.ke) q0 ⟨_,vf,vm,v0,v1,v2,v3,v4,vb,m0,ws,p9,(P.ke ((S.ke).low (by omega))).ke f7.ke,rfl⟩
  simp only[go_sem,Nat.reduceAdd,AK (off:=2) m4 (v:=vn) rfl,AK (off:=0) g7 (v:=m.face.nm.v) rfl]
  refine ATZ (G:=G) (w:=m.face.nm.v) rfl rfl λH8 f8 e8=>?_
  have m5:∀g,g<n6->g≠n->T.get H8 g=T.get H6 g:=λg h q1=>(f8.same g h).trans (d7 g q1)
  have g2:Own G H8 (n+2) (n6+1) 1 vn (strs (Gl (Cp.take j))):=⟨A.gr.mono λg p=>(m5 g (by have:=A.lo g p;omega) (by have:=(A.gr.lo p).1;omega)).trans (S.same g (A.lo g p)),λg p=>by have:=A.lo g p;omega⟩
  have k0:(Gl (Cp.take j)).length=j:=by simp;omega
  refine g2.gr.app (by omega) g2.lo e8 ?_ ?_ ?_
  ·rw[Mo,k0];simp;omega
  ·intro d2 H9 g0 g1 g8
   have d8:∀g,vn.CD=some g->n+2<=g:=λg p=>(A.gr.lo p).1
   have q2:T.get H9 (n+1)=some (one [.zU,.map n,vn]):=(g1 (n+1) (by omega) (λh=>by have:=d8 _ h;omega)).trans ((f8.same (n+1) (by omega)).trans m4)
   obtain⟨m6,i0⟩:=Gr.ok g0
   rw[ACr (m:=1) q2 m6 (by rw[i0];rfl) (by omega) (by show 2+1<=3;omega),i0]
   rw[show List.take 2 [V.zU,.map n,vn]++([d2]++List.drop (2+1) [V.zU,.map n,vn])=[.zU,.map n,d2]from rfl]
   have g9:T.get H9 E=_:=(g1 E (by omega) (λh=>by have:=A.lo _ h;omega)).trans ((f8.same E (by omega)).trans g7)
   have K:∀g,g≠n+1->T.get (T.set H9 (n+1) (one [.zU,.map n,d2])) g=T.get H9 g:=λg h=>T.Ac _ _ (Ne.symm h)
   have i1:=T.B4 H9 (n+1) (one [.zU,.map n,d2])
   generalize T.set H9 (n+1) (one [.zU,.map n,d2])=H10 at K i1
   have q3:T.get H10 E=_:=(K E (by omega)).trans g9
   rw[show AX 4 (.ptr E 0) G H10=some (.agg [m.face.nm.v,m.face.sup.v,vf,vm])from BV q3 (by omega) (by show 4<=10;omega),AJ]
   rw[AHQ (z:=4) (L:=[m.face.nm.v,m.face.sup.v,vf,vm]) rfl]
   have d3:Kp H10 (n6+1+1) (T.set H10 (n6+1+1) (.arr 4 1 (T.set (T.set .e 0 [.str 0 0,.str 0 0,.AT,.AT]) 0 [m.face.nm.v,m.face.sup.v,vf,vm]))) (n6+1+1+1):=(Kp.refl _ _).new _ (Nat.le_refl _) (by omega)
   have m7:=xS (G:=G) (z:=4) (by omega) rfl (T.B4 H10 (n6+1+1) (.arr 4 1 (T.set (T.set .e 0 [.str 0 0,.str 0 0,.AT,.AT]) 0 [m.face.nm.v,m.face.sup.v,vf,vm])))
   generalize T.set H10 (n6+1+1) (.arr 4 1 (T.set (T.set .e 0 [.str 0 0,.str 0 0,.AT,.AT]) 0 [m.face.nm.v,m.face.sup.v,vf,vm]))=H11 at d3 m7
   have i2:∀g,g<E->g≠n->g≠n+1->vn.CD≠some g->T.get H11 g=T.get H3 g:=λg a b c d=>
    (d3.same g (by omega)).trans ((K g c).trans ((g1 g (by omega) d).trans ((m5 g (by omega) b).trans (S.same g a))))
   have m8:∀g,va.CD=some g->vn.CD≠some g:=λg p m9=>by
    obtain⟨_,c,t,e1⟩:=C.gr.lo p
    obtain⟨_,c',t',e2⟩:=A.gr.lo m9
    rw[e1]at e2;cases e2
   have X:Own G H11 (n+2) (n6+1+1+1) 4 va W:=⟨C.gr.mono λg p=>i2 g (C.lo g p) (by have:=(C.gr.lo p).1;omega) (by have:=(C.gr.lo p).1;omega) (m8 g p),λg p=>by have:=C.lo g p;omega⟩
   refine X.gr.app (by omega) X.lo m7.2 ?_ ?_ ?_
   ·rw[d4];simp;omega
   ·intro q4 d9 p0 d0 k1
    simp only[go_sem,CA (show j+1<9223372036854775808 by omega)]
    have Y:∀g,va.CD=some g->n+2<=g:=λg p=>(C.gr.lo p).1
    have k2:∀g,g<n->T.get d9 g=T.get H3 g:=λg p=>(d0 g (by omega) (λh=>by have:=Y _ h;omega)).trans (i2 g (by omega) (by omega) (by omega) (λh=>by have:=d8 _ h;omega))
    have k3:Kp H3 n d9 n:=⟨Nat.le_refl _,k2⟩
    have k7:Kp H7 n d9 n:=⟨Nat.le_refl _,λg p=>by rw[k2 g p,d7 g (by omega)];exact(S.same g (by omega)).symm⟩
    have p1:T.get d9 n=T.get H7 n:=(d0 n (by omega) (λh=>by have:=Y _ h;omega)).trans ((d3.same n (by omega)).trans ((K n (by omega)).trans ((g1 n (by omega) (λh=>by have:=d8 _ h;omega)).trans (f8.same n (by omega)))))
    refine ih _ ⟨d9,_,q4,d2,Sr m.face.nm m M,W++[[m.face.nm.v,m.face.sup.v,vf,vm]],rfl,⟨by omega,λg p=>(k2 g p).trans (f3.same g p)⟩,by omega,?_,i9.ke k7.ke p1,?_,⟨p0,k1⟩,by simp[d4],?_,u,O,?_⟩
    ·exact(d0 (n+1) (by omega) (λh=>by have:=Y _ h;omega)).trans ((d3.same (n+1) (by omega)).trans i1)
    ·refine⟨?_,λg p=>by have:=g8 g p;omega⟩
     rw[show Gl (Cp.take (j+1))=Gl (Cp.take j)++[m.face.nm]from i5,strs,List.map_append]
     refine g0.mono λg p=>?_
     have h9:=g8 g p
     have u0:n+2<=g:=(g0.lo p).1
     refine(d0 g (by omega) λh=>?_).trans ((d3.same g (by omega)).trans (K g (by omega)))
     obtain⟨_,c,t,e1⟩:=g0.lo p
     obtain⟨_,c',t',e2⟩:=X.gr.lo h
     rw[d3.same g (by omega),K g (by omega),e1]at e2;cases e2
    ·intro i L c hi hc
     rw[show Ag (Cp.take (j+1))=Ag (Cp.take j)++[m.face]from m2]at hc
     have q5:(Ag (Cp.take j)).length=j:=by simp;omega
     by_cases u1:i<j
     ·rw[List.getElem?_append_left (by omega)]at hi hc
      exact(f2 i L c hi hc).ke k3.ke
     ·rw[List.getElem?_append_right (by omega)]at hi hc
      have:i=j:=by have:=(List.getElem?_eq_some_iff.1 hi).1;simp at this;omega
      subst this
      rw[d4,Nat.sub_self]at hi
      rw[q5,Nat.sub_self]at hc
      simp at hi hc
      subst hi;subst hc
      exact⟨vf,vm,m0,P.face.ke k3.ke,rfl⟩
    ·intro f p2
     rw[i6]at p2
     rcases List.mem_append.1 p2 with h|h
     ·exact f9 f h
     ·simp at h;subst h;exact h1
   ·intro h;cases h
  ·intro h;cases h
 ·rintro I q ⟨H3,E,va,vn,M,W,rfl,f3,p8,g3,Z,A,C,d4,f2,u,O,f9⟩
  show Fp lfp G (Runs F G) k I v va (.ptr (n+1) 0) v (iN Cp.length) (iN Cp.length) H3 E
  delta Fp
  rw[List.drop_eq_nil_of_le (Nat.le_refl _)]at u O
  rw[List.take_of_length_le (Nat.le_refl _)]at A f2 f9
  have O:M=R2 Cp:=Eq.trans O hQ
  subst O
  have u:(0:Int)=R:=u
  rw[<-u]at U B
  simp only[go_sem,Bf,Nat.lt_irrefl,decide_false]
  delta Jx
  refine AWw (m:=n) (cs:=Ag Cp) ⟨⟨W,C.el (by omega),by simp[d4],f2⟩,C.lo,by simp;omega,by omega⟩ λH4 n4 t a b f4 gt q6 f0 ha u2 u3 i5=>?_
  have gb:=f4.get g3 (by omega)
  have u4:=f4.le
  simp only[go_sem,Nat.reduceAdd]
  rw[ACr (m:=1) gb rfl rfl (by omega) (by show 0+1<=3;omega)]
  rw[show List.take 0 [V.zU,.map n,vn]++(At (.ptr t 0)++List.drop (0+1) [V.zU,.map n,vn])=[.ptr t 0,.map n,vn]from rfl]
  have D:∀g,g≠n+1->T.get (T.set H4 (n+1) (one [.ptr t 0,.map n,vn])) g=T.get H4 g:=λg h=>T.Ac _ _ (Ne.symm h)
  have p3:=T.B4 H4 (n+1) (one [.ptr t 0,.map n,vn])
  generalize T.set H4 (n+1) (one [.ptr t 0,.map n,vn])=H5 at D p3
  have k5:∀g,g<n->T.get H5 g=T.get H g:=λg p=>(D g (by omega)).trans ((f4.same g (by omega)).trans (f3.same g p))
  have f5:Kp H n H5 n4:=⟨by omega,k5⟩
  have k4:∀s c,DU (Ef (Ag Cp)) s=some c->∃f∈Cp,f.face=c:=λs c h=>by
   have:=Zt h
   obtain⟨f,h1,h2⟩:=List.mem_map.1 this
   exact⟨f,h1,h2⟩
  have k6:=AS5 (Ag Cp) []
  have i8:∀s c,DU (Ef (Ag Cp)) s=some c->∀m∈c.ms,m.ps.length<=100000:=λs c h m hm=>by
   obtain⟨f,q7,rfl⟩:=k4 s c h
   have h1:=f9 f q7
   unfold bq at h1
   rw[Bool.and_eq_true]at h1
   have:=AHn h1.1 m hm
   omega
  have U:link2 (Ef (Ag Cp)) Cp=0->∀H' n' i,Kp H n H' n'->j9 G H' n' n i Cp->k (.CV [.ptr i 0,iN 0]) H' n':=U
  have B:link2 (Ef (Ag Cp)) Cp≠0->∀H' n',Kp H n H' n'->k (.CV [.zU,.int .i64 (link2 (Ef (Ag Cp)) Cp) 0]) H' n':=B
  obtain⟨ps,p4,d5,d6⟩:=q6.is
  have q8:Kp H4 n H5 n:=⟨Nat.le_refl _,λg p=>D g (by omega)⟩
  have k8:TabAt G H5 n4 t a b (Ef (Ag Cp)):=⟨by omega,by omega,by omega,by omega,by omega,(D t (by omega)).trans gt,⟨ps,xu p4 (D a (by omega)),d5,λs v c x y=>((d6 s v c x y).ke q8.ke).up (by omega)⟩,f0.same (D b (by omega))⟩
  have i3:NK G H5 n4 (n+1) t a b n vn (Ef (Ag Cp)):=⟨by omega,by omega,p3,k8⟩
  have p5:Iu G H5 n4 v Cp:=(hf.ke (f5.ke))
  have p6:Own G H5 (n+2) n4 1 vn (strs (Gl Cp)):=⟨A.gr.mono λg p=>(D g (by have:=(A.gr.lo p).1;omega)).trans (f4.same g (A.lo g p)),λg p=>by have:=A.lo g p;omega⟩
  have k9:Fj G H5 n n (R2 Cp):=Z.ke (H':=H5) (n':=n) ((Kp.ke (n':=n) ⟨Nat.le_refl _,λg p=>(D g (by omega)).trans (f4.same g (by omega))⟩)) ((D n (by omega)).trans (f4.same n (by omega)))
  have p7:∀H' n',Kb b H5 n4 H' n'->Kp H n H' n':=λH' n' f=>⟨by have:=f.le;omega,λg p=>by
   have h1:g<n4:=by omega
   have h2:g≠b:=by omega
   exact(f.same g h1 h2).trans (k5 g p)⟩
  simp only[go_sem,hf.len]
  refine ap hG (by simp at k6;unfold Ef;omega) i8 i3 p5 (λh0 H' n' f=>?_) (λh0 H' n' f=>B h0 _ _ (p7 _ _ f))
  have u5:=f.le
  have i4:Own G H' (n+2) n' 1 vn (strs (Gl Cp)):=⟨p6.gr.mono λg p=>f.same g (by have:=A.lo g p;omega) (by have:=A.lo g p;omega),λg p=>by have:=A.lo g p;omega⟩
  refine U h0 _ _ _ (p7 _ _ f) ⟨t,a,b,n,vn,i3.kb f,?_,by omega,by omega,i4.el (by omega),i4.lo,by omega,by omega,by omega,by omega,by omega⟩
  refine(k9.ke ((f.ke (f0.same (D b (by omega)))).low (by omega)) (f.same n (by omega) (by omega))).up (by omega)
abbrev AWA(h:a+b<9223372036854775808):B2.ev .add (iN a) (iN b)=some (iN (a+b)):=by show some (V.int .i64 (V9 .i64 (wh (.ofNat a) (.ofNat b))) 0)=_;rw[NB,cr,NX (by simp;omega) (by simp;omega)];rfl
abbrev eq_i(x y:Int):BM (.one .int) false (.int .i64 x 0) (.int .i64 y 0)=some (.bool (x==y)):=by
 have h:=AML x y;show Ux (K8 (some (ieq x y)) λb=>some b)=_;rw[PD];cases d:decide (x=y)with
 |true=>have:=kh d;subst this;simp[K8,Ux]
 |false=>
  have:=_w d;have:(x==y)=false:=by simpa using this
  rw[this];rfl
abbrev ATM{Z:LV}:Au (AY z 0 Z [] E0) H n P=P (.sl n 0 0 0 z) (T.set H n (.arr z 0 .e)) (n+1):=by show B7 (band true true) (CS n λn=>P (.sl n 0 0 0 z) (T.set H n (.arr z 0 .e)) (Nat.succ n))=_;rw[A8];rfl
end Go.RL
