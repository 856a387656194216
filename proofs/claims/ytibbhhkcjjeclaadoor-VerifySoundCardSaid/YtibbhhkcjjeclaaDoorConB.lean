/- Part of a proof; nothing is assumed. -/
import Derived.Test.YtibbhhkcjjeclaaDoorConA
import Derived.Test.YtibbhhkcjjeclaaDoorWalk
set_option linter.unusedVariables false
set_option linter.unusedSimpArgs false
namespace Go.RL
open Go.Bv
set_option maxRecDepth 100000
structure Ke(G:AX)(H:Heap)(n:Nat)(H':Heap)(n':Nat):Prop where
 le:n<=n'
 el:∀v z LS,Lo v n->El G H v z LS->El G H' v z LS
section
variable{G:AX}{H H' H'':Heap}{n n' n'':Nat}{v:V}
theorem _root_.Go.Bv.Kp.ke(f:Kp H n H' n'):Ke G H n H' n':=⟨f.le,λ_ _ _ hl h=>h.kp hl f⟩
theorem Ke.low{m:Nat}(f:Ke G H n H' n')(hm:m<=n):Ke G H m H' m:=⟨Nat.le_refl _,λv z LS hl h=>f.el v z LS (hl.mono hm) h⟩
theorem _root_.Go.Bv.El.ke{z:Nat}{LS:ET}(h:El G H v z LS)(hl:Lo v n)(f:Ke G H n H' n'):El G H' v z LS:=f.el v z LS hl h
theorem KI.ke{xs:List Ty}(h:KI G H n v xs)(f:Ke G H n H' n'):KI G H' n' v xs:=⟨h.el.ke h.lo f,h.lo.mono f.le,h.lt,h.ok⟩
theorem TR.ke{xs:List ku}(h:TR G H n v xs)(f:Ke G H n H' n'):TR G H' n' v xs:=⟨h.el.ke h.lo f,h.lo.mono f.le,h.lt,h.ok⟩
theorem MQ.ke{xs:List DK}{ws:List V}(h:MQ G H n v xs ws)(f:Ke G H n H' n'):MQ G H' n' v xs ws:=
 ⟨h.el.ke h.lo f,h.lo.mono f.le,h.lt,h.len,λi m w a b=>(h.at' i m w a b).ke f,h.ok⟩
theorem Xx.ke{L:LV}{c:Fc}{v w:V}{ws:List V}(h:Xx G H n L c v w ws)(f:Ke G H n H' n'):Xx G H' n' L c v w ws:=⟨h.is,h.fs.ke f,h.ms.ke f,h.ok⟩
theorem FI.ke{p:Pool}{v0 v1 v2 v3 v4:V}{ws:List V}(h:FI G H n p v0 v1 v2 v3 v4 ws)(f:Ke G H n H' n'):FI G H' n' p v0 v1 v2 v3 v4 ws:=
 ⟨h.e0.ke h.l0 f,h.l0.mono f.le,h.b0,h.e1.ke h.l1 f,h.l1.mono f.le,h.b1,h.o1,h.t2.ke f,h.e3.ke h.l3 f,h.l3.mono f.le,h.b3,h.o3,h.e4.ke h.l4 f,h.l4.mono f.le,h.b4,h.yE,
  λi m w a b=>(h.at4 i m w a b).ke f,h.o4⟩
theorem PG.ke{is:List Ins}(h:PG G H n v is)(f:Ke G H n H' n'):PG G H' n' v is:=⟨h.el.ke h.lo f,h.lo.mono f.le,h.lt⟩
theorem Kt.ke{bs:List Bd}{ws:List V}(h:Kt G H n v bs ws)(f:Ke G H n H' n'):Kt G H' n' v bs ws:=
 ⟨h.el.ke h.lo f,h.lo.mono f.le,h.lt,h.len,λi b w x y=>(h.at' i b w x y).ke f⟩
theorem eF.ke{L:LV}{f:Fl}{vf vm v0 v1 v2 v3 v4 vb:V}{mws ws bws:List V}(h:eF G H n L f vf vm v0 v1 v2 v3 v4 vb mws ws bws)(e:Ke G H n H' n'):eF G H' n' L f vf vm v0 v1 v2 v3 v4 vb mws ws bws:=
 ⟨h.is,h.face.ke e,h.pool.ke e,h.bodies.ke e⟩
def Vs(G:AX)(H:Heap)(n:Nat)(v:V)(c:Fc):Prop:=∃vf vm ws,Xx G H n [c.nm.v,c.sup.v,vf,vm] c vf vm ws/\v=.agg [c.nm.v,c.sup.v,vf,vm]
theorem Vs.ke{c:Fc}(h:Vs G H n v c)(f:Ke G H n H' n'):Vs G H' n' v c:=by
 obtain⟨vf,vm,ws,h,hv⟩:=h;exact⟨vf,vm,ws,h.ke f,hv⟩
def Vq(G:AX)(H:Heap)(n:Nat)(v:V)(f:Fl):Prop:=∃L vf vm v0 v1 v2 v3 v4 vb mws ws bws,eF G H n L f vf vm v0 v1 v2 v3 v4 vb mws ws bws/\v=.agg L
theorem Vq.ke{f:Fl}(h:Vq G H n v f)(e:Ke G H n H' n'):Vq G H' n' v f:=by
 obtain⟨L,vf,vm,v0,v1,v2,v3,v4,vb,mws,ws,bws,h,hv⟩:=h;exact⟨L,vf,vm,v0,v1,v2,v3,v4,vb,mws,ws,bws,h.ke e,hv⟩
def Hq(H:Heap)(b:Nat):Prop:=∃ps,nK H b ps
structure Kb(b:Nat)(H:Heap)(n:Nat)(H':Heap)(n':Nat):Prop where
 le:n<=n'
 same:∀id,id<n->id≠b->T.get H' id=T.get H id
 seen:Hq H b->Hq H' b
theorem Kb.refl(b:Nat)(H:Heap)(n:Nat):Kb b H n H n:=⟨Nat.le_refl _,λ_ _ _=>rfl,λh=>h⟩
theorem Kb.trans{b:Nat}(x:Kb b H n H' n')(y:Kb b H' n' H'' n''):Kb b H n H'' n'':=
 ⟨Nat.le_trans x.le y.le,λid h hb=>(y.same id (Nat.lt_of_lt_of_le h x.le) hb).trans (x.same id h hb),λh=>y.seen (x.seen h)⟩
theorem Kb.trans'{b m:Nat}(x:Kb b H n H' n')(y:∀id,id<n->T.get H'' id=T.get H' id)(hm:n'<=m)(hb:b<n):Kb b H n H'' m:=
 ⟨Nat.le_trans x.le hm,λid h hne=>(y id h).trans (x.same id h hne),λh=>by
  obtain⟨ps,es,ck,hg,he⟩:=x.seen h;exact⟨ps,es,ck,(y b hb).trans hg,he⟩⟩
theorem Kb.low{b m:Nat}(f:Kb b H n H' n')(hm:m<=n):Kb b H m H' m:=⟨Nat.le_refl _,λid h hb=>f.same id (Nat.lt_of_lt_of_le h hm) hb,f.seen⟩
theorem Kb.ARN{b m:Nat}(f:Kb b H n H' n')(hm:m<=n):Kb b H m H' n':=⟨Nat.le_trans hm f.le,λid h hb=>f.same id (Nat.lt_of_lt_of_le h hm) hb,f.seen⟩
theorem Hq.same{b:Nat}(h:Hq H b)(e:T.get H' b=T.get H b):Hq H' b:=by
 obtain⟨ps,es,ck,hg,he⟩:=h;exact⟨ps,es,ck,e.trans hg,he⟩
theorem _root_.Go.Bv.Kp.kb{b:Nat}(f:Kp H n H' n')(hb:b<n):Kb b H n H' n':=⟨f.le,λid h _=>f.same id h,λh=>h.same (f.same b hb)⟩
theorem Kb.get{b id:Nat}{B:PZ}(f:Kb b H n H' n')(h:T.get H id=some B)(hi:id<n)(hb:id≠b):T.get H' id=some B:=(f.same id hi hb).trans h
theorem Hq.ld{b o z:Nat}(h:Hq H b):dI H b o z=none:=by
 obtain⟨ps,es,ck,hg,-⟩:=h;unfold dI;rw[hg];rfl
theorem Hq.elems{b z:Nat}(h:Hq H b){m o:Nat}{LS:ET}(he:CS H b z m o=some LS):m=0:=by
 cases m with
 |zero=>rfl
 |succ m=>
  have h':BR (dI H b (Nat.mul o z) z) (λL=>BR (CS H b z m (Nat.succ o)) λLS=>some (L::LS))=some LS:=he
  rw[h.ld]at h';cases h'
theorem Kb.ke{b:Nat}(f:Kb b H n H' n')(hs:Hq H b):Ke G H n H' n':=⟨f.le,λv z LS hl h=>by
 by_cases hv:v.X4=some b
 ·obtain⟨h1,h2⟩:=h
  refine⟨h1,?_⟩
  cases v<;>try (cases hv;done)
  ·rename_i id off m c e
   have hid:id=b:=Option.some.inj hv
   subst hid
   have h2':(Bool.rec (motive:=λ_=>Option ET) none (CS H id z m off) (Nat.beq e z):Option ET)=some LS:=h2
   show(Bool.rec (motive:=λ_=>Option ET) none (CS H' id z m off) (Nat.beq e z):Option ET)=some LS
   cases hb:Nat.beq e z with
   |false=>rw[hb]at h2';cases h2'
   |true=>
    rw[hb]at h2'
    have h3:CS H id z m off=some LS:=h2'
    have:=hs.elems h3
    subst this;exact h3
  ·rename_i id off m e
   have hid:id=b:=Option.some.inj hv
   subst hid
   have h2':(Bool.rec (motive:=λ_=>Option ET) none (CS H id z m off) (Nat.beq e z):Option ET)=some LS:=h2
   show(Bool.rec (motive:=λ_=>Option ET) none (CS H' id z m off) (Nat.beq e z):Option ET)=some LS
   cases hb:Nat.beq e z with
   |false=>rw[hb]at h2';cases h2'
   |true=>
    rw[hb]at h2'
    have h3:CS H id z m off=some LS:=h2'
    have:=hs.elems h3
    subst this;exact h3
 ·exact h.same λid hid=>f.same id (hl id hid) (by intro e;subst e;exact hv hid)⟩
end
abbrev Tab:=List (St×Fc)
def keyed{α β:Type}(ps:List (St×α))(fs:List (St×β)):Prop:=ps.map (·.1)=fs.map (·.1)
theorem eU{α β:Type}:∀{ps:List (St×α)} {fs:List (St×β)} (_:keyed ps fs) (s:St),(Cj ps s).isSome=(Cj fs s).isSome
 |[],[],_,s=>rfl
 |p::ps,f::fs,h,s=>by
  simp only[keyed,List.map_cons,List.cons.injEq]at h
  have ih:=eU (ps:=ps) (fs:=fs) h.2 s
  by_cases hp:p.1=s
  ·have hf:f.1=s:=h.1▸hp
   simp[Cj,hp,hf]
  ·have hf:¬f.1=s:=h.1▸hp
   simp only[Cj,List.find?_cons,hp,hf,decide_false]at ih⊢
   exact ih
 |[],_::_,h,_=>by simp[keyed]at h
 |_::_,[],h,_=>by simp[keyed]at h
theorem yK{α β:Type}(s:St)(a:α)(b:β):∀{ps:List (St×α)} {fs:List (St×β)} (_:keyed ps fs),keyed (VZ s a ps) (VZ s b fs)
 |[],[],_=>rfl
 |p::ps,f::fs,h=>by
  simp only[keyed,List.map_cons,List.cons.injEq]at h
  unfold VZ
  by_cases hp:p.1=s
  ·have hf:f.1=s:=h.1▸hp
   rw[if_pos hp,if_pos hf];simp[keyed,h.2]
  ·have hf:¬f.1=s:=h.1▸hp
   rw[if_neg hp,if_neg hf]
   have:=yK s a b (ps:=ps) (fs:=fs) h.2
   simp only[keyed,List.map_cons,List.cons.injEq]at this⊢
   exact⟨h.1,this⟩
 |[],_::_,h=>by simp[keyed]at h
 |_::_,[],h=>by simp[keyed]at h
structure o8(G:AX)(H:Heap)(n:Nat)(a:Nat)(fs:Tab):Prop where
 is:∃ps,nK H a ps/\keyed ps fs/\∀s v c,Cj ps s=some v->Cj fs s=some c->Vs G H n v c
structure TabAt(G:AX)(H:Heap)(n t a b:Nat)(fs:Tab):Prop where
 tn:t<n
 an:a<n
 bn:b<n
 tb:t≠b
 ab:a≠b
 at':T.get H t=some (one [.map a,.map b])
 faces:o8 G H n a fs
 seen:Hq H b
theorem iK{H H':Heap}{a:Nat}{ps:List (St×V)}(h:nK H a ps)(e:T.get H' a=T.get H a):nK H' a ps:=by
 obtain⟨es,ck,hg,he⟩:=h;exact⟨es,ck,e.trans hg,he⟩
theorem TabAt.kb{G:AX}{H H':Heap}{n n' t a b:Nat}{fs:Tab}(h:TabAt G H n t a b fs)(f:Kb b H n H' n'):TabAt G H' n' t a b fs:=by
 obtain⟨ps,h1,h2,h3⟩:=h.faces.is
 exact⟨Nat.lt_of_lt_of_le h.tn f.le,Nat.lt_of_lt_of_le h.an f.le,Nat.lt_of_lt_of_le h.bn f.le,h.tb,h.ab,f.get h.at' h.tn h.tb,
  ⟨ps,iK h1 (f.same a h.an h.ab),h2,λs v c x y=>(h3 s v c x y).ke (f.ke h.seen)⟩,f.seen h.seen⟩
theorem run_set{f:Nat}{args:List V}{G:AX}{H:Heap}{n m:Nat}{b:PZ}{k:KV}(h:∀H',Kp H n H' (n+1)->T.get H' n=some b->Runs F G f args H' m k):Runs F G f args (T.set H n b) m k:=
 h _ ((Kp.refl H n).new _ (Nat.le_refl _) (by omega)) (T.Ai ..)
theorem AJ3(i o:Nat):Cc (.one .ptr) false (.ptr i o) .OJ=some (.bool false):=rfl
abbrev DI:Fc:=⟨(0,0),(0,0),[],[]⟩
theorem AEi{G:AX}{H:Heap}{z:Nat}:El G H .AZ z []:=⟨rfl,rfl⟩
theorem tY{n:Nat}:Lo .AZ n:=λ_ h=>by cases h
theorem APt{G:AX}{H:Heap}{n:Nat}:Vs G H n (.agg [.str 0 0,.str 0 0,.AZ,.AZ]) DI:=
 ⟨.AZ,.AZ,[],⟨rfl,⟨AEi,tY,by decide,λ_ h=>by cases h⟩,⟨AEi,tY,by decide,rfl,λi m w h=>by simp at h,λ_ h=>by cases h⟩,λ_=>rfl,λ_=>rfl⟩,rfl⟩
theorem xC(L:LV):BA L []=some (.agg L):=rfl
theorem nH{G:AX}{H:Heap}{n n0 t a b:Nat}{fs:Tab}(h:TabAt G H n0 t a b fs)(hn:n0<=n){s:St}{k:KV}
 (hk:∀H' n' v,Kb b H n H' n'->Vs G H' n0 v ((Cj fs s).getD DI)->k (.Dz [v,.bool (Cj fs s).isSome]) H' n'):Runs F G Ee [.ptr t 0,s.v] H n k:=by
 refine BL (s:=TY (Ll lfp G)) Ut (by obtain⟨h,o⟩:=Zy BK G;rw[Ut]at h;cases h;exact o) ?_
 show Ll lfp G (Runs F G) (.ptr t 0) s.v H n k
 delta Ll
 have hbn:b<n:=Nat.lt_of_lt_of_le h.bn hn
 refine BU rfl λH1 f1 g1=>?_
 have h1:=h.kb ((f1.kb hbn).low hn)
 simp only[go_sem,AJ3,Nat.reduceAdd,AU (off:=1) h1.at' (v:=.map b) rfl]
 obtain⟨ps,hps⟩:=h1.seen
 refine AFi hps s _ λH2 hm2 hs2=>?_
 have f2:Kb b H1 (n+1) H2 (n+1):=⟨Nat.le_refl _,λid _ hb=>hs2 id hb,λ_=>⟨_,hm2⟩⟩
 have f3:=(f1.kb hbn).trans f2
 have h2:TabAt G H2 n0 t a b fs:=h.kb (f3.low hn)
 have g2:=f2.get g1 (by omega) (by omega)
 obtain⟨qs,hq,hkey,hv⟩:=h2.faces.is
 simp only[go_sem,Nat.reduceAdd,AU (off:=0) h2.at' (v:=.map a) rfl]
 rw[show s.v=.str s.1 s.2 from rfl,AB4 hq]
 have hsome:=eU hkey s
 have fin:∃v,APw (.agg [.str 0 0,.str 0 0,.AZ,.AZ]) (Cj qs s)=.Dz [v,.bool (Cj fs s).isSome]/\Vs G H2 n0 v ((Cj fs s).getD DI):=by
  cases hl:Cj qs s with
  |none=>
   rw[hl]at hsome
   cases hx:Cj fs s with
   |none=>exact⟨_,rfl,APt⟩
   |some x=>rw[hx]at hsome;cases hsome
  |some v=>
   rw[hl]at hsome
   cases hx:Cj fs s with
   |none=>rw[hx]at hsome;cases hsome
   |some x=>exact⟨v,rfl,hv _ _ _ hl hx⟩
 obtain⟨v,e,hf⟩:=fin
 obtain⟨vf,vm,ws,hf,rfl⟩:=hf
 rw[e]
 simp only[go_sem,Nat.reduceAdd]
 rw[Gn (m:=4) ((T.Ac _ _ (by omega)).trans ((T.Ac _ _ (by omega)).trans g2)) (by omega) rfl rfl,Eh (m:=4) (T.Ai ..) (by omega) rfl]
 simp only[go_sem]
 have e:Kp H2 n (T.set (T.set (T.set H2 (n+1) (one [.str 0 0,.str 0 0,.AZ,.AZ])) (n+1) (one [((Cj fs s).getD DI).nm.v,((Cj fs s).getD DI).sup.v,vf,vm])) n (one [((Cj fs s).getD DI).nm.v,((Cj fs s).getD DI).sup.v,vf,vm])) (n+1+1):=
  ((((Kp.refl H2 n).new (m:=n+1+1) _ (by omega) (by omega)).set _ (by omega)).set _ (Nat.le_refl _))
 have f7:Kb b H n H2 n:=⟨Nat.le_refl _,f3.same,f3.seen⟩
 exact hk _ _ _ (f7.trans (e.kb hbn)) ⟨vf,vm,ws,hf.ke ((e.ke).low hn),rfl⟩
def IJ:Nat->Tab->List St->St->List St×Bool
 |0,_,out,_=>(out,false)
 |m+1,fs,out,s=>bif decide (s.1=0/\s.2=0)then(out,true)else
  match Cj fs s with
  |none=>(out,false)
  |some c=>bif iL s out then(out,false)else IJ m fs (out++[s]) c.sup
def above(fs:Tab)(s:St):List St×Bool:=IJ (fs.length+1) fs [] s
theorem OI{s:St}{xs:List St}:iL s xs=true↔s∈xs:=by
 unfold iL
 rw[List.any_eq_true]
 constructor
 ·rintro⟨x,hx,h⟩
  have:=of_decide_eq_true h
  have e:s=x:=Prod.ext this.1 this.2
  exact e▸hx
 ·intro h;exact⟨s,h,by simp⟩
theorem AOC{α:Type}{ps:List (St×α)}{s:St}{v:α}(h:Cj ps s=some v):s∈ps.map (·.1):=by
 unfold Cj at h
 cases hf:ps.find? λp=>decide (p.1=s)with
 |none=>rw[hf]at h;cases h
 |some p=>
  have h1:=List.mem_of_find?_eq_some hf
  have h2:=List.find?_some hf
  exact List.mem_map.2 ⟨p,h1,of_decide_eq_true h2⟩
theorem AF0:∀{xs ys:List St} (_:xs.Nodup) (_:∀x∈xs,x∈ys),xs.length<=ys.length
 |[],_,_,_=>Nat.zero_le _
 |x::xs,ys,hn,h=>by
  rw[List.nodup_cons]at hn
  have hx:=h x (List.mem_cons_self ..)
  have:=AF0 (xs:=xs) (ys:=ys.erase x) hn.2 λz hz=>by
   have hz':=h z (List.mem_cons_of_mem _ hz)
   have hne:z≠x:=by intro e;subst e;exact hn.1 hz
   exact(List.mem_erase_of_ne hne).2 hz'
  rw[List.length_erase_of_mem hx]at this
  have hpos:0<ys.length:=List.length_pos_of_mem hx
  simp only[List.length_cons];omega
structure Own(G:AX)(H:Heap)(m n:Nat)(z:Nat)(v:V)(LS:ET):Prop where
 gr:Gr G H m z v LS
 lo:Lo v n
theorem Own.el{G:AX}{H:Heap}{m n z:Nat}{v:V}{LS:ET}(h:Own G H m n z v LS)(hz:0<z):El G H v z LS:=h.gr.el hz
theorem Own.kb{G:AX}{H H':Heap}{m n n' b z:Nat}{v:V}{LS:ET}(h:Own G H m n z v LS)(f:Kb b H n H' n')(hb:b<m):Own G H' m n' z v LS:=
 ⟨h.gr.mono λid hid=>f.same id (h.lo id hid) (by have:=(h.gr.lo hid).1;omega),h.lo.mono f.le⟩
theorem Own.kp{G:AX}{H H':Heap}{m n n' z:Nat}{v:V}{LS:ET}(h:Own G H m n z v LS)(f:Kp H n H' n'):Own G H' m n' z v LS:=
 ⟨h.gr.mono λid hid=>f.same id (h.lo id hid),h.lo.mono f.le⟩
theorem AN4{Z w:V}{H:Heap}{n:Nat}{P:KV}(hw:Z7 w=true)(hv:Au w=[w]):
 Bg (Aw 1 1 [Z] [(0,.c w)] E0) H n P=P (.sl n 0 1 1 1) (T.set H n (.arr 1 1 (T.set (T.set .e 0 [Z]) 0 [w]))) (n+1):=by
 show NC (band (band (Z7 w) (band true (Nat.beq (len (Au w)) 1))) true) (DT n λn=>P (.sl n 0 1 1 1) (T.set H n (.arr 1 1 (T.set (T.set .e 0 [Z]) 0 (Au w)))) (Nat.succ n))=_
 rw[hw,hv,BO];rfl
theorem AM2{G:AX}{Z w:V}{H:Heap}{n:Nat}{P:KV}(hw:Z7 w=true)(hv:Au w=[w])(h:∀H',Kp H n H' (n+1)->elems (.sl n 0 1 1 1) G H' 1=some [[w]]->P (.sl n 0 1 1 1) H' (n+1)):
 Bg (Aw 1 1 [Z] [(0,.c w)] E0) H n P:=by
 rw[AN4 hw hv]
 exact h _ ((Kp.refl H n).new _ (Nat.le_refl _) (by omega)) (jA (z:=1) (by omega) rfl (T.Ai ..)).2
theorem AN5(s:St):GI s.v s.v=true:=by
 show band (Nat.beq s.1 s.1) (Nat.beq s.2 s.2)=true
 simp
theorem aP{G:AX}{H:Heap}{n t a b:Nat}{fs:Tab}(h:TabAt G H n t a b fs)(hfs:fs.length<=1000){s:St}{k:KV}
 (hk:∀H' n' v,Kb b H n H' n'->Own G H' n n' 1 v (strs (above fs s).1)->(above fs s).1.length<=1001->k (.Dz [v,.bool (above fs s).2]) H' n'):Runs F G Dh [.ptr t 0,s.v] H n k:=by
 refine BL (s:=TY (Ku lfp G)) TP (by obtain⟨h,o⟩:=YG BK G;rw[TP]at h;cases h;exact o) ?_
 show Ku lfp G (Runs F G) (.ptr t 0) s.v H n k
 delta Ku
 have hbn:=h.bn
 refine JG (J:=λm st=>∃out s v H2 n2,m+out.length=fs.length+1/\st=(.ptr t 0,St.v s,v,H2,n2)/\Kb b H n H2 n2/\Own G H2 n n2 1 v (strs out)/\out.Nodup/\(∀x∈out,x∈fs.map (·.1))/\
  (∀H' n' v,Kb b H n H' n'->Own G H' n n' 1 v (strs (IJ m fs out s).1)->(IJ m fs out s).1.length<=1001->k (.Dz [v,.bool (IJ m fs out s).2]) H' n')) ?_ (m:=fs.length+1)
  ⟨[],s,.AZ,H,n,rfl,rfl,Kb.refl _ _ _,⟨.nil,tY⟩,List.nodup_nil,λ_ h=>absurd h List.not_mem_nil,hk⟩
 rintro I m st ⟨out,s,v,H2,n2,hm,rfl,f,ho,hnd,hsub,hk⟩ ih
 show QW lfp G (Runs F G) k I (.ptr t 0) s.v v H2 n2
 delta QW
 have hle:=AF0 hnd hsub
 rw[List.length_map]at hle
 obtain⟨m,rfl⟩:∃m',m=m'+1:=⟨m-1,by omega⟩
 unfold IJ at hk
 simp only[go_sem,St.v,AOH]
 cases h0:decide (s.1=0/\s.2=0)with
 |true=>
  rw[h0]at hk
  simp only[Bool.not_true,go_sem]
  delta Qb
  exact hk _ _ _ f ho (by show out.length<=1001;omega)
 |false=>
  rw[h0]at hk
  simp only[Bool.not_false,go_sem]
  refine nH (s:=s) (h.kb f) (Nat.le_refl _) λH3 n3 w f3 hw=>?_
  have f4:=f.trans f3
  have ho3:=ho.kb f3 hbn
  obtain⟨vf,vm,ws,hw,rfl⟩:=hw
  simp only[go_sem,Nat.reduceAdd,Bl]
  rw[T.set_set]
  cases hl:Cj fs s with
  |none=>
   rw[hl]at hk
   simp only[Option.isSome_none,Bool.not_false,go_sem]
   have f5:Kp H3 n3 (T.set H3 n3 (one [((none:Option Fc).getD DI).nm.v,((none:Option Fc).getD DI).sup.v,vf,vm])) (n3+1):=(Kp.refl _ _).new _ (Nat.le_refl _) (by omega)
   exact hk _ _ _ (f4.trans (f5.kb (by have:=f4.le;omega))) (ho3.kp f5) (by show out.length<=1001;omega)
  |some c=>
   rw[hl]at hk
   simp only[Option.isSome_some,Bool.not_true,go_sem,Option.getD_some]
   have hn3:=f4.le
   refine run_set λH4 f5 g5=>?_
   have f6:=f4.trans (f5.kb (b:=b) (by omega))
   have ho4:=ho3.kp f5
   refine uY (s:=s) (xs:=out) (ho4.el (by omega)) (by omega) ?_
   cases h1:iL s out with
   |true=>
    simp only[h1,cond_true]at hk
    simp only[go_sem]
    exact hk _ _ _ f6 ho4 (by show out.length<=1001;omega)
   |false=>
    simp only[h1,cond_false]at hk
    have hin:¬s∈out:=λh=>by rw[OI.2 h]at h1;cases h1
    simp only[go_sem]
    refine AM2 (G:=G) rfl rfl λH5 f7 g7=>?_
    have e1:AV (.ptr n3 1) G H5=some c.sup.v:=AU (f7.get g5 (by omega)) rfl
    rw[e1,AB]
    have ho5:=ho4.kp f7
    refine ho5.gr.app (by omega) ho5.lo g7 ?_ ?_ ?_
    ·rw[GZ];simp;omega
    ·intro v' H6 hg hs hlo
     have f8:Kb b H n H6 (n3+1+1+1):=(f6.trans (f7.kb (by omega))).trans' (λid hid=>hs id (by omega) (λhv=>by have:=(ho5.gr.lo hv).1;omega)) (by omega) hbn
     have e2:AV (.ptr n3 1) G H6=some c.sup.v:=AU ((hs n3 (by omega) (λhv=>by have:=ho.lo _ hv;have:=f3.le;omega)).trans (f7.get g5 (by omega))) rfl
     simp only[go_sem,e2,AN5]
     refine ih _ _ (Nat.lt_succ_self m) ⟨out++[s],c.sup,v',H6,_,by simp;omega,rfl,f8,⟨?_,hlo⟩,?_,?_,hk⟩
     ·rw[strs,List.map_append];exact hg
     ·rw[List.nodup_append];refine⟨hnd,by simp,?_⟩;intro x hx y hy;simp at hy;subst hy;intro e;subst e;exact hin hx
     ·intro x hx
      rcases List.mem_append.1 hx with hx|hx
      ·exact hsub x hx
      ·simp at hx;subst hx;exact AOC hl
    ·intro h;cases h
abbrev tyZ:Ty:=⟨(0,0),false⟩
abbrev X7:DK:=⟨(0,0),false,[],tyZ⟩
def dw(s:St):List ku->Option Ty
 |[]=>none
 |f::fs=>bif decide (f.nm.1=s.1/\f.nm.2=s.2)then some f.ty else dw s fs
def RP(s:St):List DK->Option DK
 |[]=>none
 |m::ms=>bif decide (m.nm.1=s.1/\m.nm.2=s.2)then some m else RP s ms
def pR(G:AX)(H:Heap)(n:Nat)(v:V)(m:DK):Prop:=∃w,v=.agg (m.cells w)/\KI G H n w m.ps
theorem pR.ke{G:AX}{H H':Heap}{n n':Nat}{v:V}{m:DK}(h:pR G H n v m)(f:Ke G H n H' n'):pR G H' n' v m:=by
 obtain⟨w,e,h⟩:=h;exact⟨w,e,h.ke f⟩
theorem ANH{G:AX}{H:Heap}{n:Nat}:pR G H n (.agg (X7.cells .AZ)) X7:=⟨.AZ,rfl,AEi,tY,by decide,λ_ h=>by cases h⟩
theorem AHM{G:AX}{H:Heap}{n:Nat}{v:V}{c:Fc}(h:Vs G H n v c){s:St}{k:KV}
 (hk:∀H' n',Kp H n H' n'->k (.Dz [((dw s c.fs).getD tyZ).v,.bool (dw s c.fs).isSome]) H' n'):Runs F G ay [v,s.v] H n k:=by
 refine BL (s:=TY (MX lfp G)) Uk (by obtain⟨h,o⟩:=Z4 BK G;rw[Uk]at h;cases h;exact o) ?_
 show MX lfp G (Runs F G) v s.v H n k
 obtain⟨vf,vm,ws,h,rfl⟩:=h
 delta MX
 refine Ew λH1 f1 g1=>?_
 refine BU rfl λH2 f2 g2=>?_
 simp only[go_sem,Nat.reduceAdd,AU (off:=2) (f2.get g1 (by omega)) (v:=vf) rfl,h.fs.len]
 have hbig:=h.fs.lt
 refine BN (N:=c.fs.length) (J:=λi st=>∃H' n',st=(s.v,.ptr (n+1) 0,vf,.int .i64 (.ofNat c.fs.length) 0,.int .i64 (.ofNat i) 0,H',n')/\Kp H n H' n'/\n+1<n'/\T.get H' (n+1)=some (one [.str 0 0,.bool false])/\
  (∀H' n',Kp H n H' n'->k (.Dz [((dw s (c.fs.drop i)).getD tyZ).v,.bool (dw s (c.fs.drop i)).isSome]) H' n')) ?_ ?_ ⟨H2,_,rfl,f1.trans f2,Nat.lt_succ_self _,g2,hk⟩
 ·rintro I i st hlt ⟨H3,n3,rfl,f3,hn3,g3,hk⟩ ih
  show JM lfp G (Runs F G) k I s.v (.ptr (n+1) 0) vf (.int .i64 (.ofNat c.fs.length) 0) (.int .i64 (.ofNat i) 0) H3 n3
  delta JM
  obtain⟨q,hp,hld⟩:=(h.fs.kp f3).at hlt
  rw[List.drop_eq_getElem_cons hlt]at hk
  unfold dw at hk
  generalize c.fs[i]=m at hld hk
  unfold ku.cells at hld
  simp only[go_sem,Bh,hlt,decide_true,hp,Bq hld,Nat.reduceAdd,show Cc (.one .str) false m.nm.v s.v=_ from AB7 ..]
  rw[T.set_set]
  have f4:=f3.new (m:=n3+1) (id:=n3) (one [m.nm.v,m.ty.nm.v,.bool m.ty.arr]) f3.le (by omega)
  cases h1:decide (m.nm.1=s.1/\m.nm.2=s.2)with
  |true=>
   simp only[h1,cond_true]at hk
   simp only[go_sem,Nat.reduceAdd]
   rw[Hy (m:=2) (off:=1) (T.Ai ..) (by omega) (by show 3<=3;omega),AB]
   show BZ 2 (.ptr (n+1) 0) (.agg [m.ty.nm.v,.bool m.ty.arr]) _ _ _
   rw[Gn (m:=2) ((T.Ac _ _ (by omega)).trans g3) (by omega) rfl rfl,Eh (m:=2) (T.Ai ..) (by omega) rfl]
   simp only[go_sem]
   exact hk _ _ (f4.set _ (by omega))
  |false=>
   simp only[h1,cond_false]at hk
   simp only[go_sem,DJ (show i+1<9223372036854775808 by unfold big at hbig;omega)]
   exact ih _ ⟨_,_,rfl,f4,by omega,(T.Ac _ _ (by omega)).trans g3,hk⟩
 ·rintro I st ⟨H3,n3,rfl,f3,hn3,g3,hk⟩
  show JM lfp G (Runs F G) k I s.v (.ptr (n+1) 0) vf (.int .i64 (.ofNat c.fs.length) 0) (.int .i64 (.ofNat c.fs.length) 0) H3 n3
  delta JM
  rw[List.drop_eq_nil_of_le (Nat.le_refl _)]at hk
  simp only[go_sem,Bh,Nat.lt_irrefl,decide_false]
  delta Qy
  simp only[xC,AB]
  rw[Gn (m:=2) g3 (by omega) rfl rfl,Eh (m:=2) (T.Ai ..) (by omega) rfl]
  simp only[go_sem]
  exact hk _ _ (f3.set _ (by omega))
theorem uz{G:AX}{H:Heap}{n n0:Nat}{v:V}{c:Fc}(h:Vs G H n0 v c)(hn:n0<=n){s:St}{k:KV}
 (hk:∀H' n' w,Kp H n H' n'->pR G H' n0 w ((RP s c.ms).getD X7)->k (.Dz [w,.bool (RP s c.ms).isSome]) H' n'):Runs F G Ue [v,s.v] H n k:=by
 refine BL (s:=TY (KY lfp G)) TW (by obtain⟨h,o⟩:=YV BK G;rw[TW]at h;cases h;exact o) ?_
 show KY lfp G (Runs F G) v s.v H n k
 obtain⟨vf,vm,ws,h,rfl⟩:=h
 delta KY
 refine Ew λH1 f1 g1=>?_
 refine BU rfl λH2 f2 g2=>?_
 simp only[go_sem,Nat.reduceAdd,AU (off:=3) (f2.get g1 (by omega)) (v:=vm) rfl,h.ms.len']
 have hbig:=h.ms.lt
 refine BN (N:=c.ms.length) (J:=λi st=>∃H' n',st=(s.v,.ptr (n+1) 0,vm,.int .i64 (.ofNat c.ms.length) 0,.int .i64 (.ofNat i) 0,H',n')/\Kp H n H' n'/\n+1<n'/\T.get H' (n+1)=some (one (X7.cells .AZ))/\
  (∀H' n' w,Kp H n H' n'->pR G H' n0 w ((RP s (c.ms.drop i)).getD X7)->k (.Dz [w,.bool (RP s (c.ms.drop i)).isSome]) H' n')) ?_ ?_ ⟨H2,_,rfl,f1.trans f2,Nat.lt_succ_self _,g2,hk⟩
 ·rintro I i st hlt ⟨H3,n3,rfl,f3,hn3,g3,hk⟩ ih
  show Ig lfp G (Runs F G) k I s.v (.ptr (n+1) 0) vm (.int .i64 (.ofNat c.ms.length) 0) (.int .i64 (.ofNat i) 0) H3 n3
  delta Ig
  obtain⟨q,w,hp,hld,hw⟩:=(h.ms.ke ((f3.ke).low hn)).at hlt
  rw[List.drop_eq_getElem_cons hlt]at hk
  unfold RP at hk
  generalize c.ms[i]=m at hld hk hw
  unfold DK.cells at hld
  simp only[go_sem,Bh,hlt,decide_true,hp,Bq hld,Nat.reduceAdd,show Cc (.one .str) false m.nm.v s.v=_ from AB7 ..]
  rw[T.set_set]
  have f4:=f3.new (m:=n3+1) (id:=n3) (one [m.nm.v,.bool m.st,w,m.ret.nm.v,.bool m.ret.arr]) f3.le (by omega)
  cases h1:decide (m.nm.1=s.1/\m.nm.2=s.2)with
  |true=>
   simp only[h1,cond_true]at hk
   simp only[go_sem,Nat.reduceAdd]
   rw[Gn (m:=5) ((T.Ac _ _ (by omega)).trans g3) (by omega) rfl rfl,Eh (m:=5) (T.Ai ..) (by omega) rfl]
   simp only[go_sem]
   have f5:=f4.set (one [m.nm.v,.bool m.st,w,m.ret.nm.v,.bool m.ret.arr]) (id:=n+1) (by omega)
   refine hk _ _ _ f5 ⟨w,rfl,hw.ke ?_⟩
   refine(Kp.ke (n:=n0) (n':=n3+1) ⟨by omega,λid hid=>?_⟩).low (Nat.le_refl _)
   rw[T.Ac _ _ (by omega),T.Ac _ _ (by omega)]
  |false=>
   simp only[h1,cond_false]at hk
   simp only[go_sem,DJ (show i+1<9223372036854775808 by unfold big at hbig;omega)]
   exact ih _ ⟨_,_,rfl,f4,by omega,(T.Ac _ _ (by omega)).trans g3,hk⟩
 ·rintro I st ⟨H3,n3,rfl,f3,hn3,g3,hk⟩
  show Ig lfp G (Runs F G) k I s.v (.ptr (n+1) 0) vm (.int .i64 (.ofNat c.ms.length) 0) (.int .i64 (.ofNat c.ms.length) 0) H3 n3
  delta Ig
  rw[List.drop_eq_nil_of_le (Nat.le_refl _)]at hk
  simp only[go_sem,Bh,Nat.lt_irrefl,decide_false]
  delta QU
  simp only[xC,AB]
  rw[Gn (m:=5) g3 (by omega) rfl rfl,Eh (m:=5) (T.Ai ..) (by omega) rfl]
  simp only[go_sem]
  exact hk _ _ _ (f3.set _ (by omega)) ANH
def DK.same(a b:DK):Bool:=decide (a.nm.1=b.nm.1/\a.nm.2=b.nm.2)&&((a.st==b.st)&&(a.ret.is b.ret&&gG a.ps b.ps))
theorem AUM(a b:Bool):Cc (.one .bool) false (.bool a) (.bool b)=some (.bool (a==b)):=by cases a<;>cases b<;>rfl
theorem xU{G:AX}{H:Heap}{n:Nat}{v w:V}{a b:DK}(h:pR G H n v a)(h2:pR G H n w b){k:KV}
 (hk:∀H' n',Kp H n H' n'->k (.bool (a.same b)) H' n'):Runs F G UL [v,w] H n k:=by
 refine BL (s:=TY (QA lfp G)) WU (by obtain⟨h,o⟩:=fA BK G;rw[WU]at h;cases h;exact o) ?_
 show QA lfp G (Runs F G) v w H n k
 obtain⟨x,rfl,h⟩:=h
 obtain⟨y,rfl,h2⟩:=h2
 delta QA
 unfold DK.same at hk
 refine Ew λH1 f1 g1=>?_
 refine Ew λH2 f2 g2=>?_
 have g1:=f2.get g1 (by omega)
 have f3:=f1.trans f2
 unfold DK.cells at g1 g2
 simp only[go_sem,Nat.reduceAdd,AU (off:=0) g1 rfl,AU (off:=0) g2 rfl,show Cc (.one .str) false a.nm.v b.nm.v=_ from AB7 ..]
 cases e1:decide (a.nm.1=b.nm.1/\a.nm.2=b.nm.2)with
 |false=>rw[e1]at hk;simp only[go_sem];exact hk _ _ f3
 |true=>
  rw[e1]at hk
  simp only[go_sem,Nat.reduceAdd,AU (off:=1) g1 rfl,AU (off:=1) g2 rfl,AUM]
  cases e2:a.st==b.st with
  |false=>rw[e2]at hk;simp only[go_sem];exact hk _ _ f3
  |true=>
   rw[e2]at hk
   have l1:Ae 2 (.ptr n 3) G H2=some a.ret.v:=Hy g1 (by omega) (by show 5<=5;omega)
   have l2:Ae 2 (.ptr (n+1) 3) G H2=some b.ret.v:=Hy g2 (by omega) (by show 5<=5;omega)
   have e:Cc (.agg [.str,.bool]) false a.ret.v b.ret.v=_:=lH a.ret b.ret
   simp only[go_sem,Nat.reduceAdd,l1,l2,e]
   cases e3:a.ret.is b.ret with
   |false=>rw[e3]at hk;simp only[go_sem];exact hk _ _ f3
   |true=>
    rw[e3]at hk
    simp only[go_sem,Nat.reduceAdd,AU (off:=2) g1 (v:=x) rfl,AU (off:=2) g2 (v:=y) rfl]
    refine ANt (h.el.kp h.lo f3) (h2.el.kp h2.lo f3) h.lt ?_
    exact hk _ _ f3
def TK(fs:Tab)(t:Ty):Bool:=Td t.nm&&(!upper t.nm.1 t.nm.2||(Cj fs t.nm).isSome)
theorem jO{G:AX}{H:Heap}{n t a b:Nat}{fs:Tab}(h:TabAt G H n t a b fs){v:V}{xs:List Ty}(hx:KI G H n v xs){k:KV}
 (hk:∀H' n',Kb b H n H' n'->k (.bool (xs.all (TK fs))) H' n'):Runs F G LD [.ptr t 0,v] H n k:=by
 refine BL (s:=TY (KP lfp G)) S9 (by obtain⟨h,o⟩:=YO BK G;rw[S9]at h;cases h;exact o) ?_
 show KP lfp G (Runs F G) (.ptr t 0) v H n k
 delta KP
 have hbn:=h.bn
 have hbig:=hx.lt
 rw[hx.len,AB]
 refine BN (N:=xs.length) (J:=λi st=>∃H' n',st=(.ptr t 0,v,.int .i64 (.ofNat xs.length) 0,.int .i64 (.ofNat i) 0,H',n')/\Kb b H n H' n'/\
  (∀H' n',Kb b H n H' n'->k (.bool ((xs.drop i).all (TK fs))) H' n')) ?_ ?_ ⟨H,n,rfl,Kb.refl _ _ _,hk⟩
 ·rintro I i st hlt ⟨H3,n3,rfl,f3,hk⟩ ih
  show Ie lfp G (Runs F G) k I (.ptr t 0) v (.int .i64 (.ofNat xs.length) 0) (.int .i64 (.ofNat i) 0) H3 n3
  delta Ie
  have h3:=h.kb f3
  have hx3:=hx.ke (f3.ke h.seen)
  obtain⟨q,hp,hld⟩:=hx3.el.at (Ug hlt)
  have hok:=hx.ok _ (List.getElem_mem hlt)
  rw[List.drop_eq_getElem_cons hlt,List.all_cons]at hk
  generalize xs[i]=m at hok hld hk
  unfold Ty.cells at hld
  unfold TK at hk
  have h3n:=f3.le
  simp only[go_sem,Bh,hlt,decide_true,hp,Bq hld,Nat.reduceAdd]
  rw[T.set_set]
  refine run_set λH4 f4 g4=>?_
  have f5:=f3.trans (f4.kb (b:=b) (by omega))
  refine yR hok λH6 n6 f6=>?_
  have f7:=f5.trans (f6.kb (b:=b) (by omega))
  have g6:=f6.get g4 (by omega)
  have h6n:=f6.le
  simp only[Bl,go_sem]
  cases h1:Td m.nm with
  |false=>
   rw[show vP m.nm.1 m.nm.2=false from h1]
   simp only[h1,Bool.false_and]at hk
   simp only[Bool.not_false,go_sem]
   exact hk _ _ f7
  |true=>
   rw[show vP m.nm.1 m.nm.2=true from h1]
   simp only[h1,Bool.true_and]at hk
   simp only[Bool.not_true,go_sem,Nat.reduceAdd,AU (off:=0) g6 (v:=m.nm.v) rfl]
   refine uo λH8 n8 f8=>?_
   refine ou hok λH9 n9 f9=>?_
   have f10:=f7.trans ((f8.trans f9).kb (b:=b) (by omega))
   have g9:=(f8.trans f9).get g6 (by omega)
   have h9n:=(f8.trans f9).le
   rw[show isClass m.nm.1 m.nm.2 false=upper m.nm.1 m.nm.2 by simp[isClass]]
   have go:∀H' n',Kb b H n H' n'->(∀H' n',Kb b H n H' n'->k (.bool ((xs.drop (i+1)).all (TK fs))) H' n')->Ia lfp G (Runs F G) k I (.ptr t 0) v (.int .i64 (.ofNat xs.length) 0) (.int .i64 (.ofNat i) 0) H' n':=by
    intro H' n' f hk
    delta Ia
    simp only[go_sem,DJ (show i+1<9223372036854775808 by unfold big at hbig;omega)]
    exact ih _ ⟨_,_,rfl,f,hk⟩
   cases h2:upper m.nm.1 m.nm.2 with
   |false=>
    simp only[h2,Bool.not_false,Bool.true_or,Bool.true_and]at hk
    simp only[go_sem]
    exact go _ _ f10 hk
   |true=>
    simp only[h2,Bool.not_true,Bool.false_or]at hk
    simp only[go_sem,Nat.reduceAdd,AU (off:=0) g9 (v:=m.nm.v) rfl]
    refine nH (s:=m.nm) (h.kb f10) (Nat.le_refl _) λH11 n11 w f11 hw=>?_
    obtain⟨vf,vm,ws,hw,rfl⟩:=hw
    have f12:=f10.trans f11
    have h12n:=f12.le
    simp only[go_sem,Nat.reduceAdd,Bl]
    rw[T.set_set]
    have f13:Kp H11 n11 (T.set H11 n11 (one [((Cj fs m.nm).getD DI).nm.v,((Cj fs m.nm).getD DI).sup.v,vf,vm])) (n11+1):=(Kp.refl _ _).new _ (Nat.le_refl _) (by omega)
    have f14:=f12.trans (f13.kb (b:=b) (by omega))
    cases h3:(Cj fs m.nm).isSome with
    |false=>
     simp only[h3,Bool.false_and]at hk
     simp only[Bool.not_false,go_sem]
     exact hk _ _ f14
    |true=>
     simp only[h3,Bool.true_and]at hk
     simp only[Bool.not_true,go_sem]
     exact go _ _ f14 hk
 ·rintro I st ⟨H3,n3,rfl,f3,hk⟩
  show Ie lfp G (Runs F G) k I (.ptr t 0) v (.int .i64 (.ofNat xs.length) 0) (.int .i64 (.ofNat xs.length) 0) H3 n3
  delta Ie
  rw[List.drop_eq_nil_of_le (Nat.le_refl _)]at hk
  simp only[go_sem,Bh,Nat.lt_irrefl,decide_false]
  delta QJ
  exact hk _ _ f3
def jh(fs:Tab)(s:St):List St->Option (St×Ty)
 |[]=>none
 |c::cs=>match dw s ((Cj fs c).getD DI).fs with
  |some t=>some (c,t)
  |none=>jh fs s cs
def V6(fs:Tab)(c s:St):Option (St×Ty):=jh fs s (above fs c).1
theorem AJW{G:AX}{H:Heap}{n t a b:Nat}{fs:Tab}(h:TabAt G H n t a b fs)(hfs:fs.length<=1000){c s:St}{k:KV}
 (hk:∀H' n',Kb b H n H' n'->k (.Dz [((V6 fs c s).getD ((0,0),tyZ)).1.v,((V6 fs c s).getD ((0,0),tyZ)).2.v,.bool (V6 fs c s).isSome]) H' n'):Runs F G UY [.ptr t 0,c.v,s.v] H n k:=by
 refine BL (s:=ar3 (Kv lfp G)) Sz (by obtain⟨h,o⟩:=YP BK G;rw[Sz]at h;cases h;exact o) ?_
 show Kv lfp G (Runs F G) (.ptr t 0) c.v s.v H n k
 delta Kv
 have hbn:=h.bn
 unfold V6 at hk
 refine BU rfl λH1 f1 g1=>?_
 have f1:=f1.kb (b:=b) hbn
 refine aP (h.kb f1) hfs λH2 n2 v f2 ho hlen=>?_
 generalize(above fs c).1=cs at ho hk hlen
 have f3:=f1.trans f2
 have g2:=f2.get g1 (by omega) (by omega)
 have h2n:=f2.le
 simp only[go_sem,(ho.el (by omega)).len,GZ]
 refine BN (N:=cs.length) (J:=λi st=>∃H' n',st=(.ptr t 0,s.v,.ptr n 0,v,.int .i64 (.ofNat cs.length) 0,.int .i64 (.ofNat i) 0,H',n')/\Kb b H n H' n'/\n<n'/\Own G H' (n+1) n' 1 v (strs cs)/\T.get H' n=some (one [.str 0 0,.bool false])/\
  (∀H' n',Kb b H n H' n'->k (.Dz [((jh fs s (cs.drop i)).getD ((0,0),tyZ)).1.v,((jh fs s (cs.drop i)).getD ((0,0),tyZ)).2.v,.bool (jh fs s (cs.drop i)).isSome]) H' n')) ?_ ?_ ⟨H2,n2,rfl,f3,by omega,ho,g2,hk⟩
 ·rintro I i st hlt ⟨H3,n3,rfl,f3,hn3,ho,g3,hk⟩ ih
  show Ii lfp G (Runs F G) k I (.ptr t 0) s.v (.ptr n 0) v (.int .i64 (.ofNat cs.length) 0) (.int .i64 (.ofNat i) 0) H3 n3
  delta Ii
  obtain⟨q,hp,hld⟩:=(ho.el (by omega)).at (PL hlt)
  rw[List.drop_eq_getElem_cons hlt]at hk
  unfold jh at hk
  generalize cs[i]=m at hld hk
  simp only[go_sem,Bh,hlt,decide_true,hp,Ld hld]
  refine nH (s:=m) (h.kb f3) (Nat.le_refl _) λH4 n4 w f4 hw=>?_
  obtain⟨vf,vm,ws,hw,rfl⟩:=hw
  have f5:=f3.trans f4
  have h5n:=f4.le
  simp only[go_sem,Nat.reduceAdd]
  rw[T.set_set]
  refine run_set λH6 f6 g6=>?_
  have f6':=f6.kb (b:=b) (by omega)
  have f7:=f5.trans f6'
  refine AHM (s:=s) (n:=n4+1) (v:=.agg [((Cj fs m).getD DI).nm.v,((Cj fs m).getD DI).sup.v,vf,vm]) (c:=(Cj fs m).getD DI) ⟨vf,vm,ws,hw.ke ⟨by omega,λv z LS hl he=>(f6.ke).el v z LS (hl.mono f4.le) he⟩,rfl⟩ λH8 n8 f8=>?_
  have f8':=f8.kb (b:=b) (by omega)
  have f9:=f7.trans f8'
  have h9n:=f8.le
  have f10:=f4.trans (f6'.trans f8')
  have ho:=ho.kb f10 (by omega)
  have g10:=f10.get g3 hn3 (by omega)
  unfold Ty.v Ty.cells
  simp only[go_sem,Nat.reduceAdd]
  rw[T.set_set]
  cases h1:dw s ((Cj fs m).getD DI).fs with
  |some ty=>
   rw[h1]at hk
   simp only[Option.isSome_some,go_sem,Option.getD_some]
   rw[Gn (m:=2) ((T.Ac _ _ (by omega)).trans g10) (by omega) rfl rfl]
   rw[Eh (m:=2) (T.Ai ..) (by omega) rfl]
   simp only[go_sem]
   refine hk _ _ (f9.trans' (m:=n8+1) (λid hid=>?_) (by omega) hbn)
   rw[T.Ac _ _ (by omega),T.Ac _ _ (by omega)]
  |none=>
   rw[h1]at hk
   simp only[Option.isSome_none,go_sem,Option.getD_none]
   simp only[go_sem,DJ (show i+1<9223372036854775808 by omega)]
   refine ih _ ⟨_,_,rfl,f9.trans' (m:=n8+1) (λid hid=>?_) (by omega) hbn,by omega,ho.kp ((Kp.refl _ _).new _ (Nat.le_refl _) (by omega)),(T.Ac _ _ (by omega)).trans g10,hk⟩
   rw[T.Ac _ _ (by omega)]
 ·rintro I st ⟨H3,n3,rfl,f3,hn3,ho,g3,hk⟩
  show Ii lfp G (Runs F G) k I (.ptr t 0) s.v (.ptr n 0) v (.int .i64 (.ofNat cs.length) 0) (.int .i64 (.ofNat cs.length) 0) H3 n3
  delta Ii
  rw[List.drop_eq_nil_of_le (Nat.le_refl _)]at hk
  simp only[go_sem,Bh,Nat.lt_irrefl,decide_false]
  delta QM
  simp only[xC,AB]
  rw[Gn (m:=2) g3 (by omega) rfl rfl,AEZ,Eh (m:=2) (T.Ai ..) (by omega) rfl]
  simp only[go_sem]
  refine hk _ _ (f3.trans' (m:=n3) (λid hid=>?_) (by omega) hbn)
  rw[T.Ac _ _ (by omega)]
def AJk(st:Bool)(s:St)(ms:List DK):Option DK:=match RP s ms with
 |some m=>bif m.st==st then some m else none
 |none=>none
def dR(fs:Tab)(s:St)(st:Bool):List St->Option (St×DK)
 |[]=>none
 |c::cs=>match AJk st s ((Cj fs c).getD DI).ms with
  |some m=>some (c,m)
  |none=>dR fs s st cs
def mW(fs:Tab)(c s:St)(st:Bool):Option (St×DK):=dR fs s st (above fs c).1
theorem AGa{G:AX}{H:Heap}{n t a b:Nat}{fs:Tab}(h:TabAt G H n t a b fs)(hfs:fs.length<=1000){c s:St}{st:Bool}{k:KV}
 (hk:∀H' n' w,Kb b H n H' n'->pR G H' n w ((mW fs c s st).getD ((0,0),X7)).2->k (.Dz [((mW fs c s st).getD ((0,0),X7)).1.v,w,.bool (mW fs c s st).isSome]) H' n'):
 Runs F G TI [.ptr t 0,c.v,s.v,.bool st] H n k:=by
 refine BL (s:=ar4 (Jl lfp G)) RQ (by obtain⟨h,o⟩:=XJ BK G;rw[RQ]at h;cases h;exact o) ?_
 show Jl lfp G (Runs F G) (.ptr t 0) c.v s.v (.bool st) H n k
 delta Jl
 have hbn:=h.bn
 unfold mW at hk
 refine BU rfl λH1 f1 g1=>?_
 have f1:=f1.kb (b:=b) hbn
 refine aP (h.kb f1) hfs λH2 n2 v f2 ho hlen=>?_
 generalize(above fs c).1=cs at ho hk hlen
 have f3:=f1.trans f2
 have g2:=f2.get g1 (by omega) (by omega)
 have h2n:=f2.le
 simp only[go_sem,(ho.el (by omega)).len,GZ]
 refine BN (N:=cs.length) (J:=λi q=>∃H' n',q=(.ptr t 0,s.v,.bool st,.ptr n 0,v,.int .i64 (.ofNat cs.length) 0,.int .i64 (.ofNat i) 0,H',n')/\Kb b H n H' n'/\n<n'/\Own G H' (n+1) n' 1 v (strs cs)/\T.get H' n=some (one (X7.cells .AZ))/\
  (∀H' n' w,Kb b H n H' n'->pR G H' n w ((dR fs s st (cs.drop i)).getD ((0,0),X7)).2->k (.Dz [((dR fs s st (cs.drop i)).getD ((0,0),X7)).1.v,w,.bool (dR fs s st (cs.drop i)).isSome]) H' n')) ?_ ?_ ⟨H2,n2,rfl,f3,by omega,ho,g2,hk⟩
 ·rintro I i q hlt ⟨H3,n3,rfl,f3,hn3,ho,g3,hk⟩ ih
  show G7 lfp G (Runs F G) k I (.ptr t 0) s.v (.bool st) (.ptr n 0) v (.int .i64 (.ofNat cs.length) 0) (.int .i64 (.ofNat i) 0) H3 n3
  delta G7
  obtain⟨q,hp,hld⟩:=(ho.el (by omega)).at (PL hlt)
  rw[List.drop_eq_getElem_cons hlt]at hk
  unfold dR at hk
  generalize cs[i]=m at hld hk
  simp only[go_sem,Bh,hlt,decide_true,hp,Ld hld]
  refine nH (s:=m) (n0:=n) (h.kb (f3.low (Nat.le_refl _))) (by omega) λH4 n4 w f4 hw=>?_
  obtain⟨vf,vm,ws,hw,rfl⟩:=hw
  have f5:=f3.trans f4
  have h5n:=f4.le
  simp only[go_sem,Nat.reduceAdd]
  rw[T.set_set]
  refine run_set λH6 f6 g6=>?_
  have f6':=f6.kb (b:=b) (by omega)
  have f7:=f5.trans f6'
  refine uz (s:=s) (n:=n4+1) (n0:=n) (v:=.agg [((Cj fs m).getD DI).nm.v,((Cj fs m).getD DI).sup.v,vf,vm]) (c:=(Cj fs m).getD DI) ⟨vf,vm,ws,hw.ke ((f6.ke).low (by omega)),rfl⟩ (by omega) λH8 n8 w f8 hw=>?_
  have f8':=f8.kb (b:=b) (by omega)
  have f9:=f7.trans f8'
  have h9n:=f8.le
  have f10:=f4.trans (f6'.trans f8')
  have ho:=ho.kb f10 (by omega)
  have g10:=f10.get g3 hn3 (by omega)
  obtain⟨x,rfl,hx⟩:=hw
  unfold AJk at hk
  have g11:T.get (T.set H8 n8 (one (((RP s ((Cj fs m).getD DI).ms).getD X7).cells x))) n8=_:=T.Ai ..
  have g12:T.get (T.set H8 n8 (one (((RP s ((Cj fs m).getD DI).ms).getD X7).cells x))) n=_:=(T.Ac _ _ (by omega)).trans g10
  unfold DK.cells at g11 g12⊢
  simp only[go_sem,Nat.reduceAdd]
  rw[T.set_set]
  have no:(∀H' n' w,Kb b H n H' n'->pR G H' n w ((dR fs s st (cs.drop (i+1))).getD ((0,0),X7)).2->k (.Dz [((dR fs s st (cs.drop (i+1))).getD ((0,0),X7)).1.v,w,.bool (dR fs s st (cs.drop (i+1))).isSome]) H' n')->
   I (.ptr t 0,s.v,.bool st,.ptr n 0,v,.int .i64 (.ofNat cs.length) 0,.int .i64 (.ofNat (i+1)) 0,T.set H8 n8 (one (((RP s ((Cj fs m).getD DI).ms).getD X7).cells x)),n8+1):=λhk=>by
   refine ih _ ⟨_,_,rfl,f9.trans' (m:=n8+1) (λid hid=>T.Ac _ _ (by omega)) (by omega) hbn,by omega,ho.kp ((Kp.refl _ _).new _ (Nat.le_refl _) (by omega)),(T.Ac _ _ (by omega)).trans g10,hk⟩
  unfold DK.cells at no
  cases h1:RP s ((Cj fs m).getD DI).ms with
  |none=>
   rw[h1]at hk g11 g12 no
   simp only[Option.isSome_none,go_sem,Option.getD_none,DJ (show i+1<9223372036854775808 by omega)]
   exact no hk
  |some o=>
   rw[h1]at hk g11 g12 no hx
   simp only[Option.getD_some]at g11 g12 no hx
   simp only[Option.isSome_some,go_sem,Option.getD_some,Nat.reduceAdd,AU (off:=1) g11 rfl,AUM]
   cases h2:o.st==st with
   |false=>
    simp only[h2,cond_false]at hk
    simp only[go_sem,DJ (show i+1<9223372036854775808 by omega)]
    exact no hk
   |true=>
    simp only[h2,cond_true]at hk
    simp only[go_sem]
    rw[Gn (m:=5) g12 (by omega) rfl rfl]
    rw[Eh (m:=5) (T.Ai ..) (by omega) rfl]
    simp only[go_sem]
    have f11:∀id,id<n->T.get (T.set (T.set H8 n8 (one [o.nm.v,.bool o.st,x,o.ret.nm.v,.bool o.ret.arr])) n (one [o.nm.v,.bool o.st,x,o.ret.nm.v,.bool o.ret.arr])) id=T.get H8 id:=λid hid=>by
     rw[T.Ac _ _ (by omega),T.Ac _ _ (by omega)]
    exact hk _ _ _ (f9.trans' (m:=n8+1) f11 (by omega) hbn) ⟨x,rfl,hx.ke ((Kp.ke (n:=n) (n':=n) ⟨Nat.le_refl _,f11⟩))⟩
 ·rintro I q ⟨H3,n3,rfl,f3,hn3,ho,g3,hk⟩
  show G7 lfp G (Runs F G) k I (.ptr t 0) s.v (.bool st) (.ptr n 0) v (.int .i64 (.ofNat cs.length) 0) (.int .i64 (.ofNat cs.length) 0) H3 n3
  delta G7
  rw[List.drop_eq_nil_of_le (Nat.le_refl _)]at hk
  simp only[go_sem,Bh,Nat.lt_irrefl,decide_false]
  delta O6
  simp only[xC,AB]
  rw[Gn (m:=5) g3 (by omega) rfl rfl,AEZ,Eh (m:=5) (T.Ai ..) (by omega) rfl]
  simp only[go_sem]
  refine hk _ _ _ (f3.trans' (m:=n3) (λid hid=>?_) (by omega) hbn) ANH
  rw[T.Ac _ _ (by omega)]
def twin(a:Option St):List St->Bool
 |[]=>false
 |x::xs=>(match a with|some y=>decide (y.1=x.1/\y.2=x.2)|none=>false)||twin (some x) xs
abbrev AG4(fs:List ku):List St:=fs.map λf=>f.nm
abbrev ADE(fs:List DK):List St:=fs.map λf=>f.nm
def twice(c:Fc):Bool:=twin none (AG4 c.fs)||twin none (ADE c.ms)
theorem AS3(a b:St):Cc (.one .str) false a.v b.v=some (.bool (decide (a.1=b.1/\a.2=b.2))):=AB7 ..
theorem AT9(i:Nat):B2.ev .gtr (.int .i64 (.ofNat i) 0) (.int .i64 (.ofNat 0) 0)=some (.bool (decide (0<i))):=Iu ..
theorem AO8{G:AX}(hG:Qa G){H:Heap}{n:Nat}{v:V}{c:Fc}(h:Vs G H n v c){k:KV}(hk:∀H' n',Kp H n H' n'->k (.bool (twice c)) H' n'):Runs F G uj [v] H n k:=by
 refine BL (s:=Lu (VR lfp G)) cZ (by obtain⟨h,o⟩:=qx BK G;rw[cZ]at h;cases h;exact o) ?_
 show VR lfp G (Runs F G) v H n k
 obtain⟨vf,vm,ws,h,rfl⟩:=h
 delta VR
 unfold twice at hk
 refine Ew λH1 f1 g1=>?_
 have hf:=h.fs.kp f1
 have hm:=h.ms.kp f1
 have l2:AV (.ptr n 2) G H1=some vf:=AU g1 rfl
 have l3:AV (.ptr n 3) G H1=some vm:=AU g1 rfl
 have hbf:=hf.lt
 have hbm:=hm.lt
 simp only[go_sem,Nat.reduceAdd,l2,h.fs.len]
 have AQL:(∀H' n',Kp H n H' n'->k (.bool (twin none (ADE c.ms))) H' n')->UO lfp G (Runs F G) k (.ptr n 0) H1 (n+1):=by
  intro hk
  delta UO
  simp only[go_sem,Nat.reduceAdd,l3,h.ms.len']
  refine BN (N:=c.ms.length) (J:=λi q=>q=(.ptr n 0,.int .i64 (.ofNat c.ms.length) 0,.int .i64 (.ofNat i) 0,H1,n+1)/\
   (k (.bool (twin (match i with|0=>none|i+1=>(ADE c.ms)[i]?) ((ADE c.ms).drop i))) H1 (n+1))) ?_ ?_ ⟨rfl,hk _ _ f1⟩
  ·rintro I i q hlt ⟨rfl,hk⟩ ih
   show QB lfp G (Runs F G) k I (.ptr n 0) (.int .i64 (.ofNat c.ms.length) 0) (.int .i64 (.ofNat i) 0) H1 (n+1)
   delta QB
   have hlt':i<(ADE c.ms).length:=by simpa using hlt
   rw[List.drop_eq_getElem_cons hlt',List.getElem_map]at hk
   unfold twin at hk
   obtain⟨q,w,hp,hld,-⟩:=hm.at hlt
   obtain⟨q',hp',hld'⟩:=XU hG hld rfl (o:=0) (x:=c.ms[i].nm.v) rfl
   simp only[go_sem,Bh,hlt,decide_true,AT9]
   have next:(k (.bool (twin (some c.ms[i].nm) ((ADE c.ms).drop (i+1)))) H1 (n+1))->I (.ptr n 0,.int .i64 (.ofNat c.ms.length) 0,.int .i64 (.ofNat (i+1)) 0,H1,n+1):=λhk=>by
    refine ih _ ⟨rfl,?_⟩
    show k (.bool (twin ((ADE c.ms)[i]?) _)) H1 (n+1)
    rw[List.getElem?_eq_getElem hlt',List.getElem_map];exact hk
   cases i with
   |zero=>
    simp only[Nat.lt_irrefl,decide_false,go_sem,DJ (show 0+1<9223372036854775808 by omega)]
    exact next hk
   |succ i=>
    have hlt2:i<c.ms.length:=by omega
    obtain⟨r,w2,hr,hldr,-⟩:=hm.at hlt2
    obtain⟨r',hr',hldr'⟩:=XU hG hldr rfl (o:=0) (x:=c.ms[i].nm.v) rfl
    simp only[Nat.zero_lt_succ,decide_true,go_sem,Nat.reduceAdd,l3,yD (show i+1<9223372036854775808 by unfold big at hbm;omega),hr,hr',hldr',hp,hp',hld',AS3]
    have hk:k (.bool (decide (c.ms[i].nm.1=c.ms[i+1].nm.1/\c.ms[i].nm.2=c.ms[i+1].nm.2)||twin (some c.ms[i+1].nm) ((ADE c.ms).drop (i+1+1)))) H1 (n+1):=by
     have e:(ADE c.ms)[i]? =some c.ms[i].nm:=by rw[List.getElem?_map,List.getElem?_eq_getElem hlt2];rfl
     simp only[e]at hk;exact hk
    cases e:decide (c.ms[i].nm.1=c.ms[i+1].nm.1/\c.ms[i].nm.2=c.ms[i+1].nm.2)with
    |true=>rw[e]at hk;simp only[go_sem];exact hk
    |false=>
     rw[e]at hk
     simp only[go_sem,DJ (show i+1+1<9223372036854775808 by unfold big at hbm;omega)]
     exact next hk
  ·rintro I q ⟨rfl,hk⟩
   show QB lfp G (Runs F G) k I (.ptr n 0) (.int .i64 (.ofNat c.ms.length) 0) (.int .i64 (.ofNat c.ms.length) 0) H1 (n+1)
   delta QB
   rw[List.drop_eq_nil_of_le (by simp)]at hk
   simp only[go_sem,Bh,Nat.lt_irrefl,decide_false]
   delta YE
   exact hk
 generalize twin none (ADE c.ms)=B at hk AQL
 refine BN (N:=c.fs.length) (J:=λi q=>q=(.ptr n 0,.int .i64 (.ofNat c.fs.length) 0,.int .i64 (.ofNat i) 0,H1,n+1)/\
  (∀H' n',Kp H n H' n'->k (.bool (twin (match i with|0=>none|i+1=>(AG4 c.fs)[i]?) ((AG4 c.fs).drop i)||B)) H' n')) ?_ ?_ ⟨rfl,hk⟩
 ·rintro I i q hlt ⟨rfl,hk⟩ ih
  show N7 lfp G (Runs F G) k I (.ptr n 0) (.int .i64 (.ofNat c.fs.length) 0) (.int .i64 (.ofNat i) 0) H1 (n+1)
  delta N7
  have hlt':i<(AG4 c.fs).length:=by simpa using hlt
  rw[List.drop_eq_getElem_cons hlt',List.getElem_map]at hk
  unfold twin at hk
  obtain⟨q,hp,hld⟩:=hf.at hlt
  obtain⟨q',hp',hld'⟩:=XU hG hld rfl (o:=0) (x:=c.fs[i].nm.v) rfl
  simp only[go_sem,Bh,hlt,decide_true,AT9]
  have next:(∀H' n',Kp H n H' n'->k (.bool (twin (some c.fs[i].nm) ((AG4 c.fs).drop (i+1))||B)) H' n')->I (.ptr n 0,.int .i64 (.ofNat c.fs.length) 0,.int .i64 (.ofNat (i+1)) 0,H1,n+1):=λhk=>by
   refine ih _ ⟨rfl,?_⟩
   show ∀H' n',Kp H n H' n'->k (.bool (twin ((AG4 c.fs)[i]?) _||_)) H' n'
   rw[List.getElem?_eq_getElem hlt',List.getElem_map];exact hk
  cases i with
  |zero=>
   simp only[Nat.lt_irrefl,decide_false,go_sem,DJ (show 0+1<9223372036854775808 by omega)]
   simp only[Bool.false_or]at hk
   exact next hk
  |succ i=>
   have hlt2:i<c.fs.length:=by omega
   obtain⟨r,hr,hldr⟩:=hf.at hlt2
   obtain⟨r',hr',hldr'⟩:=XU hG hldr rfl (o:=0) (x:=c.fs[i].nm.v) rfl
   simp only[Nat.zero_lt_succ,decide_true,go_sem,Nat.reduceAdd,l2,yD (show i+1<9223372036854775808 by unfold big at hbf;omega),hr,hr',hldr',hp,hp',hld',AS3]
   have hk:∀H' n',Kp H n H' n'->k (.bool ((decide (c.fs[i].nm.1=c.fs[i+1].nm.1/\c.fs[i].nm.2=c.fs[i+1].nm.2)||twin (some c.fs[i+1].nm) ((AG4 c.fs).drop (i+1+1)))||B)) H' n':=by
    have e:(AG4 c.fs)[i]? =some c.fs[i].nm:=by rw[List.getElem?_map,List.getElem?_eq_getElem hlt2];rfl
    simp only[e]at hk;exact hk
   cases e:decide (c.fs[i].nm.1=c.fs[i+1].nm.1/\c.fs[i].nm.2=c.fs[i+1].nm.2)with
   |true=>rw[e]at hk;simp only[go_sem];exact hk _ _ f1
   |false=>
    rw[e]at hk
    simp only[go_sem,DJ (show i+1+1<9223372036854775808 by unfold big at hbf;omega)]
    exact next hk
 ·rintro I q ⟨rfl,hk⟩
  show N7 lfp G (Runs F G) k I (.ptr n 0) (.int .i64 (.ofNat c.fs.length) 0) (.int .i64 (.ofNat c.fs.length) 0) H1 (n+1)
  delta N7
  rw[List.drop_eq_nil_of_le (by simp)]at hk
  simp only[go_sem,Bh,Nat.lt_irrefl,decide_false]
  exact AQL hk
structure ASY(G:AX)(H:Heap)(n m:Nat)(v:V)(cs:List Fc):Prop where
 is:∃LS:ET,El G H v 4 LS/\LS.length=cs.length/\∀(i:Nat) (L:LV) (c:Fc),LS[i]? =some L->cs[i]? =some c->Vs G H m (.agg L) c
 lo:Lo v n
 lt:cs.length<=1000
 mn:m<=n
def XB(fs:Tab):List Fc->Tab
 |[]=>fs
 |c::cs=>XB (VZ c.nm c fs) cs
def Fz(cs:List Fc):Tab:=XB [] cs
theorem o8.put{G:AX}{H H':Heap}{n a:Nat}{fs:Tab}{v:V}{c:Fc}{ps:List (St×V)}(hm:nK H a ps)(hkey:keyed ps fs)(hv:∀s v c,Cj ps s=some v->Cj fs s=some c->Vs G H' n v c)(h1:nK H' a (VZ c.nm v ps))(hc:Vs G H' n v c):
 o8 G H' n a (VZ c.nm c fs):=
 ⟨_,h1,yK _ _ _ hkey,λs w d h2 h3=>by
  rw[Qq]at h2 h3
  by_cases e:c.nm=s
  ·rw[if_pos e]at h2 h3;cases h2;cases h3;exact hc
  ·rw[if_neg e]at h2 h3;exact hv _ _ _ h2 h3⟩
theorem Vs.up{G:AX}{H:Heap}{n n':Nat}{v:V}{c:Fc}(h:Vs G H n v c)(hn:n<=n'):Vs G H n' v c:=h.ke ⟨hn,λ_ _ _ _ h=>h⟩
theorem ATu{G:AX}{H:Heap}{n m:Nat}{v:V}{cs:List Fc}(h:ASY G H n m v cs){k:KV}
 (hk:∀H' n' t a b,Kp H n H' n'->T.get H' t=some (one [.map a,.map b])->o8 G H' m a (Fz cs)->Hq H' b->n<=a->a<b->b<t->t<n'->k (.ptr t 0) H' n'):Runs F G ABa [v] H n k:=by
 refine BL (s:=Lu (Za lfp G)) nJ (by obtain⟨h,o⟩:=zN BK G;rw[nJ]at h;cases h;exact o) ?_
 show Za lfp G (Runs F G) v H n k
 delta Za
 obtain⟨⟨LS,hel,hlen,hfv⟩,hlo,hlt,hmn⟩:=h
 simp only[AJw,go_sem,Nat.reduceAdd,show BA [V.AC7,.AC7] [(0,1,.c (.map n)),(1,1,.c (.map (n+1)))]=some (.agg [.map n,.map (n+1)])from rfl,hel.len,hlen]
 have f1:Kp H n (T.set (T.set (T.set H n (.map [] 0)) (n+1) (.map [] 0)) (n+1+1) (one [.map n,.map (n+1)])) (n+1+1+1):=((((Kp.refl H n).new (m:=n+1) _ (Nat.le_refl _) (by omega)).new (m:=n+1+1) _ (by omega) (by omega)).new _ (by omega) (by omega))
 refine BN (N:=cs.length) (J:=λi q=>∃H' n' fs,q=(.ptr (n+1+1) 0,v,.int .i64 (.ofNat cs.length) 0,.int .i64 (.ofNat i) 0,H',n')/\Kp H n H' n'/\n+1+1<n'/\T.get H' (n+1+1)=some (one [.map n,.map (n+1)])/\o8 G H' m n fs/\Hq H' (n+1)/\
  XB fs (cs.drop i)=Fz cs) ?_ ?_ ⟨_,_,[],rfl,f1,by omega,T.Ai ..,⟨[],⟨[],0,by rw[T.Ac _ _ (by omega),T.Ac _ _ (by omega),T.Ai],rfl⟩,rfl,λs v c h=>by cases h⟩,⟨[],[],0,by rw[T.Ac _ _ (by omega),T.Ai],rfl⟩,rfl⟩
 ·rintro I i q hi ⟨H3,n3,fs,rfl,f3,hn3,g3,hfa,hs,htab⟩ ih
  show UA lfp G (Runs F G) k I (.ptr (n+1+1) 0) v (.int .i64 (.ofNat cs.length) 0) (.int .i64 (.ofNat i) 0) H3 n3
  delta UA
  obtain⟨q,hp,hld⟩:=(hel.kp hlo f3).at (i:=i) (c:=LS[i]'(by omega)) (List.getElem?_eq_getElem _)
  have hf:=hfv i _ _ (List.getElem?_eq_getElem (by omega)) (List.getElem?_eq_getElem hi)
  rw[List.drop_eq_getElem_cons hi]at htab
  unfold XB at htab
  generalize cs[i]=fc at hf htab
  obtain⟨vf,vm,ws,hf,e⟩:=hf
  have e':LS[i]'(by omega)=[fc.nm.v,fc.sup.v,vf,vm]:=by injection e
  rw[e']at hld
  simp only[go_sem,Bh,hi,decide_true,hp,Bq hld,Nat.reduceAdd]
  rw[T.set_set]
  rw[show AV (.ptr (n+1+1) 0) G (T.set H3 n3 (one [fc.nm.v,fc.sup.v,vf,vm]))=some (.map n)from AU ((T.Ac _ _ (by omega)).trans g3) rfl]
  obtain⟨ps,hps,hkey,hval⟩:=hfa.is
  simp only[go_sem]
  refine AFi (iK hps (T.Ac _ _ (by omega))) fc.nm _ λH4 hm4 hs4=>?_
  simp only[go_sem,DJ (show i+1<9223372036854775808 by omega)]
  have f4:Kp H n H4 (n3+1):=⟨by omega,λid hid=>by rw[hs4 id (by omega),T.Ac _ _ (by omega)];exact f3.same id hid⟩
  have f5:Kp H3 n H4 n:=⟨Nat.le_refl _,λid hid=>by rw[hs4 id (by omega),T.Ac _ _ (by omega)]⟩
  refine ih _ ⟨H4,_,VZ fc.nm fc fs,rfl,f4,by omega,?_,o8.put hps hkey (λs v c x y=>(hval s v c x y).ke (f5.ke.low hmn)) hm4 ⟨vf,vm,ws,hf.ke ((f4.ke).low hmn),rfl⟩,?_,htab⟩
  ·rw[hs4 _ (by omega),T.Ac _ _ (by omega)];exact g3
  ·exact hs.same (by rw[hs4 _ (by omega),T.Ac _ _ (by omega)])
 ·rintro I q ⟨H3,n3,fs,rfl,f3,hn3,g3,hfa,hs,htab⟩
  show UA lfp G (Runs F G) k I (.ptr (n+1+1) 0) v (.int .i64 (.ofNat cs.length) 0) (.int .i64 (.ofNat cs.length) 0) H3 n3
  delta UA
  simp only[go_sem,Bh,Nat.lt_irrefl,decide_false]
  delta dW
  rw[List.drop_eq_nil_of_le (Nat.le_refl _)]at htab
  have htab:fs=Fz cs:=htab
  subst htab
  exact hk _ _ _ n (n+1) f3 g3 hfa hs (by omega) (by omega) (by omega) (by omega)
def AQK(fs:Tab)(sup:St)(m:DK):Bool:=match mW fs sup m.nm false with
 |some o=> !m.st&& !m.same o.2
 |none=>false
def lN(fs:Tab)(sup:St):List DK->Int
 |[]=>0
 |m::ms=>bif !((m.ret::m.ps).all (TK fs))then 23 else bif AQK fs sup m then 27 else lN fs sup ms
def zB(fs:Tab)(sup:St)(r:Int):List ku->Int
 |[]=>r
 |f::l=>bif !([f.ty].all (TK fs))then 23 else bif (V6 fs sup f.nm).isSome then 6 else zB fs sup r l
structure AJd(G:AX)(H0:Heap)(n0:Nat)(H:Heap)(n t a b e:Nat)(fs:Tab)(c:Fc)(vf vm:V)(ws:List V):Prop where
 f:Kb b H0 n0 H n
 en:e<n
 e0:n0<=e
 g:T.get H e=some (one [c.nm.v,c.sup.v,vf,vm])
theorem AFZ{G:AX}{H0 H:Heap}{n0 n t a b e:Nat}{fs:Tab}(h:TabAt G H0 n0 t a b fs)(hfs:fs.length<=1000){c:Fc}{vf vm:V}{ws:List V}(hc:AJd G H0 n0 H n t a b e fs c vf vm ws)
 (hf:Xx G H0 n0 [c.nm.v,c.sup.v,vf,vm] c vf vm ws) (hps:∀m∈c.ms,m.ps.length<=100000) {k:KV} (hk:∀H' n',Kb b H0 n0 H' n'->k (.int .i64 (lN fs c.sup c.ms) 0) H' n'):
 KH lfp G (Runs F G) k (.ptr t 0) (.ptr e 0) H n:=by
 delta KH
 have hbig:=hf.ms.lt
 have hbn:=h.bn
 simp only[go_sem,Nat.reduceAdd,AU (off:=3) hc.g (v:=vm) rfl,hf.ms.len']
 refine BN (N:=c.ms.length) (J:=λi q=>∃H' n',q=(.ptr t 0,.ptr e 0,vm,.int .i64 (.ofNat c.ms.length) 0,.int .i64 (.ofNat i) 0,H',n')/\AJd G H0 n0 H' n' t a b e fs c vf vm ws/\
  (∀H' n',Kb b H0 n0 H' n'->k (.int .i64 (lN fs c.sup (c.ms.drop i)) 0) H' n')) ?_ ?_ ⟨H,n,rfl,hc,hk⟩
 ·rintro I i q hlt ⟨H3,n3,rfl,hc,hk⟩ ih
  show Gz lfp G (Runs F G) k I (.ptr t 0) (.ptr e 0) vm (.int .i64 (.ofNat c.ms.length) 0) (.int .i64 (.ofNat i) 0) H3 n3
  delta Gz
  have f3:=hc.f
  have hen:=hc.en
  have he0:=hc.e0
  have hm3:MQ G H3 n0 vm c.ms ws:=hf.ms.ke ((f3.ke h.seen).low (Nat.le_refl _))
  obtain⟨q,w,hp,hld,hw⟩:=hm3.at hlt
  have hps:=hps _ (List.getElem_mem hlt)
  have hok:=hf.ms.ok _ (List.getElem_mem hlt)
  rw[List.drop_eq_getElem_cons hlt]at hk
  unfold lN at hk
  generalize c.ms[i]=m at hld hk hw hps hok
  unfold DK.cells at hld
  simp only[go_sem,Bh,hlt,decide_true,hp,Bq hld,Nat.reduceAdd]
  rw[T.set_set]
  have g4:=T.Ai H3 n3 (one [m.nm.v,.bool m.st,w,m.ret.nm.v,.bool m.ret.arr])
  have f4:Kp H3 n3 (T.set H3 n3 (one [m.nm.v,.bool m.st,w,m.ret.nm.v,.bool m.ret.arr])) (n3+1):=(Kp.refl _ _).new _ (Nat.le_refl _) (by omega)
  generalize T.set H3 n3 (one [m.nm.v,.bool m.st,w,m.ret.nm.v,.bool m.ret.arr])=H4 at f4 g4
  rw[show Ae 2 (.ptr n3 3) G H4=some (.agg m.ret.cells)from Hy g4 (by omega) (by show 5<=5;omega)]
  simp only[go_sem,Nat.reduceAdd]
  rw[yQ (z:=2) (L:=m.ret.cells) rfl]
  have hcap:=T.Ai H4 (n3+1) (.arr 2 1 (T.set (T.set .e 0 [.str 0 0,.bool false]) 0 m.ret.cells))
  have f5:Kp H4 (n3+1) (T.set H4 (n3+1) (.arr 2 1 (T.set (T.set .e 0 [.str 0 0,.bool false]) 0 m.ret.cells))) (n3+1+1):=(Kp.refl _ _).new _ (Nat.le_refl _) (by omega)
  generalize T.set H4 (n3+1) (.arr 2 1 (T.set (T.set .e 0 [.str 0 0,.bool false]) 0 m.ret.cells))=H5 at f5 hcap
  have g5:=f5.get g4 (by omega)
  have hel:=jA (G:=G) (by omega) (show m.ret.cells.length=2 from rfl) hcap
  have fb5:=f3.trans ((f4.trans f5).kb (b:=b) (by omega))
  have hw5:=hw.ke (((f4.trans f5).ke).low (m:=n0) (by omega))
  simp only[go_sem,AU (off:=2) g5 (v:=w) rfl]
  refine APY (by omega) hcap (by omega) hel.2 hw5.el.2 (by rw[Fq];omega) λv6 H6 n6 hel6 hs6 hn6 hlo6=>?_
  have f6:Kp H5 (n3+1+1) H6 n6:=⟨hn6,hs6⟩
  have fb6:=fb5.trans (f6.kb (b:=b) (by omega))
  have g6:=f6.get g5 (by omega)
  refine jO (xs:=m.ret::m.ps) (h.kb fb6) ⟨hel6,hlo6,by simp[big];omega,?_⟩ λH7 n7 f7=>?_
  ·intro x hx
   rcases List.mem_cons.1 hx with rfl|hx
   ·exact hok.2
   ·exact hw.ok _ hx
  have fb7:=fb6.trans f7
  have h7n:=f7.le
  have g7:=f7.get g6 (by omega) (by omega)
  simp only[go_sem,Nat.reduceAdd,Bl]
  cases h1:(m.ret::m.ps).all (TK fs)with
  |false=>
   rw[h1]at hk
   simp only[Bool.not_false,cond_true]at hk
   simp only[Bool.not_false,go_sem]
   exact hk _ _ fb7
  |true=>
   rw[h1]at hk
   simp only[Bool.not_true,cond_false]at hk
   have fe:Kb b H3 n3 H7 n7:=((f4.trans (f5.trans f6)).kb (b:=b) (by omega)).trans f7
   have ge:T.get H7 e=some (one [c.nm.v,c.sup.v,vf,vm]):=fe.get hc.g hen (by omega)
   simp only[Bool.not_true,go_sem,Nat.reduceAdd,AU (off:=1) ge (v:=c.sup.v) rfl,AU (off:=0) g7 (v:=m.nm.v) rfl]
   refine AGa (c:=c.sup) (s:=m.nm) (st:=false) (h.kb fb7) hfs λH8 n8 x f8 hx=>?_
   have fb8:=fb7.trans f8
   have h8n:=f8.le
   have g8:=f8.get g7 (by omega) (by omega)
   have hw8:pR G H8 n7 (.agg (m.cells w)) m:=⟨w,rfl,(hw.ke (((fe.trans f8).ke (f3.seen h.seen)).low (m:=n0) (by omega))).ke ⟨by omega,λ_ _ _ _ h=>h⟩⟩
   obtain⟨y,rfl,hy⟩:=hx
   unfold AQK at hk
   have next:∀H' n',Kb b H8 n8 H' n'->(∀H' n',Kb b H0 n0 H' n'->k (.int .i64 (lN fs c.sup (c.ms.drop (i+1))) 0) H' n')->I (.ptr t 0,.ptr e 0,vm,.int .i64 (.ofNat c.ms.length) 0,.int .i64 (.ofNat (i+1)) 0,H',n'):=λH' n' f hk=>
    ih _ ⟨_,_,rfl,⟨fb8.trans f,by have:=f.le;omega,he0,f.get (f8.get ge (by omega) (by omega)) (by omega) (by omega)⟩,hk⟩
   simp only[go_sem,Nat.reduceAdd]
   have g9:=T.Ai H8 n8 (one (((mW fs c.sup m.nm false).getD ((0,0),X7)).2.cells y))
   have f9:Kp H8 n8 (T.set H8 n8 (one (((mW fs c.sup m.nm false).getD ((0,0),X7)).2.cells y))) (n8+1):=(Kp.refl _ _).new _ (Nat.le_refl _) (by omega)
   unfold DK.cells at g9 f9⊢
   simp only[go_sem,Nat.reduceAdd]
   rw[T.set_set]
   cases h2:mW fs c.sup m.nm false with
   |none=>
    rw[h2]at hk f9
    simp only[cond_false]at hk
    simp only[Option.isSome_none,go_sem,DJ (show i+1<9223372036854775808 by unfold big at hbig;omega)]
    exact next _ _ (f9.kb (by omega)) hk
   |some o=>
    rw[h2]at hk f9 g9 hy
    simp only[Option.getD_some]at f9 g9 hy
    simp only[Option.isSome_some,Option.getD_some]
    generalize T.set H8 n8 (one [o.2.nm.v,.bool o.2.st,y,o.2.ret.nm.v,.bool o.2.ret.arr])=H9 at f9 g9
    have gm:=f9.get g8 (by omega)
    simp only[go_sem,Nat.reduceAdd,AU (off:=1) gm (v:=.bool m.st) rfl,Bl]
    cases h3:m.st with
    |true=>
     rw[h3]at hk
     simp only[Bool.not_true,Bool.false_and,cond_false]at hk
     simp only[Bool.not_true,go_sem,DJ (show i+1<9223372036854775808 by unfold big at hbig;omega)]
     exact next _ _ (f9.kb (by omega)) hk
    |false=>
     rw[h3]at hk
     simp only[Bool.not_false,Bool.true_and]at hk
     simp only[Bool.not_false,go_sem,Cb (m:=5) gm (by omega) rfl,Cb (m:=5) g9 (by omega) rfl]
     have hwS:pR G H9 (n8+1) (.agg [m.nm.v,.bool m.st,w,m.ret.nm.v,.bool m.ret.arr]) m:=hw8.ke ⟨by omega,λv z LS hl he=>(f9.ke).el v z LS (hl.mono (by omega)) he⟩
     have hyS:pR G H9 (n8+1) (.agg [o.2.nm.v,.bool o.2.st,y,o.2.ret.nm.v,.bool o.2.ret.arr]) o.2:=⟨y,rfl,hy.ke ⟨by omega,λv z LS hl he=>(f9.ke).el v z LS (hl.mono (by omega)) he⟩⟩
     refine xU hwS hyS λH10 n10 f10=>?_
     have f11:=(f9.trans f10).kb (b:=b) (by omega)
     simp only[go_sem,Bl]
     cases h4:m.same o.2 with
     |false=>
      rw[h4]at hk
      simp only[Bool.not_false,cond_true]at hk
      simp only[Bool.not_false,go_sem]
      exact hk _ _ (fb8.trans f11)
     |true=>
      rw[h4]at hk
      simp only[Bool.not_true,cond_false]at hk
      simp only[Bool.not_true,go_sem,DJ (show i+1<9223372036854775808 by unfold big at hbig;omega)]
      exact next _ _ f11 hk
 ·rintro I q ⟨H3,n3,rfl,hc,hk⟩
  show Gz lfp G (Runs F G) k I (.ptr t 0) (.ptr e 0) vm (.int .i64 (.ofNat c.ms.length) 0) (.int .i64 (.ofNat c.ms.length) 0) H3 n3
  delta Gz
  rw[List.drop_eq_nil_of_le (Nat.le_refl _)]at hk
  simp only[go_sem,Bh,Nat.lt_irrefl,decide_false]
  delta Ov
  exact hk _ _ hc.f
theorem AGM{G:AX}{H0 H:Heap}{n0 n t a b e:Nat}{fs:Tab}(h:TabAt G H0 n0 t a b fs)(hfs:fs.length<=1000){c:Fc}{vf vm:V}{ws:List V}(hc:AJd G H0 n0 H n t a b e fs c vf vm ws)
 (hf:Xx G H0 n0 [c.nm.v,c.sup.v,vf,vm] c vf vm ws) (hps:∀m∈c.ms,m.ps.length<=100000) {k:KV} (hk:∀H' n',Kb b H0 n0 H' n'->k (.int .i64 (zB fs c.sup (lN fs c.sup c.ms) c.fs) 0) H' n'):
 lfp (V×V×V×V×V×Heap×Nat) (Nu lfp G (Runs F G) k) (.ptr t 0,.ptr e 0,vf,.int .i64 (.ofNat c.fs.length) 0,.int .i64 (.ofNat 0) 0,H,n):=by
 have hbig:=hf.fs.lt
 have hbn:=h.bn
 refine BN (N:=c.fs.length) (J:=λi q=>∃H' n',q=(.ptr t 0,.ptr e 0,vf,.int .i64 (.ofNat c.fs.length) 0,.int .i64 (.ofNat i) 0,H',n')/\AJd G H0 n0 H' n' t a b e fs c vf vm ws/\
  (∀H' n',Kb b H0 n0 H' n'->k (.int .i64 (zB fs c.sup (lN fs c.sup c.ms) (c.fs.drop i)) 0) H' n')) ?_ ?_ ⟨H,n,rfl,hc,hk⟩
 ·rintro I i q hlt ⟨H3,n3,rfl,hc,hk⟩ ih
  show G5 lfp G (Runs F G) k I (.ptr t 0) (.ptr e 0) vf (.int .i64 (.ofNat c.fs.length) 0) (.int .i64 (.ofNat i) 0) H3 n3
  delta G5
  have f3:=hc.f
  have hen:=hc.en
  have he0:=hc.e0
  have hm3:TR G H3 n0 vf c.fs:=hf.fs.ke ((f3.ke h.seen).low (Nat.le_refl _))
  obtain⟨q,hp,hld⟩:=hm3.at hlt
  have hok:=hf.fs.ok _ (List.getElem_mem hlt)
  rw[List.drop_eq_getElem_cons hlt]at hk
  unfold zB at hk
  generalize c.fs[i]=m at hld hk hok
  unfold ku.cells at hld
  simp only[go_sem,Bh,hlt,decide_true,hp,Bq hld,Nat.reduceAdd]
  rw[T.set_set]
  have g4:=T.Ai H3 n3 (one [m.nm.v,m.ty.nm.v,.bool m.ty.arr])
  have f4:Kp H3 n3 (T.set H3 n3 (one [m.nm.v,m.ty.nm.v,.bool m.ty.arr])) (n3+1):=(Kp.refl _ _).new _ (Nat.le_refl _) (by omega)
  generalize T.set H3 n3 (one [m.nm.v,m.ty.nm.v,.bool m.ty.arr])=H4 at f4 g4
  rw[show Ae 2 (.ptr n3 1) G H4=some (.agg m.ty.cells)from Hy g4 (by omega) (by show 3<=3;omega)]
  simp only[go_sem,Nat.reduceAdd]
  rw[yQ (z:=2) (L:=m.ty.cells) rfl]
  have hcap:=T.Ai H4 (n3+1) (.arr 2 1 (T.set (T.set .e 0 [.str 0 0,.bool false]) 0 m.ty.cells))
  have f5:Kp H4 (n3+1) (T.set H4 (n3+1) (.arr 2 1 (T.set (T.set .e 0 [.str 0 0,.bool false]) 0 m.ty.cells))) (n3+1+1):=(Kp.refl _ _).new _ (Nat.le_refl _) (by omega)
  generalize T.set H4 (n3+1) (.arr 2 1 (T.set (T.set .e 0 [.str 0 0,.bool false]) 0 m.ty.cells))=H5 at f5 hcap
  have g5:=f5.get g4 (by omega)
  have hel:=jA (G:=G) (by omega) (show m.ty.cells.length=2 from rfl) hcap
  have fb5:=f3.trans ((f4.trans f5).kb (b:=b) (by omega))
  refine jO (xs:=[m.ty]) (h.kb fb5) ⟨hel,λid hid=>by cases hid;omega,by show 1<big;decide,?_⟩ λH7 n7 f7=>?_
  ·intro x hx;simp at hx;subst hx;exact hok.2
  have fb7:=fb5.trans f7
  have h7n:=f7.le
  have g7:=f7.get g5 (by omega) (by omega)
  simp only[go_sem,Nat.reduceAdd,Bl]
  cases h1:[m.ty].all (TK fs)with
  |false=>
   rw[h1]at hk
   simp only[Bool.not_false,cond_true]at hk
   simp only[Bool.not_false,go_sem]
   exact hk _ _ fb7
  |true=>
   rw[h1]at hk
   simp only[Bool.not_true,cond_false]at hk
   have fe:Kb b H3 n3 H7 n7:=((f4.trans f5).kb (b:=b) (by omega)).trans f7
   have ge:T.get H7 e=some (one [c.nm.v,c.sup.v,vf,vm]):=fe.get hc.g hen (by omega)
   simp only[Bool.not_true,go_sem,Nat.reduceAdd,AU (off:=1) ge (v:=c.sup.v) rfl,AU (off:=0) g7 (v:=m.nm.v) rfl]
   refine AJW (c:=c.sup) (s:=m.nm) (h.kb fb7) hfs λH8 n8 f8=>?_
   have fb8:=fb7.trans f8
   have h8n:=f8.le
   unfold Ty.v Ty.cells
   simp only[go_sem,Nat.reduceAdd]
   rw[T.set_set]
   have f9:Kp H8 n8 (T.set H8 n8 (one [((V6 fs c.sup m.nm).getD ((0,0),tyZ)).2.nm.v,.bool ((V6 fs c.sup m.nm).getD ((0,0),tyZ)).2.arr])) (n8+1):=(Kp.refl _ _).new _ (Nat.le_refl _) (by omega)
   have fb9:=fb8.trans (f9.kb (b:=b) (by omega))
   cases h2:(V6 fs c.sup m.nm).isSome with
   |true=>
    rw[h2]at hk
    simp only[cond_true]at hk
    simp only[go_sem]
    exact hk _ _ fb9
   |false=>
    rw[h2]at hk
    simp only[cond_false]at hk
    simp only[go_sem,DJ (show i+1<9223372036854775808 by unfold big at hbig;omega)]
    exact ih _ ⟨_,_,rfl,⟨fb9,by omega,he0,f9.get (f8.get ge (by omega) (by omega)) (by omega)⟩,hk⟩
 ·rintro I q ⟨H3,n3,rfl,hc,hk⟩
  show G5 lfp G (Runs F G) k I (.ptr t 0) (.ptr e 0) vf (.int .i64 (.ofNat c.fs.length) 0) (.int .i64 (.ofNat c.fs.length) 0) H3 n3
  delta G5
  rw[List.drop_eq_nil_of_le (Nat.le_refl _)]at hk
  simp only[go_sem,Bh,Nat.lt_irrefl,decide_false]
  exact AFZ h hfs hc hf hps hk
theorem AEH:∀(m:Nat) (fs:Tab) (out:List St) (s:St),out.length<=(IJ m fs out s).1.length
 |0,_,_,_=>Nat.le_refl _
 |m+1,fs,out,s=>by
  unfold IJ
  cases decide (s.1=0/\s.2=0)with
  |true=>exact Nat.le_refl _
  |false=>
   simp only[cond_false]
   cases Cj fs s with
   |none=>exact Nat.le_refl _
   |some c=>
    show _<=(bif iL s out then(out,false)else IJ m fs (out++[s]) c.sup).1.length
    cases iL s out with
    |true=>exact Nat.le_refl _
    |false=>have:=AEH m fs (out++[s]) c.sup;simp only[List.length_append,List.length_singleton]at this;simp only[cond_false];omega
theorem AKP{fs:Tab}{s:St}{c:Fc}(h:Cj fs s=some c)(h0:¬(s.1=0/\s.2=0)):1<=(above fs s).1.length:=by
 unfold above IJ
 rw[decide_eq_false h0,h]
 show 1<=(IJ fs.length fs [s] c.sup).1.length
 exact AEH fs.length fs [s] c.sup
def lastOf(xs:List St):St:=(xs[xs.length-1]?).getD (0,0)
def QD(fs:Tab)(s:St):Int:=match Cj fs s with
 |none=>23
 |some c=>bif decide (s.1=0/\s.2=0)then 23 else
  bif !(above fs s).2&& !iL ((Cj fs (lastOf (above fs s).1)).getD DI).sup (above fs s).1 then 23 else
  bif !(above fs s).2 then 26 else bif twice c then 6 else zB fs c.sup (lN fs c.sup c.ms) c.fs
theorem AOm{G:AX}(hG:Qa G){H:Heap}{n t a b:Nat}{fs:Tab}(h:TabAt G H n t a b fs)(hfs:fs.length<=1000)(hps:∀s c,Cj fs s=some c->∀m∈c.ms,m.ps.length<=100000){s:St}{k:KV}
 (hk:∀H' n',Kb b H n H' n'->k (.int .i64 (QD fs s) 0) H' n'):Runs F G Zq [.ptr t 0,s.v] H n k:=by
 refine BL (s:=TY (Ky lfp G)) Sl (by obtain⟨h,o⟩:=YL BK G;rw[Sl]at h;cases h;exact o) ?_
 show Ky lfp G (Runs F G) (.ptr t 0) s.v H n k
 delta Ky
 have hbn:=h.bn
 unfold QD at hk
 refine nH (s:=s) h (Nat.le_refl _) λH1 n1 w f1 hw=>?_
 obtain⟨vf,vm,ws,hw,rfl⟩:=hw
 have h1n:=f1.le
 simp only[go_sem,Nat.reduceAdd,Bl]
 rw[T.set_set]
 have g2:=T.Ai H1 n1 (one [((Cj fs s).getD DI).nm.v,((Cj fs s).getD DI).sup.v,vf,vm])
 have f2:Kp H1 n1 (T.set H1 n1 (one [((Cj fs s).getD DI).nm.v,((Cj fs s).getD DI).sup.v,vf,vm])) (n1+1):=(Kp.refl _ _).new _ (Nat.le_refl _) (by omega)
 have fb2:=f1.trans (f2.kb (b:=b) (by omega))
 cases hl:Cj fs s with
 |none=>
  rw[hl]at hk fb2
  simp only[Option.isSome_none,Bool.not_false,go_sem]
  exact hk _ _ fb2
 |some c=>
  rw[hl]at hk fb2 g2 f2 hw
  simp only[Option.getD_some]at hk fb2 g2 f2 hw
  simp only[Option.isSome_some,Bool.not_true,go_sem,Option.getD_some,show Cc (.one .str) false s.v (.str 0 0)=some (.bool (decide (s.1=0/\s.2=0)))from AB7 ..]
  cases h0:decide (s.1=0/\s.2=0)with
  |true=>
   rw[h0]at hk
   simp only[go_sem]
   exact hk _ _ fb2
  |false=>
   rw[h0]at hk
   simp only[cond_false]at hk
   simp only[go_sem]
   generalize T.set H1 n1 (one [c.nm.v,c.sup.v,vf,vm])=H2 at fb2 g2 f2
   refine aP (s:=s) (h.kb fb2) hfs λH3 n3 v f3 ho hlen=>?_
   have hpos:=AKP hl (of_decide_eq_false h0)
   generalize(above fs s).1=up at ho hlen hpos hk
   generalize(above fs s).2=whole at hk
   have fb3:=fb2.trans f3
   have h3n:=f3.le
   have g3:=f3.get g2 (by omega) (by omega)
   have hel:=ho.el (by omega)
   obtain⟨m,hm⟩:∃m,up.length=m+1:=⟨up.length-1,by omega⟩
   have hlt:m<up.length:=by omega
   obtain⟨q,hp,hld⟩:=hel.at (PL hlt)
   have hlast:lastOf up=up[m]:=by unfold lastOf;rw[show up.length-1=m by omega,List.getElem?_eq_getElem hlt];rfl
   simp only[go_sem,hel.len,GZ,hm,yD (show m+1<9223372036854775808 by omega),hp,Ld hld]
   rw[<-hlast]
   refine nH (s:=lastOf up) (h.kb fb3) (Nat.le_refl _) λH4 n4 w f4 hw4=>?_
   obtain⟨vf4,vm4,ws4,hw4,rfl⟩:=hw4
   have fb4:=fb3.trans f4
   have h4n:=f4.le
   have g4:=f4.get g3 (by omega) (by omega)
   have ho4:=ho.kb f4 (by omega)
   simp only[go_sem,Nat.reduceAdd,Bl]
   rw[T.set_set]
   generalize(Cj fs (lastOf up)).getD DI=lc at hw4 hk
   have g5:=T.Ai H4 n4 (one [lc.nm.v,lc.sup.v,vf4,vm4])
   have f5:Kp H4 n4 (T.set H4 n4 (one [lc.nm.v,lc.sup.v,vf4,vm4])) (n4+1):=(Kp.refl _ _).new _ (Nat.le_refl _) (by omega)
   generalize T.set H4 n4 (one [lc.nm.v,lc.sup.v,vf4,vm4])=H5 at g5 f5
   have fb5:=fb4.trans (f5.kb (b:=b) (by omega))
   have ge:=f5.get g4 (by omega)
   cases whole with
   |false=>
    simp only[Bool.not_false,Bool.true_and]at hk
    simp only[Bool.not_false,go_sem,Nat.reduceAdd,AU (off:=1) g5 (v:=lc.sup.v) rfl]
    refine uY (s:=lc.sup) (xs:=up) ((ho4.kp f5).el (by omega)) (by omega) ?_
    simp only[go_sem,Bl]
    cases h6:iL lc.sup up with
    |false=>
     rw[h6]at hk
     simp only[Bool.not_false,cond_true]at hk
     simp only[Bool.not_false,go_sem]
     exact hk _ _ fb5
    |true=>
     rw[h6]at hk
     simp only[Bool.not_true,cond_false,cond_true]at hk
     simp only[Bool.not_true,go_sem]
     exact hk _ _ fb5
   |true=>
    simp only[Bool.not_true,Bool.false_and,cond_false]at hk
    have fe:Kb b H1 n1 H5 (n4+1):=(f2.kb (by omega)).trans (f3.trans (f4.trans (f5.kb (by omega))))
    simp only[Bool.not_true,go_sem]
    rw[Cb (m:=4) ge (by omega) rfl,AB]
    have hwf:Vs G H5 (n4+1) (.agg [c.nm.v,c.sup.v,vf,vm]) c:=⟨vf,vm,ws,(hw.ke ((fe.ke (f1.seen h.seen)).low h1n)).ke ⟨by omega,λ_ _ _ _ h=>h⟩,rfl⟩
    refine AO8 hG hwf λH6 n6 f6=>?_
    have fb6:=fb5.trans (f6.kb (b:=b) (by omega))
    have h6n:=f6.le
    cases h7:twice c with
    |true=>
     rw[h7]at hk
     simp only[cond_true]at hk
     simp only[go_sem]
     exact hk _ _ fb6
    |false=>
     rw[h7]at hk
     simp only[cond_false]at hk
     have ge6:=f6.get ge (by omega)
     simp only[go_sem,Nat.reduceAdd,AU (off:=2) ge6 (v:=vf) rfl,hw.fs.len]
     exact AGM (h.kb (f1.low (Nat.le_refl _))) hfs ⟨(fe.trans (f6.kb (by omega))).ARN h1n,by omega,h1n,ge6⟩ hw (hps s c hl) λH' n' f=>hk _ _ ((f1.low (Nat.le_refl _)).trans f)
structure UJ(G:AX)(H:Heap)(n i t a b fm:Nat)(vn:V)(fs:Tab):Prop where
 iN:i<n
 ib:i≠b
 at':T.get H i=some (one [.ptr t 0,.map fm,vn])
 tab:TabAt G H n t a b fs
theorem UJ.kb{G:AX}{H H':Heap}{n n' i t a b fm:Nat}{vn:V}{fs:Tab}(h:UJ G H n i t a b fm vn fs)(f:Kb b H n H' n'):UJ G H' n' i t a b fm vn fs:=
 ⟨Nat.lt_of_lt_of_le h.iN f.le,h.ib,f.get h.at' h.iN h.ib,h.tab.kb f⟩
def PMV(G:AX)(H:Heap)(n:Nat)(v:V)(p:PM):Prop:=∃w,v=.agg (p.cells w)/\KI G H n w p.m.ps
def ZF(fs:Tab)(p:PM):List St->Option St
 |[]=>none
 |c::cs=>match RP p.m.nm ((Cj fs c).getD DI).ms with
  |some o=>bif o.same p.m then some c else ZF fs p cs
  |none=>ZF fs p cs
def jo(fs:Tab)(p:PM):Option St:=ZF fs p (above fs p.own).1
theorem ASC{G:AX}{H:Heap}{n i t a b fm:Nat}{vn:V}{fs:Tab}(h:UJ G H n i t a b fm vn fs)(hfs:fs.length<=1000){v:V}{p:PM}(hp:PMV G H n v p){k:KV}
 (hk:∀H' n',Kb b H n H' n'->k (.Dz [((jo fs p).getD (0,0)).v,.bool (jo fs p).isSome]) H' n'):Runs F G aU [.ptr i 0,v] H n k:=by
 refine BL (s:=TY (L6 lfp G)) Ud (by obtain⟨h,o⟩:=Y0 BK G;rw[Ud]at h;cases h;exact o) ?_
 show L6 lfp G (Runs F G) (.ptr i 0) v H n k
 obtain⟨w,rfl,hw⟩:=hp
 delta L6
 have hbn:=h.tab.bn
 unfold jo at hk
 refine Ew λH1 f1 g1=>?_
 have f1':=f1.kb (b:=b) hbn
 have h1:=h.kb f1'
 unfold PM.cells at g1
 simp only[go_sem,Nat.reduceAdd,AU (off:=0) h1.at' (v:=.ptr t 0) rfl,AU (off:=5) g1 (v:=p.own.v) rfl]
 refine aP (s:=p.own) h1.tab hfs λH2 n2 x f2 ho hlen=>?_
 generalize(above fs p.own).1=cs at ho hk hlen
 have f3:=f1'.trans f2
 have g2:=f2.get g1 (by omega) (by omega)
 have h2n:=f2.le
 simp only[go_sem,(ho.el (by omega)).len,GZ]
 refine BN (N:=cs.length) (J:=λj q=>∃H' n',q=(.ptr i 0,.ptr n 0,x,.int .i64 (.ofNat cs.length) 0,.int .i64 (.ofNat j) 0,H',n')/\Kb b H n H' n'/\n<n'/\Own G H' (n+1) n' 1 x (strs cs)/\T.get H' n=some (one [p.m.nm.v,.bool p.m.st,w,p.m.ret.nm.v,.bool p.m.ret.arr,p.own.v])/\
  (∀H' n',Kb b H n H' n'->k (.Dz [((ZF fs p (cs.drop j)).getD (0,0)).v,.bool (ZF fs p (cs.drop j)).isSome]) H' n')) ?_ ?_ ⟨H2,n2,rfl,f3,by omega,ho,g2,hk⟩
 ·rintro I j q hlt ⟨H3,n3,rfl,f3,hn3,ho,g3,hk⟩ ih
  show Il lfp G (Runs F G) k I (.ptr i 0) (.ptr n 0) x (.int .i64 (.ofNat cs.length) 0) (.int .i64 (.ofNat j) 0) H3 n3
  delta Il
  have h3:=h.kb f3
  obtain⟨q,hp,hld⟩:=(ho.el (by omega)).at (PL hlt)
  rw[List.drop_eq_getElem_cons hlt]at hk
  unfold ZF at hk
  generalize cs[j]=m at hld hk
  simp only[go_sem,Bh,hlt,decide_true,hp,Ld hld,Nat.reduceAdd,AU (off:=0) h3.at' (v:=.ptr t 0) rfl]
  refine nH (s:=m) (n0:=n) (h.tab.kb (f3.low (Nat.le_refl _))) (by omega) λH4 n4 y f4 hy=>?_
  obtain⟨vf,vm,ws,hy,rfl⟩:=hy
  have f5:=f3.trans f4
  have h5n:=f4.le
  simp only[go_sem,Nat.reduceAdd]
  rw[T.set_set]
  have f6:Kp H4 n4 (T.set H4 n4 (one [((Cj fs m).getD DI).nm.v,((Cj fs m).getD DI).sup.v,vf,vm])) (n4+1):=(Kp.refl _ _).new _ (Nat.le_refl _) (by omega)
  generalize T.set H4 n4 (one [((Cj fs m).getD DI).nm.v,((Cj fs m).getD DI).sup.v,vf,vm])=H6 at f6
  have f6':=f6.kb (b:=b) (by omega)
  have g6:=f6'.get (f4.get g3 hn3 (by omega)) (by omega) (by omega)
  rw[show AV (.ptr n 0) G H6=some p.m.nm.v from AU g6 rfl,AB]
  refine uz (s:=p.m.nm) (n:=n4+1) (n0:=n) (v:=.agg [((Cj fs m).getD DI).nm.v,((Cj fs m).getD DI).sup.v,vf,vm]) (c:=(Cj fs m).getD DI) ⟨vf,vm,ws,hy.ke ((f6.ke).low (by omega)),rfl⟩ (by omega) λH8 n8 y f8 hy=>?_
  have f8':=f8.kb (b:=b) (by omega)
  have f10:=f4.trans (f6'.trans f8')
  have f9:=f3.trans f10
  have h9n:=f8.le
  have ho:=ho.kb f10 (by omega)
  have g10:=f10.get g3 hn3 (by omega)
  obtain⟨z,rfl,hz⟩:=hy
  have g11:=T.Ai H8 n8 (one (((RP p.m.nm ((Cj fs m).getD DI).ms).getD X7).cells z))
  have f11:Kp H8 n8 (T.set H8 n8 (one (((RP p.m.nm ((Cj fs m).getD DI).ms).getD X7).cells z))) (n8+1):=(Kp.refl _ _).new _ (Nat.le_refl _) (by omega)
  unfold DK.cells at g11 f11⊢
  simp only[go_sem,Nat.reduceAdd]
  rw[T.set_set]
  have f12:=f10.trans (f11.kb (b:=b) (by omega))
  have next:∀H' n',Kb b H3 n3 H' n'->(∀H' n',Kb b H n H' n'->k (.Dz [((ZF fs p (cs.drop (j+1))).getD (0,0)).v,.bool (ZF fs p (cs.drop (j+1))).isSome]) H' n')->I (.ptr i 0,.ptr n 0,x,.int .i64 (.ofNat cs.length) 0,.int .i64 (.ofNat (j+1)) 0,H',n'):=λH' n' f hk=>
   ih _ ⟨_,_,rfl,f3.trans f,by have:=f.le;omega,Own.kb (by assumption) f (by omega),f.get g3 hn3 (by omega),hk⟩
  cases h1:RP p.m.nm ((Cj fs m).getD DI).ms with
  |none=>
   rw[h1]at hk f12
   simp only[Option.isSome_none,go_sem,DJ (show j+1<9223372036854775808 by omega)]
   exact next _ _ f12 hk
  |some o=>
   rw[h1]at hk f11 f12 g11 hz
   simp only[Option.getD_some]at f11 f12 g11 hz
   simp only[Option.isSome_some,Option.getD_some]
   generalize T.set H8 n8 (one [o.nm.v,.bool o.st,z,o.ret.nm.v,.bool o.ret.arr])=H12 at f11 f12 g11
   have gp:=f11.get g10 (by omega)
   simp only[go_sem,Nat.reduceAdd,Cb (m:=5) g11 (by omega) rfl,show Ae 5 (.ptr n 0) G H12=some (.agg [p.m.nm.v,.bool p.m.st,w,p.m.ret.nm.v,.bool p.m.ret.arr])from Hy gp (by omega) (by show 5<=6;omega)]
   have s1:pR G H12 (n8+1) (.agg [o.nm.v,.bool o.st,z,o.ret.nm.v,.bool o.ret.arr]) o:=⟨z,rfl,(hz.ke ((f11.ke).low (by omega))).ke ⟨by omega,λ_ _ _ _ h=>h⟩⟩
   have s2:pR G H12 (n8+1) (.agg [p.m.nm.v,.bool p.m.st,w,p.m.ret.nm.v,.bool p.m.ret.arr]) p.m:=⟨w,rfl,(hw.ke (((f3.trans f12).ke h.tab.seen).low (Nat.le_refl _))).ke ⟨by omega,λ_ _ _ _ h=>h⟩⟩
   refine xU s1 s2 λH13 n13 f13=>?_
   have f14:=f12.trans (f13.kb (b:=b) (by omega))
   cases h2:o.same p.m with
   |true=>
    simp only[h2,cond_true]at hk
    simp only[go_sem]
    exact hk _ _ (f3.trans f14)
   |false=>
    simp only[h2,cond_false]at hk
    simp only[go_sem,DJ (show j+1<9223372036854775808 by omega)]
    exact next _ _ f14 hk
 ·rintro I q ⟨H3,n3,rfl,f3,hn3,ho,g3,hk⟩
  show Il lfp G (Runs F G) k I (.ptr i 0) (.ptr n 0) x (.int .i64 (.ofNat cs.length) 0) (.int .i64 (.ofNat cs.length) 0) H3 n3
  delta Il
  rw[List.drop_eq_nil_of_le (Nat.le_refl _)]at hk
  simp only[go_sem,Bh,Nat.lt_irrefl,decide_false]
  delta QE
  exact hk _ _ f3
def iM(fs:Tab)(f:PF):Bool:=match V6 fs f.own f.f.nm with
 |none=>false
 |some o=>o.2.is f.f.ty
def gK(fs:Tab)(p:Pool):Bool:=p.names.all (λc=>[(⟨c,false⟩:Ty)].all (TK fs))&&(p.types.all (TK fs)&&(p.fields.all (iM fs)&&p.CV.all λm=>(jo fs m).isSome))
section
variable{G:AX}{H0 H:Heap}{n0 n i t a b fm e:Nat}{vn:V}{fs:Tab}{p:Pool}{v0 v1 v2 v3 v4:V}{ws:List V}{k:KV}
structure AGD(G:AX)(H0:Heap)(n0:Nat)(H:Heap)(n b e:Nat)(v0 v1 v2 v3 v4:V):Prop where
 f:Kb b H0 n0 H n
 en:e<n
 e0:n0<=e
 g:T.get H e=some (one [v0,v1,v2,v3,v4])
theorem AGD.kb{H':Heap}{n':Nat}(h:AGD G H0 n0 H n b e v0 v1 v2 v3 v4)(hb:b<n0)(f:Kb b H n H' n'):AGD G H0 n0 H' n' b e v0 v1 v2 v3 v4:=
 ⟨h.f.trans f,Nat.lt_of_lt_of_le h.en f.le,h.e0,f.get h.g h.en (by have:=h.e0;omega)⟩
theorem AKx(h:UJ G H0 n0 i t a b fm vn fs)(hfs:fs.length<=1000)(hp:FI G H0 n0 p v0 v1 v2 v3 v4 ws)(hc:AGD G H0 n0 H n b e v0 v1 v2 v3 v4)
 (hk:∀H' n',Kb b H0 n0 H' n'->k (.bool (p.CV.all λm=>(jo fs m).isSome)) H' n'):LW lfp G (Runs F G) k (.ptr i 0) (.ptr e 0) H n:=by
 delta LW
 have hbn:=h.tab.bn
 have hbig:=hp.b4
 have l4:lenV v4=some (.int .i64 (.ofNat p.CV.length) 0):=by rw[hp.e4.len,List.length_zipWith,hp.yE,Nat.min_self]
 simp only[go_sem,Nat.reduceAdd,AU (off:=4) hc.g (v:=v4) rfl,l4]
 refine BN (N:=p.CV.length) (J:=λj q=>∃H' n',q=(.ptr i 0,v4,.int .i64 (.ofNat p.CV.length) 0,.int .i64 (.ofNat j) 0,H',n')/\Kb b H0 n0 H' n'/\
  (∀H' n',Kb b H0 n0 H' n'->k (.bool ((p.CV.drop j).all λm=>(jo fs m).isSome)) H' n')) ?_ ?_ ⟨H,n,rfl,hc.f,hk⟩
 ·rintro I j q hlt ⟨H3,n3,rfl,f3,hk⟩ ih
  show Ib lfp G (Runs F G) k I (.ptr i 0) v4 (.int .i64 (.ofNat p.CV.length) 0) (.int .i64 (.ofNat j) 0) H3 n3
  delta Ib
  have hw:j<ws.length:=by rw[hp.yE];exact hlt
  have hp3:=hp.ke (f3.ke h.tab.seen)
  have h3n:=f3.le
  obtain⟨q,hp',hld⟩:=hp3.e4.at (i:=j) (c:=p.CV[j].cells ws[j]) (by rw[List.getElem?_zipWith];simp[hlt,hw])
  have hty:=hp3.at4 j _ _ (List.getElem?_eq_getElem hlt) (List.getElem?_eq_getElem hw)
  rw[List.drop_eq_getElem_cons hlt,List.all_cons]at hk
  generalize p.CV[j]=m at hld hty hk
  generalize ws[j]=w at hld hty
  unfold PM.cells at hld
  simp only[go_sem,Nat.reduceAdd,Bh,hlt,decide_true,hp',Bq hld]
  rw[T.set_set]
  refine run_set λH4 f4 g4=>?_
  have f4':=f4.kb (b:=b) (by omega)
  refine ASC (p:=m) (h.kb (f3.trans f4')) hfs ⟨w,rfl,hty.kp f4⟩ λH5 n5 f5=>?_
  have f6:=f3.trans (f4'.trans f5)
  simp only[go_sem,Bl]
  cases h1:(jo fs m).isSome with
  |false=>simp only[h1,Bool.false_and]at hk;simp only[Bool.not_false,go_sem];exact hk _ _ f6
  |true=>
   simp only[h1,Bool.true_and]at hk
   simp only[Bool.not_true,go_sem,DJ (show j+1<9223372036854775808 by unfold big at hbig;omega)]
   exact ih _ ⟨_,_,rfl,f6,hk⟩
 ·rintro I q ⟨H3,n3,rfl,f3,hk⟩
  show Ib lfp G (Runs F G) k I (.ptr i 0) v4 (.int .i64 (.ofNat p.CV.length) 0) (.int .i64 (.ofNat p.CV.length) 0) H3 n3
  delta Ib
  rw[List.drop_eq_nil_of_le (Nat.le_refl _)]at hk
  simp only[go_sem,Bh,Nat.lt_irrefl,decide_false]
  delta QV
  exact hk _ _ f3
theorem AMx(h:UJ G H0 n0 i t a b fm vn fs)(hfs:fs.length<=1000)(hp:FI G H0 n0 p v0 v1 v2 v3 v4 ws)(hc:AGD G H0 n0 H n b e v0 v1 v2 v3 v4)
 (hk:∀H' n',Kb b H0 n0 H' n'->k (.bool (p.fields.all (iM fs)&&p.CV.all λm=>(jo fs m).isSome)) H' n'):
 lfp (V×V×V×V×V×Heap×Nat) (O5 lfp G (Runs F G) k) (.ptr i 0,.ptr e 0,v3,.int .i64 (.ofNat p.fields.length) 0,.int .i64 (.ofNat 0) 0,H,n):=by
 have hbn:=h.tab.bn
 have hbig:=hp.b3
 refine BN (N:=p.fields.length) (J:=λj q=>∃H' n',q=(.ptr i 0,.ptr e 0,v3,.int .i64 (.ofNat p.fields.length) 0,.int .i64 (.ofNat j) 0,H',n')/\AGD G H0 n0 H' n' b e v0 v1 v2 v3 v4/\
  (∀H' n',Kb b H0 n0 H' n'->k (.bool ((p.fields.drop j).all (iM fs)&&p.CV.all λm=>(jo fs m).isSome)) H' n')) ?_ ?_ ⟨H,n,rfl,hc,hk⟩
 ·rintro I j q hlt ⟨H3,n3,rfl,hc,hk⟩ ih
  show IY lfp G (Runs F G) k I (.ptr i 0) (.ptr e 0) v3 (.int .i64 (.ofNat p.fields.length) 0) (.int .i64 (.ofNat j) 0) H3 n3
  delta IY
  have f3:=hc.f
  have hp3:=hp.ke (f3.ke h.tab.seen)
  have h3n:=f3.le
  obtain⟨q,hp',hld⟩:=hp3.e3.at (i:=j) (c:=p.fields[j].cells) (by simp[hlt])
  rw[List.drop_eq_getElem_cons hlt,List.all_cons]at hk
  generalize p.fields[j]=m at hld hk
  unfold PF.cells at hld
  simp only[go_sem,Nat.reduceAdd,Bh,hlt,decide_true,hp',Bq hld]
  rw[T.set_set]
  have g4:=T.Ai H3 n3 (one [m.f.nm.v,m.f.ty.nm.v,.bool m.f.ty.arr,m.own.v])
  have f4:Kp H3 n3 (T.set H3 n3 (one [m.f.nm.v,m.f.ty.nm.v,.bool m.f.ty.arr,m.own.v])) (n3+1):=(Kp.refl _ _).new _ (Nat.le_refl _) (by omega)
  generalize T.set H3 n3 (one [m.f.nm.v,m.f.ty.nm.v,.bool m.f.ty.arr,m.own.v])=H4 at g4 f4
  have f4':=f4.kb (b:=b) (by omega)
  have hi4:=h.kb (f3.trans f4')
  simp only[go_sem,Nat.reduceAdd,AU (off:=0) hi4.at' (v:=.ptr t 0) rfl,AU (off:=3) g4 (v:=m.own.v) rfl,AU (off:=0) g4 (v:=m.f.nm.v) rfl]
  refine run_set λH5 f5 g5=>?_
  have f5':=f5.kb (b:=b) (by omega)
  have f5t:=f4'.trans f5'
  refine AJW (c:=m.own) (s:=m.f.nm) (h.tab.kb (f3.trans f5t)) hfs λH6 n6 f6=>?_
  have f6t:=f5t.trans f6
  have h6n:=f6.le
  have g6:=f6.get g5 (by omega) (by omega)
  have g64:=f6.get (f5.get g4 (by omega)) (by omega) (by omega)
  unfold Ty.v Ty.cells
  simp only[go_sem]
  rw[Gn (m:=2) g6 (by omega) rfl rfl]
  have f7:Kb b H3 n3 (T.set H6 (n3+1) (one [((V6 fs m.own m.f.nm).getD ((0,0),tyZ)).2.nm.v,.bool ((V6 fs m.own m.f.nm).getD ((0,0),tyZ)).2.arr])) n6:=
   f6t.trans' (λid hid=>T.Ac _ _ (by omega)) (Nat.le_refl _) (by omega)
  have g7:=T.Ai H6 (n3+1) (one [((V6 fs m.own m.f.nm).getD ((0,0),tyZ)).2.nm.v,.bool ((V6 fs m.own m.f.nm).getD ((0,0),tyZ)).2.arr])
  have g74:T.get (T.set H6 (n3+1) (one [((V6 fs m.own m.f.nm).getD ((0,0),tyZ)).2.nm.v,.bool ((V6 fs m.own m.f.nm).getD ((0,0),tyZ)).2.arr])) n3=_:=(T.Ac _ _ (by omega)).trans g64
  generalize T.set H6 (n3+1) (one [((V6 fs m.own m.f.nm).getD ((0,0),tyZ)).2.nm.v,.bool ((V6 fs m.own m.f.nm).getD ((0,0),tyZ)).2.arr])=H7 at f7 g7 g74
  simp only[Bl,go_sem]
  unfold iM at hk
  cases h1:V6 fs m.own m.f.nm with
  |none=>rw[h1]at hk;simp only[Option.isSome_none,Bool.not_false,go_sem];exact hk _ _ (f3.trans f7)
  |some o=>
   rw[h1]at hk g7
   simp only[Option.getD_some]at g7 hk
   have e1:Cc (.agg [.str,.bool]) true (.agg [o.2.nm.v,.bool o.2.arr]) (.agg [m.f.ty.nm.v,.bool m.f.ty.arr])=_:=AGr o.2 m.f.ty
   simp only[Option.isSome_some,Bool.not_true,go_sem,Nat.reduceAdd,Cb (m:=2) g7 (by omega) rfl,show Ae 2 (.ptr n3 1) G H7=some (.agg [m.f.ty.nm.v,.bool m.f.ty.arr])from Hy g74 (by omega) (by show 3<=4;omega),e1]
   cases h2:o.2.is m.f.ty with
   |false=>simp only[h2,Bool.false_and]at hk;simp only[Bool.not_false,go_sem];exact hk _ _ (f3.trans f7)
   |true=>
    simp only[h2,Bool.true_and]at hk
    simp only[Bool.not_true,go_sem,DJ (show j+1<9223372036854775808 by unfold big at hbig;omega)]
    exact ih _ ⟨_,_,rfl,hc.kb (G:=G) hbn f7,hk⟩
 ·rintro I q ⟨H3,n3,rfl,hc,hk⟩
  show IY lfp G (Runs F G) k I (.ptr i 0) (.ptr e 0) v3 (.int .i64 (.ofNat p.fields.length) 0) (.int .i64 (.ofNat p.fields.length) 0) H3 n3
  delta IY
  rw[List.drop_eq_nil_of_le (Nat.le_refl _)]at hk
  simp only[go_sem,Bh,Nat.lt_irrefl,decide_false]
  exact AKx h hfs hp hc hk
theorem AJc(i:Nat):GI (.ptr i 0) (.ptr i 0)=true:=by
 show band (Nat.beq i i) (Nat.beq 0 0)=true
 simp
theorem ARd(h:UJ G H n i t a b fm vn fs)(hfs:fs.length<=1000)(hp:FI G H n p v0 v1 v2 v3 v4 ws)
 (hk:∀H' n',Kb b H n H' n'->k (.bool (gK fs p)) H' n'):Runs F G aY [.ptr i 0,.agg [v0,v1,v2,v3,v4]] H n k:=by
 refine BL (s:=TY (MC lfp G)) Un (by obtain⟨h,o⟩:=Zi BK G;rw[Un]at h;cases h;exact o) ?_
 show MC lfp G (Runs F G) (.ptr i 0) (.agg [v0,v1,v2,v3,v4]) H n k
 delta MC
 have hbn:=h.tab.bn
 have hbig:=hp.b1
 unfold gK at hk
 refine Ew λH1 f1 g1=>?_
 have f1':=f1.kb (b:=b) hbn
 simp only[go_sem,Nat.reduceAdd,AU (off:=1) g1 (v:=v1) rfl,hp.e1.len,GZ]
 have hc:AGD G H n H1 (n+1) b n v0 v1 v2 v3 v4:=⟨f1',by omega,Nat.le_refl _,g1⟩
 refine BN (N:=p.names.length) (J:=λj q=>∃H' n',q=(.ptr i 0,.ptr n 0,v1,.int .i64 (.ofNat p.names.length) 0,.int .i64 (.ofNat j) 0,H',n')/\AGD G H n H' n' b n v0 v1 v2 v3 v4/\
  (∀H' n',Kb b H n H' n'->k (.bool ((p.names.drop j).all (λc=>[(⟨c,false⟩:Ty)].all (TK fs))&&(p.types.all (TK fs)&&(p.fields.all (iM fs)&&p.CV.all λm=>(jo fs m).isSome)))) H' n')) ?_ ?_ ⟨H1,n+1,rfl,hc,hk⟩
 ·rintro I j q hlt ⟨H3,n3,rfl,hc,hk⟩ ih
  show Ip lfp G (Runs F G) k I (.ptr i 0) (.ptr n 0) v1 (.int .i64 (.ofNat p.names.length) 0) (.int .i64 (.ofNat j) 0) H3 n3
  delta Ip
  have f3:=hc.f
  have hp3:=hp.ke (f3.ke h.tab.seen)
  have h3n:=f3.le
  have hi3:=h.kb f3
  obtain⟨q,hp',hld⟩:=hp3.e1.at (PL hlt)
  have hok:=hp.o1 _ (List.getElem_mem hlt)
  rw[List.drop_eq_getElem_cons hlt,List.all_cons]at hk
  generalize p.names[j]=m at hld hk hok
  simp only[go_sem,Nat.reduceAdd,Bh,hlt,decide_true,hp',Ld hld,AU (off:=0) hi3.at' (v:=.ptr t 0) rfl]
  refine uo λH4 n4 f4=>?_
  have f4':=f4.kb (b:=b) (by omega)
  have hi4:=h.kb (f3.trans f4')
  have h4n:=f4.le
  simp only[go_sem,Nat.reduceAdd,AU (off:=0) hi4.at' (v:=.ptr t 0) rfl,AJc]
  rw[yQ (z:=2) (L:=[.str m.1 m.2,.bool false]) rfl]
  refine run_set λH5 f5 g5=>?_
  have f5':=f5.kb (b:=b) (by omega)
  refine jO (xs:=[(⟨m,false⟩:Ty)]) (h.tab.kb (f3.trans (f4'.trans f5'))) ⟨jA (by omega) rfl g5,λid hid=>by cases hid;omega,by show 1<big;decide,λx hx=>by simp at hx;subst hx;exact hok⟩ λH6 n6 f6=>?_
  have f7:=f4'.trans (f5'.trans f6)
  simp only[go_sem,Bl]
  cases h1:[(⟨m,false⟩:Ty)].all (TK fs)with
  |false=>simp only[h1,Bool.false_and]at hk;simp only[Bool.not_false,go_sem];exact hk _ _ (f3.trans f7)
  |true=>
   simp only[h1,Bool.true_and]at hk
   simp only[Bool.not_true,go_sem,DJ (show j+1<9223372036854775808 by unfold big at hbig;omega)]
   exact ih _ ⟨_,_,rfl,hc.kb (G:=G) hbn f7,hk⟩
 ·rintro I q ⟨H3,n3,rfl,hc,hk⟩
  show Ip lfp G (Runs F G) k I (.ptr i 0) (.ptr n 0) v1 (.int .i64 (.ofNat p.names.length) 0) (.int .i64 (.ofNat p.names.length) 0) H3 n3
  delta Ip
  rw[List.drop_eq_nil_of_le (Nat.le_refl _)]at hk
  simp only[List.all_nil,Bool.true_and]at hk
  simp only[go_sem,Bh,Nat.lt_irrefl,decide_false]
  delta Q9
  have f3:=hc.f
  have hi3:=h.kb f3
  have hp3:=hp.ke (f3.ke h.tab.seen)
  simp only[go_sem,Nat.reduceAdd,AU (off:=0) hi3.at' (v:=.ptr t 0) rfl,AU (off:=2) hc.g (v:=v2) rfl]
  refine jO (xs:=p.types) hi3.tab hp3.t2 λH6 n6 f6=>?_
  have hc6:=hc.kb (G:=G) hbn f6
  have l3:lenV v3=some (.int .i64 (.ofNat p.fields.length) 0):=by rw[hp.e3.len,List.length_map]
  simp only[Bl,go_sem]
  cases h1:p.types.all (TK fs)with
  |false=>simp only[h1,Bool.false_and]at hk;simp only[Bool.not_false,go_sem];exact hk _ _ (f3.trans f6)
  |true=>
   simp only[h1,Bool.true_and]at hk
   simp only[Bool.not_true,go_sem,Nat.reduceAdd,AU (off:=3) hc6.g (v:=v3) rfl,l3]
   exact AMx h hfs hp hc6 hk
end
structure Jd(G:AX)(H:Heap)(n:Nat)(v:V)(BM:List Fl):Prop where
 is:∃LS:ET,El G H v 10 LS/\LS.length=BM.length/\∀(i:Nat) (L:LV) (f:Fl),LS[i]? =some L->BM[i]? =some f->Vq G H n (.agg L) f
 lo:Lo v n
 lt:BM.length<big
theorem Jd.ke{G:AX}{H H':Heap}{n n':Nat}{v:V}{BM:List Fl}(h:Jd G H n v BM)(f:Ke G H n H' n'):Jd G H' n' v BM:=by
 obtain⟨⟨LS,h1,h2,h3⟩,hl,ht⟩:=h
 exact⟨⟨LS,h1.ke hl f,h2,λi L c x y=>(h3 i L c x y).ke f⟩,hl.mono f.le,ht⟩
theorem Jd.len{G:AX}{H:Heap}{n:Nat}{v:V}{BM:List Fl}(h:Jd G H n v BM):lenV v=some (.int .i64 (.ofNat BM.length) 0):=by
 obtain⟨⟨LS,h1,h2,h3⟩,hl,ht⟩:=h;rw[h1.len,h2]
theorem Jd.at{G:AX}{H:Heap}{n:Nat}{v:V}{BM:List Fl}(h:Jd G H n v BM){i:Nat}(hi:i<BM.length):∃p vf vm v0 v1 v2 v3 v4 vb mws ws bws,Ad 10 v (.int .i64 (.ofNat i) 0)=some p/\
 lC p G H 10=some [BM[i].face.nm.v,BM[i].face.sup.v,vf,vm,v0,v1,v2,v3,v4,vb]/\eF G H n [BM[i].face.nm.v,BM[i].face.sup.v,vf,vm,v0,v1,v2,v3,v4,vb] BM[i] vf vm v0 v1 v2 v3 v4 vb mws ws bws:=by
 obtain⟨⟨LS,h1,h2,h3⟩,hl,ht⟩:=h
 obtain⟨p,hp,hld⟩:=h1.at (i:=i) (c:=LS[i]'(by omega)) (List.getElem?_eq_getElem _)
 obtain⟨L,vf,vm,v0,v1,v2,v3,v4,vb,mws,ws,bws,hf,e⟩:=h3 i _ _ (List.getElem?_eq_getElem (by omega)) (List.getElem?_eq_getElem hi)
 have e':LS[i]'(by omega)=L:=by injection e
 have:=hf.is
 subst this
 rw[e']at hld
 exact⟨p,vf,vm,v0,v1,v2,v3,v4,vb,mws,ws,bws,hp,hld,hf⟩
structure JQ(G:AX)(H:Heap)(n a:Nat)(fs:List (St×Fl)):Prop where
 is:∃ps,nK H a ps/\keyed ps fs/\∀s v c,Cj ps s=some v->Cj fs s=some c->Vq G H n v c
theorem JQ.ke{G:AX}{H H':Heap}{n n' a:Nat}{fs:List (St×Fl)}(h:JQ G H n a fs)(f:Ke G H n H' n')(e:T.get H' a=T.get H a):JQ G H' n' a fs:=by
 obtain⟨ps,h1,h2,h3⟩:=h.is
 exact⟨ps,iK h1 e,h2,λs v c x y=>(h3 s v c x y).ke f⟩
theorem JQ.put{G:AX}{H':Heap}{n a:Nat}{fs:List (St×Fl)}{v:V}{s:St}{c:Fl}{ps:List (St×V)}(hkey:keyed ps fs)(hv:∀s v c,Cj ps s=some v->Cj fs s=some c->Vq G H' n v c)(h1:nK H' a (VZ s v ps))(hc:Vq G H' n v c):
 JQ G H' n a (VZ s c fs):=
 ⟨_,h1,yK _ _ _ hkey,λt w d h2 h3=>by
  rw[Qq]at h2 h3
  by_cases e:s=t
  ·rw[if_pos e]at h2 h3;cases h2;cases h3;exact hc
  ·rw[if_neg e]at h2 h3;exact hv _ _ _ h2 h3⟩
def Uu(fs:List (St×Fl)):List Fl->List (St×Fl)
 |[]=>fs
 |c::cs=>Uu (VZ c.face.nm c fs) cs
abbrev UR(BM:List Fl):=Uu [] BM
noncomputable def V9:List (St×Fl)->List Fl->Int
 |_,[]=>0
 |acc,f::fs=>bif !Nv f then 2 else bif (Cj acc f.face.nm).isSome then 6 else V9 (VZ f.face.nm f acc) fs
def link2(t:Tab):List Fl->Int
 |[]=>0
 |f::fs=>bif !(QD t f.face.nm==0)then QD t f.face.nm else bif !gK t f.pool then 30 else link2 t fs
abbrev CU(BM:List Fl):List Fc:=BM.map λf=>f.face
abbrev KF(BM:List Fl):List St:=BM.map λf=>f.face.nm
noncomputable def UE(BM:List Fl):Int:=bif decide (200<BM.length)then 4 else bif !(V9 [] BM==0)then V9 [] BM else link2 (Fz (CU BM)) BM
theorem mD:∀(cs:List Fc) (fs:Tab),(XB fs cs).length<=fs.length+cs.length
 |[],_=>Nat.le_refl _
 |c::cs,fs=>by
  have h1:∀(fs:Tab),(VZ c.nm c fs).length<=fs.length+1:=by
   intro fs
   induction fs with
   |nil=>exact Nat.le_refl _
   |cons p ps ih=>unfold VZ;split<;>simp only[List.length_cons]<;>omega
  have:=mD cs (VZ c.nm c fs)
  have:=h1 fs
  simp only[XB,List.length_cons];omega
theorem zO:∀(cs:List Fc) (fs:Tab) (s:St) (c:Fc),Cj (XB fs cs) s=some c->c∈cs∨Cj fs s=some c
 |[],_,_,_,h=>.inr h
 |d::cs,fs,s,c,h=>by
  rcases zO cs _ s c h with h|h
  ·exact .inl (List.mem_cons_of_mem _ h)
  ·rw[Qq]at h
   split at h
   ·cases h;exact .inl (List.mem_cons_self ..)
   ·exact .inr h
theorem ADf{cs:List Fc}{s:St}{c:Fc}(h:Cj (Fz cs) s=some c):c∈cs:=by
 rcases zO cs [] s c h with h|h
 ·exact h
 ·cases h
structure AO4(G:AX)(H:Heap)(n m i:Nat)(BM:List Fl):Prop where
 is:∃t a b fm vn,UJ G H n i t a b fm vn (Fz (CU BM))/\JQ G H n fm (UR BM)/\fm<n/\fm≠b/\El G H vn 1 (strs (KF BM))/\Lo vn n/\m<=i/\m<=t/\m<=a/\m<=b/\m<=fm
theorem Gr.ok{G:AX}{H:Heap}{m z:Nat}{v:V}{LS:ET}(h:Gr G H m z v LS):Z7 v=true/\Au v=[v]:=by cases h<;>exact⟨rfl,rfl⟩
theorem AKJ{G:AX}(hG:Qa G){H0:Heap}{n0 i t a b fm:Nat}{vn v:V}{BM:List Fl}(hfs:(Fz (CU BM)).length<=1000)(hps:∀s c,Cj (Fz (CU BM)) s=some c->∀m∈c.ms,m.ps.length<=100000)
 (h:UJ G H0 n0 i t a b fm vn (Fz (CU BM))) (hf:Jd G H0 n0 v BM) {k:KV}
 (hk0:link2 (Fz (CU BM)) BM=0->∀H' n',Kb b H0 n0 H' n'->k (.Dz [.ptr i 0,.int .i64 (.ofNat 0) 0]) H' n')
 (hk1:link2 (Fz (CU BM)) BM≠0->∀H' n',Kb b H0 n0 H' n'->k (.Dz [.OJ,.int .i64 (link2 (Fz (CU BM)) BM) 0]) H' n'):
 lfp (V×V×V×V×Heap×Nat) (Wj lfp G (Runs F G) k) (.ptr i 0,v,.int .i64 (.ofNat BM.length) 0,.int .i64 (.ofNat 0) 0,H0,n0):=by
 generalize hT:Fz (CU BM)=tb at*
 have hbn:=h.tab.bn
 obtain⟨R,hR⟩:∃R,R=link2 tb BM:=⟨_,rfl⟩
 rw[<-hR]at hk0 hk1
 have hbig:=hf.lt
 refine BN (N:=BM.length) (J:=λj q=>∃H' n',q=(.ptr i 0,v,.int .i64 (.ofNat BM.length) 0,.int .i64 (.ofNat j) 0,H',n')/\Kb b H0 n0 H' n'/\link2 tb (BM.drop j)=R) ?_ ?_ ⟨H0,n0,rfl,Kb.refl _ _ _,hR.symm⟩
 ·rintro I j q hlt ⟨H3,n3,rfl,f3,hk⟩ ih
  show PX lfp G (Runs F G) k I (.ptr i 0) v (.int .i64 (.ofNat BM.length) 0) (.int .i64 (.ofNat j) 0) H3 n3
  delta PX
  have h3n:=f3.le
  obtain⟨q,vf,vm,v0,v1,v2,v3,v4,vb,mws,ws,bws,hp,hld,hfile⟩:=(hf.ke (f3.ke h.tab.seen)).at hlt
  rw[List.drop_eq_getElem_cons hlt]at hk
  unfold link2 at hk
  generalize BM[j]=m at hld hk hfile
  simp only[go_sem,Nat.reduceAdd,Bh,hlt,decide_true,hp,Bq hld]
  rw[T.set_set]
  have g4:=T.Ai H3 n3 (one [m.face.nm.v,m.face.sup.v,vf,vm,v0,v1,v2,v3,v4,vb])
  have f4:Kp H3 n3 (T.set H3 n3 (one [m.face.nm.v,m.face.sup.v,vf,vm,v0,v1,v2,v3,v4,vb])) (n3+1):=(Kp.refl _ _).new _ (Nat.le_refl _) (by omega)
  generalize T.set H3 n3 (one [m.face.nm.v,m.face.sup.v,vf,vm,v0,v1,v2,v3,v4,vb])=H4 at g4 f4
  have f4':=f4.kb (b:=b) (by omega)
  have hi4:=h.kb (f3.trans f4')
  simp only[go_sem,Nat.reduceAdd,AU (off:=0) hi4.at' (v:=.ptr t 0) rfl,AU (off:=0) g4 (v:=m.face.nm.v) rfl]
  refine AOm hG (s:=m.face.nm) hi4.tab hfs hps λH5 n5 f5=>?_
  have f6:=f4'.trans f5
  have h5n:=f5.le
  have g5:=f5.get g4 (by omega) (by omega)
  simp only[ALt,go_sem]
  rw[show(QD tb m.face.nm==Int.ofNat 0)=(QD tb m.face.nm==0)from rfl]
  cases h1:QD tb m.face.nm==0 with
  |false=>
   rw[h1]at hk
   simp only[Bool.not_false,cond_true]at hk
   simp only[Bool.not_false,go_sem]
   rw[hk]
   refine hk1 ?_ _ _ (f3.trans f6)
   rw[<-hk];simpa using h1
  |true=>
   rw[h1]at hk
   simp only[Bool.not_true,cond_false]at hk
   simp only[Bool.not_true,go_sem,Nat.reduceAdd,show Ae 5 (.ptr n3 4) G H5=some (.agg [v0,v1,v2,v3,v4])from Hy g5 (by omega) (by show 9<=10;omega)]
   refine ARd (h.kb (f3.trans f6)) hfs (p:=m.pool) (hfile.pool.ke ((f6.ke (f3.seen h.tab.seen)))) λH7 n7 f7=>?_
   have f8:=f3.trans (f6.trans f7)
   simp only[Bl,go_sem]
   cases h2:gK tb m.pool with
   |false=>
    rw[h2]at hk
    simp only[Bool.not_false,cond_true]at hk
    simp only[Bool.not_false,go_sem]
    have:=hk1 (by rw[<-hk];decide) _ _ f8
    rw[<-hk]at this;exact this
   |true=>
    rw[h2]at hk
    simp only[Bool.not_true,cond_false]at hk
    simp only[Bool.not_true,go_sem,DJ (show j+1<9223372036854775808 by unfold big at hbig;omega)]
    exact ih _ ⟨_,_,rfl,f8,hk⟩
 ·rintro I q ⟨H3,n3,rfl,f3,hk⟩
  show PX lfp G (Runs F G) k I (.ptr i 0) v (.int .i64 (.ofNat BM.length) 0) (.int .i64 (.ofNat BM.length) 0) H3 n3
  delta PX
  rw[List.drop_eq_nil_of_le (Nat.le_refl _)]at hk
  simp only[go_sem,Bh,Nat.lt_irrefl,decide_false]
  delta X6
  exact hk0 hk.symm _ _ f3
abbrev ADn:LV:=[.str 0 0,.str 0 0,.AZ,.AZ,.AZ,.AZ,.AZ,.AZ,.AZ,.AZ]
theorem Vq.cells{G:AX}{H:Heap}{n:Nat}{v:V}{f:Fl}(h:Vq G H n v f):∃L:LV,v=.agg L/\L.length=10:=by
 obtain⟨L,vf,vm,v0,v1,v2,v3,v4,vb,mws,ws,bws,h,hv⟩:=h
 exact⟨L,hv,by rw[h.is];rfl⟩
theorem JQ.look{G:AX}{H:Heap}{n a:Nat}{fs:List (St×Fl)}(h:JQ G H n a fs)(s:St):∃L:LV,ACY .str true (.agg ADn) (.map a) s.v H=some (.Dz [.agg L,.bool (Cj fs s).isSome])/\L.length=10/\∀f,Cj fs s=some f->Vq G H n (.agg L) f:=by
 obtain⟨ps,h1,h2,h3⟩:=h.is
 have hs:=eU h2 s
 rw[show s.v=.str s.1 s.2 from rfl,AB4 h1]
 cases hl:Cj ps s with
 |none=>
  rw[hl]at hs
  cases hx:Cj fs s with
  |none=>exact⟨ADn,rfl,rfl,λf h=>by cases h⟩
  |some x=>rw[hx]at hs;cases hs
 |some v=>
  rw[hl]at hs
  cases hx:Cj fs s with
  |none=>rw[hx]at hs;cases hs
  |some x=>
   have hv:=h3 _ _ _ hl hx
   obtain⟨L,rfl,hL⟩:=hv.cells
   exact⟨L,rfl,hL,λf h=>by cases h;exact hv⟩
theorem JQ.up{G:AX}{H:Heap}{n n' a:Nat}{fs:List (St×Fl)}(h:JQ G H n a fs)(hn:n<=n'):JQ G H n' a fs:=h.ke ⟨hn,λ_ _ _ _ h=>h⟩ rfl
theorem qp{α β:Type}(g:α->β)(l:List α){j:Nat}(h:j<l.length):(l.take (j+1)).map g=(l.take j).map g++[g l[j]]:=by
 rw[List.take_add_one,List.getElem?_eq_getElem h,List.map_append];rfl
theorem ARJ{G:AX}(hG:Qa G)(hO:oJ G){H:Heap}{n:Nat}{v:V}{BM:List Fl}(hf:Jd G H n v BM){k:KV}
 (hk0:UE BM=0->∀H' n' i,Kp H n H' n'->AO4 G H' n' n i BM->k (.Dz [.ptr i 0,.int .i64 (.ofNat 0) 0]) H' n')
 (hk1:UE BM≠0->∀H' n',Kp H n H' n'->k (.Dz [.OJ,.int .i64 (UE BM) 0]) H' n'):Runs F G mF [v] H n k:=by
 refine BL (s:=Lu (Xe lfp G)) iy (by obtain⟨h,o⟩:=wE BK G;rw[iy]at h;cases h;exact o) ?_
 show Xe lfp G (Runs F G) v H n k
 delta Xe
 simp only[hf.len,go_sem,Iu]
 unfold UE at hk0 hk1
 obtain⟨R,hR⟩:∃R,R=V9 [] BM:=⟨_,rfl⟩
 rw[<-hR]at hk0 hk1
 obtain⟨Q,hQ⟩:∃Q,Q=UR BM:=⟨_,rfl⟩
 cases AHR:decide (200<BM.length)with
 |true=>rw[AHR]at hk1;simp only[go_sem];exact hk1 (show(4:Int)≠0 by decide) _ _ (Kp.refl _ _)
 |false=>
 have AHR:=of_decide_eq_false AHR
 rw[show decide (200<BM.length)=false from decide_eq_false AHR]at hk0 hk1
 simp only[cond_false]at hk0 hk1
 simp only[go_sem,AJw,Nat.reduceAdd,show BA [V.OJ,.AC7,.AZ] [(1,1,.c (.map n))]=some (.agg [.OJ,.map n,.AZ])from rfl]
 have f1:Kp H n (T.set (T.set H n (.map [] 0)) (n+1) (one [.OJ,.map n,.AZ])) (n+1+1):=((Kp.refl H n).new (m:=n+1) _ (Nat.le_refl _) (by omega)).new _ (by omega) (by omega)
 refine BN (N:=BM.length) (J:=λj q=>∃H' n' va vn acc,∃LSf:ET,q=(v,va,.ptr (n+1) 0,v,.int .i64 (.ofNat BM.length) 0,.int .i64 (.ofNat j) 0,H',n')/\Kp H n H' n'/\n+1<n'/\T.get H' (n+1)=some (one [.OJ,.map n,vn])/\
  JQ G H' n n acc/\Own G H' (n+2) n' 1 vn (strs (KF (BM.take j)))/\Own G H' (n+2) n' 4 va LSf/\LSf.length=j/\(∀(i:Nat) (L:LV) (c:Fc),LSf[i]? =some L->(CU (BM.take j))[i]? =some c->Vs G H' n (.agg L) c)/\
  V9 acc (BM.drop j)=R/\Uu acc (BM.drop j)=Q/\(∀f∈BM.take j,Nv f=true)) ?_ ?_
  ⟨_,_,.AZ,.AZ,[],[],rfl,f1,by omega,T.Ai ..,⟨[],⟨[],0,by rw[T.Ac _ _ (by omega),T.Ai],rfl⟩,rfl,λs v c h=>by cases h⟩,⟨.nil,tY⟩,⟨.nil,tY⟩,rfl,λi L c h=>by simp at h,hR.symm,hQ.symm,λf h=>by simp at h⟩
 ·rintro I j q hlt ⟨H3,n3,va,vn,acc,LSf,rfl,f3,hn3,g3,hacc,hvn,hva,hLS,hfv,hl1,hff,hok⟩ ih
  show Pz lfp G (Runs F G) k I v va (.ptr (n+1) 0) v (.int .i64 (.ofNat BM.length) 0) (.int .i64 (.ofNat j) 0) H3 n3
  delta Pz
  obtain⟨q,vf,vm,v0,v1,v2,v3,v4,vb,mws,ws,bws,hp,hld,hfile⟩:=(hf.ke (f3.ke.low (Nat.le_refl _))).at hlt
  have htn:=qp (λf:Fl=>f.face.nm) BM hlt
  have htf:=qp (λf:Fl=>f.face) BM hlt
  have hto:=List.take_add_one (l:=BM) (i:=j)
  rw[List.getElem?_eq_getElem hlt]at hto
  rw[List.drop_eq_getElem_cons hlt]at hl1 hff
  unfold V9 at hl1
  unfold Uu at hff
  generalize BM[j]=m at hld hl1 hff hfile htn htf hto
  simp only[go_sem,Nat.reduceAdd,Bh,hlt,decide_true,hp,Bq hld]
  rw[T.set_set]
  have g4:=T.Ai H3 n3 (one [m.face.nm.v,m.face.sup.v,vf,vm,v0,v1,v2,v3,v4,vb])
  have f4:Kp H3 n3 (T.set H3 n3 (one [m.face.nm.v,m.face.sup.v,vf,vm,v0,v1,v2,v3,v4,vb])) (n3+1):=(Kp.refl _ _).new _ (Nat.le_refl _) (by omega)
  generalize T.set H3 n3 (one [m.face.nm.v,m.face.sup.v,vf,vm,v0,v1,v2,v3,v4,vb])=H4 at g4 f4
  obtain⟨L,hlook,hL,-⟩:=(hacc.ke ((f4.ke).low (by omega)) (f4.same n (by omega))).look m.face.nm
  simp only[go_sem,Nat.reduceAdd,AU (off:=1) (f4.get g3 (by omega)) (v:=.map n) rfl,AU (off:=0) g4 (v:=m.face.nm.v) rfl,hlook]
  rw[AC1 (m:=10) rfl (by omega) hL,T.set_set]
  have f5:Kp H4 (n3+1) (T.set H4 (n3+1) (one L)) (n3+1+1):=(Kp.refl _ _).new _ (Nat.le_refl _) (by omega)
  generalize T.set H4 (n3+1) (one L)=H5 at f5
  have g5:=f5.get g4 (by omega)
  have f35:=f4.trans f5
  rw[Cb (m:=10) g5 (by omega) rfl,AB]
  refine AGw hO (f:=m) ((hfile.ke ((f35.ke).low (by omega))).ke ⟨by omega,λ_ _ _ _ h=>h⟩) λH6 n6 f6=>?_
  have f36:=f35.trans f6
  have h6n:=f6.le
  have g6:=f6.get g5 (by omega)
  have gb:=f36.get g3 (by omega)
  simp only[Bl,go_sem]
  cases h1:Nv m with
  |false=>
   rw[h1]at hl1
   simp only[Bool.not_false,cond_true]at hl1
   rw[<-hl1]at hk1
   simp only[Bool.not_false,go_sem]
   exact hk1 (show(2:Int)≠0 by decide) _ _ (f3.trans f36)
  |true=>
  rw[h1]at hl1
  simp only[Bool.not_true,cond_false]at hl1
  simp only[Bool.not_true,go_sem]
  cases h2:(Cj acc m.face.nm).isSome with
  |true=>
   rw[h2]at hl1
   simp only[cond_true]at hl1
   rw[<-hl1]at hk1
   simp only[go_sem]
   exact hk1 (show(6:Int)≠0 by decide) _ _ (f3.trans f36)
  |false=>
  rw[h2]at hl1
  simp only[cond_false]at hl1
  simp only[go_sem,Nat.reduceAdd,AU (off:=1) gb (v:=.map n) rfl,AU (off:=0) g6 (v:=m.face.nm.v) rfl,Cb (m:=10) g6 (by omega) rfl]
  obtain⟨ps,hps,hkey,hval⟩:=(hacc.ke ((f36.ke).low (by omega)) (f36.same n (by omega))).is
  refine AFi hps m.face.nm _ λH7 hm7 hs7=>?_
  have f7:Kp H6 n H7 n:=⟨Nat.le_refl _,λid hid=>hs7 id (by omega)⟩
  have g7:=(hs7 n3 (by omega)).trans g6
  have gb7:=(hs7 (n+1) (by omega)).trans gb
  have hacc7:JQ G H7 n n (VZ m.face.nm m acc):=JQ.put hkey (λs v c x y=>(hval s v c x y).ke f7.ke) hm7 ⟨_,vf,vm,v0,v1,v2,v3,v4,vb,mws,ws,bws,(hfile.ke ((f36.ke).low (by omega))).ke f7.ke,rfl⟩
  simp only[go_sem,Nat.reduceAdd,AU (off:=2) gb7 (v:=vn) rfl,AU (off:=0) g7 (v:=m.face.nm.v) rfl]
  refine AM2 (G:=G) (w:=m.face.nm.v) rfl rfl λH8 f8 e8=>?_
  have f68:∀id,id<n6->id≠n->T.get H8 id=T.get H6 id:=λid h hne=>(f8.same id h).trans (hs7 id hne)
  have hvn8:Own G H8 (n+2) (n6+1) 1 vn (strs (KF (BM.take j))):=⟨hvn.gr.mono λid hid=>(f68 id (by have:=hvn.lo id hid;omega) (by have:=(hvn.gr.lo hid).1;omega)).trans (f36.same id (hvn.lo id hid)),λid hid=>by have:=hvn.lo id hid;omega⟩
  have hlenn:(KF (BM.take j)).length=j:=by simp;omega
  refine hvn8.gr.app (by omega) hvn8.lo e8 ?_ ?_ ?_
  ·rw[GZ,hlenn];simp;omega
  ·intro vn' H9 gr9 hs9 hlo9
   have hvns:∀id,vn.X4=some id->n+2<=id:=λid hid=>(hvn.gr.lo hid).1
   have gb9:T.get H9 (n+1)=some (one [.OJ,.map n,vn]):=(hs9 (n+1) (by omega) (λh=>by have:=hvns _ h;omega)).trans ((f8.same (n+1) (by omega)).trans gb7)
   obtain⟨hok9,hvc9⟩:=Gr.ok gr9
   rw[AAn (m:=1) gb9 hok9 (by rw[hvc9];rfl) (by omega) (by show 2+1<=3;omega),hvc9]
   rw[show List.take 2 [V.OJ,.map n,vn]++([vn']++List.drop (2+1) [V.OJ,.map n,vn])=[.OJ,.map n,vn']from rfl]
   have g9:T.get H9 n3=_:=(hs9 n3 (by omega) (λh=>by have:=hvn.lo _ h;omega)).trans ((f8.same n3 (by omega)).trans g7)
   have hs10:∀id,id≠n+1->T.get (T.set H9 (n+1) (one [.OJ,.map n,vn'])) id=T.get H9 id:=λid h=>T.Ac _ _ (Ne.symm h)
   have gb10:=T.Ai H9 (n+1) (one [.OJ,.map n,vn'])
   generalize T.set H9 (n+1) (one [.OJ,.map n,vn'])=H10 at hs10 gb10
   have g10:T.get H10 n3=_:=(hs10 n3 (by omega)).trans g9
   rw[show Ae 4 (.ptr n3 0) G H10=some (.agg [m.face.nm.v,m.face.sup.v,vf,vm])from Hy g10 (by omega) (by show 4<=10;omega),AB]
   rw[yQ (z:=4) (L:=[m.face.nm.v,m.face.sup.v,vf,vm]) rfl]
   have f11:Kp H10 (n6+1+1) (T.set H10 (n6+1+1) (.arr 4 1 (T.set (T.set .e 0 [.str 0 0,.str 0 0,.AZ,.AZ]) 0 [m.face.nm.v,m.face.sup.v,vf,vm]))) (n6+1+1+1):=(Kp.refl _ _).new _ (Nat.le_refl _) (by omega)
   have e11:=jA (G:=G) (z:=4) (by omega) rfl (T.Ai H10 (n6+1+1) (.arr 4 1 (T.set (T.set .e 0 [.str 0 0,.str 0 0,.AZ,.AZ]) 0 [m.face.nm.v,m.face.sup.v,vf,vm])))
   generalize T.set H10 (n6+1+1) (.arr 4 1 (T.set (T.set .e 0 [.str 0 0,.str 0 0,.AZ,.AZ]) 0 [m.face.nm.v,m.face.sup.v,vf,vm]))=H11 at f11 e11
   have keep:∀id,id<n3->id≠n->id≠n+1->vn.X4≠some id->T.get H11 id=T.get H3 id:=λid a b c d=>
    (f11.same id (by omega)).trans ((hs10 id c).trans ((hs9 id (by omega) d).trans ((f68 id (by omega) b).trans (f36.same id a))))
   have hvas:∀id,va.X4=some id->vn.X4≠some id:=λid hid hid2=>by
    obtain⟨_,c,t,e1⟩:=hva.gr.lo hid
    obtain⟨_,c',t',e2⟩:=hvn.gr.lo hid2
    rw[e1]at e2;cases e2
   have hva11:Own G H11 (n+2) (n6+1+1+1) 4 va LSf:=⟨hva.gr.mono λid hid=>keep id (hva.lo id hid) (by have:=(hva.gr.lo hid).1;omega) (by have:=(hva.gr.lo hid).1;omega) (hvas id hid),λid hid=>by have:=hva.lo id hid;omega⟩
   refine hva11.gr.app (by omega) hva11.lo e11.2 ?_ ?_ ?_
   ·rw[hLS];simp;omega
   ·intro va' H12 gr12 hs12 hlo12
    simp only[go_sem,DJ (show j+1<9223372036854775808 by omega)]
    have hvas2:∀id,va.X4=some id->n+2<=id:=λid hid=>(hva.gr.lo hid).1
    have k12:∀id,id<n->T.get H12 id=T.get H3 id:=λid hid=>(hs12 id (by omega) (λh=>by have:=hvas2 _ h;omega)).trans (keep id (by omega) (by omega) (by omega) (λh=>by have:=hvns _ h;omega))
    have k3:Kp H3 n H12 n:=⟨Nat.le_refl _,k12⟩
    have k7:Kp H7 n H12 n:=⟨Nat.le_refl _,λid hid=>by rw[k12 id hid,hs7 id (by omega)];exact(f36.same id (by omega)).symm⟩
    have hn12:T.get H12 n=T.get H7 n:=(hs12 n (by omega) (λh=>by have:=hvas2 _ h;omega)).trans ((f11.same n (by omega)).trans ((hs10 n (by omega)).trans ((hs9 n (by omega) (λh=>by have:=hvns _ h;omega)).trans (f8.same n (by omega)))))
    refine ih _ ⟨H12,_,va',vn',VZ m.face.nm m acc,LSf++[[m.face.nm.v,m.face.sup.v,vf,vm]],rfl,⟨by omega,λid hid=>(k12 id hid).trans (f3.same id hid)⟩,by omega,?_,hacc7.ke k7.ke hn12,?_,⟨gr12,hlo12⟩,by simp[hLS],?_,hl1,hff,?_⟩
    ·exact(hs12 (n+1) (by omega) (λh=>by have:=hvas2 _ h;omega)).trans ((f11.same (n+1) (by omega)).trans gb10)
    ·refine⟨?_,λid hid=>by have:=hlo9 id hid;omega⟩
     rw[show KF (BM.take (j+1))=KF (BM.take j)++[m.face.nm]from htn,strs,List.map_append]
     refine gr9.mono λid hid=>?_
     have h9:=hlo9 id hid
     have hlo:n+2<=id:=(gr9.lo hid).1
     refine(hs12 id (by omega) λh=>?_).trans ((f11.same id (by omega)).trans (hs10 id (by omega)))
     obtain⟨_,c,t,e1⟩:=gr9.lo hid
     obtain⟨_,c',t',e2⟩:=hva11.gr.lo h
     rw[f11.same id (by omega),hs10 id (by omega),e1]at e2;cases e2
    ·intro i L c hi hc
     rw[show CU (BM.take (j+1))=CU (BM.take j)++[m.face]from htf]at hc
     have hlf:(CU (BM.take j)).length=j:=by simp;omega
     by_cases hij:i<j
     ·rw[List.getElem?_append_left (by omega)]at hi hc
      exact(hfv i L c hi hc).ke k3.ke
     ·rw[List.getElem?_append_right (by omega)]at hi hc
      have:i=j:=by have:=(List.getElem?_eq_some_iff.1 hi).1;simp at this;omega
      subst this
      rw[hLS,Nat.sub_self]at hi
      rw[hlf,Nat.sub_self]at hc
      simp at hi hc
      subst hi;subst hc
      exact⟨vf,vm,mws,hfile.face.ke k3.ke,rfl⟩
    ·intro f hf'
     rw[hto]at hf'
     rcases List.mem_append.1 hf' with h|h
     ·exact hok f h
     ·simp at h;subst h;exact h1
   ·intro h;cases h
  ·intro h;cases h
 ·rintro I q ⟨H3,n3,va,vn,acc,LSf,rfl,f3,hn3,g3,hacc,hvn,hva,hLS,hfv,hl1,hff,hok⟩
  show Pz lfp G (Runs F G) k I v va (.ptr (n+1) 0) v (.int .i64 (.ofNat BM.length) 0) (.int .i64 (.ofNat BM.length) 0) H3 n3
  delta Pz
  rw[List.drop_eq_nil_of_le (Nat.le_refl _)]at hl1 hff
  rw[List.take_of_length_le (Nat.le_refl _)]at hvn hfv hok
  have hff:acc=UR BM:=Eq.trans hff hQ
  subst hff
  have hl1:(0:Int)=R:=hl1
  rw[<-hl1]at hk0 hk1
  simp only[go_sem,Bh,Nat.lt_irrefl,decide_false]
  delta Y4
  refine ATu (m:=n) (cs:=CU BM) ⟨⟨LSf,hva.el (by omega),by simp[hLS],hfv⟩,hva.lo,by simp;omega,by omega⟩ λH4 n4 t a b f4 gt hfa hseen ha hab hbt htn=>?_
  have gb:=f4.get g3 (by omega)
  have h4n:=f4.le
  simp only[go_sem,Nat.reduceAdd]
  rw[AAn (m:=1) gb rfl rfl (by omega) (by show 0+1<=3;omega)]
  rw[show List.take 0 [V.OJ,.map n,vn]++(Au (.ptr t 0)++List.drop (0+1) [V.OJ,.map n,vn])=[.ptr t 0,.map n,vn]from rfl]
  have hs5:∀id,id≠n+1->T.get (T.set H4 (n+1) (one [.ptr t 0,.map n,vn])) id=T.get H4 id:=λid h=>T.Ac _ _ (Ne.symm h)
  have gb5:=T.Ai H4 (n+1) (one [.ptr t 0,.map n,vn])
  generalize T.set H4 (n+1) (one [.ptr t 0,.map n,vn])=H5 at hs5 gb5
  have k5:∀id,id<n->T.get H5 id=T.get H id:=λid hid=>(hs5 id (by omega)).trans ((f4.same id (by omega)).trans (f3.same id hid))
  have f5:Kp H n H5 n4:=⟨by omega,k5⟩
  have hfacc:∀s c,Cj (Fz (CU BM)) s=some c->∃f∈BM,f.face=c:=λs c h=>by
   have:=ADf h
   obtain⟨f,h1,h2⟩:=List.mem_map.1 this
   exact⟨f,h1,h2⟩
  have htlen:=mD (CU BM) []
  have hps:∀s c,Cj (Fz (CU BM)) s=some c->∀m∈c.ms,m.ps.length<=100000:=λs c h m hm=>by
   obtain⟨f,hf1,rfl⟩:=hfacc s c h
   have h1:=hok f hf1
   unfold Nv at h1
   rw[Bool.and_eq_true]at h1
   have:=rP h1.1 m hm
   omega
  have hk0:link2 (Fz (CU BM)) BM=0->∀H' n' i,Kp H n H' n'->AO4 G H' n' n i BM->k (.Dz [.ptr i 0,.int .i64 (.ofNat 0) 0]) H' n':=hk0
  have hk1:link2 (Fz (CU BM)) BM≠0->∀H' n',Kp H n H' n'->k (.Dz [.OJ,.int .i64 (link2 (Fz (CU BM)) BM) 0]) H' n':=hk1
  obtain⟨ps,hps1,hkey,hval⟩:=hfa.is
  have k45:Kp H4 n H5 n:=⟨Nat.le_refl _,λid hid=>hs5 id (by omega)⟩
  have htab5:TabAt G H5 n4 t a b (Fz (CU BM)):=⟨by omega,by omega,by omega,by omega,by omega,(hs5 t (by omega)).trans gt,⟨ps,iK hps1 (hs5 a (by omega)),hkey,λs v c x y=>((hval s v c x y).ke k45.ke).up (by omega)⟩,hseen.same (hs5 b (by omega))⟩
  have himg:UJ G H5 n4 (n+1) t a b n vn (Fz (CU BM)):=⟨by omega,by omega,gb5,htab5⟩
  have hfv5:Jd G H5 n4 v BM:=(hf.ke (f5.ke))
  have hvn5:Own G H5 (n+2) n4 1 vn (strs (KF BM)):=⟨hvn.gr.mono λid hid=>(hs5 id (by have:=(hvn.gr.lo hid).1;omega)).trans (f4.same id (hvn.lo id hid)),λid hid=>by have:=hvn.lo id hid;omega⟩
  have hacc5:JQ G H5 n n (UR BM):=hacc.ke (H':=H5) (n':=n) ((Kp.ke (n':=n) ⟨Nat.le_refl _,λid hid=>(hs5 id (by omega)).trans (f4.same id (by omega))⟩)) ((hs5 n (by omega)).trans (f4.same n (by omega)))
  have kpf:∀H' n',Kb b H5 n4 H' n'->Kp H n H' n':=λH' n' f=>⟨by have:=f.le;omega,λid hid=>by
   have h1:id<n4:=by omega
   have h2:id≠b:=by omega
   exact(f.same id h1 h2).trans (k5 id hid)⟩
  simp only[go_sem,hf.len]
  refine AKJ hG (by simp at htlen;unfold Fz;omega) hps himg hfv5 (λh0 H' n' f=>?_) (λh0 H' n' f=>hk1 h0 _ _ (kpf _ _ f))
  have hfn:=f.le
  have hvn6:Own G H' (n+2) n' 1 vn (strs (KF BM)):=⟨hvn5.gr.mono λid hid=>f.same id (by have:=hvn.lo id hid;omega) (by have:=hvn.lo id hid;omega),λid hid=>by have:=hvn.lo id hid;omega⟩
  refine hk0 h0 _ _ _ (kpf _ _ f) ⟨t,a,b,n,vn,himg.kb f,?_,by omega,by omega,hvn6.el (by omega),hvn6.lo,by omega,by omega,by omega,by omega,by omega⟩
  refine(hacc5.ke ((f.ke (hseen.same (hs5 b (by omega)))).low (by omega)) (f.same n (by omega) (by omega))).up (by omega)
def small(fs:Tab):Prop:=∀s c,Cj fs s=some c->c.fs.length<=200
theorem eq_i(x y:Int):Cc (.one .int) false (.int .i64 x 0) (.int .i64 y 0)=some (.bool (x==y)):=by
 have h:=ALt x y
 show ofB (Qu (some (ieq x y)) λb=>some b)=_
 rw[VY]
 cases h2:decide (x=y)with
 |true=>have:=of_decide_eq_true h2;subst this;simp[Qu,ofB]
 |false=>
  have:=of_decide_eq_false h2
  have:(x==y)=false:=by simpa using this
  rw[this];rfl
theorem ARx{z:Nat}{Z:LV}{H:Heap}{n:Nat}{P:KV}:Bg (Aw z 0 Z [] E0) H n P=P (.sl n 0 0 0 z) (T.set H n (.arr z 0 .e)) (n+1):=by
 show NC (band true true) (DT n λn=>P (.sl n 0 0 0 z) (T.set H n (.arr z 0 .e)) (Nat.succ n))=_
 rw[BO];rfl
structure Img where
 i:Nat
 t:Nat
 a:Nat
 b:Nat
 f:Nat
 v:V
abbrev Img.At(G:AX)(H:Heap)(n:Nat)(x:Img)(fs:Tab):Prop:=UJ G H n x.i x.t x.a x.b x.f x.v fs
theorem AOJ{G:AX}{H:Heap}{n i t a b fm:Nat}{vn:V}{fs:Tab}{ss:List St}(h:UJ G H n i t a b fm vn fs)(hn:El G H vn 1 (strs ss))(hs:ss.length<=1000){k:KV}
 (hk:∀v H' n',Kp H n H' n'->El G H' v 1 (strs ss)->Lo v n'->k v H' n'):Runs F G ZT [.ptr i 0] H n k:=by
 refine BL (s:=Lu (Ko lfp G)) TU (by obtain⟨h,o⟩:=YR BK G;rw[TU]at h;cases h;exact o) ?_
 show Ko lfp G (Runs F G) (.ptr i 0) H n k
 delta Ko
 simp only[AJ3,go_sem,Nat.reduceAdd,AU (off:=2) h.at' (v:=vn) rfl]
 refine(Gr.nil (G:=G) (H:=H) (m:=n) (z:=1)).app (Nat.le_refl _) (λid h=>by cases h) hn.2 (by rw[GZ];simp;omega) ?_ ?_
 ·intro v' H' hg hsame hlo
  exact hk _ _ _ ⟨by omega,λid hid=>hsame id hid (λh=>by cases h)⟩ (hg.el (by omega)) hlo
 ·intro e
  have:ss=[]:=by simpa[strs]using e
  subst this
  exact hk _ _ _ (Kp.refl _ _) ⟨rfl,rfl⟩ tY
theorem JQ.ATU{G:AX}{H:Heap}{n a:Nat}{fs:List (St×Fl)}(h:JQ G H n a fs)(s:St):∃L:LV,ACY .str true (.agg ADn) (.map a) s.v H=some (.Dz [.agg L,.bool (Cj fs s).isSome])/\L.length=10/\
 (∀f,Cj fs s=some f->Vq G H n (.agg L) f)/\(Cj fs s=none->L=ADn):=by
 obtain⟨ps,h1,h2,h3⟩:=h.is
 have hs:=eU h2 s
 rw[show s.v=.str s.1 s.2 from rfl,AB4 h1]
 cases hl:Cj ps s with
 |none=>
  rw[hl]at hs
  cases hx:Cj fs s with
  |none=>exact⟨ADn,rfl,rfl,λf h=>(by cases h),λ_=>rfl⟩
  |some x=>rw[hx]at hs;cases hs
 |some v=>
  rw[hl]at hs
  cases hx:Cj fs s with
  |none=>rw[hx]at hs;cases hs
  |some x=>
   have hv:=h3 _ _ _ hl hx
   obtain⟨L,rfl,hL⟩:=hv.cells
   exact⟨L,rfl,hL,λf h=>(by cases h;exact hv),λh=>by cases h⟩
theorem ASf{G:AX}{H:Heap}{n n0 i t a b fm:Nat}{vn:V}{fs:Tab}{ff:List (St×Fl)}(h:UJ G H n i t a b fm vn fs)(hf:JQ G H n0 fm ff)(hn:n0<=n)(hfm:fm<n){s:St}{k:KV}
 (hk:∀H' n' L,Kp H n H' n'->L.length=10->(∀f,Cj ff s=some f->Vq G H' n0 (.agg L) f)->(Cj ff s=none->L=ADn)->k (.Dz [.agg L,.bool (Cj ff s).isSome]) H' n'):Runs F G au [.ptr i 0,s.v] H n k:=by
 refine BL (s:=TY (Lp lfp G)) Ub (by obtain⟨h,o⟩:=Zz BK G;rw[Ub]at h;cases h;exact o) ?_
 show Lp lfp G (Runs F G) (.ptr i 0) s.v H n k
 delta Lp
 refine BU rfl λH1 f1 g1=>?_
 have h1:=h.kb (f1.kb h.tab.bn)
 obtain⟨L,hlook,hL,hsome,hnone⟩:=(hf.ke ((f1.ke).low hn) (f1.same fm hfm)).ATU s
 simp only[AJ3,go_sem,Nat.reduceAdd,AU (off:=1) h1.at' (v:=.map fm) rfl,hlook]
 rw[AC1 (m:=10) rfl (by omega) hL,T.set_set]
 have f2:Kp H1 (n+1) (T.set H1 (n+1) (one L)) (n+1+1):=(Kp.refl _ _).new _ (Nat.le_refl _) (by omega)
 have g2:=T.Ai H1 (n+1) (one L)
 generalize T.set H1 (n+1) (one L)=H2 at f2 g2
 rw[Cb (m:=10) g2 (by omega) hL,AB,Gn (m:=10) (f2.get g1 (by omega)) (by omega) rfl hL,Eh (m:=10) (T.Ai ..) (by omega) hL]
 simp only[go_sem]
 have f3:Kp H n (T.set H2 n (one L)) (n+1+1):=(f1.trans f2).set _ (Nat.le_refl _)
 refine hk _ _ _ f3 hL (λf hf=>(hsome f hf).ke ?_) hnone
 exact(Kp.ke (n:=n0) (n':=n0) ⟨Nat.le_refl _,λid hid=>(T.Ac _ _ (by omega)).trans (f2.same id (by omega))⟩)
end Go.RL
